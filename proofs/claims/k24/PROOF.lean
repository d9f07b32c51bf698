import PyProof.Rows.All
import Wide.All
import OpenK.AllK
import Wide.FinOn
import PySem.Challenge.RW_judgedranks_k24_whole_judges
import HandS.ForMost
import HandS.ForExc
import KE.SortData
import KE.DataMinMax
import HandS.Text
import HandS.TryMany
import HandS.Zip
import HandS.TupAny
import HandS.TupMul
import HandS.Deep
import HandS.IsInst
import HandS.Style
import HandS.Wide
import HandS.Flow
import KE.KDictKeyed
import PyProof.StrBlock2
import PyProof.SumAny
import HandS.SetFor
import HandS.SetKeys
import PyProof.Rows.SetFrom
import HandS.TupSets
import HandS.Strs
import PyProof.SeqIndex
import PyProof.P3Eq
import HandS.SortInts
import KE.GoesMore
import KE.GoesEnum
import KE.KDictZip
import KE.KDictList
import PyProof.TupleOfStr
import HandS.Head0
import HandS.Head1
import HandS.Head2
import HandS.HeadEnd
import HandS.HeadHook1
import HandS.HeadHook2
import HandS.HeadHook4
import HandS.HeadNt
set_option linter.all false
namespace Jr
/-- the keys that were met, each once -/
def met {κ : Type} [DecidableEq κ] (l : List κ) : List κ := l.foldl (fun a z => if z ∈ a then a else a ++ [z]) []
end Jr

set_option Elab.async false
set_option linter.all false
set_option maxRecDepth 100000
/-! Jr: position-free code and its pure meaning. -/
namespace Jr
open PySem
/-- data -/
inductive D where
  | none
  | bool (b : Bool)
  | int (i : Int)
  | str (x : Str)
  | list (xs : List D)
  | tuple (xs : List D)
mutual
def toP : D → PyData
  | .none => .none
  | .bool b => .bool b
  | .int i => .int i
  | .str x => .str x
  | .list xs => .list (toPs xs)
  | .tuple xs => .tuple (toPs xs)
def toPs : List D → List PyData
  | [] => []
  | x :: xs => toP x :: toPs xs
end
mutual
/-- Python's == -/
def eqv : D → D → Bool
  | .none, .none => true
  | .bool a, .bool b => a == b
  | .bool a, .int j => (if a then 1 else 0) == j
  | .int i, .bool b => i == (if b then 1 else 0)
  | .int i, .int j => i == j
  | .str x, .str y => x == y
  | .list xs, .list ys => eqvs xs ys
  | .tuple xs, .tuple ys => eqvs xs ys
  | _, _ => false
def eqvs : List D → List D → Bool
  | [], [] => true
  | x :: xs, y :: ys => eqv x y && eqvs xs ys
  | _, _ => false
end
mutual
def dep : D → Nat
  | .list xs => deps xs + 1
  | .tuple xs => deps xs + 1
  | _ => 0
def deps : List D → Nat
  | [] => 0
  | x :: xs => max (dep x) (deps xs)
end
def okS (x : Str) : Bool := x.cps.all (· < 0x110000)
/-- a value: data, a mutable cell, a dict that nobody changes -/
inductive Vl where
  | d (x : D)
  | r (n : Nat)
  | k (t : Bool) (kvs : List (D × D))
inductive Cell where
  | dead
  | ro (xs : List D)
  | lst (xs : List D)
  | dct (t : Bool) (kvs : List (D × D))
abbrev Hh := List Cell
inductive R (α : Type) where
  | ok (a : α)
  | exc (c : Nat)
abbrev M (α : Type) := Hh → Option (R α × Hh)
variable {α β : Type}
def M.pure (a : α) : M α := fun h => some (.ok a, h)
def M.bind (x : M α) (f : α → M β) : M β := fun h => match x h with
  | none => none
  | some (.exc c, h1) => some (.exc c, h1)
  | some (.ok a, h1) => f a h1
instance : Monad M := { pure := M.pure, bind := M.bind }
def fail : M α := fun _ => none
def raise (c : Nat) : M α := fun h => some (.exc c, h)
def ofO : Option α → M α
  | some a => M.pure a
  | none => fail
abbrev Env := List (Option Vl)

/-! ### values -/
def asB : D → Option Bool
  | .bool b => some b
  | _ => none
def asI : D → Option Int
  | .int i => some i
  | _ => none
def asS : D → Option Str
  | .str x => some x
  | _ => none
def asSeq : D → Option (List D)
  | .list xs => some xs
  | .tuple xs => some xs
  | _ => none
def asL : D → Option (List D)
  | .list xs => some xs
  | _ => none
def asT : D → Option (List D)
  | .tuple xs => some xs
  | _ => none
def b2 (b : Bool) : Int := if b then 1 else 0
/-- a cell as it reads now -/
def rdC : Cell → Option D
  | .dead => none
  | .ro xs => some (.list xs)
  | .lst xs => some (.list xs)
  | .dct _ _ => none
def rd : Vl → M D
  | .d x => fun h => some (.ok x, h)
  | .r n => fun h => (h[n]?.bind rdC).map fun x => (.ok x, h)
  | .k _ _ => fail
def truth : D → Option Bool
  | .none => some false
  | .bool b => some b
  | .int i => some (i != 0)
  | .str x => if x.length ≤ sizeLine then some (x.length != 0) else none
  | .list xs => some !xs.isEmpty
  | .tuple xs => some !xs.isEmpty

inductive BOp where
  | add | sub | mul | fdiv | mod
  deriving DecidableEq
inductive COp where
  | eq | ne | lt | le | gt | ge | in_ | notIn | is | isNot
  deriving DecidableEq
inductive Ty where
  | int | bool | str | tuple | list
  deriving DecidableEq
inductive Blt where
  | len | abs | max1 | max2 | min1 | min2 | sum | all | any | int | str
  deriving DecidableEq

def addV : D → D → Option D
  | .int a, .int b => some (.int (a + b))
  | .bool a, .int b => some (.int (b2 a + b))
  | .int a, .bool b => some (.int (a + b2 b))
  | .str a, .str b => if a.length + b.length ≤ sizeLine then some (.str (a ++ b)) else none
  | .tuple a, .tuple b => if a.length + b.length ≤ sizeLine then some (.tuple (a ++ b)) else none
  | _, _ => none
def subV : D → D → Option D
  | .int a, .int b => some (.int (a - b))
  | .bool a, .int b => some (.int (b2 a - b))
  | _, _ => none
def reps (xs : List D) (k : Int) : List D := (List.replicate k.toNat xs).flatten
def mulV : D → D → Option D
  | .int a, .int b => if a.natAbs.log2 + b.natAbs.log2 < 1000000 then some (.int (a * b)) else none
  | .tuple a, .int k => if 0 ≤ k ∧ k ≤ 1000 ∧ a.length ≤ 1000 then some (.tuple (reps a k)) else none
  | .str a, .int k => if a.length ≤ 1000 then (if k = 0 then some (.str Str.empty) else if k = 1 then some (.str a) else none) else none
  | _, _ => none
def fdivV : D → D → Option D
  | .int a, .int b => if 0 < b ∧ b.natAbs.log2 < 9000 then some (.int (a / b)) else none
  | _, _ => none
def modV : D → D → Option D
  | .int a, .int b => if 0 < b then some (.int (a % b)) else none
  | _, _ => none
def binV : BOp → D → D → Option D
  | .add => addV
  | .sub => subV
  | .mul => mulV
  | .fdiv => fdivV
  | .mod => modV
def repL (a : List D) : D → Option (List D)
  | .int k => if -(2 ^ 63) ≤ k ∧ k < 2 ^ 63 ∧ a.length * k.toNat ≤ sizeLine then some (reps a k) else none
  | _ => none
def negV : D → Option D
  | .int a => some (.int (-a))
  | _ => none
def ltV : D → D → Option Bool
  | .int a, .int b => some (decide (a < b))
  | .str a, .str b => some (decide (a.cps.toList < b.cps.toList))
  | _, _ => none
def leV : D → D → Option Bool
  | .int a, .int b => some (decide (a ≤ b))
  | .str a, .str b => some (!decide (b.cps.toList < a.cps.toList))
  | _, _ => none
def eqV (x y : D) : Option Bool := if min (dep x) (dep y) ≤ 60 then some (eqv x y) else none
def inV (x : D) : D → Option Bool
  | .list ys => if min (deps ys) (dep x) ≤ 60 then some (ys.any fun z => eqv z x) else none
  | .tuple ys => if min (deps ys) (dep x) ≤ 60 then some (ys.any fun z => eqv z x) else none
  | _ => none
def isNone : D → Bool
  | .none => true
  | _ => false
def cmpV : COp → D → D → Option Bool
  | .eq, x, y => eqV x y
  | .ne, x, y => (eqV x y).map (!·)
  | .lt, x, y => ltV x y
  | .le, x, y => leV x y
  | .gt, x, y => ltV y x
  | .ge, x, y => leV y x
  | .in_, x, y => inV x y
  | .notIn, x, y => (inV x y).map (!·)
  | .is, x, .none => some (isNone x)
  | .isNot, x, .none => some (!isNone x)
  | _, _, _ => none
/-- the place that an index of any sign means -/
def ixN (n : Nat) (i : Int) : Option Nat := L2.ixN n i
def ixV : D → D → Option D
  | .list xs, .int i => (ixN xs.length i).bind fun j => xs[j]?
  | .tuple xs, .int i => (ixN xs.length i).bind fun j => xs[j]?
  | .str z, .int i => if z.length ≤ sizeLine then (ixN z.cps.toList.length i).bind fun j => (z.cps.toList[j]?).map fun c => .str ⟨#[c]⟩ else none
  | _, _ => none
def sIx (n d : Nat) (o : Option Int) : Nat := HT.sIx n d o
def cut (xs : List α) (lo hi : Option Int) : List α := (xs.drop (sIx xs.length 0 lo)).take (sIx xs.length xs.length hi - sIx xs.length 0 lo)
def sliceV : D → Option Int → Option Int → Option D
  | .tuple xs, lo, hi => some (.tuple (cut xs lo hi))
  | .str z, lo, hi => if z.length ≤ sizeLine then some (.str (L2.cutS z lo hi)) else none
  | _, _, _ => none
def sliceL : D → Option Int → Option Int → Option (List D)
  | .list xs, lo, hi => some (cut xs lo hi)
  | _, _, _ => none
def isTy : D → Ty → Bool
  | .int _, .int => true
  | .bool _, .int => true
  | .bool _, .bool => true
  | .str _, .str => true
  | .tuple _, .tuple => true
  | .list _, .list => true
  | _, _ => false
def allI : List D → Option (List Int)
  | [] => some []
  | x :: xs => (asI x).bind fun i => (allI xs).map (i :: ·)
def allB : List D → Option (List Bool)
  | [] => some []
  | x :: xs => (asB x).bind fun i => (allB xs).map (i :: ·)
def maxL : Int → List Int → Int
  | a, [] => a
  | a, b :: r => maxL (if a < b then b else a) r
def minL : Int → List Int → Int
  | a, [] => a
  | a, b :: r => minL (if b < a then b else a) r
def bltV : Blt → List D → Option D
  | .len, [.list xs] => some (.int xs.length)
  | .len, [.tuple xs] => some (.int xs.length)
  | .len, [.str x] => if x.length ≤ sizeLine then some (.int x.length) else none
  | .abs, [.int i] => some (.int (if i < 0 then -i else i))
  | .max1, [.list xs] => (allI xs).bind fun
    | [] => none
    | a :: r => some (.int (maxL a r))
  | .min1, [.list xs] => (allI xs).bind fun
    | [] => none
    | a :: r => some (.int (minL a r))
  | .max2, [.int i, .int j] => some (.int (if j > i then j else i))
  | .min2, [.int i, .int j] => some (.int (if j < i then j else i))
  | .sum, [.list xs] => (allI xs).map fun l => .int l.sum
  | .sum, [.tuple xs] => (allI xs).map fun l => .int l.sum
  | .all, [.list xs] => (allB xs).map fun l => .bool (l.all id)
  | .any, [.list xs] => (allB xs).map fun l => .bool (l.any id)
  | .int, [.int i] => some (.int i)
  | .int, [.bool b] => some (.int (b2 b))
  | .str, [.bool b] => some (.str (if b then "True" else "False"))
  | .str, [.int i] => if i.natAbs.log2 < 1920 then some (.str (toString i : String)) else none
  | _, _ => none

def allS : List D → Option (List Str)
  | [] => some []
  | x :: xs => (asS x).bind fun i => (allS xs).map (i :: ·)
def sLe (x y : Str) : Bool := !decide (y.cps.toList < x.cps.toList)
/-- all of one kind, so that < holds between any two -/
def alikeB (xs : List D) : Bool := xs.all fun x => xs.all fun y => PySem.W.alike (toP x) (toP y)
def tupNE : D → Bool
  | .tuple (_ :: _) => true
  | _ => false
def leD (a b : D) : Bool := PySem.W.dataLe false toP a b
def ltD (a b : D) : Bool := PySem.W.dataLt (toP a) (toP b)
def sortT (xs : List D) : Option (List D) := if xs.length ≤ 1000 ∧ alikeB xs = true ∧ xs.all tupNE = true ∧ deps xs ≤ 60 then some (xs.mergeSort leD) else none
def sortV (xs : List D) : Option (List D) := match allI xs with
  | some l => some ((l.mergeSort fun a b => decide (a ≤ b)).map .int)
  | none => match allS xs with
    | some l => if l.length < 64 then some ((l.mergeSort sLe).map .str) else none
    | none => sortT xs
/-- the first of the least -/
def minTV : List D → Option D
  | [] => none
  | x :: xs => if (x :: xs).length ≤ 1000 ∧ alikeB (x :: xs) = true ∧ (x :: xs).all tupNE = true ∧ deps (x :: xs) ≤ 60 then some (xs.foldl (fun a y => if ltD y a then y else a) x) else none
def lnSV : D → Option D
  | .tuple xs => (allS xs).bind fun l => if l.length < 1000 then some (.int ((met l).length : Nat)) else none
  | .list xs => (allI xs).bind fun l => if l.length < 1000 then some (.int ((met l).length : Nat)) else none
  | _ => none
/-- keys that are tuples of ints and None -/
def nkI : D → Option (Option Int)
  | .none => some none
  | .int i => some (some i)
  | _ => none
def nkAll : List D → Option (List (Option Int))
  | [] => some []
  | x :: xs => (nkI x).bind fun i => (nkAll xs).map (i :: ·)
def nkOfD : D → Option (List (Option Int))
  | .tuple xs => nkAll xs
  | _ => none
/-- sorted(set(xs)), texts or tuples of ints -/
def srtSV : D → Option (List D)
  | .tuple xs => (allS xs).bind fun l => if l.length < 64 then some (((met l).mergeSort sLe).map .str) else none
  | _ => none
/-- how often, and where first -/
def cntV (xs : List D) : D → Option D
  | .int i => (nkAll xs).map fun l => .int (l.count (some i) : Nat)
  | _ => none
def idxV (xs : List D) (y : D) : Option D := if min (deps xs) (dep y) ≤ 60 ∧ xs.length ≤ 1000 then (xs.findIdx? fun z => eqv z y).map fun (j : Nat) => .int (j : Int) else none
/-! ### dicts -/
def asKey : D → Option (Int ⊕ Str)
  | .int i => some (.inl i)
  | .str x => some (.inr x)
  | _ => none
def keyOk (t : Bool) (k : D) : Bool := if t then (nkOfD k).isSome else (asKey k).isSome
def getK (kvs : List (D × D)) (k : D) : Option D := (kvs.find? fun p => eqv p.1 k).map (·.2)
def putK (kvs : List (D × D)) (k v : D) : List (D × D) := if kvs.any (fun p => eqv p.1 k) then kvs.map (fun p => if eqv p.1 k then (p.1, v) else p) else kvs ++ [(k, v)]
def mergeK (ps : List (D × D)) : List (D × D) := ps.foldl (fun a p => putK a p.1 p.2) []
def pair2 : D → Option (D × D)
  | .tuple [k, v] => some (k, v)
  | _ => none
def allP : List D → Option (List (D × D))
  | [] => some []
  | x :: xs => (pair2 x).bind fun i => (allP xs).map (i :: ·)
/-- dict(zip(a, b)) of tuples -/
def dzipV : D → D → Option (List (D × D))
  | .tuple a, .tuple b => if a.length ≤ 1000 ∧ b.length ≤ 1000 ∧ a.all (fun k => (asKey k).isSome) = true then some (mergeK (a.zip b)) else none
  | _, _ => none
def dprsV : D → Option (List (D × D))
  | .list xs => (allP xs).bind fun ps => if ps.length ≤ 1000 ∧ ps.all (fun p => (asKey p.1).isSome) = true then some (mergeK ps) else none
  | _ => none
def dmrg (t : Bool) (ps : List (D × D)) : Option (List (D × D)) := if ps.length ≤ 1000 ∧ ps.all (fun p => keyOk t p.1) = true then some (mergeK ps) else none
def dminV (kvs : List (D × D)) : Option D := (allI (kvs.map (·.2))).bind fun
  | [] => none
  | a :: r => some (.int (minL a r))
/-! ### texts -/
def joinV : D → D → Option D
  | .str a, .list xs => (allS xs).bind fun l => if l.length ≤ 1000 ∧ a.length ≤ 1000 ∧ l.all (fun z => decide (z.length ≤ 1000)) = true then some (.str (Txt.join a l)) else none
  | .str a, .tuple xs => (allS xs).bind fun l => if l.length ≤ 1000 ∧ a.length ≤ 1000 ∧ l.all (fun z => decide (z.length ≤ 1000)) = true then some (.str (Txt.join a l)) else none
  | _, _ => none
def splV : D → D → Option (List D)
  | .str a, .str b => if b.length ≠ 0 ∧ a.length + 2 ≤ sizeLine then some ((Txt.split a b).map .str) else none
  | _, _ => none
def charsV : D → Option (List D)
  | .str z => if z.cps.size ≤ 1000 then some (z.cps.toList.map fun c => .str ⟨#[c]⟩) else none
  | _ => none

/-! ### code -/
inductive Tg where
  | nm (i : Nat)
  | tp (is : List Nat)
  | tn (is js : List Nat)
mutual
inductive E where
  | var (i : Nat)
  | non | bl (b : Bool) | int (i : Int) | str (x : Str)
  | tup (es : Es)
  | op (o : BOp) (a b : E)
  | neg (a : E) | nt (a : E)
  | and (es : Es) | or (es : Es)
  | cmp (o : COp) (a b : E)
  | chn (o o' : COp) (a b c : E)
  | ite (c a b : E)
  | ix (a b : E)
  | slT (a hi : E) | slF (a lo : E) | slA (a lo hi : E) | rev (a : E)
  | call (f : Nat) (es : Es)
  | blt (f : Blt) (es : Es)
  | isi (a : E) (t : Ty)
  | toT (a : E)
  | app (o a : E) | pop (o a : E) | popE (o : E)
  | cnt (o a : E) | idx (o a : E) | idxT (o a : E) | lnS (a : E)
  | minT (a : E) | chars (a : E) | join (s a : E)
  | disp (kvs : List (D × D)) (a : E)
  | dget (d k : E) | dgt1 (d k : E) | dgt2 (d k x : E) | din (k d : E) | dnin (k d : E) | dlen (d : E) | dmin (d : E)
  | dzip (a b : E) | dlz (a b : E) | dprs (a : E) | dcm (k v : E) (t : Tg) (own : List Nat) (it : It) | dnewK (t : Bool) | dnew (t : Bool)
  | bad
  | new (a : F)
  | box (a : F)
/-- what makes a new list -/
inductive F where
  | lst (es : Es)
  | cat (a b : E) | rep (a b : E)
  | slT (a hi : E) | slF (a lo : E) | rev (a : E)
  | toL (a : E)
  | srt (a : E) | srtS (a : E) | spl (a s : E) | dvals (d : E) | dsrt (d : E)
  | cmp2 (e : E) (t t1 : Tg) (own own1 : List Nat) (it it1 : It) (c : E)
  | cmp (e : E) (t : Tg) (own : List Nat) (it : It) (c : E)
inductive Es where
  | nil
  | cons (e : E) (es : Es)
inductive It where
  | ex (e : E)
  | r1 (a : E) | r2 (a b : E)
  | z2 (a b : E)
  | z3 (a b c : E)
  | en (a : E)
  | dk (d : E)
end
mutual
inductive S where
  | asg (t : Tg) (e : E)
  | par (is : List Nat) (es : Es)
  | aug (i : Nat) (e : E)
  | set (o i e : E)
  | ex (e : E)
  | ite (c : E) (a b : B)
  | for_ (t : Tg) (it : It) (b : B)
  | whl (c : E) (b : B)
  | ret (e : E)
  | rse (c : Nat)
  | try_ (b : B) (hs : List (Nat × Str))
  | frz (i : Nat)
  | dput (d k e : E)
  | bad
inductive B where
  | nil
  | cons (s : S) (b : B)
end
structure Def where
  name : Str
  np : Nat
  N : List Str
  body : B

/-! ### meaning -/
def asgT : Tg → Vl → Env → Option Env
  | .nm i, v, en => if i < en.length then some (en.set i (some v)) else none
  | .tp is, .d (.tuple xs), en => if xs.length = is.length then some ((is.zip xs).foldl (fun en p => en.set p.1 (some (.d p.2))) en) else none
  | .tn is js, .d (.tuple xs), en => if xs.length = is.length + 1 then match xs[is.length]? with
    | some (.tuple ys) => if ys.length = js.length then some ((js.zip ys).foldl (fun en p => en.set p.1 (some (.d p.2))) ((is.zip xs).foldl (fun en p => en.set p.1 (some (.d p.2))) en)) else none
    | _ => none
    else none
  | _, _, _ => none
def wipe (en : Env) : List Nat → Env
  | [] => en
  | v :: vs => (wipe en vs).set v none
def setC (n : Nat) (c : Cell) : M Unit := fun h => some (.ok (), h.set n c)
def newC (c : Cell) : M Vl := fun h => some (.ok (.r h.length), h ++ [c])
def cellAt (n : Nat) : M Cell := fun h => h[n]?.map fun c => (.ok c, h)
def appM : Vl → D → M Vl
  | .r n, y => fun h => match h[n]? with
    | some (.lst xs) => if xs.length < sizeLine then some (.ok (.d .none), h.set n (.lst (xs ++ [y]))) else none
    | _ => none
  | _, _ => fail
def popM : Vl → D → M Vl
  | .r n, .int i => fun h => match h[n]? with
    | some (.lst xs) => if -(2 ^ 63) ≤ i ∧ i < 2 ^ 63 then
        match seqIndex? i xs.length with
        | some k => (match xs[k]? with
          | some y => some (.ok (.d y), h.set n (.lst (xs.eraseIdx k)))
          | none => none)
        | none => none
      else none
    | _ => none
  | _, _ => fail
def popEM : Vl → M Vl
  | .r n => fun h => match h[n]? with
    | some (.lst xs) => (match xs[xs.length - 1]? with
      | some y => some (.ok (.d y), h.set n (.lst xs.dropLast))
      | none => none)
    | _ => none
  | _ => fail
def setM : Vl → D → D → M Unit
  | .r n, .int i, y => fun h => match h[n]? with
    | some (.lst xs) => (match ixN xs.length i with
      | some j => some (.ok (), h.set n (.lst (xs.set j y)))
      | none => none)
    | _ => none
  | _, _, _ => fail
open Classical in
/-- the mutable list that is walked is as it was -/
noncomputable def same (dep : Option (Nat × Cell)) : M Unit := fun h => match dep with
  | none => some (.ok (), h)
  | some (n, c) => if h[n]? = some c then some (.ok (), h) else none
def depOf : Vl → M (Option (Nat × Cell))
  | .r n => fun h => h[n]?.map fun c => (.ok (some (n, c)), h)
  | _ => M.pure none
def itemsV : D → Option (List D)
  | .list xs => some xs
  | .tuple xs => some xs
  | .str z => if z.cps.size ≤ sizeLine then some (z.cps.toList.map fun c => .str ⟨#[c]⟩) else none
  | _ => none
def zipD : List D → List D → List D
  | x :: xs, y :: ys => .tuple [x, y] :: zipD xs ys
  | _, _ => []
def zip2V : D → D → Option (List D)
  | .list a, .list b => some (zipD a b)
  | .tuple a, .tuple b => some (zipD a b)
  | _, _ => none
def zip3D : List D → List D → List D → List D
  | x :: xs, y :: ys, z :: zs => .tuple [x, y, z] :: zip3D xs ys zs
  | _, _, _ => []
def zip3V : D → D → D → Option (List D)
  | .tuple a, .tuple b, .tuple c => some (zip3D a b c)
  | _, _, _ => none
def enumD : Nat → List D → List D
  | _, [] => []
  | n, x :: xs => .tuple [.int n, x] :: enumD (n + 1) xs
def rangeD (lo : Int) (n : Nat) : List D := (List.range n).map fun (i : Nat) => .int (lo + (i : Int))
def sm (i : Int) : Bool := decide (-(2 ^ 62) ≤ i ∧ i < 2 ^ 62)
@[irreducible] def rng (i j : Int) : Option (List D) := if sm i && sm j && decide ((j - i).toNat ≤ sizeLine) then some (rangeD i (j - i).toNat) else none
def asD : Vl → M D
  | .d x => M.pure x
  | _ => fail
def noExc (x : M α) : M α := fun h => match x h with
  | some (.ok a, h1) => some (.ok a, h1)
  | _ => none
/-- a comprehension's turns -/
noncomputable def compL (dep : Option (Nat × Cell)) (f : D → M (Option D)) : List D → M (List D)
  | [] => M.bind (same dep) fun _ => M.pure []
  | x :: xs => M.bind (same dep) fun _ => M.bind (noExc (f x)) fun y => M.bind (compL dep f xs) fun ys => M.pure (match y with
    | some y => y :: ys
    | none => ys)
/-- two fors -/
noncomputable def comp2L (dep : Option (Nat × Cell)) (f : D → M (List D)) : List D → M (List D)
  | [] => M.bind (same dep) fun _ => M.pure []
  | x :: xs => M.bind (same dep) fun _ => M.bind (noExc (f x)) fun ys => M.bind (comp2L dep f xs) fun zs => M.pure (ys ++ zs)
/-- a dict comprehension's turns -/
noncomputable def compK (dep : Option (Nat × Cell)) (f : D → M (D × D)) : List D → M (List (D × D))
  | [] => M.bind (same dep) fun _ => M.pure []
  | x :: xs => M.bind (same dep) fun _ => M.bind (noExc (f x)) fun y => M.bind (compK dep f xs) fun ys => M.pure (y :: ys)
inductive SO where
  | next (en : Env)
  | ret (v : Vl)
noncomputable def forL (dep : Option (Nat × Cell)) (f : D → Env → M SO) : List D → Env → M SO
  | [], en => M.bind (same dep) fun _ => M.pure (.next en)
  | x :: xs, en => M.bind (same dep) fun _ => M.bind (f x en) fun
    | .next en' => forL dep f xs en'
    | .ret v => M.pure (.ret v)
noncomputable def whlL (c : Env → M Bool) (f : Env → M SO) : Nat → Env → M SO
  | 0, _ => fail
  | n + 1, en => M.bind (c en) fun b => if b then M.bind (f en) fun
    | .next en' => whlL c f n en'
    | .ret v => M.pure (.ret v)
    else M.pure (.next en)
def tryM (hs : List (Nat × Str)) (x : M SO) : M SO := fun h => match x h with
  | some (.exc c, h1) => (match hs.find? (fun p => p.1 == c) with
    | some p => some (.ok (.ret (.d (.str p.2))), h1)
    | none => some (.exc c, h1))
  | r => r
def frzM (i : Nat) (en : Env) : M SO := match en[i]? with
  | some (some (.r n)) => fun h => match h[n]? with
    | some (.lst xs) => some (.ok (.next (en.set i (some (.d (.list xs))))), h.set n .dead)
    | some (.dct t kvs) => some (.ok (.next (en.set i (some (.k t kvs)))), h.set n .dead)
    | _ => none
  | _ => fail
def part (x : M D) : M (Option Int) := M.bind x fun d => ofO ((asI d).map some)
/-- the call's table -/
abbrev CF := Nat → List Vl → M Vl
/-- read now -/
def dd (x : M Vl) : M D := M.bind x rd
def tt (x : M Vl) : M Bool := M.bind x fun v => M.bind (rd v) fun d => ofO (truth d)
def rd2 (x y : M Vl) (f : D → D → M β) : M β := M.bind x fun v => M.bind y fun w => M.bind (rd v) fun a => M.bind (rd w) fun b => f a b
def rds : List Vl → M (List D)
  | [] => M.pure []
  | v :: vs => M.bind (rd v) fun x => M.bind (rds vs) fun xs => M.pure (x :: xs)
def asDs : List Vl → M (List D)
  | [] => M.pure []
  | v :: vs => M.bind (asD v) fun x => M.bind (asDs vs) fun xs => M.pure (x :: xs)
/-- a list that is mine -/
def rdL : Vl → M (List D)
  | .d (.list xs) => M.pure xs
  | .r n => fun h => match h[n]? with
    | some (.lst xs) => some (.ok xs, h)
    | _ => none
  | _ => fail
/-- a dict as it is now -/
def rdK : Vl → M (Bool × List (D × D))
  | .k t kvs => M.pure (t, kvs)
  | .r n => fun h => match h[n]? with
    | some (.dct t kvs) => some (.ok (t, kvs), h)
    | _ => none
  | _ => fail
def putM : Vl → D → D → M Unit
  | .r n, k, y => fun h => match h[n]? with
    | some (.dct t kvs) => if keyOk t k = true ∧ kvs.length ≤ 1000000 then some (.ok (), h.set n (.dct t (putK kvs k y))) else none
    | _ => none
  | _, _, _ => fail
/-- a look into a dict -/
def lookM (v : Vl) (y : D) (f : Option D → M Vl) : M Vl := M.bind (rdK v) fun p => if keyOk p.1 y = true then f (getK p.2 y) else fail
def prt (x : M Vl) : M Int := M.bind x fun v => M.bind (asD v) fun d => ofO (asI d)
def varM (i : Nat) (en : Env) : M Vl := match en[i]? with
  | some (some v) => M.pure v
  | _ => fail
def strM (x : Str) : M Vl := if okS x then M.pure (.d (.str x)) else fail
def pD (x : D) : M Vl := M.pure (.d x)
def pO (x : Option D) : M Vl := M.bind (ofO x) pD
/-- a comprehension's turn -/
def turnM (t : Tg) (own : List Nat) (en : Env) (cnd : Env → M Bool) (elt : Env → M Vl) (x : D) : M (Option D) :=
  M.bind (ofO (asgT t (.d x) (wipe en own))) fun en1 => M.bind (cnd en1) fun k => if k then M.bind (elt en1) fun v => M.bind (asD v) fun y => M.pure (some y) else M.pure none
def turn2M (t : Tg) (own : List Nat) (en : Env) (inner : Env → M (List D)) (x : D) : M (List D) := M.bind (ofO (asgT t (.d x) (wipe en own))) inner
def turnK (t : Tg) (own : List Nat) (en : Env) (ke ve : Env → M Vl) (x : D) : M (D × D) :=
  M.bind (ofO (asgT t (.d x) (wipe en own))) fun en1 => M.bind (ke en1) fun u => M.bind (asD u) fun k => M.bind (ve en1) fun v => M.bind (asD v) fun y => M.pure (k, y)
def augM (i : Nat) (ev : Env → M Vl) (en : Env) : M SO := match en[i]? with
  | some (some v) => M.bind (ev en) fun w => M.bind (asD v) fun x => M.bind (asD w) fun y => M.bind (ofO (match x, y with
      | .int a, .int b => some (D.int (a + b))
      | _, _ => none)) fun z => M.pure (.next (en.set i (some (.d z))))
  | _ => fail
section
variable (cf : CF)
mutual
noncomputable def evE : E → Env → M Vl
  | .var i, en => varM i en
  | .non, _ => pD .none
  | .bl b, _ => pD (.bool b)
  | .int i, _ => pD (.int i)
  | .str x, _ => strM x
  | .tup es, en => M.bind (evEs es en) fun vs => M.bind (asDs vs) fun xs => if xs.length ≤ sizeLine then pD (.tuple xs) else fail
  | .op o a b, en => rd2 (evE a en) (evE b en) fun x y => pO (binV o x y)
  | .neg a, en => M.bind (dd (evE a en)) fun x => pO (negV x)
  | .nt a, en => M.bind (tt (evE a en)) fun b => pD (.bool !b)
  | .and es, en => evAnd es en
  | .or es, en => evOr es en
  | .cmp o a b, en => rd2 (evE a en) (evE b en) fun x y => pO ((cmpV o x y).map .bool)
  | .chn o o' a b c, en => M.bind (evE a en) fun va => M.bind (evE b en) fun vb => M.bind (asD va) fun x => M.bind (asD vb) fun y => M.bind (ofO (cmpV o x y)) fun k =>
      if k then M.bind (evE c en) fun vc => M.bind (asD vc) fun z => pO ((cmpV o' y z).map .bool) else pD (.bool false)
  | .ite c a b, en => M.bind (tt (evE c en)) fun k => if k then evE a en else evE b en
  | .ix a b, en => rd2 (evE a en) (evE b en) fun x y => pO (ixV x y)
  | .slT a hi, en => M.bind (evE a en) fun v => M.bind (prt (evE hi en)) fun u => M.bind (rd v) fun x => pO (sliceV x none (some u))
  | .slF a lo, en => M.bind (evE a en) fun v => M.bind (prt (evE lo en)) fun l => M.bind (rd v) fun x => pO (sliceV x (some l) none)
  | .slA a lo hi, en => M.bind (evE a en) fun v => M.bind (prt (evE lo en)) fun l => M.bind (prt (evE hi en)) fun u => M.bind (rd v) fun x => pO (sliceV x (some l) (some u))
  | .rev a, en => M.bind (dd (evE a en)) fun x => pO ((asT x).map fun xs => .tuple xs.reverse)
  | .call f es, en => M.bind (evEs es en) fun vs => cf f vs
  | .blt f es, en => M.bind (evEs es en) fun vs => M.bind (rds vs) fun xs => pO (bltV f xs)
  | .isi a t, en => M.bind (dd (evE a en)) fun x => pD (.bool (isTy x t))
  | .toT a, en => M.bind (dd (evE a en)) fun x => pO ((asSeq x).map .tuple)
  | .app o a, en => M.bind (evE o en) fun v => M.bind (rdL v) fun _ => M.bind (evE a en) fun w => M.bind (asD w) fun y => appM v y
  | .pop o a, en => M.bind (evE o en) fun v => M.bind (rdL v) fun _ => M.bind (evE a en) fun w => M.bind (asD w) fun y => popM v y
  | .popE o, en => M.bind (evE o en) fun v => M.bind (rdL v) fun _ => popEM v
  | .cnt o a, en => M.bind (evE o en) fun v => M.bind (asD v) fun x => M.bind (ofO (asL x)) fun xs => M.bind (evE a en) fun w => M.bind (asD w) fun y => pO (cntV xs y)
  | .idx o a, en => M.bind (evE o en) fun v => M.bind (asD v) fun x => M.bind (ofO (asL x)) fun xs => M.bind (evE a en) fun w => M.bind (asD w) fun y => pO (idxV xs y)
  | .lnS a, en => M.bind (dd (evE a en)) fun x => pO (lnSV x)
  | .idxT o a, en => M.bind (evE o en) fun v => M.bind (asD v) fun x => M.bind (ofO (asT x)) fun xs => M.bind (evE a en) fun w => M.bind (asD w) fun y => pO (idxV xs y)
  | .minT a, en => M.bind (dd (evE a en)) fun x => pO ((asL x).bind minTV)
  | .chars a, en => M.bind (dd (evE a en)) fun x => pO ((charsV x).map .tuple)
  | .join s a, en => M.bind (evE s en) fun v => M.bind (asD v) fun x => M.bind (ofO (asS x)) fun z => M.bind (evE a en) fun w => M.bind (asD w) fun y => pO (joinV (.str z) y)
  | .disp kvs a, en => M.bind (evE a en) fun v => M.bind (asD v) fun y => pO (getK kvs y)
  | .dget d k, en => M.bind (evE d en) fun v => M.bind (evE k en) fun w => M.bind (asD w) fun y => lookM v y pO
  | .dgt1 d k, en => M.bind (evE d en) fun v => M.bind (rdK v) fun _ => M.bind (evE k en) fun w => M.bind (asD w) fun y => lookM v y fun o => pD (o.getD .none)
  | .dgt2 d k x, en => M.bind (evE d en) fun v => M.bind (rdK v) fun _ => M.bind (evE k en) fun w => M.bind (evE x en) fun u => M.bind (asD w) fun y => M.bind (asD u) fun z => lookM v y fun o => pD (o.getD z)
  | .din k d, en => M.bind (evE k en) fun w => M.bind (evE d en) fun v => M.bind (asD w) fun y => lookM v y fun o => pD (.bool o.isSome)
  | .dnin k d, en => M.bind (evE k en) fun w => M.bind (evE d en) fun v => M.bind (asD w) fun y => lookM v y fun o => pD (.bool !o.isSome)
  | .dlen d, en => M.bind (evE d en) fun v => M.bind (rdK v) fun p => if p.1 then fail else pD (.int (p.2.length : Nat))
  | .dmin d, en => M.bind (evE d en) fun v => M.bind (rdK v) fun p => if p.1 then pO (dminV p.2) else fail
  | .dzip a b, en => M.bind (evE a en) fun v => M.bind (evE b en) fun w => M.bind (asD v) fun x => M.bind (asD w) fun y => M.bind (ofO (dzipV x y)) fun kvs => M.pure (.k false kvs)
  | .dlz a b, en => M.bind (evE a en) fun v => M.bind (evE b en) fun w => M.bind (asD v) fun x => M.bind (asD w) fun y => M.bind (ofO (dzipV x y)) fun kvs => M.pure (.k false kvs)
  | .dprs a, en => M.bind (evE a en) fun v => M.bind (asD v) fun x => M.bind (ofO (dprsV x)) fun kvs => M.pure (.k false kvs)
  | .dcm k v t own it, en => M.bind (evI it en) fun p => M.bind (compK p.1 (turnK t own en (fun en => evE k en) (fun en => evE v en)) p.2) fun ps => M.bind (ofO (dmrg true ps)) fun kvs => M.pure (.k true kvs)
  | .dnewK t, _ => M.pure (.k t [])
  | .dnew t, _ => newC (.dct t [])
  | .bad, _ => fail
  | .new a, en => M.bind (evF a en) fun xs => pD (.list xs)
  | .box a, en => M.bind (evF a en) fun xs => newC (.lst xs)
noncomputable def evF : F → Env → M (List D)
  | .lst es, en => M.bind (evEs es en) fun vs => M.bind (asDs vs) fun xs => if xs.length ≤ sizeLine then M.pure xs else fail
  | .cat a b, en => M.bind (evE a en) fun v => M.bind (evE b en) fun w => M.bind (rdL v) fun xs => M.bind (rdL w) fun ys => if xs.length + ys.length ≤ sizeLine then M.pure (xs ++ ys) else fail
  | .rep a b, en => M.bind (evE a en) fun v => M.bind (evE b en) fun w => M.bind (rdL v) fun xs => M.bind (asD w) fun y => ofO (repL xs y)
  | .slT a hi, en => M.bind (evE a en) fun v => M.bind (prt (evE hi en)) fun u => M.bind (rd v) fun x => ofO (sliceL x none (some u))
  | .slF a lo, en => M.bind (evE a en) fun v => M.bind (prt (evE lo en)) fun l => M.bind (rd v) fun x => ofO (sliceL x (some l) none)
  | .rev a, en => M.bind (dd (evE a en)) fun x => ofO ((asL x).map List.reverse)
  | .toL a, en => M.bind (dd (evE a en)) fun x => ofO (asSeq x)
  | .srt a, en => M.bind (dd (evE a en)) fun x => ofO ((asL x).bind sortV)
  | .srtS a, en => M.bind (dd (evE a en)) fun x => ofO (srtSV x)
  | .spl a s, en => M.bind (evE a en) fun v => M.bind (asD v) fun x => M.bind (ofO (asS x)) fun z => M.bind (evE s en) fun w => M.bind (asD w) fun y => ofO (splV (.str z) y)
  | .dvals d, en => M.bind (evE d en) fun v => M.bind (rdK v) fun p => if p.1 then M.pure (p.2.map (·.2)) else fail
  | .dsrt d, en => M.bind (evE d en) fun v => M.bind (rdK v) fun p => if p.1 then ofO (sortT (p.2.map (·.1))) else fail
  | .cmp2 e t t1 own own1 it it1 c, en => M.bind (M.bind (evI it en) fun p => comp2L p.1 (turn2M t own en fun en1 => M.bind (evI it1 en1) fun q => compL q.1 (turnM t1 own1 en1 (fun en => tt (evE c en)) (fun en => evE e en)) q.2) p.2) fun zs => if zs.length ≤ sizeLine then M.pure zs else fail
  | .cmp e t own it c, en => M.bind (evI it en) fun p => compL p.1 (turnM t own en (fun en => tt (evE c en)) (fun en => evE e en)) p.2
noncomputable def evEs : Es → Env → M (List Vl)
  | .nil, _ => M.pure []
  | .cons e es, en => M.bind (evE e en) fun v => M.bind (evEs es en) fun vs => M.pure (v :: vs)
noncomputable def evAnd : Es → Env → M Vl
  | .nil, _ => fail
  | .cons e .nil, en => evE e en
  | .cons e (.cons e' es), en => M.bind (evE e en) fun v => M.bind (rd v) fun x => M.bind (ofO (truth x)) fun k => if k then evAnd (.cons e' es) en else M.pure v
noncomputable def evOr : Es → Env → M Vl
  | .nil, _ => fail
  | .cons e .nil, en => evE e en
  | .cons e (.cons e' es), en => M.bind (evE e en) fun v => M.bind (rd v) fun x => M.bind (ofO (truth x)) fun k => if k then M.pure v else evOr (.cons e' es) en
noncomputable def evI : It → Env → M (Option (Nat × Cell) × List D)
  | .ex e, en => M.bind (evE e en) fun v => M.bind (depOf v) fun dp => M.bind (rd v) fun x => M.bind (ofO (itemsV x)) fun xs => M.pure (dp, xs)
  | .r1 a, en => M.bind (dd (evE a en)) fun x => M.bind (ofO ((asI x).bind fun j => rng 0 j)) fun xs => M.pure (none, xs)
  | .r2 a b, en => rd2 (evE a en) (evE b en) fun x y => M.bind (ofO ((asI x).bind fun i => (asI y).bind fun j => rng i j)) fun xs => M.pure (none, xs)
  | .z2 a b, en => M.bind (evE a en) fun v => M.bind (evE b en) fun w => M.bind (asD v) fun x => M.bind (asD w) fun y => M.bind (ofO (zip2V x y)) fun xs => M.pure (none, xs)
  | .en a, en => M.bind (evE a en) fun v => M.bind (asD v) fun x => M.bind (ofO ((asL x).map (enumD 0))) fun xs => M.pure (none, xs)
  | .z3 a b c, en => M.bind (evE a en) fun v => M.bind (evE b en) fun w => M.bind (evE c en) fun u => M.bind (asD v) fun x => M.bind (asD w) fun y => M.bind (asD u) fun z => M.bind (ofO (zip3V x y z)) fun xs => M.pure (none, xs)
  | .dk d, en => M.bind (evE d en) fun v => match v with
    | .k _ kvs => M.pure (none, kvs.map (·.1))
    | _ => fail
end
mutual
noncomputable def evS (W : Nat) : S → Env → M SO
  | .asg t e, en => M.bind (evE cf e en) fun v => M.bind (ofO (asgT t v en)) fun en' => M.pure (.next en')
  | .par is es, en => M.bind (evEs cf es en) fun vs => if vs.length = is.length ∧ is.all (· < en.length) then M.pure (.next ((is.zip vs).foldl (fun en p => en.set p.1 (some p.2)) en)) else fail
  | .aug i e, en => augM i (fun en => evE cf e en) en
  | .set o i e, en => M.bind (evE cf e en) fun u => M.bind (evE cf o en) fun v => M.bind (evE cf i en) fun w => M.bind (asD w) fun k => M.bind (asD u) fun y => M.bind (setM v k y) fun _ => M.pure (.next en)
  | .ex e, en => M.bind (evE cf e en) fun _ => M.pure (.next en)
  | .ite c a b, en => M.bind (tt (evE cf c en)) fun k => if k then evB W a en else evB W b en
  | .for_ t it b, en => M.bind (evI cf it en) fun p => forL p.1 (fun x en => M.bind (ofO (asgT t (.d x) en)) fun en1 => evB W b en1) p.2 en
  | .whl c b, en => whlL (fun en => tt (evE cf c en)) (fun en => evB W b en) W en
  | .ret e, en => M.bind (evE cf e en) fun v => M.pure (.ret v)
  | .rse c, _ => raise c
  | .try_ b hs, en => tryM hs (evB W b en)
  | .frz i, en => frzM i en
  | .dput d k e, en => M.bind (evE cf e en) fun u => M.bind (evE cf d en) fun v => M.bind (evE cf k en) fun w => M.bind (asD w) fun y => M.bind (asD u) fun z => M.bind (putM v y z) fun _ => M.pure (.next en)
  | .bad, _ => fail
noncomputable def evB (W : Nat) : B → Env → M SO
  | .nil, en => M.pure (.next en)
  | .cons s b, en => M.bind (evS W s en) fun
    | .next en' => evB W b en'
    | .ret v => M.pure (.ret v)
end
end
/-- a call leaves no cell of its own -/
def shut (n : Nat) (x : M SO) : M Vl := fun h => match x h with
  | some (.ok (.ret (.d v)), h1) => some (.ok (.d v), h1.take n)
  | some (.ok (.ret (.k t v)), h1) => some (.ok (.k t v), h1.take n)
  | some (.ok (.ret (.r i)), h1) => if i < n then some (.ok (.r i), h1.take n) else none
  | some (.ok (.next _), h1) => some (.ok (.d .none), h1.take n)
  | some (.exc c, h1) => some (.exc c, h1.take n)
  | none => none
noncomputable def callF (Φ : Nat → Option Def) (W : Nat) : Nat → CF
  | 0, _, _ => fail
  | k + 1, f, vs => match Φ f with
    | some d => if vs.length = d.np then fun h => shut h.length (evB (callF Φ W k) W d.body (vs.map some ++ List.replicate (d.N.length - d.np) none)) h else fail
    | none => fail
end Jr

set_option Elab.async false
set_option linter.all false
set_option maxRecDepth 100000
set_option maxHeartbeats 1000000
namespace Jr
open PySem PySem.Spec PyProof.Rows L2
def keyD : Key → D
  | .inl i => .int i
  | .inr x => .str x
/-! ### data in the abstract heap -/
/-- a tuple that has no dict of its own -/
def TupAt (H : Hp) (p : Addr) (vs : List V) : Prop := ∃ o : Obj, H p = some (.frz o (.tup vs)) ∧ o.dict = none
theorem TupAt.sq {K : PySem.W.Frag} {H : Hp} {p : Addr} {vs : List V} (h : TupAt H p vs) : SqT K H p vs := .inl (.inr ⟨h.choose, h.choose_spec.1⟩)
theorem TupAt.upd {H : Hp} {p : Addr} {vs : List V} {o : Obj} (h : o.dict = none) : TupAt (L2.upd H p (.frz o (.tup vs))) p vs := ⟨o, upd_same, h⟩
mutual
inductive RD (Pr : Addr → Prop) (H : Hp) : D → V → Prop
  | non : RD Pr H .none .non
  | bool (b : Bool) : RD Pr H (.bool b) (.bl b)
  | int (i : Int) : RD Pr H (.int i) (.int i)
  | str (x : Str) (ok : okS x = true) : RD Pr H (.str x) (.str x)
  | tup {p : Addr} {ds : List D} {vs : List V} : ¬ Pr p → TupAt H p vs → ds.length ≤ sizeLine → RDs Pr H ds vs → RD Pr H (.tuple ds) (.ref p)
  | lst {p : Addr} {ds : List D} {vs : List V} : ¬ Pr p → H p = some (.lst vs) → ds.length ≤ sizeLine → RDs Pr H ds vs → RD Pr H (.list ds) (.ref p)
inductive RDs (Pr : Addr → Prop) (H : Hp) : List D → List V → Prop
  | nil : RDs Pr H [] []
  | cons {d : D} {v : V} {ds : List D} {vs : List V} : RD Pr H d v → RDs Pr H ds vs → RDs Pr H (d :: ds) (v :: vs)
end
inductive RKs (Pr : Addr → Prop) (H : Hp) : List (D × D) → List (Key × V) → Prop
  | nil : RKs Pr H [] []
  | cons {k : Key} {d : D} {v : V} {ds : List (D × D)} {vs : List (Key × V)} : RD Pr H d v → RKs Pr H ds vs → RKs Pr H ((keyD k, d) :: ds) ((k, v) :: vs)
/-! ### dicts whose keys are tuples of ints and None -/
abbrev NKey := List (Option Int)
def nkOf : Option Int → NestedKey
  | none => .none
  | some i => .num i
def nkD1 : Option Int → D
  | none => .none
  | some i => .int i
def nkey (l : NKey) : NestedKey := .tup (l.map nkOf)
def nkD (l : NKey) : D := .tuple (l.map nkD1)
/-- the object of such a dict: its own entries -/
def φN (p : Addr) (xs : List (NKey × Addr × V)) : Heap → Prop := fun h => (p == sysModules) = false ∧ xs.length ≤ sizeLine ∧ (xs.map (·.1)).Nodup ∧
  ∃ (vs : List Value) (o : Obj) (es : Array DictEntry) (ep : _), Vals (xs.map (·.2.2)) vs ∧ h.get? p = some o ∧ o.ExactDict ∧ o.data = .dict es ep ∧
    ∀ w : World, es.toList = List.zipWith (fun (x : NKey × Addr × V) (v : Value) => (⟨(nkey x.1).hash w, .ref x.2.1, v⟩ : DictEntry)) xs vs
inductive RNs (Pr : Addr → Prop) (H : Hp) : List (D × D) → List (NKey × Addr × V) → Prop
  | nil : RNs Pr H [] []
  | cons {l : NKey} {a : Addr} {d : D} {v : V} {ds : List (D × D)} {xs : List (NKey × Addr × V)} : RD Pr H (nkD l) (.ref a) → RD Pr H d v → RNs Pr H ds xs → RNs Pr H ((nkD l, d) :: ds) ((l, a, v) :: xs)
/-- a dict at p -/
def DK (P : Addr → Prop) (H : Hp) (p : Addr) : Bool → List (D × D) → Prop
  | false, kvs => ∃ vs, H p = some (.dK vs) ∧ RKs P H kvs vs
  | true, kvs => ∃ xs, H p = some (.ext (φN p xs)) ∧ RNs P H kvs xs
/-- what is not protected stays, and stays not protected -/
def Gr (Pr : Addr → Prop) (H : Hp) (Pr' : Addr → Prop) (H' : Hp) : Prop := ∀ a o, H a = some o → ¬ Pr a → H' a = some o ∧ ¬ Pr' a
section
variable {Pr Pr' : Addr → Prop} {H H' : Hp}
mutual
theorem RD.gr (g : Gr Pr H Pr' H') : ∀ (d : D) (v : V), RD Pr H d v → RD Pr' H' d v
  | .none, _, h => by cases h; exact .non
  | .bool b, _, h => by cases h; exact .bool b
  | .int i, _, h => by cases h; exact .int i
  | .str x, _, h => by cases h with | str x ok => exact .str x ok
  | .tuple ds, _, h => by
    cases h with
    | tup a b z c =>
      obtain ⟨o, e, d⟩ := b
      exact .tup (g _ _ e a).2 ⟨o, (g _ _ e a).1, d⟩ z (RDs.gr g ds _ c)
  | .list ds, _, h => by
    cases h with
    | lst a b z c => exact .lst (g _ _ b a).2 (g _ _ b a).1 z (RDs.gr g ds _ c)
theorem RDs.gr (g : Gr Pr H Pr' H') : ∀ (ds : List D) (vs : List V), RDs Pr H ds vs → RDs Pr' H' ds vs
  | [], _, h => by cases h; exact .nil
  | d :: ds, _, h => by
    cases h with
    | cons a b => exact .cons (RD.gr g d _ a) (RDs.gr g ds _ b)
end
theorem RKs.gr (g : Gr Pr H Pr' H') : ∀ (ds : List (D × D)) (vs : List (Key × V)), RKs Pr H ds vs → RKs Pr' H' ds vs
  | [], _, h => by cases h; exact .nil
  | (k, d) :: ds, _, h => by
    cases h with
    | cons a b => exact .cons (RD.gr g d _ a) (RKs.gr g ds _ b)
theorem RNs.gr (g : Gr Pr H Pr' H') : ∀ (ds : List (D × D)) (xs : List (NKey × Addr × V)), RNs Pr H ds xs → RNs Pr' H' ds xs
  | [], _, h => by cases h; exact .nil
  | (k, d) :: ds, _, h => by
    cases h with
    | cons a b c => exact .cons (RD.gr g _ _ a) (RD.gr g d _ b) (RNs.gr g ds _ c)
theorem DK.move (g : Gr Pr H Pr' H') {p : Addr} (k : H' p = H p) : ∀ {t : Bool} {kvs : List (D × D)}, DK Pr H p t kvs → DK Pr' H' p t kvs
  | false, _, ⟨vs, e, r⟩ => ⟨vs, k.trans e, RKs.gr g _ _ r⟩
  | true, _, ⟨xs, e, r⟩ => ⟨xs, k.trans e, RNs.gr g _ _ r⟩
theorem DK.step (g : Gr Pr H Pr' H') {p : Addr} (np : ¬ Pr p) : ∀ {t : Bool} {kvs : List (D × D)}, DK Pr H p t kvs → ¬ Pr' p ∧ DK Pr' H' p t kvs
  | false, _, ⟨vs, e, r⟩ => ⟨(g _ _ e np).2, vs, (g _ _ e np).1, RKs.gr g _ _ r⟩
  | true, _, ⟨xs, e, r⟩ => ⟨(g _ _ e np).2, xs, (g _ _ e np).1, RNs.gr g _ _ r⟩
theorem DK.some {p : Addr} : ∀ {t : Bool} {kvs : List (D × D)}, DK Pr H p t kvs → H p ≠ none
  | false, _, ⟨vs, e, _⟩ => fun z => by rw [z] at e; cases e
  | true, _, ⟨xs, e, _⟩ => fun z => by rw [z] at e; cases e
theorem RDs.length : ∀ {ds : List D} {vs : List V}, RDs Pr H ds vs → ds.length = vs.length
  | _, _, .nil => rfl
  | _, _, .cons _ t => by rw [List.length_cons, List.length_cons, RDs.length t]
theorem RDs.get : ∀ {ds : List D} {vs : List V} {i : Nat} {d : D}, RDs Pr H ds vs → ds[i]? = some d → ∃ v, vs[i]? = some v ∧ RD Pr H d v
  | _, _, _, _, .nil, e => by simp at e
  | _, _, 0, _, .cons r _, e => by simp at e; subst e; exact ⟨_, rfl, r⟩
  | _, _, i + 1, d, .cons _ t, e => by
    obtain ⟨v, h1, h2⟩ := RDs.get (i := i) (d := d) t (by simpa using e)
    exact ⟨v, by simpa using h1, h2⟩
theorem RDs.append : ∀ {ds es : List D} {vs ws : List V}, RDs Pr H ds vs → RDs Pr H es ws → RDs Pr H (ds ++ es) (vs ++ ws)
  | _, _, _, _, .nil, s => s
  | _, _, _, _, .cons r t, s => .cons r (RDs.append t s)
theorem RDs.take : ∀ {ds : List D} {vs : List V} (n : Nat), RDs Pr H ds vs → RDs Pr H (ds.take n) (vs.take n)
  | _, _, 0, _ => .nil
  | _, _, _ + 1, .nil => .nil
  | _, _, n + 1, .cons r t => .cons r (RDs.take n t)
theorem RDs.drop : ∀ {ds : List D} {vs : List V} (n : Nat), RDs Pr H ds vs → RDs Pr H (ds.drop n) (vs.drop n)
  | _, _, 0, r => r
  | _, _, _ + 1, .nil => .nil
  | _, _, n + 1, .cons _ t => RDs.drop n t
theorem RDs.reverse : ∀ {ds : List D} {vs : List V}, RDs Pr H ds vs → RDs Pr H ds.reverse vs.reverse
  | _, _, .nil => .nil
  | _, _, .cons r t => by rw [List.reverse_cons, List.reverse_cons]; exact RDs.append (RDs.reverse t) (.cons r .nil)
theorem RDs.set {d : D} {v : V} (r : RD Pr H d v) : ∀ {ds : List D} {vs : List V} (i : Nat), RDs Pr H ds vs → RDs Pr H (ds.set i d) (vs.set i v)
  | _, _, _, .nil => .nil
  | _, _, 0, .cons _ t => .cons r t
  | _, _, i + 1, .cons q t => .cons q (RDs.set r i t)
theorem RDs.eraseIdx : ∀ {ds : List D} {vs : List V} (i : Nat), RDs Pr H ds vs → RDs Pr H (ds.eraseIdx i) (vs.eraseIdx i)
  | _, _, _, .nil => .nil
  | _, _, 0, .cons _ t => t
  | _, _, i + 1, .cons q t => .cons q (RDs.eraseIdx i t)
theorem RDs.rep {ds : List D} {vs : List V} (h : RDs Pr H ds vs) : ∀ k : Nat, RDs Pr H (List.replicate k ds).flatten (List.replicate k vs).flatten
  | 0 => .nil
  | k + 1 => by
    rw [List.replicate_succ, List.replicate_succ, List.flatten_cons, List.flatten_cons]
    exact RDs.append h (RDs.rep h k)
end
/-! ### the heap of cells -/
def live : Cell → Bool
  | .lst _ => true
  | .dct _ _ => true
  | _ => false
/-- protected: by hand, or a live cell's own -/
def Pr (L : Addr → Prop) (ρ : List Addr) (h : Hh) : Addr → Prop := fun a => L a ∨ ∃ (i : Nat) (c : Cell), ρ[i]? = some a ∧ h[i]? = some c ∧ live c = true
def KL (K : PySem.W.Frag) (a : Addr) (xs : List V) : Prop := ∃ (o : Obj) (its : Array Value) (n : Nat), K.lookup a = some o ∧ o.cls = .type "list" ∧ o.dict = none ∧ o.data = .seq its n ∧ its.size ≤ sizeLine ∧ Vals xs its.toList
def CR (K : PySem.W.Frag) (P : Addr → Prop) (H : Hp) (a : Addr) : Cell → Prop
  | .dead => True
  | .ro ds => ∃ vs, ((¬ P a ∧ ∃ o, H a = some (.frz o (.lst vs))) ∨ KL K a vs) ∧ ds.length ≤ sizeLine ∧ RDs P H ds vs
  | .lst ds => ∃ vs, H a = some (.lst vs) ∧ ds.length ≤ sizeLine ∧ RDs P H ds vs
  | .dct t kvs => DK P H a t kvs
structure HR (K : PySem.W.Frag) (L : Addr → Prop) (ρ : List Addr) (h : Hh) (H : Hp) : Prop where
  len : ρ.length = h.length
  nd : ∀ (i j : Nat) (a : Addr) (ci cj : Cell), ρ[i]? = some a → ρ[j]? = some a → h[i]? = some ci → h[j]? = some cj → live ci = true → live cj = true → i = j
  dis : ∀ (i : Nat) (a : Addr) (c : Cell), ρ[i]? = some a → h[i]? = some c → live c = true → ¬ L a
  ltr : ∀ a, L a → H a ≠ none
  cell : ∀ (i : Nat) (a : Addr) (c : Cell), ρ[i]? = some a → h[i]? = some c → CR K (Pr L ρ h) H a c
structure Stp (L : Addr → Prop) (ρ : List Addr) (h : Hh) (H : Hp) (ρ' : List Addr) (h' : Hh) (H' : Hp) : Prop where
  gr : Gr (Pr L ρ h) H (Pr L ρ' h') H'
  fix : ∀ a, L a → H' a = H a
  pre : ∀ (i : Nat) (a : Addr), ρ[i]? = some a → ρ'[i]? = some a
def RV (P : Addr → Prop) (ρ : List Addr) (H : Hp) : Vl → V → Prop
  | .d x, v => RD P H x v
  | .r n, v => ∃ a, ρ[n]? = some a ∧ v = .ref a
  | .k t kvs, v => ∃ p, ¬ P p ∧ v = .ref p ∧ DK P H p t kvs
inductive RVs (P : Addr → Prop) (ρ : List Addr) (H : Hp) : List Vl → List V → Prop
  | nil : RVs P ρ H [] []
  | cons {x : Vl} {v : V} {xs : List Vl} {vs : List V} : RV P ρ H x v → RVs P ρ H xs vs → RVs P ρ H (x :: xs) (v :: vs)
structure ER (P : Addr → Prop) (ρ : List Addr) (H : Hp) (en : Env) (σ : L2.St) : Prop where
  len : en.length = σ.length
  at_ : ∀ (i : Nat) (x : Vl), en[i]? = some (some x) → ∃ v, σ[i]? = some (some v) ∧ RV P ρ H x v
section
variable {K : PySem.W.Frag} {L : Addr → Prop} {ρ ρ1 ρ2 : List Addr} {h h1 h2 : Hh} {H H1 H2 : Hp}
theorem Gr.refl {P : Addr → Prop} : Gr P H P H := fun _ _ e n => ⟨e, n⟩
theorem Stp.refl : Stp L ρ h H ρ h H := ⟨Gr.refl, fun _ _ => rfl, fun _ _ e => e⟩
theorem Stp.trans (a : Stp L ρ h H ρ1 h1 H1) (b : Stp L ρ1 h1 H1 ρ2 h2 H2) : Stp L ρ h H ρ2 h2 H2 :=
  ⟨fun c o e n => let ⟨e1, n1⟩ := a.gr c o e n; b.gr c o e1 n1, fun c l => (b.fix c l).trans (a.fix c l), fun i c e => b.pre i c (a.pre i c e)⟩
theorem RV.step (s : Stp L ρ h H ρ1 h1 H1) {x : Vl} {v : V} (r : RV (Pr L ρ h) ρ H x v) : RV (Pr L ρ1 h1) ρ1 H1 x v := by
  cases x with
  | d x => exact RD.gr s.gr _ _ r
  | r n => obtain ⟨a, e, rfl⟩ := r; exact ⟨a, s.pre _ _ e, rfl⟩
  | k t kvs => obtain ⟨p, np, e, c⟩ := r; exact ⟨p, (c.step s.gr np).1, e, (c.step s.gr np).2⟩
theorem RVs.step (s : Stp L ρ h H ρ1 h1 H1) : ∀ {xs : List Vl} {vs : List V}, RVs (Pr L ρ h) ρ H xs vs → RVs (Pr L ρ1 h1) ρ1 H1 xs vs
  | _, _, .nil => .nil
  | _, _, .cons a b => .cons (RV.step s a) (RVs.step s b)
theorem RVs.length {P : Addr → Prop} : ∀ {xs : List Vl} {vs : List V}, RVs P ρ H xs vs → xs.length = vs.length
  | _, _, .nil => rfl
  | _, _, .cons _ t => by rw [List.length_cons, List.length_cons, RVs.length t]
theorem ER.step (s : Stp L ρ h H ρ1 h1 H1) {en : Env} {σ : L2.St} (r : ER (Pr L ρ h) ρ H en σ) : ER (Pr L ρ1 h1) ρ1 H1 en σ :=
  ⟨r.len, fun i x e => let ⟨v, e1, e2⟩ := r.at_ i x e; ⟨v, e1, RV.step s e2⟩⟩
theorem ER.set {P : Addr → Prop} {en : Env} {σ : L2.St} (r : ER P ρ H en σ) {i : Nat} {x : Vl} {v : V} (q : RV P ρ H x v) : ER P ρ H (en.set i (some x)) (σ.set i (some v)) := by
  refine ⟨by rw [List.length_set, List.length_set]; exact r.len, fun j y e => ?_⟩
  by_cases hij : i = j
  · subst hij
    by_cases hl : i < en.length
    · rw [List.getElem?_set_self hl] at e
      cases e
      exact ⟨v, List.getElem?_set_self (by rw [← r.len]; exact hl), q⟩
    · rw [List.getElem?_eq_none (by simpa using hl)] at e; cases e
  · rw [List.getElem?_set_ne hij] at e
    obtain ⟨w, e1, e2⟩ := r.at_ j y e
    exact ⟨w, by rw [List.getElem?_set_ne hij]; exact e1, e2⟩
theorem ER.none_ {P : Addr → Prop} {en : Env} {σ : L2.St} (r : ER P ρ H en σ) (i : Nat) : ER P ρ H (en.set i none) (σ.set i none) := by
  refine ⟨by rw [List.length_set, List.length_set]; exact r.len, fun j y e => ?_⟩
  by_cases hij : i = j
  · subst hij
    by_cases hl : i < en.length
    · rw [List.getElem?_set_self hl] at e; cases e
    · rw [List.getElem?_eq_none (by simpa using hl)] at e; cases e
  · rw [List.getElem?_set_ne hij] at e
    obtain ⟨w, e1, e2⟩ := r.at_ j y e
    exact ⟨w, by rw [List.getElem?_set_ne hij]; exact e1, e2⟩
theorem ER.wipe {P : Addr → Prop} {en : Env} {σ : L2.St} (r : ER P ρ H en σ) : ∀ vs : List Nat, ER P ρ H (Jr.wipe en vs) (L2.wipe σ vs)
  | [] => r
  | v :: vs => (ER.wipe r vs).none_ v
theorem HR.pr_tracked (hr : HR K L ρ h H) {a : Addr} (n : H a = none) : ¬ Pr L ρ h a := by
  rintro (l | ⟨i, c, e1, e2, e3⟩)
  · exact hr.ltr a l n
  · have q := hr.cell i a c e1 e2
    cases c with
    | dead => cases e3
    | ro ds => cases e3
    | lst ds => obtain ⟨vs, e, _⟩ := q; rw [n] at e; cases e
    | dct _ ds => exact DK.some q n
theorem CR.gr {P P' : Addr → Prop} {a : Addr} (g : Gr P H P' H1) (k : H1 a = H a) : ∀ {c : Cell}, CR K P H a c → CR K P' H1 a c
  | .dead, _ => trivial
  | .ro ds, ⟨vs, o, z, r⟩ => ⟨vs, o.imp (fun ⟨np, o, e⟩ => ⟨(g _ _ e np).2, o, (g _ _ e np).1⟩) id, z, RDs.gr g _ _ r⟩
  | .lst ds, ⟨vs, e, z, r⟩ => ⟨vs, k.trans e, z, RDs.gr g _ _ r⟩
  | .dct _ ds, q => DK.move g k q
/-- a new object that is not mine -/
theorem HR.new (hr : HR K L ρ h H) {p : Addr} {o : HO} (n : H p = none) : HR K L ρ h (upd H p o) ∧ Stp L ρ h H ρ h (upd H p o) := by
  have g : Gr (Pr L ρ h) H (Pr L ρ h) (upd H p o) := fun a u e q => ⟨by rw [upd_ne (ne_of_none e n)]; exact e, q⟩
  have ne : ∀ a, L a → a ≠ p := fun a l z => hr.ltr a l (by rw [z]; exact n)
  refine ⟨⟨hr.len, hr.nd, hr.dis, fun a l => ?_, fun i a c e1 e2 => ?_⟩, g, fun a l => ?_, fun _ _ e => e⟩
  · rw [upd_ne (ne a l)]; exact hr.ltr a l
  · have q := hr.cell i a c e1 e2
    cases c with
    | dead => trivial
    | ro ds => obtain ⟨vs, x, z, r⟩ := q; exact ⟨vs, x.imp (fun ⟨np, u, e⟩ => ⟨np, u, (g _ _ e np).1⟩) id, z, RDs.gr g _ _ r⟩
    | lst ds => obtain ⟨vs, e, z, r⟩ := q; exact ⟨vs, by rw [upd_ne (ne_of_none e n)]; exact e, z, RDs.gr g _ _ r⟩
    | dct _ ds => exact DK.move g (upd_ne fun z => DK.some q (by rw [z]; exact n)) q
  · exact upd_ne (ne a l)
/-- a new cell -/
theorem HR.cellNew (hr : HR K L ρ h H) {p : Addr} {ds : List D} {vs : List V} (n : H p = none) (z : ds.length ≤ sizeLine) (r : RDs (Pr L ρ h) H ds vs) :
    HR K L (ρ ++ [p]) (h ++ [.lst ds]) (upd H p (.lst vs)) ∧ Stp L ρ h H (ρ ++ [p]) (h ++ [.lst ds]) (upd H p (.lst vs)) := by
  have lt : ∀ {i : Nat} {c : Cell}, h[i]? = some c → i < h.length := fun {i c} e => by
    rcases Nat.lt_or_ge i h.length with q | q
    · exact q
    · rw [List.getElem?_eq_none q] at e; cases e
  have ne : ∀ a, L a → a ≠ p := fun a l z => hr.ltr a l (by rw [z]; exact n)
  have old : ∀ {i : Nat} {a : Addr} {c : Cell}, (ρ ++ [p])[i]? = some a → (h ++ [Cell.lst ds])[i]? = some c → (i < h.length ∧ ρ[i]? = some a ∧ h[i]? = some c) ∨ (i = h.length ∧ a = p ∧ c = .lst ds) := fun {i a c} e1 e2 => by
    rcases Nat.lt_trichotomy i h.length with q | q | q
    · rw [List.getElem?_append_left (by rw [hr.len]; exact q)] at e1
      rw [List.getElem?_append_left q] at e2
      exact .inl ⟨q, e1, e2⟩
    · subst q
      rw [← hr.len, List.getElem?_append_right (Nat.le_refl _), Nat.sub_self] at e1
      rw [List.getElem?_append_right (Nat.le_refl _), Nat.sub_self] at e2
      cases e1; cases e2
      exact .inr ⟨rfl, rfl, rfl⟩
    · rw [List.getElem?_eq_none (by rw [List.length_append]; exact q)] at e2; cases e2
  have nlive : ∀ {i : Nat} {c : Cell}, ρ[i]? = some p → h[i]? = some c → live c = true → False := fun {i c} e1 e2 e3 => hr.pr_tracked n (.inr ⟨i, c, e1, e2, e3⟩)
  have prs : ∀ a, a ≠ p → ¬ Pr L ρ h a → ¬ Pr L (ρ ++ [p]) (h ++ [.lst ds]) a := fun a ne np => by
    rintro (l | ⟨i, c, e1, e2, e3⟩)
    · exact np (.inl l)
    · rcases old e1 e2 with ⟨_, f1, f2⟩ | ⟨_, f1, _⟩
      · exact np (.inr ⟨i, c, f1, f2, e3⟩)
      · exact ne f1
  have g : Gr (Pr L ρ h) H (Pr L (ρ ++ [p]) (h ++ [.lst ds])) (upd H p (.lst vs)) := fun a u e q => ⟨by rw [upd_ne (ne_of_none e n)]; exact e, prs a (ne_of_none e n) q⟩
  refine ⟨⟨by rw [List.length_append, List.length_append, hr.len]; rfl, fun i j a ci cj e1 e2 e3 e4 l1 l2 => ?_, fun i a c e1 e2 e3 l => ?_, fun a l => by rw [upd_ne (ne a l)]; exact hr.ltr a l, fun i a c e1 e2 => ?_⟩, g, fun a l => upd_ne (ne a l), fun i a e => ?_⟩
  · rcases old e1 e3 with ⟨_, f1, f2⟩ | ⟨f0, f1, f2⟩
    · rcases old e2 e4 with ⟨_, g1, g2⟩ | ⟨g0, g1, g2⟩
      · exact hr.nd i j a ci cj f1 g1 f2 g2 l1 l2
      · subst g1; exact (nlive f1 f2 l1).elim
    · rcases old e2 e4 with ⟨_, g1, g2⟩ | ⟨g0, g1, g2⟩
      · subst f1; exact (nlive g1 g2 l2).elim
      · rw [f0, g0]
  · rcases old e1 e2 with ⟨_, f1, f2⟩ | ⟨f0, f1, f2⟩
    · exact hr.dis i a c f1 f2 e3 l
    · exact ne a l f1
  · rcases old e1 e2 with ⟨_, f1, f2⟩ | ⟨f0, f1, f2⟩
    · have q := hr.cell i a c f1 f2
      cases c with
      | dead => trivial
      | ro es => obtain ⟨ws, x, z, r⟩ := q; exact ⟨ws, x.imp (fun ⟨np, u, e⟩ => ⟨(g _ _ e np).2, u, (g _ _ e np).1⟩) id, z, RDs.gr g _ _ r⟩
      | lst es => obtain ⟨ws, e, z, r⟩ := q; exact ⟨ws, by rw [upd_ne (ne_of_none e n)]; exact e, z, RDs.gr g _ _ r⟩
      | dct _ es => exact DK.move g (upd_ne fun z => DK.some q (by rw [z]; exact n)) q
    · subst f1; subst f2
      exact ⟨vs, upd_same, z, RDs.gr g _ _ r⟩
  · rw [List.getElem?_append_left (by
      rcases Nat.lt_or_ge i ρ.length with q | q
      · exact q
      · rw [List.getElem?_eq_none q] at e; cases e)]
    exact e
/-- a live cell is written (or becomes dead) -/
theorem HR.cellSet (hr : HR K L ρ h H) {n : Nat} {p : Addr} {c0 : Cell} {ds : List D} {vs : List V} (e1 : ρ[n]? = some p) (e2 : h[n]? = some c0) (lv : live c0 = true) (z : ds.length ≤ sizeLine) (r : RDs (Pr L ρ h) H ds vs) :
    HR K L ρ (h.set n (.lst ds)) (upd H p (.lst vs)) ∧ Stp L ρ h H ρ (h.set n (.lst ds)) (upd H p (.lst vs)) := by
  have lt : n < h.length := by
    rcases Nat.lt_or_ge n h.length with q | q
    · exact q
    · rw [List.getElem?_eq_none q] at e2; cases e2
  have pp : Pr L ρ h p := .inr ⟨n, c0, e1, e2, lv⟩
  have ne : ∀ a, L a → a ≠ p := fun a l z => hr.dis n p c0 e1 e2 lv (z ▸ l)
  have old : ∀ {i : Nat} {c : Cell}, (h.set n (.lst ds))[i]? = some c → (i = n ∧ c = .lst ds) ∨ (i ≠ n ∧ h[i]? = some c) := fun {i c} e => by
    by_cases q : n = i
    · subst q
      rw [List.getElem?_set_self lt] at e
      cases e
      exact .inl ⟨rfl, rfl⟩
    · rw [List.getElem?_set_ne q] at e
      exact .inr ⟨fun z => q z.symm, e⟩
  have prs : ∀ a, ¬ Pr L ρ h a → ¬ Pr L ρ (h.set n (.lst ds)) a := fun a np => by
    rintro (l | ⟨i, c, f1, f2, f3⟩)
    · exact np (.inl l)
    · rcases old f2 with ⟨rfl, _⟩ | ⟨_, g⟩
      · exact np (.inr ⟨_, c0, f1, e2, lv⟩)
      · exact np (.inr ⟨i, c, f1, g, f3⟩)
  have nep : ∀ a, ¬ Pr L ρ h a → a ≠ p := fun a np z => np (z ▸ pp)
  have g : Gr (Pr L ρ h) H (Pr L ρ (h.set n (.lst ds))) (upd H p (.lst vs)) := fun a u e q => ⟨by rw [upd_ne (nep a q)]; exact e, prs a q⟩
  have lv0 : ∀ {i : Nat} {c : Cell}, (h.set n (.lst ds))[i]? = some c → live c = true → ∃ c', h[i]? = some c' ∧ live c' = true := fun {i c} e l => by
    rcases old e with ⟨rfl, _⟩ | ⟨_, g⟩
    · exact ⟨c0, e2, lv⟩
    · exact ⟨c, g, l⟩
  refine ⟨⟨by rw [List.length_set]; exact hr.len, fun i j a ci cj f1 f2 f3 f4 l1 l2 => ?_, fun i a c f1 f2 f3 => ?_, fun a l => by rw [upd_ne (ne a l)]; exact hr.ltr a l, fun i a c f1 f2 => ?_⟩, g, fun a l => upd_ne (ne a l), fun _ _ e => e⟩
  · obtain ⟨c1, g1, m1⟩ := lv0 f3 l1
    obtain ⟨c2, g2, m2⟩ := lv0 f4 l2
    exact hr.nd i j a c1 c2 f1 f2 g1 g2 m1 m2
  · obtain ⟨c1, g1, m1⟩ := lv0 f2 f3
    exact hr.dis i a c1 f1 g1 m1
  · rcases old f2 with ⟨rfl, rfl⟩ | ⟨hn, g1⟩
    · rw [e1] at f1; cases f1
      exact ⟨vs, upd_same, z, RDs.gr g _ _ r⟩
    · have q := hr.cell i a c f1 g1
      have nea : live c = true → a ≠ p := fun l z => by
        subst z
        exact hn (hr.nd i n a c c0 f1 e1 g1 e2 l lv)
      cases c with
      | dead => trivial
      | ro es => obtain ⟨ws, x, z, r⟩ := q; exact ⟨ws, x.imp (fun ⟨np, u, e⟩ => ⟨(g _ _ e np).2, u, (g _ _ e np).1⟩) id, z, RDs.gr g _ _ r⟩
      | lst es => obtain ⟨ws, e, z, r⟩ := q; exact ⟨ws, by rw [upd_ne (nea rfl)]; exact e, z, RDs.gr g _ _ r⟩
      | dct _ es => exact DK.move g (upd_ne (nea rfl)) q
theorem HR.cellDead (hr : HR K L ρ h H) (n : Nat) : HR K L ρ (h.set n .dead) H ∧ Stp L ρ h H ρ (h.set n .dead) H := by
  have old : ∀ {i : Nat} {c : Cell}, (h.set n .dead)[i]? = some c → c = .dead ∨ (i ≠ n ∧ h[i]? = some c) := fun {i c} e => by
    by_cases q : n = i
    · subst q
      rcases Nat.lt_or_ge n h.length with lt | ge
      · rw [List.getElem?_set_self lt] at e
        cases e
        exact .inl rfl
      · rw [List.getElem?_eq_none (by rw [List.length_set]; exact ge)] at e; cases e
    · rw [List.getElem?_set_ne q] at e
      exact .inr ⟨fun z => q z.symm, e⟩
  have lv0 : ∀ {i : Nat} {c : Cell}, (h.set n .dead)[i]? = some c → live c = true → h[i]? = some c := fun {i c} e l => by
    rcases old e with rfl | ⟨_, g⟩
    · cases l
    · exact g
  have g : Gr (Pr L ρ h) H (Pr L ρ (h.set n .dead)) H := fun a u e q => ⟨e, by
    rintro (l | ⟨i, c, f1, f2, f3⟩)
    · exact q (.inl l)
    · exact q (.inr ⟨i, c, f1, lv0 f2 f3, f3⟩)⟩
  refine ⟨⟨by rw [List.length_set]; exact hr.len, fun i j a ci cj f1 f2 f3 f4 l1 l2 => hr.nd i j a ci cj f1 f2 (lv0 f3 l1) (lv0 f4 l2) l1 l2, fun i a c f1 f2 f3 => hr.dis i a c f1 (lv0 f2 f3) f3, hr.ltr, fun i a c f1 f2 => ?_⟩, g, fun _ _ => rfl, fun _ _ e => e⟩
  rcases old f2 with rfl | ⟨_, g1⟩
  · trivial
  · exact CR.gr g rfl (hr.cell i a c f1 g1)
theorem HR.trunc (hr : HR K L ρ h H) (hr1 : HR K L ρ1 h1 H1) (s : Stp L ρ h H ρ1 h1 H1) : HR K L (ρ1.take h.length) (h1.take h.length) H1 ∧ Stp L ρ h H (ρ1.take h.length) (h1.take h.length) H1 ∧ Gr (Pr L ρ1 h1) H1 (Pr L (ρ1.take h.length) (h1.take h.length)) H1 := by
  have up : ∀ {α : Type} {l : List α} {m i : Nat} {x : α}, (l.take m)[i]? = some x → l[i]? = some x := fun {α l m i x} e => by
    rw [List.getElem?_take] at e
    split at e
    · exact e
    · cases e
  have prs : ∀ a, ¬ Pr L ρ1 h1 a → ¬ Pr L (ρ1.take h.length) (h1.take h.length) a := fun a np => by
    rintro (l | ⟨i, c, e1, e2, e3⟩)
    · exact np (.inl l)
    · exact np (.inr ⟨i, c, up e1, up e2, e3⟩)
  have g : Gr (Pr L ρ1 h1) H1 (Pr L (ρ1.take h.length) (h1.take h.length)) H1 := fun a u e q => ⟨e, prs a q⟩
  refine ⟨⟨?_, fun i j a ci cj e1 e2 e3 e4 l1 l2 => hr1.nd i j a ci cj (up e1) (up e2) (up e3) (up e4) l1 l2, fun i a c e1 e2 l => hr1.dis i a c (up e1) (up e2) l, hr1.ltr, fun i a c e1 e2 => CR.gr g rfl (hr1.cell i a c (up e1) (up e2))⟩,
    ⟨fun a o e n => let ⟨e1, n1⟩ := s.gr a o e n; ⟨e1, prs a n1⟩, s.fix, fun i a e => ?_⟩, g⟩
  · rw [List.length_take, List.length_take, hr1.len]
  · have lt : i < h.length := by
      rcases Nat.lt_or_ge i h.length with q | q
      · exact q
      · rw [List.getElem?_eq_none (by rw [hr.len]; exact q)] at e; cases e
    rw [List.getElem?_take, if_pos lt]
    exact s.pre i a e
theorem HR.np (hr : HR K L ρ h H) {p : Addr} (n : H p = none) : ¬ Pr L ρ h p := hr.pr_tracked n
end
end Jr

set_option Elab.async false
set_option linter.all false
set_option maxRecDepth 100000
set_option maxHeartbeats 1000000
namespace Jr
open PySem PySem.Spec PyProof.Rows L2
/-! ### outcomes -/
/-- an outcome of the pure meaning against what is wanted of the machine's: rel relates the results in the state behind -/
def Out {α τ : Type} (K : PySem.W.Frag) (C : Nat → Option Value) (L : Addr → Prop) (ρ : List Addr) (h : Hh) (H : Hp) (rel : List Addr → Hh → Hp → α → τ → Prop) (E : Value → Option Addr → Hp → Prop) (r : Option (R α × Hh)) (Q : τ → Hp → Prop) : Prop :=
  match r with
  | none => False
  | some (.ok x, h') => ∀ ρ' H' v, HR K L ρ' h' H' → Stp L ρ h H ρ' h' H' → rel ρ' h' H' x v → Q v H'
  | some (.exc c, h') => ∀ cv, C c = some cv → ∀ ρ' H' d, HR K L ρ' h' H' → Stp L ρ h H ρ' h' H' → E cv d H'
section
variable {α β τ υ : Type} {K : PySem.W.Frag} {C : Nat → Option Value} {L : Addr → Prop} {ρ ρ1 : List Addr} {h h1 : Hh} {H H1 : Hp} {E : Value → Option Addr → Hp → Prop}
theorem Out.rebase {rel : List Addr → Hh → Hp → α → τ → Prop} {r : Option (R α × Hh)} {Q : τ → Hp → Prop} (s : Stp L ρ h H ρ1 h1 H1) (o : Out K C L ρ h H rel E r Q) : Out K C L ρ1 h1 H1 rel E r Q := by
  match r, o with
  | some (.ok x, h'), o => exact fun ρ' H' v a b c => o ρ' H' v a (s.trans b) c
  | some (.exc c, h'), o => exact fun cv hc ρ' H' d a b => o cv hc ρ' H' d a (s.trans b)
theorem Out.mono {rel : List Addr → Hh → Hp → α → τ → Prop} {r : Option (R α × Hh)} {Q Q' : τ → Hp → Prop} (o : Out K C L ρ h H rel E r Q) (q : ∀ v H', Q v H' → Q' v H') : Out K C L ρ h H rel E r Q' := by
  match r, o with
  | some (.ok x, h'), o => exact fun ρ' H' v a b c => q _ _ (o ρ' H' v a b c)
  | some (.exc c, h'), o => exact o
/-- the first part of a chain -/
theorem Out.split {rel : List Addr → Hh → Hp → α → τ → Prop} {rel' : List Addr → Hh → Hp → β → υ → Prop} {m : M α} {f : α → M β} {Q : υ → Hp → Prop} (o : Out K C L ρ h H rel' E (M.bind m f h) Q) :
    Out K C L ρ h H rel E (m h) (fun v H1 => ∃ ρ1 h1 x, HR K L ρ1 h1 H1 ∧ Stp L ρ h H ρ1 h1 H1 ∧ rel ρ1 h1 H1 x v ∧ Out K C L ρ1 h1 H1 rel' E (f x h1) Q) := by
  unfold M.bind at o
  cases e : m h with
  | none => rw [e] at o; exact o
  | some p =>
    obtain ⟨r, h'⟩ := p
    rw [e] at o
    cases r with
    | ok x => exact fun ρ' H' v a b c => ⟨ρ', h', x, a, b, c, o.rebase b⟩
    | exc c => exact o
/-- a step that stays -/
theorem Out.at_ {rel' : List Addr → Hh → Hp → β → υ → Prop} {m : M α} {f : α → M β} {Q : υ → Hp → Prop} {x : α} (e : m h = some (.ok x, h)) (o : Out K C L ρ h H rel' E (M.bind m f h) Q) : Out K C L ρ h H rel' E (f x h) Q := by
  unfold M.bind at o
  rw [e] at o
  exact o
theorem Out.ofO {rel' : List Addr → Hh → Hp → β → υ → Prop} {m : Option α} {f : α → M β} {Q : υ → Hp → Prop} (o : Out K C L ρ h H rel' E (M.bind (Jr.ofO m) f h) Q) : ∃ x, m = some x ∧ Out K C L ρ h H rel' E (f x h) Q := by
  cases m with
  | none => exact False.elim o
  | some x => exact ⟨x, rfl, o⟩
end
/-- a value as it reads now (a cell's content too) -/
def RT (K : PySem.W.Frag) (P : Addr → Prop) (H : Hp) : D → V → Prop
  | .list ds, v => ∃ p vs, v = .ref p ∧ SqL K H p vs ∧ ds.length ≤ sizeLine ∧ RDs P H ds vs
  | d, v => RD P H d v
section
variable {α β τ υ : Type} {K : PySem.W.Frag} {C : Nat → Option Value} {L : Addr → Prop} {ρ ρ1 : List Addr} {h h1 : Hh} {H H1 : Hp} {E : Value → Option Addr → Hp → Prop}
theorem RD.rt {P : Addr → Prop} {d : D} {v : V} (r : RD P H d v) : RT K P H d v := by
  cases r with
  | lst a b z c => exact ⟨_, _, rfl, .inl (.inl b), z, c⟩
  | non => exact RD.non
  | bool b => exact RD.bool b
  | int i => exact RD.int i
  | str x ok => exact RD.str x ok
  | tup a b z c => exact RD.tup a b z c
theorem CR.rt {P : Addr → Prop} {a : Addr} {c : Cell} {d : D} (q : CR K P H a c) (e : rdC c = some d) : RT K P H d (.ref a) := by
  cases c with
  | dead => cases e
  | ro ds =>
    cases e
    obtain ⟨vs, o, z, r⟩ := q
    refine ⟨a, vs, rfl, ?_, z, r⟩
    rcases o with ⟨_, o, e⟩ | o
    · exact .inl (.inr ⟨o, e⟩)
    · exact .inr o
  | lst ds => cases e; obtain ⟨vs, e, z, r⟩ := q; exact ⟨a, vs, rfl, .inl (.inl e), z, r⟩
  | dct _ ds => cases e
/-- reading -/
theorem Out.rd {rel' : List Addr → Hh → Hp → β → υ → Prop} {x : Vl} {v : V} {f : D → M β} {Q : υ → Hp → Prop} (hr : HR K L ρ h H) (rv : RV (Pr L ρ h) ρ H x v) (o : Out K C L ρ h H rel' E (M.bind (Jr.rd x) f h) Q) :
    ∃ d, RT K (Pr L ρ h) H d v ∧ Out K C L ρ h H rel' E (f d h) Q := by
  cases x with
  | d x => exact ⟨x, rv.rt, o⟩
  | k _ n => exact False.elim o
  | r n =>
    obtain ⟨a, e1, rfl⟩ := rv
    have e0 : Jr.rd (.r n) h = (h[n]?.bind rdC).map fun x => (R.ok x, h) := rfl
    cases e2 : h[n]? with
    | none =>
      rw [e2] at e0
      unfold M.bind at o
      rw [e0] at o
      exact False.elim o
    | some c =>
      rw [e2] at e0
      cases e3 : rdC c with
      | none =>
        rw [Option.bind_some, e3] at e0
        unfold M.bind at o
        rw [e0] at o
        exact False.elim o
      | some d =>
        rw [Option.bind_some, e3] at e0
        exact ⟨d, (hr.cell n a c e1 e2).rt e3, Out.at_ e0 o⟩
theorem Out.asD {rel' : List Addr → Hh → Hp → β → υ → Prop} {x : Vl} {v : V} {f : D → M β} {Q : υ → Hp → Prop} (rv : RV (Pr L ρ h) ρ H x v) (o : Out K C L ρ h H rel' E (M.bind (Jr.asD x) f h) Q) :
    ∃ d, x = .d d ∧ RD (Pr L ρ h) H d v ∧ Out K C L ρ h H rel' E (f d h) Q := by
  cases x with
  | d x => exact ⟨x, rfl, rv, o⟩
  | r n => exact False.elim o
  | k _ n => exact False.elim o
/-- an end with data -/
def Ret (K : PySem.W.Frag) (L : Addr → Prop) (ρ : List Addr) (h : Hh) (H : Hp) (c : D) (Q : VK) : Prop := ∀ u H', HR K L ρ h H' → Stp L ρ h H ρ h H' → RD (Pr L ρ h) H' c u → Q u H'
abbrev relV (L : Addr → Prop) : List Addr → Hh → Hp → Vl → V → Prop := fun ρ h H x v => RV (Pr L ρ h) ρ H x v
abbrev relVs (L : Addr → Prop) : List Addr → Hh → Hp → List Vl → List V → Prop := fun ρ h H x v => RVs (Pr L ρ h) ρ H x v
abbrev relB : List Addr → Hh → Hp → Bool → Bool → Prop := fun _ _ _ b c => b = c
theorem Out.pD {c : D} {Q : VK} (hr : HR K L ρ h H) (o : Out K C L ρ h H (relV L) E (Jr.pD c h) Q) : Ret K L ρ h H c Q := fun u H' hr' s r => o ρ H' u hr' s r
theorem Out.pO {c : Option D} {Q : VK} (hr : HR K L ρ h H) (o : Out K C L ρ h H (relV L) E (Jr.pO c h) Q) : ∃ d, c = some d ∧ Ret K L ρ h H d Q := by
  obtain ⟨d, e, o⟩ := Out.ofO o
  exact ⟨d, e, Out.pD hr o⟩
theorem Ret.here {c : D} {Q : VK} {u : V} (q : Ret K L ρ h H c Q) (hr : HR K L ρ h H) (r : RD (Pr L ρ h) H c u) : Q u H := q u H hr Stp.refl r
/-- a new tuple -/
theorem Ret.tup {ds : List D} {vs : List V} {Q : VK} (q : Ret K L ρ h H (.tuple ds) Q) (hr : HR K L ρ h H) (z : ds.length ≤ sizeLine) (r : RDs (Pr L ρ h) H ds vs) : ∀ p o, o.dict = none → H p = none → Q (.ref p) (upd H p (.frz o (.tup vs))) := fun p o d n => by
  obtain ⟨hr', s⟩ := hr.new (o := .frz o (.tup vs)) n
  exact q _ _ hr' s (.tup (hr.np n) (.upd d) z (RDs.gr s.gr _ _ r))
theorem Ret.lst {ds : List D} {vs : List V} {Q : VK} (q : Ret K L ρ h H (.list ds) Q) (hr : HR K L ρ h H) (z : ds.length ≤ sizeLine) (r : RDs (Pr L ρ h) H ds vs) : ∀ p, H p = none → Q (.ref p) (upd H p (.lst vs)) := fun p n => by
  obtain ⟨hr', s⟩ := hr.new (o := .lst vs) n
  exact q _ _ hr' s (.lst (hr.np n) upd_same z (RDs.gr s.gr _ _ r))
end
/-! ### readings -/
/-- an expression's: a state that the pure one stands for -/
def tE (C : Nat → Option Value) (ev : Env → M Vl) (K : PySem.W.Frag) (W : WX) : TE := fun σ H Q => ∃ L ρ h en, HR K L ρ h H ∧ ER (Pr L ρ h) ρ H en σ ∧ Out K C L ρ h H (relV L) (fun c d H' => W c d σ H') (ev en h) Q
def tEs (C : Nat → Option Value) (ev : Env → M (List Vl)) (K : PySem.W.Frag) (W : WX) : TA := fun σ H Q => ∃ L ρ h en, HR K L ρ h H ∧ ER (Pr L ρ h) ρ H en σ ∧ Out K C L ρ h H (relVs L) (fun c d H' => W c d σ H') (ev en h) Q
def tT (C : Nat → Option Value) (ev : Env → M Bool) (K : PySem.W.Frag) (W : WX) : TT := fun σ H Q => ∃ L ρ h en, HR K L ρ h H ∧ ER (Pr L ρ h) ρ H en σ ∧ Out K C L ρ h H relB (fun c d H' => W c d σ H') (ev en h) Q
theorem pei {X : Cx} {e : Expr} {t t' : TE} (p : PE X e t) (i : ∀ σ H Q, t' σ H Q → t σ H Q) : PE X e t' := ⟨fun pins s σ H Q I h => p.run pins s σ H Q I (i σ H Q h)⟩
theorem pti {X : Cx} {e : Expr} {t t' : TT} (p : PT X e t) (i : ∀ σ H Q, t' σ H Q → t σ H Q) : PT X e t' := ⟨fun pins s σ H Q I h => p.run pins s σ H Q I (i σ H Q h)⟩
theorem pai {X : Cx} {e : List Expr} {t t' : TA} (p : PA X e t) (i : ∀ σ H Q, t' σ H Q → t σ H Q) : PA X e t' := ⟨fun pos pins s σ H Q I h => p.run pos pins s σ H Q I (i σ H Q h)⟩
section
variable {X : Cx} {C : Nat → Option Value} {W : WX} {a b c : Expr} {eva evb evc : Env → M Vl} {pos : Pos}
theorem e_var {i : Nat} {x : Str} {pos : Pos} (hN : X.N[i]? = some x) (hv : Vis X.env.scope x) (hd : (x == ("__debug__" : Str)) = false) (hcd : (x == ("__classdict__" : Str)) = false) :
    PE X (.Name x pos) (tE C (varM i) X.K W) := by
  refine pei (pe_var hN hv hd hcd) fun σ H Q ⟨L, ρ, h, en, hr, er, o⟩ => ?_
  unfold varM at o
  cases e : en[i]? with
  | none => rw [e] at o; exact False.elim o
  | some y =>
    rw [e] at o
    cases y with
    | none => exact False.elim o
    | some v =>
      obtain ⟨w, e1, e2⟩ := er.at_ i v e
      exact ⟨w, e1, o ρ H w hr .refl e2⟩
theorem e_const {e : Expr} {v : V} {d : D} (p : PE X e (tC v)) (r : ∀ P H, RD P H d v) : PE X e (tE C (fun _ => pD d) X.K W) :=
  pei p fun σ H Q ⟨L, ρ, h, en, hr, er, o⟩ => (Out.pD hr o).here hr (r _ _)
theorem e_str {x : Str} {j : Nat} : PE X (.Constant (.str x) j pos) (tE C (fun _ => strM x) X.K W) :=
  pei pe_str fun σ H Q ⟨L, ρ, h, en, hr, er, o⟩ => by
    unfold strM at o
    by_cases ok : okS x = true
    · rw [if_pos ok] at o
      exact (Out.pD hr o).here hr (.str x ok)
    · rw [if_neg ok] at o
      exact False.elim o
/-- a two-place operation by values -/
def r2 (K : PySem.W.Frag) (f : D → D → Option D) : R2 := fun v w H Q => ∃ L ρ h x y d, HR K L ρ h H ∧ RT K (Pr L ρ h) H x v ∧ RT K (Pr L ρ h) H y w ∧ f x y = some d ∧ Ret K L ρ h H d Q
theorem t_op {f : D → D → Option D} : ∀ σ H Q, tE C (fun en => rd2 (eva en) (evb en) fun x y => pO (f x y)) X.K W σ H Q → tOp (r2 X.K f) (tE C eva X.K W) (tE C evb X.K W) σ H Q := fun σ H Q ⟨L, ρ, h, en, hr, er, o⟩ => by
  refine ⟨L, ρ, h, en, hr, er, (Out.split (rel := relV L) o).mono fun v H1 ⟨ρ1, h1, x, hr1, s1, rv1, o1⟩ => ?_⟩
  refine ⟨L, ρ1, h1, en, hr1, er.step s1, (Out.split (rel := relV L) o1).mono fun w H2 ⟨ρ2, h2, y, hr2, s2, rv2, o2⟩ => ?_⟩
  obtain ⟨dx, rx, o3⟩ := Out.rd hr2 (rv1.step s2) o2
  obtain ⟨dy, ry, o4⟩ := Out.rd hr2 rv2 o3
  obtain ⟨d, e, q⟩ := Out.pO hr2 o4
  exact ⟨L, ρ2, h2, dx, dy, d, hr2, rx, ry, e, q⟩
theorem e_op {o : Operator} {f : D → D → Option D} (ho : OpR X (binaryOp o) (r2 X.K f)) (ha : PE X a (tE C eva X.K W)) (hb : PE X b (tE C evb X.K W)) : PE X (.BinOp a o b pos) (tE C (fun en => rd2 (eva en) (evb en) fun x y => pO (f x y)) X.K W) :=
  pei (pe_op ho ha hb) t_op
theorem e_cmp {o : CmpOp} {f : D → D → Option D} (ho : OpR X (compareOp o) (r2 X.K f)) (ha : PE X a (tE C eva X.K W)) (hb : PE X b (tE C evb X.K W)) (hm : behindInMarks o b = false) : PE X (.Compare a [o] [b] pos) (tE C (fun en => rd2 (eva en) (evb en) fun x y => pO (f x y)) X.K W) :=
  pei (pe_cmpR ho ha hb hm) t_op
def r1 (K : PySem.W.Frag) (f : D → Option D) : V → Hp → VK → Prop := fun v H Q => ∃ L ρ h x d, HR K L ρ h H ∧ RT K (Pr L ρ h) H x v ∧ f x = some d ∧ Ret K L ρ h H d Q
theorem t_un {f : D → Option D} : ∀ σ H Q, tE C (fun en => M.bind (dd (eva en)) fun x => pO (f x)) X.K W σ H Q → tUn (r1 X.K f) (tE C eva X.K W) σ H Q := fun σ H Q ⟨L, ρ, h, en, hr, er, o⟩ => by
  have o' : Out X.K C L ρ h H (relV L) (fun c d H' => W c d σ H') (M.bind (eva en) (fun v => M.bind (Jr.rd v) fun x => pO (f x)) h) Q := by
    have e : M.bind (dd (eva en)) (fun x => pO (f x)) h = M.bind (eva en) (fun v => M.bind (Jr.rd v) fun x => pO (f x)) h := by
      unfold dd M.bind
      cases eva en h with
      | none => rfl
      | some p => obtain ⟨r, h'⟩ := p; cases r <;> rfl
    rw [← e]; exact o
  refine ⟨L, ρ, h, en, hr, er, (Out.split (rel := relV L) o').mono fun v H1 ⟨ρ1, h1, x, hr1, s1, rv1, o1⟩ => ?_⟩
  obtain ⟨dx, rx, o3⟩ := Out.rd hr1 rv1 o1
  obtain ⟨d, e, q⟩ := Out.pO hr1 o3
  exact ⟨L, ρ1, h1, dx, d, hr1, rx, e, q⟩
end
end Jr

set_option Elab.async false
set_option linter.all false
set_option maxRecDepth 100000
set_option maxHeartbeats 2000000
/-! New tuples, told with their object: they have no dict of their own. -/
namespace L2x
open PySem PySem.Spec PyProof.Rows L2
abbrev tObj (its : List Value) : Obj := { cls := .type "tuple", data := .seq its.toArray }
section
variable {X : Cx} {pins : List (Addr × Obj)} {σ : L2.St} {H : Hp} {s : Shared}
/-- a tuple is laid -/
theorem laidF (I : Inv X pins σ H s) {xs : List V} {its : List Value} (r : Vals xs its) (z : xs.length ≤ sizeLine) :
    Inv X pins σ (upd H s.heap.objs.size (.frz (tObj its) (.tup xs))) { s with heap := s.heap.push (tObj its) } ∧ H s.heap.objs.size = none :=
  ⟨I.laid (t' := s.toks) (fun _ _ q => Heap.get?_push_of_some _ q) (Nat.le_refl _) ⟨Heap.get?_push_size _ rfl, z, its, r, IsTup.new _ _⟩, I.hok.fresh (Nat.le_refl _)⟩
end
section
variable {X : Cx} {es : List Expr} {t : TA} {pos : Pos}
def tTupF (t : TA) : TE := fun σ H Q => t σ H fun xs H1 => xs.length ≤ sizeLine ∧ ∀ p o, o.dict = none → H1 p = none → Q (.ref p) (upd H1 p (.frz o (.tup xs)))
theorem pe_tupF {k} (h : PA X es t) : PE X (.Tuple es k pos) (tTupF t) := by
  refine ⟨fun pins s σ H Q I hq => wpAny_Tuple_spliced (thn (h.run pos pins s σ H _ I hq) fun us s1 ⟨xs, H1, I1, r, z, q⟩ => ⟨by rw [← r.length]; exact z, ?_⟩)⟩
  obtain ⟨I2, n⟩ := laidF I1 r z
  exact ⟨.ref _, _, I2, rfl, q _ (tObj _) rfl n⟩
def rCatF (K : PySem.W.Frag) : R2 := fun x y H Q => ∃ a b xs ys, x = .ref a ∧ y = .ref b ∧ SqT K H a xs ∧ SqT K H b ys ∧ xs.length + ys.length ≤ sizeLine ∧
  (xs = [] → Q (.ref b) H) ∧ (xs ≠ [] → ys = [] → Q (.ref a) H) ∧ (xs ≠ [] → ys ≠ [] → ∀ p o, o.dict = none → H p = none → Q (.ref p) (upd H p (.frz o (.tup (xs ++ ys)))))
theorem op_catF : OpR X (binaryOp .Add) (rCatF X.K) := by
  rintro pins s σ H x y v u Q I rx ry ⟨a, b, xs, ys, rfl, rfl, ha, hb, hz, q0, q1, q2⟩
  cases rx
  cases ry
  obtain ⟨l1, r1, p1, _⟩ := I.tuple ha
  obtain ⟨l2, r2, p2, _⟩ := I.tuple hb
  by_cases hx : xs = []
  · subst hx
    cases r1
    exact cat_tup0 p1 p2 ⟨.ref b, H, I, rfl, q0 rfl⟩
  · have n2 := r2.nil_iff
    refine HT.cat_tup p1 p2 (fun z => hx (r1.nil_iff.mp z)) (fun z => ⟨.ref a, _, I, rfl, q1 hx (n2.mp z)⟩) (fun z => ?_) (by rw [← r1.length, ← r2.length]; exact hz)
    obtain ⟨I2, n⟩ := laidF I (r1.append r2) (by rw [List.length_append]; exact hz)
    exact ⟨.ref _, _, I2, rfl, q2 hx (fun w => z (n2.mpr w)) _ (tObj _) rfl n⟩
def rSlF (K : PySem.W.Frag) : V → Option Int → Option Int → Hp → VK → Prop := fun x lo hi H Q => ∃ a xs, x = .ref a ∧ SqT K H a xs ∧
  (HT.sIx xs.length 0 lo = 0 ∧ HT.sIx xs.length xs.length hi = xs.length → Q (.ref a) H) ∧
  (¬ (HT.sIx xs.length 0 lo = 0 ∧ HT.sIx xs.length xs.length hi = xs.length) → ∀ p o, o.dict = none → H p = none → Q (.ref p) (upd H p (.frz o (.tup (cutV xs lo hi)))))
theorem sl_tupF : SlR X (rSlF X.K) := by
  rintro pins s σ H x v vl vu lo hi sl Q I rx hs pl pu ⟨a, xs, rfl, hx, q1, q2⟩
  cases rx
  obtain ⟨its, r, ht, hz⟩ := I.tuple hx
  have hlen : its.toArray.size = xs.length := (List.size_toArray ..).trans r.length.symm
  refine ⟨"tuple", _, PyProof.Rows.slot_tuple_getitem.lookup, ht.typeIs, ?_⟩
  by_cases hw : HT.sIx xs.length 0 lo = 0 ∧ HT.sIx xs.length xs.length hi = xs.length
  · exact getItem_tuple_whole ht hs pl pu (by rw [hlen]; exact hw) ⟨.ref a, H, I, rfl, q1 hw⟩
  · refine HT.getItem_tuple_cut ht hs pl pu (by rw [hlen]; exact hw) ?_ (by rw [hlen]; exact hz)
    rw [hlen]
    obtain ⟨I2, n⟩ := laidF I ((r.drop (HT.sIx xs.length 0 lo)).take (HT.sIx xs.length xs.length hi - HT.sIx xs.length 0 lo)) (Nat.le_trans (cutV_length xs lo hi) hz)
    exact ⟨.ref _, _, I2, rfl, q2 hw _ (tObj _) rfl n⟩
theorem call_tupleF : CallR X (.type "tuple") (fun xs H Q => ∃ p ys, xs = [.ref p] ∧ ((SqL X.K H p ys ∧ ∀ l o, o.dict = none → H l = none → Q (.ref l) (upd H l (.frz o (.tup ys)))) ∨ (SqT X.K H p ys ∧ Q (.ref p) H))) := by
  rintro pins s σ H xs us Q I r ⟨p, ys, rfl, h⟩
  obtain ⟨u, rfl, rx⟩ := vals1 r
  cases rx
  rcases h with ⟨hq, q⟩ | ⟨hq, q⟩
  · obtain ⟨its, r1, pl, hz⟩ := I.list hq
    have e := r1.length
    refine call_tuple_list pl.isList (fun h' kp => ?_) (by rw [List.size_toArray] <;> omega)
    obtain ⟨I2, n⟩ := laidF (I.kept (t' := s.toks) kp) r1 hz
    exact ⟨.ref _, _, I2, rfl, q _ (tObj _) rfl n⟩
  · obtain ⟨its, _, pl, _⟩ := I.tuple hq
    exact call_tuple_same pl ⟨.ref p, _, I, rfl, q⟩
def rRepF (K : PySem.W.Frag) : R2 := fun x y H Q => ∃ l k xs, x = .ref l ∧ y = .int k ∧ SqT K H l xs ∧ xs ≠ [] ∧ 2 ≤ k ∧ k ≤ 1000 ∧ xs.length ≤ 1000 ∧ ∀ p o, o.dict = none → H p = none → Q (.ref p) (upd H p (.frz o (.tup (List.replicate k.toNat xs).flatten)))
theorem op_repF : OpR X (binaryOp .Mult) (rRepF X.K) := by
  rintro pins s σ H x y v u Q I rx ry ⟨l, k, xs, rfl, rfl, hT, hne, h1, h2, hz, q⟩
  cases rx
  obtain ⟨t, rfl⟩ := ry
  obtain ⟨its, r, ⟨⟨cls, dd, data, sl⟩, ho, hc, n, hd⟩, hs⟩ := I.tuple hT
  simp only at hc hd
  subst hc hd
  have hle : its.length = xs.length := r.length.symm
  have hi : its.toArray.isEmpty = false := by
    cases its with
    | nil => exact absurd (List.eq_nil_of_length_eq_zero hle.symm) hne
    | cons => rfl
  have e1 : its.toArray.size = xs.length := by rw [List.size_toArray, hle]
  have hm : ((its.toArray.size : Nat) : Int) * k ≤ 1000000 := by
    rw [e1]
    exact Int.le_trans (Int.mul_le_mul_of_nonneg_right (show ((xs.length : Nat) : Int) ≤ 1000 by omega) (by omega)) (by omega)
  have fl : (List.replicate k.toNat its).flatten.length ≤ sizeLine := by
    rw [PyProof.Rows.lm_len_rep_flat, hle, sizeLine_eq]
    exact Nat.le_trans (Nat.mul_le_mul (show k.toNat ≤ 1000 by omega) hz) (by omega)
  have c4 : Builtin.Tuple.tupleTooMany (((its.toArray.size : Nat) : Int) * k) = false := by
    unfold Builtin.Tuple.tupleTooMany
    exact decide_eq_false (by rw [sizeLine_eq]; omega)
  have c0 : (decide (k < -(2 ^ 63)) || decide (k ≥ 2 ^ 63)) = false := by simp; omega
  have c1 : (its.toArray.isEmpty || k == 1) = false := by rw [hi, Bool.false_or, beq_eq_false_iff_ne]; omega
  have c2 : (decide (k ≤ 0) || its.toArray.isEmpty) = false := by rw [hi, Bool.or_false, decide_eq_false_iff_not]; omega
  have mw := tuple_mulW l its.toArray n dd sl k t c0 c1 c2 (by omega) c4 (by rw [size_rep, List.size_toArray]; exact fl)
  refine wpAny_binaryOp_repeat_ref (T := "tuple") (U := "int") (by decide) ⟨_, ho, rfl⟩ (fun s1 => typeIs_int s1 k t) noFill_tuple_mul F.fills_int_mul F.slot_int_rmul repeat_tuple F.slot_int_index.lookup (call_meets F.slot_int_rmul (typeIs_int s k t) F.entry_int_rmul
    (F.args_int_rmul_2 _ _) (int_rmul_tuple k t l its.toArray n dd sl) ⟨ho, rfl, ⟨_, ho, rfl⟩, call_meets F.slot_tuple_mul ⟨_, ho, rfl⟩ F.entry_tuple_mul (F.args_tuple_mul_2 _ _) mw ⟨ho, ?_⟩⟩)
  rw [size_rep]
  obtain ⟨I2, nn⟩ := laidF I (r.rep k.toNat) (by rw [PyProof.Rows.lm_len_rep_flat, ← hle, ← PyProof.Rows.lm_len_rep_flat]; exact fl)
  exact ⟨.ref _, _, I2, rfl, q _ (tObj _) rfl nn⟩
end
end L2x

set_option Elab.async false
set_option linter.all false
set_option maxRecDepth 100000
set_option maxHeartbeats 1000000
namespace L2x
open PySem PySem.Spec PyProof.Rows L2 PySem.MeetsSeq PySem.MeetsSeq2 PySem.MeetsSeq3
/-! ### tuple * int, the two edges -/
theorem tuple_mulS (l : Addr) (items : Array Value) (n : Nat) (dd : Option Addr) (sl : Array (Option Value)) (x : Int) (u : Tok) (c0 : (decide (x < -(2 ^ 63)) || decide (x ≥ 2 ^ 63)) = false) (c1 : (items.isEmpty || x == 1) = true) :
    Meets (Builtin.«tuple.__mul__» ⟨[.ref l, .int x u], []⟩) (fun _ R s => s.heap.get? l = some { cls := .type "tuple", dict := dd, data := .seq items n, slots := sl } ∧ R (.ok (.ret (Value.ref l))) s) :=
  .of_wp fun prog w A R s h => by
    obtain ⟨hp, g, d, tk, os⟩ := s
    obtain ⟨hl, h⟩ := h
    have f1 := AutoSeq1.idx_int
    wp_walk using AutoSeq1.wpAny_loadPart' hl
    repeat (first
      | (refine wpAny_ite_false (decide_eq_false (by rw [c0]; exact Bool.false_ne_true)) ?_; wp_walk using AutoSeq1.wpAny_loadPart' hl)
      | (refine wpAny_ite_true (decide_eq_true c1) ?_; wp_walk using AutoSeq1.wpAny_loadPart' hl))
    exact ⟨_, rfl, h⟩
theorem tuple_mul0 (l : Addr) (items : Array Value) (n : Nat) (dd : Option Addr) (sl : Array (Option Value)) (u : Tok) (c1 : (items.isEmpty || (0 : Int) == 1) = false) :
    Meets (Builtin.«tuple.__mul__» ⟨[.ref l, .int 0 u], []⟩) (fun _ R s => s.heap.get? l = some { cls := .type "tuple", dict := dd, data := .seq items n, slots := sl } ∧
      R (.ok (.ret (Value.ref s.heap.objs.size))) { s with heap := s.heap.push { cls := Value.type "tuple", data := Data.seq #[] }, toks := s.toks }) :=
  .of_wp fun prog w A R s h => by
    obtain ⟨hp, g, d, tk, os⟩ := s
    obtain ⟨hl, h⟩ := h
    have f1 := AutoSeq1.idx_int
    wp_walk using AutoSeq1.wpAny_loadPart' hl
    repeat (first
      | (refine wpAny_ite_false (decide_eq_false (by rw [c1]; exact Bool.false_ne_true)) ?_; wp_walk using AutoSeq1.wpAny_loadPart' hl)
      | (refine wpAny_ite_true rfl ?_; wp_walk using AutoSeq1.wpAny_loadPart' hl)
      | (refine wpAny_ite_true (decide_eq_true rfl) ?_; wp_walk using AutoSeq1.wpAny_loadPart' hl))
    exact ⟨_, rfl, h⟩
end L2x
namespace L2x
open PySem PySem.Spec PyProof.Rows L2
def rRepA (K : PySem.W.Frag) : R2 := fun x y H Q => ∃ l k xs, x = .ref l ∧ y = .int k ∧ SqT K H l xs ∧ 0 ≤ k ∧ k ≤ 1000 ∧ xs.length ≤ 1000 ∧ ((xs = [] ∨ k = 1) → Q (.ref l) H) ∧
  (xs ≠ [] → k ≠ 1 → ∀ p o, o.dict = none → H p = none → Q (.ref p) (upd H p (.frz o (.tup (List.replicate k.toNat xs).flatten))))
theorem op_repA {X : Cx} : OpR X (binaryOp .Mult) (rRepA X.K) := by
  intro pins s σ H x y v u Q I rx ry h
  obtain ⟨l, k, xs, rfl, rfl, hT, h0, h2, hz, q1, q2⟩ := h
  by_cases hbig : xs ≠ [] ∧ 2 ≤ k
  · exact op_repF pins s σ H _ _ v u Q I rx ry ⟨l, k, xs, rfl, rfl, hT, hbig.1, hbig.2, h2, hz, q2 hbig.1 (by omega)⟩
  cases rx
  obtain ⟨t, rfl⟩ := ry
  obtain ⟨its, r, ⟨⟨cls, dd, data, sl⟩, ho, hc, n, hd⟩, hs⟩ := I.tuple hT
  simp only at hc hd
  subst hc hd
  have hle : its.length = xs.length := r.length.symm
  have c0 : (decide (k < -(2 ^ 63)) || decide (k ≥ 2 ^ 63)) = false := by
    rw [decide_eq_false (by omega), decide_eq_false (by omega)] <;> rfl
  by_cases he : xs = [] ∨ k = 1
  · have c1 : (its.toArray.isEmpty || k == 1) = true := by
      rcases he with e | e
      · subst e
        have : its = [] := List.eq_nil_of_length_eq_zero (by rw [hle]; rfl)
        subst this
        rfl
      · subst e
        simp
    refine wpAny_binaryOp_repeat_ref (T := "tuple") (U := "int") (by decide) ⟨_, ho, rfl⟩ (fun s' => typeIs_int s' k t) noFill_tuple_mul F.fills_int_mul F.slot_int_rmul repeat_tuple F.slot_int_index.lookup
      (call_meets F.slot_int_rmul (typeIs_int s k t) F.entry_int_rmul (F.args_int_rmul_2 _ _) (int_rmul_tuple k t l its.toArray n dd sl)
        ⟨ho, rfl, ⟨_, ho, rfl⟩, call_meets F.slot_tuple_mul ⟨_, ho, rfl⟩ F.entry_tuple_mul (F.args_tuple_mul_2 _ _) (tuple_mulS l its.toArray n dd sl k t c0 c1) ⟨ho, ?_⟩⟩)
    exact ⟨.ref l, H, I, rfl, q1 he⟩
  · have hk : k = 0 := by
      have a1 : xs ≠ [] := fun z => he (.inl z)
      have a2 : k ≠ 1 := fun z => he (.inr z)
      have a3 : ¬ 2 ≤ k := fun z => hbig ⟨a1, z⟩
      omega
    subst hk
    have hne : xs ≠ [] := fun z => he (.inl z)
    have hn : its ≠ [] := fun e => hne (by
      rw [e] at hle
      exact List.eq_nil_of_length_eq_zero hle.symm)
    have hi : its.toArray.isEmpty = false := by
      cases its with
      | nil => exact absurd rfl hn
      | cons a b => rfl
    have c1 : (its.toArray.isEmpty || (0 : Int) == 1) = false := by
      rw [hi, Bool.false_or]
      rfl
    refine wpAny_binaryOp_repeat_ref (T := "tuple") (U := "int") (by decide) ⟨_, ho, rfl⟩ (fun s' => typeIs_int s' 0 t) noFill_tuple_mul F.fills_int_mul F.slot_int_rmul repeat_tuple F.slot_int_index.lookup
      (call_meets F.slot_int_rmul (typeIs_int s 0 t) F.entry_int_rmul (F.args_int_rmul_2 _ _) (int_rmul_tuple 0 t l its.toArray n dd sl)
        ⟨ho, rfl, ⟨_, ho, rfl⟩, call_meets F.slot_tuple_mul ⟨_, ho, rfl⟩ F.entry_tuple_mul (F.args_tuple_mul_2 _ _) (tuple_mul0 l its.toArray n dd sl t c1) ⟨ho, ?_⟩⟩)
    obtain ⟨I2, nn⟩ := laidF I (xs := (List.replicate (0 : Int).toNat xs).flatten) .nil (Nat.zero_le _)
    exact ⟨.ref _, _, I2, rfl, q2 hne (by omega) _ (tObj _) rfl nn⟩
end L2x
namespace Jr
open PySem PySem.Spec PyProof.Rows L2
/-! ### texts that may stand -/
theorem ok_iff {x : Str} : okS x = true ↔ ∀ c ∈ x.cps.toList, c < 0x110000 := by
  unfold okS
  rw [Array.all_eq_true_iff_forall_mem]
  constructor
  · intro h c hc
    have := h c (by simpa using hc)
    simpa using this
  · intro h c hc
    simpa using h c (by simpa using hc)
theorem ok_append {x y : Str} (a : okS x = true) (b : okS y = true) : okS (x ++ y) = true := by
  rw [ok_iff] at a b ⊢
  intro c hc
  have e : (x ++ y).cps.toList = x.cps.toList ++ y.cps.toList := by
    show (x.cps ++ y.cps).toList = _
    rw [Array.toList_append]
  rw [e] at hc
  rcases List.mem_append.mp hc with h | h
  · exact a c h
  · exact b c h
theorem ok_cut {x : Str} (a : okS x = true) (lo hi : Option Int) : okS (cutS x lo hi) = true := by
  rw [ok_iff] at a ⊢
  intro c hc
  unfold cutS at hc
  simp only [List.mem_toArray] at hc
  exact a c (List.mem_of_mem_drop (List.mem_of_mem_take hc))
theorem ok_sign {x : Str} (a : okS x = true) {c : Nat} (hc : c ∈ x.cps.toList) : okS ⟨#[c]⟩ = true := by
  rw [ok_iff] at a ⊢
  intro d hd
  simp at hd
  subst hd
  exact a _ hc
theorem ok_string (z : String) : okS (Str.ofString z) = true := by
  rw [ok_iff]
  intro c hc
  unfold Str.ofString at hc
  simp only [cpsOfBytes_string] at hc
  simp only [List.mem_map] at hc
  obtain ⟨ch, _, rfl⟩ := hc
  have h := ch.valid
  simp only [UInt32.isValidChar, Nat.isValidChar] at h
  show ch.val.toNat < _
  omega
/-! ### operators -/
section
variable {X : Cx}
def opOf : BOp → Operator
  | .add => .Add
  | .sub => .Sub
  | .mul => .Mult
  | .fdiv => .FloorDiv
  | .mod => .Mod
theorem len_eq {P : Addr → Prop} {H : Hp} {ds : List D} {vs : List V} (r : RDs P H ds vs) : (vs = [] ↔ ds = []) := by
  have := r.length
  constructor
  · intro e; subst e; exact List.eq_nil_of_length_eq_zero (by simpa using this)
  · intro e; subst e; exact List.eq_nil_of_length_eq_zero (by simpa using this.symm)
theorem or_add : OpR X (binaryOp .Add) (r2 X.K addV) := by
  intro pins s σ H x y v u Q I rx ry ⟨L, ρ, h, a, b, d, hr, ra, rb, e, q⟩
  unfold addV at e
  split at e
  · rename_i i j
    cases e
    cases (show RD _ _ _ _ from ra)
    cases (show RD _ _ _ _ from rb)
    exact op_add pins s σ H _ _ v u Q I rx ry ⟨_, _, rfl, rfl, q.here hr (.int _)⟩
  · rename_i i j
    cases e
    cases (show RD _ _ _ _ from ra)
    cases (show RD _ _ _ _ from rb)
    cases rx
    obtain ⟨t, rfl⟩ := ry
    exact PySem.IntBool.add_bool_int ⟨.int _, H, I.tok _, ⟨_, rfl⟩, q.here hr (.int _)⟩
  · rename_i i j
    cases e
    cases (show RD _ _ _ _ from ra)
    cases (show RD _ _ _ _ from rb)
    obtain ⟨t, rfl⟩ := rx
    cases ry
    exact add_int_bool ⟨.int _, H, I.tok _, ⟨_, rfl⟩, q.here hr (.int _)⟩
  · rename_i i j
    split at e
    · cases e
      cases (show RD _ _ _ _ from ra) with | str _ oka =>
      cases (show RD _ _ _ _ from rb) with | str _ okb =>
      exact op_add_str pins s σ H _ _ v u Q I rx ry ⟨_, _, rfl, rfl, by assumption, q.here hr (.str _ (ok_append oka okb))⟩
    · cases e
  · rename_i xs ys
    split at e
    · rename_i hz
      cases e
      cases (show RD _ _ _ _ from ra) with | tup np1 e1 z1 r1 =>
      cases (show RD _ _ _ _ from rb) with | tup np2 e2 z2 r2 =>
      refine L2x.op_catF pins s σ H _ _ v u Q I rx ry ⟨_, _, _, _, rfl, rfl, e1.sq, e2.sq, by rw [← r1.length, ← r2.length]; exact hz, fun en => ?_, fun n1 en => ?_, fun n1 n2 => q.tup hr (by rw [List.length_append]; exact hz) (r1.append r2)⟩
      · have : xs = [] := (len_eq r1).mp en
        subst this
        exact q.here hr (.tup np2 e2 z2 r2)
      · have : ys = [] := (len_eq r2).mp en
        subst this
        rw [List.append_nil] at q
        exact q.here hr (.tup np1 e1 z1 r1)
    · cases e
  · cases e
theorem or_sub : OpR X (binaryOp .Sub) (r2 X.K subV) := by
  intro pins s σ H x y v u Q I rx ry ⟨L, ρ, h, a, b, d, hr, ra, rb, e, q⟩
  unfold subV at e
  split at e
  · cases e
    cases (show RD _ _ _ _ from ra)
    cases (show RD _ _ _ _ from rb)
    exact op_sub pins s σ H _ _ v u Q I rx ry ⟨_, _, rfl, rfl, q.here hr (.int _)⟩
  · cases e
    cases (show RD _ _ _ _ from ra)
    cases (show RD _ _ _ _ from rb)
    cases rx
    obtain ⟨t, rfl⟩ := ry
    exact PySem.IntBool.sub_bool_int ⟨.int _, H, I.tok _, ⟨_, rfl⟩, q.here hr (.int _)⟩
  · cases e
theorem or_mul : OpR X (binaryOp .Mult) (r2 X.K mulV) := by
  intro pins s σ H x y v u Q I rx ry ⟨L, ρ, h, a, b, d, hr, ra, rb, e, q⟩
  unfold mulV at e
  split at e
  · split at e
    · rename_i hz
      cases e
      cases (show RD _ _ _ _ from ra)
      cases (show RD _ _ _ _ from rb)
      exact op_mulW pins s σ H _ _ v u Q I rx ry ⟨_, _, rfl, rfl, hz, q.here hr (.int _)⟩
    · cases e
  · rename_i xs k
    split at e
    · rename_i hz
      cases e
      cases (show RD _ _ _ _ from ra) with | tup np1 e1 z1 r1 =>
      cases (show RD _ _ _ _ from rb)
      have len : ∀ (ds : List D) (k : Nat), ((List.replicate k ds).flatten).length = k * ds.length := fun ds k => PyProof.Rows.lm_len_rep_flat ..
      refine L2x.op_repA pins s σ H _ _ v u Q I rx ry ⟨_, _, _, rfl, rfl, e1.sq, hz.1, hz.2.1, by rw [← r1.length]; exact hz.2.2, fun en => ?_, fun n1 n2 => q.tup hr (by unfold reps; rw [len, sizeLine_eq]; have := Nat.mul_le_mul (show k.toNat ≤ 1000 by omega) hz.2.2; omega) (r1.rep _)⟩
      have e3 : reps xs k = xs := by
        unfold reps
        rcases en with en | en
        · have : xs = [] := (len_eq r1).mp en
          subst this
          exact List.eq_nil_of_length_eq_zero (by rw [len]; rfl)
        · subst en
          show (List.replicate 1 xs).flatten = xs
          simp
      rw [e3] at q
      exact q.here hr (.tup np1 e1 z1 r1)
    · cases e
  · rename_i z k
    split at e
    · rename_i hz
      cases (show RD _ _ _ _ from ra) with | str _ ok =>
      cases (show RD _ _ _ _ from rb)
      obtain ⟨t, rfl⟩ := rx
      obtain ⟨t2, rfl⟩ := ry
      have mk : ∀ {n : Int}, n = 0 ∨ n = 1 → MulOk z n := fun {n} h => by
        refine ⟨?_, fun h1 h2 => ?_, fun h1 h2 => ?_⟩
        · rcases h with rfl | rfl <;> decide
        · rcases h with rfl | rfl
          · exact absurd (by decide) h1
          · simp at h2
        · rcases h with rfl | rfl
          · exact absurd (by decide) h1
          · simp at h2
      by_cases k0 : k = 0
      · subst k0
        rw [if_pos rfl] at e
        cases e
        exact PySem.SB.mul (mk (.inl rfl)) fun t' k => ⟨.str _, H, I.tok _, ⟨t', by rw [show Txt.mul z 0 = Str.empty from if_pos (by decide)]⟩, q.here hr (.str _ (by decide +kernel))⟩
      · rw [if_neg k0] at e
        by_cases k1 : k = 1
        · subst k1
          rw [if_pos rfl] at e
          cases e
          exact PySem.SB.mul (mk (.inr rfl)) fun t' k => ⟨.str _, H, I.tok _, ⟨t', by rw [show Txt.mul z 1 = z from (if_neg (by decide)).trans (if_pos (by simp))]⟩, q.here hr (.str _ ok)⟩
        · rw [if_neg k1] at e; cases e
    · cases e
  · cases e
theorem or_fdiv : OpR X (binaryOp .FloorDiv) (r2 X.K fdivV) := by
  intro pins s σ H x y v u Q I rx ry ⟨L, ρ, h, a, b, d, hr, ra, rb, e, q⟩
  unfold fdivV at e
  split at e
  · split at e
    · rename_i hz
      cases e
      cases (show RD _ _ _ _ from ra)
      cases (show RD _ _ _ _ from rb)
      exact op_fdivW pins s σ H _ _ v u Q I rx ry ⟨_, _, rfl, rfl, hz, q.here hr (.int _)⟩
    · cases e
  · cases e
theorem or_mod : OpR X (binaryOp .Mod) (r2 X.K modV) := by
  intro pins s σ H x y v u Q I rx ry ⟨L, ρ, h, a, b, d, hr, ra, rb, e, q⟩
  unfold modV at e
  split at e
  · split at e
    · rename_i hz
      cases e
      cases (show RD _ _ _ _ from ra)
      cases (show RD _ _ _ _ from rb)
      exact op_mod pins s σ H _ _ v u Q I rx ry ⟨_, _, rfl, rfl, hz, q.here hr (.int _)⟩
    · cases e
  · cases e
theorem or_bin (o : BOp) : OpR X (binaryOp (opOf o)) (r2 X.K (binV o)) := by
  cases o
  · exact or_add
  · exact or_sub
  · exact or_mul
  · exact or_fdiv
  · exact or_mod
theorem ur_neg : UnR X (unaryOp .USub) (r1 X.K negV) := by
  intro pins s σ H x v Q I rx ⟨L, ρ, h, a, d, hr, ra, e, q⟩
  unfold negV at e
  split at e
  · cases e
    cases (show RD _ _ _ _ from ra)
    exact un_neg pins s σ H _ v Q I rx ⟨_, rfl, q.here hr (.int _)⟩
  · cases e
end
end Jr

set_option Elab.async false
set_option linter.all false
set_option maxRecDepth 100000
set_option maxHeartbeats 1000000
namespace Jr
open PySem PySem.Spec PyProof.Rows L2
mutual
theorem dep_eq : ∀ d : D, (toP d).depth = dep d
  | .none => rfl
  | .bool _ => rfl
  | .int _ => rfl
  | .str _ => rfl
  | .list xs => by simp only [toP, PyData.depth, dep, deps_eq xs]; try omega
  | .tuple xs => by simp only [toP, PyData.depth, dep, deps_eq xs]; try omega
theorem deps_eq : ∀ ds : List D, PyData.depthAll (toPs ds) = deps ds
  | [] => rfl
  | d :: ds => by simp only [toPs, PyData.depthAll, deps, dep_eq d, deps_eq ds]
end
mutual
theorem eqv_eq : ∀ x y : D, PyData.eqv (toP x) (toP y) = eqv x y
  | .none, y => by cases y <;> simp [toP, PyData.eqv, eqv]
  | .bool _, y => by cases y <;> simp [toP, PyData.eqv, eqv]
  | .int _, y => by cases y <;> simp [toP, PyData.eqv, eqv]
  | .str _, y => by cases y <;> simp [toP, PyData.eqv, eqv]
  | .list xs, y => by cases y <;> simp [toP, PyData.eqv, eqv, eqvs_eq xs]
  | .tuple xs, y => by cases y <;> simp [toP, PyData.eqv, eqv, eqvs_eq xs]
theorem eqvs_eq : ∀ xs ys : List D, PyData.eqvAll (toPs xs) (toPs ys) = eqvs xs ys
  | [], ys => by cases ys <;> simp [toPs, PyData.eqvAll, eqvs]
  | x :: xs, [] => by simp [toPs, PyData.eqvAll, eqvs]
  | x :: xs, y :: ys => by simp [toPs, PyData.eqvAll, eqvs, eqv_eq x y, eqvs_eq xs ys]
end
theorem toPs_map : ∀ xs : List D, toPs xs = xs.map toP
  | [] => rfl
  | x :: xs => by simp only [toPs, List.map_cons, toPs_map xs]
section
variable {K : PySem.W.Frag} {P : Addr → Prop} {H : Hp}
mutual
theorem RD.lay : ∀ (d : D) (v : V), RD P H d v → (toP d).canLay0 = true
  | .none, _, _ => rfl
  | .bool _, _, _ => rfl
  | .int _, _, _ => rfl
  | .str x, _, h => by cases h with | str _ ok => exact ok
  | .list xs, _, h => by cases h with | lst a b z c => exact RDs.lay xs _ c
  | .tuple xs, _, h => by cases h with | tup a b z c => exact RDs.lay xs _ c
theorem RDs.lay : ∀ (ds : List D) (vs : List V), RDs P H ds vs → PyData.canLayAll0 (toPs ds) = true
  | [], _, _ => rfl
  | d :: ds, _, h => by
    cases h with
    | cons a b =>
      show (PyData.canLay0 (toP d) && PyData.canLayAll0 (toPs ds)) = true
      rw [RD.lay d _ a, RDs.lay ds _ b]; rfl
end
mutual
theorem RD.dp : ∀ (d : D) (v : V), RD P H d v → Dp K H v (toP d)
  | .none, _, h => by cases h; exact .non
  | .bool b, _, h => by cases h; exact .bl b
  | .int i, _, h => by cases h; exact .int i
  | .str x, _, h => by cases h; exact .str x
  | .list xs, _, h => by cases h with | lst a b z c => exact .lst (.inl (.inl b)) (RDs.dp xs _ c)
  | .tuple xs, _, h => by cases h with | tup a b z c => exact .tup b.sq (RDs.dp xs _ c)
theorem RDs.dp : ∀ (ds : List D) (vs : List V), RDs P H ds vs → DpAll K H vs (toPs ds)
  | [], _, h => by cases h; exact .nil
  | d :: ds, _, h => by
    cases h with
    | cons a b => exact .cons (RD.dp d _ a) (RDs.dp ds _ b)
end
theorem RT.dp {d : D} {v : V} (r : RT K P H d v) : Dp K H v (toP d) ∧ (toP d).canLay0 = true := by
  cases d with
  | list xs => obtain ⟨p, vs, rfl, s, z, c⟩ := r; exact ⟨.lst s (RDs.dp xs _ c), RDs.lay xs _ c⟩
  | none => exact ⟨RD.dp _ _ (show RD P H _ v from r), RD.lay _ _ (show RD P H _ v from r)⟩
  | bool b => exact ⟨RD.dp _ _ (show RD P H _ v from r), RD.lay _ _ (show RD P H _ v from r)⟩
  | int b => exact ⟨RD.dp _ _ (show RD P H _ v from r), RD.lay _ _ (show RD P H _ v from r)⟩
  | str b => exact ⟨RD.dp _ _ (show RD P H _ v from r), RD.lay _ _ (show RD P H _ v from r)⟩
  | tuple b => exact ⟨RD.dp _ _ (show RD P H _ v from r), RD.lay _ _ (show RD P H _ v from r)⟩
end
section
variable {X : Cx}
theorem anyP (ys : List D) (x : D) : ((toPs ys).any fun z => PyData.eqv z (toP x)) = ys.any fun z => eqv z x := by
  rw [toPs_map, List.any_map]
  congr 1
  funext z
  exact eqv_eq z x
def bB (f : D → D → Option Bool) : D → D → Option D := fun x y => (f x y).map .bool
theorem or_eq (hu : X.A.units + 64 < cLine) : OpR X (compareOp .Eq) (r2 X.K (bB eqV)) := by
  intro pins s σ H x y v u Q I rx ry ⟨L, ρ, h, a, b, d, hr, ra, rb, e, q⟩
  unfold bB eqV at e
  try dsimp only at e
  split at e
  · rename_i hz
    cases e
    obtain ⟨da, la⟩ := ra.dp
    obtain ⟨db, lb⟩ := rb.dp
    obtain ⟨as, r1⟩ := Dp.reads I _ x v da rx
    obtain ⟨bs, r2⟩ := Dp.reads I _ y u db ry
    refine SeqAt.compareEq_reads r1 r2 la lb (by rw [dep_eq, dep_eq]; omega) ⟨.bl _, H, I, rfl, ?_⟩
    rw [eqv_eq]
    exact q.here hr (.bool _)
  · cases e
theorem or_ne (hu : X.A.units + 64 < cLine) : OpR X (compareOp .NotEq) (r2 X.K (bB fun x y => (eqV x y).map (!·))) := by
  intro pins s σ H x y v u Q I rx ry ⟨L, ρ, h, a, b, d, hr, ra, rb, e, q⟩
  unfold bB eqV at e
  try dsimp only at e
  split at e
  · rename_i hz
    cases e
    obtain ⟨da, la⟩ := ra.dp
    obtain ⟨db, lb⟩ := rb.dp
    obtain ⟨as, r1⟩ := Dp.reads I _ x v da rx
    obtain ⟨bs, r2⟩ := Dp.reads I _ y u db ry
    refine SeqAt.compareNe_reads r1 r2 la lb (by rw [dep_eq, dep_eq]; omega) ⟨.bl _, H, I, rfl, ?_⟩
    rw [eqv_eq]
    exact q.here hr (.bool _)
  · cases e
theorem or_in (hu : X.A.units + 64 < cLine) : OpR X (compareOp .In) (r2 X.K (bB inV)) := by
  intro pins s σ H x y v u Q I rx ry ⟨L, ρ, h, a, b, d, hr, ra, rb, e, q⟩
  unfold bB inV at e
  try dsimp only at e
  split at e
  · split at e
    · rename_i hz
      cases e
      obtain ⟨da, la⟩ := ra.dp
      obtain ⟨db, lb⟩ := rb.dp
      obtain ⟨as, r1⟩ := Dp.reads I _ x v da rx
      obtain ⟨bs, r2⟩ := Dp.reads I _ y u db ry
      refine SeqAt.in_list_reads r2 r1 lb la (by rw [deps_eq, dep_eq]; omega) ⟨.bl _, H, I, rfl, ?_⟩
      rw [anyP]
      exact q.here hr (.bool _)
    · cases e
  · split at e
    · rename_i hz
      cases e
      obtain ⟨da, la⟩ := ra.dp
      obtain ⟨db, lb⟩ := rb.dp
      obtain ⟨as, r1⟩ := Dp.reads I _ x v da rx
      obtain ⟨bs, r2⟩ := Dp.reads I _ y u db ry
      refine SeqAt.in_tuple_reads r2 r1 lb la (by rw [deps_eq, dep_eq]; omega) ⟨.bl _, H, I, rfl, ?_⟩
      rw [anyP]
      exact q.here hr (.bool _)
    · cases e
  · cases e
theorem or_notIn (hu : X.A.units + 64 < cLine) : OpR X (compareOp .NotIn) (r2 X.K (bB fun x y => (inV x y).map (!·))) := by
  intro pins s σ H x y v u Q I rx ry ⟨L, ρ, h, a, b, d, hr, ra, rb, e, q⟩
  unfold bB inV at e
  try dsimp only at e
  split at e
  · split at e
    · rename_i hz
      cases e
      obtain ⟨da, la⟩ := ra.dp
      obtain ⟨db, lb⟩ := rb.dp
      obtain ⟨as, r1⟩ := Dp.reads I _ x v da rx
      obtain ⟨bs, r2⟩ := Dp.reads I _ y u db ry
      refine SeqAt.notIn_list_reads r2 r1 lb la (by rw [deps_eq, dep_eq]; omega) ⟨.bl _, H, I, rfl, ?_⟩
      rw [anyP]
      exact q.here hr (.bool _)
    · cases e
  · split at e
    · rename_i hz
      cases e
      obtain ⟨da, la⟩ := ra.dp
      obtain ⟨db, lb⟩ := rb.dp
      obtain ⟨as, r1⟩ := Dp.reads I _ x v da rx
      obtain ⟨bs, r2⟩ := Dp.reads I _ y u db ry
      refine SeqAt.notIn_tuple_reads r2 r1 lb la (by rw [deps_eq, dep_eq]; omega) ⟨.bl _, H, I, rfl, ?_⟩
      rw [anyP]
      exact q.here hr (.bool _)
    · cases e
  · cases e
theorem or_lt : OpR X (compareOp .Lt) (r2 X.K (bB ltV)) := by
  intro pins s σ H x y v u Q I rx ry ⟨L, ρ, h, a, b, d, hr, ra, rb, e, q⟩
  unfold bB ltV at e
  split at e
  · cases e
    cases (show RD _ _ _ _ from ra)
    cases (show RD _ _ _ _ from rb)
    exact op_lt pins s σ H _ _ v u Q I rx ry ⟨_, _, rfl, rfl, q.here hr (.bool _)⟩
  · cases e
    cases (show RD _ _ _ _ from ra)
    cases (show RD _ _ _ _ from rb)
    exact op_lt_str pins s σ H _ _ v u Q I rx ry ⟨_, _, rfl, rfl, q.here hr (.bool _)⟩
  · cases e
theorem or_le : OpR X (compareOp .LtE) (r2 X.K (bB leV)) := by
  intro pins s σ H x y v u Q I rx ry ⟨L, ρ, h, a, b, d, hr, ra, rb, e, q⟩
  unfold bB leV at e
  split at e
  · cases e
    cases (show RD _ _ _ _ from ra)
    cases (show RD _ _ _ _ from rb)
    exact op_le pins s σ H _ _ v u Q I rx ry ⟨_, _, rfl, rfl, q.here hr (.bool _)⟩
  · cases e
    cases (show RD _ _ _ _ from ra)
    cases (show RD _ _ _ _ from rb)
    exact op_le_str pins s σ H _ _ v u Q I rx ry ⟨_, _, rfl, rfl, q.here hr (.bool _)⟩
  · cases e
theorem or_gt : OpR X (compareOp .Gt) (r2 X.K (bB fun x y => ltV y x)) := by
  intro pins s σ H x y v u Q I rx ry ⟨L, ρ, h, a, b, d, hr, ra, rb, e, q⟩
  unfold bB ltV at e
  dsimp only at e
  split at e
  · cases e
    cases (show RD _ _ _ _ from ra)
    cases (show RD _ _ _ _ from rb)
    exact op_gt pins s σ H _ _ v u Q I rx ry ⟨_, _, rfl, rfl, q.here hr (.bool _)⟩
  · cases e
    cases (show RD _ _ _ _ from ra)
    cases (show RD _ _ _ _ from rb)
    exact op_gt_str pins s σ H _ _ v u Q I rx ry ⟨_, _, rfl, rfl, q.here hr (.bool _)⟩
  · cases e
theorem or_ge : OpR X (compareOp .GtE) (r2 X.K (bB fun x y => leV y x)) := by
  intro pins s σ H x y v u Q I rx ry ⟨L, ρ, h, a, b, d, hr, ra, rb, e, q⟩
  unfold bB leV at e
  dsimp only at e
  split at e
  · cases e
    cases (show RD _ _ _ _ from ra)
    cases (show RD _ _ _ _ from rb)
    exact op_ge pins s σ H _ _ v u Q I rx ry ⟨_, _, rfl, rfl, q.here hr (.bool _)⟩
  · cases e
    cases (show RD _ _ _ _ from ra)
    cases (show RD _ _ _ _ from rb)
    exact op_ge_str pins s σ H _ _ v u Q I rx ry ⟨_, _, rfl, rfl, q.here hr (.bool _)⟩
  · cases e
theorem isNone_eq {P : Addr → Prop} {H : Hp} {a : D} {x : V} (r : RT X.K P H a x) : decide (x = .non) = isNone a := by
  cases a with
  | list xs => obtain ⟨p, vs, rfl, _⟩ := r; rfl
  | none => cases (show RD _ _ _ _ from r); rfl
  | bool b => cases (show RD _ _ _ _ from r); rfl
  | int b => cases (show RD _ _ _ _ from r); rfl
  | str b => cases (show RD _ _ _ _ from r); rfl
  | tuple b => cases (show RD _ _ _ _ from r); rfl
theorem or_is : OpR X (compareOp .Is) (r2 X.K (bB (cmpV .is))) := by
  intro pins s σ H x y v u Q I rx ry ⟨L, ρ, h, a, b, d, hr, ra, rb, e, q⟩
  cases b with
  | none =>
    cases e
    cases (show RD _ _ _ _ from rb)
    refine op_isN pins s σ H _ _ v u Q I rx ry ⟨rfl, ?_⟩
    rw [isNone_eq ra]
    exact q.here hr (.bool _)
  | _ => cases e
theorem or_isNot : OpR X (compareOp .IsNot) (r2 X.K (bB (cmpV .isNot))) := by
  intro pins s σ H x y v u Q I rx ry ⟨L, ρ, h, a, b, d, hr, ra, rb, e, q⟩
  cases b with
  | none =>
    cases e
    cases (show RD _ _ _ _ from rb)
    refine op_notN pins s σ H _ _ v u Q I rx ry ⟨rfl, ?_⟩
    rw [isNone_eq ra]
    exact q.here hr (.bool _)
  | _ => cases e
def cmpOf : COp → CmpOp
  | .eq => .Eq
  | .ne => .NotEq
  | .lt => .Lt
  | .le => .LtE
  | .gt => .Gt
  | .ge => .GtE
  | .in_ => .In
  | .notIn => .NotIn
  | .is => .Is
  | .isNot => .IsNot
theorem or_cmp (hu : X.A.units + 64 < cLine) (o : COp) : OpR X (compareOp (cmpOf o)) (r2 X.K (bB (cmpV o))) := by
  cases o
  · exact or_eq hu
  · exact or_ne hu
  · exact or_lt
  · exact or_le
  · exact or_gt
  · exact or_ge
  · exact or_in hu
  · exact or_notIn hu
  · exact or_is
  · exact or_isNot
/-- a value's truth -/
theorem RT.tru {K : PySem.W.Frag} {P : Addr → Prop} {H : Hp} {a : D} {x : V} {k : Bool} (r : RT K P H a x) (e : truth a = some k) : TruV K x H k := by
  cases a with
  | list xs =>
    obtain ⟨p, vs, rfl, s, z, c⟩ := r
    cases e
    refine .inl ⟨vs, s, ?_⟩
    have := c.length
    cases xs <;> cases vs <;> simp_all
  | none => cases (show RD _ _ _ _ from r); cases e; rfl
  | bool b => cases (show RD _ _ _ _ from r); cases e; rfl
  | int b => cases (show RD _ _ _ _ from r); cases e; rfl
  | str b =>
    cases (show RD _ _ _ _ from r)
    have e' : (if b.length ≤ sizeLine then some (b.length != 0) else none) = some k := e
    by_cases hz : b.length ≤ sizeLine
    · rw [if_pos hz] at e'
      cases e'
      refine ⟨hz, ?_⟩
      cases b.length with
      | zero => rfl
      | succ n =>
        have : ((n + 1 : Nat) : Int) ≠ 0 := by omega
        rw [bne_iff_ne.mpr this]; rfl
    · rw [if_neg hz] at e'; cases e'
  | tuple xs =>
    cases (show RD _ _ _ _ from r) with | tup np e1 z c =>
    cases e
    refine .inr (.inl ⟨_, e1.sq, ?_⟩)
    have := c.length
    rename_i vs
    cases xs <;> cases vs <;> simp_all
end
end Jr

set_option Elab.async false
set_option linter.all false
set_option maxRecDepth 100000
set_option maxHeartbeats 1000000
namespace L2x
open PySem PySem.Spec PyProof.Rows L2 HT
section
variable {prog : Program} {w : World} {A : Around} {E : Value → Shared → Prop} {s : Shared}
theorem adjust_rev (n : Nat) : Builtin.Slice.sliceAdjust none none (-1) (n : Int) = ((n : Int) - 1, -1) := rfl
theorem places_rev (n : Nat) : Builtin.Slice.slicePlaces ((n : Int) - 1) (-1) (-1) = n := by
  unfold Builtin.Slice.slicePlaces
  have h1 : ¬ ((-1 : Int) > 0) := by omega
  have e : (- (-1 : Int)) = 1 := by omega
  simp only [h1, if_false, e, Int.ediv_one]
  split <;> omega
theorem sliceApplied_rev {sl : Addr} {vl vu vs : Value} {n : Nat} {Q : Int × Int × Nat → Shared → Prop} (hs : s.heap.IsSliceOf sl vl vu vs) (pl : IsPart vl none) (pu : IsPart vu none) (ps : IsPart vs (some (-1)))
    (h : Q ((n : Int) - 1, -1, n) s) : wpAny (model prog w) A (Builtin.Slice.sliceApplied (.ref sl) (pure (n : Int))) Q E s := by
  obtain ⟨os, hos, hcs, hds⟩ := id hs
  unfold Builtin.Slice.sliceApplied Builtin.Slice.sliceFields
  refine wpAny_bind (wpAny_bind (wpAny_field hos hds (x := vl) rfl (wpAny_bind (wpAny_field hos hds (x := vu) rfl (wpAny_bind (wpAny_field hos hds (x := vs) rfl (wpAny_pure ?_)))))))
  refine wpAny_bind (slicePart_ ps ?_)
  show wpAny _ _ (if ((-1 : Int) == 0) = true then _ else _) _ _ s
  rw [if_neg (by decide)]
  refine wpAny_bind (slicePart_ pl (wpAny_bind (slicePart_ pu (wpAny_bind (wpAny_pure ?_)))))
  show wpAny _ _ (match Builtin.Slice.sliceAdjust none none (-1) (n : Int) with | (lo, hi) => pure (lo, (-1 : Int), Builtin.Slice.slicePlaces lo hi (-1))) _ _ s
  rw [adjust_rev n]
  show wpAny _ _ (pure ((n : Int) - 1, (-1 : Int), Builtin.Slice.slicePlaces ((n : Int) - 1) (-1) (-1))) _ _ s
  rw [places_rev]
  exact wpAny_pure h
theorem filterMap_some {α β : Type} {f : α → Option β} {g : α → β} : ∀ l : List α, (∀ x ∈ l, f x = some (g x)) → l.filterMap f = l.map g
  | [], _ => rfl
  | x :: l, h => by
    rw [List.filterMap_cons, h x List.mem_cons_self, List.map_cons, filterMap_some l fun y hy => h y (List.mem_cons_of_mem _ hy)]
theorem pick_rev (xs : List Value) : ((List.range xs.length).filterMap fun (m : Nat) => xs.toArray[(((xs.length : Nat) : Int) - 1 + (m : Int) * (-1)).toNat]?) = xs.reverse := by
  apply List.ext_getElem?
  intro i
  have e : (List.range xs.length).filterMap (fun (m : Nat) => xs.toArray[(((xs.length : Nat) : Int) - 1 + (m : Int) * (-1)).toNat]?) = (List.range xs.length).map fun m => xs.reverse.getD m .none := by
    apply filterMap_some
    intro m hm
    have hm : m < xs.length := List.mem_range.mp hm
    have e1 : (((xs.length : Nat) : Int) - 1 + (m : Int) * (-1)).toNat = xs.length - 1 - m := by omega
    rw [e1]
    simp only [List.getElem?_toArray, Function.comp]
    rw [List.getElem?_eq_getElem (by omega)]
    rw [List.getD_eq_getElem?_getD, List.getElem?_reverse hm, List.getElem?_eq_getElem (by omega)]
    rfl
  rw [e, List.getElem?_map]
  by_cases hi : i < xs.length
  · rw [List.getElem?_range hi, Option.map_some, List.getD_eq_getElem?_getD, List.getElem?_eq_getElem (by simpa using hi)]
    rfl
  · rw [List.getElem?_eq_none (by simpa using hi), List.getElem?_eq_none (by simpa using hi)]
    rfl
theorem getItem_tuple_rev {t sl : Addr} {items : List Value} {vl vu vs : Value} {Q : Value → Shared → Prop} (ht : IsTup s.heap t items.toArray) (hs : s.heap.IsSliceOf sl vl vu vs) (pl : IsPart vl none) (pu : IsPart vu none) (ps : IsPart vs (some (-1)))
    (h : Q (.ref s.heap.objs.size) { s with heap := s.heap.push { cls := .type "tuple", data := .seq items.reverse.toArray } })
    (hsz : items.length ≤ sizeLine) : wpAny (model prog w) A (getItem (.ref t) (.ref sl)) Q E s := by
  have htake : sizeOk (.seq items.reverse.toArray) := by
    show items.reverse.toArray.size ≤ sizeLine
    rw [List.size_toArray, List.length_reverse]
    exact hsz
  obtain ⟨os, hos, hcs, hds⟩ := id hs
  have hTs : s.TypeIs (.ref sl) "slice" := ⟨os, hos, hcs⟩
  unfold getItem
  try with_reducible refine wpAny_holding ?_
  first | refine wpAny_bind (wpAny_pure ?_) | skip
  refine wpAny_bind (wpAny_sequenceKey ht.typeIs (by decide) ?_)
  refine wpAny_bind (wpAny_callSpecial?_slot (name := Str.ofString "__getitem__") ht.typeIs PyProof.Rows.slot_tuple_getitem
    (wpAny_call_entry PyProof.Rows.slot_tuple_getitem ht.typeIs entry_tuple_getitem ?_ (args_tuple_getitem _ _)))
  show wpAny _ _ (Builtin.Tuple.tupleItemsOf (.ref t) >>= _) _ _ s
  refine wpAny_bind (tupleItemsOf_ ht ?_)
  refine wpAny_bind (wpAny_typeOf hTs ?_)
  rw [if_pos (by decide)]
  have hn : ((items.toArray.size : Nat) : Int) = ((items.length : Nat) : Int) := by rw [List.size_toArray]
  rw [hn]
  refine wpAny_bind (sliceApplied_rev (n := items.length) hs pl pu ps ?_)
  have hno : ¬ ((((items.length : Nat) : Int) - 1 == 0 && (-1 : Int) == 1 && items.length == items.toArray.size) = true) := by
    intro q
    rw [Bool.and_eq_true, Bool.and_eq_true] at q
    exact absurd (eq_of_beq q.1.2) (by decide)
  show wpAny _ _ (if (((items.length : Nat) : Int) - 1 == 0 && (-1 : Int) == 1 && items.length == items.toArray.size) = true then _ else _) _ _ s
  rw [if_neg hno]
  have hp := congrArg List.toArray (pick_rev items)
  rw [hp]
  first
    | exact wpAny_bind (m := Builtin.Tuple.tupleExact _) (wpAny_newObj_type (wpAny_pure ⟨_, rfl, wpAny_pure h⟩) htake)
    | exact wpAny_bind (m := Builtin.Tuple.tupleExact _) (wpAny_newObj_type (wpAny_bind (wpAny_pure (wpAny_pure ⟨_, rfl, wpAny_pure h⟩))) htake)
    | exact wpAny_bind (wpAny_bind (m := Builtin.Tuple.tupleExact _) (wpAny_newObj_type (wpAny_pure (wpAny_pure ⟨_, rfl, wpAny_pure h⟩)) htake))
    | exact wpAny_bind (wpAny_bind (m := Builtin.Tuple.tupleExact _) (wpAny_newObj_type (wpAny_pure ⟨_, rfl, wpAny_pure h⟩) htake))
end
def tRevT (K : PySem.W.Frag) (te : TE) : TE := fun σ H Q => te σ H fun x H1 => ∃ a xs, x = .ref a ∧ SqT K H1 a xs ∧ ∀ p o, o.dict = none → H1 p = none → Q (.ref p) (upd H1 p (.frz o (.tup xs.reverse)))
theorem pe_revT {X : Cx} {e : Expr} {te : TE} {k : Nat} {p1 p2 p3 pos : Pos} (he : PE X e te) : PE X (.Subscript e (.Slice none none (some (.UnaryOp .USub (.Constant (.int 1) k p1) p2)) p3) pos) (tRevT X.K te) := by
  refine ⟨fun pins s σ H Q I h => ?_⟩
  refine Subscript_ (thn (he.run pins s σ H _ I h) fun v s1 ⟨x, H1, I1, r1, q1⟩ => ?_)
  obtain ⟨a, xs, ex, hx, q⟩ := q1
  subst ex
  cases r1
  have hst : PO X (some (.UnaryOp .USub (.Constant (.int 1) k p1) p2)) (tPart (tUn (rU fun i => .int (-i)) (tC (.int 1)))) := po_some (pe_un un_neg pe_int)
  refine wpAny_Slice (thn (po_none.run pins s1 σ H1 (fun o H2 => o = none ∧ H2 = H1) I1 ⟨rfl, rfl⟩) fun vl s2 ⟨l, H2, I2, pl, el, e2⟩ => ?_)
  subst el e2
  refine thn (po_none.run pins s2 σ H2 (fun o H3 => o = none ∧ H3 = H2) I2 ⟨rfl, rfl⟩) fun vu s3 ⟨u, H3, I3, pu, eu, e3⟩ => ?_
  subst eu e3
  refine thn (hst.run pins s3 σ H3 (fun o H4 => o = some (-1) ∧ H4 = H3) I3 ⟨1, rfl, -1, rfl, rfl, rfl⟩) fun vs s4 ⟨o, H4, I4, ps, eo, e4⟩ => ?_
  subst eo e4
  have I5 : L2.Inv X pins σ H4 { s4 with heap := s4.heap.push { cls := .type "slice", data := .fields #[vl, vu, vs] } } := I4.kept (t' := s4.toks) fun b ob q => Heap.get?_push_of_some _ q
  obtain ⟨its, r, ht, hz⟩ := I5.tuple hx
  have hlen := r.length
  show wpAny (model X.prog X.w) X.A (subscriptTail e (.Slice none none (some (.UnaryOp .USub (.Constant (.int 1) k p1) p2)) p3) (.ref a) (.ref s4.heap.objs.size)) (EP X pins σ Q) X.xe { s4 with heap := s4.heap.push { cls := .type "slice", data := .fields #[vl, vu, vs] } }
  refine tail_any (ops := [.ref a, .ref s4.heap.objs.size]) ht.typeIs (slot_tuple_getitem.lookup) ?_ (by with_unfolding_all rfl)
  refine getItem_tuple_rev ht (Heap.IsSliceOf.new _ vl vu vs) pl pu ps ?_ (by omega)
  obtain ⟨I6, nn⟩ := laidF I5 r.reverse (by rw [List.length_reverse]; exact hz)
  exact ⟨.ref _, _, I6, rfl, q _ (tObj _) rfl nn⟩
end L2x
namespace Jr
open PySem PySem.Spec PyProof.Rows L2
section
variable {X : Cx}
theorem ixr : IxR X (r2 X.K ixV) := by
  intro value slice pins s σ H x y v u Q I rx ry ⟨L, ρ, h, a, b, d, hr, ra, rb, e, q⟩ hs
  unfold ixV at e
  split at e
  · obtain ⟨p, vs, rfl, sq, z, c⟩ := ra
    cases (show RD _ _ _ _ from rb)
    rename_i xs i
    cases ej : ixN xs.length i with
    | none => rw [ej] at e; cases e
    | some j =>
      rw [ej, Option.bind_some] at e
      obtain ⟨w, e1, e2⟩ := c.get e
      refine ix_list value slice pins s σ H _ _ v u Q I rx ry ⟨p, vs, i, w, rfl, rfl, sq, ?_, q.here hr e2⟩ hs
      unfold atI
      rw [← c.length, show L2.ixN xs.length i = some j from ej, Option.bind_some]
      exact e1
  · cases (show RD _ _ _ _ from ra) with | tup np e1 z c =>
    cases (show RD _ _ _ _ from rb)
    rename_i xs i vs p
    cases ej : ixN xs.length i with
    | none => rw [ej] at e; cases e
    | some j =>
      rw [ej, Option.bind_some] at e
      obtain ⟨w, f1, f2⟩ := c.get e
      refine ix_tup value slice pins s σ H _ _ v u Q I rx ry ⟨_, _, i, w, rfl, rfl, e1.sq, ?_, q.here hr f2⟩ hs
      unfold atI
      rw [← c.length, show L2.ixN xs.length i = some j from ej, Option.bind_some]
      exact f1
  · cases (show RD _ _ _ _ from ra) with | str _ ok =>
    cases (show RD _ _ _ _ from rb)
    rename_i z i
    by_cases hz : z.length ≤ sizeLine
    · rw [if_pos hz] at e
      cases ej : ixN z.cps.toList.length i with
      | none => rw [ej] at e; cases e
      | some j =>
        rw [ej, Option.bind_some] at e
        cases ec : z.cps.toList[j]? with
        | none => rw [ec] at e; cases e
        | some c =>
          rw [ec] at e
          cases e
          refine ix_str value slice pins s σ H _ _ v u Q I rx ry ⟨z, i, c, rfl, rfl, hz, ?_, q.here hr (.str _ (ok_sign ok (List.mem_of_getElem? ec)))⟩ hs
          unfold atI
          rw [show L2.ixN z.cps.toList.length i = some j from ej, Option.bind_some]
          exact ec
    · rw [if_neg hz] at e; cases e
  · cases e
/-- a slice by values -/
def rSl (K : PySem.W.Frag) : V → Option Int → Option Int → Hp → VK → Prop := fun v lo hi H Q => ∃ L ρ h x d, HR K L ρ h H ∧ RT K (Pr L ρ h) H x v ∧ sliceV x lo hi = some d ∧ Ret K L ρ h H d Q
def rSlN (K : PySem.W.Frag) : V → Option Int → Option Int → Hp → VK → Prop := fun v lo hi H Q => ∃ L ρ h x xs, HR K L ρ h H ∧ RT K (Pr L ρ h) H x v ∧ sliceL x lo hi = some xs ∧
  ∀ p vs, H p = none → xs.length ≤ sizeLine → RDs (Pr L ρ h) H xs vs → Q (.ref p) (upd H p (.lst vs))
theorem cut_rel {P : Addr → Prop} {H : Hp} {ds : List D} {vs : List V} (c : RDs P H ds vs) (lo hi : Option Int) : RDs P H (cut ds lo hi) (cutV vs lo hi) := by
  unfold cut cutV sIx
  rw [c.length]
  exact (c.drop _).take _
theorem cut_len {α : Type} (xs : List α) (lo hi : Option Int) : (cut xs lo hi).length ≤ xs.length := by
  unfold cut
  rw [List.length_take, List.length_drop]
  omega
theorem cut_whole {α : Type} {xs : List α} {lo hi : Option Int} (h : HT.sIx xs.length 0 lo = 0 ∧ HT.sIx xs.length xs.length hi = xs.length) : cut xs lo hi = xs := by
  unfold cut sIx
  rw [h.1, h.2, List.drop_zero, Nat.sub_zero, List.take_length]
theorem slr : SlR X (rSl X.K) := by
  intro pins s σ H x v vl vu lo hi sl Q I rx hs pl pu ⟨L, ρ, h, a, d, hr, ra, e, q⟩
  unfold sliceV at e
  split at e
  · cases e
    cases (show RD _ _ _ _ from ra) with | tup np e1 z c =>
    refine L2x.sl_tupF pins s σ H _ v vl vu lo hi sl Q I rx hs pl pu ⟨_, _, rfl, e1.sq, fun w => ?_, fun w => q.tup hr (Nat.le_trans (cut_len _ _ _) z) (cut_rel c lo hi)⟩
    rw [← c.length] at w
    rw [cut_whole w] at q
    exact q.here hr (.tup np e1 z c)
  · rename_i zz
    split at e
    · rename_i hz
      cases e
      cases (show RD _ _ _ _ from ra) with | str _ ok =>
      exact sl_str pins s σ H _ v vl vu lo hi sl Q I rx hs pl pu ⟨_, rfl, hz, q.here hr (.str _ (ok_cut ok lo hi))⟩
    · cases e
  · cases e
theorem slrN : SlR X (rSlN X.K) := by
  intro pins s σ H x v vl vu lo hi sl Q I rx hs pl pu ⟨L, ρ, h, a, xs, hr, ra, e, q⟩
  unfold sliceL at e
  split at e
  · cases e
    obtain ⟨p, vs, rfl, sq, z, c⟩ := ra
    exact sl_list pins s σ H _ v vl vu lo hi sl Q I rx hs pl pu ⟨p, vs, rfl, sq, fun p' n => q p' _ n (Nat.le_trans (cut_len _ _ _) z) (cut_rel c lo hi)⟩
  · cases e
end
section
variable {X : Cx} {C : Nat → Option Value} {W : WX} {a b c : Expr} {eva evb evc : Env → M Vl} {pos : Pos}
theorem e_ix (ha : PE X a (tE C eva X.K W)) (hb : PE X b (tE C evb X.K W)) (hs : PlainIx b) : PE X (.Subscript a b pos) (tE C (fun en => rd2 (eva en) (evb en) fun x y => pO (ixV x y)) X.K W) :=
  pei (pe_ix ixr ha hb hs) t_op
/-- an int part -/
theorem o_prt {α τ : Type} {K : PySem.W.Frag} {L : Addr → Prop} {ρ : List Addr} {h : Hh} {H : Hp} {rel : List Addr → Hh → Hp → α → τ → Prop} {E : Value → Option Addr → Hp → Prop} {m : M Vl} {f : Int → M α} {Q : τ → Hp → Prop}
    (o : Out K C L ρ h H rel E (M.bind (prt m) f h) Q) : Out K C L ρ h H (relV L) E (m h) (fun x H1 => ∃ i, x = .int i ∧ ∃ ρ1 h1, HR K L ρ1 h1 H1 ∧ Stp L ρ h H ρ1 h1 H1 ∧ Out K C L ρ1 h1 H1 rel E (f i h1) Q) := by
  have e : M.bind (prt m) f h = M.bind m (fun v => M.bind (Jr.asD v) fun d => M.bind (ofO (asI d)) f) h := by
    unfold prt M.bind
    cases m h with
    | none => rfl
    | some p =>
      obtain ⟨r, h'⟩ := p
      cases r with
      | exc c => rfl
      | ok v =>
        dsimp only
        cases Jr.asD v h' with
        | none => rfl
        | some p => obtain ⟨r, h'⟩ := p; cases r <;> rfl
  rw [e] at o
  refine (Out.split (rel := relV L) o).mono fun x H1 ⟨ρ1, h1, y, hr1, s1, rv1, o1⟩ => ?_
  obtain ⟨d, rfl, rd, o2⟩ := Out.asD rv1 o1
  obtain ⟨i, e2, o3⟩ := Out.ofO o2
  cases d with
  | int j =>
    cases e2
    cases rd
    exact ⟨i, rfl, ρ1, h1, hr1, s1, o3⟩
  | _ => cases e2
theorem e_slT {hi : Expr} {evh : Env → M Vl} {p2 : Pos} (ha : PE X a (tE C eva X.K W)) (hh : PE X hi (tE C evh X.K W)) :
    PE X (.Subscript a (.Slice none (some hi) none p2) pos) (tE C (fun en => M.bind (eva en) fun v => M.bind (prt (evh en)) fun u => M.bind (Jr.rd v) fun x => pO (sliceV x none (some u))) X.K W) := by
  refine pei (pe_slice slr ha po_none (po_some hh)) fun σ H Q ⟨L, ρ, h, en, hr, er, o⟩ => ?_
  refine ⟨L, ρ, h, en, hr, er, (Out.split (rel := relV L) o).mono fun v H1 ⟨ρ1, h1, x, hr1, s1, rv1, o1⟩ => ?_⟩
  refine ⟨L, ρ1, h1, en, hr1, er.step s1, (o_prt o1).mono fun w H2 ⟨i, ei, ρ2, h2, hr2, s2, o2⟩ => ⟨i, ei, ?_⟩⟩
  obtain ⟨dx, rx, o3⟩ := Out.rd hr2 (rv1.step s2) o2
  obtain ⟨d, e, q⟩ := Out.pO hr2 o3
  exact ⟨L, ρ2, h2, dx, d, hr2, rx, e, q⟩
theorem e_slF {lo : Expr} {evl : Env → M Vl} {p2 : Pos} (ha : PE X a (tE C eva X.K W)) (hl : PE X lo (tE C evl X.K W)) :
    PE X (.Subscript a (.Slice (some lo) none none p2) pos) (tE C (fun en => M.bind (eva en) fun v => M.bind (prt (evl en)) fun l => M.bind (Jr.rd v) fun x => pO (sliceV x (some l) none)) X.K W) := by
  refine pei (pe_slice slr ha (po_some hl) po_none) fun σ H Q ⟨L, ρ, h, en, hr, er, o⟩ => ?_
  refine ⟨L, ρ, h, en, hr, er, (Out.split (rel := relV L) o).mono fun v H1 ⟨ρ1, h1, x, hr1, s1, rv1, o1⟩ => ?_⟩
  refine ⟨L, ρ1, h1, en, hr1, er.step s1, (o_prt o1).mono fun w H2 ⟨i, ei, ρ2, h2, hr2, s2, o2⟩ => ⟨i, ei, ?_⟩⟩
  obtain ⟨dx, rx, o3⟩ := Out.rd hr2 (rv1.step s2) o2
  obtain ⟨d, e, q⟩ := Out.pO hr2 o3
  exact ⟨L, ρ2, h2, dx, d, hr2, rx, e, q⟩
theorem e_slA {lo hi : Expr} {evl evh : Env → M Vl} {p2 : Pos} (ha : PE X a (tE C eva X.K W)) (hl : PE X lo (tE C evl X.K W)) (hh : PE X hi (tE C evh X.K W)) :
    PE X (.Subscript a (.Slice (some lo) (some hi) none p2) pos) (tE C (fun en => M.bind (eva en) fun v => M.bind (prt (evl en)) fun l => M.bind (prt (evh en)) fun u => M.bind (Jr.rd v) fun x => pO (sliceV x (some l) (some u))) X.K W) := by
  refine pei (pe_slice slr ha (po_some hl) (po_some hh)) fun σ H Q ⟨L, ρ, h, en, hr, er, o⟩ => ?_
  refine ⟨L, ρ, h, en, hr, er, (Out.split (rel := relV L) o).mono fun v H1 ⟨ρ1, h1, x, hr1, s1, rv1, o1⟩ => ?_⟩
  refine ⟨L, ρ1, h1, en, hr1, er.step s1, (o_prt o1).mono fun w H2 ⟨i, ei, ρ2, h2, hr2, s2, o2⟩ => ⟨i, ei, ?_⟩⟩
  refine ⟨L, ρ2, h2, en, hr2, (er.step s1).step s2, (o_prt o2).mono fun w H3 ⟨j, ej, ρ3, h3, hr3, s3, o3⟩ => ⟨j, ej, ?_⟩⟩
  obtain ⟨dx, rx, o4⟩ := Out.rd hr3 ((rv1.step s2).step s3) o3
  obtain ⟨d, e, q⟩ := Out.pO hr3 o4
  exact ⟨L, ρ3, h3, dx, d, hr3, rx, e, q⟩
/-- dd of a chain -/
theorem dd_bind {α : Type} (m : M Vl) (f : D → M α) : M.bind (dd m) f = M.bind m fun v => M.bind (Jr.rd v) f := by
  funext h
  unfold dd M.bind
  cases m h with
  | none => rfl
  | some p => obtain ⟨r, h'⟩ := p; cases r <;> rfl
theorem tt_bind {α : Type} (m : M Vl) (f : Bool → M α) : M.bind (tt m) f = M.bind m fun v => M.bind (Jr.rd v) fun d => M.bind (ofO (truth d)) f := by
  funext h
  unfold tt M.bind
  cases m h with
  | none => rfl
  | some p =>
    obtain ⟨r, h'⟩ := p
    cases r with
    | exc c => rfl
    | ok v =>
      dsimp only
      cases Jr.rd v h' with
      | none => rfl
      | some p => obtain ⟨r, h'⟩ := p; cases r <;> rfl
theorem e_rev {k : Nat} {p1 p2 p3 : Pos} (ha : PE X a (tE C eva X.K W)) : PE X (.Subscript a (.Slice none none (some (.UnaryOp .USub (.Constant (.int 1) k p1) p2)) p3) pos)
    (tE C (fun en => M.bind (dd (eva en)) fun x => pO ((asT x).map fun xs => .tuple xs.reverse)) X.K W) := by
  refine pei (L2x.pe_revT ha) fun σ H Q ⟨L, ρ, h, en, hr, er, o⟩ => ?_
  dsimp only at o
  rw [dd_bind] at o
  refine ⟨L, ρ, h, en, hr, er, (Out.split (rel := relV L) o).mono fun v H1 ⟨ρ1, h1, x, hr1, s1, rv1, o1⟩ => ?_⟩
  obtain ⟨dx, rx, o3⟩ := Out.rd hr1 rv1 o1
  obtain ⟨d, e, q⟩ := Out.pO hr1 o3
  cases dx with
  | tuple xs =>
    cases e
    cases (show RD _ _ _ _ from rx) with | tup np e1 z c =>
    exact ⟨_, _, rfl, e1.sq, q.tup hr1 (by rw [List.length_reverse]; exact z) c.reverse⟩
  | _ => cases e
theorem e_neg (ha : PE X a (tE C eva X.K W)) : PE X (.UnaryOp .USub a pos) (tE C (fun en => M.bind (dd (eva en)) fun x => pO (negV x)) X.K W) := pei (pe_un ur_neg ha) t_un
/-! ### truth -/
theorem o_tt {β υ : Type} {K : PySem.W.Frag} {L : Addr → Prop} {ρ : List Addr} {h : Hh} {H : Hp} {rel' : List Addr → Hh → Hp → β → υ → Prop} {E : Value → Option Addr → Hp → Prop} {m : M Vl} {f : Bool → M β} {Q : υ → Hp → Prop}
    (o : Out K C L ρ h H rel' E (M.bind (tt m) f h) Q) : Out K C L ρ h H (relV L) E (m h) (fun v H1 => ∃ ρ1 h1 k, HR K L ρ1 h1 H1 ∧ Stp L ρ h H ρ1 h1 H1 ∧ TruV K v H1 k ∧ Out K C L ρ1 h1 H1 rel' E (f k h1) Q) := by
  rw [tt_bind] at o
  refine (Out.split (rel := relV L) o).mono fun v H1 ⟨ρ1, h1, x, hr1, s1, rv1, o1⟩ => ?_
  obtain ⟨dx, rx, o2⟩ := Out.rd hr1 rv1 o1
  obtain ⟨k, e, o3⟩ := Out.ofO o2
  exact ⟨ρ1, h1, k, hr1, s1, RT.tru rx e, o3⟩
theorem e_nt (ha : PE X a (tE C eva X.K W)) : PE X (.UnaryOp .Not a pos) (tE C (fun en => M.bind (tt (eva en)) fun b => pD (.bool !b)) X.K W) := by
  refine pei (pe_notT ha) fun σ H Q ⟨L, ρ, h, en, hr, er, o⟩ => ?_
  refine ⟨L, ρ, h, en, hr, er, (o_tt o).mono fun v H1 ⟨ρ1, h1, k, hr1, s1, tv, o1⟩ => ⟨k, tv, ?_⟩⟩
  exact (Out.pD hr1 o1).here hr1 (.bool _)
theorem e_and {rest : List Expr} (ha : PE X a (tE C eva X.K W)) (hb : PE X (.BoolOp .And (b :: rest) pos) (tE C evb X.K W)) :
    PE X (.BoolOp .And (a :: b :: rest) pos) (tE C (fun en => M.bind (eva en) fun v => M.bind (Jr.rd v) fun x => M.bind (ofO (truth x)) fun k => if k then evb en else M.pure v) X.K W) := by
  refine pei (pe_andT ha hb) fun σ H Q ⟨L, ρ, h, en, hr, er, o⟩ => ?_
  refine ⟨L, ρ, h, en, hr, er, (Out.split (rel := relV L) o).mono fun v H1 ⟨ρ1, h1, x, hr1, s1, rv1, o1⟩ => ?_⟩
  obtain ⟨dx, rx, o2⟩ := Out.rd hr1 rv1 o1
  obtain ⟨k, e, o3⟩ := Out.ofO o2
  refine ⟨k, RT.tru rx e, ?_⟩
  cases k with
  | true => exact ⟨L, ρ1, h1, en, hr1, er.step s1, o3⟩
  | false => exact o3 ρ1 H1 v hr1 .refl rv1
theorem e_or {rest : List Expr} (ha : PE X a (tE C eva X.K W)) (hb : PE X (.BoolOp .Or (b :: rest) pos) (tE C evb X.K W)) :
    PE X (.BoolOp .Or (a :: b :: rest) pos) (tE C (fun en => M.bind (eva en) fun v => M.bind (Jr.rd v) fun x => M.bind (ofO (truth x)) fun k => if k then M.pure v else evb en) X.K W) := by
  refine pei (pe_orT ha hb) fun σ H Q ⟨L, ρ, h, en, hr, er, o⟩ => ?_
  refine ⟨L, ρ, h, en, hr, er, (Out.split (rel := relV L) o).mono fun v H1 ⟨ρ1, h1, x, hr1, s1, rv1, o1⟩ => ?_⟩
  obtain ⟨dx, rx, o2⟩ := Out.rd hr1 rv1 o1
  obtain ⟨k, e, o3⟩ := Out.ofO o2
  refine ⟨k, RT.tru rx e, ?_⟩
  cases k with
  | false => exact ⟨L, ρ1, h1, en, hr1, er.step s1, o3⟩
  | true => exact o3 ρ1 H1 v hr1 .refl rv1
/-! ### tests -/
/-- tt against a test's own way -/
theorem o_fin {K : PySem.W.Frag} {L : Addr → Prop} {ρ : List Addr} {h : Hh} {H : Hp} {E : Value → Option Addr → Hp → Prop} {m : M Vl} {Q : Bool → Hp → Prop}
    (o : Out K C L ρ h H relB E (tt m h) Q) : Out K C L ρ h H relB E (M.bind (tt m) M.pure h) Q := by
  have e : M.bind (tt m) M.pure h = tt m h := by
    unfold M.bind
    cases tt m h with
    | none => rfl
    | some p => obtain ⟨r, h'⟩ := p; cases r <;> rfl
  rw [e]; exact o
theorem t_plain (ha : PE X a (tE C eva X.K W)) (he : ∀ whole, isTrue a X.env whole = (do let v ← whole; standAt a.pos; holding [v] (truthy v))) : PT X a (tT C (fun en => tt (eva en)) X.K W) := by
  refine pti (pt_truth ha he) fun σ H Q ⟨L, ρ, h, en, hr, er, o⟩ => ?_
  refine ⟨L, ρ, h, en, hr, er, (o_tt (o_fin o)).mono fun v H1 ⟨ρ1, h1, k, hr1, s1, tv, o1⟩ => ⟨k, tv, ?_⟩⟩
  exact o1 ρ1 H1 k hr1 .refl rfl
theorem t_not {evt : Env → M Bool} (ha : PT X a (tT C evt X.K W)) : PT X (.UnaryOp .Not a pos) (tT C (fun en => M.bind (evt en) fun b => M.pure (!b)) X.K W) := by
  refine pti (pt_not ha) fun σ H Q ⟨L, ρ, h, en, hr, er, o⟩ => ?_
  exact ⟨L, ρ, h, en, hr, er, (Out.split (rel := relB) o).mono fun v H1 ⟨ρ1, h1, x, hr1, s1, rv1, o1⟩ => by cases rv1; exact o1 ρ1 H1 _ hr1 .refl rfl⟩
structure PWt (X : Cx) (e : Expr) (t : TT) : Prop where
  pw : PW X e t
theorem pwi {e : Expr} {t t' : TT} (p : PW X e t) (i : ∀ σ H Q, t' σ H Q → t σ H Q) : PW X e t' := ⟨fun wh pins s σ H Q I h => p.run wh pins s σ H Q I (i σ H Q h)⟩
theorem t_and {rest : List Expr} {evt evu : Env → M Bool} (ha : PT X a (tT C evt X.K W)) (hb : PW X (.BoolOp .And (b :: rest) pos) (tT C evu X.K W)) : PW X (.BoolOp .And (a :: b :: rest) pos) (tT C (fun en => M.bind (evt en) fun k => if k then evu en else M.pure false) X.K W) := by
  refine pwi (pw_and ha hb) fun σ H Q ⟨L, ρ, h, en, hr, er, o⟩ => ?_
  refine ⟨L, ρ, h, en, hr, er, (Out.split (rel := relB) o).mono fun v H1 ⟨ρ1, h1, x, hr1, s1, rv1, o1⟩ => ?_⟩
  cases rv1
  cases v with
  | true => exact ⟨L, ρ1, h1, en, hr1, er.step s1, o1⟩
  | false => exact o1 ρ1 H1 _ hr1 .refl rfl
theorem t_or {rest : List Expr} {evt evu : Env → M Bool} (ha : PT X a (tT C evt X.K W)) (hb : PW X (.BoolOp .Or (b :: rest) pos) (tT C evu X.K W)) : PW X (.BoolOp .Or (a :: b :: rest) pos) (tT C (fun en => M.bind (evt en) fun k => if k then M.pure true else evu en) X.K W) := by
  refine pwi (pw_or ha hb) fun σ H Q ⟨L, ρ, h, en, hr, er, o⟩ => ?_
  refine ⟨L, ρ, h, en, hr, er, (Out.split (rel := relB) o).mono fun v H1 ⟨ρ1, h1, x, hr1, s1, rv1, o1⟩ => ?_⟩
  cases rv1
  cases v with
  | false => exact ⟨L, ρ1, h1, en, hr1, er.step s1, o1⟩
  | true => exact o1 ρ1 H1 _ hr1 .refl rfl
theorem tt_pD (x : D) (h : Hh) : tt (pD x) h = (truth x).elim none fun k => some (.ok k, h) := by
  show (match ofO (truth x) h with | r => r) = _
  cases truth x <;> rfl
/-- the result is a bool -/
def BoolM (m : M Vl) : Prop := ∀ h x h', m h = some (.ok x, h') → ∃ k, x = .d (.bool k)
theorem BoolM.bind {α : Type} {m : M α} {f : α → M Vl} (b : ∀ x, BoolM (f x)) : BoolM (M.bind m f) := fun h x h' e => by
  unfold M.bind at e
  cases e1 : m h with
  | none => rw [e1] at e; cases e
  | some p =>
    obtain ⟨r, h1⟩ := p
    rw [e1] at e
    cases r with
    | exc c => cases e
    | ok v => exact b v h1 x h' e
theorem BoolM.pO {o : Option Bool} : BoolM (Jr.pO (o.map .bool)) := fun h x h' e => by
  cases o with
  | none => cases e
  | some k => cases e; exact ⟨k, rfl⟩
theorem BoolM.pD {k : Bool} : BoolM (Jr.pD (.bool k)) := fun h x h' e => by cases e; exact ⟨k, rfl⟩
theorem BoolM.fail : BoolM Jr.fail := fun h x h' e => by cases e
theorem BoolM.out {K : PySem.W.Frag} {L : Addr → Prop} {ρ : List Addr} {h : Hh} {H : Hp} {E : Value → Option Addr → Hp → Prop} {m : M Vl} {Q : Bool → Hp → Prop} (b : BoolM m)
    (o : Out K C L ρ h H relB E (tt m h) Q) : Out K C L ρ h H (relV L) E (m h) (fun x H' => ∃ k, x = .bl k ∧ Q k H') := by
  unfold tt M.bind at o
  cases e : m h with
  | none => rw [e] at o; exact o
  | some p =>
    obtain ⟨r, h1⟩ := p
    rw [e] at o
    cases r with
    | exc c => exact o
    | ok v =>
      obtain ⟨k, rfl⟩ := b h v h1 e
      intro ρ' H' z hr' s' rz
      cases (show RD _ _ _ _ from rz)
      exact ⟨k, rfl, o ρ' H' k hr' s' rfl⟩
/-- a comparison's reading, as a test -/
theorem t_cmp {o : CmpOp} {f : D → D → Option Bool} (ho : OpR X (compareOp o) (r2 X.K (bB f))) (ha : PE X a (tE C eva X.K W)) (hb : PE X b (tE C evb X.K W)) (hm : behindInMarks o b = false) :
    PT X (.Compare a [o] [b] pos) (tT C (fun en => tt (rd2 (eva en) (evb en) fun x y => pO ((f x y).map .bool))) X.K W) := by
  refine pti (pt_cmpR ho ha hb hm) fun σ H Q ⟨L, ρ, h, en, hr, er, o⟩ => ?_
  refine t_op (f := bB f) σ H _ ⟨L, ρ, h, en, hr, er, BoolM.out (m := rd2 (eva en) (evb en) fun x y => pO ((f x y).map .bool)) ?_ o⟩
  exact BoolM.bind fun _ => BoolM.bind fun _ => BoolM.bind fun _ => BoolM.bind fun _ => BoolM.pO
/-! ### a op b op' c -/
theorem t_chain {o o' : CmpOp} {f f' : D → D → Option Bool} {evc : Env → M Vl} : ∀ σ H Q, tE C (fun en => M.bind (eva en) fun va => M.bind (evb en) fun vb => M.bind (Jr.asD va) fun x => M.bind (Jr.asD vb) fun y => M.bind (ofO (f x y)) fun k =>
      if k then M.bind (evc en) fun vc => M.bind (Jr.asD vc) fun z => pO ((f' y z).map .bool) else pD (.bool false)) X.K W σ H Q → tChain (r2 X.K (bB f)) (r2 X.K (bB f')) (tE C eva X.K W) (tE C evb X.K W) (tE C evc X.K W) σ H Q := fun σ H Q ⟨L, ρ, h, en, hr, er, o⟩ => by
  refine ⟨L, ρ, h, en, hr, er, (Out.split (rel := relV L) o).mono fun v H1 ⟨ρ1, h1, x, hr1, s1, rv1, o1⟩ => ?_⟩
  refine ⟨L, ρ1, h1, en, hr1, er.step s1, (Out.split (rel := relV L) o1).mono fun w H2 ⟨ρ2, h2, y, hr2, s2, rv2, o2⟩ => ?_⟩
  obtain ⟨dx, rfl, rx, o3⟩ := Out.asD (rv1.step s2) o2
  obtain ⟨dy, rfl, ry, o4⟩ := Out.asD rv2 o3
  obtain ⟨k, e, o5⟩ := Out.ofO o4
  refine ⟨L, ρ2, h2, dx, dy, .bool k, hr2, rx.rt, ry.rt, by unfold bB; rw [e]; rfl, fun u H3 hr3 s3 ru => ?_⟩
  cases (show RD _ _ _ _ from ru)
  refine ⟨k, rfl, ?_⟩
  cases k with
  | false => exact (Out.pD hr3 (o5.rebase s3)).here hr3 (.bool _)
  | true =>
    refine ⟨L, ρ2, h2, en, hr3, ((er.step s1).step s2).step s3, (Out.split (rel := relV L) (o5.rebase s3)).mono fun z H4 ⟨ρ4, h4, vz, hr4, s4, rv4, o6⟩ => ?_⟩
    obtain ⟨dz, rfl, rz, o7⟩ := Out.asD rv4 o6
    obtain ⟨d, e7, q⟩ := Out.pO hr4 o7
    exact ⟨L, ρ4, h4, dy, dz, d, hr4, (RD.gr s4.gr _ _ (RD.gr s3.gr _ _ ry)).rt, rz.rt, e7, q⟩
theorem e_chain {o o' : CmpOp} {f f' : D → D → Option Bool} {evc : Env → M Vl} (ho : OpR X (compareOp o) (r2 X.K (bB f))) (ho' : OpR X (compareOp o') (r2 X.K (bB f'))) (ha : PE X a (tE C eva X.K W)) (hb : PE X b (tE C evb X.K W)) (hc : PE X c (tE C evc X.K W)) (hm : lastMarks [o, o'] [b, c] = false) :
    PE X (.Compare a [o, o'] [b, c] pos) (tE C (fun en => M.bind (eva en) fun va => M.bind (evb en) fun vb => M.bind (Jr.asD va) fun x => M.bind (Jr.asD vb) fun y => M.bind (ofO (f x y)) fun k =>
      if k then M.bind (evc en) fun vc => M.bind (Jr.asD vc) fun z => pO ((f' y z).map .bool) else pD (.bool false)) X.K W) :=
  pei (pe_chain ho ho' ha hb hc hm) (t_chain (o := o) (o' := o'))
theorem tt_chain {o o' : CmpOp} {f f' : D → D → Option Bool} {evc : Env → M Vl} (ho : OpR X (compareOp o) (r2 X.K (bB f))) (ho' : OpR X (compareOp o') (r2 X.K (bB f'))) (ha : PE X a (tE C eva X.K W)) (hb : PE X b (tE C evb X.K W)) (hc : PE X c (tE C evc X.K W)) (hm : lastMarks [o, o'] [b, c] = false) :
    PT X (.Compare a [o, o'] [b, c] pos) (tT C (fun en => tt (M.bind (eva en) fun va => M.bind (evb en) fun vb => M.bind (Jr.asD va) fun x => M.bind (Jr.asD vb) fun y => M.bind (ofO (f x y)) fun k =>
      if k then M.bind (evc en) fun vc => M.bind (Jr.asD vc) fun z => pO ((f' y z).map .bool) else pD (.bool false))) X.K W) := by
  refine pti (pt_chain ho ho' ha hb hc hm) fun σ H Q ⟨L, ρ, h, en, hr, er, o⟩ => ?_
  refine t_chain (o := .Eq) (o' := .Eq) σ H _ ⟨L, ρ, h, en, hr, er, BoolM.out (m := M.bind (eva en) fun va => M.bind (evb en) fun vb => M.bind (Jr.asD va) fun x => M.bind (Jr.asD vb) fun y => M.bind (ofO (f x y)) fun k =>
      if k then M.bind (evc en) fun vc => M.bind (Jr.asD vc) fun z => pO ((f' y z).map .bool) else pD (.bool false)) ?_ o⟩
  refine BoolM.bind fun _ => BoolM.bind fun _ => BoolM.bind fun _ => BoolM.bind fun _ => BoolM.bind fun k => ?_
  cases k with
  | false => exact BoolM.pD
  | true => exact BoolM.bind fun _ => BoolM.bind fun _ => BoolM.pO
theorem t_ite {evt evu evv : Env → M Bool} {eva evb : Env → M Vl} (hc : PT X c (tT C evt X.K W)) (ha : PE X a (tE C eva X.K W)) (hb : PE X b (tE C evb X.K W)) :
    PE X (.IfExp c a b pos) (tE C (fun en => M.bind (evt en) fun k => if k then eva en else evb en) X.K W) := by
  refine pei (pe_ifExp hc ha hb) fun σ H Q ⟨L, ρ, h, en, hr, er, o⟩ => ?_
  refine ⟨L, ρ, h, en, hr, er, (Out.split (rel := relB) o).mono fun v H1 ⟨ρ1, h1, x, hr1, s1, rv1, o1⟩ => ?_⟩
  cases rv1
  cases v with
  | true => exact ⟨L, ρ1, h1, en, hr1, er.step s1, o1⟩
  | false => exact ⟨L, ρ1, h1, en, hr1, er.step s1, o1⟩
end
end Jr

set_option Elab.async false
set_option linter.all false
set_option maxRecDepth 100000
set_option maxHeartbeats 1000000
namespace Jr
open PySem PySem.Spec PyProof.Rows L2
inductive RTs (K : PySem.W.Frag) (P : Addr → Prop) (H : Hp) : List D → List V → Prop
  | nil : RTs K P H [] []
  | cons {d : D} {v : V} {ds : List D} {vs : List V} : RT K P H d v → RTs K P H ds vs → RTs K P H (d :: ds) (v :: vs)
section
variable {α β τ υ : Type} {K : PySem.W.Frag} {C : Nat → Option Value} {L : Addr → Prop} {ρ ρ1 : List Addr} {h h1 : Hh} {H H1 : Hp} {E : Value → Option Addr → Hp → Prop}
theorem Out.bb {γ : Type} {rel' : List Addr → Hh → Hp → υ → τ → Prop} {m : M α} {f : α → M β} {g : β → M υ} {Q : τ → Hp → Prop} (o : Out K C L ρ h H rel' E (M.bind (M.bind m f) g h) Q) : Out K C L ρ h H rel' E (M.bind m (fun x => M.bind (f x) g) h) Q := by
  have e : M.bind (M.bind m f) g h = M.bind m (fun x => M.bind (f x) g) h := by
    unfold M.bind
    cases m h with
    | none => rfl
    | some p => obtain ⟨r, h'⟩ := p; cases r <;> rfl
  rw [← e]; exact o
theorem Out.asDs {rel' : List Addr → Hh → Hp → β → υ → Prop} {Q : υ → Hp → Prop} : ∀ {xs : List Vl} {vs : List V} {f : List D → M β}, RVs (Pr L ρ h) ρ H xs vs → Out K C L ρ h H rel' E (M.bind (Jr.asDs xs) f h) Q → ∃ ds, RDs (Pr L ρ h) H ds vs ∧ Out K C L ρ h H rel' E (f ds h) Q
  | _, _, f, .nil, o => ⟨[], .nil, o⟩
  | _, _, f, .cons rv rvs, o => by
    obtain ⟨d, _, r, o1⟩ := Out.asD rv (Out.bb (γ := Unit) o)
    obtain ⟨ds, rs, o2⟩ := Out.asDs rvs (Out.bb (γ := Unit) o1)
    exact ⟨d :: ds, .cons r rs, o2⟩
theorem Out.rds {rel' : List Addr → Hh → Hp → β → υ → Prop} {Q : υ → Hp → Prop} (hr : HR K L ρ h H) : ∀ {xs : List Vl} {vs : List V} {f : List D → M β}, RVs (Pr L ρ h) ρ H xs vs → Out K C L ρ h H rel' E (M.bind (Jr.rds xs) f h) Q → ∃ ds, RTs K (Pr L ρ h) H ds vs ∧ Out K C L ρ h H rel' E (f ds h) Q
  | _, _, f, .nil, o => ⟨[], .nil, o⟩
  | _, _, f, .cons rv rvs, o => by
    obtain ⟨d, r, o1⟩ := Out.rd hr rv (Out.bb (γ := Unit) o)
    obtain ⟨ds, rs, o2⟩ := Out.rds hr rvs (Out.bb (γ := Unit) o1)
    exact ⟨d :: ds, .cons r rs, o2⟩
theorem Out.rdL {rel' : List Addr → Hh → Hp → β → υ → Prop} {x : Vl} {v : V} {f : List D → M β} {Q : υ → Hp → Prop} (hr : HR K L ρ h H) (rv : RV (Pr L ρ h) ρ H x v) (o : Out K C L ρ h H rel' E (M.bind (Jr.rdL x) f h) Q) :
    ∃ ds p vs, v = .ref p ∧ H p = some (.lst vs) ∧ ds.length ≤ sizeLine ∧ RDs (Pr L ρ h) H ds vs ∧ Out K C L ρ h H rel' E (f ds h) Q := by
  cases x with
  | k _ n => exact False.elim o
  | d x =>
    cases x with
    | list xs =>
      cases (show RD _ _ _ _ from rv) with
      | lst np e z c => exact ⟨xs, _, _, rfl, e, z, c, o⟩
    | _ => exact False.elim o
  | r n =>
    obtain ⟨a, e1, rfl⟩ := rv
    have e0 : Jr.rdL (.r n) h = (match h[n]? with
      | some (.lst xs) => some (R.ok xs, h)
      | _ => none) := rfl
    unfold M.bind at o
    rw [e0] at o
    cases e2 : h[n]? with
    | none => rw [e2] at o; exact False.elim o
    | some c =>
      rw [e2] at o
      cases c with
      | lst xs =>
        obtain ⟨vs, e3, z, c⟩ := hr.cell n a _ e1 e2
        exact ⟨xs, a, vs, rfl, e3, z, c, o⟩
      | _ => exact False.elim o
theorem Out.ite {rel' : List Addr → Hh → Hp → β → υ → Prop} {Q : υ → Hp → Prop} {c : Prop} [Decidable c] {m : M β} (o : Out K C L ρ h H rel' E ((if c then m else Jr.fail) h) Q) : c ∧ Out K C L ρ h H rel' E (m h) Q := by
  by_cases q : c
  · rw [if_pos q] at o; exact ⟨q, o⟩
  · rw [if_neg q] at o; exact False.elim o
end
/-! ### new lists -/
/-- a list at p that stands by itself: in H1 it was not there -/
def relF (K : PySem.W.Frag) (L : Addr → Prop) (ρ0 : List Addr) (h0 : Hh) (H0 : Hp) : List Addr → Hh → Hp → List D → V → Prop := fun ρ h H xs v =>
  ∃ p vs H1, v = .ref p ∧ H = upd H1 p (.lst vs) ∧ H1 p = none ∧ HR K L ρ h H1 ∧ Stp L ρ0 h0 H0 ρ h H1 ∧ RDs (Pr L ρ h) H1 xs vs ∧ xs.length ≤ sizeLine
def tF (C : Nat → Option Value) (ev : Env → M (List D)) (K : PySem.W.Frag) (W : WX) : TE := fun σ H Q => ∃ L ρ h en, HR K L ρ h H ∧ ER (Pr L ρ h) ρ H en σ ∧ Out K C L ρ h H (relF K L ρ h H) (fun c d H' => W c d σ H') (ev en h) Q
section
variable {X : Cx} {C : Nat → Option Value} {W : WX} {a b c : Expr} {eva evb evc : Env → M Vl} {pos : Pos}
theorem e_new {e : Expr} {ev : Env → M (List D)} (p : PE X e (tF C ev X.K W)) : PE X e (tE C (fun en => M.bind (ev en) fun xs => pD (.list xs)) X.K W) := by
  refine pei p fun σ H Q ⟨L, ρ, h, en, hr, er, o⟩ => ⟨L, ρ, h, en, hr, er, ?_⟩
  unfold M.bind at o
  dsimp only at o
  cases e : ev en h with
  | none => rw [e] at o; exact o
  | some q =>
    obtain ⟨r, h1⟩ := q
    rw [e] at o
    cases r with
    | exc c => exact o
    | ok xs =>
      intro ρ' H' v hr' s' ⟨p, vs, H1, ev, eH, np, hr1, s1, rs, z⟩
      subst ev eH
      obtain ⟨hr2, s2⟩ := hr1.new (o := .lst vs) np
      exact o ρ' _ _ hr' s' (RD.lst (hr1.np np) upd_same z (RDs.gr s2.gr _ _ rs))
theorem e_box {e : Expr} {ev : Env → M (List D)} (p : PE X e (tF C ev X.K W)) : PE X e (tE C (fun en => M.bind (ev en) fun xs => newC (.lst xs)) X.K W) := by
  refine pei p fun σ H Q ⟨L, ρ, h, en, hr, er, o⟩ => ⟨L, ρ, h, en, hr, er, ?_⟩
  unfold M.bind at o
  dsimp only at o
  cases e : ev en h with
  | none => rw [e] at o; exact o
  | some q =>
    obtain ⟨r, h1⟩ := q
    rw [e] at o
    cases r with
    | exc c => exact o
    | ok xs =>
      intro ρ' H' v hr' s' ⟨p, vs, H1, ev, eH, np, hr1, s1, rs, z⟩
      subst ev eH
      obtain ⟨hr2, s2⟩ := hr1.cellNew np z rs
      refine o (ρ' ++ [p]) _ _ hr2 (s1.trans s2) ⟨p, ?_, rfl⟩
      rw [← hr1.len, List.getElem?_append_right (Nat.le_refl _), Nat.sub_self]
      rfl
/-- an end with a new list -/
theorem fin_lst {L : Addr → Prop} {ρ : List Addr} {h : Hh} {H : Hp} {ρ0 : List Addr} {h0 : Hh} {H0 : Hp} {E : Value → Option Addr → Hp → Prop} {xs : List D} {vs : List V} {Q : VK} (s : Stp L ρ0 h0 H0 ρ h H) (hr : HR X.K L ρ h H)
    (o : Out X.K C L ρ h H (relF X.K L ρ0 h0 H0) E (M.pure xs h) Q) (z : xs.length ≤ sizeLine) (rs : RDs (Pr L ρ h) H xs vs) : ∀ p, H p = none → Q (.ref p) (upd H p (.lst vs)) := fun p n => by
  obtain ⟨hr2, s2⟩ := hr.new (o := .lst vs) n
  exact o ρ _ _ hr2 s2 ⟨p, vs, H, rfl, rfl, n, hr, s, rs, z⟩
/-! ### arguments -/
theorem a_nil : PA X [] (tEs C (fun _ => M.pure []) X.K W) := pai pa_nil fun σ H Q ⟨L, ρ, h, en, hr, er, o⟩ => o ρ H [] hr .refl .nil
theorem a_cons {e : Expr} {es : List Expr} {ev : Env → M Vl} {evs : Env → M (List Vl)} (ha : PE X e (tE C ev X.K W)) (hes : PA X es (tEs C evs X.K W)) (hs : starEach (e :: es) X.env = (false, eval e X.env) :: starEach es X.env) :
    PA X (e :: es) (tEs C (fun en => M.bind (ev en) fun v => M.bind (evs en) fun vs => M.pure (v :: vs)) X.K W) := by
  refine pai (pa_cons ha hes hs) fun σ H Q ⟨L, ρ, h, en, hr, er, o⟩ => ?_
  refine ⟨L, ρ, h, en, hr, er, (Out.split (rel := relV L) o).mono fun v H1 ⟨ρ1, h1, x, hr1, s1, rv1, o1⟩ => ?_⟩
  refine ⟨L, ρ1, h1, en, hr1, er.step s1, (Out.split (rel := relVs L) o1).mono fun vs H2 ⟨ρ2, h2, xs, hr2, s2, rv2, o2⟩ => ?_⟩
  exact o2 ρ2 H2 _ hr2 .refl (.cons (rv1.step s2) rv2)
theorem e_tup {es : List Expr} {evs : Env → M (List Vl)} {k : Nat} (hes : PA X es (tEs C evs X.K W)) :
    PE X (.Tuple es k pos) (tE C (fun en => M.bind (evs en) fun vs => M.bind (Jr.asDs vs) fun xs => if xs.length ≤ sizeLine then pD (.tuple xs) else Jr.fail) X.K W) := by
  refine pei (L2x.pe_tupF hes) fun σ H Q ⟨L, ρ, h, en, hr, er, o⟩ => ?_
  refine ⟨L, ρ, h, en, hr, er, (Out.split (rel := relVs L) o).mono fun vs H1 ⟨ρ1, h1, xs, hr1, s1, rv1, o1⟩ => ?_⟩
  obtain ⟨ds, rs, o2⟩ := Out.asDs rv1 o1
  obtain ⟨z, o3⟩ := Out.ite o2
  exact ⟨by rw [← rs.length]; exact z, (Out.pD hr1 o3).tup hr1 z rs⟩
theorem f_lst {es : List Expr} {evs : Env → M (List Vl)} (hes : PA X es (tEs C evs X.K W)) :
    PE X (.List es pos) (tF C (fun en => M.bind (evs en) fun vs => M.bind (Jr.asDs vs) fun xs => if xs.length ≤ sizeLine then M.pure xs else Jr.fail) X.K W) := by
  refine pei (pe_lst hes) fun σ H Q ⟨L, ρ, h, en, hr, er, o⟩ => ?_
  refine ⟨L, ρ, h, en, hr, er, (Out.split (rel := relVs L) o).mono fun vs H1 ⟨ρ1, h1, xs, hr1, s1, rv1, o1⟩ => ?_⟩
  obtain ⟨ds, rs, o2⟩ := Out.asDs rv1 o1
  obtain ⟨z, o3⟩ := Out.ite o2
  exact ⟨by rw [← rs.length]; exact z, fin_lst s1 hr1 o3 z rs⟩
theorem f_cat (ha : PE X a (tE C eva X.K W)) (hb : PE X b (tE C evb X.K W)) : PE X (.BinOp a .Add b pos) (tF C (fun en => M.bind (eva en) fun v => M.bind (evb en) fun w => M.bind (Jr.rdL v) fun xs => M.bind (Jr.rdL w) fun ys => if xs.length + ys.length ≤ sizeLine then M.pure (xs ++ ys) else Jr.fail) X.K W) := by
  refine pei (pe_op op_cat ha hb) fun σ H Q ⟨L, ρ, h, en, hr, er, o⟩ => ?_
  refine ⟨L, ρ, h, en, hr, er, (Out.split (rel := relV L) o).mono fun v H1 ⟨ρ1, h1, x, hr1, s1, rv1, o1⟩ => ?_⟩
  refine ⟨L, ρ1, h1, en, hr1, er.step s1, (Out.split (rel := relV L) o1).mono fun w H2 ⟨ρ2, h2, y, hr2, s2, rv2, o2⟩ => ?_⟩
  obtain ⟨xs, p, vs, rfl, e1, z1, c1, o3⟩ := Out.rdL hr2 (rv1.step s2) o2
  obtain ⟨ys, q, ws, rfl, e2, z2, c2, o4⟩ := Out.rdL hr2 rv2 o3
  obtain ⟨z, o5⟩ := Out.ite o4
  exact ⟨p, q, vs, ws, rfl, rfl, e1, e2, by rw [← c1.length, ← c2.length]; exact z, fin_lst (s1.trans s2) hr2 o5 (by rw [List.length_append]; exact z) (c1.append c2)⟩
theorem f_rep (ha : PE X a (tE C eva X.K W)) (hb : PE X b (tE C evb X.K W)) : PE X (.BinOp a .Mult b pos) (tF C (fun en => M.bind (eva en) fun v => M.bind (evb en) fun w => M.bind (Jr.rdL v) fun xs => M.bind (Jr.asD w) fun y => ofO (repL xs y)) X.K W) := by
  refine pei (pe_op op_rep ha hb) fun σ H Q ⟨L, ρ, h, en, hr, er, o⟩ => ?_
  refine ⟨L, ρ, h, en, hr, er, (Out.split (rel := relV L) o).mono fun v H1 ⟨ρ1, h1, x, hr1, s1, rv1, o1⟩ => ?_⟩
  refine ⟨L, ρ1, h1, en, hr1, er.step s1, (Out.split (rel := relV L) o1).mono fun w H2 ⟨ρ2, h2, y, hr2, s2, rv2, o2⟩ => ?_⟩
  obtain ⟨xs, p, vs, rfl, e1, z1, c1, o3⟩ := Out.rdL hr2 (rv1.step s2) o2
  obtain ⟨d, rfl, rd, o4⟩ := Out.asD rv2 o3
  cases d with
  | int k =>
    cases rd
    have er : repL xs (.int k) = if -(2 ^ 63) ≤ k ∧ k < 2 ^ 63 ∧ xs.length * k.toNat ≤ sizeLine then some (reps xs k) else none := rfl
    rw [er] at o4
    by_cases hz : -(2 ^ 63) ≤ k ∧ k < 2 ^ 63 ∧ xs.length * k.toNat ≤ sizeLine
    · rw [if_pos hz] at o4
      refine ⟨p, k, vs, rfl, rfl, e1, hz.1, hz.2.1, by rw [← c1.length]; exact hz.2.2, fin_lst (s1.trans s2) hr2 o4 ?_ (c1.rep _)⟩
      unfold reps
      rw [PyProof.Rows.lm_len_rep_flat, Nat.mul_comm]
      exact hz.2.2
    · rw [if_neg hz] at o4; exact False.elim o4
  | _ => exact False.elim o4
theorem f_slT {hi : Expr} {evh : Env → M Vl} {p2 : Pos} (ha : PE X a (tE C eva X.K W)) (hh : PE X hi (tE C evh X.K W)) :
    PE X (.Subscript a (.Slice none (some hi) none p2) pos) (tF C (fun en => M.bind (eva en) fun v => M.bind (prt (evh en)) fun u => M.bind (Jr.rd v) fun x => ofO (sliceL x none (some u))) X.K W) := by
  refine pei (pe_slice slrN ha po_none (po_some hh)) fun σ H Q ⟨L, ρ, h, en, hr, er, o⟩ => ?_
  refine ⟨L, ρ, h, en, hr, er, (Out.split (rel := relV L) o).mono fun v H1 ⟨ρ1, h1, x, hr1, s1, rv1, o1⟩ => ?_⟩
  refine ⟨L, ρ1, h1, en, hr1, er.step s1, (o_prt o1).mono fun w H2 ⟨i, ei, ρ2, h2, hr2, s2, o2⟩ => ⟨i, ei, ?_⟩⟩
  obtain ⟨dx, rx, o3⟩ := Out.rd hr2 (rv1.step s2) o2
  cases e : sliceL dx none (some i) with
  | none => rw [e] at o3; exact False.elim o3
  | some xs =>
    rw [e] at o3
    exact ⟨L, ρ2, h2, dx, xs, hr2, rx, e, fun p vs n z rs => fin_lst (s1.trans s2) hr2 o3 z rs p n⟩
theorem f_slF {lo : Expr} {evl : Env → M Vl} {p2 : Pos} (ha : PE X a (tE C eva X.K W)) (hl : PE X lo (tE C evl X.K W)) :
    PE X (.Subscript a (.Slice (some lo) none none p2) pos) (tF C (fun en => M.bind (eva en) fun v => M.bind (prt (evl en)) fun l => M.bind (Jr.rd v) fun x => ofO (sliceL x (some l) none)) X.K W) := by
  refine pei (pe_slice slrN ha (po_some hl) po_none) fun σ H Q ⟨L, ρ, h, en, hr, er, o⟩ => ?_
  refine ⟨L, ρ, h, en, hr, er, (Out.split (rel := relV L) o).mono fun v H1 ⟨ρ1, h1, x, hr1, s1, rv1, o1⟩ => ?_⟩
  refine ⟨L, ρ1, h1, en, hr1, er.step s1, (o_prt o1).mono fun w H2 ⟨i, ei, ρ2, h2, hr2, s2, o2⟩ => ⟨i, ei, ?_⟩⟩
  obtain ⟨dx, rx, o3⟩ := Out.rd hr2 (rv1.step s2) o2
  cases e : sliceL dx (some i) none with
  | none => rw [e] at o3; exact False.elim o3
  | some xs =>
    rw [e] at o3
    exact ⟨L, ρ2, h2, dx, xs, hr2, rx, e, fun p vs n z rs => fin_lst (s1.trans s2) hr2 o3 z rs p n⟩
theorem f_rev {k : Nat} {p1 p2 p3 : Pos} (ha : PE X a (tE C eva X.K W)) : PE X (.Subscript a (.Slice none none (some (.UnaryOp .USub (.Constant (.int 1) k p1) p2)) p3) pos)
    (tF C (fun en => M.bind (dd (eva en)) fun x => ofO ((asL x).map List.reverse)) X.K W) := by
  refine pei (pe_revL ha) fun σ H Q ⟨L, ρ, h, en, hr, er, o⟩ => ?_
  dsimp only at o
  rw [dd_bind] at o
  refine ⟨L, ρ, h, en, hr, er, (Out.split (rel := relV L) o).mono fun v H1 ⟨ρ1, h1, x, hr1, s1, rv1, o1⟩ => ?_⟩
  obtain ⟨dx, rx, o3⟩ := Out.rd hr1 rv1 o1
  cases dx with
  | list xs =>
    obtain ⟨p, vs, rfl, sq, z, c⟩ := rx
    exact ⟨p, vs, rfl, sq, fin_lst s1 hr1 o3 (by rw [List.length_reverse]; exact z) c.reverse⟩
  | _ => exact False.elim o3
/-! ### built-ins by values -/
def rC (K : PySem.W.Frag) (f : List D → Option D) : List V → Hp → VK → Prop := fun vs H Q => ∃ L ρ h ds d, HR K L ρ h H ∧ RTs K (Pr L ρ h) H ds vs ∧ f ds = some d ∧ Ret K L ρ h H d Q
theorem t_blt {f : List D → Option D} {evs : Env → M (List Vl)} : ∀ σ H Q, tE C (fun en => M.bind (evs en) fun vs => M.bind (Jr.rds vs) fun xs => pO (f xs)) X.K W σ H Q → tCB (rC X.K f) (tEs C evs X.K W) σ H Q := fun σ H Q ⟨L, ρ, h, en, hr, er, o⟩ => by
  refine ⟨L, ρ, h, en, hr, er, (Out.split (rel := relVs L) o).mono fun vs H1 ⟨ρ1, h1, xs, hr1, s1, rv1, o1⟩ => ?_⟩
  obtain ⟨ds, rs, o2⟩ := Out.rds hr1 rv1 o1
  obtain ⟨d, e, q⟩ := Out.pO hr1 o2
  exact ⟨L, ρ1, h1, ds, d, hr1, rs, e, q⟩
theorem allI_rel {P : Addr → Prop} {H : Hp} : ∀ {ds : List D} {vs : List V} {l : List Int}, RDs P H ds vs → allI ds = some l → vs = l.map V.int
  | _, _, l, .nil, e => by cases e; rfl
  | d :: ds, _, l, .cons r t, e => by
    cases d with
    | int i =>
      cases r
      unfold allI at e
      simp only [asI, Option.bind_some] at e
      cases e2 : allI ds with
      | none => rw [e2] at e; cases e
      | some l' => rw [e2] at e; cases e; rw [allI_rel t e2]; rfl
    | _ => cases e
theorem allB_rel {P : Addr → Prop} {H : Hp} : ∀ {ds : List D} {vs : List V} {l : List Bool}, RDs P H ds vs → allB ds = some l → vs = l.map V.bl
  | _, _, l, .nil, e => by cases e; rfl
  | d :: ds, _, l, .cons r t, e => by
    cases d with
    | bool i =>
      cases r
      unfold allB at e
      simp only [asB, Option.bind_some] at e
      cases e2 : allB ds with
      | none => rw [e2] at e; cases e
      | some l' => rw [e2] at e; cases e; rw [allB_rel t e2]; rfl
    | _ => cases e
theorem maxL_mem : ∀ (r : List Int) (a : Int), maxL a r ∈ a :: r
  | [], a => List.mem_cons_self
  | b :: r, a => by
    unfold maxL
    have := maxL_mem r (if a < b then b else a)
    rcases List.mem_cons.mp this with h | h
    · rw [h]; split <;> simp
    · exact List.mem_cons_of_mem _ (List.mem_cons_of_mem _ h)
theorem maxL_ge : ∀ (r : List Int) (a : Int), ∀ y ∈ a :: r, y ≤ maxL a r
  | [], a, y, h => by
    rcases List.mem_cons.mp h with rfl | h
    · exact Int.le_refl _
    · cases h
  | b :: r, a, y, h => by
    unfold maxL
    have ih := maxL_ge r (if a < b then b else a)
    have h0 := ih _ List.mem_cons_self
    rcases List.mem_cons.mp h with rfl | h
    · split at h0 <;> split <;> omega
    · rcases List.mem_cons.mp h with rfl | h
      · split at h0 <;> split <;> omega
      · exact ih y (List.mem_cons_of_mem _ h)
theorem minL_mem : ∀ (r : List Int) (a : Int), minL a r ∈ a :: r
  | [], a => List.mem_cons_self
  | b :: r, a => by
    unfold minL
    have := minL_mem r (if b < a then b else a)
    rcases List.mem_cons.mp this with h | h
    · rw [h]; split <;> simp
    · exact List.mem_cons_of_mem _ (List.mem_cons_of_mem _ h)
theorem minL_le : ∀ (r : List Int) (a : Int), ∀ y ∈ a :: r, minL a r ≤ y
  | [], a, y, h => by
    rcases List.mem_cons.mp h with rfl | h
    · exact Int.le_refl _
    · cases h
  | b :: r, a, y, h => by
    unfold minL
    have ih := minL_le r (if b < a then b else a)
    have h0 := ih _ List.mem_cons_self
    rcases List.mem_cons.mp h with rfl | h
    · split at h0 <;> split <;> omega
    · rcases List.mem_cons.mp h with rfl | h
      · split at h0 <;> split <;> omega
      · exact ih y (List.mem_cons_of_mem _ h)
end
end Jr

set_option Elab.async false
set_option linter.all false
set_option maxRecDepth 100000
set_option maxHeartbeats 1000000
namespace Jr
open PySem PySem.Spec PyProof.Rows L2
section
variable {X : Cx}
/-- the fragment's own rule for one built-in -/
theorem RTs.one {K : PySem.W.Frag} {P : Addr → Prop} {H : Hp} {d : D} {vs : List V} (r : RTs K P H [d] vs) : ∃ v, vs = [v] ∧ RT K P H d v := by
  cases r with
  | cons a b => cases b; exact ⟨_, rfl, a⟩
theorem RTs.two {K : PySem.W.Frag} {P : Addr → Prop} {H : Hp} {d e : D} {vs : List V} (r : RTs K P H [d, e] vs) : ∃ v w, vs = [v, w] ∧ RT K P H d v ∧ RT K P H e w := by
  cases r with
  | cons a b => cases b with | cons c d => cases d; exact ⟨_, _, rfl, a, c⟩
theorem cr_len : CallR X (.builtin "len") (rC X.K (bltV .len)) := by
  intro pins s σ H vs us Q I r ⟨L, ρ, h, ds, d, hr, rs, e, q⟩
  unfold bltV at e
  split at e <;> try (rename_i hc; cases hc; done)
  all_goals first | (cases e; done) | skip
  · cases e
    obtain ⟨v, rfl, p, ws, rfl, sq, z, c⟩ := rs.one
    exact call_len_seq pins s σ H _ us Q I r ⟨p, ws, rfl, .inl sq, by rw [← c.length]; exact q.here hr (.int _)⟩
  · cases e
    obtain ⟨v, rfl, rt⟩ := rs.one
    cases (show RD _ _ _ _ from rt) with | tup np e1 z c =>
    exact call_len_seq pins s σ H _ us Q I r ⟨_, _, rfl, .inr (e1.sq), by rw [← c.length]; exact q.here hr (.int _)⟩
  · rename_i x _h
    obtain ⟨v, rfl, rt⟩ := rs.one
    cases (show RD _ _ _ _ from rt) with | str _ ok =>
    by_cases hz : x.length ≤ sizeLine
    · rw [if_pos hz] at e
      cases e
      exact call_len_str pins s σ H _ us Q I r ⟨_, rfl, hz, q.here hr (.int _)⟩
    · rw [if_neg hz] at e; cases e
theorem cr_abs : CallR X (.builtin "abs") (rC X.K (bltV .abs)) := by
  intro pins s σ H vs us Q I r ⟨L, ρ, h, ds, d, hr, rs, e, q⟩
  unfold bltV at e
  split at e <;> try (rename_i hc; cases hc; done)
  all_goals first | (cases e; done) | skip
  · cases e
    obtain ⟨v, rfl, rt⟩ := rs.one
    cases (show RD _ _ _ _ from rt)
    exact call_abs pins s σ H _ us Q I r ⟨_, rfl, q.here hr (.int _)⟩
theorem cr_max2 (hc : X.calm = true) : CallR X (.builtin "max") (rC X.K (bltV .max2)) := by
  intro pins s σ H vs us Q I r ⟨L, ρ, h, ds, d, hr, rs, e, q⟩
  unfold bltV at e
  split at e <;> try (rename_i hc; cases hc; done)
  all_goals first | (cases e; done) | skip
  · cases e
    obtain ⟨v, w, rfl, rt, ru⟩ := rs.two
    cases (show RD _ _ _ _ from rt)
    cases (show RD _ _ _ _ from ru)
    exact call_max2 hc pins s σ H _ us Q I r ⟨_, _, rfl, q.here hr (.int _)⟩
theorem cr_min2 (hc : X.calm = true) : CallR X (.builtin "min") (rC X.K (bltV .min2)) := by
  intro pins s σ H vs us Q I r ⟨L, ρ, h, ds, d, hr, rs, e, q⟩
  unfold bltV at e
  split at e <;> try (rename_i hc; cases hc; done)
  all_goals first | (cases e; done) | skip
  · cases e
    obtain ⟨v, w, rfl, rt, ru⟩ := rs.two
    cases (show RD _ _ _ _ from rt)
    cases (show RD _ _ _ _ from ru)
    exact call_min2 hc pins s σ H _ us Q I r ⟨_, _, rfl, q.here hr (.int _)⟩
theorem cr_max1 (hc : X.calm = true) : CallR X (.builtin "max") (rC X.K (bltV .max1)) := by
  intro pins s σ H vs us Q I r ⟨L, ρ, h, ds, d, hr, rs, e, q⟩
  unfold bltV at e
  split at e <;> try (rename_i hc; cases hc; done)
  all_goals first | (cases e; done) | skip
  · rename_i xs _h
    obtain ⟨v, rfl, p, ws, rfl, sq, z, c⟩ := rs.one
    cases ea : allI xs with
    | none => rw [ea] at e; cases e
    | some l =>
      rw [ea, Option.bind_some] at e
      cases l with
      | nil => cases e
      | cons a t =>
        cases e
        have ew := allI_rel c ea
        subst ew
        refine L2.cr_max hc pins s σ H _ us Q I r ⟨p, a :: t, rfl, sq, Nat.succ_pos _, fun m hm hy => ?_⟩
        have e1 : m = maxL a t := Int.le_antisymm (maxL_ge t a m hm) (hy _ (maxL_mem t a))
        rw [e1]
        exact q.here hr (.int _)
theorem cr_min1 (hc : X.calm = true) : CallR X (.builtin "min") (rC X.K (bltV .min1)) := by
  intro pins s σ H vs us Q I r ⟨L, ρ, h, ds, d, hr, rs, e, q⟩
  unfold bltV at e
  split at e <;> try (rename_i hc; cases hc; done)
  all_goals first | (cases e; done) | skip
  · rename_i xs _h
    obtain ⟨v, rfl, p, ws, rfl, sq, z, c⟩ := rs.one
    cases ea : allI xs with
    | none => rw [ea] at e; cases e
    | some l =>
      rw [ea, Option.bind_some] at e
      cases l with
      | nil => cases e
      | cons a t =>
        cases e
        have ew := allI_rel c ea
        subst ew
        refine L2.cr_min hc pins s σ H _ us Q I r ⟨p, a :: t, rfl, sq, Nat.succ_pos _, fun m hm hy => ?_⟩
        have e1 : m = minL a t := Int.le_antisymm (hy _ (minL_mem t a)) (minL_le t a m hm)
        rw [e1]
        exact q.here hr (.int _)
theorem preSum_take {f : Nat → Int} {l : List Int} (h : ∀ i x, l[i]? = some x → f i = x) : ∀ j, j ≤ l.length → preSum f j = (l.take j).sum
  | 0, _ => by simp [preSum]
  | j + 1, q => by
    rw [preSum, preSum_take h j (by omega), List.take_add_one, List.sum_append, h j _ (List.getElem?_eq_getElem (by omega)), List.getElem?_eq_getElem (by omega)]
    simp
theorem ints_at : ∀ {l : List Int} {us : List Value}, Vals (l.map V.int) us → ∀ i v, us[i]? = some v → ∃ t, v = Value.int (l.getD i 0) t
  | [], _, .nil, i, v, e => by simp at e
  | z :: l, _, .cons r t, 0, v, e => by cases e; exact r
  | z :: l, _, .cons r t, i + 1, v, e => ints_at t i v (by simpa using e)
theorem sum_tup {prog : Program} {w : World} {A : Around} {E : Value → Shared → Prop} {s : Shared} {a : Addr} {its : List Value} {ns : List Int} {Q : Value → Shared → Prop} (hh : A.handled = none) (ht : s.heap.IsTuple a its.toArray) (hv : Vals (ns.map V.int) its)
    (h : ∀ h' tk t', (∀ b o, s.heap.get? b = some o → h'.get? b = some o) → Q (.int ns.sum t') { s with heap := h', toks := tk }) : wpAny (model prog w) A (call (.builtin "sum") [.ref a]) Q E s := by
  have hl : ns.length = its.length := by have := hv.length; simpa using this
  refine call_sum_walkAnyS (PySem.W.iter_tupleW (A := A.in1) hh ht fun s₂ e W st hfp _ _ => ⟨_, _, _, _, _, _, _, fun i => ns.getD i 0, rfl, W, st, hfp, fun i v hi => ints_at hv i v (by simpa using hi), fun s' t' m => ?_⟩)
  obtain ⟨h', tk, e1, hk⟩ := PySem.W.moved_old e rfl m
  subst e1
  rw [preSum_take (l := ns) (fun i x q => by rw [List.getD_eq_getElem?_getD, q]; rfl) _ (by rw [List.size_toArray, hl]; exact Nat.le_refl _), List.take_of_length_le (by rw [List.size_toArray, hl]; exact Nat.le_refl _)]
  exact h h' tk t' hk
theorem cr_sum (hc : X.calm = true) : CallR X (.builtin "sum") (rC X.K (bltV .sum)) := by
  intro pins s σ H vs us Q I r ⟨L, ρ, h, ds, d, hr, rs, e, q⟩
  unfold bltV at e
  split at e <;> try (rename_i hc; cases hc; done)
  all_goals first | (cases e; done) | skip
  · rename_i xs _h
    obtain ⟨v, rfl, p, ws, rfl, sq, z, c⟩ := rs.one
    cases ea : allI xs with
    | none => rw [ea] at e; cases e
    | some l =>
      rw [ea] at e
      cases e
      have ew := allI_rel c ea
      subst ew
      exact L2.cr_sum hc pins s σ H _ us Q I r ⟨p, l, rfl, sq, q.here hr (.int _)⟩
  · rename_i xs _h
    obtain ⟨v, rfl, rt⟩ := rs.one
    cases (show RD _ _ _ _ from rt) with | tup np e1 z c =>
    cases ea : allI xs with
    | none => rw [ea] at e; cases e
    | some l =>
      rw [ea] at e
      cases e
      have ew := allI_rel c ea
      subst ew
      obtain ⟨u, rfl, ru⟩ := vals1 r
      cases ru
      obtain ⟨its, rv, ht, _⟩ := I.tuple e1.sq
      exact sum_tup (I.ok.hd hc) ht rv fun h' tk t' hk => ⟨.int _, H, I.kept hk, ⟨_, rfl⟩, q.here hr (.int _)⟩
theorem cr_all (hc : X.calm = true) : CallR X (.builtin "all") (rC X.K (bltV .all)) := by
  intro pins s σ H vs us Q I r ⟨L, ρ, h, ds, d, hr, rs, e, q⟩
  unfold bltV at e
  split at e <;> try (rename_i hc; cases hc; done)
  all_goals first | (cases e; done) | skip
  · rename_i xs _h
    obtain ⟨v, rfl, p, ws, rfl, sq, z, c⟩ := rs.one
    cases ea : allB xs with
    | none => rw [ea] at e; cases e
    | some l =>
      rw [ea] at e
      cases e
      have ew := allB_rel c ea
      subst ew
      exact L2.cr_all hc pins s σ H _ us Q I r ⟨p, l, rfl, sq, q.here hr (.bool _)⟩
theorem cr_any (hc : X.calm = true) : CallR X (.builtin "any") (rC X.K (bltV .any)) := by
  intro pins s σ H vs us Q I r ⟨L, ρ, h, ds, d, hr, rs, e, q⟩
  unfold bltV at e
  split at e <;> try (rename_i hc; cases hc; done)
  all_goals first | (cases e; done) | skip
  · rename_i xs _h
    obtain ⟨v, rfl, p, ws, rfl, sq, z, c⟩ := rs.one
    cases ea : allB xs with
    | none => rw [ea] at e; cases e
    | some l =>
      rw [ea] at e
      cases e
      have ew := allB_rel c ea
      subst ew
      exact L2.cr_any hc pins s σ H _ us Q I r ⟨p, l, rfl, sq, q.here hr (.bool _)⟩
theorem cr_int : CallR X (.type "int") (rC X.K (bltV .int)) := by
  intro pins s σ H vs us Q I r ⟨L, ρ, h, ds, d, hr, rs, e, q⟩
  unfold bltV at e
  split at e <;> try (rename_i hc; cases hc; done)
  all_goals first | (cases e; done) | skip
  · cases e
    obtain ⟨v, rfl, rt⟩ := rs.one
    cases (show RD _ _ _ _ from rt)
    exact call_int1 pins s σ H _ us Q I r (.inl ⟨_, rfl, q.here hr (.int _)⟩)
  · cases e
    obtain ⟨v, rfl, rt⟩ := rs.one
    cases (show RD _ _ _ _ from rt)
    exact call_int1 pins s σ H _ us Q I r (.inr ⟨_, rfl, q.here hr (.int _)⟩)
theorem cr_str : CallR X (.type "str") (rC X.K (bltV .str)) := by
  intro pins s σ H vs us Q I r ⟨L, ρ, h, ds, d, hr, rs, e, q⟩
  unfold bltV at e
  split at e <;> try (rename_i hc; cases hc; done)
  all_goals first | (cases e; done) | skip
  · cases e
    obtain ⟨v, rfl, rt⟩ := rs.one
    cases (show RD _ _ _ _ from rt)
    rename_i b _
    obtain ⟨u, rfl, t⟩ := vals1 r
    cases t
    exact PySem.P.str_of_bool ⟨.str _, H, I.tok _, ⟨_, rfl⟩, q.here hr (by cases b <;> exact .str _ (ok_string _))⟩
  · rename_i i _h
    obtain ⟨v, rfl, rt⟩ := rs.one
    cases (show RD _ _ _ _ from rt)
    by_cases hz : i.natAbs.log2 < 1920
    · rw [if_pos hz] at e
      cases e
      exact call_str_int pins s σ H _ us Q I r ⟨_, rfl, hz, q.here hr (.str _ (ok_string _))⟩
    · rw [if_neg hz] at e; cases e
end
end Jr

set_option Elab.async false
set_option linter.all false
set_option maxRecDepth 100000
set_option maxHeartbeats 3200000
namespace Jr
open PySem PySem.Spec PyProof.Rows L2
/-! ### set(xs), by keys -/
theorem met_snoc {κ : Type} [DecidableEq κ] (l : List κ) (z : κ) : met (l ++ [z]) = if z ∈ met l then met l else met l ++ [z] := by
  unfold met
  rw [List.foldl_append]
  rfl
theorem met_mem {κ : Type} [DecidableEq κ] {j : κ} : ∀ (n : Nat) (l : List κ), l.length = n → (j ∈ met l ↔ j ∈ l)
  | 0, l, e => by
    have : l = [] := List.length_eq_zero_iff.mp e
    subst this
    exact Iff.rfl
  | n + 1, l, e => by
    rcases List.eq_nil_or_concat l with rfl | ⟨r, z, rfl⟩
    · simp at e
    · have ih := met_mem (j := j) n r (by simpa using e)
      have iz := met_mem (j := z) n r (by simpa using e)
      rw [List.concat_eq_append, met_snoc]
      by_cases h : z ∈ met r
      · rw [if_pos h, ih]
        constructor
        · intro q; exact List.mem_append_left _ q
        · intro q
          rcases List.mem_append.mp q with q | q
          · exact q
          · rw [List.mem_singleton.mp q]; exact iz.mp h
      · rw [if_neg h, List.mem_append, List.mem_append, ih]
theorem met_le {κ : Type} [DecidableEq κ] : ∀ (n : Nat) (l : List κ), l.length = n → (met l).length ≤ n
  | 0, l, e => by
    have : l = [] := List.length_eq_zero_iff.mp e
    subst this
    exact Nat.le_refl _
  | n + 1, l, e => by
    rcases List.eq_nil_or_concat l with rfl | ⟨r, z, rfl⟩
    · simp at e
    · have ih := met_le n r (by simpa using e)
      rw [List.concat_eq_append, met_snoc]
      split
      · omega
      · rw [List.length_append, List.length_singleton]; omega
section
variable {P : Program} {w : World} {A : Around} {E : Value → Shared → Prop} {s : Shared} {κ : Type} [DecidableEq κ] [BEq κ] [LawfulBEq κ] {kd : KeyKind P w κ}
/-- what a set's filling leaves: the keys of the first i items -/
def FilledTo (kd : KeyKind P w κ) (h : Heap) (D : Addr) (ks : List κ) (i : Nat) : Prop := h.SetOf kd D (fun j => decide (j ∈ ks.take i)) (met (ks.take i)).length
theorem fill_keys {I : Addr} {fp wr : List Addr} {G : Array GenState → Array GenState → Prop} {n : Nat} {Pv : Nat → Value → Prop} {St : Nat → Shared → Prop} {R : Result → Shared → Prop}
    (wk : WalksS P w A.in1 I fp wr G n Pv St) (D : Addr) (out : D ∉ fp) (ks : List κ) (size : n = ks.length) (few : ks.length + 1 < scanBound) (item : ∀ i v, Pv i v → ∃ z, ks[i]? = some z ∧ kd.is z v = true ∧ v.scannable = true) :
    ∀ (left i : Nat) (s : Shared), n - i = left → i ≤ n → St i s → FilledTo kd s.heap D ks i → (∀ s', Moved (D :: wr) G s s' → FilledTo kd s'.heap D ks n → R (.ok (.ret .none)) s') →
      codeAny (model P w) A (.builtin "set.update.loop" ⟨[.ref D, .ref I], []⟩) R s := by
  have nw : D ∉ wr := fun q => out (wk.sub _ q)
  have keepO : ∀ {s s' : Shared} {i : Nat}, Moved wr G s s' → FilledTo kd s.heap D ks i → FilledTo kd s'.heap D ks i := fun {s s' i} hm ⟨o, es, ep, t, ho, rest⟩ => ⟨o, es, ep, t, hm.heap D o nw ho, rest⟩
  intro left
  induction left with
  | zero =>
    intro i s e1 e2 st fl hR
    obtain rfl : i = n := by omega
    refine codeAny_builtin F.entry_set_update_loop ?_
    rw [Around.under_plainId F.plain_set_update_loop _]
    refine wpAny_bind (wk.done s _ _ st fun s' hm => ?_)
    exact wpAny_pure (hR s' (hm.mono fun b q => List.mem_cons_of_mem _ q) (keepO hm fl))
  | succ left ih =>
    intro i s e1 e2 st fl hR
    have lt : i < n := by omega
    refine codeAny_builtin F.entry_set_update_loop ?_
    rw [Around.under_plainId F.plain_set_update_loop _]
    refine wpAny_bind (wk.item i s _ _ lt st fun v s' hP st' hm => ?_)
    obtain ⟨z, hz, isz, scn⟩ := item i v hP
    have fl' := keepO hm fl
    refine wpAny_bind (wpAny_holding ?_)
    unfold setAdd
    refine wpAny_holding ?_
    refine wpAny_bind (kd.pyHash (k := z) isz ?_)
    have hl := met_le _ (ks.take i) rfl
    rw [List.length_take] at hl
    refine wpAny_setAddHashed_of (knd := kd) (s := { s' with toks := s'.toks + 1 }) isz scn fl' (by omega) fun h' same fill => ?_
    have nxt : FilledTo kd h' D ks (i + 1) := by
      have ez : ks.take (i + 1) = ks.take i ++ [z] := by rw [List.take_add_one, hz]; rfl
      refine SetOf_congr fill (fun j => ?_) ?_
      · rw [ez]
        simp [List.mem_append]
      · rw [ez, met_snoc]
        by_cases q : z ∈ ks.take i
        · rw [if_pos (decide_eq_true q), if_pos ((met_mem _ _ rfl).mpr q)]
        · rw [if_neg (by simpa using q), if_neg (fun c => q ((met_mem _ _ rfl).mp c)), List.length_append, List.length_singleton]
    refine wpAny_pure ⟨plainId_quiet F.plain_set_update_loop _, ih (i + 1) _ (by omega) lt (wk.frame _ s' _ _ st' (Nat.le_succ _) fun b hb o e => ?_) nxt fun s'' hm2 fl2 => ?_⟩
    · rw [same.2 b (fun q : b = D => out (q ▸ hb))]; exact e
    · refine hR s'' (Moved.trans wk.gtrans ((hm.mono fun b q => List.mem_cons_of_mem _ q).then_heap (Nat.le_succ _) fun b o q e => ?_) hm2) fl2
      rw [same.2 b (fun c : b = D => q (c ▸ List.mem_cons_self))]; exact e
abbrev emptyO (w : World) : Obj := { cls := .type "set", dict := none, data := .set #[] 0 (.fresh 0 0 (!w.params.followText "set-order")) }
theorem call_set_keys {l : Addr} {xs : Array Value} (ks : List κ) {Q : Value → Shared → Prop} (hh : A.handled = none) (tup : s.heap.IsTuple l xs) (size : xs.size = ks.length) (few : ks.length + 1 < scanBound)
    (item : ∀ (i : Nat) v, xs[i]? = some v → ∃ z, ks[i]? = some z ∧ kd.is z v = true ∧ v.scannable = true)
    (fin : ∀ (h' : Heap) (tk : Nat), FilledTo kd h' s.heap.objs.size ks ks.length → (∀ b o, s.heap.get? b = some o → h'.get? b = some o) → Q (.ref s.heap.objs.size) { s with heap := h', toks := tk }) :
    wpAny (model P w) A (call (.type "set") [.ref l]) Q E s := by
  obtain ⟨c, tl, hmro⟩ := F.called_set.mro
  have a1 := F.called_set.made
  have a2 := F.called_set.sub
  refine wpAny_call (codeAny_of_tree ?_)
  show wpAny _ _ (callAny (.type "set") _) _ _ _
  refine wpAny_pure ⟨Code.quiet_builtin _ (by decide +kernel), codeAny_builtin F.entry_type_call ?_⟩
  rw [Around.under_plain (weight_type_call_type "set" [.ref l] []) rfl]
  have a3 := F.called_set.notType
  have a4 := F.called_set.canCreate
  have a5 := F.typeCall_set_1 (.ref l)
  repeat (any_goals (first | assumption | wp_step))
  refine codeAny_mono (code_set_led1 (.ref l) (E := E) (Q₁ := fun obj s₁ => obj = .ref s.heap.objs.size ∧ s₁ = { s with heap := s.heap.push (emptyO w) }) ⟨rfl, rfl⟩) fun r s₁ hr => ?_
  cases r with
  | error e => exact hr
  | ok fl =>
    cases fl with
    | ret obj =>
      obtain ⟨rfl, rfl⟩ := hr
      have at1 : (s.heap.push (emptyO w)).get? s.heap.objs.size = some (emptyO w) := Heap.get?_push_size _ rfl
      have ty1 : Shared.TypeIs { s with heap := s.heap.push (emptyO w) } (.ref s.heap.objs.size) "set" := ⟨_, at1, rfl⟩
      have a6 := F.called_set.init.lookup
      have a7 := F.called_set.init.bind (.ref s.heap.objs.size)
      repeat (any_goals (first | assumption | wp_step))
      refine codeAny_mono (codeAny_call_builtin (R := wants (fun r s₂ => r = .none ∧ ∃ h' tk, s₂ = { s with heap := h', toks := tk } ∧ FilledTo kd h' s.heap.objs.size ks ks.length ∧ ∀ b o, s.heap.get? b = some o → h'.get? b = some o) E) F.called_set.init.plain F.entry_set_init (check_set_init_1 ty1 ?_)) fun r₂ s₂ hr₂ => ?_
      · obtain ⟨⟨ocls, odict, odata, oslots⟩, hol, hcl, nl, hdl⟩ := tup
        simp only at hcl hdl
        subst hcl; subst hdl
        have at2 : (s.heap.push (emptyO w)).get? l = some { cls := .type "tuple", dict := odict, data := .seq xs nl, slots := oslots } := Heap.get?_push_of_some _ hol
        have b1 := F.sub_tuple_set
        have b2 := F.sub_tuple_frozenset
        have b3 : (Value.type "tuple" == Value.type "dict") = false := by decide
        have tup2 : (s.heap.push (emptyO w)).IsTuple l xs := ⟨_, at2, rfl, nl, rfl⟩
        unfold Builtin.«set.__init__» noKeywords Builtin.Frozenset.updateFrom
        generalize hPI : pyIter = PI
        wp_walk
        subst hPI
        refine wpAny_pyIter_tuple tup2 ?_
        refine wpAny_bind (wpAny_runValue ?_)
        have lt := Heap.lt_size hol
        have hh3 : A.in1.in1.in1.handled = none := by simp [hh]
        have neI : l ≠ (s.heap.push (emptyO w)).objs.size := by
          rw [Heap.size_push]; exact Nat.ne_of_lt (Nat.lt_succ_of_lt lt)
        have out : s.heap.objs.size ∉ [(s.heap.push (emptyO w)).objs.size, l] := by
          rw [Heap.size_push]
          intro q
          rcases List.mem_cons.mp q with q | q
          · exact absurd q (Nat.ne_of_lt (Nat.lt_succ_self _))
          · exact absurd (List.mem_singleton.mp q) (Nat.ne_of_gt lt)
        refine fill_keys ((Walks.tuple hh3 _ l neI xs).toS) s.heap.objs.size out ks size few item (xs.size - 0) 0 _ (by omega) (Nat.zero_le _) ⟨⟨_, Heap.get?_push_size _ rfl, rfl, rfl⟩, (tup2.push _)⟩ ?start ?last
        case start =>
          have at3 : ((s.heap.push (emptyO w)).push { cls := .type "tuple_iterator", data := .fields #[.ref l, .int 0 0] }).get? s.heap.objs.size = some (emptyO w) := Heap.get?_push_of_some _ at1
          exact SetOf_congr ((setObjOf_fresh (knd := kd) _).setOf at3 (by unfold scanBound; omega)) (fun _ => by simp) rfl
        case last =>
          intro s' hm fl
          obtain ⟨h', g2, d', tk', os'⟩ := s'
          have eg : g2 = s.gens := hm.gens
          have ed : d' = s.drawn := hm.drawn
          have eo : os' = s.os := hm.os
          subst eg; subst ed; subst eo
          show wpAny _ _ _ _ _ _
          refine wpAny_pure ?_
          show wpAny _ _ (ret Value.none) _ _ _
          rw [size] at fl
          refine wpAny_pure ⟨rfl, h', tk', rfl, fl, fun b o e => ?_⟩
          have hb0 : b < s.heap.objs.size := Heap.lt_size e
          refine hm.heap b o (fun q => ?_) (Heap.get?_push_of_some _ (Heap.get?_push_of_some _ e))
          rw [Heap.size_push] at q
          rcases List.mem_cons.mp q with q | q
          · exact absurd q (Nat.ne_of_lt hb0)
          · rcases List.mem_cons.mp q with q | q
            · exact absurd q (Nat.ne_of_lt (Nat.lt_succ_of_lt hb0))
            · cases q
      · cases r₂ with
        | error e => exact hr₂
        | ok fl₂ =>
          cases fl₂ with
          | ret r =>
            obtain ⟨rfl, h', tk, rfl, flt, kp⟩ := hr₂
            repeat (any_goals (first | assumption | wp_step))
            exact fin _ _ flt kp
          | _ => exact hr₂.elim
    | _ => exact hr.elim
end
end Jr

set_option Elab.async false
set_option linter.all false
set_option maxRecDepth 100000
set_option maxHeartbeats 2000000
namespace Jr
open PySem PySem.Spec PyProof.Rows L2
section
variable {X : Cx}
def tLenSetS (K : PySem.W.Frag) (ta : TE) : TE := fun σ H Q => ta σ H fun x H1 => (∃ (l : Addr) (ks : List Str), x = V.ref l ∧ SqT K H1 l (ks.map V.str) ∧ ks.length < 1000 ∧ Q (.int (met ks).length) H1) ∨
  ∃ (l : Addr) (ns : List Int), x = V.ref l ∧ SqL K H1 l (ns.map V.int) ∧ ns.length < 1000 ∧ Q (.int (met ns).length) H1
theorem firstMet_met (ns : List Int) : ∀ n, n ≤ ns.length → firstMet (fun i => ns.getD i 0) n = met (ns.take n)
  | 0, _ => rfl
  | n + 1, h => by
    have e : ns.take (n + 1) = ns.take n ++ [ns[n]] := by rw [List.take_add_one, List.getElem?_eq_getElem (by omega)]; rfl
    have e2 : ns.getD n 0 = ns[n] := by rw [List.getD_eq_getElem?_getD, List.getElem?_eq_getElem (by omega)]; rfl
    rw [e, met_snoc, ← firstMet_met ns n (by omega), firstMet_succ, e2]
    generalize firstMet (fun i => ns.getD i 0) n = l
    unfold step_dedup
    by_cases q : ns[n] ∈ l
    · rw [if_pos q]
      simp [q]
    · rw [if_neg q]
      simp [q]
theorem strs_at : ∀ {ks : List Str} {us : List Value}, Vals (ks.map V.str) us → ∀ (i : Nat) v, us[i]? = some v → ∃ z, ks[i]? = some z ∧ (strKind X.prog X.w).is z v = true ∧ v.scannable = true
  | [], _, .nil, i, v, e => by simp at e
  | z :: ks, _, .cons r t, 0, v, e => by
    cases e
    obtain ⟨tk, rfl⟩ := r
    exact ⟨z, rfl, strKind_is _ _ _ _, rfl⟩
  | z :: ks, _, .cons r t, i + 1, v, e => strs_at t i v (by simpa using e)
theorem pe_lenSetS {a : Expr} {ta : TE} {p p2 q pos : Pos} (hc : X.calm = true) (hg : Gl X "len") (hm : X.mg "len" = none) (hg2 : Gl X "set") (hm2 : X.mg "set" = none) (ha : PE X a ta)
    (na : starEach [a] X.env = (false, eval a X.env) :: starEach [] X.env) : PE X (.Call (.Name "len" p) [.Call (.Name "set" p2) [a] [] q] [] pos) (tLenSetS X.K ta) := by
  refine ⟨fun pins s σ H Q I h => ?_⟩
  refine Call_ (ld_blt I hg hm PySem.boot_len ?_)
  refine callWith_builtin1 (args_cons ?_ rfl) rfl rfl
  refine Call_ (ld_blt I hg2 hm2 boot_set ?_)
  refine callWith_type1 (args_cons (thn (ha.run pins s σ H _ I h) fun v s1 ⟨x, H1, I1, r1, q1⟩ => args_nil ?_) na) na rfl
  rcases q1 with ⟨l, ks, rfl, hq, h1, q1⟩ | ⟨l, ns, rfl, hq, h1, q1⟩
  case inr =>
    cases r1
    obtain ⟨its, r, pl, hz⟩ := I1.list hq
    have hl : its.toArray.size = ns.length := by rw [List.size_toArray, ← r.length, List.length_map]
    refine call_set_list (ns := ns) (I1.ok.hd hc) pl.isList (by rw [List.toList_toArray]; exact r.ints) (by unfold scanBound; omega) fun h' tk fl hk => ?_
    refine args_nil ?_
    obtain ⟨o, es, ep, t, ho, hex, hd, _, _, _, hf, hn⟩ := fl
    have I2 : Inv X pins σ H1 { s1 with heap := h', toks := tk } := I1.kept fun b o e => hk b o (Heap.lt_size e) e
    have e3 : (firstMet (fun i => ns.getD i 0) its.toArray.size).length = (met ns).length := by rw [hl, firstMet_met ns _ (Nat.le_refl _), List.take_length]
    have ml := met_le _ ns rfl
    refine call_len_set ho hex hd hf (by rw [hn, e3]; omega) ⟨.int (met ns).length, H1, I2.tok _, ⟨_, by rw [hn, e3]⟩, q1⟩
  cases r1
  obtain ⟨its, r, pl, hz⟩ := I1.tuple hq
  have hl : its.toArray.size = ks.length := by rw [List.size_toArray, ← r.length, List.length_map]
  refine call_set_keys (kd := strKind X.prog X.w) ks (I1.ok.hd hc) pl hl (by unfold scanBound; omega) (fun i v e => strs_at r i v (by simpa using e)) fun h' tk fl hk => ?_
  unfold FilledTo at fl
  rw [List.take_length] at fl
  refine args_nil ?_
  obtain ⟨o, es, ep, t, ho, hex, hd, _, _, _, hf, hn⟩ := fl
  have I2 : Inv X pins σ H1 { s1 with heap := h', toks := tk } := I1.kept fun b o e => hk b o e
  have ml := met_le _ ks rfl
  refine call_len_set ho hex hd hf (by rw [hn]; omega) ⟨.int (met ks).length, H1, I2.tok _, ⟨_, by rw [hn]⟩, q1⟩
theorem allS_rel {P : Addr → Prop} {H : Hp} : ∀ {ds : List D} {vs : List V} {l : List Str}, RDs P H ds vs → allS ds = some l → vs = l.map V.str ∧ ∀ z ∈ l, okS z = true
  | _, _, l, .nil, e => by cases e; exact ⟨rfl, fun z h => by cases h⟩
  | d :: ds, _, l, .cons r t, e => by
    cases d with
    | str i =>
      cases r with | str _ ok =>
      unfold allS at e
      simp only [asS, Option.bind_some] at e
      cases e2 : allS ds with
      | none => rw [e2] at e; cases e
      | some l' =>
        rw [e2] at e
        cases e
        obtain ⟨h1, h2⟩ := allS_rel t e2
        refine ⟨by rw [h1]; rfl, fun z hz => ?_⟩
        rcases List.mem_cons.mp hz with rfl | hz
        · exact ok
        · exact h2 z hz
    | _ => cases e
variable {C : Nat → Option Value} {W : WX} {a : Expr} {eva : Env → M Vl}
theorem e_lnS {p p2 q pos : Pos} (hc : X.calm = true) (hg : Gl X "len") (hm : X.mg "len" = none) (hg2 : Gl X "set") (hm2 : X.mg "set" = none) (ha : PE X a (tE C eva X.K W))
    (na : starEach [a] X.env = (false, eval a X.env) :: starEach [] X.env) : PE X (.Call (.Name "len" p) [.Call (.Name "set" p2) [a] [] q] [] pos) (tE C (fun en => M.bind (dd (eva en)) fun x => pO (lnSV x)) X.K W) := by
  refine pei (pe_lenSetS hc hg hm hg2 hm2 ha na) fun σ H Q ⟨L, ρ, h, en, hr, er, o⟩ => ?_
  dsimp only at o
  rw [dd_bind] at o
  refine ⟨L, ρ, h, en, hr, er, (Out.split (rel := relV L) o).mono fun v H1 ⟨ρ1, h1, x, hr1, s1, rv1, o1⟩ => ?_⟩
  obtain ⟨dx, rx, o3⟩ := Out.rd hr1 rv1 o1
  obtain ⟨d, ed, q⟩ := Out.pO hr1 o3
  cases dx with
  | tuple xs =>
    cases (show RD _ _ _ _ from rx) with | tup np e1 z c =>
    unfold lnSV at ed
    dsimp only at ed
    cases e2 : allS xs with
    | none => rw [e2] at ed; cases ed
    | some l =>
      rw [e2, Option.bind_some] at ed
      by_cases h64 : l.length < 1000
      · rw [if_pos h64] at ed
        cases ed
        obtain ⟨ev, ok⟩ := allS_rel c e2
        subst ev
        exact .inl ⟨_, l, rfl, e1.sq, h64, q.here hr1 (.int _)⟩
      · rw [if_neg h64] at ed; cases ed
  | list xs =>
    obtain ⟨p, vs, rfl, sq, z, c⟩ := rx
    unfold lnSV at ed
    dsimp only at ed
    cases e2 : allI xs with
    | none => rw [e2] at ed; cases ed
    | some l =>
      rw [e2, Option.bind_some] at ed
      by_cases h64 : l.length < 1000
      · rw [if_pos h64] at ed
        cases ed
        have ev := allI_rel c e2
        subst ev
        exact .inr ⟨_, l, rfl, sq, h64, q.here hr1 (.int _)⟩
      · rw [if_neg h64] at ed; cases ed
  | _ => cases ed
end
end Jr

set_option Elab.async false
set_option linter.all false
set_option maxRecDepth 100000
set_option maxHeartbeats 1000000
namespace Jr
open PySem PySem.Spec PyProof.Rows L2
/-! ### sorted(xs), min(xs): xs tuples of one kind -/
mutual
theorem toP_inj : ∀ a b : D, toP a = toP b → a = b
  | .none, b, h => by cases b <;> simp_all [toP]
  | .bool _, b, h => by cases b <;> simp_all [toP]
  | .int _, b, h => by cases b <;> simp_all [toP]
  | .str _, b, h => by cases b <;> simp_all [toP]
  | .list xs, b, h => by
    cases b with
    | list ys => simp only [toP, PyData.list.injEq] at h; rw [toPs_inj xs ys h]
    | _ => simp [toP] at h
  | .tuple xs, b, h => by
    cases b with
    | tuple ys => simp only [toP, PyData.tuple.injEq] at h; rw [toPs_inj xs ys h]
    | _ => simp [toP] at h
theorem toPs_inj : ∀ a b : List D, toPs a = toPs b → a = b
  | [], [], _ => rfl
  | [], _ :: _, h => by simp [toPs] at h
  | _ :: _, [], h => by simp [toPs] at h
  | x :: xs, y :: ys, h => by
    simp only [toPs, List.cons.injEq] at h
    rw [toP_inj x y h.1, toPs_inj xs ys h.2]
end
theorem deps_mem : ∀ {xs : List D} {x : D}, x ∈ xs → dep x ≤ deps xs
  | y :: ys, x, h => by
    rcases List.mem_cons.mp h with rfl | h
    · exact Nat.le_max_left _ _
    · exact Nat.le_trans (deps_mem h) (Nat.le_max_right _ _)
theorem alike_of {xs : List D} (h : alikeB xs = true) {x y : D} (hx : x ∈ xs) (hy : y ∈ xs) : PySem.W.alike (toP x) (toP y) = true := by
  unfold alikeB at h
  rw [List.all_eq_true] at h
  have := h x hx
  rw [List.all_eq_true] at this
  exact this y hy
theorem tupNE_of {xs : List D} (h : xs.all tupNE = true) {x : D} (hx : x ∈ xs) : ∃ y r, x = .tuple (y :: r) := by
  have := List.all_eq_true.mp h x hx
  cases x with
  | tuple ys =>
    cases ys with
    | nil => cases this
    | cons y r => exact ⟨y, r, rfl⟩
  | _ => cases this
theorem RDs.zipIs {P : Addr → Prop} {H : Hp} : ∀ {ds : List D} {vs : List V}, RDs P H ds vs → ∀ b ∈ ds.zip vs, RD P H b.1 b.2
  | _, _, .nil, b, h => by simp at h
  | _, _, .cons r t, b, h => by
    rcases List.mem_cons.mp (by simpa using h) with h | h
    · subst h; exact r
    · exact RDs.zipIs t b h
theorem RDs.ofPairs {P : Addr → Prop} {H : Hp} : ∀ (bs : List (D × V)), (∀ b ∈ bs, RD P H b.1 b.2) → RDs P H (bs.map (·.1)) (bs.map (·.2))
  | [], _ => .nil
  | b :: bs, h => .cons (h b List.mem_cons_self) (RDs.ofPairs bs fun c hc => h c (List.mem_cons_of_mem _ hc))
def vsEach {bs : List (D × V)} : ∀ {us : List Value}, Vals (bs.map (·.2)) us → PySem.W.EachIs (fun (u : Value) (b : D × V) => RelV b.2 u) us bs := by
  induction bs with
  | nil => intro us h; cases h; exact .nil
  | cons b bs ih => intro us h; cases h with | cons r t => exact .cons r (ih t)
theorem eachVs : ∀ {bs : List (D × V)} {us : List Value}, PySem.W.EachIs (fun (u : Value) (b : D × V) => RelV b.2 u) us bs → Vals (bs.map (·.2)) us
  | _, _, .nil => .nil
  | _, _, .cons r t => .cons r (eachVs t)
theorem each_memL {α β : Type} {R : α → β → Prop} {S : α → β → Prop} : ∀ {as : List α} {bs : List β}, PySem.W.EachIs R as bs → (∀ a b, b ∈ bs → R a b → S a b) → PySem.W.EachIs S as bs
  | _, _, .nil, _ => .nil
  | _, _, .cons r t, h => .cons (h _ _ List.mem_cons_self r) (each_memL t fun a b hb => h a b (List.mem_cons_of_mem _ hb))
section
variable {X : Cx}
theorem cr_sortedD (hu : X.A.units + 64 < cLine) : CallR X (.builtin "sorted") (fun vs H Q => ∃ (a : Addr) (bs : List (D × V)) (P : Addr → Prop), vs = [.ref a] ∧ SqL X.K H a (bs.map (·.2)) ∧ (∀ b ∈ bs, RD P H b.1 b.2) ∧ bs.length ≤ 1000 ∧
    alikeB (bs.map (·.1)) = true ∧ (bs.map (·.1)).all tupNE = true ∧ deps (bs.map (·.1)) ≤ 60 ∧ ∀ p, H p = none → Q (.ref p) (upd H p (.lst ((bs.mergeSort fun x y => leD x.1 y.1).map (·.2))))) := by
  intro pins s σ H vs us Q I r ⟨a, bs, P, e0, sq, rb, z, al, ne, dp, q⟩
  subst e0
  obtain ⟨its, rv, hl, _⟩ := I.list sq
  rw [Vals.ref1 r]
  have mem : ∀ {b : D × V}, b ∈ bs → b.1 ∈ bs.map (·.1) := fun h => List.mem_map.mpr ⟨_, h, rfl⟩
  have e1 := vsEach rv
  refine PySem.W.sorted_data (enc := fun b : D × V => toP b.1) (bs := bs) hl.isList e1 (each_memL e1 fun u b hb ru => Dp.reads I _ _ _ (RD.dp _ _ (rb b hb)) ru) ?_ ?_ (by rw [sizeLine_eq]; omega) (fun b hb => ?_) fun out hlen ho => ?_
  · intro d hd d' hd'
    obtain ⟨b, hb, rfl⟩ := List.mem_map.mp hd
    obtain ⟨c, hc, rfl⟩ := List.mem_map.mp hd'
    exact alike_of al (mem hb) (mem hc)
  · refine .inl fun d hd => ?_
    obtain ⟨b, hb, rfl⟩ := List.mem_map.mp hd
    obtain ⟨y, r, e⟩ := tupNE_of ne (mem hb)
    exact ⟨toP y, toPs r, by rw [e]; rfl⟩
  · have := deps_mem (mem hb)
    rw [dep_eq]
    omega
  · obtain ⟨c, hc⟩ := sortedAll_at s.heap its out.toArray
    have zl : ((bs.mergeSort fun x y => leD x.1 y.1).map (·.2)).length ≤ sizeLine := by rw [List.length_map, List.length_mergeSort, sizeLine_eq]; omega
    exact ⟨.ref _, _, I.laid (t' := s.toks) (o := .lst ((bs.mergeSort fun x y => leD x.1 y.1).map (·.2))) (fun _ _ => sortedAll_old) (Nat.le_succ _) ⟨zl, out, c, eachVs ho, hc⟩, rfl, q _ (I.hok.fresh (Nat.le_succ _))⟩
/-- the least, in the list's own words -/
theorem minD_fold : ∀ (xs : List D) (x : D), PySem.W.minD (toP x) (xs.map toP) = toP (xs.foldl (fun a y => if ltD y a then y else a) x)
  | [], x => rfl
  | y :: xs, x => by
    have := minD_fold xs (if ltD y x then y else x)
    unfold PySem.W.minD at this ⊢
    rw [List.map_cons, List.foldl_cons, List.foldl_cons, ← this]
    congr 1
    unfold ltD
    split <;> rfl
theorem min_mem : ∀ (xs : List D) (x : D), xs.foldl (fun a y => if ltD y a then y else a) x ∈ x :: xs
  | [], x => List.mem_cons_self
  | y :: xs, x => by
    rw [List.foldl_cons]
    have := min_mem xs (if ltD y x then y else x)
    rcases List.mem_cons.mp this with h | h
    · rw [h]; split <;> simp
    · exact List.mem_cons_of_mem _ (List.mem_cons_of_mem _ h)
theorem RDs.dpAll {K : PySem.W.Frag} {P : Addr → Prop} {H : Hp} : ∀ {ds : List D} {vs : List V}, RDs P H ds vs → DpAll K H vs (toPs ds) := fun {ds vs} h => RDs.dp ds vs h
theorem toP_none {d : D} (h : toP d = .none) : d = .none := by cases d <;> simp_all [toP]
theorem cr_minD (hc : X.calm = true) (hu : X.A.units + 64 < cLine) : CallR X (.builtin "min") (fun vs H Q => ∃ (a : Addr) (x : D) (ds : List D) (ws : List V) (P : Addr → Prop), vs = [.ref a] ∧ SqL X.K H a ws ∧ RDs P H (x :: ds) ws ∧
    alikeB (x :: ds) = true ∧ (x :: ds).all tupNE = true ∧ deps (x :: ds) ≤ 60 ∧ ∀ v, RD P H (ds.foldl (fun a y => if ltD y a then y else a) x) v → Q v H) := by
  intro pins s σ H vs us Q I r ⟨a, x, ds, ws, P, e0, sq, rb, al, ne, dp, q⟩
  subst e0
  obtain ⟨its, rv, hl, _⟩ := I.list sq
  rw [Vals.ref1 r]
  obtain ⟨as, ra⟩ := Dp.readsAll I (toPs (x :: ds)) ws its rb.dpAll rv
  have er : toPs (x :: ds) = toP x :: ds.map toP := by rw [toPs_map]; rfl
  have al2 : PySem.W.AlikeAll (toP x :: ds.map toP) := by
    rw [← er, toPs_map]
    refine ⟨fun d hd e he => ?_, fun d hd z => ?_⟩
    · obtain ⟨d1, h1, rfl⟩ := List.mem_map.mp hd
      obtain ⟨d2, h2, rfl⟩ := List.mem_map.mp he
      exact alike_of al h1 h2
    · obtain ⟨d1, h1, rfl⟩ := List.mem_map.mp hd
      obtain ⟨y, r, e⟩ := tupNE_of ne h1
      rw [toP_none z] at e; cases e
  have dp2 : X.A.units + 1 + PyData.depthAll (toP x :: ds.map toP) < cLine := by
    rw [← er, deps_eq]; omega
  refine PySem.W.min_list_data (vs := its.toArray) (I.ok.hd hc) hl.isList (by rw [List.toList_toArray, ← er]; exact ra) al2 dp2 fun i v h' tk bs hi hr hk => ?_
  have hi : its[i]? = some v := by simpa using hi
  have hlen := rv.length
  have hlen2 := rb.length
  have hii : i < its.length := by
    rcases Nat.lt_or_ge i its.length with z | z
    · exact z
    · rw [List.getElem?_eq_none z] at hi; cases hi
  have hw : ws[i]? = some ws[i] := List.getElem?_eq_getElem (by omega)
  obtain ⟨u, hu2, ru⟩ := rv.get hw
  rw [hi] at hu2
  cases hu2
  have hd : (x :: ds)[i]? = some (x :: ds)[i] := List.getElem?_eq_getElem (by omega)
  obtain ⟨w, hw2, rd⟩ := rb.get hd
  rw [hw] at hw2
  cases hw2
  obtain ⟨cs, r3⟩ := Dp.reads I _ _ _ (RD.dp (K := X.K) _ _ rd) ru
  have r4 := PySem.W.reads_keeps hk r3
  rw [minD_fold] at hr
  have e5 := PySem.W.alike_unique _ _ _ _ _ (alike_of al (List.getElem_mem (by omega)) (min_mem ds x)) r4 hr
  have e6 := toP_inj _ _ e5
  exact ⟨ws[i], H, I.kept (t' := tk) hk, ru, q _ (by rw [← e6]; exact rd)⟩
end
end Jr

set_option Elab.async false
set_option linter.all false
set_option maxRecDepth 100000
set_option maxHeartbeats 1000000
namespace Jr
open PySem PySem.Spec PyProof.Rows L2
def tyName : Ty → String
  | .int => "int"
  | .bool => "bool"
  | .str => "str"
  | .tuple => "tuple"
  | .list => "list"
def tyOfD : D → String
  | .none => "NoneType"
  | .bool _ => "bool"
  | .int _ => "int"
  | .str _ => "str"
  | .list _ => "list"
  | .tuple _ => "tuple"
theorem kit_all : ∀ (n : String) (t : Ty) , kitB "NoneType" (tyName t) = some false ∧ kitB "bool" (tyName t) = some (isTy (.bool true) t) ∧ kitB "int" (tyName t) = some (isTy (.int 0) t) ∧ kitB "str" (tyName t) = some (isTy (.str Str.empty) t) ∧
    kitB "list" (tyName t) = some (isTy (.list []) t) ∧ kitB "tuple" (tyName t) = some (isTy (.tuple []) t) := by
  intro n t
  cases t <;> (refine ⟨?_, ?_, ?_, ?_, ?_, ?_⟩ <;> decide +kernel)
theorem kit_d (d : D) (t : Ty) : kitB (tyOfD d) (tyName t) = some (isTy d t) := by
  obtain ⟨h1, h2, h3, h4, h5, h6⟩ := kit_all "" t
  cases d with
  | none => exact h1.trans (by cases t <;> rfl)
  | bool b => exact h2.trans (by cases t <;> rfl)
  | int b => exact h3.trans (by cases t <;> rfl)
  | str b => exact h4.trans (by cases t <;> rfl)
  | list b => exact h5.trans (by cases t <;> rfl)
  | tuple b => exact h6.trans (by cases t <;> rfl)
theorem RT.ty {K : PySem.W.Frag} {P : Addr → Prop} {H : Hp} {d : D} {v : V} (r : RT K P H d v) : TyX K H v (.type (tyOfD d)) := by
  cases d with
  | list xs =>
    obtain ⟨p, vs, rfl, sq, z, c⟩ := r
    rcases sq with (e | ⟨o, e⟩) | ⟨o, its, n, e1, e2, _⟩
    · exact .base (.lst e)
    · exact .base (.frz e)
    · exact .kList e1 e2
  | none => cases (show RD _ _ _ _ from r); exact .base .non
  | bool b => cases (show RD _ _ _ _ from r); exact .base (.bl _)
  | int b => cases (show RD _ _ _ _ from r); exact .base (.int _)
  | str b => cases (show RD _ _ _ _ from r); exact .base (.str _)
  | tuple b => cases (show RD _ _ _ _ from r) with | tup np e1 z c => exact .fTuple e1.choose_spec.1
section
variable {X : Cx} {C : Nat → Option Value} {W : WX} {a b c : Expr} {eva evb evc : Env → M Vl} {pos : Pos}
theorem e_isi {t : Ty} {p p2 : Pos} (hg : Gl X "isinstance") (hm : X.mg "isinstance" = none) (hg2 : Gl X (Str.ofString (tyName t))) (hm2 : X.mg (Str.ofString (tyName t)) = none) (ha : PE X a (tE C eva X.K W))
    (hs : starEach [a, .Name (Str.ofString (tyName t)) p2] X.env = (false, eval a X.env) :: starEach [.Name (Str.ofString (tyName t)) p2] X.env) :
    PE X (.Call (.Name "isinstance" p) [a, .Name (Str.ofString (tyName t)) p2] [] pos) (tE C (fun en => M.bind (dd (eva en)) fun x => pD (.bool (isTy x t))) X.K W) := by
  have hb : PE X (.Name (Str.ofString (tyName t)) p2) (tC (.ty (tyName t))) := by
    refine pe_bltn (u := .type (tyName t)) hg2 hm2 ?_ rfl ?_ ?_
    · cases t <;> decide +kernel
    · cases t <;> decide +kernel
    · cases t <;> decide +kernel
  refine pei (pe_callB call_isi hg hm (by decide +kernel) (pa_cons ha (pa_cons hb pa_nil) hs) (by decide) (by decide) (by rw [hs])) fun σ H Q ⟨L, ρ, h, en, hr, er, o⟩ => ?_
  dsimp only at o
  rw [dd_bind] at o
  refine ⟨L, ρ, h, en, hr, er, (Out.split (rel := relV L) o).mono fun v H1 ⟨ρ1, h1, x, hr1, s1, rv1, o1⟩ => ?_⟩
  obtain ⟨dx, rx, o3⟩ := Out.rd hr1 rv1 o1
  exact ⟨v, .ty (tyName t), _, _, _, rfl, .ty _, rx.ty, kit_ty (kit_d dx t), (Out.pD hr1 o3).here hr1 (.bool _)⟩
theorem e_toT {p : Pos} (hg : Gl X "tuple") (hm : X.mg "tuple" = none) (ha : PE X a (tE C eva X.K W)) (hs : starEach [a] X.env = (false, eval a X.env) :: starEach [] X.env) :
    PE X (.Call (.Name "tuple" p) [a] [] pos) (tE C (fun en => M.bind (dd (eva en)) fun x => pO ((asSeq x).map .tuple)) X.K W) := by
  refine pei (pe_callTy L2x.call_tupleF hg hm (by decide +kernel) (pa_cons ha pa_nil hs) (by decide) (by decide) (by rw [hs])) fun σ H Q ⟨L, ρ, h, en, hr, er, o⟩ => ?_
  dsimp only at o
  rw [dd_bind] at o
  refine ⟨L, ρ, h, en, hr, er, (Out.split (rel := relV L) o).mono fun v H1 ⟨ρ1, h1, x, hr1, s1, rv1, o1⟩ => ?_⟩
  obtain ⟨dx, rx, o3⟩ := Out.rd hr1 rv1 o1
  obtain ⟨d, e, q⟩ := Out.pO hr1 o3
  cases dx with
  | list xs =>
    cases e
    obtain ⟨p, vs, rfl, sq, z, c⟩ := rx
    exact ⟨p, vs, rfl, .inl ⟨sq, q.tup hr1 z c⟩⟩
  | tuple xs =>
    cases e
    cases (show RD _ _ _ _ from rx) with | tup np e1 z c =>
    exact ⟨_, _, rfl, .inr ⟨e1.sq, q.here hr1 (.tup np e1 z c)⟩⟩
  | _ => cases e
theorem f_toL {p : Pos} (hg : Gl X "list") (hm : X.mg "list" = none) (ha : PE X a (tE C eva X.K W)) (hs : starEach [a] X.env = (false, eval a X.env) :: starEach [] X.env) :
    PE X (.Call (.Name "list" p) [a] [] pos) (tF C (fun en => M.bind (dd (eva en)) fun x => ofO (asSeq x)) X.K W) := by
  refine pei (pe_callTy call_list_of hg hm (by decide +kernel) (pa_cons ha pa_nil hs) (by decide) (by decide) (by rw [hs])) fun σ H Q ⟨L, ρ, h, en, hr, er, o⟩ => ?_
  dsimp only at o
  rw [dd_bind] at o
  refine ⟨L, ρ, h, en, hr, er, (Out.split (rel := relV L) o).mono fun v H1 ⟨ρ1, h1, x, hr1, s1, rv1, o1⟩ => ?_⟩
  obtain ⟨dx, rx, o3⟩ := Out.rd hr1 rv1 o1
  cases dx with
  | list xs =>
    obtain ⟨p, vs, rfl, sq, z, c⟩ := rx
    exact ⟨p, vs, rfl, .inl sq, fin_lst s1 hr1 o3 z c⟩
  | tuple xs =>
    cases (show RD _ _ _ _ from rx) with | tup np e1 z c =>
    exact ⟨_, _, rfl, .inr (e1.sq), fin_lst s1 hr1 o3 z c⟩
  | _ => exact False.elim o3
theorem rds_strs {P : Addr → Prop} {H : Hp} : ∀ {l : List Str}, (∀ z ∈ l, okS z = true) → RDs P H (l.map D.str) (l.map V.str)
  | [], _ => .nil
  | z :: l, h => .cons (.str z (h z List.mem_cons_self)) (rds_strs fun y hy => h y (List.mem_cons_of_mem _ hy))
theorem rds_ints0 {P : Addr → Prop} {H : Hp} : ∀ ns : List Int, RDs P H (ns.map D.int) (ns.map V.int)
  | [] => .nil
  | _ :: ns => .cons (.int _) (rds_ints0 ns)
theorem sLe_sorted (l : List Str) : sortedS (l.mergeSort sLe) = true := by
  have tr : ∀ a b c : Str, sLe a b = true → sLe b c = true → sLe a c = true := fun a b c h1 h2 => by
    unfold sLe at *
    simp only [Bool.not_eq_true', decide_eq_false_iff_not] at *
    exact List.le_trans (l₁ := a.cps.toList) (l₂ := b.cps.toList) h1 h2
  have to : ∀ a b : Str, (sLe a b || sLe b a) = true := fun a b => by
    unfold sLe
    simp only [Bool.or_eq_true, Bool.not_eq_true', decide_eq_false_iff_not]
    exact List.le_total (a.cps.toList) (b.cps.toList)
  have h := List.pairwise_mergeSort tr to l
  refine sortedS_of_pairwise _ (h.imp fun {a b} q => ?_)
  rw [ltCps_eq]
  unfold sLe at q
  simpa using q
theorem sLe_trans {a b c : Str} (h1 : sLe a b = true) (h2 : sLe b c = true) : sLe a c = true := by
  unfold sLe at *
  simp only [Bool.not_eq_true', decide_eq_false_iff_not] at *
  exact List.le_trans (l₁ := a.cps.toList) (l₂ := b.cps.toList) h1 h2
theorem rising_pw : ∀ (l : List Str) (p : Str), risingS p l = true → (p :: l).Pairwise fun a b => sLe a b = true
  | [], p, _ => List.pairwise_singleton _ _
  | x :: r, p, h => by
    have h : (!ltCps x.cps.toList p.cps.toList && risingS x r) = true := h
    obtain ⟨h1, h2⟩ := Bool.and_eq_true_iff.mp h
    have ih := rising_pw r x h2
    have hp : sLe p x = true := by
      rw [ltCps_eq] at h1
      exact h1
    refine List.pairwise_cons.mpr ⟨fun y hy => ?_, ih⟩
    rcases List.mem_cons.mp hy with rfl | hy
    · exact hp
    · exact sLe_trans hp ((List.pairwise_cons.mp ih).1 y hy)
theorem sorted_pw {l : List Str} (h : sortedS l = true) : l.Pairwise fun a b => sLe a b = true := by
  cases l with
  | nil => exact .nil
  | cons x r => exact rising_pw r x h
theorem str_eta (a b : Str) (h : a.cps.toList = b.cps.toList) : a = b := by
  cases a with | mk u =>
  cases b with | mk v =>
  exact congrArg Str.mk (Array.toList_inj.mp h)
theorem sLe_anti {a b : Str} (h1 : sLe a b = true) (h2 : sLe b a = true) : a = b := by
  unfold sLe at *
  simp only [Bool.not_eq_true', decide_eq_false_iff_not] at *
  exact str_eta a b (List.le_antisymm (as := a.cps.toList) (bs := b.cps.toList) h1 h2)
theorem f_srt {p : Pos} (hu : X.A.units + 64 < cLine) (hg : Gl X "sorted") (hm : X.mg "sorted" = none) (ha : PE X a (tE C eva X.K W)) (hs : starEach [a] X.env = (false, eval a X.env) :: starEach [] X.env) :
    PE X (.Call (.Name "sorted" p) [a] [] pos) (tF C (fun en => M.bind (dd (eva en)) fun x => ofO ((asL x).bind sortV)) X.K W) := by
  have cr : CallR X (.builtin "sorted") (fun vs H Q => rSortedI X.K vs H Q ∨ rSortedS X.K vs H Q ∨ (fun vs H Q => ∃ (a : Addr) (bs : List (D × V)) (P : Addr → Prop), vs = [.ref a] ∧ SqL X.K H a (bs.map (·.2)) ∧ (∀ b ∈ bs, RD P H b.1 b.2) ∧ bs.length ≤ 1000 ∧
    alikeB (bs.map (·.1)) = true ∧ (bs.map (·.1)).all tupNE = true ∧ deps (bs.map (·.1)) ≤ 60 ∧ ∀ p, H p = none → Q (.ref p) (upd H p (.lst ((bs.mergeSort fun x y => leD x.1 y.1).map (·.2))))) vs H Q) := fun pins s σ H vs us Q I r h => by
    rcases h with h | h | h
    · exact cr_sortedI pins s σ H vs us Q I r h
    · exact cr_sortedS pins s σ H vs us Q I r h
    · exact cr_sortedD hu pins s σ H vs us Q I r h
  refine pei (pe_callB cr hg hm (by decide +kernel) (pa_cons ha pa_nil hs) (by decide) (by decide) (by rw [hs])) fun σ H Q ⟨L, ρ, h, en, hr, er, o⟩ => ?_
  dsimp only at o
  rw [dd_bind] at o
  refine ⟨L, ρ, h, en, hr, er, (Out.split (rel := relV L) o).mono fun v H1 ⟨ρ1, h1, x, hr1, s1, rv1, o1⟩ => ?_⟩
  obtain ⟨dx, rx, o3⟩ := Out.rd hr1 rv1 o1
  cases dx with
  | list xs =>
    obtain ⟨p, vs, rfl, sq, z, c⟩ := rx
    have e0 : (asL (D.list xs)).bind sortV = sortV xs := rfl
    rw [e0] at o3
    unfold sortV at o3
    cases e : allI xs with
    | some l =>
      rw [e] at o3
      have ev := allI_rel c e
      subst ev
      have hl : xs.length = l.length := by rw [c.length, List.length_map]
      have pm := List.mergeSort_perm l fun a b => decide (a ≤ b)
      have pw : (l.mergeSort fun a b => decide (a ≤ b)).Pairwise (· ≤ ·) := by
        have := List.pairwise_mergeSort (le := fun a b : Int => decide (a ≤ b)) (fun a b c h1 h2 => by simp only [decide_eq_true_eq] at *; omega) (fun a b => by simp only [Bool.or_eq_true, decide_eq_true_eq]; omega) l
        exact this.imp fun h => by simpa using h
      refine .inl ⟨p, l, rfl, sq, fun ns' p' pm' pw' n => ?_⟩
      have eq : ns' = l.mergeSort fun a b => decide (a ≤ b) := (pm'.trans pm.symm).eq_of_pairwise (le := (· ≤ ·)) (fun a b _ _ h1 h2 => Int.le_antisymm h1 h2) pw' pw
      rw [eq]
      exact fin_lst s1 hr1 o3 (by rw [List.length_map, pm.length_eq, ← hl]; exact z) (rds_ints0 _) p' n
    | none =>
      rw [e] at o3
      dsimp only at o3
      cases e2 : allS xs with
      | none =>
        rw [e2] at o3
        dsimp only at o3
        unfold sortT at o3
        by_cases q : xs.length ≤ 1000 ∧ alikeB xs = true ∧ xs.all tupNE = true ∧ deps xs ≤ 60
        · rw [if_pos q] at o3
          obtain ⟨q1, q2, q3, q4⟩ := q
          have el := c.length
          have f1 : (xs.zip vs).map (·.1) = xs := List.map_fst_zip (by omega)
          have f2 : (xs.zip vs).map (·.2) = vs := List.map_snd_zip (by omega)
          have zi := c.zipIs
          refine .inr (.inr ⟨p, xs.zip vs, _, rfl, by rw [f2]; exact sq, zi, by rw [List.length_zip]; omega, by rw [f1]; exact q2, by rw [f1]; exact q3, by rw [f1]; exact q4, fun p' n => ?_⟩)
          have pm := List.mergeSort_perm (xs.zip vs) fun x y => leD x.1 y.1
          have rr := RDs.ofPairs ((xs.zip vs).mergeSort fun x y => leD x.1 y.1) fun b hb => zi b (pm.mem_iff.mp hb)
          have em : ((xs.zip vs).mergeSort fun x y => leD x.1 y.1).map (·.1) = xs.mergeSort leD := by
            rw [List.map_mergeSort (s := leD) fun a _ b _ => rfl, f1]
          rw [em] at rr
          exact fin_lst s1 hr1 o3 (by rw [List.length_mergeSort]; exact z) rr p' n
        · rw [if_neg q] at o3; exact False.elim o3
      | some l =>
        rw [e2] at o3
        dsimp only at o3
        obtain ⟨ev, ok⟩ := allS_rel c e2
        subst ev
        have hl : xs.length = l.length := by rw [c.length, List.length_map]
        by_cases h64 : l.length < 64
        · rw [if_pos h64] at o3
          have pm := List.mergeSort_perm l sLe
          refine .inr (.inl ⟨p, l, rfl, sq, h64, fun ys p' pm' sd n => ?_⟩)
          have eq : ys = l.mergeSort sLe := (pm'.trans pm.symm).eq_of_pairwise (le := fun a b => sLe a b = true) (fun a b _ _ h1 h2 => sLe_anti h1 h2) (sorted_pw sd) (sorted_pw (sLe_sorted l))
          rw [eq]
          exact fin_lst s1 hr1 o3 (by rw [List.length_map, pm.length_eq, ← hl]; exact z) (rds_strs fun z hz => ok z (pm.mem_iff.mp hz)) p' n
        · rw [if_neg h64] at o3
          exact False.elim o3
  | _ => exact False.elim o3
theorem e_minT {p : Pos} (hc : X.calm = true) (hu : X.A.units + 64 < cLine) (hg : Gl X "min") (hm : X.mg "min" = none) (ha : PE X a (tE C eva X.K W)) (hs : starEach [a] X.env = (false, eval a X.env) :: starEach [] X.env) :
    PE X (.Call (.Name "min" p) [a] [] pos) (tE C (fun en => M.bind (dd (eva en)) fun x => pO ((asL x).bind minTV)) X.K W) := by
  refine pei (pe_callB (cr_minD hc hu) hg hm (by decide +kernel) (pa_cons ha pa_nil hs) (by decide) (by decide) (by rw [hs])) fun σ H Q ⟨L, ρ, h, en, hr, er, o⟩ => ?_
  dsimp only at o
  rw [dd_bind] at o
  refine ⟨L, ρ, h, en, hr, er, (Out.split (rel := relV L) o).mono fun v H1 ⟨ρ1, h1, x, hr1, s1, rv1, o1⟩ => ?_⟩
  obtain ⟨dx, rx, o3⟩ := Out.rd hr1 rv1 o1
  obtain ⟨d, ed, q⟩ := Out.pO hr1 o3
  cases dx with
  | list xs =>
    obtain ⟨p, vs, rfl, sq, z, c⟩ := rx
    cases xs with
    | nil => cases ed
    | cons y ys =>
      have ed : (if (y :: ys).length ≤ 1000 ∧ alikeB (y :: ys) = true ∧ (y :: ys).all tupNE = true ∧ deps (y :: ys) ≤ 60 then some (ys.foldl (fun a y => if ltD y a then y else a) y) else none) = some d := ed
      by_cases k : (y :: ys).length ≤ 1000 ∧ alikeB (y :: ys) = true ∧ (y :: ys).all tupNE = true ∧ deps (y :: ys) ≤ 60
      · rw [if_pos k] at ed
        cases ed
        exact ⟨p, y, ys, vs, _, rfl, sq, c, k.2.1, k.2.2.1, k.2.2.2, fun v r => q.here hr1 r⟩
      · rw [if_neg k] at ed; cases ed
  | _ => cases ed
/-! ### calls of the program's own defs -/
def spM (C : Nat → Option Value) (K : PySem.W.Frag) (g : List Vl → M Vl) : Sp := fun vs H Q E => ∃ L ρ h xs, HR K L ρ h H ∧ RVs (Pr L ρ h) ρ H xs vs ∧ Out K C L ρ h H (relV L) E (g xs h) Q
theorem e_call {k : Nat} {f : Addr} {fd : FuncData} {ps : List Str} {g : List Vl → M Vl} {x : Str} {p : Pos} {e : Expr} {es : List Expr} {evs : Env → M (List Vl)}
    (F : FnOk X.prog X.w X.K X.mg X.base (L2.CX X.prog X.w) k f fd ps (spM C X.K g)) (hr : Room k X.A) (hg : Gl X x) (hm : X.mg x = some (.ref f)) (hk : PySem.W.keepIn X.K (.ref f) = true) (hb : Binds X.K fd ps []) (tk : Takes X W)
    (ha : PA X (e :: es) (tEs C evs X.K W)) (hdb : (x == ("__debug__" : Str)) = false) (he : starEach (e :: es) X.env = (false, eval e X.env) :: starEach es X.env) (hpl : (backTo pos (starEach es X.env)).any (·.1) = false) :
    PE X (.Call (.Name x p) (e :: es) [] pos) (tE C (fun en => M.bind (evs en) fun vs => g vs) X.K W) := by
  refine pei (pe_callS F hr hg hm hk hb (fun σ => passAt tk σ) ha hdb he hpl) fun σ H Q ⟨L, ρ, h, en, hr, er, o⟩ => ?_
  exact ⟨L, ρ, h, en, hr, er, (Out.split (rel := relVs L) o).mono fun vs H1 ⟨ρ1, h1, xs, hr1, s1, rv1, o1⟩ => ⟨L, ρ1, h1, xs, hr1, rv1, o1⟩⟩
/-! ### a cell's methods -/
theorem o_rdL {K : PySem.W.Frag} {L : Addr → Prop} {ρ : List Addr} {h : Hh} {H : Hp} {β υ : Type} {E : Value → Option Addr → Hp → Prop} {rel' : List Addr → Hh → Hp → β → υ → Prop} {x : Vl} {v : V} {f : List D → M β} {Q : υ → Hp → Prop} (hr : HR K L ρ h H) (rv : RV (Pr L ρ h) ρ H x v)
    (o : Out K C L ρ h H rel' E (M.bind (Jr.rdL x) f h) Q) : tyV K "list" v H ∧ ∃ ds, Out K C L ρ h H rel' E (f ds h) Q := by
  obtain ⟨ds, p, vs, rfl, e, z, c, o1⟩ := Out.rdL hr rv o
  exact ⟨.inl ⟨rfl, vs, .inl (.inl e)⟩, ds, o1⟩
theorem e_app {apos : Pos} (ha : PE X a (tE C eva X.K W)) (hb : PE X b (tE C evb X.K W)) (hbase : attributeBase a "append" X.env (eval a X.env) = eval a X.env)
    (hfew : ((backTo pos (starEach [b] X.env)).all (fun x => !x.1) && (backToKw pos (keywordEach [] X.env)).all (fun x => x.1.isSome)
      && decide ([b].length + ([] : List Keyword).length + (if ([] : List Keyword).isEmpty then 0 else 1) < 30)) = true) (hline : (apos.endLine == pos.line) = true) (hs : starEach [b] X.env = (false, eval b X.env) :: starEach [] X.env) :
    PE X (.Call (.Attribute a "append" apos) [b] [] pos) (tE C (fun en => M.bind (eva en) fun v => M.bind (Jr.rdL v) fun _ => M.bind (evb en) fun w => M.bind (Jr.asD w) fun y => appM v y) X.K W) := by
  refine pei (pe_bm PySem.F.plainAttrs_list PySem.F.slot_list_append PySem.F.type_list_append mt_append ha (pa_cons hb pa_nil hs) hbase hfew hline hs rfl) fun σ H Q ⟨L, ρ, h, en, hr, er, o⟩ => ?_
  refine ⟨L, ρ, h, en, hr, er, (Out.split (rel := relV L) o).mono fun v H1 ⟨ρ1, h1, x, hr1, s1, rv1, o1⟩ => ?_⟩
  obtain ⟨ty, ds, o2⟩ := o_rdL hr1 rv1 o1
  refine ⟨ty, L, ρ1, h1, en, hr1, er.step s1, (Out.split (rel := relV L) o2).mono fun w H2 ⟨ρ2, h2, y, hr2, s2, rv2, o3⟩ => ?_⟩
  obtain ⟨d, rfl, rd, o4⟩ := Out.asD rv2 o3
  cases x with
  | d _ => exact False.elim o4
  | k _ _ => exact False.elim o4
  | r n =>
    obtain ⟨p, e1, rfl⟩ := rv1.step s2
    have e0 : appM (.r n) d h2 = (match h2[n]? with
      | some (.lst xs) => if xs.length < sizeLine then some (R.ok (Vl.d .none), h2.set n (.lst (xs ++ [d]))) else none
      | _ => none) := rfl
    rw [e0] at o4
    cases e2 : h2[n]? with
    | none => rw [e2] at o4; exact False.elim o4
    | some c =>
      rw [e2] at o4
      cases c with
      | lst xs =>
        dsimp only at o4
        by_cases hz : xs.length < sizeLine
        · rw [if_pos hz] at o4
          obtain ⟨vs, e3, z, c⟩ := hr2.cell n p _ e1 e2
          have z' : (xs ++ [d]).length ≤ sizeLine := by rw [List.length_append]; exact hz
          obtain ⟨hr3, s3⟩ := hr2.cellSet e1 e2 rfl z' (c.append (.cons rd .nil))
          exact ⟨p, vs, w, rfl, rfl, e3, by rw [← c.length]; exact hz, o4 ρ2 _ .non hr3 s3 RD.non⟩
        · rw [if_neg hz] at o4; exact False.elim o4
      | _ => exact False.elim o4
theorem e_pop {apos : Pos} (ha : PE X a (tE C eva X.K W)) (hb : PE X b (tE C evb X.K W)) (hbase : attributeBase a "pop" X.env (eval a X.env) = eval a X.env)
    (hfew : ((backTo pos (starEach [b] X.env)).all (fun x => !x.1) && (backToKw pos (keywordEach [] X.env)).all (fun x => x.1.isSome)
      && decide ([b].length + ([] : List Keyword).length + (if ([] : List Keyword).isEmpty then 0 else 1) < 30)) = true) (hline : (apos.endLine == pos.line) = true) (hs : starEach [b] X.env = (false, eval b X.env) :: starEach [] X.env) :
    PE X (.Call (.Attribute a "pop" apos) [b] [] pos) (tE C (fun en => M.bind (eva en) fun v => M.bind (Jr.rdL v) fun _ => M.bind (evb en) fun w => M.bind (Jr.asD w) fun y => popM v y) X.K W) := by
  refine pei (pe_bm PySem.F.plainAttrs_list PySem.F.slot_list_pop PySem.F.type_list_pop mt_popAt ha (pa_cons hb pa_nil hs) hbase hfew hline hs rfl) fun σ H Q ⟨L, ρ, h, en, hr, er, o⟩ => ?_
  refine ⟨L, ρ, h, en, hr, er, (Out.split (rel := relV L) o).mono fun v H1 ⟨ρ1, h1, x, hr1, s1, rv1, o1⟩ => ?_⟩
  obtain ⟨ty, ds, o2⟩ := o_rdL hr1 rv1 o1
  refine ⟨ty, L, ρ1, h1, en, hr1, er.step s1, (Out.split (rel := relV L) o2).mono fun w H2 ⟨ρ2, h2, y, hr2, s2, rv2, o3⟩ => ?_⟩
  obtain ⟨d, rfl, rd, o4⟩ := Out.asD rv2 o3
  cases x with
  | d _ => exact False.elim o4
  | k _ _ => exact False.elim o4
  | r n =>
    obtain ⟨p, e1, rfl⟩ := rv1.step s2
    cases d with
    | int i =>
      cases rd
      have e0 : popM (.r n) (.int i) h2 = (match h2[n]? with
        | some (.lst xs) => if -(2 ^ 63) ≤ i ∧ i < 2 ^ 63 then
            match seqIndex? i xs.length with
            | some k => (match xs[k]? with
              | some y => some (R.ok (Vl.d y), h2.set n (.lst (xs.eraseIdx k)))
              | none => none)
            | none => none
          else none
        | _ => none) := rfl
      rw [e0] at o4
      cases e2 : h2[n]? with
      | none => rw [e2] at o4; exact False.elim o4
      | some c =>
        rw [e2] at o4
        cases c with
        | lst xs =>
          dsimp only at o4
          by_cases hz : -(2 ^ 63) ≤ i ∧ i < 2 ^ 63
          · rw [if_pos hz] at o4
            cases e4 : seqIndex? i xs.length with
            | none => rw [e4] at o4; exact False.elim o4
            | some k =>
              rw [e4] at o4
              dsimp only at o4
              cases e5 : xs[k]? with
              | none => rw [e5] at o4; exact False.elim o4
              | some y =>
                rw [e5] at o4
                obtain ⟨vs, e3, z, c⟩ := hr2.cell n p _ e1 e2
                obtain ⟨u, e6, ru⟩ := c.get e5
                have z' : (xs.eraseIdx k).length ≤ sizeLine := Nat.le_trans (L2.len_erase _ _) z
                obtain ⟨hr3, s3⟩ := hr2.cellSet e1 e2 rfl z' (c.eraseIdx k)
                exact ⟨p, vs, i, k, u, rfl, rfl, e3, hz.1, hz.2, by rw [← c.length]; exact e4, e6, o4 ρ2 _ u hr3 s3 (RD.gr s3.gr _ _ ru)⟩
          · rw [if_neg hz] at o4; exact False.elim o4
        | _ => exact False.elim o4
    | _ => exact False.elim o4
theorem e_popE {apos : Pos} (ha : PE X a (tE C eva X.K W)) (hbase : attributeBase a "pop" X.env (eval a X.env) = eval a X.env) (hline : (apos.endLine == pos.line) = true) :
    PE X (.Call (.Attribute a "pop" apos) [] [] pos) (tE C (fun en => M.bind (eva en) fun v => M.bind (Jr.rdL v) fun _ => popEM v) X.K W) := by
  refine pei (pe_bm0 PySem.F.plainAttrs_list PySem.F.slot_list_pop PySem.F.type_list_pop mt_pop ha hbase hline) fun σ H Q ⟨L, ρ, h, en, hr, er, o⟩ => ?_
  refine ⟨L, ρ, h, en, hr, er, (Out.split (rel := relV L) o).mono fun v H1 ⟨ρ1, h1, x, hr1, s1, rv1, o1⟩ => ?_⟩
  obtain ⟨ty, ds, o4⟩ := o_rdL hr1 rv1 o1
  refine ⟨ty, ?_⟩
  cases x with
  | d _ => exact False.elim o4
  | k _ _ => exact False.elim o4
  | r n =>
    obtain ⟨p, e1, rfl⟩ := rv1
    have e0 : popEM (.r n) h1 = (match h1[n]? with
      | some (.lst xs) => (match xs[xs.length - 1]? with
        | some y => some (R.ok (Vl.d y), h1.set n (.lst xs.dropLast))
        | none => none)
      | _ => none) := rfl
    rw [e0] at o4
    cases e2 : h1[n]? with
    | none => rw [e2] at o4; exact False.elim o4
    | some c =>
      rw [e2] at o4
      cases c with
      | lst xs =>
        dsimp only at o4
        cases e5 : xs[xs.length - 1]? with
        | none => rw [e5] at o4; exact False.elim o4
        | some y =>
          rw [e5] at o4
          obtain ⟨vs, e3, z, c⟩ := hr1.cell n p _ e1 e2
          obtain ⟨u, e6, ru⟩ := c.get e5
          have z' : xs.dropLast.length ≤ sizeLine := by rw [List.length_dropLast]; omega
          have c' : RDs (Pr L ρ1 h1) H1 xs.dropLast vs.dropLast := by rw [List.dropLast_eq_take, List.dropLast_eq_take, c.length]; exact c.take _
          obtain ⟨hr3, s3⟩ := hr1.cellSet e1 e2 rfl z' c'
          exact ⟨p, vs, u, rfl, rfl, e3, by rw [← c.length]; exact e6, o4 ρ1 _ u hr3 s3 (RD.gr s3.gr _ _ ru)⟩
      | _ => exact False.elim o4
/-! ### methods that look -/
theorem t_mthL {K : PySem.W.Frag} {f : List D → D → Option D} {r : V → List V → Hp → VK → Prop}
    (hr : ∀ {L : Addr → Prop} {ρ : List Addr} {h : Hh} {H : Hp} {xs : List D} {y d : D} {p : Addr} {vs : List V} {w : V} {Q : VK}, HR K L ρ h H → H p = some (.lst vs) → RDs (Pr L ρ h) H xs vs → RD (Pr L ρ h) H y w → f xs y = some d → Ret K L ρ h H d Q → r (.ref p) [w] H Q) :
    ∀ σ H Q, tE C (fun en => M.bind (eva en) fun v => M.bind (Jr.asD v) fun x => M.bind (ofO (asL x)) fun xs => M.bind (evb en) fun w => M.bind (Jr.asD w) fun y => pO (f xs y)) K W σ H Q → tBM K "list" r (tE C eva K W) (tCons (tE C evb K W) tNil) σ H Q := fun σ H Q ⟨L, ρ, h, en, hr0, er, o⟩ => by
  refine ⟨L, ρ, h, en, hr0, er, (Out.split (rel := relV L) o).mono fun v H1 ⟨ρ1, h1, x, hr1, s1, rv1, o1⟩ => ?_⟩
  obtain ⟨dx, rfl, rx, o2⟩ := Out.asD rv1 o1
  obtain ⟨xs, ex, o3⟩ := Out.ofO o2
  cases dx with
  | list xs0 =>
    cases ex
    cases rx with | lst np e1 z c =>
    refine ⟨.inl ⟨rfl, _, .inl (.inl e1)⟩, L, ρ1, h1, en, hr1, er.step s1, (Out.split (rel := relV L) o3).mono fun w H2 ⟨ρ2, h2, y, hr2, s2, rv2, o4⟩ => ?_⟩
    obtain ⟨dy, rfl, ry, o5⟩ := Out.asD rv2 o4
    obtain ⟨d, ed, q⟩ := Out.pO hr2 o5
    exact hr hr2 (s2.gr _ _ e1 np).1 (RDs.gr s2.gr _ _ c) ry ed q
  | _ => cases ex
def isIV (i : Int) : Value → Bool
  | .int j _ => j == i
  | _ => false
theorem nkAll_vals {P : Addr → Prop} {H : Hp} : ∀ {ds : List D} {vs : List V} {us : List Value} {l : List (Option Int)}, RDs P H ds vs → Vals vs us → nkAll ds = some l → l.length = us.length ∧ (∀ (i : Int) (t : Tok) (A : Around) (s : Shared), ∀ y, y ∈ us → SeqAt.EqAt A s y (.int i t) (isIV i y)) ∧ ∀ i : Int, us.countP (isIV i) = l.count (some i)
  | _, _, _, l, .nil, .nil, e => by
    cases e
    refine ⟨rfl, fun i t A s y h => ?_, fun i => rfl⟩
    cases h
  | d :: ds, _, _, l, .cons r t, .cons rv tv, e => by
    have ex : ∃ k l', nkI d = some k ∧ nkAll ds = some l' ∧ l = k :: l' := by
      unfold nkAll at e
      cases e1 : nkI d with
      | none => rw [e1] at e; cases e
      | some k =>
        rw [e1, Option.bind_some] at e
        cases e2 : nkAll ds with
        | none => rw [e2] at e; cases e
        | some l' => rw [e2] at e; cases e; exact ⟨k, l', rfl, rfl, rfl⟩
    obtain ⟨k, l', e1, e2, rfl⟩ := ex
    obtain ⟨h1, h2, h3⟩ := nkAll_vals t tv e2
    cases d with
    | none =>
      cases e1
      cases r
      cases rv
      refine ⟨by rw [List.length_cons, List.length_cons, h1], fun i tk A s y hy => ?_, fun i => ?_⟩
      · rcases List.mem_cons.mp hy with rfl | hy
        · exact SeqAt.EqAt.none_int _ _
        · exact h2 i tk A s y hy
      · rw [List.countP_cons, h3 i, List.count_cons]
        simp [isIV]
    | int j =>
      cases e1
      cases r
      obtain ⟨tk0, rfl⟩ := rv
      refine ⟨by rw [List.length_cons, List.length_cons, h1], fun i tk A s y hy => ?_, fun i => ?_⟩
      · rcases List.mem_cons.mp hy with rfl | hy
        · exact SeqAt.EqAt.int_int _ _ _ _
        · exact h2 i tk A s y hy
      · rw [List.countP_cons, h3 i, List.count_cons]
        simp [isIV]
    | _ => cases e1
theorem mt_cntN : MtR X "list.count" (fun x ys H Q => ∃ (p : Addr) (ds : List D) (ws : List V) (i : Int) (l : List (Option Int)) (P : Addr → Prop), x = .ref p ∧ ys = [.int i] ∧ SqL X.K H p ws ∧ RDs P H ds ws ∧ nkAll ds = some l ∧ Q (.int (l.count (some i) : Nat)) H) := by
  intro pins s σ H x xs v us Q I rx rs ⟨p, ds, ws, i, l, P, e1, e2, sq, c, e, q⟩
  subst e1 e2
  cases rx
  cases rs with | cons r1 rs =>
  cases rs
  obtain ⟨t, rfl⟩ := r1
  obtain ⟨its, rv, hl, _⟩ := I.list sq
  obtain ⟨_, k2, k3⟩ := nkAll_vals c rv e
  obtain ⟨⟨cls, dd, data, sl⟩, ho, hc, n, hd⟩ := id hl.isList
  simp only at hc hd
  subst hc hd
  refine call_meets PySem.F.slot_list_count ⟨_, ho, rfl⟩ PySem.F.entry_list_count (PySem.F.args_list_count_2 _ _) (SeqAt.list_countAt p its.toArray n dd sl (.int i t) (isIV i)) ⟨ho, fun y hy => k2 i t _ _ y (by simpa using hy), ?_⟩
  have e5 : its.toArray.toList.countP (isIV i) = l.count (some i) := by rw [List.toList_toArray]; exact k3 i
  rw [e5]
  exact ⟨.int _, H, I.tok _, ⟨_, rfl⟩, q⟩
theorem e_cnt {apos : Pos} (ha : PE X a (tE C eva X.K W)) (hb : PE X b (tE C evb X.K W)) (hbase : attributeBase a "count" X.env (eval a X.env) = eval a X.env) (hfew : ((backTo pos (starEach [b] X.env)).all (fun x => !x.1) && (backToKw pos (keywordEach [] X.env)).all (fun x => x.1.isSome)
      && decide ([b].length + ([] : List Keyword).length + (if ([] : List Keyword).isEmpty then 0 else 1) < 30)) = true) (hline : (apos.endLine == pos.line) = true) (hs : starEach [b] X.env = (false, eval b X.env) :: starEach [] X.env) :
    PE X (.Call (.Attribute a "count" apos) [b] [] pos) (tE C (fun en => M.bind (eva en) fun v => M.bind (Jr.asD v) fun x => M.bind (ofO (asL x)) fun xs => M.bind (evb en) fun w => M.bind (Jr.asD w) fun y => pO (cntV xs y)) X.K W) :=
  pei (pe_bm PySem.F.plainAttrs_list PySem.F.slot_list_count PySem.F.type_list_count mt_cntN ha (pa_cons hb pa_nil hs) hbase hfew hline hs rfl) (t_mthL fun {L ρ h H xs y d p vs w Q} hr e c ry ed q => by
    cases y with
    | int i =>
      unfold cntV at ed
      dsimp only at ed
      cases e1 : nkAll xs with
      | none => rw [e1] at ed; cases ed
      | some l =>
        rw [e1] at ed
        cases ed
        cases ry
        exact ⟨p, xs, vs, i, l, _, rfl, rfl, .inl (.inl e), c, e1, q.here hr (.int _)⟩
    | _ => cases ed)
/-- the first place, any data -/
def rIdx (K : PySem.W.Frag) (sq : Hp → Addr → List V → Prop) : V → List V → Hp → VK → Prop := fun x ys H Q => ∃ (p : Addr) (ds : List D) (ws : List V) (y : D) (w : V) (j : Nat) (P : Addr → Prop), x = .ref p ∧ ys = [w] ∧ sq H p ws ∧ RDs P H ds ws ∧ RD P H y w ∧ min (deps ds) (dep y) ≤ 60 ∧ ds.length ≤ 1000 ∧
  (ds.findIdx? fun z => eqv z y) = some j ∧ Q (.int (j : Nat)) H
theorem idx_eqs {pins : List (Addr × Obj)} {s : Shared} {σ : L2.St} {H : Hp} (hu : X.A.units + 64 < cLine) (I : L2.Inv X pins σ H s) {P : Addr → Prop} {ds : List D} {ws : List V} {its : List Value} {y : D} {w : V} {u : Value} (c : RDs P H ds ws) (rv : Vals ws its) (ry : RD P H y w) (ru : RelV w u)
    (dp : min (deps ds) (dep y) ≤ 60) (j : Nat) (hj : j < its.toArray.size) : SeqAt.EqAt X.A.in1 s its.toArray[j] u (((ds[j]?).map fun z => eqv z y).getD false) := by
  have h1 := c.length
  have h2 := rv.length
  have hj : j < its.length := by simpa using hj
  have ed : ds[j]? = some ds[j] := List.getElem?_eq_getElem (by omega)
  obtain ⟨v, ev, rd⟩ := c.get ed
  obtain ⟨t, et, rt⟩ := rv.get ev
  have et2 : its[j] = t := by rw [List.getElem?_eq_getElem hj] at et; exact Option.some.inj et
  obtain ⟨as, r1⟩ := Dp.reads I _ _ _ (RD.dp (K := X.K) _ _ rd) rt
  obtain ⟨bs, r2⟩ := Dp.reads I _ _ _ (RD.dp (K := X.K) _ _ ry) ru
  have hd := deps_mem (List.getElem_mem (l := ds) (n := j) (by omega))
  have := SeqAt.eqAt_reads _ _ X.A.in1 s t u as bs r1 r2 (RD.lay _ _ rd) (RD.lay _ _ ry) (by
    rw [dep_eq, dep_eq]
    show X.A.units + 1 + _ < cLine
    omega)
  rw [eqv_eq] at this
  rw [ed]
  simp only [List.getElem_toArray, Option.map_some, Option.getD_some, et2]
  exact this
theorem mt_idxL (hu : X.A.units + 64 < cLine) : MtR X "list.index" (rIdx X.K (SqL X.K)) := by
  intro pins s σ H x xs v us Q I rx rs ⟨p, ds, ws, y, w, j, P, e1, e2, sq, c, ry, dp, z, ej, q⟩
  subst e1 e2
  cases rx
  cases rs with | cons ru rs =>
  cases rs
  obtain ⟨its, rv, hl, _⟩ := I.list sq
  obtain ⟨⟨cls, dd, data, sl⟩, ho, hc, n, hd⟩ := id hl.isList
  simp only at hc hd
  subst hc hd
  obtain ⟨lj, hit, hno⟩ := List.findIdx?_eq_some_iff_getElem.mp ej
  have h1 := c.length
  have h2 := rv.length
  refine call_meets F.slot_list_index ⟨_, ho, rfl⟩ F.entry_list_index (F.args_list_index_2 _ _) (SeqAt.list_index2_found p its.toArray n dd sl _ (fun j => ((ds[j]?).map fun z => eqv z y).getD false) j (by rw [List.size_toArray]; omega) (Nat.zero_le _) (by omega) ?_ ?_) ⟨ho, fun j hj => idx_eqs hu I c rv ry ru dp j hj, ⟨.int _, H, I.tok _, ⟨_, rfl⟩, q⟩⟩
  · rw [List.getElem?_eq_getElem lj]; exact hit
  · intro m hm _ hmj
    rw [List.getElem?_eq_getElem (by omega)]
    have := hno m hmj
    simpa using this
theorem mt_idxT (hu : X.A.units + 64 < cLine) : MtR X "tuple.index" (rIdx X.K (SqT X.K)) := by
  intro pins s σ H x xs v us Q I rx rs ⟨p, ds, ws, y, w, j, P, e1, e2, sq, c, ry, dp, z, ej, q⟩
  subst e1 e2
  cases rx
  cases rs with | cons ru rs =>
  cases rs
  obtain ⟨its, rv, hl, _⟩ := I.tuple sq
  obtain ⟨⟨cls, dd, data, sl⟩, ho, hc, n, hd⟩ := id hl
  simp only at hc hd
  subst hc hd
  obtain ⟨lj, hit, hno⟩ := List.findIdx?_eq_some_iff_getElem.mp ej
  have h1 := c.length
  have h2 := rv.length
  refine call_meets F.slot_tuple_index ⟨_, ho, rfl⟩ F.entry_tuple_index (F.args_tuple_index_2 _ _) (SeqAt.tuple_index2_found p its.toArray n dd sl _ (fun j => ((ds[j]?).map fun z => eqv z y).getD false) j (by rw [List.size_toArray]; omega) (Nat.zero_le _) (by rw [List.size_toArray]; omega) ?_ ?_) ⟨ho, fun j hj => idx_eqs hu I c rv ry ru dp j hj, ⟨.int _, H, I.tok _, ⟨_, rfl⟩, q⟩⟩
  · rw [List.getElem?_eq_getElem lj]; exact hit
  · intro m hm _ hmj
    rw [List.getElem?_eq_getElem (by omega)]
    have := hno m hmj
    simpa using this
theorem idxV_ok {xs : List D} {y d : D} (e : idxV xs y = some d) : ∃ j : Nat, min (deps xs) (dep y) ≤ 60 ∧ xs.length ≤ 1000 ∧ (xs.findIdx? fun z => eqv z y) = some j ∧ d = .int (j : Int) := by
  unfold idxV at e
  by_cases k : min (deps xs) (dep y) ≤ 60 ∧ xs.length ≤ 1000
  · rw [if_pos k] at e
    cases e2 : xs.findIdx? fun z => eqv z y with
    | none => rw [e2] at e; cases e
    | some j => rw [e2] at e; cases e; exact ⟨j, k.1, k.2, rfl, rfl⟩
  · rw [if_neg k] at e; cases e
theorem e_idx {apos : Pos} (hu : X.A.units + 64 < cLine) (ha : PE X a (tE C eva X.K W)) (hb : PE X b (tE C evb X.K W)) (hbase : attributeBase a "index" X.env (eval a X.env) = eval a X.env) (hfew : ((backTo pos (starEach [b] X.env)).all (fun x => !x.1) && (backToKw pos (keywordEach [] X.env)).all (fun x => x.1.isSome)
      && decide ([b].length + ([] : List Keyword).length + (if ([] : List Keyword).isEmpty then 0 else 1) < 30)) = true) (hline : (apos.endLine == pos.line) = true) (hs : starEach [b] X.env = (false, eval b X.env) :: starEach [] X.env) :
    PE X (.Call (.Attribute a "index" apos) [b] [] pos) (tE C (fun en => M.bind (eva en) fun v => M.bind (Jr.asD v) fun x => M.bind (ofO (asL x)) fun xs => M.bind (evb en) fun w => M.bind (Jr.asD w) fun y => pO (idxV xs y)) X.K W) :=
  pei (pe_bm PySem.F.plainAttrs_list PySem.F.slot_list_index PySem.F.type_list_index (mt_idxL hu) ha (pa_cons hb pa_nil hs) hbase hfew hline hs rfl) (t_mthL fun {L ρ h H xs y d p vs w Q} hr e c ry ed q => by
    obtain ⟨j, k1, k2, k3, rfl⟩ := idxV_ok ed
    exact ⟨p, xs, vs, y, w, j, _, rfl, rfl, .inl (.inl e), c, ry, k1, k2, k3, q.here hr (.int _)⟩)
/-- a method of a tuple without a dict -/
def tBMT (r : V → List V → Hp → VK → Prop) (to : TE) (t : TA) : TE := fun σ H Q => to σ H fun x H1 => (∃ p vs, x = .ref p ∧ TupAt H1 p vs) ∧ t σ H1 fun xs H2 => r x xs H2 Q
theorem pe_bmT {o e : Expr} {es : List Expr} {to : TE} {t : TA} {name : Str} {apos cpos : Pos} {id : String} {r : V → List V → Hp → VK → Prop} (pa : PlainAttrs "tuple") (slot : Slot "tuple" name id) (hty : typeOf (.builtin id) = pure (.type "method_descriptor")) (hm : MtR X id r) (ho : PE X o to) (ha : PA X (e :: es) t)
    (hbase : attributeBase o name X.env (eval o X.env) = eval o X.env)
    (hfew : ((backTo cpos (starEach (e :: es) X.env)).all (fun x => !x.1) && (backToKw cpos (keywordEach [] X.env)).all (fun x => x.1.isSome) && decide ((e :: es).length + ([] : List Keyword).length + (if ([] : List Keyword).isEmpty then 0 else 1) < 30)) = true)
    (hline : (apos.endLine == cpos.line) = true) (hs : starEach (e :: es) X.env = (false, eval e X.env) :: starEach es X.env) (hplain : (backTo cpos (starEach es X.env)).any (·.1) = false) : PE X (.Call (.Attribute o name apos) (e :: es) [] cpos) (tBMT r to t) := by
  refine ⟨fun pins s σ H Q I h => wpAny_Call_method_late hbase hfew hline rfl (thn (ho.run pins s σ H _ I h) fun v s1 ⟨x, H1, I1, r1, ⟨p, vs, ex, o2, e2, nd⟩, q1⟩ => ?_)⟩
  subst ex
  cases r1
  obtain ⟨eo, _, its, _, ob, eo2, ec, _⟩ := (show ObjOk X.prog X.w H1 s1.heap p (.frz o2 (.tup vs)) from I1.hok p _ e2)
  rw [eo] at eo2
  cases eo2
  refine ⟨"tuple", id, pa, slot, hty, ⟨_, eo, ec⟩, fun a ea => by cases ea; exact ⟨_, eo, nd⟩, ?_⟩
  have hA := ha.run cpos pins s1 σ H1 _ I1 q1
  rw [hs] at hA ⊢
  refine Calls.callWith_builtin (by show (false || (backTo cpos (starEach es X.env)).any (·.1)) = false; rw [hplain]; rfl) (Calls.evalArgs_plain ?_)
  exact thn hA fun us s2 ⟨vs, H2, I2, r2, q2⟩ => hm pins s2 σ H2 (.ref p) vs (.ref p) us Q I2 rfl r2 q2
theorem e_idxT {apos : Pos} (hu : X.A.units + 64 < cLine) (ha : PE X a (tE C eva X.K W)) (hb : PE X b (tE C evb X.K W)) (hbase : attributeBase a "index" X.env (eval a X.env) = eval a X.env) (hfew : ((backTo pos (starEach [b] X.env)).all (fun x => !x.1) && (backToKw pos (keywordEach [] X.env)).all (fun x => x.1.isSome)
      && decide ([b].length + ([] : List Keyword).length + (if ([] : List Keyword).isEmpty then 0 else 1) < 30)) = true) (hline : (apos.endLine == pos.line) = true) (hs : starEach [b] X.env = (false, eval b X.env) :: starEach [] X.env) :
    PE X (.Call (.Attribute a "index" apos) [b] [] pos) (tE C (fun en => M.bind (eva en) fun v => M.bind (Jr.asD v) fun x => M.bind (ofO (asT x)) fun xs => M.bind (evb en) fun w => M.bind (Jr.asD w) fun y => pO (idxV xs y)) X.K W) := by
  refine pei (pe_bmT PySem.F.plainAttrs_tuple PySem.F.slot_tuple_index PySem.F.type_tuple_index (mt_idxT hu) ha (pa_cons hb pa_nil hs) hbase hfew hline hs rfl) fun σ H Q ⟨L, ρ, h, en, hr, er, o⟩ => ?_
  refine ⟨L, ρ, h, en, hr, er, (Out.split (rel := relV L) o).mono fun v H1 ⟨ρ1, h1, x, hr1, s1, rv1, o1⟩ => ?_⟩
  obtain ⟨dx, rfl, rx, o2⟩ := Out.asD rv1 o1
  obtain ⟨xs, ex, o3⟩ := Out.ofO o2
  cases dx with
  | tuple xs0 =>
    cases ex
    have rx0 : RD (Pr L ρ1 h1) H1 (.tuple xs) v := rx
    cases rx with | tup np e1 z c =>
    refine ⟨⟨_, _, rfl, e1⟩, L, ρ1, h1, en, hr1, er.step s1, (Out.split (rel := relV L) o3).mono fun w H2 ⟨ρ2, h2, y, hr2, s2, rv2, o4⟩ => ?_⟩
    obtain ⟨dy, rfl, ry, o5⟩ := Out.asD rv2 o4
    obtain ⟨d, ed, q⟩ := Out.pO hr2 o5
    obtain ⟨j, k1, k2, k3, rfl⟩ := idxV_ok ed
    have rx2 := RD.gr s2.gr _ _ rx0
    cases rx2 with | tup np2 e2 z2 c2 =>
    exact ⟨_, xs, _, dy, w, j, _, rfl, rfl, e2.sq, c2, ry, k1, k2, k3, q.here hr2 (.int _)⟩
  | _ => cases ex
end
end Jr

set_option Elab.async false
set_option linter.all false
set_option maxRecDepth 100000
set_option maxHeartbeats 1000000
namespace L2x
open PySem PySem.Spec PyProof.Rows L2
section
variable {X : Cx} {tg : Expr}
def iAny (K : PySem.W.Frag) (tl : TE) : TI := fun σ H R => tl σ H fun x H1 => (∃ a, x = .ref a ∧ (∃ xs, SqL K H1 a xs) ∧ R (Itl K a) H1) ∨ (∃ a, x = .ref a ∧ (∃ xs, SqT K H1 a xs) ∧ R (Itt K a) H1) ∨ (∃ z, x = .str z ∧ R (Its z) H1)
theorem pi_any {l : Expr} {tl : TE} (hl : PE X l tl) : PI X tg l (iAny X.K tl) := by
  refine ⟨fun pins s σ H R I h => ?_⟩
  refine thn (hl.run pins s σ H _ I h) fun v s1 ⟨x, H1, I1, r1, q1⟩ => ?_
  rcases q1 with ⟨a, e, ⟨xs, hq⟩, q⟩ | ⟨a, e, ⟨xs, hq⟩, q⟩ | ⟨z, e, q⟩
  · subst e
    cases r1
    obtain ⟨its, rv, p, hz⟩ := I1.list hq
    refine wpAny_pyIter_list p.isList ?_
    refine ⟨s1.heap.objs.size, [s1.heap.objs.size], _, _, H1, rfl, I1.kept (t' := s1.toks) fun b o e => Heap.get?_push_of_some _ e, turn_list a _, ⟨_, Heap.get?_push_size _ rfl, rfl, rfl⟩, fun b hb => ?_, q⟩
    have e : b = s1.heap.objs.size := by simpa using hb
    subst e
    exact I1.fpOk (Nat.le_refl _) (I1.hok.fresh (Nat.le_refl _))
  · subst e
    cases r1
    obtain ⟨its, rv, p, hz⟩ := I1.tuple hq
    refine wpAny_pyIter_tuple (show s1.heap.IsTuple a its.toArray from p) ?_
    refine ⟨s1.heap.objs.size, [s1.heap.objs.size], _, _, H1, rfl, I1.kept (t' := s1.toks) fun b o e => Heap.get?_push_of_some _ e, turn_tuple a _, ⟨_, Heap.get?_push_size _ rfl, rfl, rfl⟩, fun b hb => ?_, q⟩
    have e : b = s1.heap.objs.size := by simpa using hb
    subst e
    exact I1.fpOk (Nat.le_refl _) (I1.hok.fresh (Nat.le_refl _))
  · subst e
    obtain ⟨t, rfl⟩ := r1
    cases ha : z.cps.all (· < 128)
    · exact wpAny_pyIter_wide ha (pi_one (tk := s1.toks) I1 _ (turn_str _ z t "str_iterator" (.inr rfl)) ⟨_, Heap.get?_push_size _ rfl, rfl, rfl⟩ q)
    · exact wpAny_pyIter_ascii ha (pi_one (tk := s1.toks) I1 _ (turn_str _ z t "str_ascii_iterator" (.inl rfl)) ⟨_, Heap.get?_push_size _ rfl, rfl, rfl⟩ q)
end
end L2x
namespace Jr
open PySem PySem.Spec PyProof.Rows L2
def depOK : Option (Nat × Cell) → Hh → Prop
  | none, _ => True
  | some (n, c), h => h[n]? = some c
/-- a weaker step: more may be protected behind it -/
structure Stw (L : Addr → Prop) (ρ : List Addr) (h : Hh) (H : Hp) (L' : Addr → Prop) (ρ' : List Addr) (h' : Hh) (H' : Hp) : Prop where
  gr : Gr (Pr L ρ h) H (Pr L' ρ' h') H'
  pre : ∀ (i : Nat) (a : Addr), ρ[i]? = some a → ρ'[i]? = some a
theorem Stp.w {L : Addr → Prop} {ρ ρ1 : List Addr} {h h1 : Hh} {H H1 : Hp} (s : Stp L ρ h H ρ1 h1 H1) : Stw L ρ h H L ρ1 h1 H1 := ⟨s.gr, s.pre⟩
theorem Stw.then_ {L L1 : Addr → Prop} {ρ ρ1 ρ2 : List Addr} {h h1 h2 : Hh} {H H1 H2 : Hp} (s : Stw L ρ h H L1 ρ1 h1 H1) (t : Stp L1 ρ1 h1 H1 ρ2 h2 H2) : Stw L ρ h H L1 ρ2 h2 H2 :=
  ⟨fun a o e n => let ⟨e1, n1⟩ := s.gr a o e n; t.gr a o e1 n1, fun i a e => t.pre i a (s.pre i a e)⟩
theorem RV.stw {L L1 : Addr → Prop} {ρ ρ1 : List Addr} {h h1 : Hh} {H H1 : Hp} (s : Stw L ρ h H L1 ρ1 h1 H1) {x : Vl} {v : V} (r : RV (Pr L ρ h) ρ H x v) : RV (Pr L1 ρ1 h1) ρ1 H1 x v := by
  cases x with
  | d x => exact RD.gr s.gr _ _ r
  | r n => obtain ⟨a, e, rfl⟩ := r; exact ⟨a, s.pre _ _ e, rfl⟩
  | k _ kvs => obtain ⟨p, np, e, c⟩ := r; exact ⟨p, (c.step s.gr np).1, e, (c.step s.gr np).2⟩
theorem ER.stw {L L1 : Addr → Prop} {ρ ρ1 : List Addr} {h h1 : Hh} {H H1 : Hp} (s : Stw L ρ h H L1 ρ1 h1 H1) {en : Env} {σ : L2.St} (r : ER (Pr L ρ h) ρ H en σ) : ER (Pr L1 ρ1 h1) ρ1 H1 en σ :=
  ⟨r.len, fun i x e => let ⟨v, e1, e2⟩ := r.at_ i x e; ⟨v, e1, RV.stw s e2⟩⟩
/-- an item that is unpacked at once may be a tuple of which less is known -/
def RI (b : Bool) (P : Addr → Prop) (H : Hp) (x : D) (v : V) : Prop := RD P H x v ∨ (b = true ∧ ∃ p ds vs, x = .tuple ds ∧ v = .ref p ∧ H p = some (.tup vs) ∧ RDs P H ds vs)
/-- how an iterator goes through xs, while what it leans on stands -/
def ItR (b : Bool) (K : PySem.W.Frag) (L : Addr → Prop) (ρ : List Addr) (h : Hh) (H : Hp) (dep : Option (Nat × Cell)) (xs : List D) (J : L2.It) : Prop :=
  ∀ L2 ρ2 h2 H2, HR K L2 ρ2 h2 H2 → Stw L ρ h H L2 ρ2 h2 H2 → depOK dep h2 →
    (∀ i x, xs[i]? = some x → J.go i H2 ∧ ∀ v H', J.yld i H2 v H' → HR K L2 ρ2 h2 H' ∧ Stp L2 ρ2 h2 H2 ρ2 h2 H' ∧ RI b (Pr L2 ρ2 h2) H' x v) ∧ J.stop xs.length H2
abbrev relI (b : Bool) (K : PySem.W.Frag) (L : Addr → Prop) : List Addr → Hh → Hp → Option (Nat × Cell) × List D → L2.It → Prop := fun ρ h H p J => ItR b K L ρ h H p.1 p.2 J ∧ depOK p.1 h ∧ p.2.length ≤ sizeLine
def tI (b : Bool) (C : Nat → Option Value) (ev : Env → M (Option (Nat × Cell) × List D)) (K : PySem.W.Frag) (W : WX) : TI := fun σ H R => ∃ L ρ h en, HR K L ρ h H ∧ ER (Pr L ρ h) ρ H en σ ∧ Out K C L ρ h H (relI b K L) (fun c d H' => W c d σ H') (ev en h) R
theorem pii {X : Cx} {tg e : Expr} {t t' : TI} (p : PI X tg e t) (i : ∀ σ H R, t' σ H R → t σ H R) : PI X tg e t' := ⟨fun pins s σ H R I h => p.run pins s σ H R I (i σ H R h)⟩
theorem itr_list {K : PySem.W.Frag} {L : Addr → Prop} {ρ : List Addr} {h : Hh} {H : Hp} {dep : Option (Nat × Cell)} {xs : List D} {a : Addr}
    (at_ : ∀ L2 ρ2 h2 H2, HR K L2 ρ2 h2 H2 → Stw L ρ h H L2 ρ2 h2 H2 → depOK dep h2 → ∃ vs, SqL K H2 a vs ∧ RDs (Pr L2 ρ2 h2) H2 xs vs) : ItR false K L ρ h H dep xs (Itl K a) := fun L2 ρ2 h2 H2 hr s d => by
  obtain ⟨vs, sq, c⟩ := at_ L2 ρ2 h2 H2 hr s d
  refine ⟨fun i x e => ?_, ⟨vs, sq, by rw [c.length]; exact Nat.le_refl _⟩⟩
  obtain ⟨v, e1, r⟩ := c.get e
  refine ⟨⟨vs, v, sq, e1⟩, fun w H' y => ?_⟩
  obtain ⟨rfl, y⟩ := y
  have := y vs sq
  rw [e1] at this
  cases this
  exact ⟨hr, .refl, .inl r⟩
theorem itr_tup {K : PySem.W.Frag} {L : Addr → Prop} {ρ : List Addr} {h : Hh} {H : Hp} {dep : Option (Nat × Cell)} {xs : List D} {a : Addr}
    (at_ : ∀ L2 ρ2 h2 H2, HR K L2 ρ2 h2 H2 → Stw L ρ h H L2 ρ2 h2 H2 → depOK dep h2 → ∃ vs, SqT K H2 a vs ∧ RDs (Pr L2 ρ2 h2) H2 xs vs) : ItR false K L ρ h H dep xs (Itt K a) := fun L2 ρ2 h2 H2 hr s d => by
  obtain ⟨vs, sq, c⟩ := at_ L2 ρ2 h2 H2 hr s d
  refine ⟨fun i x e => ?_, ⟨vs, sq, by rw [c.length]; exact Nat.le_refl _⟩⟩
  obtain ⟨v, e1, r⟩ := c.get e
  refine ⟨⟨vs, v, sq, e1⟩, fun w H' y => ?_⟩
  obtain ⟨rfl, y⟩ := y
  have := y vs sq
  rw [e1] at this
  cases this
  exact ⟨hr, .refl, .inl r⟩
theorem itr_str {K : PySem.W.Frag} {L : Addr → Prop} {ρ : List Addr} {h : Hh} {H : Hp} {z : Str} (ok : okS z = true) : ItR false K L ρ h H none (z.cps.toList.map fun c => .str ⟨#[c]⟩) (Its z) := fun L2 ρ2 h2 H2 hr s d => by
  refine ⟨fun i x e => ?_, by show z.cps.size ≤ _; simp⟩
  rw [List.getElem?_map] at e
  cases e1 : z.cps.toList[i]? with
  | none => rw [e1] at e; cases e
  | some c =>
    rw [e1] at e
    cases e
    have e2 : z.cps[i]? = some c := by simpa using e1
    have lt : i < z.cps.size := by
      rcases Nat.lt_or_ge i z.cps.size with q | q
      · exact q
      · rw [Array.getElem?_eq_none q] at e2; cases e2
    refine ⟨lt, fun v H' y => ?_⟩
    obtain ⟨rfl, c', e3, rfl⟩ := y
    rw [e2] at e3
    cases e3
    exact ⟨hr, .refl, .inl (.str _ (ok_sign ok (List.mem_of_getElem? e1)))⟩
theorem itr_rng {K : PySem.W.Frag} {L : Addr → Prop} {ρ : List Addr} {h : Hh} {H : Hp} {lo : Int} {n : Nat} : ItR false K L ρ h H none (rangeD lo n) (Itr lo n) := fun L2 ρ2 h2 H2 hr s d => by
  refine ⟨fun i x e => ?_, by show n ≤ _; unfold rangeD; simp⟩
  unfold rangeD at e
  rw [List.getElem?_map] at e
  rcases Nat.lt_or_ge i n with q | q
  · rw [List.getElem?_range q] at e
    cases e
    refine ⟨q, fun v H' y => ?_⟩
    obtain ⟨rfl, rfl⟩ := y
    exact ⟨hr, .refl, .inl (.int _)⟩
  · rw [List.getElem?_eq_none (by simpa using q)] at e; cases e
theorem enumD_get : ∀ (xs : List D) (n i : Nat) (x : D), (enumD n xs)[i]? = some x → ∃ y, xs[i]? = some y ∧ x = .tuple [.int ((n + i : Nat) : Int), y]
  | [], n, i, x, e => by cases i <;> cases e
  | y :: xs, n, 0, x, e => by cases e; exact ⟨y, rfl, rfl⟩
  | y :: xs, n, i + 1, x, e => by
    obtain ⟨z, e1, e2⟩ := enumD_get xs (n + 1) i x e
    exact ⟨z, e1, by rw [e2]; congr 4; omega⟩
theorem enumD_len : ∀ (xs : List D) (n : Nat), (enumD n xs).length = xs.length
  | [], _ => rfl
  | _ :: xs, n => by unfold enumD; rw [List.length_cons, List.length_cons, enumD_len xs]
theorem itr_enum {K : PySem.W.Frag} {L : Addr → Prop} {ρ : List Addr} {h : Hh} {H : Hp} {xs : List D} {a : Addr}
    (at_ : ∀ L2 ρ2 h2 H2, HR K L2 ρ2 h2 H2 → Stw L ρ h H L2 ρ2 h2 H2 → ∃ vs, SqL K H2 a vs ∧ RDs (Pr L2 ρ2 h2) H2 xs vs) : ItR true K L ρ h H none (enumD 0 xs) (Ite K a) := fun L2 ρ2 h2 H2 hr s d => by
  obtain ⟨vs, sq, c⟩ := at_ L2 ρ2 h2 H2 hr s
  refine ⟨fun i x e => ?_, ⟨vs, sq, by rw [enumD_len, c.length]; exact Nat.le_refl _⟩⟩
  obtain ⟨y, e0, rfl⟩ := enumD_get xs 0 i x e
  obtain ⟨v, e1, r⟩ := c.get e0
  refine ⟨⟨vs, v, sq, e1⟩, fun w H' q => ?_⟩
  obtain ⟨T, u, rfl, nT, rfl, f⟩ := q
  have := f vs sq
  rw [e1] at this
  cases this
  obtain ⟨hr3, s3⟩ := hr.new (o := .tup [.int (i : Nat), _]) nT
  refine ⟨hr3, s3, .inr ⟨rfl, T, _, _, rfl, rfl, upd_same, .cons ?_ (.cons (RD.gr s3.gr _ _ r) .nil)⟩⟩
  rw [Nat.zero_add]
  exact .int _
theorem zipD_get : ∀ (xs ys : List D) (i : Nat) (x : D), (zipD xs ys)[i]? = some x → ∃ y z, xs[i]? = some y ∧ ys[i]? = some z ∧ x = .tuple [y, z]
  | [], ys, i, x, e => by unfold zipD at e; cases e
  | _ :: _, [], i, x, e => by unfold zipD at e; cases e
  | y :: xs, z :: ys, 0, x, e => by cases e; exact ⟨y, z, rfl, rfl, rfl⟩
  | y :: xs, z :: ys, i + 1, x, e => zipD_get xs ys i x e
theorem zipD_len : ∀ (xs ys : List D), (zipD xs ys).length = min xs.length ys.length
  | [], ys => by unfold zipD; simp
  | _ :: _, [] => by unfold zipD; simp
  | y :: xs, z :: ys => by unfold zipD; rw [List.length_cons, List.length_cons, List.length_cons, zipD_len xs ys]; omega
theorem itr_zipL {K : PySem.W.Frag} {L : Addr → Prop} {ρ : List Addr} {h : Hh} {H : Hp} {xs ys : List D} {a b : Addr}
    (at_ : ∀ L2 ρ2 h2 H2, HR K L2 ρ2 h2 H2 → Stw L ρ h H L2 ρ2 h2 H2 → ∃ vs ws, SqL K H2 a vs ∧ RDs (Pr L2 ρ2 h2) H2 xs vs ∧ SqL K H2 b ws ∧ RDs (Pr L2 ρ2 h2) H2 ys ws) : ItR true K L ρ h H none (zipD xs ys) (Itz K a b) := fun L2 ρ2 h2 H2 hr s d => by
  obtain ⟨vs, ws, sq, c, sq2, c2⟩ := at_ L2 ρ2 h2 H2 hr s
  refine ⟨fun i x e => ?_, ⟨vs, ws, sq, sq2, by rw [zipD_len, c.length, c2.length]; omega⟩⟩
  obtain ⟨y, z, e0, e0', rfl⟩ := zipD_get xs ys i x e
  obtain ⟨v, e1, r⟩ := c.get e0
  obtain ⟨u, e2, r2⟩ := c2.get e0'
  refine ⟨⟨vs, ws, v, u, sq, sq2, e1, e2⟩, fun w H' q => ?_⟩
  obtain ⟨T, v', u', rfl, nT, rfl, f1, f2⟩ := q
  have h1 := f1 vs sq
  rw [e1] at h1
  cases h1
  have h2 := f2 ws sq2
  rw [e2] at h2
  cases h2
  obtain ⟨hr3, s3⟩ := hr.new (o := .tup [_, _]) nT
  exact ⟨hr3, s3, .inr ⟨rfl, T, _, _, rfl, rfl, upd_same, .cons (RD.gr s3.gr _ _ r) (.cons (RD.gr s3.gr _ _ r2) .nil)⟩⟩
theorem itr_zipT {K : PySem.W.Frag} {L : Addr → Prop} {ρ : List Addr} {h : Hh} {H : Hp} {xs ys : List D} {a b : Addr}
    (at_ : ∀ L2 ρ2 h2 H2, HR K L2 ρ2 h2 H2 → Stw L ρ h H L2 ρ2 h2 H2 → ∃ vs ws, SqT K H2 a vs ∧ RDs (Pr L2 ρ2 h2) H2 xs vs ∧ SqT K H2 b ws ∧ RDs (Pr L2 ρ2 h2) H2 ys ws) : ItR true K L ρ h H none (zipD xs ys) (RZ.ItzT K a b) := fun L2 ρ2 h2 H2 hr s d => by
  obtain ⟨vs, ws, sq, c, sq2, c2⟩ := at_ L2 ρ2 h2 H2 hr s
  refine ⟨fun i x e => ?_, ⟨vs, ws, sq, sq2, by rw [zipD_len, c.length, c2.length]; omega⟩⟩
  obtain ⟨y, z, e0, e0', rfl⟩ := zipD_get xs ys i x e
  obtain ⟨v, e1, r⟩ := c.get e0
  obtain ⟨u, e2, r2⟩ := c2.get e0'
  refine ⟨⟨vs, ws, v, u, sq, sq2, e1, e2⟩, fun w H' q => ?_⟩
  obtain ⟨T, v', u', rfl, nT, rfl, f1, f2⟩ := q
  have h1 := f1 vs sq
  rw [e1] at h1
  cases h1
  have h2 := f2 ws sq2
  rw [e2] at h2
  cases h2
  obtain ⟨hr3, s3⟩ := hr.new (o := .tup [_, _]) nT
  exact ⟨hr3, s3, .inr ⟨rfl, T, _, _, rfl, rfl, upd_same, .cons (RD.gr s3.gr _ _ r) (.cons (RD.gr s3.gr _ _ r2) .nil)⟩⟩
theorem RD.listAt {K : PySem.W.Frag} {P : Addr → Prop} {H : Hp} {xs : List D} {a : Addr} (r : RD P H (.list xs) (.ref a)) : ∃ vs, SqL K H a vs ∧ RDs P H xs vs ∧ xs.length ≤ sizeLine := by
  cases r with
  | lst np e z c => exact ⟨_, .inl (.inl e), c, z⟩
theorem RD.tupAt {K : PySem.W.Frag} {P : Addr → Prop} {H : Hp} {xs : List D} {a : Addr} (r : RD P H (.tuple xs) (.ref a)) : ∃ vs, SqT K H a vs ∧ RDs P H xs vs ∧ xs.length ≤ sizeLine := by
  cases r with
  | tup np e z c => exact ⟨_, e.sq, c, z⟩
section
variable {X : Cx} {C : Nat → Option Value} {W : WX} {a b c : Expr} {eva evb evc : Env → M Vl} {pos : Pos} {tg : Expr}
theorem i_ex (ha : PE X a (tE C eva X.K W)) : PI X tg a (tI false C (fun en => M.bind (eva en) fun v => M.bind (depOf v) fun dp => M.bind (Jr.rd v) fun x => M.bind (ofO (itemsV x)) fun xs => M.pure (dp, xs)) X.K W) := by
  refine pii (L2x.pi_any ha) fun σ H R ⟨L, ρ, h, en, hr, er, o⟩ => ?_
  refine ⟨L, ρ, h, en, hr, er, (Out.split (rel := relV L) o).mono fun v H1 ⟨ρ1, h1, x, hr1, s1, rv1, o1⟩ => ?_⟩
  cases x with
  | k _ kvs => exact False.elim o1
  | d x =>
    have o2 : Out X.K C L ρ1 h1 H1 (relI false X.K L) (fun c d H' => W c d σ H') (M.bind (ofO (itemsV x)) (fun xs => M.pure (none, xs)) h1) R := o1
    obtain ⟨xs, e, o3⟩ := Out.ofO o2
    cases x with
    | list ys =>
      cases e
      obtain ⟨a, rfl⟩ : ∃ a, v = .ref a := by cases (show RD _ _ _ _ from rv1); exact ⟨_, rfl⟩
      obtain ⟨vs, sq, c, z⟩ := RD.listAt (K := X.K) (show RD _ _ _ _ from rv1)
      refine .inl ⟨a, rfl, ⟨vs, sq⟩, o3 ρ1 H1 _ hr1 .refl ⟨itr_list fun L2 ρ2 h2 H2 _ s _ => ?_, trivial, z⟩⟩
      obtain ⟨ws, q1, q2, _⟩ := RD.listAt (K := X.K) (RD.gr s.gr _ _ (show RD _ _ _ _ from rv1))
      exact ⟨ws, q1, q2⟩
    | tuple ys =>
      cases e
      obtain ⟨a, rfl⟩ : ∃ a, v = .ref a := by cases (show RD _ _ _ _ from rv1); exact ⟨_, rfl⟩
      obtain ⟨vs, sq, c, z⟩ := RD.tupAt (K := X.K) (show RD _ _ _ _ from rv1)
      refine .inr (.inl ⟨a, rfl, ⟨vs, sq⟩, o3 ρ1 H1 _ hr1 .refl ⟨itr_tup fun L2 ρ2 h2 H2 _ s _ => ?_, trivial, z⟩⟩)
      obtain ⟨ws, q1, q2, _⟩ := RD.tupAt (K := X.K) (RD.gr s.gr _ _ (show RD _ _ _ _ from rv1))
      exact ⟨ws, q1, q2⟩
    | str z =>
      have e : (if z.cps.size ≤ sizeLine then some (z.cps.toList.map fun c => D.str ⟨#[c]⟩) else none) = some xs := e
      by_cases hz : z.cps.size ≤ sizeLine
      · rw [if_pos hz] at e
        cases e
        cases (show RD _ _ _ _ from rv1) with | str _ ok =>
        exact .inr (.inr ⟨z, rfl, o3 ρ1 H1 _ hr1 .refl ⟨itr_str ok, trivial, by simpa using hz⟩⟩)
      · rw [if_neg hz] at e; cases e
    | _ => cases e
  | r n =>
    obtain ⟨a, ea, rfl⟩ := rv1
    have e0 : depOf (.r n) h1 = h1[n]?.map fun c => (Jr.R.ok (some (n, c)), h1) := rfl
    cases ec : h1[n]? with
    | none =>
      rw [ec] at e0
      unfold M.bind at o1
      rw [e0] at o1
      exact False.elim o1
    | some c =>
      rw [ec] at e0
      have o2 := Out.at_ e0 o1
      have e3 : Jr.rd (.r n) h1 = (rdC c).map fun x => (Jr.R.ok x, h1) := by
        show (h1[n]?.bind rdC).map _ = _
        rw [ec]
        rfl
      cases c with
      | lst ds =>
        have o3 := Out.at_ e3 o2
        obtain ⟨vs, f1, z, c⟩ := hr1.cell n a _ ea ec
        refine .inl ⟨a, rfl, ⟨vs, .inl (.inl f1)⟩, o3 ρ1 H1 _ hr1 .refl ⟨itr_list fun L2 ρ2 h2 H2 hr2 s d => ?_, ec, z⟩⟩
        obtain ⟨ws, g1, _, g2⟩ := hr2.cell n a _ (s.pre _ _ ea) d
        exact ⟨ws, .inl (.inl g1), g2⟩
      | ro ds =>
        have o3 := Out.at_ e3 o2
        have sqo : ∀ {L2 ρ2 h2 H2 vs}, ((¬ Pr L2 ρ2 h2 a ∧ ∃ o, H2 a = some (.frz o (.lst vs))) ∨ KL X.K a vs) → SqL X.K H2 a vs := fun q => q.elim (fun ⟨_, o, e⟩ => .inl (.inr ⟨o, e⟩)) .inr
        obtain ⟨vs, f1, z, c⟩ := hr1.cell n a _ ea ec
        refine .inl ⟨a, rfl, ⟨vs, sqo f1⟩, o3 ρ1 H1 _ hr1 .refl ⟨itr_list fun L2 ρ2 h2 H2 hr2 s d => ?_, ec, z⟩⟩
        obtain ⟨ws, g1, _, g2⟩ := hr2.cell n a _ (s.pre _ _ ea) d
        exact ⟨ws, sqo g1, g2⟩
      | dead =>
        unfold M.bind at o2
        rw [e3] at o2
        exact False.elim o2
      | dct _ _ =>
        unfold M.bind at o2
        rw [e3] at o2
        exact False.elim o2
theorem rng_ok {i j : Int} {xs : List D} (e : rng i j = some xs) : (-(2 ^ 62) ≤ i ∧ i < 2 ^ 62 ∧ -(2 ^ 62) ≤ j ∧ j < 2 ^ 62) ∧ xs = rangeD i (j - i).toNat ∧ (j - i).toNat ≤ sizeLine := by
  unfold rng at e
  by_cases q : (sm i && sm j && decide ((j - i).toNat ≤ sizeLine)) = true
  · rw [if_pos q] at e
    cases e
    simp only [Bool.and_eq_true, decide_eq_true_eq, sm] at q
    exact ⟨⟨q.1.1.1, q.1.1.2, q.1.2.1, q.1.2.2⟩, rfl, q.2⟩
  · rw [if_neg q] at e; cases e
theorem i_r1 {p : Pos} (hg : Gl X "range") (hm : X.mg "range" = none) (ha : PE X a (tE C eva X.K W)) (hs : starEach [a] X.env = [(false, eval a X.env)]) :
    PI X tg (.Call (.Name "range" p) [a] [] pos) (tI false C (fun en => M.bind (dd (eva en)) fun x => M.bind (ofO ((asI x).bind fun j => rng 0 j)) fun xs => M.pure (none, xs)) X.K W) := by
  refine pii (pi_range1 hg hm (pa_cons ha pa_nil (by rw [hs]; rfl)) hs) fun σ H R ⟨L, ρ, h, en, hr, er, o⟩ => ?_
  dsimp only at o
  rw [dd_bind] at o
  refine ⟨L, ρ, h, en, hr, er, (Out.split (rel := relV L) o).mono fun v H1 ⟨ρ1, h1, x, hr1, s1, rv1, o1⟩ => ?_⟩
  obtain ⟨dx, rx, o2⟩ := Out.rd hr1 rv1 o1
  obtain ⟨xs, e, o3⟩ := Out.ofO o2
  cases dx with
  | int j =>
    cases (show RD _ _ _ _ from rx)
    obtain ⟨⟨b1, b2, b3, b4⟩, rfl, z⟩ := rng_ok (show rng 0 j = some xs from e)
    rw [Int.sub_zero] at o3 z
    exact ⟨j, rfl, b3, b4, o3 ρ1 H1 _ hr1 .refl ⟨itr_rng, trivial, by unfold rangeD; simpa using z⟩⟩
  | _ => cases e
theorem i_r2 {p : Pos} (hg : Gl X "range") (hm : X.mg "range" = none) (ha : PE X a (tE C eva X.K W)) (hb : PE X b (tE C evb X.K W)) (hs : starEach [a, b] X.env = [(false, eval a X.env), (false, eval b X.env)]) (hs2 : starEach [b] X.env = [(false, eval b X.env)]) :
    PI X tg (.Call (.Name "range" p) [a, b] [] pos) (tI false C (fun en => rd2 (eva en) (evb en) fun x y => M.bind (ofO ((asI x).bind fun i => (asI y).bind fun j => rng i j)) fun xs => M.pure (none, xs)) X.K W) := by
  refine pii (pi_range2 hg hm (pa_cons ha (pa_cons hb pa_nil (by rw [hs2]; rfl)) (by rw [hs, hs2])) hs hs2) fun σ H R ⟨L, ρ, h, en, hr, er, o⟩ => ?_
  refine ⟨L, ρ, h, en, hr, er, (Out.split (rel := relV L) o).mono fun v H1 ⟨ρ1, h1, x, hr1, s1, rv1, o1⟩ => ?_⟩
  refine ⟨L, ρ1, h1, en, hr1, er.step s1, (Out.split (rel := relV L) o1).mono fun w H2 ⟨ρ2, h2, y, hr2, s2, rv2, o2⟩ => ?_⟩
  obtain ⟨dx, rx, o3⟩ := Out.rd hr2 (rv1.step s2) o2
  obtain ⟨dy, ry, o4⟩ := Out.rd hr2 rv2 o3
  obtain ⟨xs, e, o5⟩ := Out.ofO o4
  cases dx with
  | int i =>
    cases dy with
    | int j =>
      cases (show RD _ _ _ _ from rx)
      cases (show RD _ _ _ _ from ry)
      obtain ⟨bs, rfl, z⟩ := rng_ok (show rng i j = some xs from e)
      exact ⟨i, j, rfl, bs, o5 ρ2 H2 _ hr2 .refl ⟨itr_rng, trivial, by unfold rangeD; simpa using z⟩⟩
    | _ => cases e
  | _ => cases e
theorem i_z2 {p tpos : Pos} {elts : List Expr} {kk : Nat} (hg : Gl X "zip") (hm : X.mg "zip" = none) (ha : PE X a (tE C eva X.K W)) (hb : PE X b (tE C evb X.K W)) (hs : starEach [a, b] X.env = (false, eval a X.env) :: starEach [b] X.env) (hs2 : starEach [b] X.env = [(false, eval b X.env)]) :
    PI X (.Tuple elts kk tpos) (.Call (.Name "zip" p) [a, b] [] pos) (tI true C (fun en => M.bind (eva en) fun v => M.bind (evb en) fun w => M.bind (Jr.asD v) fun x => M.bind (Jr.asD w) fun y => M.bind (ofO (zip2V x y)) fun xs => M.pure (none, xs)) X.K W) := by
  refine pii (RZ.pi_zipA hg hm (pa_cons ha (pa_cons hb pa_nil (by rw [hs2]; rfl)) hs) hs (by rw [hs2]; rfl)) fun σ H R ⟨L, ρ, h, en, hr, er, o⟩ => ?_
  refine ⟨L, ρ, h, en, hr, er, (Out.split (rel := relV L) o).mono fun v H1 ⟨ρ1, h1, x, hr1, s1, rv1, o1⟩ => ?_⟩
  refine ⟨L, ρ1, h1, en, hr1, er.step s1, (Out.split (rel := relV L) o1).mono fun w H2 ⟨ρ2, h2, y, hr2, s2, rv2, o2⟩ => ?_⟩
  obtain ⟨dx, rfl, rx, o3⟩ := Out.asD (rv1.step s2) o2
  obtain ⟨dy, rfl, ry, o4⟩ := Out.asD rv2 o3
  obtain ⟨xs, e, o5⟩ := Out.ofO o4
  unfold zip2V at e
  split at e
  · cases e
    obtain ⟨a1, rfl⟩ : ∃ a, v = .ref a := by cases rx; exact ⟨_, rfl⟩
    obtain ⟨a2, rfl⟩ : ∃ a, w = .ref a := by cases ry; exact ⟨_, rfl⟩
    obtain ⟨vs, q1, c1, z1⟩ := RD.listAt (K := X.K) rx
    obtain ⟨ws, q2, c2, z2⟩ := RD.listAt (K := X.K) ry
    refine ⟨a1, a2, vs, ws, rfl, .inl ⟨q1, q2, o5 ρ2 H2 _ hr2 .refl ⟨itr_zipL fun L3 ρ3 h3 H3 _ s => ?_, trivial, by rw [zipD_len]; omega⟩⟩⟩
    obtain ⟨vs', q3, c3, _⟩ := RD.listAt (K := X.K) (RD.gr s.gr _ _ rx)
    obtain ⟨ws', q4, c4, _⟩ := RD.listAt (K := X.K) (RD.gr s.gr _ _ ry)
    exact ⟨vs', ws', q3, c3, q4, c4⟩
  · cases e
    obtain ⟨a1, rfl⟩ : ∃ a, v = .ref a := by cases rx; exact ⟨_, rfl⟩
    obtain ⟨a2, rfl⟩ : ∃ a, w = .ref a := by cases ry; exact ⟨_, rfl⟩
    obtain ⟨vs, q1, c1, z1⟩ := RD.tupAt (K := X.K) rx
    obtain ⟨ws, q2, c2, z2⟩ := RD.tupAt (K := X.K) ry
    refine ⟨a1, a2, vs, ws, rfl, .inr ⟨q1, q2, o5 ρ2 H2 _ hr2 .refl ⟨itr_zipT fun L3 ρ3 h3 H3 _ s => ?_, trivial, by rw [zipD_len]; omega⟩⟩⟩
    obtain ⟨vs', q3, c3, _⟩ := RD.tupAt (K := X.K) (RD.gr s.gr _ _ rx)
    obtain ⟨ws', q4, c4, _⟩ := RD.tupAt (K := X.K) (RD.gr s.gr _ _ ry)
    exact ⟨vs', ws', q3, c3, q4, c4⟩
  · cases e
theorem i_en {p tpos : Pos} {elts : List Expr} {kk : Nat} (hg : Gl X "enumerate") (hm : X.mg "enumerate" = none) (ha : PE X a (tE C eva X.K W)) (hs : starEach [a] X.env = [(false, eval a X.env)]) :
    PI X (.Tuple elts kk tpos) (.Call (.Name "enumerate" p) [a] [] pos) (tI true C (fun en => M.bind (eva en) fun v => M.bind (Jr.asD v) fun x => M.bind (ofO ((asL x).map (enumD 0))) fun xs => M.pure (none, xs)) X.K W) := by
  refine pii (pi_enum hg hm (pa_cons ha pa_nil (by rw [hs]; rfl)) hs) fun σ H R ⟨L, ρ, h, en, hr, er, o⟩ => ?_
  refine ⟨L, ρ, h, en, hr, er, (Out.split (rel := relV L) o).mono fun v H1 ⟨ρ1, h1, x, hr1, s1, rv1, o1⟩ => ?_⟩
  obtain ⟨dx, rfl, rx, o2⟩ := Out.asD rv1 o1
  obtain ⟨xs, e, o3⟩ := Out.ofO o2
  cases dx with
  | list ys =>
    cases e
    obtain ⟨a1, rfl⟩ : ∃ a, v = .ref a := by cases rx; exact ⟨_, rfl⟩
    obtain ⟨vs, q1, c1, z1⟩ := RD.listAt (K := X.K) rx
    refine ⟨a1, vs, rfl, q1, o3 ρ1 H1 _ hr1 .refl ⟨itr_enum fun L3 ρ3 h3 H3 _ s => ?_, trivial, by rw [enumD_len]; exact z1⟩⟩
    obtain ⟨vs', q3, c3, _⟩ := RD.listAt (K := X.K) (RD.gr s.gr _ _ rx)
    exact ⟨vs', q3, c3⟩
  | _ => cases e
end
end Jr

set_option Elab.async false
set_option linter.all false
set_option maxRecDepth 100000
set_option maxHeartbeats 1000000
/-! zip of three tuples. -/
namespace RZ
open PySem PySem.Spec PyProof.Rows L2
def ItzT3 (K : PySem.W.Frag) (a b c : Addr) : It :=
  ⟨fun i H => ∃ (xs ys zs : List V) (x y z : V), SqT K H a xs ∧ SqT K H b ys ∧ SqT K H c zs ∧ xs[i]? = some x ∧ ys[i]? = some y ∧ zs[i]? = some z,
    fun i H v H' => ∃ T x y z, v = .ref T ∧ H T = none ∧ H' = upd H T (.tup [x, y, z]) ∧ (∀ xs, SqT K H a xs → xs[i]? = some x) ∧ (∀ ys, SqT K H b ys → ys[i]? = some y) ∧ ∀ zs, SqT K H c zs → zs[i]? = some z,
    fun i H => ∃ xs ys zs : List V, SqT K H a xs ∧ SqT K H b ys ∧ SqT K H c zs ∧ i ≤ xs.length ∧ i ≤ ys.length ∧ i ≤ zs.length ∧ (i = xs.length ∨ i = ys.length ∨ i = zs.length)⟩
theorem turn_zipT3 {P : Program} {w : World} {K : PySem.W.Frag} {elts : List Expr} {kk : Nat} {tpos : Pos} {a b c z TI TO i1 i2 i3 : Addr} (D : ZipSep3 z TI TO i1 i2 i3 [i1, a] [i2, b] [i3, c]) (n1 : a ≠ i1) (n2 : b ≠ i2) (n3 : c ≠ i3) :
    Turn P w K (.Tuple elts kk tpos) (ItzT3 K a b c) [z, TI, TO, i1, i2, i3] z (fun i h => IsZip h z TI TO .none ∧ IsTupOf3 h TI (.ref i1) (.ref i2) (.ref i3) ∧ (∃ x y u, IsTupOf3 h TO x y u) ∧ h.IsTupleIter i1 a i ∧ h.IsTupleIter i2 b i ∧ h.IsTupleIter i3 c i) where
  mem := by simp
  obj := fun i h st c' hc => by
    obtain ⟨hz, hTI, ⟨x, y, u, hTO⟩, ⟨o1, e1, _, d1⟩, ⟨o2, e2, _, d2⟩, ⟨o3, e3, _, d3⟩⟩ := st
    have e' : c' = z ∨ c' = TI ∨ c' = TO ∨ c' = i1 ∨ c' = i2 ∨ c' = i3 := by simpa using hc
    rcases e' with q | q | q | q | q | q
    · rw [q]; exact ⟨_, hz, fun v q => nomatch q⟩
    · rw [q]; exact ⟨_, hTI, fun v q => nomatch q⟩
    · rw [q]; exact ⟨_, hTO, fun v q => nomatch q⟩
    · rw [q]; exact ⟨o1, e1, fun v q => by rw [d1] at q; cases q⟩
    · rw [q]; exact ⟨o2, e2, fun v q => by rw [d2] at q; cases q⟩
    · rw [q]; exact ⟨o3, e3, fun v q => by rw [d3] at q; cases q⟩
  keep := fun i h h' st k => by
    obtain ⟨hz, hTI, ⟨x, y, u, hTO⟩, h1, h2, h3⟩ := st
    exact ⟨k z (by simp) _ hz, k TI (by simp) _ hTI, ⟨x, y, u, k TO (by simp) _ hTO⟩, h1.at fun o q => k i1 (by simp) o q, h2.at fun o q => k i2 (by simp) o q, h3.at fun o q => k i3 (by simp) o q⟩
  item := by
    intro X hP hw hK hc i pins s σ H E I hf st hg
    subst hP hw hK
    obtain ⟨hz, hTI, ⟨x0, y0, u0, hTO⟩, h1, h2, h3⟩ := st
    obtain ⟨xs, ys, zs, x, y, t, hqx, hqy, hqz, hx, hy, ht⟩ := hg
    obtain ⟨its, rv, p, _⟩ := I.tuple hqx
    obtain ⟨its2, rv2, p2, _⟩ := I.tuple hqy
    obtain ⟨its3, rv3, p3, _⟩ := I.tuple hqz
    obtain ⟨u, hu, ru⟩ := rv.get hx
    obtain ⟨u2, hu2, ru2⟩ := rv2.get hy
    obtain ⟨u3, hu3, ru3⟩ := rv3.get ht
    have hzl : z < s.heap.objs.size := Heap.lt_size hz
    have hd : X.A.in1.handled = none := I.ok.hd hc
    have D1 := Draws.tuple (prog := X.prog) (w := X.w) hd i1 a n1 its.toArray
    have D2 := Draws.tuple (prog := X.prog) (w := X.w) hd i2 b n2 its2.toArray
    have D3 := Draws.tuple (prog := X.prog) (w := X.w) hd i3 c n3 its3.toArray
    have lt1 := (List.getElem?_eq_some_iff.mp hu).1
    have lt2 := (List.getElem?_eq_some_iff.mp hu2).1
    have lt3 := (List.getElem?_eq_some_iff.mp hu3).1
    refine wpAny_pyNext_zipD3_item D D1 D2 D3 hz hTI hTO ⟨h1, p⟩ ⟨h2, p2⟩ ⟨h3, p3⟩ (by simpa using lt1) (by simpa using lt2) (by simpa using lt3)
      fun v1 v2 v3 h' tk q1 q2 q3 z' TO' h1' h2' h3' hT hsz hk => ?_
    have e1 : v1 = u := by
      have q1 : its.toArray[i]? = some v1 := q1
      have : its[i]? = some v1 := by simpa using q1
      rw [hu] at this
      cases this
      rfl
    have e2 : v2 = u2 := by
      have q2 : its2.toArray[i]? = some v2 := q2
      have : its2[i]? = some v2 := by simpa using q2
      rw [hu2] at this
      cases this
      rfl
    have e3 : v3 = u3 := by
      have q3 : its3.toArray[i]? = some v3 := q3
      have : its3[i]? = some v3 := by simpa using q3
      rw [hu3] at this
      cases this
      rfl
    subst e1 e2 e3
    refine ⟨_, rfl, wpAny_letOwnedTupleGo_zip (s := { s with heap := h', toks := tk }) z' fun h'' z'' sb => ?_⟩
    have hT2 : h''.get? s.heap.objs.size = some { cls := .type "tuple", data := .seq #[v1, v2, v3] } := (sb.2 _ (Nat.ne_of_gt hzl)).trans hT
    have new : ObjOk X.prog X.w (upd H s.heap.objs.size (.tup [x, y, t])) h'' s.heap.objs.size (.tup [x, y, t]) :=
      ⟨by show 3 ≤ sizeLine; decide, [v1, v2, v3], .cons ru (.cons ru2 (.cons ru3 .nil)), ⟨_, hT2, rfl, _, rfl⟩⟩
    have I1 : Inv X pins σ (upd H s.heap.objs.size (.tup [x, y, t])) { s with heap := h'', toks := tk } :=
      I.turnedNew (t' := tk) (ch := [z, TI, TO, i1, i2, i3]) (fun c o hb q => (sb.2 c (fun q' => hb (by simp [q']))).trans (hk c o (fun q' => hb (by simp [q'])) (fun q' => hb (by simp [q'])) (fun q' => hb (by simp [q'])) (fun q' => hb (by simp [q'])) (fun q' => hb (by simp [q'])) q)) hf (Nat.le_refl _) new
    refine ⟨.ref s.heap.objs.size, _, I1, rfl, ⟨_, x, y, t, rfl, I.hok.fresh (Nat.le_refl _), rfl, fun l hl => by rw [I.tuple_inj hl hqx]; exact hx, fun l hl => by rw [I.tuple_inj hl hqy]; exact hy, fun l hl => by rw [I.tuple_inj hl hqz]; exact ht⟩, ⟨z'', ?_, ⟨v1, v2, v3, ?_⟩, ?_, ?_, ?_⟩, fun c' hcm => ?_⟩
    · exact (sb.2 _ D.TIz).trans (hk _ _ D.TIz D.TITO D.TIi1 D.TIi2 D.TIi3 hTI)
    · exact (sb.2 _ D.TOz).trans TO'
    · exact h1'.1.at fun o q => (sb.2 _ (Ne.symm D.zi1)).trans q
    · exact h2'.1.at fun o q => (sb.2 _ (Ne.symm D.zi2)).trans q
    · exact h3'.1.at fun o q => (sb.2 _ (Ne.symm D.zi3)).trans q
    · have hlt : c' < s.heap.objs.size := by
        have e' : c' = z ∨ c' = TI ∨ c' = TO ∨ c' = i1 ∨ c' = i2 ∨ c' = i3 := by simpa using hcm
        rcases e' with q | q | q | q | q | q
        · rw [q]; exact hzl
        · rw [q]; exact Heap.lt_size hTI
        · rw [q]; exact Heap.lt_size hTO
        · rw [q]; obtain ⟨_, e1, _⟩ := h1; exact Heap.lt_size e1
        · rw [q]; obtain ⟨_, e2, _⟩ := h2; exact Heap.lt_size e2
        · rw [q]; obtain ⟨_, e3, _⟩ := h3; exact Heap.lt_size e3
      rw [upd_ne (Nat.ne_of_lt hlt)]
      exact (hf c' hcm).1
  done := by
    intro X hP hw hK hc i pins s σ H E I hf st hg
    subst hP hw hK
    obtain ⟨hz, hTI, ⟨x0, y0, u0, hTO⟩, h1, h2, h3⟩ := st
    obtain ⟨xs, ys, zs, hqx, hqy, hqz, g1, g2, g3, hend⟩ := hg
    obtain ⟨its, rv, p, _⟩ := I.tuple hqx
    obtain ⟨its2, rv2, p2, _⟩ := I.tuple hqy
    obtain ⟨its3, rv3, p3, _⟩ := I.tuple hqz
    have l1 := rv.length
    have l2 := rv2.length
    have l3 := rv3.length
    have hd : X.A.in1.handled = none := I.ok.hd hc
    have D1 := Draws.tuple (prog := X.prog) (w := X.w) hd i1 a n1 its.toArray
    have D2 := Draws.tuple (prog := X.prog) (w := X.w) hd i2 b n2 its2.toArray
    have D3 := Draws.tuple (prog := X.prog) (w := X.w) hd i3 c n3 its3.toArray
    exact wpAny_pyNext_zipD3_end D D1 D2 D3 hz hTI hTO ⟨h1, p⟩ ⟨h2, p2⟩ ⟨h3, p3⟩ (by simp; omega) (by simp; omega) (by simp; omega) (by simp; omega)
      fun h' tk hk => ⟨rfl, I.turnedL (t' := tk) (ch := [z, TI, TO, i1, i2, i3]) (fun c o hb q =>
      hk c o (fun q' => hb (by simp [q'])) (fun q' => hb (by simp [q'])) (fun q' => hb (by simp [q'])) (fun q' => hb (by simp [q'])) (fun q' => hb (by simp [q'])) q) hf⟩
  self := fun A i s Q E st h => wpAny_pyIter_zip st.1 h
def iZip3 (K : PySem.W.Frag) (ta : TA) : TI := fun σ H R => ta σ H fun vs H1 => ∃ a b c xs ys zs, vs = [.ref a, .ref b, .ref c] ∧ SqT K H1 a xs ∧ SqT K H1 b ys ∧ SqT K H1 c zs ∧ R (ItzT3 K a b c) H1
theorem pi_zip3 {X : Cx} {e e2 e3 : Expr} {ta : TA} {p pos tpos : Pos} {elts : List Expr} {kk : Nat} (hg : Gl X "zip") (hm : X.mg "zip" = none) (ha : PA X [e, e2, e3] ta)
    (hs : starEach [e, e2, e3] X.env = (false, eval e X.env) :: starEach [e2, e3] X.env := by rfl) (hpl : (backTo pos (starEach [e2, e3] X.env)).any (·.1) = false := by rfl) :
    PI X (.Tuple elts kk tpos) (.Call (.Name "zip" p) [e, e2, e3] [] pos) (iZip3 X.K ta) := by
  refine ⟨fun pins s σ H R I h => ?_⟩
  refine Call_ (ld_blt I hg hm PyProof.Rows.boot_zip (PyProof.Rows.callWith_type1 (thn (ha.run pos pins s σ H _ I h) fun us s1 ⟨vs, H1, I1, r1, q1⟩ => ?_) hs hpl))
  obtain ⟨a, b, c, xs, ys, zs, ex, hqx, hqy, hqz, q⟩ := q1
  subst ex
  cases r1 with | cons r r1 =>
  cases r1 with | cons r' r1 =>
  cases r1 with | cons r'' r1 =>
  cases r1
  cases r
  cases r'
  cases r''
  obtain ⟨its, rv, p1, _⟩ := I1.tuple hqx
  obtain ⟨its2, rv2, p2, _⟩ := I1.tuple hqy
  obtain ⟨its3, rv3, p3, _⟩ := I1.tuple hqz
  obtain ⟨o1, ho1, _⟩ := id p1
  obtain ⟨o2, ho2, _⟩ := id p2
  obtain ⟨o3, ho3, _⟩ := id p3
  have b1 := Heap.lt_size ho1
  have b2 := Heap.lt_size ho2
  have b3 := Heap.lt_size ho3
  refine zip_begins3 (begins_tuple a its.toArray) (begins_tuple b its2.toArray) (begins_tuple c its3.toArray) (show s1.heap.IsTuple a its.toArray from p1) (show s1.heap.IsTuple b its2.toArray from p2) (show s1.heap.IsTuple c its3.toArray from p3)
    fun h' hz hTI hTO h1 h2 h3 hsz hk => wpAny_pyIter_zip hz ?_
  have I2 : Inv X pins σ H1 { s1 with heap := h' } := I1.kept (t' := s1.toks) hk
  have fresh : ∀ c, c ∈ [s1.heap.objs.size + 5, s1.heap.objs.size + 3, s1.heap.objs.size + 4, s1.heap.objs.size, s1.heap.objs.size + 1, s1.heap.objs.size + 2] → FpOk X pins H1 c := fun c hcm => by
    have e' : c = s1.heap.objs.size + 5 ∨ c = s1.heap.objs.size + 3 ∨ c = s1.heap.objs.size + 4 ∨ c = s1.heap.objs.size ∨ c = s1.heap.objs.size + 1 ∨ c = s1.heap.objs.size + 2 := by simpa using hcm
    have hle : s1.heap.objs.size ≤ c := by
      rcases e' with z | z | z | z | z | z
      · rw [z]; exact Nat.le_add_right _ _
      · rw [z]; exact Nat.le_add_right _ _
      · rw [z]; exact Nat.le_add_right _ _
      · rw [z]; exact Nat.le_refl _
      · rw [z]; exact Nat.le_add_right _ _
      · rw [z]; exact Nat.le_add_right _ _
    exact I1.fpOk hle (I1.hok.fresh hle)
  have D := zip_sep3 (N := s1.heap.objs.size) (fp1 := [a]) (fp2 := [b]) (fp3 := [c]) (fun x hx => by rw [List.mem_singleton.mp hx]; exact b1) (fun x hx => by rw [List.mem_singleton.mp hx]; exact b2) (fun x hx => by rw [List.mem_singleton.mp hx]; exact b3)
  exact ⟨s1.heap.objs.size + 5, [s1.heap.objs.size + 5, s1.heap.objs.size + 3, s1.heap.objs.size + 4, s1.heap.objs.size, s1.heap.objs.size + 1, s1.heap.objs.size + 2], _, _, H1, rfl, I2,
    turn_zipT3 D (Nat.ne_of_lt b1) (Nat.ne_of_lt (Nat.lt_of_lt_of_le b2 (Nat.le_add_right _ _))) (Nat.ne_of_lt (Nat.lt_of_lt_of_le b3 (Nat.le_add_right _ _))), ⟨hz, hTI, ⟨_, _, _, hTO⟩, ⟨_, h1, rfl, rfl⟩, ⟨_, h2, rfl, rfl⟩, ⟨_, h3, rfl, rfl⟩⟩, fresh, q⟩
end RZ
namespace Jr
open PySem PySem.Spec PyProof.Rows L2
theorem zip3D_get : ∀ (xs ys zs : List D) (i : Nat) (x : D), (zip3D xs ys zs)[i]? = some x → ∃ y z u, xs[i]? = some y ∧ ys[i]? = some z ∧ zs[i]? = some u ∧ x = .tuple [y, z, u]
  | [], ys, zs, i, x, e => by unfold zip3D at e; cases e
  | _ :: _, [], zs, i, x, e => by unfold zip3D at e; cases e
  | _ :: _, _ :: _, [], i, x, e => by unfold zip3D at e; cases e
  | y :: xs, z :: ys, u :: zs, 0, x, e => by cases e; exact ⟨y, z, u, rfl, rfl, rfl, rfl⟩
  | y :: xs, z :: ys, u :: zs, i + 1, x, e => zip3D_get xs ys zs i x e
theorem zip3D_len : ∀ (xs ys zs : List D), (zip3D xs ys zs).length = min (min xs.length ys.length) zs.length
  | [], ys, zs => by unfold zip3D; simp
  | _ :: _, [], zs => by unfold zip3D; simp
  | _ :: _, _ :: _, [] => by unfold zip3D; simp
  | y :: xs, z :: ys, u :: zs => by unfold zip3D; rw [List.length_cons, List.length_cons, List.length_cons, List.length_cons, zip3D_len xs ys zs]; omega
theorem itr_zip3 {K : PySem.W.Frag} {L : Addr → Prop} {ρ : List Addr} {h : Hh} {H : Hp} {xs ys zs : List D} {a b c : Addr}
    (at_ : ∀ L2 ρ2 h2 H2, HR K L2 ρ2 h2 H2 → Stw L ρ h H L2 ρ2 h2 H2 → ∃ vs ws us, SqT K H2 a vs ∧ RDs (Pr L2 ρ2 h2) H2 xs vs ∧ SqT K H2 b ws ∧ RDs (Pr L2 ρ2 h2) H2 ys ws ∧ SqT K H2 c us ∧ RDs (Pr L2 ρ2 h2) H2 zs us) : ItR true K L ρ h H none (zip3D xs ys zs) (RZ.ItzT3 K a b c) := fun L2 ρ2 h2 H2 hr s d => by
  obtain ⟨vs, ws, us, sq, c1, sq2, c2, sq3, c3⟩ := at_ L2 ρ2 h2 H2 hr s
  have l1 := c1.length
  have l2 := c2.length
  have l3 := c3.length
  refine ⟨fun i x e => ?_, ⟨vs, ws, us, sq, sq2, sq3, by rw [zip3D_len]; omega, by rw [zip3D_len]; omega, by rw [zip3D_len]; omega, by rw [zip3D_len]; omega⟩⟩
  obtain ⟨y, z, t, e0, e0', e0'', rfl⟩ := zip3D_get xs ys zs i x e
  obtain ⟨v, e1, r⟩ := c1.get e0
  obtain ⟨u, e2, r2⟩ := c2.get e0'
  obtain ⟨t', e3, r3⟩ := c3.get e0''
  refine ⟨⟨vs, ws, us, v, u, t', sq, sq2, sq3, e1, e2, e3⟩, fun w H' q => ?_⟩
  obtain ⟨T, v', u', t2, rfl, nT, rfl, f1, f2, f3⟩ := q
  have h1 := f1 vs sq
  rw [e1] at h1
  cases h1
  have h2 := f2 ws sq2
  rw [e2] at h2
  cases h2
  have h3 := f3 us sq3
  rw [e3] at h3
  cases h3
  obtain ⟨hr3, s3⟩ := hr.new (o := .tup [_, _, _]) nT
  exact ⟨hr3, s3, .inr ⟨rfl, T, _, _, rfl, rfl, upd_same, .cons (RD.gr s3.gr _ _ r) (.cons (RD.gr s3.gr _ _ r2) (.cons (RD.gr s3.gr _ _ r3) .nil))⟩⟩
section
variable {X : Cx} {C : Nat → Option Value} {W : WX} {a b c : Expr} {eva evb evc : Env → M Vl} {pos : Pos} {tg : Expr}
theorem i_z3 {p tpos : Pos} {elts : List Expr} {kk : Nat} (hg : Gl X "zip") (hm : X.mg "zip" = none) (ha : PE X a (tE C eva X.K W)) (hb : PE X b (tE C evb X.K W)) (hc : PE X c (tE C evc X.K W)) (hs : starEach [a, b, c] X.env = (false, eval a X.env) :: starEach [b, c] X.env) (hs2 : starEach [b, c] X.env = [(false, eval b X.env), (false, eval c X.env)]) (hs3 : starEach [c] X.env = [(false, eval c X.env)]) :
    PI X (.Tuple elts kk tpos) (.Call (.Name "zip" p) [a, b, c] [] pos) (tI true C (fun en => M.bind (eva en) fun v => M.bind (evb en) fun w => M.bind (evc en) fun u => M.bind (Jr.asD v) fun x => M.bind (Jr.asD w) fun y => M.bind (Jr.asD u) fun z => M.bind (ofO (zip3V x y z)) fun xs => M.pure (none, xs)) X.K W) := by
  refine pii (RZ.pi_zip3 hg hm (pa_cons ha (pa_cons hb (pa_cons hc pa_nil (by rw [hs3]; rfl)) (by rw [hs2, hs3])) hs) hs (by rw [hs2]; rfl)) fun σ H R ⟨L, ρ, h, en, hr, er, o⟩ => ?_
  refine ⟨L, ρ, h, en, hr, er, (Out.split (rel := relV L) o).mono fun v H1 ⟨ρ1, h1, x, hr1, s1, rv1, o1⟩ => ?_⟩
  refine ⟨L, ρ1, h1, en, hr1, er.step s1, (Out.split (rel := relV L) o1).mono fun w H2 ⟨ρ2, h2, y, hr2, s2, rv2, o2⟩ => ?_⟩
  refine ⟨L, ρ2, h2, en, hr2, (er.step s1).step s2, (Out.split (rel := relV L) o2).mono fun w2 H3 ⟨ρ3, h3, y3, hr3, s3, rv3, o3⟩ => ?_⟩
  obtain ⟨dx, rfl, rx, o4⟩ := Out.asD ((rv1.step s2).step s3) o3
  obtain ⟨dy, rfl, ry, o5⟩ := Out.asD (rv2.step s3) o4
  obtain ⟨dz, rfl, rz, o6⟩ := Out.asD rv3 o5
  obtain ⟨xs, e, o7⟩ := Out.ofO o6
  unfold zip3V at e
  split at e
  · cases e
    obtain ⟨a1, rfl⟩ : ∃ a, v = .ref a := by cases rx; exact ⟨_, rfl⟩
    obtain ⟨a2, rfl⟩ : ∃ a, w = .ref a := by cases ry; exact ⟨_, rfl⟩
    obtain ⟨a3, rfl⟩ : ∃ a, w2 = .ref a := by cases rz; exact ⟨_, rfl⟩
    obtain ⟨vs, q1, c1, z1⟩ := RD.tupAt (K := X.K) rx
    obtain ⟨ws, q2, c2, z2⟩ := RD.tupAt (K := X.K) ry
    obtain ⟨us, q3, c3, z3⟩ := RD.tupAt (K := X.K) rz
    refine ⟨a1, a2, a3, vs, ws, us, rfl, q1, q2, q3, o7 ρ3 H3 _ hr3 .refl ⟨itr_zip3 fun L3 ρ3 h3 H3 _ s => ?_, trivial, by rw [zip3D_len]; omega⟩⟩
    obtain ⟨vs', k1, d1, _⟩ := RD.tupAt (K := X.K) (RD.gr s.gr _ _ rx)
    obtain ⟨ws', k2, d2, _⟩ := RD.tupAt (K := X.K) (RD.gr s.gr _ _ ry)
    obtain ⟨us', k3, d3, _⟩ := RD.tupAt (K := X.K) (RD.gr s.gr _ _ rz)
    exact ⟨vs', ws', us', k1, d1, k2, d2, k3, d3⟩
  · cases e
end
end Jr

set_option Elab.async false
set_option linter.all false
set_option maxRecDepth 100000
set_option maxHeartbeats 1000000
namespace Jr
open PySem PySem.Spec PyProof.Rows L2
/-! ### more is protected, less is protected -/
section
variable {K : PySem.W.Frag} {L L' : Addr → Prop} {ρ ρ1 : List Addr} {h h1 : Hh} {H H1 : Hp} {D : Addr}
abbrev addL (L : Addr → Prop) (D : Addr) : Addr → Prop := fun a => L a ∨ a = D
theorem HR.guard (hr : HR K L ρ h H) (n : H D = none) (vs : List V) : HR K (addL L D) ρ h (upd H D (.lst vs)) ∧ Stw L ρ h H (addL L D) ρ h (upd H D (.lst vs)) := by
  have prs : ∀ a, a ≠ D → ¬ Pr L ρ h a → ¬ Pr (addL L D) ρ h a := fun a ne np => by
    rintro ((l | l) | l)
    · exact np (.inl l)
    · exact ne l
    · exact np (.inr l)
  have g : Gr (Pr L ρ h) H (Pr (addL L D) ρ h) (upd H D (.lst vs)) := fun a u e q => ⟨by rw [upd_ne (ne_of_none e n)]; exact e, prs a (ne_of_none e n) q⟩
  refine ⟨⟨hr.len, hr.nd, fun i a c e1 e2 e3 l => ?_, fun a l => ?_, fun i a c e1 e2 => ?_⟩, g, fun _ _ e => e⟩
  · rcases l with l | l
    · exact hr.dis i a c e1 e2 e3 l
    · subst l
      exact hr.pr_tracked n (.inr ⟨i, c, e1, e2, e3⟩)
  · rcases l with l | l
    · have : a ≠ D := fun z => hr.ltr a l (by rw [z]; exact n)
      rw [upd_ne this]; exact hr.ltr a l
    · subst l; rw [upd_same]; exact fun z => nomatch z
  · have q := hr.cell i a c e1 e2
    cases c with
    | dead => trivial
    | ro es => obtain ⟨ws, x, z, r⟩ := q; exact ⟨ws, x.imp (fun ⟨np, u, e⟩ => ⟨(g _ _ e np).2, u, (g _ _ e np).1⟩) id, z, RDs.gr g _ _ r⟩
    | lst es => obtain ⟨ws, e, z, r⟩ := q; exact ⟨ws, by rw [upd_ne (ne_of_none e n)]; exact e, z, RDs.gr g _ _ r⟩
    | dct _ es => exact DK.move g (upd_ne fun z => DK.some q (by rw [z]; exact n)) q
/-- a guarded object is written -/
theorem HR.updL (hr : HR K L ρ h H) (l : L D) (o : HO) : HR K L ρ h (upd H D o) ∧ Gr (Pr L ρ h) H (Pr L ρ h) (upd H D o) := by
  have ne : ∀ a, ¬ Pr L ρ h a → a ≠ D := fun a np z => np (.inl (z ▸ l))
  have g : Gr (Pr L ρ h) H (Pr L ρ h) (upd H D o) := fun a u e q => ⟨by rw [upd_ne (ne a q)]; exact e, q⟩
  refine ⟨⟨hr.len, hr.nd, hr.dis, fun a l' => ?_, fun i a c e1 e2 => ?_⟩, g⟩
  · by_cases z : a = D
    · subst z; rw [upd_same]; exact fun z => nomatch z
    · rw [upd_ne z]; exact hr.ltr a l'
  · have q := hr.cell i a c e1 e2
    have nea : live c = true → a ≠ D := fun lv z => hr.dis i a c e1 e2 lv (by rw [z]; exact l)
    cases c with
    | dead => trivial
    | ro es => obtain ⟨ws, x, z, r⟩ := q; exact ⟨ws, x.imp (fun ⟨np, u, e⟩ => ⟨(g _ _ e np).2, u, (g _ _ e np).1⟩) id, z, RDs.gr g _ _ r⟩
    | lst es => obtain ⟨ws, e, z, r⟩ := q; exact ⟨ws, by rw [upd_ne (nea rfl)]; exact e, z, RDs.gr g _ _ r⟩
    | dct _ es => exact DK.move g (upd_ne (nea rfl)) q
/-- H without D -/
def without (H : Hp) (D : Addr) : Hp := fun a => if a = D then none else H a
theorem without_ne {a : Addr} (n : a ≠ D) : without H D a = H a := if_neg n
theorem without_same : without H D D = none := if_pos rfl
theorem upd_without {o : HO} (e : H D = some o) : upd (without H D) D o = H := by
  funext a
  by_cases z : a = D
  · subst z; rw [upd_same, e]
  · rw [upd_ne z, without_ne z]
/-- the guard is taken away, with what it guards -/
theorem HR.unguard (hr : HR K (addL L D) ρ h H) (nL : ¬ L D) : HR K L ρ h (without H D) ∧ Gr (Pr (addL L D) ρ h) H (Pr L ρ h) (without H D) := by
  have prs : ∀ a, ¬ Pr (addL L D) ρ h a → ¬ Pr L ρ h a := fun a np => by
    rintro (l | l)
    · exact np (.inl (.inl l))
    · exact np (.inr l)
  have ne : ∀ a, ¬ Pr (addL L D) ρ h a → a ≠ D := fun a np z => np (.inl (.inr z))
  have g : Gr (Pr (addL L D) ρ h) H (Pr L ρ h) (without H D) := fun a u e q => ⟨by rw [without_ne (ne a q)]; exact e, prs a q⟩
  refine ⟨⟨hr.len, hr.nd, fun i a c e1 e2 e3 l => hr.dis i a c e1 e2 e3 (.inl l), fun a l => ?_, fun i a c e1 e2 => ?_⟩, g⟩
  · have : a ≠ D := fun z => nL (z ▸ l)
    rw [without_ne this]; exact hr.ltr a (.inl l)
  · have q := hr.cell i a c e1 e2
    have nea : live c = true → a ≠ D := fun lv z => hr.dis i a c e1 e2 lv (.inr z)
    cases c with
    | dead => trivial
    | ro es => obtain ⟨ws, x, z, r⟩ := q; exact ⟨ws, x.imp (fun ⟨np, u, e⟩ => ⟨(g _ _ e np).2, u, (g _ _ e np).1⟩) id, z, RDs.gr g _ _ r⟩
    | lst es => obtain ⟨ws, e, z, r⟩ := q; exact ⟨ws, by rw [without_ne (nea rfl)]; exact e, z, RDs.gr g _ _ r⟩
    | dct _ es => exact DK.move g (without_ne (nea rfl)) q
end
/-! ### targets -/
def gNms : List Nat → TGs
  | [] => gNil
  | i :: is => gCons (gName i) (gNms is)
def gMix (K : PySem.W.Frag) (js : List Nat) : List Nat → TGs
  | [] => gCons (gTup K js.length (gNms js)) gNil
  | i :: is => gCons (gName i) (gMix K js is)
def gOf (K : PySem.W.Frag) : Tg → TG
  | .nm i => gName i
  | .tp is => gTup K is.length (gNms is)
  | .tn is js => gTup K (is.length + 1) (gMix K js is)
theorem wipe_set : ∀ (σ : L2.St) {i : Nat} {x : Option V} {vs : List Nat}, i ∈ vs → L2.wipe (σ.set i x) vs = L2.wipe σ vs := fun σ i x vs => by
  induction vs with
  | nil => intro h; cases h
  | cons v vs ih =>
    intro hm
    unfold L2.wipe
    by_cases h2 : i ∈ vs
    · rw [ih h2]
    · have e : i = v := by
        rcases List.mem_cons.mp hm with q | q
        · exact q
        · exact absurd q h2
      subst e
      have aux : ∀ (ws : List Nat), i ∉ ws → L2.wipe (σ.set i x) ws = (L2.wipe σ ws).set i x := fun ws => by
        induction ws with
        | nil => intro _; rfl
        | cons w ws ih2 =>
          intro hn
          unfold L2.wipe
          rw [ih2 (fun q => hn (List.mem_cons_of_mem _ q)), List.set_comm _ _ (fun z => hn (by rw [z]; exact List.mem_cons_self))]
      rw [aux vs h2, List.set_set]
theorem wipe_wipe (σ : L2.St) {vs : List Nat} : ∀ us : List Nat, (∀ i ∈ us, i ∈ vs) → L2.wipe (L2.wipe σ us) vs = L2.wipe σ vs
  | [], _ => rfl
  | u :: us, h => by
    show L2.wipe ((L2.wipe σ us).set u none) vs = _
    rw [wipe_set _ (h u List.mem_cons_self), wipe_wipe σ us fun i hi => h i (List.mem_cons_of_mem _ hi)]
def isTp : Tg → Bool
  | .nm _ => false
  | .tp _ => true
  | .tn _ _ => true
def tgIn : Tg → List Nat → Bool
  | .nm i, vs => vs.contains i
  | .tp is, vs => is.all vs.contains
  | .tn is js, vs => is.all vs.contains && js.all vs.contains
theorem g_nms {P : Addr → Prop} {ρ : List Addr} {H : Hp} {Q : L2.St → Hp → Prop} : ∀ {is : List Nat} {xs : List D} {vs : List V} {en : Env} {σ : L2.St}, xs.length = is.length → RDs P H xs vs → ER P ρ H en σ →
    (∀ σ', ER P ρ H ((is.zip xs).foldl (fun en p => en.set p.1 (some (.d p.2))) en) σ' → (∀ ws, is.all ws.contains = true → L2.wipe σ' ws = L2.wipe σ ws) → Q σ' H) → gNms is vs σ H Q
  | [], [], _, en, σ, _, .nil, er, q => ⟨rfl, q σ er fun _ _ => rfl⟩
  | i :: is, x :: xs, _, en, σ, l, .cons r rs, er, q => ⟨_, _, rfl, g_nms (by simpa using l) rs (er.set (x := .d x) r) fun σ' er' hw => q σ' er' fun ws hm => by
      rw [List.all_cons, Bool.and_eq_true] at hm
      rw [hw ws hm.2, wipe_set _ (by simpa using hm.1)]⟩
  | [], _ :: _, _, _, _, l, _, _, _ => by simp at l
  | _ :: _, [], _, _, _, l, _, _, _ => by simp at l
theorem g_mix {K : PySem.W.Frag} {P : Addr → Prop} {ρ : List Addr} {H : Hp} {Q : L2.St → Hp → Prop} {js : List Nat} {ys : List D} (hy : ys.length = js.length) : ∀ {is : List Nat} {xs : List D} {vs : List V} {en : Env} {σ : L2.St}, xs.length = is.length + 1 → xs[is.length]? = some (.tuple ys) → RDs P H xs vs → ER P ρ H en σ →
    (∀ σ', ER P ρ H ((js.zip ys).foldl (fun en p => en.set p.1 (some (.d p.2))) ((is.zip xs).foldl (fun en p => en.set p.1 (some (.d p.2))) en)) σ' → (∀ ws, is.all ws.contains = true → js.all ws.contains = true → L2.wipe σ' ws = L2.wipe σ ws) → Q σ' H) → gMix K js is vs σ H Q
  | [], [x], _, en, σ, _, e, .cons r .nil, er, q => by
    cases e
    cases r with | tup np e1 z c =>
    exact ⟨_, _, rfl, ⟨_, _, rfl, e1.sq, by rw [← c.length]; exact hy, g_nms hy c er fun σ' er' hw => ⟨rfl, q σ' er' fun ws _ h2 => hw ws h2⟩⟩⟩
  | i :: is, x :: xs, _, en, σ, l, e, .cons r rs, er, q => ⟨_, _, rfl, g_mix hy (by simpa using l) (by simpa using e) rs (er.set (x := .d x) r) fun σ' er' hw => q σ' er' fun ws hm hj => by
      rw [List.all_cons, Bool.and_eq_true] at hm
      rw [hw ws hm.2 hj, wipe_set _ (by simpa using hm.1)]⟩
  | [], [], _, _, _, l, _, _, _, _ => by simp at l
  | [], _ :: _ :: _, _, _, _, l, _, _, _, _ => by simp at l
  | _ :: _, [], _, _, _, l, _, _, _, _ => by simp at l
theorem asg_tn {is js : List Nat} {xs : List D} {en en' : Env} (e : asgT (.tn is js) (.d (.tuple xs)) en = some en') : xs.length = is.length + 1 ∧ ∃ ys, xs[is.length]? = some (.tuple ys) ∧ ys.length = js.length ∧
    en' = (js.zip ys).foldl (fun en p => en.set p.1 (some (.d p.2))) ((is.zip xs).foldl (fun en p => en.set p.1 (some (.d p.2))) en) := by
  have e : (if xs.length = is.length + 1 then match xs[is.length]? with
    | some (.tuple ys) => if ys.length = js.length then some ((js.zip ys).foldl (fun en p => en.set p.1 (some (.d p.2))) ((is.zip xs).foldl (fun en p => en.set p.1 (some (.d p.2))) en)) else none
    | _ => none
    else none) = some en' := e
  by_cases hl : xs.length = is.length + 1
  · rw [if_pos hl] at e
    cases h2 : xs[is.length]? with
    | none => rw [h2] at e; cases e
    | some y =>
      rw [h2] at e
      cases y with
      | tuple ys =>
        dsimp only at e
        by_cases h3 : ys.length = js.length
        · rw [if_pos h3] at e
          cases e
          exact ⟨hl, ys, rfl, h3, rfl⟩
        · rw [if_neg h3] at e; cases e
      | _ => cases e
  · rw [if_neg hl] at e; cases e
theorem g_ok {K : PySem.W.Frag} {P : Addr → Prop} {ρ : List Addr} {H : Hp} {Q : L2.St → Hp → Prop} {t : Tg} {x : Vl} {v : V} {en en' : Env} {σ : L2.St} (e : asgT t x en = some en') (r : RV P ρ H x v) (er : ER P ρ H en σ)
    (q : ∀ σ', ER P ρ H en' σ' → (∀ ws, tgIn t ws = true → L2.wipe σ' ws = L2.wipe σ ws) → Q σ' H) : gOf K t v σ H Q := by
  cases t with
  | nm i =>
    have e : (if i < en.length then some (en.set i (some x)) else none) = some en' := e
    by_cases hi : i < en.length
    · rw [if_pos hi] at e
      cases e
      exact q _ (er.set r) fun ws hm => wipe_set _ (by simpa [tgIn] using hm)
    · rw [if_neg hi] at e; cases e
  | tp is =>
    cases x with
    | d x =>
      cases x with
      | tuple xs =>
        have e : (if xs.length = is.length then some ((is.zip xs).foldl (fun en p => en.set p.1 (some (.d p.2))) en) else none) = some en' := e
        by_cases hl : xs.length = is.length
        · rw [if_pos hl] at e
          cases e
          cases (show RD _ _ _ _ from r) with | tup np e1 z c =>
          exact ⟨_, _, rfl, e1.sq, by rw [← c.length]; exact hl, g_nms hl c er q⟩
        · rw [if_neg hl] at e; cases e
      | _ => cases e
    | _ => cases e
  | tn is js =>
    cases x with
    | d x =>
      cases x with
      | tuple xs =>
        obtain ⟨hl, ys, h2, h3, rfl⟩ := asg_tn e
        cases (show RD _ _ _ _ from r) with | tup np e1 z c =>
        exact ⟨_, _, rfl, e1.sq, by rw [← c.length]; exact hl, g_mix h3 hl h2 c er fun σ' er' hw => q σ' er' fun ws h => hw ws (Bool.and_eq_true_iff.mp h).1 (Bool.and_eq_true_iff.mp h).2⟩
      | _ => cases e
    | _ => cases e
theorem g_okI {K : PySem.W.Frag} {P : Addr → Prop} {ρ : List Addr} {H : Hp} {Q : L2.St → Hp → Prop} {b : Bool} {t : Tg} {x : D} {v : V} {en en' : Env} {σ : L2.St} (hb : b = true → isTp t = true) (e : asgT t (.d x) en = some en') (r : RI b P H x v) (er : ER P ρ H en σ)
    (q : ∀ σ', ER P ρ H en' σ' → (∀ ws, tgIn t ws = true → L2.wipe σ' ws = L2.wipe σ ws) → Q σ' H) : gOf K t v σ H Q := by
  rcases r with r | ⟨hb1, p, ds, vs, rfl, rfl, e1, c⟩
  · exact g_ok e (x := .d x) r er q
  · cases t with
    | nm i => exact Bool.noConfusion (hb hb1)
    | tp is =>
      have e : (if ds.length = is.length then some ((is.zip ds).foldl (fun en p => en.set p.1 (some (.d p.2))) en) else none) = some en' := e
      by_cases hl : ds.length = is.length
      · rw [if_pos hl] at e
        cases e
        exact ⟨_, _, rfl, SqT.of e1, by rw [← c.length]; exact hl, g_nms hl c er q⟩
      · rw [if_neg hl] at e; cases e
    | tn is js =>
      obtain ⟨hl, ys, h2, h3, rfl⟩ := asg_tn e
      exact ⟨_, _, rfl, SqT.of e1, by rw [← c.length]; exact hl, g_mix h3 hl h2 c er fun σ' er' hw => q σ' er' fun ws h => hw ws (Bool.and_eq_true_iff.mp h).1 (Bool.and_eq_true_iff.mp h).2⟩
/-! ### comprehensions -/
theorem same_ok {dep : Option (Nat × Cell)} {h h' : Hh} {u : Unit} (e : same dep h = some (.ok u, h')) : depOK dep h ∧ h' = h := by
  unfold same at e
  cases dep with
  | none => cases e; exact ⟨trivial, rfl⟩
  | some p =>
    obtain ⟨n, c⟩ := p
    dsimp only at e
    split at e
    · rename_i q
      cases e
      exact ⟨q, rfl⟩
    · cases e
theorem bind_ok {α β : Type} {m : M α} {f : α → M β} {h h' : Hh} {r : R β} (e : M.bind m f h = some (r, h')) : (∃ x h1, m h = some (.ok x, h1) ∧ f x h1 = some (r, h')) ∨ ∃ c, m h = some (.exc c, h') ∧ r = .exc c := by
  unfold M.bind at e
  cases e1 : m h with
  | none => rw [e1] at e; cases e
  | some p =>
    obtain ⟨q, h1⟩ := p
    rw [e1] at e
    cases q with
    | ok x => exact .inl ⟨x, h1, rfl, e⟩
    | exc c => cases e; exact .inr ⟨c, rfl, rfl⟩
theorem bind_okv {α β : Type} {m : M α} {f : α → M β} {h h' : Hh} {y : β} (e : M.bind m f h = some (.ok y, h')) : ∃ x h1, m h = some (.ok x, h1) ∧ f x h1 = some (.ok y, h') := by
  rcases bind_ok e with q | ⟨c, _, q⟩
  · exact q
  · cases q
theorem noExc_ok {α : Type} {m : M α} {h h' : Hh} {r : R α} (e : noExc m h = some (r, h')) : ∃ x, r = .ok x ∧ m h = some (.ok x, h') := by
  unfold noExc at e
  split at e
  · rename_i x h1 e1
    cases e
    exact ⟨x, rfl, e1⟩
  · cases e
theorem same_exc {dep : Option (Nat × Cell)} {h h' : Hh} {c : Nat} (e : same dep h = some (.exc c, h')) : False := by
  unfold same at e
  cases dep with
  | none => cases e
  | some p =>
    dsimp only at e
    split at e <;> cases e
theorem compL_cons {dep : Option (Nat × Cell)} {f : D → M (Option D)} {x : D} {xs : List D} {h h' : Hh} {r : R (List D)} (e : compL dep f (x :: xs) h = some (r, h')) :
    ∃ y h1 ys, depOK dep h ∧ f x h = some (.ok y, h1) ∧ compL dep f xs h1 = some (.ok ys, h') ∧ r = .ok (match y with
    | some y => y :: ys
    | none => ys) := by
  unfold compL at e
  rcases bind_ok e with ⟨u, h1, e1, e2⟩ | ⟨c, e1, _⟩
  · obtain ⟨d, rfl⟩ := same_ok e1
    rcases bind_ok e2 with ⟨y, h2, e3, e4⟩ | ⟨c, e3, _⟩
    · obtain ⟨y', q, e5⟩ := noExc_ok e3
      cases q
      rcases bind_ok e4 with ⟨ys, h3, e6, e7⟩ | ⟨c, e6, _⟩
      · cases e7
        exact ⟨y, h2, ys, d, e5, e6, rfl⟩
      · exfalso
        have noexc : ∀ (xs : List D) (h h' : Hh) (c : Nat), compL dep f xs h ≠ some (.exc c, h') := fun xs => by
          induction xs with
          | nil =>
            intro h h' c z
            rcases bind_ok (show M.bind (same dep) (fun _ => M.pure []) h = _ from z) with ⟨_, _, _, q⟩ | ⟨c, q, _⟩
            · cases q
            · exact same_exc q
          | cons x xs ih =>
            intro h h' c z
            unfold compL at z
            rcases bind_ok z with ⟨u, h1, e1, e2⟩ | ⟨c, e1, _⟩
            · rcases bind_ok e2 with ⟨y, h2, e3, e4⟩ | ⟨c, e3, _⟩
              · rcases bind_ok e4 with ⟨ys, h3, e6, e7⟩ | ⟨c, e6, _⟩
                · cases e7
                · exact ih _ _ _ e6
              · obtain ⟨_, q, _⟩ := noExc_ok e3; cases q
            · exact same_exc e1
        exact noexc _ _ _ _ e6
    · obtain ⟨_, q, _⟩ := noExc_ok e3; cases q
  · exact (same_exc e1).elim
abbrev W0 : WX := fun _ _ _ _ => False
theorem t_lc {K : PySem.W.Frag} {C : Nat → Option Value} {W : WX} {t : Tg} {own : List Nat} {evi : Env → M (Option (Nat × Cell) × List D)} {cnd : Env → M Bool} {elt : Env → M Vl} {b : Bool} (hb : b = true → isTp t = true) (ht : tgIn t own = true) : ∀ σ H Q,
    tF C (fun en => M.bind (evi en) fun p => compL p.1 (turnM t own en cnd elt) p.2) K W σ H Q → tLc (tI b C evi K W) (gOf K t) (tT C cnd K W0) (tE C elt K W0) own σ H Q := fun σ H Q ⟨L, ρ, h, en, hr, er, o⟩ => by
  refine ⟨L, ρ, h, en, hr, er, (Out.split (rel := relI b K L) o).mono fun J H1 ⟨ρ1, h1, p, hr1, s1, ⟨it, dp, hz⟩, o1⟩ => ?_⟩
  obtain ⟨dep, xs⟩ := p
  dsimp only at it dp hz o1
  intro Dd nD
  obtain ⟨ys, hE, eC⟩ : ∃ ys hE, compL dep (turnM t own en cnd elt) xs h1 = some (.ok ys, hE) := by
    cases e : compL dep (turnM t own en cnd elt) xs h1 with
    | none => rw [e] at o1; exact False.elim o1
    | some q =>
      obtain ⟨r, hE⟩ := q
      cases r with
      | ok ys => exact ⟨ys, hE, rfl⟩
      | exc c =>
        exfalso
        cases xs with
        | nil =>
          rcases bind_ok (show M.bind (same dep) (fun _ => M.pure []) h1 = _ from e) with ⟨_, _, _, q⟩ | ⟨c, q, _⟩
          · cases q
          · exact same_exc q
        | cons x xs => obtain ⟨_, _, _, _, _, _, q⟩ := compL_cons e; cases q
  rw [eC] at o1
  obtain ⟨hr2, s2⟩ := hr1.guard nD []
  have nLD : ¬ L Dd := fun z => hr1.ltr Dd z nD
  have neD : ∀ a, L a → a ≠ Dd := fun a l z => nLD (by rw [← z]; exact l)
  refine ⟨fun i m H => m = xs.length - i ∧ i ≤ xs.length ∧ ∃ ρ' h' acc vs ys2, HR K (addL L Dd) ρ' h' H ∧ Stw L ρ1 h1 H1 (addL L Dd) ρ' h' H ∧ (∀ a, L a → H a = H1 a) ∧ H Dd = some (.lst vs) ∧ RDs (Pr (addL L Dd) ρ' h') H acc vs ∧ acc.length ≤ i ∧
      ys = acc ++ ys2 ∧ compL dep (turnM t own en cnd elt) (xs.drop i) h' = some (.ok ys2, hE), ⟨xs.length, by simp, Nat.zero_le _, ρ1, h1, [], [], ys, hr2, s2, fun a l => upd_ne (neD a l), upd_same, .nil, Nat.le_refl _, rfl, eC⟩, ?_⟩
  rintro i m H2 ⟨rfl, hi, ρ', h', acc, vs, ys2, hr', s', fx, eD, rs, la, rfl, eC'⟩
  by_cases hlt : i < xs.length
  · have ex : xs.drop i = xs[i] :: xs.drop (i + 1) := (List.getElem_cons_drop hlt).symm
    rw [ex] at eC'
    obtain ⟨y, h3, ys3, d', e3, e4, e5⟩ := compL_cons eC'
    obtain ⟨go, yl⟩ := (it (addL L Dd) ρ' h' H2 hr' s' d').1 i xs[i] (List.getElem?_eq_getElem hlt)
    refine .inr ⟨go, fun H' => ∃ ρ' h' acc vs ys2, HR K (addL L Dd) ρ' h' H' ∧ Stw L ρ1 h1 H1 (addL L Dd) ρ' h' H' ∧ (∀ a, L a → H' a = H1 a) ∧ H' Dd = some (.lst vs) ∧ RDs (Pr (addL L Dd) ρ' h') H' acc vs ∧ acc.length ≤ i + 1 ∧
      _ = acc ++ ys2 ∧ compL dep (turnM t own en cnd elt) (xs.drop (i + 1)) h' = some (.ok ys2, hE), fun H' q => ⟨xs.length - (i + 1), by omega, rfl, hlt, q⟩, fun v H' yv => ?_⟩
    obtain ⟨hr3, s3, rv⟩ := yl v H' yv
    have er' : ER (Pr (addL L Dd) ρ' h') ρ' H' en σ := (ER.stw s' (ER.step s1 er)).step s3
    have fx3 : ∀ a, L a → H' a = H1 a := fun a l => (s3.fix a (.inl l)).trans (fx a l)
    have eD3 : H' Dd = some (.lst vs) := (s3.fix Dd (.inr rfl)).trans eD
    have rs3 := RDs.gr s3.gr _ _ rs
    have sw3 := s'.then_ s3
    unfold turnM at e3
    obtain ⟨en1, h3a, f1, f2⟩ := bind_okv e3
    obtain ⟨en1', ea, rfl, rfl⟩ : ∃ en1', asgT t (.d xs[i]) (Jr.wipe en own) = some en1' ∧ en1' = en1 ∧ h3a = h' := by
      cases ea : asgT t (.d xs[i]) (Jr.wipe en own) with
      | none => rw [ea] at f1; cases f1
      | some q => rw [ea] at f1; cases f1; exact ⟨_, rfl, rfl, rfl⟩
    refine g_okI hb ea rv (er'.wipe own) fun σ' er1 hw => ⟨by rw [hw own ht, wipe_wipe σ own fun _ h => h], ?_⟩
    refine ⟨addL L Dd, ρ', h3a, en1', hr3, er1, ?_⟩
    obtain ⟨k, h4, f3, f4⟩ := bind_okv f2
    rw [f3]
    intro ρ4 H4 b hr4 s4 eb
    cases (show k = b from eb)
    have fx4 : ∀ a, L a → H4 a = H1 a := fun a l => (s4.fix a (.inl l)).trans (fx3 a l)
    have eD4 : H4 Dd = some (.lst vs) := (s4.fix Dd (.inr rfl)).trans eD3
    have rs4 := RDs.gr s4.gr _ _ rs3
    have sw4 := sw3.then_ s4
    cases k with
    | false =>
      cases f4
      cases e5
      exact ⟨ρ4, _, acc, vs, _, hr4, sw4, fx4, eD4, rs4, by omega, rfl, e4⟩
    | true =>
      refine ⟨addL L Dd, ρ4, h4, en1', hr4, er1.step s4, ?_⟩
      obtain ⟨w, h5, g1, g2⟩ := bind_okv f4
      rw [g1]
      intro ρ5 H5 u hr5 s5 rw5
      have eD5 : H5 Dd = some (.lst vs) := (s5.fix Dd (.inr rfl)).trans eD4
      have fx5 : ∀ a, L a → H5 a = H1 a := fun a l => (s5.fix a (.inl l)).trans (fx4 a l)
      have rs5 := RDs.gr s5.gr _ _ rs4
      have sw5 := sw4.then_ s5
      cases w with
      | r n => cases g2
      | k _ kvs => cases g2
      | d w =>
        cases g2
        cases e5
        obtain ⟨hr6, g6⟩ := hr5.updL (D := Dd) (.inr rfl) (.lst (vs ++ [u]))
        refine ⟨vs, eD5, by rw [← rs5.length]; omega, ρ5, h3, acc ++ [w], vs ++ [u], ys3, hr6, ⟨fun a o e n => let ⟨e1, n1⟩ := sw5.gr a o e n; g6 a o e1 n1, sw5.pre⟩, fun a l => ?_, upd_same, (RDs.gr g6 _ _ rs5).append (.cons (RD.gr g6 _ _ rw5) .nil), by rw [List.length_append, List.length_cons, List.length_nil]; omega, by rw [List.append_assoc]; rfl, e4⟩
        rw [upd_ne (neD a l)]; exact fx5 a l
  · have ei : i = xs.length := by omega
    subst ei
    rw [List.drop_length] at eC'
    obtain ⟨u, h2, e6, e7⟩ := bind_okv (show M.bind (same dep) (fun _ => M.pure []) h' = _ from eC')
    obtain ⟨d', rfl⟩ := same_ok e6
    cases e7
    have stop := (it (addL L Dd) ρ' _ H2 hr' s' d').2
    obtain ⟨hr3, g3⟩ := hr'.unguard nLD
    refine .inl ⟨stop, ?_⟩
    have eH := upd_without eD
    obtain ⟨hr4, s4⟩ := hr3.new (o := .lst vs) without_same
    rw [eH] at hr4 s4
    have st : Stp L ρ1 h1 H1 ρ' _ (without H2 Dd) := ⟨fun a o e n => let ⟨e1, n1⟩ := s'.gr a o e n; g3 a o e1 n1, fun a l => by rw [without_ne (neD a l)]; exact fx a l, s'.pre⟩
    refine o1 ρ' H2 _ hr4 (st.trans s4) ⟨Dd, vs, without H2 Dd, rfl, eH.symm, without_same, hr3, s1.trans st, ?_, ?_⟩
    · rw [List.append_nil]; exact RDs.gr g3 _ _ rs
    · rw [List.append_nil]; omega
end Jr

set_option Elab.async false
set_option linter.all false
set_option maxRecDepth 100000
set_option maxHeartbeats 2000000
namespace Jr
open PySem PySem.Spec PyProof.Rows L2
theorem compL_exc {dep : Option (Nat × Cell)} {f : D → M (Option D)} {xs : List D} {h h' : Hh} {c : Nat} (e : compL dep f xs h = some (.exc c, h')) : False := by
  cases xs with
  | nil =>
    rcases bind_ok (show M.bind (same dep) (fun _ => M.pure []) h = _ from e) with ⟨_, _, _, q⟩ | ⟨c, q, _⟩
    · cases q
    · exact same_exc q
  | cons x xs => obtain ⟨_, _, _, _, _, _, q⟩ := compL_cons e; cases q
theorem comp2L_exc {dep : Option (Nat × Cell)} {f : D → M (List D)} : ∀ {xs : List D} {h h' : Hh} {c : Nat}, comp2L dep f xs h = some (.exc c, h') → False
  | [], h, h', c, e => by
    rcases bind_ok (show M.bind (same dep) (fun _ => M.pure []) h = _ from e) with ⟨_, _, _, q⟩ | ⟨c, q, _⟩
    · cases q
    · exact same_exc q
  | x :: xs, h, h', c, e => by
    unfold comp2L at e
    rcases bind_ok e with ⟨u, h1, e1, e2⟩ | ⟨c, e1, _⟩
    · rcases bind_ok e2 with ⟨y, h2, e3, e4⟩ | ⟨c, e3, _⟩
      · rcases bind_ok e4 with ⟨ys, h3, e6, e7⟩ | ⟨c, e6, _⟩
        · cases e7
        · exact comp2L_exc e6
      · obtain ⟨_, q, _⟩ := noExc_ok e3; cases q
    · exact same_exc e1
theorem comp2L_cons {dep : Option (Nat × Cell)} {f : D → M (List D)} {x : D} {xs : List D} {h h' : Hh} {zs : List D} (e : comp2L dep f (x :: xs) h = some (.ok zs, h')) :
    ∃ y h1 ys, depOK dep h ∧ f x h = some (.ok y, h1) ∧ comp2L dep f xs h1 = some (.ok ys, h') ∧ zs = y ++ ys := by
  unfold comp2L at e
  obtain ⟨u, h1, e1, e2⟩ := bind_okv e
  obtain ⟨d, rfl⟩ := same_ok e1
  obtain ⟨y, h2, e3, e4⟩ := bind_okv e2
  obtain ⟨y', q, e5⟩ := noExc_ok e3
  cases q
  obtain ⟨ys, h3, e6, e7⟩ := bind_okv e4
  cases e7
  exact ⟨y, h2, ys, d, e5, e6, rfl⟩
theorem comp2L_nil {dep : Option (Nat × Cell)} {f : D → M (List D)} {h h' : Hh} {zs : List D} (e : comp2L dep f [] h = some (.ok zs, h')) : depOK dep h ∧ zs = [] ∧ h' = h := by
  obtain ⟨u, h2, e6, e7⟩ := bind_okv (show M.bind (same dep) (fun _ => M.pure []) h = _ from e)
  obtain ⟨d', rfl⟩ := same_ok e6
  cases e7
  exact ⟨d', rfl, rfl⟩
theorem compL_nil {dep : Option (Nat × Cell)} {f : D → M (Option D)} {h h' : Hh} {zs : List D} (e : compL dep f [] h = some (.ok zs, h')) : depOK dep h ∧ zs = [] ∧ h' = h := by
  obtain ⟨u, h2, e6, e7⟩ := bind_okv (show M.bind (same dep) (fun _ => M.pure []) h = _ from e)
  obtain ⟨d', rfl⟩ := same_ok e6
  cases e7
  exact ⟨d', rfl, rfl⟩
theorem bind_at {α β : Type} {m : M α} {f : α → M β} {h h1 : Hh} {x : α} (e : m h = some (.ok x, h1)) : M.bind m f h = f x h1 := by
  unfold M.bind
  rw [e]
theorem bind_none {α β : Type} {m : M α} {f : α → M β} {h : Hh} (e : m h = none) : M.bind m f h = none := by
  unfold M.bind
  rw [e]
/-- the state inside: a guarded list that grows -/
def Mid (K : PySem.W.Frag) (L : Addr → Prop) (ρ1 : List Addr) (h1 : Hh) (H1 : Hp) (Dd : Addr) (ρ : List Addr) (h : Hh) (H : Hp) (acc : List D) : Prop := ∃ vs, HR K (addL L Dd) ρ h H ∧ Stw L ρ1 h1 H1 (addL L Dd) ρ h H ∧ (∀ a, L a → H a = H1 a) ∧ H Dd = some (.lst vs) ∧ RDs (Pr (addL L Dd) ρ h) H acc vs
section
variable {K : PySem.W.Frag} {L : Addr → Prop} {ρ1 : List Addr} {h1 : Hh} {H1 : Hp} {Dd : Addr} {ρ ρ' : List Addr} {h h' : Hh} {H H' : Hp} {acc : List D}
theorem Mid.step (m : Mid K L ρ1 h1 H1 Dd ρ h H acc) (hr : HR K (addL L Dd) ρ' h' H') (s : Stp (addL L Dd) ρ h H ρ' h' H') : Mid K L ρ1 h1 H1 Dd ρ' h' H' acc := by
  obtain ⟨vs, _, sw, fx, eD, rs⟩ := m
  exact ⟨vs, hr, sw.then_ s, fun a l => (s.fix a (.inl l)).trans (fx a l), (s.fix Dd (.inr rfl)).trans eD, RDs.gr s.gr _ _ rs⟩
theorem Mid.push (nLD : ¬ L Dd) (m : Mid K L ρ1 h1 H1 Dd ρ h H acc) {w : D} {u : V} (r : RD (Pr (addL L Dd) ρ h) H w u) : ∃ vs, H Dd = some (.lst vs) ∧ vs.length = acc.length ∧ Gr (Pr (addL L Dd) ρ h) H (Pr (addL L Dd) ρ h) (upd H Dd (.lst (vs ++ [u]))) ∧ Mid K L ρ1 h1 H1 Dd ρ h (upd H Dd (.lst (vs ++ [u]))) (acc ++ [w]) := by
  obtain ⟨vs, hr, sw, fx, eD, rs⟩ := m
  obtain ⟨hr6, g6⟩ := hr.updL (D := Dd) (.inr rfl) (.lst (vs ++ [u]))
  refine ⟨vs, eD, rs.length.symm, g6, vs ++ [u], hr6, ⟨fun a o e n => let ⟨e1, n1⟩ := sw.gr a o e n; g6 a o e1 n1, sw.pre⟩, fun a l => ?_, upd_same, (RDs.gr g6 _ _ rs).append (.cons (RD.gr g6 _ _ r) .nil)⟩
  rw [upd_ne (fun z => nLD (by rw [← z]; exact l))]
  exact fx a l
end
theorem t_lc2 {K : PySem.W.Frag} {C : Nat → Option Value} {W : WX} {t t1 : Tg} {own own1 : List Nat} {evi evi1 : Env → M (Option (Nat × Cell) × List D)} {cnd : Env → M Bool} {elt : Env → M Vl} {b b1 : Bool} (hb : b = true → isTp t = true) (hb1 : b1 = true → isTp t1 = true)
    (ht : tgIn t own = true) (ht1 : tgIn t1 own1 = true) : ∀ σ H Q,
    tF C (fun en => M.bind (M.bind (evi en) fun p => comp2L p.1 (turn2M t own en fun en1 => M.bind (evi1 en1) fun q => compL q.1 (turnM t1 own1 en1 cnd elt) q.2) p.2) fun zs => if zs.length ≤ sizeLine then M.pure zs else Jr.fail) K W σ H Q →
      tLc2 (tI b C evi K W) (gOf K t) tYes (tI b1 C evi1 K W0) (gOf K t1) (tT C cnd K W0) (tE C elt K W0) own own1 σ H Q := fun σ H Q ⟨L, ρ, h, en, hr, er, o⟩ => by
  refine ⟨L, ρ, h, en, hr, er, (Out.split (rel := relI b K L) (Out.bb (γ := Unit) o)).mono fun J H1 ⟨ρ1, h1, p, hr1, s1, ⟨it, dp, hz⟩, o1⟩ => ?_⟩
  obtain ⟨dep, xs⟩ := p
  dsimp only at it dp hz o1
  intro Dd nD
  obtain ⟨ys, hE, eC⟩ : ∃ ys hE, comp2L dep (turn2M t own en fun en1 => M.bind (evi1 en1) fun q => compL q.1 (turnM t1 own1 en1 cnd elt) q.2) xs h1 = some (.ok ys, hE) := by
    cases e : comp2L dep (turn2M t own en fun en1 => M.bind (evi1 en1) fun q => compL q.1 (turnM t1 own1 en1 cnd elt) q.2) xs h1 with
    | none => rw [bind_none e] at o1; exact False.elim o1
    | some q =>
      obtain ⟨r, hE⟩ := q
      cases r with
      | ok ys => exact ⟨ys, hE, rfl⟩
      | exc c => exact (comp2L_exc e).elim
  rw [bind_at eC] at o1
  have o2 := o1
  have zl : ys.length ≤ sizeLine := by
    rcases Nat.lt_or_ge sizeLine ys.length with q | q
    · rw [if_neg (by omega)] at o2; exact False.elim o2
    · exact q
  rw [if_pos zl] at o2
  have o3 := o2
  obtain ⟨hr2, s2⟩ := hr1.guard nD []
  have nLD : ¬ L Dd := fun z => hr1.ltr Dd z nD
  have neD : ∀ a, L a → a ≠ Dd := fun a l z => nLD (by rw [← z]; exact l)
  refine ⟨fun i m H => m = xs.length - i ∧ i ≤ xs.length ∧ ∃ ρ' h' acc ys2, Mid K L ρ1 h1 H1 Dd ρ' h' H acc ∧ ys = acc ++ ys2 ∧ comp2L dep (turn2M t own en fun en1 => M.bind (evi1 en1) fun q => compL q.1 (turnM t1 own1 en1 cnd elt) q.2) (xs.drop i) h' = some (.ok ys2, hE),
    ⟨xs.length, by simp, Nat.zero_le _, ρ1, h1, [], ys, ⟨[], hr2, s2, fun a l => upd_ne (neD a l), upd_same, .nil⟩, rfl, eC⟩, ?_⟩
  rintro i m H2 ⟨rfl, hi, ρ', h', acc, ys2, mid, rfl, eC'⟩
  obtain ⟨vs, hr', s', fx, eD, rs⟩ := id mid
  by_cases hlt : i < xs.length
  · have ex : xs.drop i = xs[i] :: xs.drop (i + 1) := (List.getElem_cons_drop hlt).symm
    rw [ex] at eC'
    obtain ⟨y, h3, ys3, d', e3, e4, rfl⟩ := comp2L_cons eC'
    obtain ⟨go, yl⟩ := (it (addL L Dd) ρ' h' H2 hr' s' d').1 i xs[i] (List.getElem?_eq_getElem hlt)
    refine .inr ⟨go, fun H' => ∃ ρ' h' acc' ys2, Mid K L ρ1 h1 H1 Dd ρ' h' H' acc' ∧ acc ++ (y ++ ys3) = acc' ++ ys2 ∧ comp2L dep (turn2M t own en fun en1 => M.bind (evi1 en1) fun q => compL q.1 (turnM t1 own1 en1 cnd elt) q.2) (xs.drop (i + 1)) h' = some (.ok ys2, hE),
      fun H' q => ⟨xs.length - (i + 1), by omega, rfl, hlt, q⟩, fun v H' yv => ?_⟩
    obtain ⟨hr3, s3, rv⟩ := yl v H' yv
    have er' : ER (Pr (addL L Dd) ρ' h') ρ' H' en σ := (ER.stw s' (ER.step s1 er)).step s3
    have mid3 := mid.step hr3 s3
    unfold turn2M at e3
    obtain ⟨en1, h3a, f1, f2⟩ := bind_okv e3
    obtain ⟨en1', ea, rfl, rfl⟩ : ∃ en1', asgT t (.d xs[i]) (Jr.wipe en own) = some en1' ∧ en1' = en1 ∧ h3a = h' := by
      cases ea : asgT t (.d xs[i]) (Jr.wipe en own) with
      | none => rw [ea] at f1; cases f1
      | some q => rw [ea] at f1; cases f1; exact ⟨_, rfl, rfl, rfl⟩
    refine g_okI hb ea rv (er'.wipe own) fun σ' er1 hw => ⟨by rw [hw own ht, wipe_wipe σ own fun _ h => h], ?_⟩
    unfold tYes
    dsimp only
    rw [if_pos rfl]
    obtain ⟨⟨dep1, xs1⟩, h4, f3, f4⟩ := bind_okv f2
    refine ⟨addL L Dd, ρ', h3a, en1', hr3, er1, ?_⟩
    rw [f3]
    intro ρ4 H4 J1 hr4 s4 ⟨it1, dp1, hz1⟩
    dsimp only at it1 dp1 hz1 f4
    have mid4 := mid3.step hr4 s4
    have er4 := er1.step s4
    refine ⟨fun j k H => k = xs1.length - j ∧ j ≤ xs1.length ∧ ∃ ρ' h' a2 y2, Mid K L ρ1 h1 H1 Dd ρ' h' H (acc ++ a2) ∧ Stw (addL L Dd) ρ4 h4 H4 (addL L Dd) ρ' h' H ∧ y = a2 ++ y2 ∧ compL dep1 (turnM t1 own1 en1' cnd elt) (xs1.drop j) h' = some (.ok y2, h3),
      ⟨xs1.length, by simp, Nat.zero_le _, ρ4, h4, [], y, by rw [List.append_nil]; exact mid4, Stp.refl.w, rfl, f4⟩, ?_⟩
    rintro j k H5 ⟨rfl, hj, ρ5, h5, a2, y2, mid5, sw5, rfl, eC5⟩
    obtain ⟨vs5, hr5, _, _, eD5, rs5⟩ := id mid5
    by_cases hlt1 : j < xs1.length
    · have ex1 : xs1.drop j = xs1[j] :: xs1.drop (j + 1) := (List.getElem_cons_drop hlt1).symm
      rw [ex1] at eC5
      obtain ⟨y, h6, ys6, d6, g3, g4, g5⟩ := compL_cons eC5
      obtain ⟨go1, yl1⟩ := (it1 (addL L Dd) ρ5 h5 H5 hr5 sw5 d6).1 j xs1[j] (List.getElem?_eq_getElem hlt1)
      refine .inr ⟨go1, fun H' => ∃ ρ' h' a3 y3, Mid K L ρ1 h1 H1 Dd ρ' h' H' (acc ++ a3) ∧ Stw (addL L Dd) ρ4 h4 H4 (addL L Dd) ρ' h' H' ∧ a2 ++ y2 = a3 ++ y3 ∧ compL dep1 (turnM t1 own1 en1' cnd elt) (xs1.drop (j + 1)) h' = some (.ok y3, h3),
        fun H' q => ⟨xs1.length - (j + 1), by omega, rfl, hlt1, q⟩, fun v H' yv => ?_⟩
      obtain ⟨hr7, s7, rv7⟩ := yl1 v H' yv
      have er7 := (ER.stw sw5 er4).step s7
      have mid7 := mid5.step hr7 s7
      have sw7 := sw5.then_ s7
      unfold turnM at g3
      obtain ⟨en2, h7a, k1, k2⟩ := bind_okv g3
      obtain ⟨en2', ea2, rfl, rfl⟩ : ∃ en2', asgT t1 (.d xs1[j]) (Jr.wipe en1' own1) = some en2' ∧ en2' = en2 ∧ h7a = h5 := by
        cases ea : asgT t1 (.d xs1[j]) (Jr.wipe en1' own1) with
        | none => rw [ea] at k1; cases k1
        | some q => rw [ea] at k1; cases k1; exact ⟨_, rfl, rfl, rfl⟩
      refine g_okI hb1 ea2 rv7 (er7.wipe own1) fun σ8 er8 hw8 => ⟨by rw [hw8 own1 ht1, wipe_wipe σ' own1 fun _ h => h], ?_⟩
      refine ⟨addL L Dd, ρ5, h7a, en2', hr7, er8, ?_⟩
      obtain ⟨kk, h8, k3, k4⟩ := bind_okv k2
      rw [k3]
      intro ρ9 H9 bb hr9 s9 eb
      cases (show kk = bb from eb)
      have mid9 := mid7.step hr9 s9
      have sw9 := sw7.then_ s9
      cases kk with
      | false =>
        cases k4
        cases g5
        exact ⟨ρ9, _, a2, _, mid9, sw9, rfl, g4⟩
      | true =>
        refine ⟨addL L Dd, ρ9, h8, en2', hr9, er8.step s9, ?_⟩
        obtain ⟨w, h10, m1, m2⟩ := bind_okv k4
        rw [m1]
        intro ρ11 H11 u hr11 s11 rw11
        have mid11 := mid9.step hr11 s11
        have sw11 := sw9.then_ s11
        cases w with
        | r n => cases m2
        | k _ kvs => cases m2
        | d w =>
          cases m2
          cases g5
          obtain ⟨vs12, e12, l12, g12, mid12⟩ := mid11.push nLD (show RD _ _ w u from rw11)
          refine ⟨vs12, e12, ?_, ρ11, h6, a2 ++ [w], ys6, by rw [← List.append_assoc]; exact mid12, ⟨fun a o e n => let ⟨e1, n1⟩ := sw11.gr a o e n; g12 a o e1 n1, sw11.pre⟩, by rw [List.append_assoc]; rfl, g4⟩
          rw [l12]
          simp only [List.length_append, List.length_cons] at zl ⊢
          omega
    · have ej : j = xs1.length := by omega
      subst ej
      rw [List.drop_length] at eC5
      obtain ⟨d6, rfl, rfl⟩ := compL_nil eC5
      refine .inl ⟨(it1 (addL L Dd) ρ5 _ H5 hr5 sw5 d6).2, ρ5, _, acc ++ a2, ys3, mid5, ?_, e4⟩
      rw [List.append_nil, List.append_assoc]
  · have ei : i = xs.length := by omega
    subst ei
    rw [List.drop_length] at eC'
    obtain ⟨d', rfl, rfl⟩ := comp2L_nil eC'
    have stop := (it (addL L Dd) ρ' _ H2 hr' s' d').2
    obtain ⟨hr3, g3⟩ := hr'.unguard nLD
    refine .inl ⟨stop, ?_⟩
    have eH := upd_without eD
    obtain ⟨hr4, s4⟩ := hr3.new (o := .lst vs) without_same
    rw [eH] at hr4 s4
    have st : Stp L ρ1 h1 H1 ρ' _ (without H2 Dd) := ⟨fun a o e n => let ⟨e1, n1⟩ := s'.gr a o e n; g3 a o e1 n1, fun a l => by rw [without_ne (neD a l)]; exact fx a l, s'.pre⟩
    rw [List.append_nil] at o3 zl
    exact o3 ρ' H2 _ hr4 (st.trans s4) ⟨Dd, vs, without H2 Dd, rfl, eH.symm, without_same, hr3, s1.trans st, RDs.gr g3 _ _ rs, zl⟩
end Jr

set_option Elab.async false
set_option linter.all false
set_option maxRecDepth 100000
set_option maxHeartbeats 1000000
namespace Jr
open PySem PySem.Spec PyProof.Rows L2
/-! ### comprehensions as values, as a statement -/
section
variable {X : Cx} {C : Nat → Option Value} {W : WX}
theorem t_if1 {K : PySem.W.Frag} {evt : Env → M Bool} : ∀ σ H Q, tT C (fun en => tt (pD (.bool true))) K W0 σ H Q → tYes σ H Q := fun σ H Q ⟨L, ρ, h, en, hr, er, o⟩ => o ρ H true hr .refl rfl
structure PTt (X : Cx) (ifs : List Expr) (t : TT) : Prop where
  p : PTs X ifs t
theorem pts_imp {ifs : List Expr} {t t' : TT} (p : PTs X ifs t) (i : ∀ σ H Q, t' σ H Q → t σ H Q) : PTs X ifs t' := ⟨fun pins s σ H Q I h => p.run pins s σ H Q I (i σ H Q h)⟩
theorem f_cmp {elt tg iter : Expr} {ifs : List Expr} {scope : Scope} {own : List (Str × Nat)} {pos : Pos} {t : Tg} {evi : Env → M (Option (Nat × Cell) × List D)} {cnd : Env → M Bool} {ev : Env → M Vl} {bb : Bool}
    (hc : X.calm = true) (hN : X.N.Nodup) (hi : PI X tg iter (tI bb C evi X.K W)) (ok : BlkOk X.N X.env.scope scope own) (hbb : bb = true → isTp t = true) (ht : tgIn t (own.map (·.2)) = true)
    (hg : ∀ (s : Shared) (H : Hp) (Cc : Addr) (cl : List (Str × Addr)) (fp : List Addr), PG (X.blk s H scope (compEnvC scope cl Cc X.env) fp) tg (gOf X.K t))
    (hf : ∀ (s : Shared) (H : Hp) (Cc : Addr) (cl : List (Str × Addr)) (fp : List Addr), PTs (X.blk s H scope (compEnvC scope cl Cc X.env) fp) ifs (tT C cnd X.K W0))
    (he : ∀ (s : Shared) (H : Hp) (Cc : Addr) (cl : List (Str × Addr)) (fp : List Addr), PE (X.blk s H scope (compEnvC scope cl Cc X.env) fp) elt (tE C ev X.K W0)) (hs : ∀ x, foldedSetIterable iter X.env x = pure x) :
    PE X (.ListComp elt [⟨tg, iter, ifs, 0⟩] scope pos) (tF C (fun en => M.bind (evi en) fun p => compL p.1 (turnM t (own.map (·.2)) en cnd ev) p.2) X.K W) :=
  pei (pe_lc hc hN hi ok hg hf he hs) (t_lc hbb ht)
theorem f_cmp2 {elt tg iter tg1 iter1 : Expr} {ifs1 : List Expr} {scope : Scope} {own : List (Str × Nat)} {own1 : List Nat} {pos : Pos} {t t1 : Tg} {evi evi1 : Env → M (Option (Nat × Cell) × List D)} {cnd : Env → M Bool} {ev : Env → M Vl} {bb b1 : Bool}
    (hc : X.calm = true) (hN : X.N.Nodup) (hi : PI X tg iter (tI bb C evi X.K W)) (ok : BlkOk X.N X.env.scope scope own) (hv : ∀ i ∈ own1, i ∈ own.map (·.2)) (hbb : bb = true → isTp t = true) (hb1 : b1 = true → isTp t1 = true) (ht : tgIn t (own.map (·.2)) = true) (ht1 : tgIn t1 own1 = true)
    (hg : ∀ (s : Shared) (H : Hp) (Cc : Addr) (cl : List (Str × Addr)) (fp : List Addr), PG (X.blk s H scope (compEnvC scope cl Cc X.env) fp) tg (gOf X.K t))
    (hi1 : ∀ (s : Shared) (H : Hp) (Cc : Addr) (cl : List (Str × Addr)) (fp : List Addr), PI (X.blk s H scope (compEnvC scope cl Cc X.env) fp) tg1 iter1 (tI b1 C evi1 X.K W0))
    (hg1 : ∀ (s : Shared) (H : Hp) (Cc : Addr) (cl : List (Str × Addr)) (fp : List Addr), PG (X.blk s H scope (compEnvC scope cl Cc X.env) fp) tg1 (gOf X.K t1))
    (hf : ∀ (s : Shared) (H : Hp) (Cc : Addr) (cl : List (Str × Addr)) (fp : List Addr), PTs (X.blk s H scope (compEnvC scope cl Cc X.env) fp) ifs1 (tT C cnd X.K W0))
    (he : ∀ (s : Shared) (H : Hp) (Cc : Addr) (cl : List (Str × Addr)) (fp : List Addr), PE (X.blk s H scope (compEnvC scope cl Cc X.env) fp) elt (tE C ev X.K W0)) (hs : ∀ x, foldedSetIterable iter X.env x = pure x) (hs1 : ∀ env x, foldedSetIterable iter1 env x = pure x) :
    PE X (.ListComp elt [⟨tg, iter, [], 0⟩, ⟨tg1, iter1, ifs1, 0⟩] scope pos) (tF C (fun en => M.bind (M.bind (evi en) fun p => comp2L p.1 (turn2M t (own.map (·.2)) en fun en1 => M.bind (evi1 en1) fun q => compL q.1 (turnM t1 own1 en1 cnd ev) q.2) p.2) fun zs => if zs.length ≤ sizeLine then M.pure zs else Jr.fail) X.K W) :=
  pei (pe_lc2 hc hN hi ok hv hg (fun _ _ _ _ _ => pts_nil) hi1 hg1 hf he hs hs1) (t_lc2 hbb hb1 ht ht1)
end
/-! ### statements -/
def OutS (K : PySem.W.Frag) (C : Nat → Option Value) (L : Addr → Prop) (ρ : List Addr) (h : Hh) (H : Hp) (W : WX) (r : Option (R SO × Hh)) (D : Ends) : Prop :=
  match r with
  | none => False
  | some (.ok (.next en), h') => ∀ ρ' H' σ', HR K L ρ' h' H' → Stp L ρ h H ρ' h' H' → ER (Pr L ρ' h') ρ' H' en σ' → D.nx σ' H'
  | some (.ok (.ret x), h') => ∀ ρ' H' v, HR K L ρ' h' H' → Stp L ρ h H ρ' h' H' → RV (Pr L ρ' h') ρ' H' x v → D.rt v H'
  | some (.exc c, h') => ∀ cv, C c = some cv → ∀ ρ' H' σ' d, HR K L ρ' h' H' → Stp L ρ h H ρ' h' H' → W cv d σ' H'
def tS (C : Nat → Option Value) (ev : Env → M SO) (K : PySem.W.Frag) (W : WX) : TS := fun D σ H => ∃ L ρ h en, HR K L ρ h H ∧ ER (Pr L ρ h) ρ H en σ ∧ OutS K C L ρ h H W (ev en h) D
theorem psi {X : Cx} {st : Stmt} {t t' : TS} (p : PS X st t) (i : ∀ D σ H, t' D σ H → t D σ H) : PS X st t' := ⟨fun pins s σ H D I h => p.run pins s σ H D I (i D σ H h)⟩
theorem pssi {X : Cx} {st : List Stmt} {t t' : TS} (p : PSs X st t) (i : ∀ D σ H, t' D σ H → t D σ H) : PSs X st t' := ⟨fun pins s σ H D I h => p.run pins s σ H D I (i D σ H h)⟩
section
variable {α τ : Type} {K : PySem.W.Frag} {C : Nat → Option Value} {L : Addr → Prop} {ρ ρ1 : List Addr} {h h1 : Hh} {H H1 : Hp} {W : WX}
theorem OutS.rebase {r : Option (R SO × Hh)} {D : Ends} (s : Stp L ρ h H ρ1 h1 H1) (o : OutS K C L ρ h H W r D) : OutS K C L ρ1 h1 H1 W r D := by
  match r, o with
  | some (.ok (.next en), h'), o => exact fun ρ' H' v a b c => o ρ' H' v a (s.trans b) c
  | some (.ok (.ret x), h'), o => exact fun ρ' H' v a b c => o ρ' H' v a (s.trans b) c
  | some (.exc c, h'), o => exact fun cv hc ρ' H' σ' d a b => o cv hc ρ' H' σ' d a (s.trans b)
/-- a statement that begins with a value -/
theorem OutS.split {rel : List Addr → Hh → Hp → α → τ → Prop} {m : M α} {f : α → M SO} {D : Ends} (σ : L2.St) (o : OutS K C L ρ h H W (M.bind m f h) D) :
    Out K C L ρ h H rel (fun c d H' => W c d σ H') (m h) (fun v H1 => ∃ ρ1 h1 x, HR K L ρ1 h1 H1 ∧ Stp L ρ h H ρ1 h1 H1 ∧ rel ρ1 h1 H1 x v ∧ OutS K C L ρ1 h1 H1 W (f x h1) D) := by
  unfold M.bind at o
  cases e : m h with
  | none => rw [e] at o; exact o
  | some p =>
    obtain ⟨r, h'⟩ := p
    rw [e] at o
    cases r with
    | ok x => exact fun ρ' H' v a b c => ⟨ρ', h', x, a, b, c, o.rebase b⟩
    | exc c => exact fun cv hc ρ' H' d a b => o cv hc ρ' H' σ d a b
theorem OutS.ofO {m : Option α} {f : α → M SO} {D : Ends} (o : OutS K C L ρ h H W (M.bind (Jr.ofO m) f h) D) : ∃ x, m = some x ∧ OutS K C L ρ h H W (f x h) D := by
  cases m with
  | none => exact False.elim o
  | some x => exact ⟨x, rfl, o⟩
theorem OutS.asD {x : Vl} {v : V} {f : D → M SO} {Dn : Ends} (rv : RV (Pr L ρ h) ρ H x v) (o : OutS K C L ρ h H W (M.bind (Jr.asD x) f h) Dn) :
    ∃ d, x = .d d ∧ RD (Pr L ρ h) H d v ∧ OutS K C L ρ h H W (f d h) Dn := by
  cases x with
  | d x => exact ⟨x, rfl, rv, o⟩
  | r n => exact False.elim o
  | k _ n => exact False.elim o
end
section
variable {X : Cx} {C : Nat → Option Value} {W : WX} {a b c e : Expr} {eva evb evc ev : Env → M Vl} {pos : Pos}
/-- an assignment's reading -/
theorem t_asg {t : Tg} : ∀ D σ H, tS C (fun en => M.bind (ev en) fun v => M.bind (ofO (asgT t v en)) fun en' => M.pure (.next en')) X.K W D σ H → tAsg (tE C ev X.K W) (gOf X.K t) D σ H := fun D σ H ⟨L, ρ, h, en, hr, er, o⟩ => by
  refine ⟨L, ρ, h, en, hr, er, (OutS.split (rel := relV L) σ o).mono fun v H1 ⟨ρ1, h1, x, hr1, s1, rv1, o1⟩ => ?_⟩
  obtain ⟨en', ea, o2⟩ := OutS.ofO o1
  exact g_ok ea rv1 (er.step s1) fun σ' er' _ => o2 ρ1 H1 σ' hr1 .refl er'
theorem s_asg {tg : Expr} {t : Tg} (he : PE X e (tE C ev X.K W)) (hg : PG X tg (gOf X.K t)) (hs : swapsWithSole [tg] e pos.line X.env = pure false) (hw : swappedStores [tg] e X.env = pure none) (h1 : (assignEach [tg] X.env).map (·.2) = [assign tg X.env]) :
    PS X (.Assign [tg] e pos) (tS C (fun en => M.bind (ev en) fun v => M.bind (ofO (asgT t v en)) fun en' => M.pure (.next en')) X.K W) :=
  psi (ps_asg he hg hs hw h1) t_asg
/-- name = [..], the list or a cell -/
theorem s_setLc {mk : List D → M Vl} {i : Nat} {y : Str} {py : Pos} {elt tg iter : Expr} {ifs : List Expr} {scope : Scope} {own : List (Str × Nat)} {pos spos : Pos} {t : Tg} {evi : Env → M (Option (Nat × Cell) × List D)} {cnd : Env → M Bool} {ev : Env → M Vl} {bb : Bool}
    (hc : X.calm = true) (hN : X.N.Nodup) (hy : X.N[i]? = some y) (hyl : X.env.scope.names.lookup y = some .local) (hsw : swapsWith (.ListComp elt [⟨tg, iter, ifs, 0⟩] scope pos) (some (.Name y py)) spos.line X.env = pure true)
    (hi : PI X tg iter (tI bb C evi X.K W)) (ok : BlkOk X.N X.env.scope scope own) (hbb : bb = true → isTp t = true) (ht : tgIn t (own.map (·.2)) = true)
    (hg : ∀ (s : Shared) (H : Hp) (Cc : Addr) (cl : List (Str × Addr)) (fp : List Addr), PG (X.blk s H scope (compEnvC scope cl Cc X.env) fp) tg (gOf X.K t))
    (hf : ∀ (s : Shared) (H : Hp) (Cc : Addr) (cl : List (Str × Addr)) (fp : List Addr), PTs (X.blk s H scope (compEnvC scope cl Cc X.env) fp) ifs (tT C cnd X.K W0))
    (he : ∀ (s : Shared) (H : Hp) (Cc : Addr) (cl : List (Str × Addr)) (fp : List Addr), PE (X.blk s H scope (compEnvC scope cl Cc X.env) fp) elt (tE C ev X.K W0)) (hs : ∀ x, foldedSetIterable iter X.env x = pure x)
    (hmk : mk = (fun xs => pD (.list xs)) ∨ mk = fun xs => newC (.lst xs)) :
    PS X (.Assign [.Name y py] (.ListComp elt [⟨tg, iter, ifs, 0⟩] scope pos) spos) (tS C (fun en => M.bind (M.bind (M.bind (evi en) fun p => compL p.1 (turnM t (own.map (·.2)) en cnd ev) p.2) mk) fun v => M.bind (ofO (asgT (.nm i) v en)) fun en' => M.pure (.next en')) X.K W) := by
  refine psi (ps_setLc hc hN hy hyl hsw hi ok hg hf he hs) fun D σ H q => ?_
  have q1 := t_asg (X := X) (t := .nm i) D σ H q
  -- the value's reading is the comprehension's
  have key : ∀ Q, tE C (fun en => M.bind (M.bind (evi en) fun p => compL p.1 (turnM t (own.map (·.2)) en cnd ev) p.2) mk) X.K W σ H Q → tF C (fun en => M.bind (evi en) fun p => compL p.1 (turnM t (own.map (·.2)) en cnd ev) p.2) X.K W σ H Q := fun Q q => by
    rcases hmk with rfl | rfl
    · exact t_new σ H Q q
    · exact t_box σ H Q q
  exact t_lc hbb ht σ H _ (key _ q1)
where
  t_new : ∀ {ev : Env → M (List D)} σ H Q, tE C (fun en => M.bind (ev en) fun xs => pD (.list xs)) X.K W σ H Q → tF C ev X.K W σ H Q := fun {ev} σ H Q ⟨L, ρ, h, en, hr, er, o⟩ => ⟨L, ρ, h, en, hr, er, by
    unfold M.bind at o
    dsimp only at o
    cases e : ev en h with
    | none => rw [e] at o; exact o
    | some q =>
      obtain ⟨r, h1⟩ := q
      rw [e] at o
      cases r with
      | exc c => exact o
      | ok xs =>
        intro ρ' H' v hr' s' ⟨p, vs, H1, ev, eH, np, hr1, s1, rs, z⟩
        subst ev eH
        obtain ⟨hr2, s2⟩ := hr1.new (o := .lst vs) np
        exact o ρ' _ _ hr' s' (RD.lst (hr1.np np) upd_same z (RDs.gr s2.gr _ _ rs))⟩
  t_box : ∀ {ev : Env → M (List D)} σ H Q, tE C (fun en => M.bind (ev en) fun xs => newC (.lst xs)) X.K W σ H Q → tF C ev X.K W σ H Q := fun {ev} σ H Q ⟨L, ρ, h, en, hr, er, o⟩ => ⟨L, ρ, h, en, hr, er, by
    unfold M.bind at o
    dsimp only at o
    cases e : ev en h with
    | none => rw [e] at o; exact o
    | some q =>
      obtain ⟨r, h1⟩ := q
      rw [e] at o
      cases r with
      | exc c => exact o
      | ok xs =>
        intro ρ' H' v hr' s' ⟨p, vs, H1, ev, eH, np, hr1, s1, rs, z⟩
        subst ev eH
        obtain ⟨hr2, s2⟩ := hr1.cellNew np z rs
        refine o (ρ' ++ [p]) _ _ hr2 (s1.trans s2) ⟨p, ?_, rfl⟩
        rw [← hr1.len, List.getElem?_append_right (Nat.le_refl _), Nat.sub_self]
        rfl⟩
theorem s_ex (he : PE X e (tE C ev X.K W)) (hs : swapsWith e none pos.line X.env = pure false) : PS X (.Expr e pos) (tS C (fun en => M.bind (ev en) fun _ => M.pure (.next en)) X.K W) :=
  psi (ps_expr he hs) fun D σ H ⟨L, ρ, h, en, hr, er, o⟩ => ⟨L, ρ, h, en, hr, er, (OutS.split (rel := relV L) σ o).mono fun v H1 ⟨ρ1, h1, x, hr1, s1, rv1, o1⟩ => o1 ρ1 H1 σ hr1 .refl (er.step s1)⟩
theorem s_ret (he : PE X e (tE C ev X.K W)) : PS X (.Return (some e) pos) (tS C (fun en => M.bind (ev en) fun v => M.pure (.ret v)) X.K W) :=
  psi (ps_ret he) fun D σ H ⟨L, ρ, h, en, hr, er, o⟩ => ⟨L, ρ, h, en, hr, er, (OutS.split (rel := relV L) σ o).mono fun v H1 ⟨ρ1, h1, x, hr1, s1, rv1, o1⟩ => o1 ρ1 H1 v hr1 .refl rv1⟩
theorem s_ite {evt : Env → M Bool} {ss tt : List Stmt} {eu evv : Env → M SO} (hc : PT X c (tT C evt X.K W)) (hs : PSs X ss (tS C eu X.K W)) (ht : PSs X tt (tS C evv X.K W)) :
    PS X (.If c ss tt pos) (tS C (fun en => M.bind (evt en) fun k => if k then eu en else evv en) X.K W) :=
  psi (ps_if hc hs ht) fun D σ H ⟨L, ρ, h, en, hr, er, o⟩ => ⟨L, ρ, h, en, hr, er, (OutS.split (rel := relB) σ o).mono fun v H1 ⟨ρ1, h1, x, hr1, s1, rv1, o1⟩ => by
    cases rv1
    cases v with
    | true => exact ⟨L, ρ1, h1, en, hr1, er.step s1, o1⟩
    | false => exact ⟨L, ρ1, h1, en, hr1, er.step s1, o1⟩⟩
theorem ss_nil : PSs X [] (tS C (fun en => M.pure (.next en)) X.K W) := pssi pss_nil fun D σ H ⟨L, ρ, h, en, hr, er, o⟩ => o ρ H σ hr .refl er
theorem t_seq {eu evv : Env → M SO} : ∀ D σ H, tS C (fun en => M.bind (eu en) fun
    | .next en' => evv en'
    | .ret v => M.pure (.ret v)) X.K W D σ H → tSeq (tS C eu X.K W) (tS C evv X.K W) D σ H := fun D σ H ⟨L, ρ, h, en, hr, er, o⟩ => ⟨L, ρ, h, en, hr, er, by
  unfold M.bind at o
  dsimp only at o
  cases e : eu en h with
  | none => rw [e] at o; exact o
  | some p =>
    obtain ⟨r, h1⟩ := p
    rw [e] at o
    cases r with
    | exc c => exact o
    | ok x =>
      cases x with
      | next en' => exact fun ρ' H' σ' hr' s' er' => ⟨L, ρ', h1, en', hr', er', o.rebase s'⟩
      | ret v => exact o⟩
theorem s_setLc2 {mk : List D → M Vl} {i : Nat} {y : Str} {py : Pos} {elt tg iter tg1 iter1 : Expr} {ifs1 : List Expr} {scope : Scope} {own : List (Str × Nat)} {own1 : List Nat} {pos spos : Pos} {t t1 : Tg} {evi evi1 : Env → M (Option (Nat × Cell) × List D)} {cnd : Env → M Bool} {ev : Env → M Vl} {bb b1 : Bool}
    (hc : X.calm = true) (hN : X.N.Nodup) (hy : X.N[i]? = some y) (hyl : X.env.scope.names.lookup y = some .local) (hsw : swapsWith (.ListComp elt [⟨tg, iter, [], 0⟩, ⟨tg1, iter1, ifs1, 0⟩] scope pos) (some (.Name y py)) spos.line X.env = pure true)
    (hi : PI X tg iter (tI bb C evi X.K W)) (ok : BlkOk X.N X.env.scope scope own) (hv : ∀ i ∈ own1, i ∈ own.map (·.2)) (hbb : bb = true → isTp t = true) (hb1 : b1 = true → isTp t1 = true) (ht : tgIn t (own.map (·.2)) = true) (ht1 : tgIn t1 own1 = true)
    (hg : ∀ (s : Shared) (H : Hp) (Cc : Addr) (cl : List (Str × Addr)) (fp : List Addr), PG (X.blk s H scope (compEnvC scope cl Cc X.env) fp) tg (gOf X.K t))
    (hi1 : ∀ (s : Shared) (H : Hp) (Cc : Addr) (cl : List (Str × Addr)) (fp : List Addr), PI (X.blk s H scope (compEnvC scope cl Cc X.env) fp) tg1 iter1 (tI b1 C evi1 X.K W0))
    (hg1 : ∀ (s : Shared) (H : Hp) (Cc : Addr) (cl : List (Str × Addr)) (fp : List Addr), PG (X.blk s H scope (compEnvC scope cl Cc X.env) fp) tg1 (gOf X.K t1))
    (hf : ∀ (s : Shared) (H : Hp) (Cc : Addr) (cl : List (Str × Addr)) (fp : List Addr), PTs (X.blk s H scope (compEnvC scope cl Cc X.env) fp) ifs1 (tT C cnd X.K W0))
    (he : ∀ (s : Shared) (H : Hp) (Cc : Addr) (cl : List (Str × Addr)) (fp : List Addr), PE (X.blk s H scope (compEnvC scope cl Cc X.env) fp) elt (tE C ev X.K W0)) (hs : ∀ x, foldedSetIterable iter X.env x = pure x) (hs1 : ∀ env x, foldedSetIterable iter1 env x = pure x)
    (hmk : mk = (fun xs => pD (.list xs)) ∨ mk = fun xs => newC (.lst xs)) :
    PS X (.Assign [.Name y py] (.ListComp elt [⟨tg, iter, [], 0⟩, ⟨tg1, iter1, ifs1, 0⟩] scope pos) spos) (tS C (fun en => M.bind (M.bind (M.bind (M.bind (evi en) fun p => comp2L p.1 (turn2M t (own.map (·.2)) en fun en1 => M.bind (evi1 en1) fun q => compL q.1 (turnM t1 own1 en1 cnd ev) q.2) p.2) fun zs => if zs.length ≤ sizeLine then M.pure zs else Jr.fail) mk) fun v => M.bind (ofO (asgT (.nm i) v en)) fun en' => M.pure (.next en')) X.K W) := by
  refine psi (ps_setLc2 hc hN hy hyl hsw hi ok hv hg (fun _ _ _ _ _ => pts_nil) hi1 hg1 hf he hs hs1) fun D σ H q => ?_
  have q1 := t_asg (X := X) (t := .nm i) D σ H q
  have key : ∀ (ev0 : Env → M (List Jr.D)) Q, tE C (fun en => M.bind (ev0 en) mk) X.K W σ H Q → tF C ev0 X.K W σ H Q := fun ev0 Q q => by
    rcases hmk with rfl | rfl
    · exact s_setLc.t_new σ H Q q
    · exact s_setLc.t_box σ H Q q
  exact t_lc2 hbb hb1 ht ht1 σ H _ (key _ _ q1)
theorem ss_cons {st : Stmt} {rest : List Stmt} {eu evv : Env → M SO} (h1 : PS X st (tS C eu X.K W)) (h2 : PSs X rest (tS C evv X.K W)) : PSs X (st :: rest) (tS C (fun en => M.bind (eu en) fun
    | .next en' => evv en'
    | .ret v => M.pure (.ret v)) X.K W) := pssi (pss_cons h1 h2) t_seq
/-! ### loops -/
theorem forL_cons {dep : Option (Nat × Cell)} {f : D → Env → M SO} {x : D} {xs : List D} {en : Env} : forL dep f (x :: xs) en = M.bind (same dep) fun _ => M.bind (f x en) fun
    | .next en' => forL dep f xs en'
    | .ret v => M.pure (.ret v) := rfl
theorem s_for {bb : Bool} {tg iter : Expr} {body : List Stmt} {t : Tg} {evi : Env → M (Option (Nat × Cell) × List D)} {evb : Env → M SO} (hp : PassesOwn (model X.prog X.w) X.A X.env X.xe) (hc : X.calm = true) (hi : PI X tg iter (tI bb C evi X.K W)) (hbb : bb = true → isTp t = true) (hg : PG X tg (gOf X.K t)) (hb : PSs X body (tS C evb X.K W))
    (hs : ∀ x, foldedSetIterable iter X.env x = pure x) :
    PS X (.For tg iter body [] pos) (tS C (fun en => M.bind (evi en) fun p => forL p.1 (fun x en => M.bind (ofO (asgT t (.d x) en)) fun en1 => evb en1) p.2 en) X.K W) := by
  refine psi (ps_for hp hc hi hg hb hs) fun D σ H ⟨L, ρ, h, en, hr, er, o⟩ => ?_
  refine ⟨L, ρ, h, en, hr, er, (OutS.split (rel := relI bb X.K L) σ o).mono fun J H1 ⟨ρ1, h1, p, hr1, s1, ⟨it, dp, hz⟩, o1⟩ => ?_⟩
  obtain ⟨dep, xs⟩ := p
  dsimp only at it dp hz o1
  refine ⟨fun i m σ' H' => m = xs.length - i ∧ i ≤ xs.length ∧ ∃ ρ' h' en', HR X.K L ρ' h' H' ∧ Stp L ρ1 h1 H1 ρ' h' H' ∧ ER (Pr L ρ' h') ρ' H' en' σ' ∧ OutS X.K C L ρ' h' H' W (forL dep (fun x en => M.bind (ofO (asgT t (.d x) en)) fun en1 => evb en1) (xs.drop i) en' h') D,
    ⟨xs.length, by simp, Nat.zero_le _, ρ1, h1, en, hr1, .refl, er.step s1, o1⟩, ?_⟩
  rintro i m σ' H2 ⟨rfl, hi, ρ', h', en', hr', s', er', o'⟩
  have dsame : ∀ {k : Unit → M SO}, OutS X.K C L ρ' h' H2 W (M.bind (same dep) k h') D → depOK dep h' ∧ OutS X.K C L ρ' h' H2 W (k () h') D := fun {k} o => by
    unfold M.bind at o
    cases e : same dep h' with
    | none => rw [e] at o; exact False.elim o
    | some q =>
      obtain ⟨r, h2⟩ := q
      cases r with
      | exc c => exact (same_exc e).elim
      | ok u =>
        obtain ⟨d, rfl⟩ := same_ok e
        rw [e] at o
        exact ⟨d, o⟩
  by_cases hlt : i < xs.length
  · have ex : xs.drop i = xs[i] :: xs.drop (i + 1) := (List.getElem_cons_drop hlt).symm
    rw [ex, forL_cons] at o'
    obtain ⟨d', o2⟩ := dsame o'
    obtain ⟨go, yl⟩ := (it L ρ' h' H2 hr' s'.w d').1 i xs[i] (List.getElem?_eq_getElem hlt)
    refine .inr ⟨go, fun σ'' H'' => ∃ ρ' h' en', HR X.K L ρ' h' H'' ∧ Stp L ρ1 h1 H1 ρ' h' H'' ∧ ER (Pr L ρ' h') ρ' H'' en' σ'' ∧ OutS X.K C L ρ' h' H'' W (forL dep (fun x en => M.bind (ofO (asgT t (.d x) en)) fun en1 => evb en1) (xs.drop (i + 1)) en' h') D,
      fun σ'' H'' q => ⟨xs.length - (i + 1), by omega, rfl, hlt, q⟩, fun v H' yv => ?_⟩
    obtain ⟨hr3, s3, rv⟩ := yl v H' yv
    have o3 := o2.rebase s3
    have o4 : OutS X.K C L ρ' h' H' W (M.bind (ofO (asgT t (.d xs[i]) en')) (fun en1 => M.bind (evb en1) fun
      | .next en' => forL dep (fun x en => M.bind (ofO (asgT t (.d x) en)) fun en1 => evb en1) (xs.drop (i + 1)) en'
      | .ret v => M.pure (.ret v)) h') D := by
      have e : ∀ (q : Option Env) (g : SO → M SO), M.bind (M.bind (ofO q) fun en1 => evb en1) g = M.bind (ofO q) fun en1 => M.bind (evb en1) g := fun q g => by
        cases q <;> rfl
      rw [← e]
      exact o3
    obtain ⟨en1, ea, o5⟩ := OutS.ofO o4
    refine g_okI hbb ea rv (er'.step s3) fun σ1 er1 _ => ⟨L, ρ', h', en1, hr3, er1, ?_⟩
    unfold M.bind at o5
    cases e : evb en1 h' with
    | none => rw [e] at o5; exact o5
    | some q =>
      obtain ⟨r, h4⟩ := q
      rw [e] at o5
      cases r with
      | exc c => exact o5
      | ok x =>
        cases x with
        | next en2 => exact fun ρ4 H4 σ4 hr4 s4 er4 => ⟨ρ4, h4, en2, hr4, (s'.trans s3).trans s4, er4, o5.rebase s4⟩
        | ret v => exact o5
  · have ei : i = xs.length := by omega
    subst ei
    rw [List.drop_length] at o'
    obtain ⟨d', o2⟩ := dsame o'
    exact .inl ⟨(it L ρ' h' H2 hr' s'.w d').2, o2 ρ' H2 σ' hr' .refl er'⟩
theorem s_whl {body : List Stmt} {evt : Env → M Bool} {evb : Env → M SO} {n : Nat} (hp : PassesOwn (model X.prog X.w) X.A X.env X.xe) (hc : PT X c (tT C evt X.K W)) (hb : PSs X body (tS C evb X.K W)) :
    PS X (.While c body [] pos) (tS C (fun en => whlL evt evb n en) X.K W) := by
  refine psi (ps_while hp hc hb) fun D σ H ⟨L, ρ, h, en, hr, er, o⟩ => ?_
  refine ⟨fun m σ' H' => ∃ L ρ' h' en', HR X.K L ρ' h' H' ∧ ER (Pr L ρ' h') ρ' H' en' σ' ∧ OutS X.K C L ρ' h' H' W (whlL evt evb m en' h') D, ⟨n, L, ρ, h, en, hr, er, o⟩, ?_⟩
  rintro m σ' H2 ⟨L, ρ', h', en', hr', er', o'⟩
  cases m with
  | zero => exact False.elim o'
  | succ m =>
    refine ⟨L, ρ', h', en', hr', er', (OutS.split (rel := relB) σ' (show OutS X.K C L ρ' h' H2 W (M.bind (evt en') _ h') D from o')).mono fun b H1 ⟨ρ1, h1, x, hr1, s1, rv1, o1⟩ => ?_⟩
    cases rv1
    cases b with
    | false => exact o1 ρ1 H1 σ' hr1 .refl (er'.step s1)
    | true =>
      refine ⟨fun σ'' H'' => ∃ L ρ' h' en', HR X.K L ρ' h' H'' ∧ ER (Pr L ρ' h') ρ' H'' en' σ'' ∧ OutS X.K C L ρ' h' H'' W (whlL evt evb m en' h') D, fun σ'' H'' q => ⟨m, Nat.lt_succ_self _, q⟩, L, ρ1, h1, en', hr1, er'.step s1, ?_⟩
      have o2 : OutS X.K C L ρ1 h1 H1 W (M.bind (evb en') _ h1) D := o1
      unfold M.bind at o2
      cases e : evb en' h1 with
      | none => rw [e] at o2; exact o2
      | some q =>
        obtain ⟨r, h4⟩ := q
        rw [e] at o2
        cases r with
        | exc c => exact o2
        | ok x =>
          cases x with
          | next en2 => exact fun ρ4 H4 σ4 hr4 s4 er4 => ⟨L, ρ4, h4, en2, hr4, er4, o2.rebase s4⟩
          | ret v => exact o2
end
end Jr

set_option Elab.async false
set_option linter.all false
set_option maxRecDepth 100000
set_option maxHeartbeats 1000000
namespace Jr
open PySem PySem.Spec PyProof.Rows L2
/-! ### dicts whose keys are tuples of ints and None -/
def nkV : Option Int → V
  | none => .non
  | some i => .int i
theorem nkD1_inj : ∀ {a b : Option Int}, nkD1 a = nkD1 b → a = b
  | none, none, _ => rfl
  | none, some _, h => by cases h
  | some _, none, h => by cases h
  | some _, some _, h => by cases h; rfl
theorem eqv_nk1 (a b : Option Int) : eqv (nkD1 a) (nkD1 b) = decide (a = b) := by
  cases a <;> cases b <;> simp [nkD1, eqv]
  rename_i i j
  exact Bool.eq_iff_iff.mpr (by simp)
theorem eqvs_nk : ∀ (a b : NKey), eqvs (a.map nkD1) (b.map nkD1) = decide (a = b)
  | [], [] => by simp [eqvs]
  | [], _ :: _ => by simp [eqvs]
  | _ :: _, [] => by simp [eqvs]
  | x :: a, y :: b => by
    rw [List.map_cons, List.map_cons, eqvs, eqv_nk1, eqvs_nk a b]
    exact Bool.eq_iff_iff.mpr (by simp)
theorem eqv_nk (a b : NKey) : eqv (nkD a) (nkD b) = decide (a = b) := by
  unfold nkD
  rw [eqv, eqvs_nk]
theorem nkAll_eq : ∀ {ds : List D} {l : NKey}, nkAll ds = some l → ds = l.map nkD1
  | [], l, h => by cases h; rfl
  | d :: ds, l, h => by
    unfold nkAll at h
    cases e : nkI d with
    | none => rw [e] at h; cases h
    | some k =>
      rw [e, Option.bind_some] at h
      cases e2 : nkAll ds with
      | none => rw [e2] at h; cases h
      | some l' =>
        rw [e2] at h
        cases h
        rw [List.map_cons, ← nkAll_eq e2]
        cases d <;> cases e <;> rfl
theorem nkAll_map : ∀ l : NKey, nkAll (l.map nkD1) = some l
  | [] => rfl
  | x :: l => by
    rw [List.map_cons]
    unfold nkAll
    rw [nkAll_map l]
    cases x <;> rfl
theorem nkOfD_eq {d : D} {l : NKey} (h : nkOfD d = some l) : d = nkD l := by
  cases d with
  | tuple ds => exact congrArg D.tuple (nkAll_eq h)
  | _ => cases h
theorem nkOfD_nk (l : NKey) : nkOfD (nkD l) = some l := nkAll_map l
theorem nkOf_inj : ∀ {a b : Option Int}, nkOf a = nkOf b → a = b
  | none, none, _ => rfl
  | none, some _, h => by cases h
  | some _, none, h => by cases h
  | some _, some _, h => by cases h; rfl
theorem nkOfs_inj : ∀ {a b : NKey}, a.map nkOf = b.map nkOf → a = b
  | [], [], _ => rfl
  | [], _ :: _, h => by cases h
  | _ :: _, [], h => by cases h
  | x :: a, y :: b, h => by
    rw [List.map_cons, List.map_cons] at h
    injection h with h1 h2
    rw [nkOf_inj h1, nkOfs_inj h2]
theorem nkey_inj {a b : NKey} (h : nkey a = nkey b) : a = b := by
  unfold nkey at h
  injection h with h
  exact nkOfs_inj h
theorem nk_hashes (w w' : World) : ∀ l : NKey, NestedKey.hashes w (l.map nkOf) = NestedKey.hashes w' (l.map nkOf)
  | [] => rfl
  | x :: l => by
    rw [List.map_cons, NestedKey.hashes, NestedKey.hashes, nk_hashes w w' l]
    cases x <;> rfl
theorem nk_hash (w w' : World) (l : NKey) : (nkey l).hash w = (nkey l).hash w' := by
  unfold nkey
  rw [NestedKey.hash, NestedKey.hash, nk_hashes w w']
theorem nk_depths : ∀ l : NKey, NestedKey.depthAll (l.map nkOf) = 0
  | [] => rfl
  | x :: l => by
    rw [List.map_cons, NestedKey.depthAll, nk_depths l]
    cases x <;> rfl
theorem nk_depth (l : NKey) : (nkey l).depth ≤ 8 := by
  unfold nkey
  rw [NestedKey.depth, nk_depths]
  decide
theorem nk_all {h : Heap} : ∀ {l : NKey} {us : List Value}, Vals (l.map nkV) us → NestedAll h (l.map nkOf) us
  | [], _, .nil => .nil
  | none :: l, _, .cons r t => by
    cases r
    exact .cons .none (nk_all t)
  | some i :: l, _, .cons r t => by
    obtain ⟨k, rfl⟩ := r
    exact .cons (.int i k) (nk_all t)
theorem nk_is {X : Cx} {pins : List (Addr × Obj)} {σ : L2.St} {H : Hp} {s : Shared} (I : L2.Inv X pins σ H s) {b : Addr} {l : NKey} (q : SqT X.K H b (l.map nkV)) : (nestedKind X.prog X.w).is s.heap (nkey l) b := by
  obtain ⟨its, r, ⟨o, ho, hc, n, hd⟩, _⟩ := I.tuple q
  exact ⟨.tup ho hc hd (by rw [List.toList_toArray]; exact nk_all r), nk_depth l⟩
/-- such a dict, with its keys' tuples -/
def NDict (K : PySem.W.Frag) (H : Hp) (a : Addr) (xs : List (NKey × Addr × V)) : Prop := H a = some (.ext (φN a xs)) ∧ ∀ x ∈ xs, SqT K H x.2.1 (x.1.map nkV)
def valN (xs : List (NKey × Addr × V)) (l : NKey) : Option V := (xs.find? fun x => decide (x.1 = l)).map (·.2.2)
def putN (xs : List (NKey × Addr × V)) (l : NKey) (b : Addr) (v : V) : List (NKey × Addr × V) := if xs.any (fun x => decide (x.1 = l)) then xs.map (fun x => if x.1 = l then (x.1, x.2.1, v) else x) else xs ++ [(l, b, v)]
def hx (xs : List (NKey × Addr × V)) (vs : List Value) : List (NestedKey × Addr × Value) := List.zipWith (fun x v => (nkey x.1, x.2.1, v)) xs vs
section
variable {X : Cx} {pins : List (Addr × Obj)} {σ : L2.St} {H : Hp} {s : Shared} {a b : Addr} {xs : List (NKey × Addr × V)} {l : NKey}
theorem hx_keys : ∀ {xs : List (NKey × Addr × V)} {vs : List Value}, Vals (xs.map (·.2.2)) vs → (hx xs vs).map (·.1) = xs.map fun x => nkey x.1
  | [], _, .nil => rfl
  | x :: xs, _, .cons r t => by
    show nkey x.1 :: (hx xs _).map _ = _
    rw [hx_keys t]; rfl
theorem hx_len : ∀ {xs : List (NKey × Addr × V)} {vs : List Value}, Vals (xs.map (·.2.2)) vs → (hx xs vs).length = xs.length
  | [], _, .nil => rfl
  | x :: xs, _, .cons r t => by
    show (hx xs _).length + 1 = _
    rw [hx_len t]; rfl
theorem hx_val (l : NKey) : ∀ {xs : List (NKey × Addr × V)} {vs : List Value}, Vals (xs.map (·.2.2)) vs → RelO (valN xs l) ((atKey (hx xs vs) (nkey l)).map (·.2))
  | [], _, .nil => trivial
  | x :: xs, v :: vs, .cons r t => by
    unfold valN atKey
    show RelO ((List.find? _ (x :: xs)).map _) (((List.find? _ ((nkey x.1, x.2.1, v) :: hx xs vs)).map _).map _)
    rw [List.find?_cons, List.find?_cons]
    by_cases e : x.1 = l
    · rw [decide_eq_true e, decide_eq_true (congrArg nkey e)]
      exact r
    · rw [decide_eq_false e, decide_eq_false fun z => e (nkey_inj z)]
      exact hx_val l t
theorem hx_mem : ∀ {xs : List (NKey × Addr × V)} {vs : List Value}, ∀ y ∈ hx xs vs, ∃ x ∈ xs, y.1 = nkey x.1 ∧ y.2.1 = x.2.1
  | [], _, y, h => by simp [hx] at h
  | x :: xs, [], y, h => by simp [hx] at h
  | x :: xs, v :: vs, y, h => by
    rcases List.mem_cons.mp (show y ∈ (nkey x.1, x.2.1, v) :: hx xs vs from h) with h | h
    · exact ⟨x, List.mem_cons_self, by rw [h], by rw [h]⟩
    · obtain ⟨z, hz, e⟩ := hx_mem y h
      exact ⟨z, List.mem_cons_of_mem _ hz, e⟩
theorem hx_es (w : World) {prog : Program} : ∀ {xs : List (NKey × Addr × V)} {vs : List Value}, List.zipWith (fun (x : NKey × Addr × V) (v : Value) => (⟨(nkey x.1).hash w, .ref x.2.1, v⟩ : DictEntry)) xs vs = (hx xs vs).map (entryOfKey (nestedKind prog w))
  | [], _ => by simp [hx]
  | _ :: _, [] => by simp [hx]
  | x :: xs, v :: vs => by
    rw [List.zipWith_cons_cons, hx_es w (prog := prog)]
    rfl
theorem NDict.at_ (I : L2.Inv X pins σ H s) (n : NDict X.K H a xs) : ∃ vs, Vals (xs.map (·.2.2)) vs ∧ s.heap.DictOfH (nestedKind X.prog X.w) a (hx xs vs) ∧ (a == sysModules) = false ∧ xs.length ≤ sizeLine := by
  obtain ⟨e, ks⟩ := n
  obtain ⟨⟨hd, hz, nd, vs, o, es, ep, rv, ho, ex, ed, ees⟩, _, _⟩ := (show ObjOk X.prog X.w H s.heap a (.ext (φN a xs)) from I.hok a _ e)
  refine ⟨vs, rv, ⟨o, es, ep, ho, ex, ed, by rw [ees X.w]; exact hx_es X.w, fun y hy => ?_, ?_⟩, hd, hz⟩
  · obtain ⟨x, hx, e1, e2⟩ := hx_mem y hy
    rw [e1, e2]
    exact nk_is I (ks x hx)
  · rw [hx_keys rv, show (xs.map fun x => nkey x.1) = (xs.map (·.1)).map nkey from by rw [List.map_map]; rfl]
    exact List.Pairwise.map nkey (fun a b h z => h (nkey_inj z)) nd
/-- what a look gives: o -/
def GetA (K : PySem.W.Frag) (H : Hp) (a : Addr) (y : V) (o : Option V) : Prop := DGet H a y o ∨ ∃ xs l b, NDict K H a xs ∧ y = .ref b ∧ SqT K H b (l.map nkV) ∧ o = valN xs l
variable {A : Around} {E : Value → Shared → Prop} {y d v : V} {u r : Value} {o : Option V}
theorem room_of (hu : X.A.units + 64 < cLine) : (nestedKind X.prog X.w).room X.A.in1 := by
  show X.A.units + 1 + 8 < cLine
  omega
theorem RelO.some' {o : Option Value} (h : RelO (some v) o) : ∃ w, o = some w ∧ RelV v w := by
  cases o with
  | none => exact h.elim
  | some w => exact ⟨w, rfl, h⟩
theorem GetA.type (I : L2.Inv X pins σ H s) (g : GetA X.K H a y o) : s.TypeIs (.ref a) "dict" := by
  rcases g with g | ⟨xs, l, b, n, _, _, _⟩
  · exact dict_typeIs I g
  · obtain ⟨vs, _, dd, _⟩ := n.at_ I
    exact dd.typeIs
theorem a_getItem {Q : Value → Shared → Prop} (hu : X.A.units + 64 < cLine) (I : L2.Inv X pins σ H s) (g : GetA X.K H a y (some v)) (ry : RelV y u) (h : ∀ w' s', L2.Inv X pins σ H s' → RelV v w' → Q w' s') : wpAny (model X.prog X.w) X.A (getItem (.ref a) u) Q E s := by
  rcases g with g | ⟨xs, l, b, n, ey, sb, ev⟩
  · exact d_getItem (by omega) I g ry h
  · subst ey
    cases ry
    obtain ⟨vs, rv, dd, _⟩ := n.at_ I
    have q := hx_val l rv
    rw [← ev] at q
    obtain ⟨w', hw, rw'⟩ := RelO.some' q
    obtain ⟨p, hp, hp2⟩ := Option.map_eq_some_iff.mp hw
    refine wpAny_getItem_heap (room_of hu) (nk_is I sb) dd hp ?_
    rw [hp2]
    exact h w' _ (I.tok _) rw'
theorem RelO.isS {a : Option V} {b : Option Value} (r : RelO a b) : a.isSome = b.isSome := by
  cases a <;> cases b <;> first | rfl | exact r.elim
theorem a_in {Q : Value → Shared → Prop} (hu : X.A.units + 64 < cLine) (I : L2.Inv X pins σ H s) (g : GetA X.K H a y o) (ry : RelV y u) (h : ∀ s', L2.Inv X pins σ H s' → Q (.bool o.isSome) s') : wpAny (model X.prog X.w) X.A (compareOp .In u (.ref a)) Q E s := by
  rcases g with g | ⟨xs, l, b, n, ey, sb, ev⟩
  · exact d_in (by omega) I g ry h
  · subst ey
    cases ry
    obtain ⟨vs, rv, dd, hd, _⟩ := n.at_ I
    have q := RelO.isS (hx_val l rv)
    rw [← ev, Option.isSome_map] at q
    refine wpAny_in_heap (room_of hu) (nk_is I sb) hd dd ?_
    rw [← q]
    exact h _ (I.tok _)
theorem a_notIn {Q : Value → Shared → Prop} (hu : X.A.units + 64 < cLine) (I : L2.Inv X pins σ H s) (g : GetA X.K H a y o) (ry : RelV y u) (h : ∀ s', L2.Inv X pins σ H s' → Q (.bool (!o.isSome)) s') : wpAny (model X.prog X.w) X.A (compareOp .NotIn u (.ref a)) Q E s := by
  rcases g with g | ⟨xs, l, b, n, ey, sb, ev⟩
  · exact d_notIn (by omega) I g ry h
  · subst ey
    cases ry
    obtain ⟨vs, rv, dd, hd, _⟩ := n.at_ I
    have q := RelO.isS (hx_val l rv)
    rw [← ev, Option.isSome_map] at q
    refine notIn_keyed (room_of hu) (nk_is I sb) hd ⟨_, dd, rfl⟩ ?_
    rw [valueAt_pairsH, Option.isSome_map, ← q]
    exact h _ (I.tok _)
theorem a_get1 {Q : Value → Shared → Prop} (hu : X.A.units + 64 < cLine) (I : L2.Inv X pins σ H s) (g : GetA X.K H a y o) (ry : RelV y u) (h : ∀ w' s', L2.Inv X pins σ H s' → RelV (o.getD .non) w' → Q w' s') : wpAny (model X.prog X.w) X.A (call (.builtin "dict.get") [.ref a, u]) Q E s := by
  rcases g with g | ⟨xs, l, b, n, ey, sb, ev⟩
  · exact d_get1 (by omega) I g ry h
  · subst ey
    cases ry
    obtain ⟨vs, rv, dd, hd, _⟩ := n.at_ I
    refine get_keyed (room_of hu) (nk_is I sb) hd ⟨_, dd, rfl⟩ (h _ _ (I.tok _) ?_)
    rw [valueAt_pairsH, ev]
    exact (hx_val l rv).getD rfl
theorem a_get2 {Q : Value → Shared → Prop} (hu : X.A.units + 64 < cLine) (I : L2.Inv X pins σ H s) (g : GetA X.K H a y o) (ry : RelV y u) (rd : RelV d r) (h : ∀ w' s', L2.Inv X pins σ H s' → RelV (o.getD d) w' → Q w' s') : wpAny (model X.prog X.w) X.A (call (.builtin "dict.get") [.ref a, u, r]) Q E s := by
  rcases g with g | ⟨xs, l, b, n, ey, sb, ev⟩
  · exact d_get2 (by omega) I g ry rd h
  · subst ey
    cases ry
    obtain ⟨vs, rv, dd, hd, _⟩ := n.at_ I
    refine getOr_keyed (room_of hu) (nk_is I sb) hd ⟨_, dd, rfl⟩ (h _ _ (I.tok _) ?_)
    rw [valueAt_pairsH, ev]
    exact (hx_val l rv).getD rd
/-! ### d[k] = v -/
theorem putN_len (xs : List (NKey × Addr × V)) (l : NKey) (b : Addr) (v : V) : (putN xs l b v).length ≤ xs.length + 1 := by
  unfold putN
  split <;> simp
theorem any_hx (l : NKey) : ∀ {xs : List (NKey × Addr × V)} {vs : List Value}, Vals (xs.map (·.2.2)) vs → (atKey (hx xs vs) (nkey l)).isSome = xs.any fun x => decide (x.1 = l)
  | [], _, .nil => rfl
  | x :: xs, v :: vs, .cons r t => by
    have ih := any_hx l t
    unfold atKey at ih ⊢
    show (Option.map _ (List.find? _ ((nkey x.1, x.2.1, v) :: hx xs vs))).isSome = _
    rw [List.find?_cons, List.any_cons]
    by_cases e : x.1 = l
    · rw [decide_eq_true e, decide_eq_true (congrArg nkey e)]; rfl
    · rw [decide_eq_false e, decide_eq_false fun z => e (nkey_inj z)]
      exact ih
theorem put_map (l : NKey) {v : V} {u : Value} (ru : RelV v u) : ∀ {xs : List (NKey × Addr × V)} {vs : List Value}, Vals (xs.map (·.2.2)) vs → ∃ ws, Vals ((xs.map fun x => if x.1 = l then (x.1, x.2.1, v) else x).map (·.2.2)) ws ∧ (hx xs vs).map (putAt (nkey l) u) = hx (xs.map fun x => if x.1 = l then (x.1, x.2.1, v) else x) ws
  | [], _, .nil => ⟨[], .nil, rfl⟩
  | x :: xs, w :: vs, .cons r t => by
    obtain ⟨ws, h1, h2⟩ := put_map l ru t
    by_cases e : x.1 = l
    · refine ⟨u :: ws, ?_, ?_⟩
      · rw [List.map_cons, if_pos e]; exact .cons ru h1
      · show putAt (nkey l) u (nkey x.1, x.2.1, w) :: (hx xs vs).map _ = _
        rw [h2, List.map_cons, if_pos e]
        unfold putAt
        rw [if_pos (congrArg nkey e)]
        rfl
    · refine ⟨w :: ws, ?_, ?_⟩
      · rw [List.map_cons, if_neg e]; exact .cons r h1
      · show putAt (nkey l) u (nkey x.1, x.2.1, w) :: (hx xs vs).map _ = _
        rw [h2, List.map_cons, if_neg e]
        unfold putAt
        rw [if_neg fun z => e (nkey_inj z)]
        rfl
theorem hx_app {xs : List (NKey × Addr × V)} {l : NKey} {b : Addr} {v : V} {u : Value} (ru : RelV v u) : ∀ {vs : List Value}, Vals (xs.map (·.2.2)) vs → Vals ((xs ++ [(l, b, v)]).map (·.2.2)) (vs ++ [u]) ∧ hx xs vs ++ [(nkey l, b, u)] = hx (xs ++ [(l, b, v)]) (vs ++ [u]) := by
  induction xs with
  | nil => intro vs h; cases h; exact ⟨.cons ru .nil, rfl⟩
  | cons x xs ih =>
    intro vs h
    cases h with
    | cons r t =>
      obtain ⟨h1, h2⟩ := ih t
      refine ⟨.cons r h1, ?_⟩
      show _ :: (hx xs _ ++ _) = _
      rw [h2]
      rfl
theorem put_hx (l : NKey) (b : Addr) {v : V} {u : Value} (ru : RelV v u) {xs : List (NKey × Addr × V)} {vs : List Value} (rv : Vals (xs.map (·.2.2)) vs) : ∃ ws, Vals ((putN xs l b v).map (·.2.2)) ws ∧ storedH (hx xs vs) (nkey l) b u = hx (putN xs l b v) ws := by
  unfold storedH putN
  rw [any_hx l rv]
  by_cases e : (xs.any fun x => decide (x.1 = l)) = true
  · rw [if_pos e, if_pos e]
    exact put_map l ru rv
  · rw [if_neg e, if_neg e]
    exact ⟨_, (hx_app ru rv).1, (hx_app ru rv).2⟩
theorem n_setItem {Q : Unit → Shared → Prop} (hu : X.A.units + 64 < cLine) (I : L2.Inv X pins σ H s) (n : NDict X.K H a xs) (sb : SqT X.K H b (l.map nkV)) (z : xs.length < sizeLine) (rv : RelV v r) (h : ∀ s', L2.Inv X pins σ (upd H a (.ext (φN a (putN xs l b v)))) s' → Q () s') :
    wpAny (model X.prog X.w) X.A (setItem (.ref a) (.ref b) r) Q E s := by
  obtain ⟨vs, rvs, dd, hd, hz⟩ := n.at_ I
  refine wpAny_setItem_heap (hsz := by rw [hx_len rvs]; omega) (room_of hu) (nk_is I sb) dd fun h' dd' hs => h _ ?_
  obtain ⟨ws, rw', eh⟩ := put_hx l b rv rvs
  rw [eh] at dd'
  obtain ⟨o, es, ep, ho, ex, ed, ees, _, nd⟩ := dd'
  rw [hx_keys rw'] at nd
  have nd2 : ((putN xs l b v).map (·.1)).Nodup := by
    have e : ((putN xs l b v).map fun x => nkey x.1) = ((putN xs l b v).map (·.1)).map nkey := by rw [List.map_map]; rfl
    rw [e] at nd
    exact (List.pairwise_map.mp nd).imp fun q z => q (congrArg nkey z)
  have pl := putN_len xs l b v
  have body : φN a (putN xs l b v) h' := ⟨hd, by omega, nd2, ws, o, es, ep, rw', ho, ex, ed, fun w => by
    rw [ees, ← hx_es X.w (prog := X.prog)]
    congr 1
    funext x u
    rw [nk_hash X.w w]⟩
  refine d_write I (by rw [n.1]; exact True.intro) hs ⟨o, ho⟩ ⟨body, ⟨o, ho⟩, fun h1 h2 ⟨p1, p2, p3, vs, o, es, ep, q1, q2, q3⟩ k => ⟨p1, p2, p3, vs, o, es, ep, q1, k _ q2, q3⟩⟩
theorem n_empty (I : L2.Inv X pins σ H s) : L2.Inv X pins σ (upd H s.heap.objs.size (.ext (φN s.heap.objs.size []))) { s with heap := s.heap.push { cls := .type "dict", data := .dict #[] } } ∧ H s.heap.objs.size = none := by
  refine ⟨I.laid (t' := s.toks) (fun _ _ q => Heap.get?_push_of_some _ q) (Nat.le_refl _) ⟨⟨beq_eq_false_iff_ne.mpr (Ne.symm (Nat.ne_of_lt I.big)), Nat.zero_le _, List.nodup_nil, [], _, #[], 0, .nil, Heap.get?_push_size _ rfl, ⟨rfl, rfl, rfl⟩, rfl, fun _ => rfl⟩, ⟨_, Heap.get?_push_size _ rfl⟩,
    fun h1 h2 ⟨p1, p2, p3, vs, o, es, ep, q1, q2, q3⟩ k => ⟨p1, p2, p3, vs, o, es, ep, q1, k _ q2, q3⟩⟩, I.hok.fresh (Nat.le_refl _)⟩
def tDNewN : TE := fun _ H Q => ∀ p, H p = none → Q (.ref p) (upd H p (.ext (φN p [])))
theorem pe_dnewN {pos : Pos} : PE X (.Dict [] [] pos) tDNewN := ⟨fun pins s σ H Q I h => wpAny_Dict_empty ⟨.ref s.heap.objs.size, _, (n_empty I).1, rfl, h _ (n_empty I).2⟩⟩
/-! ### rules -/
def tDGetA (K : PySem.W.Frag) (td ty : TE) : TE := fun σ H Q => td σ H fun x H1 => ty σ H1 fun y H2 => ∃ a v, x = .ref a ∧ GetA K H2 a y (some v) ∧ Q v H2
def tDInA (K : PySem.W.Frag) (ty td : TE) : TE := fun σ H Q => ty σ H fun y H1 => td σ H1 fun x H2 => ∃ a o, x = .ref a ∧ GetA K H2 a y o ∧ Q (.bl o.isSome) H2
def tDNotInA (K : PySem.W.Frag) (ty td : TE) : TE := fun σ H Q => ty σ H fun y H1 => td σ H1 fun x H2 => ∃ a o, x = .ref a ∧ GetA K H2 a y o ∧ Q (.bl (!o.isSome)) H2
variable {oe ie value : Expr} {pos pos' : Pos} {td ty tv tx : TE}
theorem pe_dgetA (hu : X.A.units + 64 < cLine) (ho : PE X oe td) (hi : PE X ie ty) (hs : NoSl ie) : PE X (.Subscript oe ie pos) (tDGetA X.K td ty) := by
  refine ⟨fun pins s σ H Q I h => subD_of PySem.F.slot_dict_getitem.lookup hs (thn (ho.run pins s σ H _ I h) fun u s1 ⟨x, H1, I1, rx, q1⟩ => thn (hi.run pins s1 σ H1 _ I1 q1) fun iv s2 ⟨y, H2, I2, ry, a, v, ex, g, q2⟩ => ?_)⟩
  subst ex
  cases rx
  exact ⟨g.type I2, a_getItem hu I2 g ry fun w' s3 I3 rw' => ⟨v, H2, I3, rw', q2⟩⟩
theorem pc_dinA (hu : X.A.units + 64 < cLine) (hi : PE X ie ty) (ho : PE X oe td) : PC X .In ie oe (tDInA X.K ty td) := by
  refine ⟨fun pins s σ H Q I h => thn (hi.run pins s σ H _ I h) fun iv s1 ⟨y, H1, I1, ry, q1⟩ => thn (ho.run pins s1 σ H1 _ I1 q1) fun u s2 ⟨x, H2, I2, rx, a, ov, ex, g, q2⟩ => ?_⟩
  subst ex
  cases rx
  exact a_in hu I2 g ry fun s3 I3 => ⟨.bl ov.isSome, H2, I3, rfl, q2⟩
theorem pc_dnotinA (hu : X.A.units + 64 < cLine) (hi : PE X ie ty) (ho : PE X oe td) : PC X .NotIn ie oe (tDNotInA X.K ty td) := by
  refine ⟨fun pins s σ H Q I h => thn (hi.run pins s σ H _ I h) fun iv s1 ⟨y, H1, I1, ry, q1⟩ => thn (ho.run pins s1 σ H1 _ I1 q1) fun u s2 ⟨x, H2, I2, rx, a, ov, ex, g, q2⟩ => ?_⟩
  subst ex
  cases rx
  exact a_notIn hu I2 g ry fun s3 I3 => ⟨.bl (!ov.isSome), H2, I3, rfl, q2⟩
/-- a dict's object at a -/
def IsDA (H : Hp) (a : Addr) : Prop := IsD H a ∨ ∃ xs, H a = some (.ext (φN a xs))
theorem isDA_at (I : L2.Inv X pins σ H s) (d : IsDA H a) : s.TypeIs (.ref a) "dict" ∧ ∀ b, Value.ref a = .ref b → ∃ ob, s.heap.get? b = some ob ∧ ob.dict = none := by
  rcases d with d | ⟨xs, e⟩
  · exact ⟨(isD_at I d).1, (isD_at I d).2.1⟩
  · obtain ⟨⟨hd, hz, nd, vs, o, es, ep, rv, ho, ex, ed, ees⟩, _, _⟩ := (show ObjOk X.prog X.w H s.heap a (.ext (φN a xs)) from I.hok a _ e)
    exact ⟨⟨o, ho, ex.1⟩, fun b q => by cases q; exact ⟨o, ho, ex.2.1⟩⟩
def tDGet1A (K : PySem.W.Frag) (td ty : TE) : TE := fun σ H Q => td σ H fun x H1 => ∃ a, x = .ref a ∧ IsDA H1 a ∧ ty σ H1 fun y H2 => ∃ o, GetA K H2 a y o ∧ Q (o.getD .non) H2
def tDGet2A (K : PySem.W.Frag) (td ty tx : TE) : TE := fun σ H Q => td σ H fun x H1 => ∃ a, x = .ref a ∧ IsDA H1 a ∧ ty σ H1 fun y H2 => tx σ H2 fun z H3 => ∃ o, GetA K H3 a y o ∧ Q (o.getD z) H3
variable {fe : Expr} {apos cpos : Pos}
theorem pe_dget1A (hu : X.A.units + 64 < cLine) (ho : PE X oe td) (he : PE X ie ty) (m : M1 X oe "get" apos ie cpos) : PE X (.Call (.Attribute oe "get" apos) [ie] [] cpos) (tDGet1A X.K td ty) := by
  refine ⟨fun pins s σ H Q I h => wpAny_Call_method m.base m.few m.line PySem.F.plainAttrs_dict PySem.F.slot_dict_get PySem.F.type_dict_get (thn (ho.run pins s σ H _ I h) fun u s1 ⟨x, H1, I1, rx, a, ex, d, q1⟩ => ?_)⟩
  subst ex
  cases rx
  refine ⟨(isDA_at I1 d).1, (isDA_at I1 d).2, ?_⟩
  rw [m.trees]
  refine Calls.callWith_builtin rfl (Calls.evalArgs_plain (Calls.spliced_cons (thn (he.run pins s1 σ H1 _ I1 q1) fun iv s2 ⟨y, H2, I2, ry, ov, g, q2⟩ => Calls.spliced_nil ?_)))
  exact a_get1 hu I2 g ry fun w' s3 I3 rw' => ⟨_, H2, I3, rw', q2⟩
theorem pe_dget2A (hu : X.A.units + 64 < cLine) (ho : PE X oe td) (he : PE X ie ty) (hf : PE X fe tx) (m : M2 X oe "get" apos ie fe cpos) : PE X (.Call (.Attribute oe "get" apos) [ie, fe] [] cpos) (tDGet2A X.K td ty tx) := by
  refine ⟨fun pins s σ H Q I h => wpAny_Call_method m.base m.few m.line PySem.F.plainAttrs_dict PySem.F.slot_dict_get PySem.F.type_dict_get (thn (ho.run pins s σ H _ I h) fun u s1 ⟨x, H1, I1, rx, a, ex, d, q1⟩ => ?_)⟩
  subst ex
  cases rx
  refine ⟨(isDA_at I1 d).1, (isDA_at I1 d).2, ?_⟩
  rw [m.trees]
  refine Calls.callWith_builtin rfl (Calls.evalArgs_plain (Calls.spliced_cons (thn (he.run pins s1 σ H1 _ I1 q1) fun iv s2 ⟨y, H2, I2, ry, q2⟩ => Calls.spliced_cons (thn (hf.run pins s2 σ H2 _ I2 q2) fun fv s3 ⟨z, H3, I3, rz, ov, g, q3⟩ => Calls.spliced_nil ?_))))
  exact a_get2 hu I3 g ry rz fun w' s4 I4 rw' => ⟨_, H3, I4, rw', q3⟩
/-- what a store makes -/
def PutA (K : PySem.W.Frag) (H : Hp) (a : Addr) (y v : V) (H' : Hp) : Prop := DPut H a y v H' ∨ ∃ xs l b, NDict K H a xs ∧ y = .ref b ∧ SqT K H b (l.map nkV) ∧ xs.length < sizeLine ∧ H' = upd H a (.ext (φN a (putN xs l b v)))
def sDPutA (K : PySem.W.Frag) (td ty tv : TE) : TS := fun D σ H => tv σ H fun v H1 => td σ H1 fun x H2 => ty σ H2 fun y H3 => ∃ a H4, x = .ref a ∧ PutA K H3 a y v H4 ∧ D.nx σ H4
theorem ps_dputA (hu : X.A.units + 64 < cLine) (ho : PE X oe td) (hi : PE X ie ty) (hv : PE X value tv) (hs : swapsWith value (some (.Subscript oe ie pos')) pos.line X.env = pure false) : PS X (.Assign [.Subscript oe ie pos'] value pos) (sDPutA X.K td ty tv) := by
  refine ⟨fun pins s σ H D I h => wpAny_Assign_Subscript (thn (hv.run pins s σ H _ I h) fun r s1 ⟨v, H1, I1, rv, q1⟩ => thn (ho.run pins s1 σ H1 _ I1 q1) fun u s2 ⟨x, H2, I2, rx, q2⟩ => thn (hi.run pins s2 σ H2 _ I2 q2) fun iv s3 ⟨y, H3, I3, ry, a, H4, ex, g, q3⟩ => ?_) hs⟩
  subst ex
  cases rx
  rcases g with g | ⟨xs, l, b, n, ey, sb, z, e4⟩
  · exact d_setItem (by omega) I3 g ry rv fun s4 I4 => ⟨σ, H4, I4, q3⟩
  · subst ey e4
    cases ry
    exact n_setItem hu I3 n sb z rv fun s4 I4 => ⟨σ, _, I4, q3⟩
end
end Jr

set_option Elab.async false
set_option linter.all false
set_option maxRecDepth 100000
set_option maxHeartbeats 1000000
namespace Jr
open PySem PySem.Spec PyProof.Rows L2
theorem eqv_key : ∀ a b : Key, eqv (keyD a) (keyD b) = decide (a = b)
  | .inl i, .inl j => by simp [keyD, eqv]; exact Bool.eq_iff_iff.mpr (by simp)
  | .inl i, .inr y => by simp [keyD, eqv]
  | .inr x, .inl j => by simp [keyD, eqv]
  | .inr x, .inr y => by simp [keyD, eqv]; exact Bool.eq_iff_iff.mpr (by simp)
theorem asKey_eq {d : D} {k : Key} (h : asKey d = some k) : d = keyD k := by
  cases d <;> first | (cases h; rfl) | cases h
def RelG (P : Addr → Prop) (H : Hp) : Option D → Option V → Prop
  | some d, some u => RD P H d u
  | none, none => True
  | _, _ => False
theorem RelG.isS {P : Addr → Prop} {H : Hp} {a : Option D} {b : Option V} (r : RelG P H a b) : a.isSome = b.isSome := by
  cases a <;> cases b <;> first | rfl | exact False.elim r
theorem RelG.getD {P : Addr → Prop} {H : Hp} {a : Option D} {b : Option V} {d : D} {v : V} (r : RelG P H a b) (q : RD P H d v) : RD P H (a.getD d) (b.getD v) := by
  cases a <;> cases b <;> first | exact q | exact r | exact False.elim r
def dObj (t : Bool) (p : Addr) : HO := match t with
  | false => .dK []
  | true => .ext (φN p [])
section
variable {P : Addr → Prop} {H : Hp} {K : PySem.W.Frag}
theorem rk_get (k : Key) : ∀ {kvs : List (D × D)} {vs : List (Key × V)}, RKs P H kvs vs → RelG P H (getK kvs (keyD k)) (valV vs k)
  | _, _, .nil => trivial
  | _, _, .cons (k := k1) (ds := ds) (vs := vs) r t => by
    have ih := rk_get k t
    unfold getK at ih ⊢
    rw [List.find?_cons]
    dsimp only
    rw [eqv_key]
    by_cases e : k1 = k
    · rw [valV_pos e, decide_eq_true e]
      exact r
    · rw [valV_neg e, decide_eq_false e]
      exact ih
theorem rn_get (l : NKey) : ∀ {kvs : List (D × D)} {xs : List (NKey × Addr × V)}, RNs P H kvs xs → RelG P H (getK kvs (nkD l)) (valN xs l)
  | _, _, .nil => trivial
  | _, _, .cons (l := l1) (ds := ds) (xs := xs) a r t => by
    have ih := rn_get l t
    unfold getK valN at ih ⊢
    rw [List.find?_cons, List.find?_cons]
    dsimp only
    rw [eqv_nk]
    by_cases e : l1 = l
    · rw [decide_eq_true e]
      exact r
    · rw [decide_eq_false e]
      exact ih
theorem nk_vals : ∀ {l : NKey} {vs : List V}, RDs P H (l.map nkD1) vs → vs = l.map nkV
  | [], _, .nil => rfl
  | x :: l, _, .cons r t => by
    rw [List.map_cons, ← nk_vals t]
    cases x <;> (cases r; rfl)
theorem nk_at {l : NKey} {v : V} (r : RD P H (nkD l) v) : ∃ b, v = .ref b ∧ SqT K H b (l.map nkV) := by
  cases r with
  | tup np e z c => rw [nk_vals c] at e; exact ⟨_, rfl, e.sq⟩
theorem rn_dict {a : Addr} {kvs : List (D × D)} {xs : List (NKey × Addr × V)} (e : H a = some (.ext (φN a xs))) (r : RNs P H kvs xs) : NDict K H a xs := by
  refine ⟨e, ?_⟩
  have : ∀ {kvs : List (D × D)} {xs : List (NKey × Addr × V)}, RNs P H kvs xs → ∀ x ∈ xs, SqT K H x.2.1 (x.1.map nkV) := by
    intro kvs xs r
    induction r with
    | nil => intro x h; cases h
    | cons a b t ih =>
      intro x h
      rcases List.mem_cons.mp h with rfl | h
      · obtain ⟨b, e, q⟩ := nk_at (K := K) a
        cases e
        exact q
      · exact ih x h
  exact this r
theorem DK.isD {a : Addr} : ∀ {t : Bool} {kvs : List (D × D)}, DK P H a t kvs → IsDA H a
  | false, _, ⟨vs, e, _⟩ => .inl (.inl ⟨vs, .inl e⟩)
  | true, _, ⟨xs, e, _⟩ => .inr ⟨xs, e⟩
theorem DK.get {a : Addr} {y : D} {w : V} (ry : RD P H y w) : ∀ {t : Bool} {kvs : List (D × D)}, DK P H a t kvs → keyOk t y = true → ∃ o, GetA K H a w o ∧ RelG P H (getK kvs y) o
  | false, kvs, ⟨vs, e, r⟩, ok => by
    cases ek : asKey y with
    | none => rw [keyOk, if_neg (by decide), ek] at ok; cases ok
    | some k =>
      have ey := asKey_eq ek
      subst ey
      have ew : w = kV k := by cases k <;> (cases ry; rfl)
      subst ew
      exact ⟨_, .inl (DGet.k e), rk_get k r⟩
  | true, kvs, ⟨xs, e, r⟩, ok => by
    cases ek : nkOfD y with
    | none => rw [keyOk, if_pos rfl, ek] at ok; cases ok
    | some l =>
      have ey := nkOfD_eq ek
      subst ey
      obtain ⟨b, eb, q⟩ := nk_at (K := K) ry
      exact ⟨_, .inr ⟨xs, l, b, rn_dict e r, eb, q, rfl⟩, rn_get l r⟩
end
section
variable {α β τ υ : Type} {K : PySem.W.Frag} {C : Nat → Option Value} {L : Addr → Prop} {ρ : List Addr} {h : Hh} {H : Hp} {E : Value → Option Addr → Hp → Prop}
theorem Out.rdK {rel' : List Addr → Hh → Hp → β → υ → Prop} {x : Vl} {v : V} {f : Bool × List (D × D) → M β} {Q : υ → Hp → Prop} (hr : HR K L ρ h H) (rv : RV (Pr L ρ h) ρ H x v) (o : Out K C L ρ h H rel' E (M.bind (Jr.rdK x) f h) Q) :
    ∃ t kvs a, v = .ref a ∧ DK (Pr L ρ h) H a t kvs ∧ Out K C L ρ h H rel' E (f (t, kvs) h) Q := by
  cases x with
  | d x => exact False.elim o
  | k t kvs => obtain ⟨p, np, e, c⟩ := rv; exact ⟨t, kvs, p, e, c, o⟩
  | r n =>
    obtain ⟨a, e1, rfl⟩ := rv
    have e0 : Jr.rdK (.r n) h = (match h[n]? with
      | some (.dct t kvs) => some (R.ok (t, kvs), h)
      | _ => none) := rfl
    unfold M.bind at o
    rw [e0] at o
    cases e2 : h[n]? with
    | none => rw [e2] at o; exact False.elim o
    | some c =>
      rw [e2] at o
      cases c with
      | dct t kvs => exact ⟨t, kvs, a, rfl, hr.cell n a _ e1 e2, o⟩
      | _ => exact False.elim o
theorem Out.look {x : Vl} {v : V} {y : D} {f : Option D → M Vl} {Q : V → Hp → Prop} {rel' : List Addr → Hh → Hp → Vl → V → Prop} (hr : HR K L ρ h H) (rv : RV (Pr L ρ h) ρ H x v) (o : Out K C L ρ h H rel' E (lookM x y f h) Q) :
    ∃ t kvs a, v = .ref a ∧ DK (Pr L ρ h) H a t kvs ∧ keyOk t y = true ∧ Out K C L ρ h H rel' E (f (getK kvs y) h) Q := by
  unfold lookM at o
  obtain ⟨t, kvs, a, e, dk, o1⟩ := Out.rdK hr rv o
  obtain ⟨k, o2⟩ := Out.ite o1
  exact ⟨t, kvs, a, e, dk, k, o2⟩
end
section
variable {X : Cx} {C : Nat → Option Value} {W : WX} {a b c : Expr} {eva evb evc : Env → M Vl} {pos : Pos}
theorem e_dget (hu : X.A.units + 64 < cLine) (ha : PE X a (tE C eva X.K W)) (hb : PE X b (tE C evb X.K W)) (hs : NoSl b) : PE X (.Subscript a b pos) (tE C (fun en => M.bind (eva en) fun v => M.bind (evb en) fun w => M.bind (Jr.asD w) fun y => lookM v y pO) X.K W) := by
  refine pei (pe_dgetA hu ha hb hs) fun σ H Q ⟨L, ρ, h, en, hr, er, o⟩ => ?_
  refine ⟨L, ρ, h, en, hr, er, (Out.split (rel := relV L) o).mono fun v H1 ⟨ρ1, h1, x, hr1, s1, rv1, o1⟩ => ?_⟩
  refine ⟨L, ρ1, h1, en, hr1, er.step s1, (Out.split (rel := relV L) o1).mono fun w H2 ⟨ρ2, h2, y, hr2, s2, rv2, o2⟩ => ?_⟩
  obtain ⟨dy, rfl, ry, o3⟩ := Out.asD rv2 o2
  obtain ⟨t, kvs, ad, ev, dk, ok, o4⟩ := Out.look hr2 (rv1.step s2) o3
  obtain ⟨o5, g, rg⟩ := dk.get (K := X.K) ry ok
  obtain ⟨d, ed, q⟩ := Out.pO hr2 o4
  rw [ed] at rg
  cases o5 with
  | none => exact rg.elim
  | some u => exact ⟨ad, u, ev, g, q.here hr2 rg⟩
theorem t_din0 : ∀ σ H Q, tE C (fun en => M.bind (evb en) fun w => M.bind (eva en) fun v => M.bind (Jr.asD w) fun y => lookM v y fun o => pD (.bool o.isSome)) X.K W σ H Q → tDInA X.K (tE C evb X.K W) (tE C eva X.K W) σ H Q := fun σ H Q ⟨L, ρ, h, en, hr, er, o⟩ => by
  refine ⟨L, ρ, h, en, hr, er, (Out.split (rel := relV L) o).mono fun v H1 ⟨ρ1, h1, x, hr1, s1, rv1, o1⟩ => ?_⟩
  refine ⟨L, ρ1, h1, en, hr1, er.step s1, (Out.split (rel := relV L) o1).mono fun w H2 ⟨ρ2, h2, y, hr2, s2, rv2, o2⟩ => ?_⟩
  obtain ⟨dy, rfl, ry, o3⟩ := Out.asD (rv1.step s2) o2
  obtain ⟨t, kvs, ad, ev, dk, ok, o4⟩ := Out.look hr2 rv2 o3
  obtain ⟨o5, g, rg⟩ := dk.get (K := X.K) ry ok
  have e := rg.isS
  refine ⟨ad, o5, ev, g, ?_⟩
  have := (Out.pD hr2 o4).here hr2 (.bool _)
  rw [e] at this
  exact this
theorem e_din (hu : X.A.units + 64 < cLine) (hb : PE X b (tE C evb X.K W)) (ha : PE X a (tE C eva X.K W)) (hm : behindInMarks .In a = false) : PE X (.Compare b [.In] [a] pos) (tE C (fun en => M.bind (evb en) fun w => M.bind (eva en) fun v => M.bind (Jr.asD w) fun y => lookM v y fun o => pD (.bool o.isSome)) X.K W) :=
  pei (pe_cmp (pc_dinA hu hb ha) hm) t_din0
theorem t_din (hu : X.A.units + 64 < cLine) (hb : PE X b (tE C evb X.K W)) (ha : PE X a (tE C eva X.K W)) (hm : behindInMarks .In a = false) : PT X (.Compare b [.In] [a] pos) (tT C (fun en => tt (M.bind (evb en) fun w => M.bind (eva en) fun v => M.bind (Jr.asD w) fun y => lookM v y fun o => pD (.bool o.isSome))) X.K W) := by
  refine pti (pt_cmp (pc_dinA hu hb ha) hm) fun σ H Q ⟨L, ρ, h, en, hr, er, o⟩ => t_din0 σ H _ ⟨L, ρ, h, en, hr, er, BoolM.out (m := M.bind (evb en) fun w => M.bind (eva en) fun v => M.bind (Jr.asD w) fun y => lookM v y fun o => pD (.bool o.isSome)) ?_ o⟩
  refine BoolM.bind fun _ => BoolM.bind fun _ => BoolM.bind fun _ => BoolM.bind fun p => ?_
  split
  · exact BoolM.pD
  · exact BoolM.fail
theorem t_dnin0 : ∀ σ H Q, tE C (fun en => M.bind (evb en) fun w => M.bind (eva en) fun v => M.bind (Jr.asD w) fun y => lookM v y fun o => pD (.bool !o.isSome)) X.K W σ H Q → tDNotInA X.K (tE C evb X.K W) (tE C eva X.K W) σ H Q := fun σ H Q ⟨L, ρ, h, en, hr, er, o⟩ => by
  refine ⟨L, ρ, h, en, hr, er, (Out.split (rel := relV L) o).mono fun v H1 ⟨ρ1, h1, x, hr1, s1, rv1, o1⟩ => ?_⟩
  refine ⟨L, ρ1, h1, en, hr1, er.step s1, (Out.split (rel := relV L) o1).mono fun w H2 ⟨ρ2, h2, y, hr2, s2, rv2, o2⟩ => ?_⟩
  obtain ⟨dy, rfl, ry, o3⟩ := Out.asD (rv1.step s2) o2
  obtain ⟨t, kvs, ad, ev, dk, ok, o4⟩ := Out.look hr2 rv2 o3
  obtain ⟨o5, g, rg⟩ := dk.get (K := X.K) ry ok
  have e := rg.isS
  refine ⟨ad, o5, ev, g, ?_⟩
  have := (Out.pD hr2 o4).here hr2 (.bool _)
  rw [e] at this
  exact this
theorem e_dnin (hu : X.A.units + 64 < cLine) (hb : PE X b (tE C evb X.K W)) (ha : PE X a (tE C eva X.K W)) (hm : behindInMarks .NotIn a = false) : PE X (.Compare b [.NotIn] [a] pos) (tE C (fun en => M.bind (evb en) fun w => M.bind (eva en) fun v => M.bind (Jr.asD w) fun y => lookM v y fun o => pD (.bool !o.isSome)) X.K W) :=
  pei (pe_cmp (pc_dnotinA hu hb ha) hm) t_dnin0
theorem t_dnin (hu : X.A.units + 64 < cLine) (hb : PE X b (tE C evb X.K W)) (ha : PE X a (tE C eva X.K W)) (hm : behindInMarks .NotIn a = false) : PT X (.Compare b [.NotIn] [a] pos) (tT C (fun en => tt (M.bind (evb en) fun w => M.bind (eva en) fun v => M.bind (Jr.asD w) fun y => lookM v y fun o => pD (.bool !o.isSome))) X.K W) := by
  refine pti (pt_cmp (pc_dnotinA hu hb ha) hm) fun σ H Q ⟨L, ρ, h, en, hr, er, o⟩ => t_dnin0 σ H _ ⟨L, ρ, h, en, hr, er, BoolM.out (m := M.bind (evb en) fun w => M.bind (eva en) fun v => M.bind (Jr.asD w) fun y => lookM v y fun o => pD (.bool !o.isSome)) ?_ o⟩
  refine BoolM.bind fun _ => BoolM.bind fun _ => BoolM.bind fun _ => BoolM.bind fun p => ?_
  split
  · exact BoolM.pD
  · exact BoolM.fail
theorem e_dgt1 {apos : Pos} (hu : X.A.units + 64 < cLine) (ha : PE X a (tE C eva X.K W)) (hb : PE X b (tE C evb X.K W)) (m : M1 X a "get" apos b pos) :
    PE X (.Call (.Attribute a "get" apos) [b] [] pos) (tE C (fun en => M.bind (eva en) fun v => M.bind (rdK v) fun _ => M.bind (evb en) fun w => M.bind (Jr.asD w) fun y => lookM v y fun o => pD (o.getD .none)) X.K W) := by
  refine pei (pe_dget1A hu ha hb m) fun σ H Q ⟨L, ρ, h, en, hr, er, o⟩ => ?_
  refine ⟨L, ρ, h, en, hr, er, (Out.split (rel := relV L) o).mono fun v H1 ⟨ρ1, h1, x, hr1, s1, rv1, o1⟩ => ?_⟩
  obtain ⟨_, _, ad0, rfl, dk0, o1⟩ := Out.rdK hr1 rv1 o1
  refine ⟨ad0, rfl, dk0.isD, L, ρ1, h1, en, hr1, er.step s1, (Out.split (rel := relV L) o1).mono fun w H2 ⟨ρ2, h2, y, hr2, s2, rv2, o2⟩ => ?_⟩
  obtain ⟨dy, rfl, ry, o3⟩ := Out.asD rv2 o2
  obtain ⟨t, kvs, ad, ev, dk, ok, o4⟩ := Out.look hr2 (rv1.step s2) o3
  cases ev
  obtain ⟨o5, g, rg⟩ := dk.get (K := X.K) ry ok
  refine ⟨o5, g, (Out.pD hr2 o4).here hr2 (rg.getD .non)⟩
theorem e_dgt2 {apos : Pos} (hu : X.A.units + 64 < cLine) (ha : PE X a (tE C eva X.K W)) (hb : PE X b (tE C evb X.K W)) (hc : PE X c (tE C evc X.K W)) (m : M2 X a "get" apos b c pos) :
    PE X (.Call (.Attribute a "get" apos) [b, c] [] pos) (tE C (fun en => M.bind (eva en) fun v => M.bind (rdK v) fun _ => M.bind (evb en) fun w => M.bind (evc en) fun u => M.bind (Jr.asD w) fun y => M.bind (Jr.asD u) fun z => lookM v y fun o => pD (o.getD z)) X.K W) := by
  refine pei (pe_dget2A hu ha hb hc m) fun σ H Q ⟨L, ρ, h, en, hr, er, o⟩ => ?_
  refine ⟨L, ρ, h, en, hr, er, (Out.split (rel := relV L) o).mono fun v H1 ⟨ρ1, h1, x, hr1, s1, rv1, o1⟩ => ?_⟩
  obtain ⟨_, _, ad0, rfl, dk0, o1⟩ := Out.rdK hr1 rv1 o1
  refine ⟨ad0, rfl, dk0.isD, L, ρ1, h1, en, hr1, er.step s1, (Out.split (rel := relV L) o1).mono fun w H2 ⟨ρ2, h2, y, hr2, s2, rv2, o2⟩ => ?_⟩
  refine ⟨L, ρ2, h2, en, hr2, (er.step s1).step s2, (Out.split (rel := relV L) o2).mono fun u H3 ⟨ρ3, h3, z, hr3, s3, rv3, o2⟩ => ?_⟩
  obtain ⟨dy, rfl, ry, o3⟩ := Out.asD (rv2.step s3) o2
  obtain ⟨dz, rfl, rz, o3⟩ := Out.asD rv3 o3
  obtain ⟨t, kvs, ad, ev, dk, ok, o4⟩ := Out.look hr3 ((rv1.step s2).step s3) o3
  cases ev
  obtain ⟨o5, g, rg⟩ := dk.get (K := X.K) ry ok
  refine ⟨o5, g, (Out.pD hr3 o4).here hr3 (rg.getD rz)⟩
/-! ### {} -/
theorem HR.dctNew {K : PySem.W.Frag} {L : Addr → Prop} {ρ : List Addr} {h : Hh} {H : Hp} (hr : HR K L ρ h H) {p : Addr} {o : HO} {t : Bool} (n : H p = none) (dk : ∀ P, DK P (upd H p o) p t []) :
    HR K L (ρ ++ [p]) (h ++ [.dct t []]) (upd H p o) ∧ Stp L ρ h H (ρ ++ [p]) (h ++ [.dct t []]) (upd H p o) := by
  have ne : ∀ a, L a → a ≠ p := fun a l z => hr.ltr a l (by rw [z]; exact n)
  have old : ∀ {i : Nat} {a : Addr} {c : Cell}, (ρ ++ [p])[i]? = some a → (h ++ [Cell.dct t []])[i]? = some c → (i < h.length ∧ ρ[i]? = some a ∧ h[i]? = some c) ∨ (i = h.length ∧ a = p ∧ c = .dct t []) := fun {i a c} e1 e2 => by
    rcases Nat.lt_trichotomy i h.length with q | q | q
    · rw [List.getElem?_append_left (by rw [hr.len]; exact q)] at e1
      rw [List.getElem?_append_left q] at e2
      exact .inl ⟨q, e1, e2⟩
    · subst q
      rw [← hr.len, List.getElem?_append_right (Nat.le_refl _), Nat.sub_self] at e1
      rw [List.getElem?_append_right (Nat.le_refl _), Nat.sub_self] at e2
      cases e1; cases e2
      exact .inr ⟨rfl, rfl, rfl⟩
    · rw [List.getElem?_eq_none (by rw [List.length_append]; exact q)] at e2; cases e2
  have nlive : ∀ {i : Nat} {c : Cell}, ρ[i]? = some p → h[i]? = some c → live c = true → False := fun {i c} e1 e2 e3 => hr.pr_tracked n (.inr ⟨i, c, e1, e2, e3⟩)
  have prs : ∀ a, a ≠ p → ¬ Pr L ρ h a → ¬ Pr L (ρ ++ [p]) (h ++ [.dct t []]) a := fun a ne np => by
    rintro (l | ⟨i, c, e1, e2, e3⟩)
    · exact np (.inl l)
    · rcases old e1 e2 with ⟨_, f1, f2⟩ | ⟨_, f1, _⟩
      · exact np (.inr ⟨i, c, f1, f2, e3⟩)
      · exact ne f1
  have g : Gr (Pr L ρ h) H (Pr L (ρ ++ [p]) (h ++ [.dct t []])) (upd H p o) := fun a u e q => ⟨by rw [upd_ne (ne_of_none e n)]; exact e, prs a (ne_of_none e n) q⟩
  refine ⟨⟨by rw [List.length_append, List.length_append, hr.len]; rfl, fun i j a ci cj e1 e2 e3 e4 l1 l2 => ?_, fun i a c e1 e2 e3 l => ?_, fun a l => by rw [upd_ne (ne a l)]; exact hr.ltr a l, fun i a c e1 e2 => ?_⟩, g, fun a l => upd_ne (ne a l), fun i a e => ?_⟩
  · rcases old e1 e3 with ⟨_, f1, f2⟩ | ⟨f0, f1, f2⟩
    · rcases old e2 e4 with ⟨_, g1, g2⟩ | ⟨g0, g1, g2⟩
      · exact hr.nd i j a ci cj f1 g1 f2 g2 l1 l2
      · subst g1; exact (nlive f1 f2 l1).elim
    · rcases old e2 e4 with ⟨_, g1, g2⟩ | ⟨g0, g1, g2⟩
      · subst f1; exact (nlive g1 g2 l2).elim
      · rw [f0, g0]
  · rcases old e1 e2 with ⟨_, f1, f2⟩ | ⟨f0, f1, f2⟩
    · exact hr.dis i a c f1 f2 e3 l
    · exact ne a l f1
  · rcases old e1 e2 with ⟨_, f1, f2⟩ | ⟨f0, f1, f2⟩
    · have q := hr.cell i a c f1 f2
      cases c with
      | dead => trivial
      | ro es => obtain ⟨ws, x, z, r⟩ := q; exact ⟨ws, x.imp (fun ⟨np, u, e⟩ => ⟨(g _ _ e np).2, u, (g _ _ e np).1⟩) id, z, RDs.gr g _ _ r⟩
      | lst es => obtain ⟨ws, e, z, r⟩ := q; exact ⟨ws, by rw [upd_ne (ne_of_none e n)]; exact e, z, RDs.gr g _ _ r⟩
      | dct _ es => exact DK.move g (upd_ne fun z => DK.some q (by rw [z]; exact n)) q
    · subst f1; subst f2
      exact dk _
  · rw [List.getElem?_append_left (by
      rcases Nat.lt_or_ge i ρ.length with q | q
      · exact q
      · rw [List.getElem?_eq_none q] at e; cases e)]
    exact e
theorem dk_nil (t : Bool) : ∀ (P : Addr → Prop) (H : Hp) (p : Addr), DK P (upd H p (dObj t p)) p t [] := fun P H p => by
  cases t
  · exact ⟨[], upd_same, .nil⟩
  · exact ⟨[], upd_same, .nil⟩
theorem pe_dnew (t : Bool) : PE X (.Dict [] [] pos) (fun _ H Q => ∀ p, H p = none → Q (.ref p) (upd H p (dObj t p))) := by
  cases t
  · exact pe_dnewK
  · exact pe_dnewN
theorem e_dnewK (t : Bool) : PE X (.Dict [] [] pos) (tE C (fun _ => M.pure (.k t [])) X.K W) := by
  refine pei (pe_dnew t) fun σ H Q ⟨L, ρ, h, en, hr, er, o⟩ => fun p n => ?_
  obtain ⟨hr2, s2⟩ := hr.new (o := dObj t p) n
  exact o ρ _ _ hr2 s2 ⟨p, hr.np n, rfl, dk_nil t _ _ _⟩
theorem e_dnew (t : Bool) : PE X (.Dict [] [] pos) (tE C (fun _ => newC (.dct t [])) X.K W) := by
  refine pei (pe_dnew t) fun σ H Q ⟨L, ρ, h, en, hr, er, o⟩ => fun p n => ?_
  obtain ⟨hr2, s2⟩ := hr.dctNew (o := dObj t p) n (fun P => dk_nil t P H p)
  refine o (ρ ++ [p]) _ _ hr2 s2 ⟨p, ?_, rfl⟩
  rw [← hr.len, List.getElem?_append_right (Nat.le_refl _), Nat.sub_self]
  rfl
end
end Jr

set_option Elab.async false
set_option linter.all false
set_option maxRecDepth 100000
set_option maxHeartbeats 1000000
namespace Jr
open PySem PySem.Spec PyProof.Rows L2
section
variable {X : Cx} {C : Nat → Option Value} {W : WX} {a b c e : Expr} {eva evb evc ev : Env → M Vl} {pos : Pos}
/-! ### a, b = x, y -/
theorem zip_set {P : Addr → Prop} {ρ : List Addr} {H : Hp} {i j : Nat} {x y : Vl} {v w : V} {en : Env} {σ : L2.St} (er : ER P ρ H en σ) (r1 : RV P ρ H x v) (r2 : RV P ρ H y w) :
    ER P ρ H (([i, j].zip [x, y]).foldl (fun en p => en.set p.1 (some p.2)) en) ((σ.set i (some v)).set j (some w)) := (er.set r1).set r2
theorem s_par {i j : Nat} {x y : Str} {evs : Env → M (List Vl)} {px py pt : Pos} {kt k2 pt2} (hc : X.calm = true) (hN : X.N.Nodup) (hi : X.N[i]? = some x) (hj : X.N[j]? = some y) (hij : i ≠ j)
    (hx : X.env.scope.names.lookup x = some .local) (hy : X.env.scope.names.lookup y = some .local) (ha : PA X [a, b] (tEs C evs X.K W))
    (hw : swappedStores [.Tuple [.Name x px, .Name y py] kt pt] (.Tuple [a, b] k2 pt2) X.env = pure (some [x, y])) :
    PS X (.Assign [.Tuple [.Name x px, .Name y py] kt pt] (.Tuple [a, b] k2 pt2) pos) (tS C (fun en => M.bind (evs en) fun vs => if vs.length = [i, j].length ∧ [i, j].all (· < en.length) then M.pure (.next (([i, j].zip vs).foldl (fun en p => en.set p.1 (some p.2)) en)) else fail) X.K W) := by
  refine psi (ps_par hc hN hi hj hij hx hy ha hw) fun D σ H ⟨L, ρ, h, en, hr, er, o⟩ => ?_
  refine ⟨L, ρ, h, en, hr, er, (OutS.split (rel := relVs L) σ o).mono fun vs H1 ⟨ρ1, h1, xs, hr1, s1, rv1, o1⟩ => ?_⟩
  by_cases q : xs.length = [i, j].length ∧ [i, j].all (· < en.length)
  · rw [if_pos q] at o1
    cases rv1 with
    | nil => exact absurd q.1 (by simp)
    | cons r1 rs =>
      cases rs with
      | nil => exact absurd q.1 (by simp)
      | cons r2 rt =>
        cases rt with
        | cons _ _ => exact absurd q.1 (by simp)
        | nil => exact ⟨_, _, rfl, o1 ρ1 H1 _ hr1 .refl (zip_set (er.step s1) r1 r2)⟩
  · rw [if_neg q] at o1; exact False.elim o1
theorem s_par3 {i j l : Nat} {x y z : Str} {evs : Env → M (List Vl)} {px py pz pt : Pos} {kt k2 pt2} (hc : X.calm = true) (hN : X.N.Nodup) (hi : X.N[i]? = some x) (hj : X.N[j]? = some y) (hl : X.N[l]? = some z) (hij : i ≠ j) (hil : i ≠ l) (hjl : j ≠ l)
    (hx : X.env.scope.names.lookup x = some .local) (hy : X.env.scope.names.lookup y = some .local) (hz : X.env.scope.names.lookup z = some .local) (ha : PA X [a, b, c] (tEs C evs X.K W))
    (hw : swappedStores [.Tuple [.Name x px, .Name y py, .Name z pz] kt pt] (.Tuple [a, b, c] k2 pt2) X.env = pure (some [x, y, z])) :
    PS X (.Assign [.Tuple [.Name x px, .Name y py, .Name z pz] kt pt] (.Tuple [a, b, c] k2 pt2) pos) (tS C (fun en => M.bind (evs en) fun vs => if vs.length = [i, j, l].length ∧ [i, j, l].all (· < en.length) then M.pure (.next (([i, j, l].zip vs).foldl (fun en p => en.set p.1 (some p.2)) en)) else fail) X.K W) := by
  refine psi (ps_par3 hc hN hi hj hl hij hil hjl hx hy hz ha hw) fun D σ H ⟨L, ρ, h, en, hr, er, o⟩ => ?_
  refine ⟨L, ρ, h, en, hr, er, (OutS.split (rel := relVs L) σ o).mono fun vs H1 ⟨ρ1, h1, xs, hr1, s1, rv1, o1⟩ => ?_⟩
  by_cases q : xs.length = [i, j, l].length ∧ [i, j, l].all (· < en.length)
  · rw [if_pos q] at o1
    cases rv1 with
    | nil => exact absurd q.1 (by simp)
    | cons r1 rs =>
      cases rs with
      | nil => exact absurd q.1 (by simp)
      | cons r2 rt =>
        cases rt with
        | nil => exact absurd q.1 (by simp)
        | cons r3 ru =>
          cases ru with
          | cons _ _ => exact absurd q.1 (by simp)
          | nil => exact ⟨_, _, _, rfl, o1 ρ1 H1 _ hr1 .refl ((((er.step s1).set r1).set r2).set r3)⟩
  · rw [if_neg q] at o1; exact False.elim o1
/-! ### a, b = x, y with no exchange of the stores -/
theorem g_nmsV {P : Addr → Prop} {ρ : List Addr} {H : Hp} {Q : L2.St → Hp → Prop} : ∀ {is : List Nat} {xs : List Vl} {vs : List V} {en : Env} {σ : L2.St}, xs.length = is.length → RVs P ρ H xs vs → ER P ρ H en σ →
    (∀ σ', ER P ρ H ((is.zip xs).foldl (fun en p => en.set p.1 (some p.2)) en) σ' → Q σ' H) → gNms is vs σ H Q
  | [], [], _, en, σ, _, .nil, er, q => ⟨rfl, q σ er⟩
  | i :: is, x :: xs, _, en, σ, l, .cons r rs, er, q => ⟨_, _, rfl, g_nmsV (by simpa using l) rs (er.set r) q⟩
  | [], _ :: _, _, _, _, l, _, _, _ => by simp at l
  | _ :: _, [], _, _, _, l, _, _, _ => by simp at l
theorem s_parT {is : List Nat} {xs vs : List Expr} {evs : Env → M (List Vl)} {kt k2 : Nat} {pt pt2 : Pos} (hc : X.calm = true) (hg : PGs X xs (gNms is)) (hn : (assignEach xs X.env).length = is.length) (hst : (assignEach xs X.env).findIdx? (·.1) = none)
    (ha : PA X vs (tEs C evs X.K W)) (hl : is.length ≤ sizeLine) (hs : swapsWithSole [.Tuple xs kt pt] (.Tuple vs k2 pt2) pos.line X.env = pure false) (hw : swappedStores [.Tuple xs kt pt] (.Tuple vs k2 pt2) X.env = pure none) :
    PS X (.Assign [.Tuple xs kt pt] (.Tuple vs k2 pt2) pos) (tS C (fun en => M.bind (evs en) fun vs => if vs.length = is.length ∧ is.all (· < en.length) then M.pure (.next ((is.zip vs).foldl (fun en p => en.set p.1 (some p.2)) en)) else fail) X.K W) := by
  refine psi (ps_asg (L2x.pe_tupF ha) (pg_tup hc hg hn hst) hs hw rfl) fun D σ H ⟨L, ρ, h, en, hr, er, o⟩ => ?_
  refine ⟨L, ρ, h, en, hr, er, (OutS.split (rel := relVs L) σ o).mono fun vs H1 ⟨ρ1, h1, xs, hr1, s1, rv1, o1⟩ => ?_⟩
  by_cases q : xs.length = is.length ∧ is.all (· < en.length)
  · rw [if_pos q] at o1
    have lv := rv1.length
    refine ⟨by rw [← lv, q.1]; exact hl, fun p ob hd n => ?_⟩
    obtain ⟨hr2, s2⟩ := hr1.new (o := .frz ob (.tup vs)) n
    exact ⟨p, vs, rfl, (TupAt.upd hd).sq, by rw [← lv, q.1], g_nmsV q.1 (RVs.step s2 rv1) ((er.step s1).step s2) fun σ' er' => o1 ρ1 _ _ hr2 s2 er'⟩
  · rw [if_neg q] at o1; exact False.elim o1
/-! ### x += n -/
theorem s_aug {i : Nat} {x : Str} {p : Pos} (hN : X.N.Nodup) (hi : X.N[i]? = some x) (hx : Loc X.env.scope x) (he : PE X e (tE C ev X.K W)) (hf : X.fn x = true ∨ X.env.scope.names.lookup x = some .local) :
    PS X (.AugAssign (.Name x p) .Add e pos) (tS C (augM i ev) X.K W) := by
  refine psi (ps_aug hN hi hx he ip_add hf) fun D σ H ⟨L, ρ, h, en, hr, er, o⟩ => ?_
  unfold augM at o
  cases e1 : en[i]? with
  | none => rw [e1] at o; exact False.elim o
  | some q =>
    rw [e1] at o
    cases q with
    | none => exact False.elim o
    | some v =>
      obtain ⟨u, e2, rv⟩ := er.at_ i v e1
      refine ⟨u, e2, L, ρ, h, en, hr, er, (OutS.split (rel := relV L) σ o).mono fun w H1 ⟨ρ1, h1, y, hr1, s1, rv1, o1⟩ => ?_⟩
      obtain ⟨dx, rfl, rx, o2⟩ := OutS.asD (rv.step s1) o1
      obtain ⟨dy, rfl, ry, o3⟩ := OutS.asD rv1 o2
      obtain ⟨z, ez, o4⟩ := OutS.ofO o3
      cases dx with
      | int i1 =>
        cases dy with
        | int i2 =>
          cases ez
          cases rx
          cases ry
          exact ⟨i1, i2, rfl, rfl, o4 ρ1 H1 _ hr1 .refl ((er.step s1).set (x := .d (.int (i1 + i2))) (RD.int _))⟩
        | _ => cases ez
      | _ => cases ez
/-! ### o[i] = e -/
theorem s_set {i o : Expr} {evo evi : Env → M Vl} {p : Pos} (he : PE X e (tE C ev X.K W)) (ho : PE X o (tE C evo X.K W)) (hi : PE X i (tE C evi X.K W))
    (hs : swapsWithSole [.Subscript o i p] e pos.line X.env = pure false) (hw : swappedStores [.Subscript o i p] e X.env = pure none) (h1 : (assignEach [.Subscript o i p] X.env).map (·.2) = [assign (.Subscript o i p) X.env])
    (ha : ∀ v, assign (.Subscript o i p) X.env v = (do
      let ov ← holding [v] (eval o X.env)
      let iv ← holding [v, ov] (eval i X.env)
      standAt p
      holding [v, ov, iv] (setItem ov iv v)
      release [v, ov, iv] [])) :
    PS X (.Assign [.Subscript o i p] e pos) (tS C (fun en => M.bind (ev en) fun u => M.bind (evo en) fun v => M.bind (evi en) fun w => M.bind (asD w) fun k => M.bind (asD u) fun y => M.bind (setM v k y) fun _ => M.pure (.next en)) X.K W) := by
  refine psi (ps_asg he (pg_sub ho hi set_list ha) hs hw h1) fun D σ H ⟨L, ρ, h, en, hr, er, o⟩ => ?_
  refine ⟨L, ρ, h, en, hr, er, (OutS.split (rel := relV L) σ o).mono fun u H1 ⟨ρ1, h1, x, hr1, s1, rv1, o1⟩ => ?_⟩
  refine ⟨L, ρ1, h1, en, hr1, er.step s1, (OutS.split (rel := relV L) σ o1).mono fun v H2 ⟨ρ2, h2, y, hr2, s2, rv2, o2⟩ => ?_⟩
  refine ⟨L, ρ2, h2, en, hr2, (er.step s1).step s2, (OutS.split (rel := relV L) σ o2).mono fun w H3 ⟨ρ3, h3, z, hr3, s3, rv3, o3⟩ => ?_⟩
  obtain ⟨dk, rfl, rk, o4⟩ := OutS.asD rv3 o3
  obtain ⟨dy, rfl, ry, o5⟩ := OutS.asD ((rv1.step s2).step s3) o4
  have rv := rv2.step s3
  cases y with
  | d _ => exact False.elim o5
  | k _ _ => exact False.elim o5
  | r n =>
    cases dk with
    | int i =>
      obtain ⟨p, e1, rfl⟩ := rv
      cases rk
      have e0 : setM (.r n) (.int i) dy h3 = (match h3[n]? with
        | some (.lst xs) => (match Jr.ixN xs.length i with
          | some j => some (R.ok (), h3.set n (.lst (xs.set j dy)))
          | none => none)
        | _ => none) := rfl
      unfold M.bind at o5
      rw [e0] at o5
      cases e2 : h3[n]? with
      | none => rw [e2] at o5; exact False.elim o5
      | some cc =>
        rw [e2] at o5
        cases cc with
        | lst xs =>
          dsimp only at o5
          cases e3 : Jr.ixN xs.length i with
          | none => rw [e3] at o5; exact False.elim o5
          | some j =>
            rw [e3] at o5
            dsimp only at o5
            obtain ⟨vs, e4, zz, cc⟩ := hr3.cell n p _ e1 e2
            obtain ⟨hr4, s4⟩ := hr3.cellSet e1 e2 rfl (by rw [List.length_set]; exact zz) (RDs.set ry j cc)
            exact ⟨p, vs, i, j, rfl, rfl, e4, by rw [← cc.length]; exact e3, o5 ρ3 _ σ hr4 s4 ((((er.step s1).step s2).step s3).step s4)⟩
        | _ => exact False.elim o5
    | _ => exact False.elim o5
/-! ### raise, try -/
theorem pmk_0 {Cc : Addr} {bmB : List Value} {B newId initId : String} {x : Str} {p : Pos} (F : ExcBaseFacts B newId initId bmB) (q : PySem.W.excIn X.K Cc bmB newId = true) (gC : X.mg x = some (.ref Cc))
    (kC : PySem.W.keepIn X.K (.ref Cc) = true) (r : Raises X (.ref Cc)) (hg : Gl X x) (hdb : (x == ("__debug__" : Str)) = false) : PMk X (.Call (.Name x p) [] [] pos) (fun _ H Q => Q (.ref Cc) none H) := by
  intro pins s σ H Q I h
  refine wpAny_Call_Name_kw (ld_glob I hg gC ?_ hdb)
  refine PySem.W.callWith_K0 I.kIn kC ?_
  show wpAny _ _ (call (.ref Cc) []) _ _ _
  obtain ⟨bm, N, nm, qn, bs, hdct, sn, sub, ab, col, dd, k0, k1, k2, k3, k5, mN, hC, hN, hni, T⟩ := exc_obj I.kIn q
  refine wpAny_call_exc_subT F T hC hN hni (fun h' e hm => ?_) (by show 0 ≤ sizeLine; exact Nat.zero_le _)
  exact mk_of I hm r h (I.hok.gone hm.new)
theorem s_rse {Cc : Addr} {bmB : List Value} {B newId initId : String} {x : Str} {p p2 : Pos} {n : Nat} (hc : X.calm = true) (tk : Takes X W) (F : ExcBaseFacts B newId initId bmB) (q : PySem.W.excIn X.K Cc bmB newId = true) (gC : X.mg x = some (.ref Cc))
    (kC : PySem.W.keepIn X.K (.ref Cc) = true) (r : Raises X (.ref Cc)) (hg : Gl X x) (hdb : (x == ("__debug__" : Str)) = false) (eC : C n = some (.ref Cc)) :
    PS X (.Raise (some (.Call (.Name x p) [] [] p2)) none pos) (tS C (fun _ => raise n) X.K W) :=
  psi (ps_raise hc tk (pmk_0 F q gC kC r hg hdb)) fun D σ H ⟨L, ρ, h, en, hr, er, o⟩ => o _ eC ρ H σ none hr .refl
def hdl (C : Nat → Option Value) (hs : List (Nat × Str)) : List (Value × (Addr → Value → Option Addr → TS)) := hs.map fun p => ((C p.1).getD .none, fun _ _ _ => tRet (tC (.str p.2)))
theorem s_try {body : List Stmt} {h₀ : ExceptHandler} {hds : List ExceptHandler} {hs : List (Nat × Str)} {evb : Env → M SO} (hst : X.stack = X.env :: X.outer) (hf : X.env.frame = some X.env.locals) (tk : Takes X W)
    (hb : ∀ (W' : WX) (pn : List (Addr × Obj)) (xe : Value → Shared → Prop), Takes (X.tr pn xe) W' → PassesOwn (model X.prog X.w) X.A X.env xe → PSs (X.tr pn xe) body (tS C evb X.K W'))
    (hh : HdsOk X (h₀ :: hds) (hdl C hs)) (hx : ∀ c v p, C c = some v → p ∈ hs → PySem.W.exmOne X.K v ((C p.1).getD .none) = some (p.1 == c)) (hok : ∀ p ∈ hs, okS p.2 = true) :
    PS X (.Try body (h₀ :: hds) [] [] pos) (tS C (fun en => tryM hs (evb en)) X.K W) := by
  refine psi (ps_try_many hst hf tk hb hh) fun D σ H ⟨L, ρ, h, en, hr, er, o⟩ => ⟨L, ρ, h, en, hr, er, ?_⟩
  unfold tryM at o
  dsimp only at o
  cases e : evb en h with
  | none => rw [e] at o; exact o
  | some p =>
    obtain ⟨r, h1⟩ := p
    rw [e] at o
    cases r with
    | ok x =>
      cases x with
      | next en' => exact o
      | ret v => exact o
    | exc c =>
      dsimp only at o
      intro cv hc ρ' H' σ' d hr' s'
      have main : ∀ (l : List (Nat × Str)), (∀ p ∈ l, p ∈ hs) → OutS X.K C L ρ h H W (match l.find? (fun p => p.1 == c) with
          | some p => some (.ok (.ret (.d (.str p.2))), h1)
          | none => some (.exc c, h1)) D → wMany X.K W D (hdl C l) cv d σ' H' := fun l => by
        induction l with
        | nil => intro _ o; exact o cv hc ρ' H' σ' d hr' s'
        | cons p l ih =>
          intro hl o
          have hp := hl p List.mem_cons_self
          refine ⟨p.1 == c, hx c cv p hc hp, fun eb a na => ?_, fun eb => ?_⟩
          · rw [List.find?_cons, eb] at o
            exact o ρ' H' (.str p.2) hr' s' (RD.str _ (hok p hp))
          · rw [List.find?_cons, eb] at o
            exact ih (fun q hq => hl q (List.mem_cons_of_mem _ hq)) o
      exact main hs (fun _ h => h) o
/-! ### a list is mine no more -/
theorem ss_frz {i : Nat} {rest : List Stmt} {evb : Env → M SO} (hb : PSs X rest (tS C evb X.K W)) : PSs X rest (tS C (fun en => M.bind (frzM i en) fun
    | .next en' => evb en'
    | .ret v => M.pure (.ret v)) X.K W) := pssi hb fun D σ H ⟨L, ρ, h, en, hr, er, o⟩ => by
  unfold M.bind frzM at o
  dsimp only at o
  cases e1 : en[i]? with
  | none => rw [e1] at o; exact False.elim o
  | some q =>
    rw [e1] at o
    cases q with
    | none => exact False.elim o
    | some v =>
      cases v with
      | d _ => exact False.elim o
      | k _ _ => exact False.elim o
      | r n =>
        dsimp only at o
        cases e2 : h[n]? with
        | none => rw [e2] at o; exact False.elim o
        | some c =>
          rw [e2] at o
          cases c with
          | lst xs =>
            obtain ⟨w, e3, p, e4, rfl⟩ := er.at_ i _ e1
            obtain ⟨vs, e5, z, c⟩ := hr.cell n p _ e4 e2
            obtain ⟨hr1, s1⟩ := hr.cellDead n
            have np : ¬ Pr L ρ (h.set n .dead) p := by
              rintro (l | ⟨j, c', f1, f2, f3⟩)
              · exact hr.dis n p _ e4 e2 rfl l
              · by_cases hj : n = j
                · subst hj
                  rw [List.getElem?_set] at f2
                  split at f2
                  · split at f2
                    · cases f2; cases f3
                    · cases f2
                  · rename_i q; exact q rfl
                · rw [List.getElem?_set_ne hj] at f2
                  exact hj (hr.nd n j p _ _ e4 f1 e2 f2 rfl f3)
            have er1 := er.step s1
            refine ⟨L, ρ, h.set n .dead, en.set i (some (.d (.list xs))), hr1, ⟨by rw [List.length_set]; exact er1.len, fun j x e => ?_⟩, o.rebase s1⟩
            by_cases hij : i = j
            · subst hij
              rw [List.getElem?_set] at e
              split at e
              · split at e
                · cases e
                  exact ⟨_, e3, RD.lst np e5 z (RDs.gr s1.gr _ _ c)⟩
                · cases e
              · rename_i q; exact absurd rfl q
            · rw [List.getElem?_set_ne hij] at e
              exact er1.at_ j x e
          | dct t kvs =>
            obtain ⟨w, e3, p, e4, rfl⟩ := er.at_ i _ e1
            have c := hr.cell n p _ e4 e2
            obtain ⟨hr1, s1⟩ := hr.cellDead n
            have np : ¬ Pr L ρ (h.set n .dead) p := by
              rintro (l | ⟨j, c', f1, f2, f3⟩)
              · exact hr.dis n p _ e4 e2 rfl l
              · by_cases hj : n = j
                · subst hj
                  rw [List.getElem?_set] at f2
                  split at f2
                  · split at f2
                    · cases f2; cases f3
                    · cases f2
                  · rename_i q; exact q rfl
                · rw [List.getElem?_set_ne hj] at f2
                  exact hj (hr.nd n j p _ _ e4 f1 e2 f2 rfl f3)
            have er1 := er.step s1
            refine ⟨L, ρ, h.set n .dead, en.set i (some (.k t kvs)), hr1, ⟨by rw [List.length_set]; exact er1.len, fun j x e => ?_⟩, o.rebase s1⟩
            by_cases hij : i = j
            · subst hij
              rw [List.getElem?_set] at e
              split at e
              · split at e
                · cases e
                  exact ⟨_, e3, p, np, rfl, DK.move s1.gr rfl c⟩
                · cases e
              · rename_i q; exact absurd rfl q
            · rw [List.getElem?_set_ne hij] at e
              exact er1.at_ j x e
          | _ => exact False.elim o
end
/-! ### a def -/
theorem ok_def {P : Program} {w : World} {K : PySem.W.Frag} {mg : Str → Option Value} {base : Heap} {C : Nat → Option Value} {x qual : Str} {st : Stmt} {f : Addr} {fd : FuncData} {N ps : List Str} {k : Nat} {evb : Env → M SO}
    (F : Fun K x qual st f fd) (S : FnScope N ps (defScope st))
    (hbody : ∀ (X : Cx), X.prog = P → X.w = w → X.K = K → X.mg = mg → X.base = base → X.N = N → X.env.scope = defScope st → X.calm = true → (∀ y, X.fn y = true) → X.stack = X.env :: X.outer → X.env.frame = some X.env.locals → Room k X.A → PassesOwn (model X.prog X.w) X.A X.env X.xe → ∀ W, Takes X W → PSs X (defBody st) (tS C evb X.K W)) :
    FnOk P w K mg base (L2.CX P w) (k + 1) f fd ps (spM C K fun vs => if vs.length = ps.length then fun h => shut h.length (evb (vs.map some ++ List.replicate (N.length - ps.length) none)) h else fail) := by
  refine F.okX S (fun vs H Q E h => ?_) (fun cdv A outer s H vs Q E hr h => ?_)
  · obtain ⟨L, ρ, hh, xs, hr, rv, o⟩ := h
    rw [← rv.length]
    exact (Out.ite o).1
  · obtain ⟨L, ρ, hh, xs, hrr, rv, o⟩ := h
    obtain ⟨hl, o1⟩ := Out.ite o
    refine ⟨_, hbody _ rfl rfl rfl rfl rfl rfl rfl rfl (fun _ => rfl) rfl rfl hr (passes_of rfl) _ (takes_of rfl rfl rfl rfl), L, ρ, hh, xs.map some ++ List.replicate (N.length - ps.length) none, hrr, ⟨?_, fun i v e => ?_⟩, ?_⟩
    · unfold L2.start
      rw [List.length_append, List.length_append, List.length_map, List.length_map, List.length_replicate, List.length_replicate, rv.length, ← hl, rv.length]
    · have get : ∀ {xs : List Vl} {vs : List V} {i : Nat} {v : Vl}, RVs (Pr L ρ hh) ρ H xs vs → xs[i]? = some v → ∃ u, vs[i]? = some u ∧ RV (Pr L ρ hh) ρ H v u := fun {xs} => by
        induction xs with
        | nil => intro vs i v r e; cases e
        | cons x xs ih =>
          intro vs i v r e
          cases r with
          | cons a b =>
            cases i with
            | zero => cases e; exact ⟨_, rfl, a⟩
            | succ i =>
              obtain ⟨u, e1, r1⟩ := ih b (by simpa using e)
              exact ⟨u, by simpa using e1, r1⟩
      rcases Nat.lt_or_ge i xs.length with q | q
      · rw [List.getElem?_append_left (by simpa using q), List.getElem?_map] at e
        cases e1 : xs[i]? with
        | none => rw [e1] at e; cases e
        | some y =>
          rw [e1] at e
          cases e
          obtain ⟨u, e2, r⟩ := get rv e1
          refine ⟨u, ?_, r⟩
          unfold L2.start
          rw [List.getElem?_append_left (by rw [List.length_map, ← rv.length]; exact q), List.getElem?_map, e2]
          rfl
      · rw [List.getElem?_append_right (by simpa using q), List.getElem?_replicate] at e
        split at e <;> cases e
    · unfold shut at o1
      cases eb : evb (xs.map some ++ List.replicate (N.length - ps.length) none) hh with
      | none => rw [eb] at o1; exact o1
      | some p =>
        obtain ⟨r, h1⟩ := p
        rw [eb] at o1
        have tr : ∀ {ρ1 H1}, HR K L ρ1 h1 H1 → Stp L ρ hh H ρ1 h1 H1 → HR K L (ρ1.take hh.length) (h1.take hh.length) H1 ∧ Stp L ρ hh H (ρ1.take hh.length) (h1.take hh.length) H1 ∧ Gr (Pr L ρ1 h1) H1 (Pr L (ρ1.take hh.length) (h1.take hh.length)) H1 := fun hr1 s1 => hrr.trunc hr1 s1
        cases r with
        | exc c =>
          intro cv hcv ρ1 H1 σ1 d hr1 s1
          obtain ⟨hr2, s2, _⟩ := tr hr1 s1
          exact o1 cv hcv _ H1 d hr2 s2
        | ok q =>
          cases q with
          | next en =>
            intro ρ1 H1 σ1 hr1 s1 er1
            obtain ⟨hr2, s2, _⟩ := tr hr1 s1
            exact o1 _ H1 .non hr2 s2 RD.non
          | ret v =>
            intro ρ1 H1 u hr1 s1 rv1
            obtain ⟨hr2, s2, g2⟩ := tr hr1 s1
            cases v with
            | d v => exact o1 _ H1 u hr2 s2 (RD.gr g2 _ _ rv1)
            | k _ v =>
              obtain ⟨p, np, e, c⟩ := rv1
              exact o1 _ H1 u hr2 s2 ⟨p, (c.step g2 np).1, e, (c.step g2 np).2⟩
            | r n =>
              dsimp only at o1
              by_cases hn : n < hh.length
              · rw [if_pos hn] at o1
                obtain ⟨a, e1, e2⟩ := rv1
                exact o1 _ H1 u hr2 s2 ⟨a, by rw [List.getElem?_take, if_pos hn]; exact e1, e2⟩
              · rw [if_neg hn] at o1; exact False.elim o1
end Jr

set_option Elab.async false
set_option linter.all false
set_option maxRecDepth 100000
set_option maxHeartbeats 1000000
/-! zip of two tuples whose pairs are kept: dict(zip(a, b)), list(zip(a, b)). -/
namespace RZ
open PySem
open PySem.Sem (wp)
section
variable {prog : Program} {w : World} {A : Around} {E : Value → Shared → Prop} {s : Shared}
/-- the two tuples' iterators stand at k -/
structure Two (h : Heap) (TI i1 i2 l1 l2 : Addr) (k : Nat) (xs ys : Array Value) : Prop where
  ti : IsPair h TI (.ref i1) (.ref i2)
  a : h.IsTupleIter i1 l1 k
  b : h.IsTupleIter i2 l2 k
  la : h.IsTuple l1 xs
  lb : h.IsTuple l2 ys
variable {z TI TO T i1 i2 l1 l2 : Addr} {f : Bool} {oT : Obj} {k : Nat} {xs ys : Array Value} {x y : Value}
theorem held_item {Q : Value → Shared → Prop} (D : ZipApart z TI TO i1 i2 l1 l2) (hz : IsZipHeld s.heap z TI TO T f) (hT : s.heap.get? T = some oT) (t : Two s.heap TI i1 i2 l1 l2 k xs ys) (hx : xs[k]? = some x) (hy : ys[k]? = some y)
    (hQ : ∀ h', IsZipHeld h' z TI TO T true → h'.IsTupleIter i1 l1 (k + 1) → h'.IsTupleIter i2 l2 (k + 1) → IsPair h' s.heap.objs.size x y → (∀ c o, c ≠ z → c ≠ i1 → c ≠ i2 → s.heap.get? c = some o → h'.get? c = some o) → Q (.ref s.heap.objs.size) { s with heap := h' }) :
    wpAny (model prog w) A (Builtin.«zip.__next__» ⟨[.ref z], []⟩) (fun fin s' => ∃ v, fin = .done (.ret v) ∧ Q v s') E s := by
  obtain ⟨ti, a, b, la, lb⟩ := t
  show wpAny _ _ (field (.ref z) 2 >>= _) _ _ _
  refine wpAny_bind (wpAny_field hz rfl (x := .bool false) rfl ?_); show wpAny _ _ (field (.ref z) 3 >>= _) _ _ _
  refine wpAny_bind (wpAny_field hz rfl (x := .ref TI) rfl ?_); refine wpAny_bind (wpAny_seqItems ti rfl ?_)
  show wpAny _ _ (Builtin.SmallTypes.ownedTupleIsFree (.ref z) >>= _) _ _ _
  refine wpAny_bind (wpAny_tupleHeld_zip hz hT fun m1 hz1 e1 => ?_)
  simp only [Bool.false_eq_true, if_false]
  refine wpAny_bind ?_
  rw [← Array.forIn_toList]
  simp only [List.forIn_cons, List.forIn_nil]
  refine wpAny_bind (wpAny_bind (wpAny_holding ?_)); show wpAny _ _ (Builtin.SmallTypes.nextOf (.ref i1) >>= _) _ _ _
  refine wpAny_bind (nextOf_tuple_item (s := { s with heap := m1 }) (a.extBut e1.extBut D.i1z) (la.extBut e1.extBut D.l1z) hx fun m2 a2 e2 => wpAny_pure (wpAny_pure ?_))
  refine wpAny_bind (wpAny_bind (wpAny_holding ?_)); show wpAny _ _ (Builtin.SmallTypes.nextOf (.ref i2) >>= _) _ _ _
  refine wpAny_bind (nextOf_tuple_item (s := { s with heap := m2 }) ((b.extBut e1.extBut D.i2z).extBut e2.extBut D.i12.symm) ((lb.extBut e1.extBut D.l2z).extBut e2.extBut D.l2i1) hy fun m3 b3 e3 => wpAny_pure (wpAny_pure (wpAny_pure ?_)))
  show wpAny _ _ (newTuple [x, y] >>= _) _ _ _
  refine wpAny_bind (wpAny_newTuple (wpAny_pure ⟨_, rfl, ?_⟩)); show Q (.ref m3.objs.size) _
  have sz : m3.objs.size = s.heap.objs.size := by rw [e3.1, e2.1, e1.1]
  have zz : IsZipHeld m3 z TI TO T true := e3.extBut _ _ D.i2z.symm (e2.extBut _ _ D.i1z.symm hz1)
  have keep : ∀ c o, c ≠ z → c ≠ i1 → c ≠ i2 → s.heap.get? c = some o → m3.get? c = some o := fun c o c1 c2 c3 e => e3.extBut _ _ c3 (e2.extBut _ _ c2 (e1.extBut _ _ c1 e))
  have hp : IsPair (m3.push { cls := .type "tuple", data := .seq #[x, y] }) m3.objs.size x y := Heap.get?_push_size _ rfl
  rw [sz] at hp ⊢
  exact hQ _ (Heap.get?_push_of_some _ zz) ((a2.extBut e3.extBut D.i12).at fun o e => Heap.get?_push_of_some _ e) (b3.at fun o e => Heap.get?_push_of_some _ e) hp fun c o c1 c2 c3 e => Heap.get?_push_of_some _ (keep c o c1 c2 c3 e)
theorem held_end {Q : Fin → Shared → Prop} (hh : A.handled = none) (D : ZipApart z TI TO i1 i2 l1 l2) (hz : IsZipHeld s.heap z TI TO T f) (hT : s.heap.get? T = some oT) (t : Two s.heap TI i1 i2 l1 l2 k xs ys) (he : xs[k]? = none ∨ ys[k]? = none)
    (hE : ∀ h' e, (∀ c o, c ≠ z → c ≠ i1 → c ≠ i2 → s.heap.get? c = some o → h'.get? c = some o) → (∃ o, h'.get? e = some o ∧ o.cls = .type "StopIteration") → E (.ref e) { s with heap := h' }) :
    wpAny (model prog w) A (Builtin.«zip.__next__» ⟨[.ref z], []⟩) Q E s := by
  obtain ⟨ti, a, b, la, lb⟩ := t
  show wpAny _ _ (field (.ref z) 2 >>= _) _ _ _
  refine wpAny_bind (wpAny_field hz rfl (x := .bool false) rfl ?_); show wpAny _ _ (field (.ref z) 3 >>= _) _ _ _
  refine wpAny_bind (wpAny_field hz rfl (x := .ref TI) rfl ?_); refine wpAny_bind (wpAny_seqItems ti rfl ?_)
  show wpAny _ _ (Builtin.SmallTypes.ownedTupleIsFree (.ref z) >>= _) _ _ _
  refine wpAny_bind (wpAny_tupleHeld_zip hz hT fun m1 hz1 e1 => ?_)
  simp only [Bool.false_eq_true, if_false]
  refine wpAny_bind ?_
  rw [← Array.forIn_toList]
  simp only [List.forIn_cons, List.forIn_nil]
  refine wpAny_bind (wpAny_bind (wpAny_holding ?_)); show wpAny _ _ (Builtin.SmallTypes.nextOf (.ref i1) >>= _) _ _ _
  cases hx : xs[k]? with
  | none => exact wpAny_bind (nextOf_tuple_end (s := { s with heap := m1 }) hh (a.extBut e1.extBut D.i1z) (la.extBut e1.extBut D.l1z) hx fun m2 e e2 q => hE m2 e (fun c o c1 c2 _ x => e2 _ _ c2 (e1.extBut _ _ c1 x)) q)
  | some x =>
    have hy : ys[k]? = none := by
      rcases he with h | h
      · rw [hx] at h; cases h
      · exact h
    refine wpAny_bind (nextOf_tuple_item (s := { s with heap := m1 }) (a.extBut e1.extBut D.i1z) (la.extBut e1.extBut D.l1z) hx fun m2 a2 e2 => wpAny_pure (wpAny_pure ?_))
    refine wpAny_bind (wpAny_bind (wpAny_holding ?_)); show wpAny _ _ (Builtin.SmallTypes.nextOf (.ref i2) >>= _) _ _ _
    exact wpAny_bind (nextOf_tuple_end (s := { s with heap := m2 }) hh ((b.extBut e1.extBut D.i2z).extBut e2.extBut D.i12.symm) ((lb.extBut e1.extBut D.l2z).extBut e2.extBut D.l2i1) hy fun m3 e e3 q => hE m3 e (fun c o c1 c2 c3 x => e3 _ _ c3 (e2.extBut _ _ c2 (e1.extBut _ _ c1 x))) q)
theorem next_held_item {Q : Option Value → Shared → Prop} (D : ZipApart z TI TO i1 i2 l1 l2) (hz : IsZipHeld s.heap z TI TO T f) (hT : s.heap.get? T = some oT) (t : Two s.heap TI i1 i2 l1 l2 k xs ys) (hx : xs[k]? = some x) (hy : ys[k]? = some y)
    (hQ : ∀ h', IsZipHeld h' z TI TO T true → h'.IsTupleIter i1 l1 (k + 1) → h'.IsTupleIter i2 l2 (k + 1) → IsPair h' s.heap.objs.size x y → (∀ c o, c ≠ z → c ≠ i1 → c ≠ i2 → s.heap.get? c = some o → h'.get? c = some o) → Q (some (.ref s.heap.objs.size)) { s with heap := h' }) :
    wpAny (model prog w) A (pyNext (.ref z)) Q E s := by
  have ty : s.TypeIs (.ref z) "zip" := ⟨_, hz, rfl⟩
  unfold pyNext
  exact wpAny_bind (wpAny_attempt (wpAny_callSpecial?_slot (name := Str.ofString "__next__") ty F.slot_zip_next (wpAny_call_entry F.slot_zip_next ty F.entry_zip_next (held_item D hz hT t hx hy fun h' a1 a3 a4 a5 a7 => wpAny_pure (hQ h' a1 a3 a4 a5 a7)) (F.args_zip_next_1 _))))
theorem next_held_end {Q : Option Value → Shared → Prop} (hh : A.handled = none) (D : ZipApart z TI TO i1 i2 l1 l2) (hz : IsZipHeld s.heap z TI TO T f) (hT : s.heap.get? T = some oT) (t : Two s.heap TI i1 i2 l1 l2 k xs ys) (he : xs[k]? = none ∨ ys[k]? = none)
    (hQ : ∀ h', (∀ c o, c ≠ z → c ≠ i1 → c ≠ i2 → s.heap.get? c = some o → h'.get? c = some o) → Q none { s with heap := h' }) : wpAny (model prog w) A (pyNext (.ref z)) Q E s := by
  have ty : s.TypeIs (.ref z) "zip" := ⟨_, hz, rfl⟩
  unfold pyNext
  refine wpAny_bind (wpAny_attempt (wpAny_callSpecial?_slot (name := Str.ofString "__next__") ty F.slot_zip_next (wpAny_call_entry F.slot_zip_next ty F.entry_zip_next (held_end hh D hz hT t he fun h' e hk ⟨o, ho, hc⟩ => ?_) (F.args_zip_next_1 _))))
  exact wpAny_bind (wpAny_isInstance (T := "StopIteration") (b := true) ⟨o, ho, hc⟩ isSubtype_stop (wpAny_pure (hQ _ hk)))
/-- the state of such a zip while at d something grows -/
def ZSt (z TI TO i1 i2 l1 l2 d : Addr) (xs ys : Array Value) (i : Nat) (h : Heap) : Prop := Two h TI i1 i2 l1 l2 i xs ys ∧
  ((IsZip h z TI TO .none ∧ ∃ a b, IsPair h TO a b) ∨ ∃ T f oT, IsZipHeld h z TI TO T f ∧ h.get? T = some oT ∧ T ≠ z ∧ T ≠ i1 ∧ T ≠ i2 ∧ T ≠ d)
theorem zst_item {d : Addr} {i : Nat} {Q : Option Value → Shared → Prop} (D : ZipApart z TI TO i1 i2 l1 l2) (hi : i < min xs.size ys.size) (st : ZSt z TI TO i1 i2 l1 l2 d xs ys i s.heap) (hds : d < s.heap.objs.size)
    (hQ : ∀ h' x y, xs[i]? = some x → ys[i]? = some y → IsPair h' s.heap.objs.size x y → ZSt z TI TO i1 i2 l1 l2 d xs ys (i + 1) h' → (∀ b o, b ∉ [z, TO, i1, i2] → s.heap.get? b = some o → h'.get? b = some o) → Q (some (.ref s.heap.objs.size)) { s with heap := h' }) : wpAny (model prog w) A (pyNext (.ref z)) Q E s := by
  obtain ⟨t, q⟩ := st
  have ex := Array.getElem?_eq_getElem (xs := xs) (i := i) (by omega)
  have ey := Array.getElem?_eq_getElem (xs := ys) (i := i) (by omega)
  have lt : ∀ {c o}, s.heap.get? c = some o → s.heap.objs.size ≠ c := fun e => Nat.ne_of_gt (Heap.lt_size e)
  have n1 : s.heap.objs.size ≠ i1 := let ⟨_, e, _⟩ := t.a; lt e
  have n2 : s.heap.objs.size ≠ i2 := let ⟨_, e, _⟩ := t.b; lt e
  rcases q with ⟨hz, u, v, hTO⟩ | ⟨T, f, oT, hz, hT, r1, r2, r3, r4⟩
  · refine pyNext_zipT_item D hz t.ti hTO t.a t.b t.la t.lb ex ey fun h' a1 a2 a3 a4 a5 a6 hk => ?_
    exact hQ h' _ _ ex ey a5 ⟨⟨hk _ _ D.TIz D.TITO D.TIi1 D.TIi2 t.ti, a3, a4, t.la.at fun o e => hk _ o D.l1z D.l1TO D.l1i1 D.l1i2 e, t.lb.at fun o e => hk _ o D.l2z D.l2TO D.l2i1 D.l2i2 e⟩,
      .inr ⟨s.heap.objs.size, false, _, a1, a5, lt hz, n1, n2, Nat.ne_of_gt hds⟩⟩ fun c o hc e => by
        simp only [List.mem_cons, List.not_mem_nil, or_false, not_or] at hc
        exact hk c o hc.1 hc.2.1 hc.2.2.1 hc.2.2.2 e
  · refine next_held_item D hz hT t ex ey fun h' a1 a3 a4 a5 hk => ?_
    exact hQ h' _ _ ex ey a5 ⟨⟨hk _ _ D.TIz D.TIi1 D.TIi2 t.ti, a3, a4, t.la.at fun o e => hk _ o D.l1z D.l1i1 D.l1i2 e, t.lb.at fun o e => hk _ o D.l2z D.l2i1 D.l2i2 e⟩,
      .inr ⟨T, true, oT, a1, hk _ _ r1 r2 r3 hT, r1, r2, r3, r4⟩⟩ fun c o hc e => by
        simp only [List.mem_cons, List.not_mem_nil, or_false, not_or] at hc
        exact hk c o hc.1 hc.2.2.1 hc.2.2.2 e
theorem zst_done {d : Addr} {Q : Option Value → Shared → Prop} (hA : A.handled = none) (D : ZipApart z TI TO i1 i2 l1 l2) (st : ZSt z TI TO i1 i2 l1 l2 d xs ys (min xs.size ys.size) s.heap)
    (hQ : ∀ h', (∀ b o, b ∉ [z, TO, i1, i2] → s.heap.get? b = some o → h'.get? b = some o) → Q none { s with heap := h' }) : wpAny (model prog w) A (pyNext (.ref z)) Q E s := by
  obtain ⟨t, q⟩ := st
  have he : xs[min xs.size ys.size]? = none ∨ ys[min xs.size ys.size]? = none := by
    rcases Nat.le_total xs.size ys.size with h | h
    · exact .inl (Array.getElem?_eq_none (by omega))
    · exact .inr (Array.getElem?_eq_none (by omega))
  rcases q with ⟨hz, u, v, hTO⟩ | ⟨T, f, oT, hz, hT, r1, r2, r3, r4⟩
  · refine pyNext_zipT_end hA D hz t.ti hTO t.a t.b t.la t.lb he fun h' hk => hQ h' fun c o hc e => ?_
    simp only [List.mem_cons, List.not_mem_nil, or_false, not_or] at hc
    exact hk c o hc.1 hc.2.1 hc.2.2.1 hc.2.2.2 e
  · refine next_held_end hA D hz hT t he fun h' hk => hQ h' fun c o hc e => ?_
    simp only [List.mem_cons, List.not_mem_nil, or_false, not_or] at hc
    exact hk c o hc.1 hc.2.2.1 hc.2.2.2 e
theorem zst_frame {d : Addr} {i : Nat} {h h' : Heap} (n : d ≠ z ∧ d ≠ TI ∧ d ≠ TO ∧ d ≠ i1 ∧ d ≠ i2 ∧ d ≠ l1 ∧ d ≠ l2) (st : ZSt z TI TO i1 i2 l1 l2 d xs ys i h) (hk : ∀ b o, b ≠ d → h.get? b = some o → h'.get? b = some o) : ZSt z TI TO i1 i2 l1 l2 d xs ys i h' := by
  obtain ⟨dz, dTI, dTO, d1, d2, e1, e2⟩ := n
  obtain ⟨⟨ti, a, b, la, lb⟩, q⟩ := st
  refine ⟨⟨hk _ _ (Ne.symm dTI) ti, a.at fun o e => hk _ o (Ne.symm d1) e, b.at fun o e => hk _ o (Ne.symm d2) e, la.at fun o e => hk _ o (Ne.symm e1) e, lb.at fun o e => hk _ o (Ne.symm e2) e⟩, ?_⟩
  rcases q with ⟨hz, u, v, hTO⟩ | ⟨T, f, oT, hz, hT, r1, r2, r3, r4⟩
  · exact .inl ⟨hk _ _ (Ne.symm dz) hz, u, v, hk _ _ (Ne.symm dTO) hTO⟩
  · exact .inr ⟨T, f, oT, hk _ _ (Ne.symm dz) hz, hk _ _ r4 hT, r1, r2, r3, r4⟩
theorem zipSrc (hA : A.handled = none) {d : Addr} (D : ZipApart z TI TO i1 i2 l1 l2) (n : d ≠ z ∧ d ≠ TI ∧ d ≠ TO ∧ d ≠ i1 ∧ d ≠ i2 ∧ d ≠ l1 ∧ d ≠ l2) (xs ys : Array Value) :
    PairSrc prog w A z d [z, TO, i1, i2] (min xs.size ys.size) (fun i k v => xs[i]? = some k ∧ ys[i]? = some v) (ZSt z TI TO i1 i2 l1 l2 d xs ys) where
  off := by simp [n.1, n.2.2.1, n.2.2.2.1, n.2.2.2.2.1]
  frame := fun i h h' st hk => zst_frame n st hk
  item := fun i s1 Q1 E1 hi st hds hQ => zst_item D hi st hds fun h' x y ex ey hp st' hk => hQ s1.heap.objs.size _ _ h' s1.toks ⟨ex, ey⟩ (.inl ⟨_, hp, rfl, _, rfl⟩) st' hk
  done := fun s1 Q1 E1 st hQ => zst_done hA D st fun h' hk => hQ h' s1.toks hk
theorem PairArg.zipT (z TI TO i1 i2 l1 l2 : Addr) (D : ZipApart z TI TO i1 i2 l1 l2) (xs ys : Array Value) :
    PairArg prog w "zip" z [z, TI, TO, i1, i2, l1, l2] [z, TO, i1, i2] (min xs.size ys.size) (fun i k v => xs[i]? = some k ∧ ys[i]? = some v) (fun h => Two h TI i1 i2 l1 l2 0 xs ys ∧ IsZip h z TI TO .none ∧ ∃ a b, IsPair h TO a b) where
  type := fun s ok => ⟨_, ok.2.1, rfl⟩
  notDict := by decide
  keep := fun h h' ⟨⟨ti, a, b, la, lb⟩, hz, u, v, hTO⟩ hk => ⟨⟨hk _ _ ti, a.at fun o e => hk _ o e, b.at fun o e => hk _ o e, la.at fun o e => hk _ o e, lb.at fun o e => hk _ o e⟩, hk _ _ hz, u, v, hk _ _ hTO⟩
  there := fun h ⟨⟨ti, ⟨oa, a, _⟩, ⟨ob, b, _⟩, ⟨oc, la, _⟩, ⟨od, lb, _⟩⟩, hz, u, v, hTO⟩ b hb => by
    simp only [List.mem_cons, List.not_mem_nil, or_false] at hb
    rcases hb with rfl | rfl | rfl | rfl | rfl | rfl | rfl
    · exact ⟨_, hz⟩
    · exact ⟨_, ti⟩
    · exact ⟨_, hTO⟩
    · exact ⟨_, a⟩
    · exact ⟨_, b⟩
    · exact ⟨_, la⟩
    · exact ⟨_, lb⟩
  sub := fun b hb => by simp at hb ⊢; rcases hb with rfl | rfl | rfl | rfl <;> simp
  noKeys := fun A s Q E hA ok h => getAttrOr_miss_zip ok.2.1 rfl rfl rfl zip_no_keys (by decide +kernel) hA h
  iter := fun A s d Q E hA ok hd hdf h => by
    simp only [List.mem_cons, List.not_mem_nil, or_false, not_or] at hdf
    exact wpAny_pyIter_zip ok.2.1 (h z [z, TO, i1, i2] (ZSt z TI TO i1 i2 l1 l2 d xs ys) s.heap s.toks (zipSrc hA D hdf xs ys) ⟨ok.1, .inl ok.2⟩ (fun _ _ e => e) fun b hb => .inl hb)
end
/-! ### list(zip(a, b)) -/
section
variable {prog : Program} {w : World} {A : Around} {E : Value → Shared → Prop} {s : Shared} {R : Result → Shared → Prop} {z TI TO i1 i2 l1 l2 S : Addr} {xs ys : Array Value}
/-- the pairs so far, at addresses of their own -/
def PairsTo (N : Nat) (h : Heap) (acc : Array Value) (xs ys : Array Value) (i : Nat) : Prop := acc.size = i ∧ ∀ j, j < i → ∃ T x y, acc[j]? = some (.ref T) ∧ xs[j]? = some x ∧ ys[j]? = some y ∧ IsPair h T x y ∧ N ≤ T
theorem ne_low {a b N : Addr} (h : a < N) (h2 : N ≤ b) : b ≠ a := Nat.ne_of_gt (Nat.lt_of_lt_of_le h h2)
theorem loop_src (hA : A.in1.handled = none) (D : ZipApart z TI TO i1 i2 l1 l2) (n : S ≠ z ∧ S ≠ TI ∧ S ≠ TO ∧ S ≠ i1 ∧ S ≠ i2 ∧ S ≠ l1 ∧ S ≠ l2) (N : Nat) (nz : S < N ∧ z < N ∧ TO < N ∧ i1 < N ∧ i2 < N) (res : Value) (hn : min xs.size ys.size ≤ sizeLine) (h0 : Heap) :
    ∀ (k i : Nat) (s : Shared) (acc : Array Value) (c : Nat), min xs.size ys.size - i = k → i ≤ min xs.size ys.size → ZSt z TI TO i1 i2 l1 l2 S xs ys i s.heap → s.heap.get? S = some { cls := .type "list", dict := none, data := .seq acc c, slots := #[] } → PairsTo N s.heap acc xs ys i →
      N ≤ s.heap.objs.size → (∀ b o, b ≠ S → b ∉ [z, TO, i1, i2] → h0.get? b = some o → s.heap.get? b = some o) →
      (∀ h' acc' c', h'.get? S = some { cls := .type "list", dict := none, data := .seq acc' c', slots := #[] } → PairsTo N h' acc' xs ys (min xs.size ys.size) → (∀ b o, b ≠ S → b ∉ [z, TO, i1, i2] → h0.get? b = some o → h'.get? b = some o) → R (.ok (.ret res)) { s with heap := h' }) →
      codeAny (model prog w) A (.builtin "list.extend.loop" ⟨[.ref S, .ref z, res], []⟩) R s := by
  intro k
  induction k with
  | zero =>
    intro i s acc c hk hi st hS hp hN keep hR
    obtain rfl : i = min xs.size ys.size := by omega
    refine codeAny_builtin F.entry_extend_loop ?_
    rw [Around.under_plainId F.plain_extend_loop _]
    refine wpAny_bind (zst_done hA D st fun h' k => wpAny_pure (hR h' acc c (k _ _ ?_ hS) ⟨hp.1, fun j hj => ?_⟩ fun b o h1 h2 e => k b o h2 (keep b o h1 h2 e)))
    · simp only [List.mem_cons, List.not_mem_nil, or_false, not_or]
      exact ⟨n.1, n.2.2.1, n.2.2.2.1, n.2.2.2.2.1⟩
    · obtain ⟨T, x, y, e1, e2, e3, e4, e5⟩ := hp.2 j hj
      refine ⟨T, x, y, e1, e2, e3, k _ _ ?_ e4, e5⟩
      simp only [List.mem_cons, List.not_mem_nil, or_false, not_or]
      exact ⟨ne_low nz.2.1 e5, ne_low nz.2.2.1 e5, ne_low nz.2.2.2.1 e5, ne_low nz.2.2.2.2 e5⟩
  | succ k ih =>
    intro i s acc c hk hi st hS hp hN keep hR
    have hlt : i < min xs.size ys.size := by omega
    refine codeAny_builtin F.entry_extend_loop ?_
    rw [Around.under_plainId F.plain_extend_loop _]
    refine wpAny_bind (zst_item D hlt st (Nat.lt_of_lt_of_le nz.1 hN) fun h' x y ex ey hpr st' hk' => ?_)
    have nS : S ∉ [z, TO, i1, i2] := by
      simp only [List.mem_cons, List.not_mem_nil, or_false, not_or]
      exact ⟨n.1, n.2.2.1, n.2.2.2.1, n.2.2.2.2.1⟩
    have hS' := hk' _ _ nS hS
    show wpAny _ A.in1 (updateSeq S (·.push (.ref s.heap.objs.size)) >>= _) _ _ _
    refine wpAny_bind ?_
    have oth : ∀ b o, b ≠ S → h'.get? b = some o → (h'.update S (Obj.mapSeq (·.push (Value.ref s.heap.objs.size)))).get? b = some o := fun b o hb e => (Heap.get?_update_other _ _ (Ne.symm hb)).trans e
    have hsz : (h'.update S (Obj.mapSeq (·.push (Value.ref s.heap.objs.size)))).objs.size = h'.objs.size := Heap.size_update ..
    have hs2 : s.heap.objs.size < h'.objs.size := Heap.lt_size hpr
    refine wpAny_updateSeq hS' rfl (wpAny_pure ⟨plainId_quiet F.plain_extend_loop _, ih (i + 1) _ (acc.push (.ref s.heap.objs.size)) _ (by omega) hlt (zst_frame n st' fun b o hb e => oth b o hb e) (Heap.get?_update_self _ hS' rfl) ⟨by rw [Array.size_push, hp.1], fun j hj => ?_⟩ (by show N ≤ _; rw [hsz]; omega) (fun b o h1 h2 e => oth b o h1 (hk' b o h2 (keep b o h1 h2 e))) hR⟩)
      (by rw [hp.1]; omega) (by show (acc.push _).size ≤ sizeLine + 1; rw [Array.size_push, hp.1]; omega)
    by_cases hj2 : j < i
    · obtain ⟨T, x, y, e1, e2, e3, e4, e5⟩ := hp.2 j hj2
      refine ⟨T, x, y, by rw [Array.getElem?_push_lt (by rw [hp.1]; exact hj2)]; rw [← Array.getElem?_eq_getElem (by rw [hp.1]; exact hj2)]; exact e1, e2, e3, oth _ _ (ne_low nz.1 e5) (hk' _ _ ?_ e4), e5⟩
      simp only [List.mem_cons, List.not_mem_nil, or_false, not_or]
      exact ⟨ne_low nz.2.1 e5, ne_low nz.2.2.1 e5, ne_low nz.2.2.2.1 e5, ne_low nz.2.2.2.2 e5⟩
    · obtain rfl : j = i := by omega
      refine ⟨s.heap.objs.size, x, y, ?_, ex, ey, oth _ _ (ne_low nz.1 hN) hpr, hN⟩
      have := Array.getElem?_push_size (xs := acc) (x := Value.ref s.heap.objs.size)
      rw [hp.1] at this
      exact this
theorem zip_no_len : typeLookup (.type "zip") "__len__" = pure none := by rw [typeLookup_type, builtinLookup_eq_fast]; kernel_rfl
theorem zip_no_hint : typeLookup (.type "zip") "__length_hint__" = pure none := by rw [typeLookup_type, builtinLookup_eq_fast]; kernel_rfl
theorem hint_zip {Q : Bool → Shared → Prop} (hT : s.TypeIs (.ref z) "zip") (h : Q true s) : wpAny (model prog w) A (Builtin.List.listLengthHint (.ref z)) Q E s := by
  unfold Builtin.List.listLengthHint
  refine wpAny_bind (wpAny_specialOf hT zip_no_len ?_)
  show wpAny _ _ (specialOf (Value.ref z) (Str.ofString "__length_hint__") >>= _) _ _ _
  refine wpAny_bind (wpAny_specialOf hT zip_no_hint ?_)
  exact wpAny_pure h
theorem extend_zip (hA : A.in1.handled = none) (D : ZipApart z TI TO i1 i2 l1 l2) (n : S ≠ z ∧ S ≠ TI ∧ S ≠ TO ∧ S ≠ i1 ∧ S ≠ i2 ∧ S ≠ l1 ∧ S ≠ l2) (st : Two s.heap TI i1 i2 l1 l2 0 xs ys ∧ IsZip s.heap z TI TO .none ∧ ∃ a b, IsPair s.heap TO a b) (hn : min xs.size ys.size ≤ sizeLine) (res : Value) (c0 : Nat) (hS : s.heap.get? S = some { cls := .type "list", data := .seq #[] c0 })
    (hR : ∀ h' acc' c', h'.get? S = some { cls := .type "list", dict := none, data := .seq acc' c', slots := #[] } → PairsTo s.heap.objs.size h' acc' xs ys (min xs.size ys.size) → (∀ b o, b ≠ S → b ∉ [z, TO, i1, i2] → s.heap.get? b = some o → h'.get? b = some o) → R (.ok (.ret res)) { s with heap := h' }) :
    wpAny (model prog w) A.in1 (Builtin.List.listExtendWith (.ref S) (.ref z) res)
      (fun fin s' => match fin with | .done f => R (.ok f) s' | .again c' => c'.quiet = true ∧ codeAny (model prog w) A c' R s') (fun e s' => R (.error e) s') s := by
  have zT : s.TypeIs (.ref z) "zip" := ⟨_, st.2.1, rfl⟩
  have low : S < s.heap.objs.size ∧ z < s.heap.objs.size ∧ TO < s.heap.objs.size ∧ i1 < s.heap.objs.size ∧ i2 < s.heap.objs.size := by
    obtain ⟨⟨_, ⟨_, a, _⟩, ⟨_, b, _⟩, _, _⟩, hz, _, _, hTO⟩ := st
    exact ⟨Heap.lt_size hS, Heap.lt_size hz, Heap.lt_size hTO, Heap.lt_size a, Heap.lt_size b⟩
  have key : ∀ (h : Heap) (c1 : Nat), h.objs.size = s.heap.objs.size → (∀ b o, b ≠ S → s.heap.get? b = some o → h.get? b = some o) → h.get? S = some { cls := .type "list", data := .seq #[] c1 } →
      codeAny (model prog w) A (.builtin "list.extend.loop" ⟨[.ref S, .ref z, res], []⟩) R { s with heap := h } := fun h c1 hz k hS1 => by
    refine loop_src hA D n s.heap.objs.size low res hn s.heap _ 0 { s with heap := h } #[] c1 rfl (Nat.zero_le _) (zst_frame n (show ZSt z TI TO i1 i2 l1 l2 S xs ys 0 s.heap from ⟨st.1, .inl st.2⟩) k) hS1 ⟨rfl, fun j hj => absurd hj (Nat.not_lt_zero _)⟩ (Nat.le_of_eq hz.symm) (fun b o h1 _ e => k b o h1 e) hR
  unfold Builtin.List.listExtendWith
  refine wpAny_bind (wpAny_typeOf (T := "zip") zT ?_)
  have h1 : Builtin.List.listSameRef (.ref S) (.ref z) = false := by simp [Builtin.List.listSameRef, n.1]
  have h2 : (Value.type "zip" == Value.type "list") = false := by decide
  have h3 : (Value.type "zip" == Value.type "tuple") = false := by decide
  simp only [h1, h2, h3, Bool.or_false, Bool.false_eq_true, if_false]
  refine wpAny_bind (wpAny_pyIter_zip st.2.1 (wpAny_bind (wpAny_holding (hint_zip zT ?_))))
  refine wpAny_ite_split (fun _ => ?_) (fun _ => wpAny_pure ⟨plainId_quiet PySem.F.plain_extend_loop _, key _ c0 rfl (fun b o _ e => e) hS⟩)
  refine wpAny_bind (wpAny_rule (wpAny_bind ?_))
  show wpAny _ _ (updateSeq S (·.push .none) >>= fun _ => updateSeq S (·.pop)) _ _ _
  refine wpAny_bind (wpAny_updateSeq hS rfl ?_)
  have hS2 := Heap.get?_update_self (Obj.mapSeq (·.push Value.none)) hS rfl
  refine wpAny_updateSeq (hz := by seq_fits) hS2 rfl ?_
  have hS3 := Heap.get?_update_self (Obj.mapSeq (·.pop)) hS2 rfl
  exact wpAny_pure ⟨plainId_quiet PySem.F.plain_extend_loop _, key _ _ (by rw [Heap.size_update, Heap.size_update]) (fun b o hb e => (Heap.get?_update_other _ _ (Ne.symm hb)).trans ((Heap.get?_update_other _ _ (Ne.symm hb)).trans e)) hS3⟩
theorem init_zip (hA : A.in1.handled = none) (D : ZipApart z TI TO i1 i2 l1 l2) (n : S ≠ z ∧ S ≠ TI ∧ S ≠ TO ∧ S ≠ i1 ∧ S ≠ i2 ∧ S ≠ l1 ∧ S ≠ l2) (st : Two s.heap TI i1 i2 l1 l2 0 xs ys ∧ IsZip s.heap z TI TO .none ∧ ∃ a b, IsPair s.heap TO a b) (hn : min xs.size ys.size ≤ sizeLine) (hS : s.heap.get? S = some { cls := .type "list", data := .seq #[] })
    (hR : ∀ h' acc' c', h'.get? S = some { cls := .type "list", dict := none, data := .seq acc' c', slots := #[] } → PairsTo s.heap.objs.size h' acc' xs ys (min xs.size ys.size) → (∀ b o, b ≠ S → b ∉ [z, TO, i1, i2] → s.heap.get? b = some o → h'.get? b = some o) → R (.ok (.ret .none)) { s with heap := h' }) :
    wpAny (model prog w) A.in1 (Builtin.«list.__init__» ⟨[.ref S, .ref z], []⟩)
      (fun fin s' => match fin with | .done f => R (.ok f) s' | .again c' => c'.quiet = true ∧ codeAny (model prog w) A c' R s') (fun e s' => R (.error e) s') s := by
  show wpAny _ _ (do let old ← Builtin.List.listItems (.ref S); Builtin.List.listUpdate (.ref S) (fun _ => #[]); letGo old.toList.reverse; Builtin.List.listExtendWith (.ref S) (.ref z) .none) _ _ s
  refine wpAny_bind ?_
  unfold Builtin.List.listItems
  refine wpAny_bind (wpAny_seqItems hS rfl (wpAny_pure ?_))
  show wpAny _ _ (updateSeq S (fun _ => #[]) >>= fun _ => letGo (#[] : Array Value).toList.reverse >>= fun _ => Builtin.List.listExtendWith (.ref S) (.ref z) .none) _ _ s
  refine wpAny_bind (wpAny_updateSeq hS rfl ?_)
  have hS₂ := Heap.get?_update_self (Obj.mapSeq (fun _ => (#[] : Array Value))) hS rfl
  have oth : ∀ b o, b ≠ S → s.heap.get? b = some o → (s.heap.update S (Obj.mapSeq (fun _ => (#[] : Array Value)))).get? b = some o :=
    fun b o hb e => (Heap.get?_update_other _ _ (Ne.symm hb)).trans e
  refine wpAny_bind (wpAny_letGo ?_)
  obtain ⟨⟨ti, a, b, la, lb⟩, hz, u, v, hTO⟩ := st
  obtain ⟨n1, n2, n3, n4, n5, n6, n7⟩ := n
  refine extend_zip (s := { s with heap := s.heap.update S (Obj.mapSeq (fun _ => (#[] : Array Value))) }) hA D ⟨n1, n2, n3, n4, n5, n6, n7⟩ ⟨⟨oth _ _ (Ne.symm n2) ti, a.at fun o e => oth _ _ (Ne.symm n4) e, b.at fun o e => oth _ _ (Ne.symm n5) e, la.at fun o e => oth _ _ (Ne.symm n6) e, lb.at fun o e => oth _ _ (Ne.symm n7) e⟩, oth _ _ (Ne.symm n1) hz, u, v, oth _ _ (Ne.symm n3) hTO⟩ hn .none _ hS₂ (fun h' acc' c' h1 h2 h3 => ?_)
  refine hR h' acc' c' h1 ?_ fun c o hc1 hc2 e => h3 c o hc1 hc2 (oth c o hc1 e)
  rw [show ({ s with heap := s.heap.update S (Obj.mapSeq (fun _ => (#[] : Array Value))) } : Shared).heap.objs.size = s.heap.objs.size from Heap.size_update ..] at h2
  exact h2
theorem call_list_zip {Q : Value → Shared → Prop} (hA : A.in1.handled = none) (D : ZipApart z TI TO i1 i2 l1 l2) (st : Two s.heap TI i1 i2 l1 l2 0 xs ys ∧ IsZip s.heap z TI TO .none ∧ ∃ a b, IsPair s.heap TO a b) (hn : min xs.size ys.size ≤ sizeLine)
    (hQ : ∀ h' acc' c', h'.get? s.heap.objs.size = some { cls := .type "list", dict := none, data := .seq acc' c', slots := #[] } → PairsTo (s.heap.objs.size + 1) h' acc' xs ys (min xs.size ys.size) → (∀ b o, b ∉ [z, TO, i1, i2] → s.heap.get? b = some o → h'.get? b = some o) → Q (.ref s.heap.objs.size) { s with heap := h' }) :
    wpAny (model prog w) A (call (.type "list") [.ref z]) Q E s := by
  refine callType_codes (Q₁ := fun obj s₁ => obj = .ref s.heap.objs.size ∧ s₁ = { s with heap := s.heap.push { cls := .type "list", data := .seq #[] } }) PySem.F.called_list (PySem.F.typeCall_list_1 _) PySem.F.entry_list_init
    (code_list_new _ ⟨rfl, rfl⟩) fun obj s₁ h₁ => ?_
  obtain ⟨rfl, rfl⟩ := h₁
  have hS : (s.heap.push { cls := .type "list", data := .seq #[] }).get? s.heap.objs.size = some { cls := .type "list", data := .seq #[] } := Heap.get?_push_size _ rfl
  have p1 : ∀ b o, s.heap.get? b = some o → (s.heap.push { cls := .type "list", data := .seq #[] }).get? b = some o := fun b o e => Heap.get?_push_of_some _ e
  have sz : (s.heap.push { cls := .type "list", data := .seq #[] }).objs.size = s.heap.objs.size + 1 := by simp [Heap.push]
  obtain ⟨⟨ti, a, b, la, lb⟩, hz, u, v, hTO⟩ := st
  have lt : ∀ {c o}, s.heap.get? c = some o → s.heap.objs.size ≠ c := fun e => Nat.ne_of_gt (Heap.lt_size e)
  have ns : s.heap.objs.size ≠ z ∧ s.heap.objs.size ≠ TI ∧ s.heap.objs.size ≠ TO ∧ s.heap.objs.size ≠ i1 ∧ s.heap.objs.size ≠ i2 ∧ s.heap.objs.size ≠ l1 ∧ s.heap.objs.size ≠ l2 :=
    ⟨lt hz, lt ti, lt hTO, let ⟨_, e, _⟩ := a; lt e, let ⟨_, e, _⟩ := b; lt e, let ⟨_, e, _⟩ := la; lt e, let ⟨_, e, _⟩ := lb; lt e⟩
  refine ⟨⟨_, hS, rfl⟩, PySem.F.args_list_init_2 _ _, init_zip (s := { s with heap := s.heap.push { cls := .type "list", data := .seq #[] } }) (A := A.in1) hA D ns ⟨⟨p1 _ _ ti, a.at fun o e => p1 _ _ e, b.at fun o e => p1 _ _ e, la.at fun o e => p1 _ _ e, lb.at fun o e => p1 _ _ e⟩, p1 _ _ hz, u, v, p1 _ _ hTO⟩ hn hS (fun h' acc' c' h1 h2 h3 => ?_)⟩
  refine ⟨rfl, hQ h' acc' c' h1 ?_ fun b o hb e => h3 b o (Nat.ne_of_lt (Heap.lt_size e)) hb (p1 b o e)⟩
  have h2 : PairsTo (s.heap.push { cls := .type "list", data := .seq #[] }).objs.size h' acc' xs ys (min xs.size ys.size) := h2
  rw [sz] at h2
  exact h2
end
end RZ

set_option Elab.async false
set_option linter.all false
set_option maxRecDepth 100000
set_option maxHeartbeats 1000000
namespace Jr
open PySem PySem.Spec PyProof.Rows L2
/-! ### d[k] = v, and the merge of pairs -/
section
variable {P : Addr → Prop} {H : Hp} {K : PySem.W.Frag}
theorem rk_any (k : Key) : ∀ {kvs : List (D × D)} {vs : List (Key × V)}, RKs P H kvs vs → (kvs.any fun p => eqv p.1 (keyD k)) = (vs.any fun kv => decide (kv.1 = k))
  | _, _, .nil => rfl
  | _, _, .cons r t => by rw [List.any_cons, List.any_cons, rk_any k t, eqv_key]
theorem rk_map (k : Key) {d : D} {v : V} (q : RD P H d v) : ∀ {kvs : List (D × D)} {vs : List (Key × V)}, RKs P H kvs vs → RKs P H (kvs.map fun p => if eqv p.1 (keyD k) then (p.1, d) else p) (vs.map fun kv => if kv.1 = k then (kv.1, v) else kv)
  | _, _, .nil => .nil
  | _, _, .cons (k := k1) r t => by
    rw [List.map_cons, List.map_cons]
    dsimp only
    rw [eqv_key]
    by_cases e : k1 = k
    · rw [if_pos (decide_eq_true e), if_pos e]; exact .cons q (rk_map k q t)
    · rw [if_neg (by simp [e]), if_neg e]; exact .cons r (rk_map k q t)
theorem rk_snoc (k : Key) {d : D} {v : V} (q : RD P H d v) : ∀ {kvs : List (D × D)} {vs : List (Key × V)}, RKs P H kvs vs → RKs P H (kvs ++ [(keyD k, d)]) (vs ++ [(k, v)])
  | _, _, .nil => .cons q .nil
  | _, _, .cons r t => .cons r (rk_snoc k q t)
theorem rk_put (k : Key) {d : D} {v : V} (q : RD P H d v) {kvs : List (D × D)} {vs : List (Key × V)} (r : RKs P H kvs vs) : RKs P H (Jr.putK kvs (keyD k) d) (L2.putK vs k v) := by
  unfold Jr.putK L2.putK
  rw [rk_any k r]
  by_cases e : (vs.any fun kv => decide (kv.1 = k)) = true
  · rw [if_pos e, if_pos e]; exact rk_map k q r
  · rw [if_neg e, if_neg e]; exact rk_snoc k q r
theorem rk_len : ∀ {kvs : List (D × D)} {vs : List (Key × V)}, RKs P H kvs vs → kvs.length = vs.length
  | _, _, .nil => rfl
  | _, _, .cons r t => by rw [List.length_cons, List.length_cons, rk_len t]
theorem rk_fold : ∀ {ps : List (D × D)} {ks : List (Key × V)} {kvs : List (D × D)} {vs : List (Key × V)}, RKs P H ps ks → RKs P H kvs vs → RKs P H (ps.foldl (fun a p => Jr.putK a p.1 p.2) kvs) (L2.mergeK vs ks)
  | _, _, _, _, .nil, r => r
  | _, _, _, _, .cons (k := k1) q t, r => by
    have := rk_fold t (rk_put k1 q r)
    exact this
theorem rk_merge {ps : List (D × D)} {ks : List (Key × V)} (r : RKs P H ps ks) : RKs P H (Jr.mergeK ps) (L2.mergeK [] ks) := rk_fold r .nil
theorem rn_any (l : NKey) : ∀ {kvs : List (D × D)} {xs : List (NKey × Addr × V)}, RNs P H kvs xs → (kvs.any fun p => eqv p.1 (nkD l)) = (xs.any fun x => decide (x.1 = l))
  | _, _, .nil => rfl
  | _, _, .cons a r t => by rw [List.any_cons, List.any_cons, rn_any l t, eqv_nk]
theorem rn_map (l : NKey) {d : D} {v : V} (q : RD P H d v) : ∀ {kvs : List (D × D)} {xs : List (NKey × Addr × V)}, RNs P H kvs xs → RNs P H (kvs.map fun p => if eqv p.1 (nkD l) then (p.1, d) else p) (xs.map fun x => if x.1 = l then (x.1, x.2.1, v) else x)
  | _, _, .nil => .nil
  | _, _, .cons (l := l1) a r t => by
    rw [List.map_cons, List.map_cons]
    dsimp only
    rw [eqv_nk]
    by_cases e : l1 = l
    · rw [if_pos (decide_eq_true e), if_pos e]; exact .cons a q (rn_map l q t)
    · rw [if_neg (by simp [e]), if_neg e]; exact .cons a r (rn_map l q t)
theorem rn_snoc (l : NKey) {b : Addr} {d : D} {v : V} (a : RD P H (nkD l) (.ref b)) (q : RD P H d v) : ∀ {kvs : List (D × D)} {xs : List (NKey × Addr × V)}, RNs P H kvs xs → RNs P H (kvs ++ [(nkD l, d)]) (xs ++ [(l, b, v)])
  | _, _, .nil => .cons a q .nil
  | _, _, .cons a1 r t => .cons a1 r (rn_snoc l a q t)
theorem rn_put (l : NKey) {b : Addr} {d : D} {v : V} (a : RD P H (nkD l) (.ref b)) (q : RD P H d v) {kvs : List (D × D)} {xs : List (NKey × Addr × V)} (r : RNs P H kvs xs) : RNs P H (Jr.putK kvs (nkD l) d) (putN xs l b v) := by
  unfold Jr.putK putN
  rw [rn_any l r]
  by_cases e : (xs.any fun x => decide (x.1 = l)) = true
  · rw [if_pos e, if_pos e]; exact rn_map l q r
  · rw [if_neg e, if_neg e]; exact rn_snoc l a q r
theorem rn_len : ∀ {kvs : List (D × D)} {xs : List (NKey × Addr × V)}, RNs P H kvs xs → kvs.length = xs.length
  | _, _, .nil => rfl
  | _, _, .cons _ r t => by rw [List.length_cons, List.length_cons, rn_len t]
/-- what is put, told by the heap it makes -/
theorem DK.put {a : Addr} {y d : D} {w v : V} (ry : RD P H y w) (rd : RD P H d v) : ∀ {t : Bool} {kvs : List (D × D)}, DK P H a t kvs → keyOk t y = true → kvs.length ≤ 1000000 →
    ∃ o : HO, PutA K H a w v (upd H a o) ∧ ∀ P' H', Gr P H P' H' → H' a = Option.some o → DK P' H' a t (Jr.putK kvs y d)
  | false, kvs, ⟨vs, e, r⟩, ok, z => by
    cases ek : asKey y with
    | none => rw [keyOk, if_neg (by decide), ek] at ok; cases ok
    | some k =>
      have ey := asKey_eq ek
      subst ey
      have ew : w = kV k := by cases k <;> (cases ry; rfl)
      subst ew
      have hz : vs.length < sizeLine := by rw [← rk_len r]; exact Nat.lt_of_le_of_lt z (by decide)
      exact ⟨.dK (L2.putK vs k v), .inl (.k e hz), fun P' H' g e' => ⟨_, e', RKs.gr g _ _ (rk_put k rd r)⟩⟩
  | true, kvs, ⟨xs, e, r⟩, ok, z => by
    rw [keyOk, if_pos rfl] at ok
    cases ek : nkOfD y with
    | none => rw [ek] at ok; cases ok
    | some l =>
      have ey := nkOfD_eq ek
      subst ey
      obtain ⟨b, rfl, sb⟩ := nk_at (K := K) ry
      have hz : xs.length < sizeLine := by rw [← rn_len r]; exact Nat.lt_of_le_of_lt z (by decide)
      exact ⟨.ext (φN a (putN xs l b v)), .inr ⟨xs, l, b, rn_dict e r, rfl, sb, hz, rfl⟩, fun P' H' g e' => ⟨_, e', RNs.gr g _ _ (rn_put l ry rd r)⟩⟩
theorem HR.dctSet {L : Addr → Prop} {ρ : List Addr} {h : Hh} (hr : HR K L ρ h H) {n : Nat} {p : Addr} {c0 : Cell} {t : Bool} {kvs : List (D × D)} {o : HO} (e1 : ρ[n]? = some p) (e2 : h[n]? = some c0) (lv : live c0 = true)
    (dk : ∀ P' H', Gr (Pr L ρ h) H P' H' → H' p = some o → DK P' H' p t kvs) :
    HR K L ρ (h.set n (.dct t kvs)) (upd H p o) ∧ Stp L ρ h H ρ (h.set n (.dct t kvs)) (upd H p o) := by
  have lt : n < h.length := by
    rcases Nat.lt_or_ge n h.length with q | q
    · exact q
    · rw [List.getElem?_eq_none q] at e2; cases e2
  have pp : Pr L ρ h p := .inr ⟨n, c0, e1, e2, lv⟩
  have ne : ∀ a, L a → a ≠ p := fun a l z => hr.dis n p c0 e1 e2 lv (z ▸ l)
  have old : ∀ {i : Nat} {c : Cell}, (h.set n (.dct t kvs))[i]? = some c → (i = n ∧ c = .dct t kvs) ∨ (i ≠ n ∧ h[i]? = some c) := fun {i c} e => by
    by_cases q : n = i
    · subst q
      rw [List.getElem?_set_self lt] at e
      cases e
      exact .inl ⟨rfl, rfl⟩
    · rw [List.getElem?_set_ne q] at e
      exact .inr ⟨fun z => q z.symm, e⟩
  have prs : ∀ a, ¬ Pr L ρ h a → ¬ Pr L ρ (h.set n (.dct t kvs)) a := fun a np => by
    rintro (l | ⟨i, c, f1, f2, f3⟩)
    · exact np (.inl l)
    · rcases old f2 with ⟨rfl, _⟩ | ⟨_, g⟩
      · exact np (.inr ⟨_, c0, f1, e2, lv⟩)
      · exact np (.inr ⟨i, c, f1, g, f3⟩)
  have nep : ∀ a, ¬ Pr L ρ h a → a ≠ p := fun a np z => np (z ▸ pp)
  have g : Gr (Pr L ρ h) H (Pr L ρ (h.set n (.dct t kvs))) (upd H p o) := fun a u e q => ⟨by rw [upd_ne (nep a q)]; exact e, prs a q⟩
  have lv0 : ∀ {i : Nat} {c : Cell}, (h.set n (.dct t kvs))[i]? = some c → live c = true → ∃ c', h[i]? = some c' ∧ live c' = true := fun {i c} e l => by
    rcases old e with ⟨rfl, _⟩ | ⟨_, g⟩
    · exact ⟨c0, e2, lv⟩
    · exact ⟨c, g, l⟩
  refine ⟨⟨by rw [List.length_set]; exact hr.len, fun i j a ci cj f1 f2 f3 f4 l1 l2 => ?_, fun i a c f1 f2 f3 => ?_, fun a l => by rw [upd_ne (ne a l)]; exact hr.ltr a l, fun i a c f1 f2 => ?_⟩, g, fun a l => upd_ne (ne a l), fun _ _ e => e⟩
  · obtain ⟨c1, g1, m1⟩ := lv0 f3 l1
    obtain ⟨c2, g2, m2⟩ := lv0 f4 l2
    exact hr.nd i j a c1 c2 f1 f2 g1 g2 m1 m2
  · obtain ⟨c1, g1, m1⟩ := lv0 f2 f3
    exact hr.dis i a c1 f1 g1 m1
  · rcases old f2 with ⟨rfl, rfl⟩ | ⟨hn, g1⟩
    · rw [e1] at f1; cases f1
      exact dk _ _ g upd_same
    · have q := hr.cell i a c f1 g1
      have nea : live c = true → a ≠ p := fun l z => by
        subst z
        exact hn (hr.nd i n a c c0 f1 e1 g1 e2 l lv)
      cases c with
      | dead => trivial
      | ro es => obtain ⟨ws, x, z, r⟩ := q; exact ⟨ws, x.imp (fun ⟨np, u, e⟩ => ⟨(g _ _ e np).2, u, (g _ _ e np).1⟩) id, z, RDs.gr g _ _ r⟩
      | lst es => obtain ⟨ws, e, z, r⟩ := q; exact ⟨ws, by rw [upd_ne (nea rfl)]; exact e, z, RDs.gr g _ _ r⟩
      | dct _ es => exact DK.move g (upd_ne (nea rfl)) q
end
/-! ### dict(zip(a, b)) -/
section
variable {X : Cx} {a b : Expr} {ta : TA} {p p2 q pos : Pos}
def tDZip (K : PySem.W.Frag) (ta : TA) : TE := fun σ H Q => ta σ H fun vs H1 => ∃ (a b : Addr) (ks : List Key) (ys : List V), vs = [.ref a, .ref b] ∧ SqT K H1 a (ks.map kV) ∧ SqT K H1 b ys ∧ ∀ p, H1 p = none → Q (.ref p) (upd H1 p (.dK (L2.mergeK [] (ks.zip ys))))
theorem kv_zip : ∀ {ks : List Key} {ys : List V} {us : List Value}, Vals ys us → KV (ks.zip ys) (ks.zip us)
  | [], _, _, _ => .nil
  | _ :: _, _, _, .nil => .nil
  | _ :: _, _, _, .cons r t => .cons ⟨rfl, r⟩ (kv_zip t)
theorem keys_at : ∀ {ks : List Key} {us : List Value}, Vals (ks.map kV) us → ∀ (i : Nat) v, us[i]? = some v → ∃ z, ks[i]? = some z ∧ keyIs z v = true
  | [], _, .nil, i, v, e => by simp at e
  | .inl k :: ks, _, .cons r t, 0, v, e => by
    cases e
    obtain ⟨tk, rfl⟩ := r
    exact ⟨_, rfl, by simp [keyIs, Value.isInt]⟩
  | .inr z :: ks, _, .cons r t, 0, v, e => by
    cases e
    obtain ⟨tk, rfl⟩ := r
    exact ⟨_, rfl, by simp [keyIs, Value.isStrOf]⟩
  | z :: ks, _, .cons r t, i + 1, v, e => keys_at t i v (by simpa using e)
theorem len_zip_vals {ks : List Key} {its its2 : List Value} (h : Vals (ks.map kV) its) : (ks.zip its2).length = min its.toArray.size its2.toArray.size := by
  rw [List.length_zip, List.size_toArray, List.size_toArray, ← h.length, List.length_map]
theorem zip_rel {ks : List Key} {its its2 : List Value} (h : Vals (ks.map kV) its) {i : Nat} {key v : Value} (e1 : its.toArray[i]? = some key) (e2 : its2.toArray[i]? = some v) : ∃ k, (ks.zip its2)[i]? = some (k, v) ∧ keyIs k key = true := by
  obtain ⟨z, e3, e4⟩ := keys_at h i key (by simpa using e1)
  refine ⟨z, ?_, e4⟩
  rw [List.getElem?_zip_eq_some]
  exact ⟨e3, by simpa using e2⟩
theorem pe_dzip (hc : X.calm = true) (hg : Gl X "dict") (hm : X.mg "dict" = none) (hg2 : Gl X "zip") (hm2 : X.mg "zip" = none) (ha : PA X [a, b] ta) (hs : starEach [a, b] X.env = (false, eval a X.env) :: starEach [b] X.env)
    (hpl : (backTo q (starEach [b] X.env)).any (·.1) = false) : PE X (.Call (.Name "dict" p) [.Call (.Name "zip" p2) [a, b] [] q] [] pos) (tDZip X.K ta) := by
  refine ⟨fun pins s σ H Q I h => ?_⟩
  refine Call_ (ld_blt I hg hm PyProof.Rows.boot_dict ?_)
  refine callWith_type1 (args_cons ?_ rfl) rfl rfl
  refine Call_ (ld_blt I hg2 hm2 PyProof.Rows.boot_zip (callWith_type1 (thn (ha.run q pins s σ H _ I h) fun us s1 ⟨vs, H1, I1, r1, q1⟩ => ?_) hs hpl))
  obtain ⟨x, y, ks, ys, rfl, hqx, hqy, q1⟩ := q1
  obtain ⟨u1, u2, rfl, rx, ry⟩ := vals2 r1
  cases rx
  cases ry
  obtain ⟨its, rv, p1, z1⟩ := I1.tuple hqx
  obtain ⟨its2, rv2, p2', z2⟩ := I1.tuple hqy
  obtain ⟨o1, ho1, _⟩ := id p1
  obtain ⟨o2, ho2, _⟩ := id p2'
  refine RZ.call_zipT (show s1.heap.IsTuple x its.toArray from p1) (show s1.heap.IsTuple y its2.toArray from p2') fun h' hz hTI hTO h1 h2 hsz hk => args_nil ?_
  have D := PySem.W.ktu_apart s1.heap.objs.size x y (Heap.lt_size ho1) (Heap.lt_size ho2)
  have t1 : h'.IsTuple x its.toArray := Heap.IsTuple.at (show s1.heap.IsTuple x its.toArray from p1) fun o e => hk _ o e
  have t2 : h'.IsTuple y its2.toArray := Heap.IsTuple.at (show s1.heap.IsTuple y its2.toArray from p2') fun o e => hk _ o e
  have kv := kv_zip (ks := ks) rv2
  refine PySem.call_dict_pairs (knd := mixKind X.prog X.w) (kvs := ks.zip its2) (RZ.PairArg.zipT _ _ _ _ _ _ _ D its.toArray its2.toArray) (I1.ok.hd hc) ⟨⟨hTI, h1, h2, t1, t2⟩, hz, _, _, hTO⟩
    ⟨len_zip_vals rv, fun i key v ⟨e1, e2⟩ => zip_rel rv e1 e2⟩ (by rw [List.size_toArray, List.size_toArray, ← rv.length, ← rv2.length]; omega) fun h2 tk hd hk2 => ?_
  have k : ∀ b o, s1.heap.get? b = some o → h2.get? b = some o := fun b o e => by
    have hlt := Heap.lt_size e
    refine hk2 b o ?_ (hk b o e)
    simp only [List.mem_cons, List.not_mem_nil, or_false, not_or]
    refine ⟨Nat.ne_of_lt (Nat.lt_of_lt_of_le hlt (Nat.le_add_right _ _)), Nat.ne_of_lt (Nat.lt_of_lt_of_le hlt (Nat.le_add_right _ _)), Nat.ne_of_lt hlt, Nat.ne_of_lt (Nat.lt_of_lt_of_le hlt (Nat.le_add_right _ _))⟩
  have le : s1.heap.objs.size ≤ h'.objs.size := by rw [hsz]; exact Nat.le_add_right _ _
  have hm : (h'.objs.size == sysModules) = false := beq_eq_false_iff_ne.mpr (Nat.ne_of_gt (Nat.lt_of_lt_of_le I1.big le))
  have hlen : (L2.mergeK [] (ks.zip ys)).length ≤ sizeLine := by
    refine Nat.le_trans (length_mergeK _ []) ?_
    rw [List.length_nil, Nat.zero_add, List.length_zip]
    omega
  exact ⟨.ref h'.objs.size, upd H1 h'.objs.size (.dK (L2.mergeK [] (ks.zip ys))), I1.laid (t' := tk) k le (show ObjOk X.prog X.w _ _ _ (.dK (L2.mergeK [] (ks.zip ys))) from ⟨hlen, hm, merged [] (ks.zip its2), KV.merge kv .nil, hd⟩), rfl, q1 _ (I1.hok.fresh le)⟩
end
end Jr

set_option Elab.async false
set_option linter.all false
set_option maxRecDepth 100000
set_option maxHeartbeats 1000000
namespace Jr
open PySem PySem.Spec PyProof.Rows L2
section
variable {X : Cx} {a b : Expr} {ta : TA} {p p2 p3 q q2 pos : Pos}
/-- dict(list(zip(a, b))) -/
theorem pe_dlz (hc : X.calm = true) (hg : Gl X "dict") (hm : X.mg "dict" = none) (hg2 : Gl X "list") (hm2 : X.mg "list" = none) (hg3 : Gl X "zip") (hm3 : X.mg "zip" = none) (ha : PA X [a, b] ta) (hs : starEach [a, b] X.env = (false, eval a X.env) :: starEach [b] X.env)
    (hpl : (backTo q (starEach [b] X.env)).any (·.1) = false) : PE X (.Call (.Name "dict" p) [.Call (.Name "list" p2) [.Call (.Name "zip" p3) [a, b] [] q] [] q2] [] pos) (tDZip X.K ta) := by
  refine ⟨fun pins s σ H Q I h => ?_⟩
  refine Call_ (ld_blt I hg hm PyProof.Rows.boot_dict ?_)
  refine callWith_type1 (args_cons ?_ rfl) rfl rfl
  refine Call_ (ld_blt I hg2 hm2 PyProof.Rows.boot_list ?_)
  refine callWith_type1 (args_cons ?_ rfl) rfl rfl
  refine Call_ (ld_blt I hg3 hm3 PyProof.Rows.boot_zip (callWith_type1 (thn (ha.run q pins s σ H _ I h) fun us s1 ⟨vs, H1, I1, r1, q1⟩ => ?_) hs hpl))
  obtain ⟨x, y, ks, ys, rfl, hqx, hqy, q1⟩ := q1
  obtain ⟨u1, u2, rfl, rx, ry⟩ := vals2 r1
  cases rx
  cases ry
  obtain ⟨its, rv, p1, z1⟩ := I1.tuple hqx
  obtain ⟨its2, rv2, p2', z2⟩ := I1.tuple hqy
  obtain ⟨o1, ho1, _⟩ := id p1
  obtain ⟨o2, ho2, _⟩ := id p2'
  have hn : min its.toArray.size its2.toArray.size ≤ sizeLine := by rw [List.size_toArray, List.size_toArray, ← rv.length, ← rv2.length]; omega
  refine RZ.call_zipT (show s1.heap.IsTuple x its.toArray from p1) (show s1.heap.IsTuple y its2.toArray from p2') fun h' hz hTI hTO h1 h2 hsz hk => args_nil ?_
  have D := PySem.W.ktu_apart s1.heap.objs.size x y (Heap.lt_size ho1) (Heap.lt_size ho2)
  have t1 : h'.IsTuple x its.toArray := Heap.IsTuple.at (show s1.heap.IsTuple x its.toArray from p1) fun o e => hk _ o e
  have t2 : h'.IsTuple y its2.toArray := Heap.IsTuple.at (show s1.heap.IsTuple y its2.toArray from p2') fun o e => hk _ o e
  have kv := kv_zip (ks := ks) rv2
  refine RZ.call_list_zip (s := { s1 with heap := h' }) (I1.ok.hd hc) D ⟨⟨hTI, h1, h2, t1, t2⟩, hz, _, _, hTO⟩ hn fun h3 acc c hL hP hk3 => args_nil ?_
  have le : s1.heap.objs.size ≤ h'.objs.size := by rw [hsz]; exact Nat.le_add_right _ _
  have lL : h'.objs.size < h3.objs.size := Heap.lt_size hL
  have k3 : ∀ b o, s1.heap.get? b = some o → h3.get? b = some o := fun b o e => by
    have hlt := Heap.lt_size e
    refine hk3 b o ?_ (hk b o e)
    simp only [List.mem_cons, List.not_mem_nil, or_false, not_or]
    refine ⟨Nat.ne_of_lt (Nat.lt_of_lt_of_le hlt (Nat.le_add_right _ _)), Nat.ne_of_lt (Nat.lt_of_lt_of_le hlt (Nat.le_add_right _ _)), Nat.ne_of_lt hlt, Nat.ne_of_lt (Nat.lt_of_lt_of_le hlt (Nat.le_add_right _ _))⟩
  have lz := len_zip_vals (its2 := its2) rv
  refine L2.call_dict_pairs (s := { s1 with heap := h3 }) (prs := ks.zip its2) (I1.ok.hd hc) hL rfl rfl rfl (by rw [hP.1, lz]) (by rw [lz]; exact hn) (fun j q' e => ?_) fun h4 tk hd hk4 => ?_
  · have hj : j < min its.toArray.size its2.toArray.size := by
      rw [← lz]
      exact (List.getElem?_eq_some_iff.mp e).1
    obtain ⟨T, u, w, e1, e2, e3, e4, _⟩ := hP.2 j hj
    obtain ⟨k, e5, e6⟩ := zip_rel rv e2 e3
    rw [e] at e5
    cases e5
    exact ⟨T, u, e1, ⟨_, e4, rfl, _, rfl⟩, e6⟩
  · have le2 : s1.heap.objs.size ≤ h3.objs.size := Nat.le_of_lt (Nat.lt_of_le_of_lt le lL)
    have hm : (h3.objs.size == sysModules) = false := beq_eq_false_iff_ne.mpr (Nat.ne_of_gt (Nat.lt_of_lt_of_le I1.big le2))
    have hlen : (L2.mergeK [] (ks.zip ys)).length ≤ sizeLine := by
      refine Nat.le_trans (length_mergeK _ []) ?_
      rw [List.length_nil, Nat.zero_add, List.length_zip]
      omega
    exact ⟨.ref h3.objs.size, upd H1 h3.objs.size (.dK (L2.mergeK [] (ks.zip ys))), I1.laid (t' := tk) (fun b o e => hk4 b o (k3 b o e)) le2 (show ObjOk X.prog X.w _ _ _ (.dK (L2.mergeK [] (ks.zip ys))) from ⟨hlen, hm, merged [] (ks.zip its2), KV.merge kv .nil, hd⟩), rfl, q1 _ (I1.hok.fresh le2)⟩
end
section
variable {P : Addr → Prop} {H : Hp}
theorem keysD_rel : ∀ {ks : List Key} {vs : List V}, RDs P H (ks.map keyD) vs → vs = ks.map kV
  | [], _, .nil => rfl
  | .inl k :: ks, _, .cons r t => by cases r; rw [List.map_cons, ← keysD_rel t]; rfl
  | .inr k :: ks, _, .cons r t => by cases r; rw [List.map_cons, ← keysD_rel t]; rfl
theorem rk_zip : ∀ {ks : List Key} {vs : List V} {ds : List D} {ws : List V}, RDs P H ds ws → RKs P H ((ks.map keyD).zip ds) (ks.zip ws)
  | [], _, _, _, _ => .nil
  | _ :: _, _, _, _, .nil => .nil
  | _ :: ks, _, _, _, .cons r t => .cons r (rk_zip (vs := []) t)
theorem keys_all : ∀ {xs : List D}, xs.all (fun k => (asKey k).isSome) = true → ∃ ks : List Key, xs = ks.map keyD
  | [], _ => ⟨[], rfl⟩
  | x :: xs, h => by
    rw [List.all_cons, Bool.and_eq_true] at h
    obtain ⟨ks, rfl⟩ := keys_all h.2
    cases e : asKey x with
    | none => rw [e] at h; cases h.1
    | some k => exact ⟨k :: ks, by rw [asKey_eq e]; rfl⟩
theorem dzipV_ok {x y : D} {kvs : List (D × D)} (h : dzipV x y = some kvs) : ∃ (ks : List Key) (ys : List D), x = .tuple (ks.map keyD) ∧ y = .tuple ys ∧ kvs = Jr.mergeK ((ks.map keyD).zip ys) := by
  unfold dzipV at h
  split at h
  · split at h
    · rename_i q
      obtain ⟨ks, rfl⟩ := keys_all q.2.2
      cases h
      exact ⟨ks, _, rfl, rfl, rfl⟩
    · cases h
  · cases h
end
section
variable {X : Cx} {C : Nat → Option Value} {W : WX} {a b c e : Expr} {eva evb evc ev : Env → M Vl} {pos : Pos}
theorem t_dzip : ∀ σ H Q, tE C (fun en => M.bind (eva en) fun v => M.bind (evb en) fun w => M.bind (Jr.asD v) fun x => M.bind (Jr.asD w) fun y => M.bind (ofO (dzipV x y)) fun kvs => M.pure (.k false kvs)) X.K W σ H Q →
    tDZip X.K (tCons (tE C eva X.K W) (tCons (tE C evb X.K W) tNil)) σ H Q := fun σ H Q ⟨L, ρ, h, en, hr, er, o⟩ => by
  refine ⟨L, ρ, h, en, hr, er, (Out.split (rel := relV L) o).mono fun v H1 ⟨ρ1, h1, x, hr1, s1, rv1, o1⟩ => ?_⟩
  refine ⟨L, ρ1, h1, en, hr1, er.step s1, (Out.split (rel := relV L) o1).mono fun w H2 ⟨ρ2, h2, y, hr2, s2, rv2, o2⟩ => ?_⟩
  obtain ⟨dx, rfl, rx, o3⟩ := Out.asD (rv1.step s2) o2
  obtain ⟨dy, rfl, ry, o4⟩ := Out.asD rv2 o3
  obtain ⟨kvs, ek, o5⟩ := Out.ofO o4
  obtain ⟨ks, ys, rfl, rfl, rfl⟩ := dzipV_ok ek
  cases rx with | tup np1 e1 z1 c1 =>
  cases ry with | tup np2 e2 z2 c2 =>
  have ev := keysD_rel c1
  subst ev
  refine ⟨_, _, ks, _, rfl, e1.sq, e2.sq, fun p n => ?_⟩
  obtain ⟨hr3, s3⟩ := hr2.new (o := .dK (L2.mergeK [] (ks.zip _))) n
  exact o5 ρ2 _ _ hr3 s3 ⟨p, hr2.np n, rfl, _, upd_same, RKs.gr s3.gr _ _ (rk_merge (rk_zip (vs := []) c2))⟩
end
end Jr

set_option Elab.async false
set_option linter.all false
set_option maxRecDepth 100000
set_option maxHeartbeats 1000000
namespace Jr
open PySem PySem.Spec PyProof.Rows L2
section
variable {X : Cx} {C : Nat → Option Value} {W : WX} {a b c e i o : Expr} {eva evb evc ev evo evi : Env → M Vl} {pos : Pos}
theorem e_dzip {p p2 q : Pos} (hc : X.calm = true) (hg : Gl X "dict") (hm : X.mg "dict" = none) (hg2 : Gl X "zip") (hm2 : X.mg "zip" = none) (ha : PE X a (tE C eva X.K W)) (hb : PE X b (tE C evb X.K W)) (hs : starEach [a, b] X.env = (false, eval a X.env) :: starEach [b] X.env) (hs2 : starEach [b] X.env = [(false, eval b X.env)]) :
    PE X (.Call (.Name "dict" p) [.Call (.Name "zip" p2) [a, b] [] q] [] pos) (tE C (fun en => M.bind (eva en) fun v => M.bind (evb en) fun w => M.bind (Jr.asD v) fun x => M.bind (Jr.asD w) fun y => M.bind (ofO (dzipV x y)) fun kvs => M.pure (.k false kvs)) X.K W) :=
  pei (pe_dzip hc hg hm hg2 hm2 (pa_cons ha (pa_cons hb pa_nil (by rw [hs2]; rfl)) hs) hs (by rw [hs2]; rfl)) t_dzip
theorem e_dlz {p p2 p3 q q2 : Pos} (hc : X.calm = true) (hg : Gl X "dict") (hm : X.mg "dict" = none) (hg2 : Gl X "list") (hm2 : X.mg "list" = none) (hg3 : Gl X "zip") (hm3 : X.mg "zip" = none) (ha : PE X a (tE C eva X.K W)) (hb : PE X b (tE C evb X.K W)) (hs : starEach [a, b] X.env = (false, eval a X.env) :: starEach [b] X.env) (hs2 : starEach [b] X.env = [(false, eval b X.env)]) :
    PE X (.Call (.Name "dict" p) [.Call (.Name "list" p2) [.Call (.Name "zip" p3) [a, b] [] q] [] q2] [] pos) (tE C (fun en => M.bind (eva en) fun v => M.bind (evb en) fun w => M.bind (Jr.asD v) fun x => M.bind (Jr.asD w) fun y => M.bind (ofO (dzipV x y)) fun kvs => M.pure (.k false kvs)) X.K W) :=
  pei (pe_dlz hc hg hm hg2 hm2 hg3 hm3 (pa_cons ha (pa_cons hb pa_nil (by rw [hs2]; rfl)) hs) hs (by rw [hs2]; rfl)) t_dzip
/-! ### d[k] = v -/
theorem s_dput {p' : Pos} (hu : X.A.units + 64 < cLine) (he : PE X e (tE C ev X.K W)) (ho : PE X o (tE C evo X.K W)) (hi : PE X i (tE C evi X.K W)) (hs : swapsWith e (some (.Subscript o i p')) pos.line X.env = pure false) :
    PS X (.Assign [.Subscript o i p'] e pos) (tS C (fun en => M.bind (ev en) fun u => M.bind (evo en) fun v => M.bind (evi en) fun w => M.bind (asD w) fun y => M.bind (asD u) fun z => M.bind (putM v y z) fun _ => M.pure (.next en)) X.K W) := by
  refine psi (ps_dputA hu ho hi he hs) fun D σ H ⟨L, ρ, h, en, hr, er, o⟩ => ?_
  refine ⟨L, ρ, h, en, hr, er, (OutS.split (rel := relV L) σ o).mono fun u H1 ⟨ρ1, h1, x, hr1, s1, rv1, o1⟩ => ?_⟩
  refine ⟨L, ρ1, h1, en, hr1, er.step s1, (OutS.split (rel := relV L) σ o1).mono fun v H2 ⟨ρ2, h2, y, hr2, s2, rv2, o2⟩ => ?_⟩
  refine ⟨L, ρ2, h2, en, hr2, (er.step s1).step s2, (OutS.split (rel := relV L) σ o2).mono fun w H3 ⟨ρ3, h3, z, hr3, s3, rv3, o3⟩ => ?_⟩
  obtain ⟨dk, rfl, rk, o4⟩ := OutS.asD rv3 o3
  obtain ⟨dy, rfl, ry, o5⟩ := OutS.asD ((rv1.step s2).step s3) o4
  have rv := rv2.step s3
  cases y with
  | d _ => exact False.elim o5
  | k _ _ => exact False.elim o5
  | r n =>
    obtain ⟨p, e1, rfl⟩ := rv
    have e0 : putM (.r n) dk dy h3 = (match h3[n]? with
      | some (.dct t kvs) => if keyOk t dk = true ∧ kvs.length ≤ 1000000 then some (R.ok (), h3.set n (.dct t (Jr.putK kvs dk dy))) else none
      | _ => none) := rfl
    unfold M.bind at o5
    rw [e0] at o5
    cases e2 : h3[n]? with
    | none => rw [e2] at o5; exact False.elim o5
    | some c =>
      rw [e2] at o5
      cases c with
      | dct t kvs =>
        dsimp only at o5
        by_cases q : keyOk t dk = true ∧ kvs.length ≤ 1000000
        · rw [if_pos q] at o5
          have dk0 : DK (Pr L ρ3 h3) H3 p t kvs := hr3.cell n p _ e1 e2
          obtain ⟨ob, pa, f⟩ := DK.put (K := X.K) rk ry dk0 q.1 q.2
          obtain ⟨hr4, s4⟩ := hr3.dctSet e1 e2 rfl f
          exact ⟨p, _, rfl, pa, o5 ρ3 _ σ hr4 s4 ((((er.step s1).step s2).step s3).step s4)⟩
        · rw [if_neg q] at o5; exact False.elim o5
      | _ => exact False.elim o5
/-! ### dict(pairs) -/
theorem allP_rel {K : PySem.W.Frag} {P : Addr → Prop} {H : Hp} : ∀ {ds : List D} {vs : List V} {ps : List (D × D)}, RDs P H ds vs → allP ds = some ps → ps.all (fun p => (asKey p.1).isSome) = true → ∃ (as : List Addr) (ks : List (Key × V)), vs = as.map V.ref ∧ Paired (fun p (kv : Key × V) => SqT K H p [kV kv.1, kv.2]) as ks ∧ RKs P H ps ks
  | [], _, ps, .nil, e, _ => by cases e; exact ⟨[], [], rfl, .nil, .nil⟩
  | d :: ds, _, ps, .cons r t, e, k => by
    unfold allP at e
    cases e1 : pair2 d with
    | none => rw [e1] at e; cases e
    | some pr =>
      rw [e1, Option.bind_some] at e
      cases e2 : allP ds with
      | none => rw [e2] at e; cases e
      | some ps' =>
        rw [e2] at e
        cases e
        rw [List.all_cons, Bool.and_eq_true] at k
        obtain ⟨as, ks, rfl, h1, h2⟩ := allP_rel t e2 k.2
        obtain ⟨dk, dv⟩ := pr
        have ed : d = .tuple [dk, dv] := by
          unfold pair2 at e1
          split at e1
          · cases e1; rfl
          · cases e1
        subst ed
        cases e3 : asKey dk with
        | none => rw [e3] at k; cases k.1
        | some key =>
          have := asKey_eq e3
          subst this
          cases r with | tup np tt z cc =>
          cases cc with | cons q1 q2 =>
          cases q2 with | cons q3 q4 =>
          cases q4
          have ev := keysD_rel (ks := [key]) (.cons q1 .nil)
          cases ev
          exact ⟨_ :: as, (key, _) :: ks, rfl, .cons tt.sq h1, .cons q3 h2⟩
theorem e_dprs {p : Pos} (hc : X.calm = true) (hg : Gl X "dict") (hm : X.mg "dict" = none) (ha : PE X a (tE C eva X.K W)) (hs : starEach [a] X.env = (false, eval a X.env) :: starEach [] X.env) :
    PE X (.Call (.Name "dict" p) [a] [] pos) (tE C (fun en => M.bind (eva en) fun v => M.bind (Jr.asD v) fun x => M.bind (ofO (dprsV x)) fun kvs => M.pure (.k false kvs)) X.K W) := by
  refine pei (pe_callTy (L2.call_dictP hc) hg hm (by decide +kernel) (pa_cons ha pa_nil hs) (by decide) (by decide) (by rw [hs])) fun σ H Q ⟨L, ρ, h, en, hr, er, o⟩ => ?_
  refine ⟨L, ρ, h, en, hr, er, (Out.split (rel := relV L) o).mono fun v H1 ⟨ρ1, h1, x, hr1, s1, rv1, o1⟩ => ?_⟩
  obtain ⟨dx, rfl, rx, o2⟩ := Out.asD rv1 o1
  obtain ⟨kvs, ek, o3⟩ := Out.ofO o2
  cases dx with
  | list xs =>
    unfold dprsV at ek
    dsimp only at ek
    cases e2 : allP xs with
    | none => rw [e2] at ek; cases ek
    | some ps =>
      rw [e2, Option.bind_some] at ek
      by_cases q : ps.length ≤ 1000 ∧ ps.all (fun p => (asKey p.1).isSome) = true
      · rw [if_pos q] at ek
        cases ek
        cases (show RD _ _ _ _ from rx) with | lst np e1 z c =>
        obtain ⟨as, ks, rfl, pr, rk⟩ := allP_rel (K := X.K) c e2 q.2
        refine ⟨_, as, ks, rfl, .inl (.inl e1), pr, fun p n => ?_⟩
        obtain ⟨hr3, s3⟩ := hr1.new (o := .dK (L2.mergeK [] ks)) n
        exact o3 ρ1 _ _ hr3 s3 ⟨p, hr1.np n, rfl, _, upd_same, RKs.gr s3.gr _ _ (rk_merge rk)⟩
      · rw [if_neg q] at ek; cases ek
  | _ => cases ek
/-! ### tuple(text), s.join(texts) -/
theorem cr_tupS (hc : X.calm = true) : CallR X (.type "tuple") (fun xs H Q => ∃ z : Str, xs = [.str z] ∧ z.cps.size ≤ 1000 ∧ ∀ p o, o.dict = none → H p = none → Q (.ref p) (upd H p (.frz o (.tup (z.cps.toList.map fun c => V.str ⟨#[c]⟩))))) := by
  rintro pins s σ H xs us Q I r ⟨z, rfl, hz, q⟩
  obtain ⟨u, rfl, rx⟩ := vals1 r
  obtain ⟨t, rfl⟩ := rx
  have hs : z.cps.size ≤ sizeLine := Nat.le_trans hz (by decide)
  refine call_tuple_str (I.ok.hd hc) z t (fun h' tk acc hk hi => ?_) hs
  have hv : Vals (z.cps.toList.map fun c => V.str ⟨#[c]⟩) acc.toList := by
    have key : ∀ (l : List Nat) (us : List Value), us.length = l.length → (∀ (j : Nat) (v : Value), us[j]? = some v → ∃ (c : Nat) (u : Tok), l[j]? = some c ∧ v = Value.str ⟨#[c]⟩ u) → Vals (l.map fun c => V.str ⟨#[c]⟩) us := by
      intro l
      induction l with
      | nil =>
        intro us h1 h2
        cases us with
        | nil => exact .nil
        | cons _ _ => simp at h1
      | cons c l ih =>
        intro us h1 h2
        cases us with
        | nil => simp at h1
        | cons v us =>
          obtain ⟨c', u, e1, e2⟩ := h2 0 v rfl
          cases e1
          exact .cons ⟨u, e2⟩ (ih us (by simpa using h1) fun j v e => by simpa using h2 (j + 1) v (by simpa using e))
    refine key _ _ (by rw [Array.length_toList, Array.length_toList]; exact hi.1) fun j v e => ?_
    obtain ⟨c, u, e1, e2⟩ := hi.2 j v (by rw [← Array.getElem?_toList]; exact e)
    exact ⟨c, u, by rw [Array.getElem?_toList]; exact e1, e2⟩
  have I2 : Inv X pins σ H { s with heap := h', toks := tk } := I.kept (t' := tk) hk
  obtain ⟨I3, n⟩ := L2x.laidF I2 hv (by rw [List.length_map, Array.length_toList]; exact hs)
  have e : (L2x.tObj acc.toList : Obj) = { cls := .type "tuple", data := .seq acc } := by unfold L2x.tObj; rw [Array.toArray_toList]
  have := q _ (L2x.tObj acc.toList) rfl n
  rw [e] at I3 this
  exact ⟨.ref _, _, I3, rfl, this⟩
theorem signs_rd {P : Addr → Prop} {H : Hp} {z : Str} (ok : okS z = true) : RDs P H (z.cps.toList.map fun c => D.str ⟨#[c]⟩) (z.cps.toList.map fun c => V.str ⟨#[c]⟩) := by
  have key : ∀ l : List Nat, (∀ c ∈ l, c ∈ z.cps.toList) → RDs P H (l.map fun c => D.str ⟨#[c]⟩) (l.map fun c => V.str ⟨#[c]⟩) := by
    intro l
    induction l with
    | nil => intro _; exact .nil
    | cons c l ih => intro h; exact .cons (.str _ (ok_sign ok (h c List.mem_cons_self))) (ih fun d hd => h d (List.mem_cons_of_mem _ hd))
  exact key _ fun _ h => h
theorem e_chars {p : Pos} (hc : X.calm = true) (hg : Gl X "tuple") (hm : X.mg "tuple" = none) (ha : PE X a (tE C eva X.K W)) (hs : starEach [a] X.env = (false, eval a X.env) :: starEach [] X.env) :
    PE X (.Call (.Name "tuple" p) [a] [] pos) (tE C (fun en => M.bind (dd (eva en)) fun x => pO ((charsV x).map .tuple)) X.K W) := by
  refine pei (pe_callTy (cr_tupS hc) hg hm (by decide +kernel) (pa_cons ha pa_nil hs) (by decide) (by decide) (by rw [hs])) fun σ H Q ⟨L, ρ, h, en, hr, er, o⟩ => ?_
  dsimp only at o
  rw [dd_bind] at o
  refine ⟨L, ρ, h, en, hr, er, (Out.split (rel := relV L) o).mono fun v H1 ⟨ρ1, h1, x, hr1, s1, rv1, o1⟩ => ?_⟩
  obtain ⟨dx, rx, o3⟩ := Out.rd hr1 rv1 o1
  obtain ⟨d, e, q⟩ := Out.pO hr1 o3
  cases dx with
  | str z =>
    unfold charsV at e
    dsimp only at e
    by_cases k : z.cps.size ≤ 1000
    · rw [if_pos k] at e
      cases e
      cases (show RD _ _ _ _ from rx) with | str _ ok =>
      exact ⟨z, rfl, k, q.tup hr1 (by rw [List.length_map, Array.length_toList]; exact Nat.le_trans k (by decide)) (signs_rd ok)⟩
    · rw [if_neg k] at e; cases e
  | _ => cases e
theorem ok_fold {a : Str} (h : okS a = true) : ∀ {l : List Str} {b : Array Nat}, (∀ z ∈ l, okS z = true) → okS ⟨b⟩ = true → okS ⟨l.foldl (fun acc p => acc ++ a.cps ++ p.cps) b⟩ = true
  | [], b, _, q => q
  | x :: r, b, q, k => ok_fold h (l := r) (fun z hz => q z (List.mem_cons_of_mem _ hz)) (ok_append (x := ⟨b ++ a.cps⟩) (ok_append (x := ⟨b⟩) k h) (q x List.mem_cons_self))
theorem ok_join {a : Str} (h : okS a = true) {l : List Str} (q : ∀ z ∈ l, okS z = true) : okS (Txt.join a l) = true := by
  cases l with
  | nil =>
    show okS Str.empty = true
    decide +kernel
  | cons x r => exact ok_fold h (l := r) (b := x.cps) (fun z hz => q z (List.mem_cons_of_mem _ hz)) (q x List.mem_cons_self)
theorem sum_le : ∀ {l : List Str}, l.all (fun z => decide (z.length ≤ 1000)) = true → (l.map (·.length)).sum ≤ l.length * 1000
  | [], _ => by simp
  | x :: l, h => by
    rw [List.all_cons, Bool.and_eq_true] at h
    have := sum_le h.2
    have h1 := of_decide_eq_true h.1
    rw [List.map_cons, List.sum_cons, List.length_cons]
    omega
theorem joinV_ok {x y d : D} (h : joinV x y = some d) : ∃ (s : Str) (xs : List D) (l : List Str), x = .str s ∧ (y = .list xs ∨ y = .tuple xs) ∧ allS xs = some l ∧ l.length ≤ 1000 ∧ s.length ≤ 1000 ∧ l.all (fun z => decide (z.length ≤ 1000)) = true ∧ d = .str (Txt.join s l) := by
  unfold joinV at h
  split at h
  · rename_i a xs
    cases e : allS xs with
    | none => rw [e] at h; cases h
    | some l =>
      rw [e, Option.bind_some] at h
      by_cases q : l.length ≤ 1000 ∧ a.length ≤ 1000 ∧ l.all (fun z => decide (z.length ≤ 1000)) = true
      · rw [if_pos q] at h; cases h; exact ⟨a, xs, l, rfl, .inl rfl, e, q.1, q.2.1, q.2.2, rfl⟩
      · rw [if_neg q] at h; cases h
  · rename_i a xs
    cases e : allS xs with
    | none => rw [e] at h; cases h
    | some l =>
      rw [e, Option.bind_some] at h
      by_cases q : l.length ≤ 1000 ∧ a.length ≤ 1000 ∧ l.all (fun z => decide (z.length ≤ 1000)) = true
      · rw [if_pos q] at h; cases h; exact ⟨a, xs, l, rfl, .inr rfl, e, q.1, q.2.1, q.2.2, rfl⟩
      · rw [if_neg q] at h; cases h
  · cases h
theorem t_join : ∀ σ H Q, tE C (fun en => M.bind (evo en) fun v => M.bind (asD v) fun x => M.bind (ofO (asS x)) fun z => M.bind (eva en) fun w => M.bind (asD w) fun y => pO (joinV (.str z) y)) X.K W σ H Q → tM1 (fun x xs H Q => ∃ a p, ∃ ys : List Str, x = .str a ∧ xs = [.ref p] ∧ (SqL X.K H p (ys.map V.str) ∨ SqT X.K H p (ys.map V.str)) ∧
      (ys.map (·.length)).sum + ys.length * a.length ≤ 16777216 ∧ Q (.str (Txt.join a ys)) H) (tE C evo X.K W) (tE C eva X.K W) σ H Q := fun σ H Q ⟨L, ρ, h, en, hr, er, o⟩ => by
  refine ⟨L, ρ, h, en, hr, er, (Out.split (rel := relV L) o).mono fun v H1 ⟨ρ1, h1, x, hr1, s1, rv1, o1⟩ => ?_⟩
  obtain ⟨dx, rfl, rx, o2⟩ := Out.asD rv1 o1
  obtain ⟨z0, ez, o2⟩ := Out.ofO o2
  cases dx with
  | str a =>
    have e0 : a = z0 := by cases ez; rfl
    subst e0
    cases (show RD _ _ _ _ from rx) with | str _ oka =>
    refine ⟨⟨a, rfl⟩, L, ρ1, h1, en, hr1, er.step s1, (Out.split (rel := relV L) o2).mono fun w H2 ⟨ρ2, h2, y, hr2, s2, rv2, o3⟩ => ?_⟩
    obtain ⟨dy, rfl, ry, o4⟩ := Out.asD rv2 o3
    obtain ⟨d, ed, q⟩ := Out.pO hr2 o4
    obtain ⟨s, xs, l, ea, hy, eS, z1, z2, z3, rfl⟩ := joinV_ok ed
    cases ea
    have hsum := sum_le z3
    have hz : (l.map (·.length)).sum + l.length * a.length ≤ 16777216 := by
      have h1 : l.length * a.length ≤ 1000 * 1000 := Nat.mul_le_mul z1 z2
      have h2 : l.length * 1000 ≤ 1000 * 1000 := Nat.mul_le_mul_right _ z1
      omega
    rcases hy with rfl | rfl
    · cases (show RD _ _ _ _ from ry) with | lst np e1 z c =>
      obtain ⟨rfl, okl⟩ := allS_rel c eS
      exact ⟨a, _, l, rfl, rfl, .inl (.inl (.inl e1)), hz, q.here hr2 (.str _ (ok_join oka okl))⟩
    · cases (show RD _ _ _ _ from ry) with | tup np e1 z c =>
      obtain ⟨rfl, okl⟩ := allS_rel c eS
      exact ⟨a, _, l, rfl, rfl, .inr e1.sq, hz, q.here hr2 (.str _ (ok_join oka okl))⟩
  | _ => cases ez
theorem e_join {apos : Pos} (ho : PE X o (tE C evo X.K W)) (ha : PE X a (tE C eva X.K W)) (hs : starEach [a] X.env = [(false, eval a X.env)]) (hb : attributeBase o "join" X.env (eval o X.env) = eval o X.env) (hl : (apos.endLine == pos.line) = true) :
    PE X (.Call (.Attribute o "join" apos) [a] [] pos) (tE C (fun en => M.bind (evo en) fun v => M.bind (asD v) fun x => M.bind (ofO (asS x)) fun z => M.bind (eva en) fun w => M.bind (asD w) fun y => pO (joinV (.str z) y)) X.K W) :=
  pei (pe_join ho ha hs hb hl) t_join
end
end Jr

set_option Elab.async false
set_option linter.all false
set_option maxRecDepth 100000
set_option maxHeartbeats 2000000
namespace Jr
open PySem PySem.Spec PyProof.Rows L2
/-! ### code against the row's own text -/
structure Tab where
  fn : Nat → Option Def
  pres : List Nat
  ex : List (Nat × Str)
def visB (sc : Scope) (x : Str) : Bool := match sc.names.lookup x with
  | some .local => true
  | some .cell => true
  | some .free => true
  | _ => false
def locB (sc : Scope) (x : Str) : Bool := match sc.names.lookup x with
  | some .local => true
  | some .cell => true
  | _ => false
def isLocal (sc : Scope) (x : Str) : Bool := match sc.names.lookup x with
  | some .local => true
  | _ => false
def gloB (sc : Scope) (x : Str) : Bool := match sc.names.lookup x with
  | some .globalImplicit => true
  | _ => false
def nmOk (x : Str) : Bool := decide (x ≠ Str.ofString "__debug__") && decide (x ≠ Str.ofString "__classdict__")
def notStar : Expr → Bool
  | .Starred .. => false
  | _ => true
def notSet : Expr → Bool
  | .Set .. => false
  | _ => true
def notSlice : Expr → Bool
  | .Slice .. => false
  | _ => true
def tOK : Expr → Bool
  | .IfExp .. => false
  | _ => true
def notComp : Expr → Bool
  | .ListComp .. => false
  | .SetComp .. => false
  | .DictComp .. => false
  | _ => true
def baseOk : Expr → Bool
  | .Name .. => true
  | .Constant .. => true
  | .Attribute .. => true
  | _ => false
def isTup : Expr → Bool
  | .Tuple .. => true
  | _ => false
/-- the built-ins' names -/
def bltName : Blt → String
  | .len => "len"
  | .abs => "abs"
  | .max1 => "max"
  | .max2 => "max"
  | .min1 => "min"
  | .min2 => "min"
  | .sum => "sum"
  | .all => "all"
  | .any => "any"
  | .int => "int"
  | .str => "str"
def names0 : List String := ["len", "abs", "max", "min", "sum", "all", "any", "int", "str", "isinstance", "tuple", "list", "bool", "range", "zip", "enumerate", "sorted", "set", "dict"]
def ownS (N : List Str) (own : List Nat) : List (Str × Nat) := own.map fun i => (N.getD i Str.empty, i)
def itB : It → Bool
  | .z2 .. => true
  | .z3 .. => true
  | .en .. => true
  | _ => false
section
variable (T : Tab) (N : List Str)
def mNm (sc : Scope) (i : Nat) (x : Str) : Bool := decide (N[i]? = some x) && locB sc x
def mNms (sc : Scope) : List Nat → List Expr → Bool
  | [], [] => true
  | i :: is, .Name x _ :: xs => mNm N sc i x && mNms sc is xs
  | _, _ => false
def mMix (sc : Scope) (js : List Nat) : List Nat → List Expr → Bool
  | [], [.Tuple ys _ _] => mNms N sc js ys
  | i :: is, .Name x _ :: xs => mNm N sc i x && mMix sc js is xs
  | _, _ => false
def mTg (sc : Scope) : Tg → Expr → Bool
  | .nm i, .Name x _ => mNm N sc i x
  | .tp is, .Tuple xs _ _ => mNms N sc is xs
  | .tn is js, .Tuple xs _ _ => mMix N sc js is xs
  | _, _ => false
/-- a call of the built-in x -/
def isG (sc : Scope) (x : String) (y : Str) : Bool := decide (y = Str.ofString x) && gloB sc y
mutual
def mE (sc : Scope) : E → Expr → Bool
  | .var i, x => (match x with
    | .Name y _ => decide (N[i]? = some y) && visB sc y && nmOk y
    | _ => false)
  | .non, x => (match x with
    | .Constant .none _ _ => true
    | _ => false)
  | .bl b, x => (match x with
    | .Constant (.bool c) _ _ => b == c
    | _ => false)
  | .int i, x => (match x with
    | .Constant (.int j) _ _ => decide (i = j)
    | _ => false)
  | .str s, x => (match x with
    | .Constant (.str t) _ _ => decide (s = t)
    | _ => false)
  | .tup es, x => (match x with
    | .Tuple xs _ _ => mEs sc es xs
    | _ => false)
  | .op o a b, x => (match x with
    | .BinOp y p z _ => decide (opOf o = p) && mE sc a y && mE sc b z
    | _ => false)
  | .neg a, x => (match x with
    | .UnaryOp .USub y _ => mE sc a y
    | _ => false)
  | .nt a, x => (match x with
    | .UnaryOp .Not y _ => tOK y && mE sc a y
    | _ => false)
  | .and es, x => (match x with
    | .BoolOp .And (y :: ys) _ => mEs sc es (y :: ys) && (y :: ys).all tOK
    | _ => false)
  | .or es, x => (match x with
    | .BoolOp .Or (y :: ys) _ => mEs sc es (y :: ys) && (y :: ys).all tOK
    | _ => false)
  | .cmp o a b, x => (match x with
    | .Compare y [p] [z] _ => decide (cmpOf o = p) && notSet z && mE sc a y && mE sc b z
    | _ => false)
  | .chn o o' a b c, x => (match x with
    | .Compare y [p, q] [z, w] _ => decide (cmpOf o = p) && decide (cmpOf o' = q) && notSet w && mE sc a y && mE sc b z && mE sc c w
    | _ => false)
  | .ite c a b, x => (match x with
    | .IfExp y z w _ => tOK y && mE sc c y && mE sc a z && mE sc b w
    | _ => false)
  | .ix a b, x => (match x with
    | .Subscript y z _ => notSlice z && mE sc a y && mE sc b z
    | _ => false)
  | .slT a hi, x => (match x with
    | .Subscript y (.Slice none (some z) none _) _ => mE sc a y && mE sc hi z
    | _ => false)
  | .slF a lo, x => (match x with
    | .Subscript y (.Slice (some z) none none _) _ => mE sc a y && mE sc lo z
    | _ => false)
  | .slA a lo hi, x => (match x with
    | .Subscript y (.Slice (some z) (some w) none _) _ => mE sc a y && mE sc lo z && mE sc hi w
    | _ => false)
  | .rev a, x => (match x with
    | .Subscript y (.Slice none none (some (.UnaryOp .USub (.Constant (.int 1) _ _) _)) _) _ => mE sc a y
    | _ => false)
  | .call f es, x => (match x with
    | .Call (.Name y _) (z :: zs) [] _ => (match T.fn f with
      | some d => decide (d.name = y) && T.pres.contains f && gloB sc y && nmOk y && mEs sc es (z :: zs)
      | none => false)
    | _ => false)
  | .blt f es, x => (match x with
    | .Call (.Name y _) (z :: zs) [] _ => isG sc (bltName f) y && mEs sc es (z :: zs)
    | _ => false)
  | .isi a t, x => (match x with
    | .Call (.Name y _) [z, .Name w _] [] _ => isG sc "isinstance" y && isG sc (tyName t) w && notStar z && mE sc a z
    | _ => false)
  | .toT a, x => (match x with
    | .Call (.Name y _) [z] [] _ => isG sc "tuple" y && notStar z && mE sc a z
    | _ => false)
  | .app o a, x => (match x with
    | .Call (.Attribute y m p) [z] [] q => decide (m = Str.ofString "append") && decide (p.endLine = q.line) && baseOk y && notStar z && mE sc o y && mE sc a z
    | _ => false)
  | .pop o a, x => (match x with
    | .Call (.Attribute y m p) [z] [] q => decide (m = Str.ofString "pop") && decide (p.endLine = q.line) && baseOk y && notStar z && mE sc o y && mE sc a z
    | _ => false)
  | .popE o, x => (match x with
    | .Call (.Attribute y m p) [] [] q => decide (m = Str.ofString "pop") && decide (p.endLine = q.line) && baseOk y && mE sc o y
    | _ => false)
  | .cnt o a, x => (match x with
    | .Call (.Attribute y m p) [z] [] q => decide (m = Str.ofString "count") && decide (p.endLine = q.line) && baseOk y && notStar z && mE sc o y && mE sc a z
    | _ => false)
  | .idx o a, x => (match x with
    | .Call (.Attribute y m p) [z] [] q => decide (m = Str.ofString "index") && decide (p.endLine = q.line) && baseOk y && notStar z && mE sc o y && mE sc a z
    | _ => false)
  | .idxT o a, x => (match x with
    | .Call (.Attribute y m p) [z] [] q => decide (m = Str.ofString "index") && decide (p.endLine = q.line) && baseOk y && notStar z && mE sc o y && mE sc a z
    | _ => false)
  | .minT a, x => (match x with
    | .Call (.Name y _) [z] [] _ => isG sc "min" y && notStar z && mE sc a z
    | _ => false)
  | .dget d a, x => (match x with
    | .Subscript y z _ => notSlice z && mE sc d y && mE sc a z
    | _ => false)
  | .dgt1 d a, x => (match x with
    | .Call (.Attribute y m p) [z] [] q => decide (m = Str.ofString "get") && decide (p.endLine = q.line) && baseOk y && notStar z && mE sc d y && mE sc a z
    | _ => false)
  | .dgt2 d a b, x => (match x with
    | .Call (.Attribute y m p) [z, w] [] q => decide (m = Str.ofString "get") && decide (p.endLine = q.line) && baseOk y && notStar z && notStar w && mE sc d y && mE sc a z && mE sc b w
    | _ => false)
  | .din a d, x => (match x with
    | .Compare y [.In] [z] _ => notSet z && mE sc a y && mE sc d z
    | _ => false)
  | .dnin a d, x => (match x with
    | .Compare y [.NotIn] [z] _ => notSet z && mE sc a y && mE sc d z
    | _ => false)
  | .dnewK _, x => (match x with
    | .Dict [] [] _ => true
    | _ => false)
  | .dnew _, x => (match x with
    | .Dict [] [] _ => true
    | _ => false)
  | .chars a, x => (match x with
    | .Call (.Name y _) [z] [] _ => isG sc "tuple" y && notStar z && mE sc a z
    | _ => false)
  | .join o a, x => (match x with
    | .Call (.Attribute y m p) [z] [] q => decide (m = Str.ofString "join") && decide (p.endLine = q.line) && baseOk y && notStar z && mE sc o y && mE sc a z
    | _ => false)
  | .disp _ _, _ => false
  | .dlen _, _ => false
  | .dmin _, _ => false
  | .dzip a b, x => (match x with
    | .Call (.Name y _) [.Call (.Name w _) [z, t] [] _] [] _ => isG sc "dict" y && isG sc "zip" w && notStar z && notStar t && mE sc a z && mE sc b t
    | _ => false)
  | .dlz a b, x => (match x with
    | .Call (.Name y _) [.Call (.Name u _) [.Call (.Name w _) [z, t] [] _] [] _] [] _ => isG sc "dict" y && isG sc "list" u && isG sc "zip" w && notStar z && notStar t && mE sc a z && mE sc b t
    | _ => false)
  | .dprs a, x => (match x with
    | .Call (.Name y _) [z] [] _ => isG sc "dict" y && notStar z && mE sc a z
    | _ => false)
  | .dcm _ _ _ _ _, _ => false
  | .bad, _ => true
  | .lnS a, x => (match x with
    | .Call (.Name y _) [.Call (.Name w _) [z] [] _] [] _ => isG sc "len" y && isG sc "set" w && notStar z && mE sc a z
    | _ => false)
  | .new a, x => mF sc a x
  | .box a, x => mF sc a x
def mF (sc : Scope) : F → Expr → Bool
  | .lst es, x => (match x with
    | .List xs _ => mEs sc es xs
    | _ => false)
  | .cat a b, x => (match x with
    | .BinOp y .Add z _ => mE sc a y && mE sc b z
    | _ => false)
  | .rep a b, x => (match x with
    | .BinOp y .Mult z _ => mE sc a y && mE sc b z
    | _ => false)
  | .slT a hi, x => (match x with
    | .Subscript y (.Slice none (some z) none _) _ => mE sc a y && mE sc hi z
    | _ => false)
  | .slF a lo, x => (match x with
    | .Subscript y (.Slice (some z) none none _) _ => mE sc a y && mE sc lo z
    | _ => false)
  | .rev a, x => (match x with
    | .Subscript y (.Slice none none (some (.UnaryOp .USub (.Constant (.int 1) _ _) _)) _) _ => mE sc a y
    | _ => false)
  | .toL a, x => (match x with
    | .Call (.Name y _) [z] [] _ => isG sc "list" y && notStar z && mE sc a z
    | _ => false)
  | .srt a, x => (match x with
    | .Call (.Name y _) [z] [] _ => isG sc "sorted" y && notStar z && mE sc a z
    | _ => false)
  | .srtS _, _ => false
  | .spl _ _, _ => false
  | .dvals _, _ => false
  | .dsrt _, _ => false
  | .cmp2 e t t1 own own1 it it1 c, x => (match x with
    | .ListComp elt [⟨tg, iter, [], 0⟩, ⟨tg1, iter1, ifs, 0⟩] scope _ => blkC N sc scope (ownS N own) && own1.all own.contains && tgIn t own && tgIn t1 own1 && (!itB it || isTp t) && (!itB it1 || isTp t1) && mTg N scope t tg && mTg N scope t1 tg1 && mI sc it tg iter && mI (relS scope sc) it1 tg1 iter1 && mE (relS scope sc) e elt && (match ifs with
      | [] => (match c with
        | .bl true => true
        | _ => false)
      | [z] => tOK z && mE (relS scope sc) c z
      | _ => false)
    | _ => false)
  | .cmp e t own it c, x => (match x with
    | .ListComp elt [⟨tg, iter, ifs, 0⟩] scope _ => blkC N sc scope (ownS N own) && tgIn t own && (!itB it || isTp t) && mTg N scope t tg && mI sc it tg iter && mE (relS scope sc) e elt && (match ifs with
      | [] => (match c with
        | .bl true => true
        | _ => false)
      | [z] => tOK z && mE (relS scope sc) c z
      | _ => false)
    | _ => false)
def mEs (sc : Scope) : Es → List Expr → Bool
  | .nil, [] => true
  | .cons e es, x :: xs => notStar x && mE sc e x && mEs sc es xs
  | _, _ => false
def mI (sc : Scope) : It → Expr → Expr → Bool
  | .ex e, _, x => notSet x && mE sc e x
  | .r1 a, _, x => (match x with
    | .Call (.Name y _) [z] [] _ => isG sc "range" y && notStar z && mE sc a z
    | _ => false)
  | .r2 a b, _, x => (match x with
    | .Call (.Name y _) [z, w] [] _ => isG sc "range" y && notStar z && notStar w && mE sc a z && mE sc b w
    | _ => false)
  | .z2 a b, tg, x => (match x with
    | .Call (.Name y _) [z, w] [] _ => isG sc "zip" y && notStar z && notStar w && isTup tg && mE sc a z && mE sc b w
    | _ => false)
  | .en a, tg, x => (match x with
    | .Call (.Name y _) [z] [] _ => isG sc "enumerate" y && notStar z && isTup tg && mE sc a z
    | _ => false)
  | .z3 a b c, tg, x => (match x with
    | .Call (.Name y _) [z, w, u] [] _ => isG sc "zip" y && notStar z && notStar w && notStar u && isTup tg && mE sc a z && mE sc b w && mE sc c u
    | _ => false)
  | .dk _, _, _ => false
end
end
/-! ### small facts of the text -/
theorem star1 {e : Expr} {es : List Expr} {env : PySem.Env} (h : notStar e = true) : starEach (e :: es) env = (false, eval e env) :: starEach es env := by
  cases e <;> first | rfl | (exact absurd h (by decide)) | (simp [notStar] at h)
theorem star_any {env : PySem.Env} {pos : Pos} : ∀ {es : List Expr}, es.all notStar = true → (backTo pos (starEach es env)).any (·.1) = false
  | [], _ => rfl
  | e :: es, h => by
    rw [List.all_cons, Bool.and_eq_true] at h
    rw [star1 h.1]
    show (false || (backTo pos (starEach es env)).any (·.1)) = false
    rw [star_any h.2]
    rfl
theorem noBehind {op : CmpOp} {e : Expr} (h : notSet e = true) : behindInMarks op e = false := by
  cases e <;> first | rfl | (simp [notSet] at h)
theorem noLast {o p : CmpOp} {b c : Expr} (h : notSet c = true) : lastMarks [o, p] [b, c] = false := by
  show behindInMarks p c = false
  exact noBehind h
theorem plainIx {e : Expr} (h : notSlice e = true) : PlainIx e := by
  cases e <;> first | exact fun _ _ => rfl | (simp [notSlice] at h)
theorem noFold {e : Expr} {env : PySem.Env} (h : notSet e = true) : ∀ x, foldedSetIterable e env x = pure x := by
  cases e <;> first | exact fun _ => rfl | (simp [notSet] at h)
theorem baseOk_eq {e : Expr} {m : Str} {env : PySem.Env} {t : Sem Value} (h : baseOk e = true) : attributeBase e m env t = t := by
  cases e <;> first | rfl | (simp [baseOk] at h)
theorem vis_of {sc : Scope} {x : Str} (h : visB sc x = true) : Vis sc x := by
  unfold visB at h
  unfold Vis
  split at h <;> first | (rename_i e; rw [e]; simp; done) | cases h
theorem loc_of {sc : Scope} {x : Str} (h : locB sc x = true) : L2.Loc sc x := by
  unfold locB at h
  unfold L2.Loc
  split at h <;> first | (rename_i e; rw [e]; simp; done) | cases h
theorem local_of {sc : Scope} {x : Str} (h : isLocal sc x = true) : sc.names.lookup x = some .local := by
  unfold isLocal at h
  split at h <;> first | (rename_i e; exact e) | cases h
theorem glo_of {X : Cx} {sc : Scope} {x : Str} (e : X.env.scope = sc) (h : gloB sc x = true) : Gl X x := by
  unfold gloB at h
  split at h <;> first | (rename_i q; show X.env.scope.names.lookup x = _; rw [e]; exact q) | cases h
theorem nm_of {x : Str} (h : nmOk x = true) : (x == ("__debug__" : Str)) = false ∧ (x == ("__classdict__" : Str)) = false := by
  unfold nmOk at h
  rw [Bool.and_eq_true, decide_eq_true_eq, decide_eq_true_eq] at h
  exact ⟨beq_eq_false_iff_ne.mpr h.1, beq_eq_false_iff_ne.mpr h.2⟩
theorem ba {a b : Bool} (h : (a && b) = true) : a = true ∧ b = true := Bool.and_eq_true_iff.mp h
/-! ### the context of the induction -/
structure ECx (C : Nat → Option Value) (T : Tab) (k : Nat) (cf : CF) (N : List Str) (sc : Scope) (X : Cx) (W : WX) : Prop where
  calm : X.calm = true
  n : X.N = N
  nd : N.Nodup
  hsc : X.env.scope = sc
  room : Room k X.A
  tk : Takes X W
  blt : ∀ x ∈ names0, X.mg (Str.ofString x) = none
  funs : ∀ f d, T.fn f = some d → f ∈ T.pres → ∃ a fd, X.mg d.name = some (.ref a) ∧ PySem.W.keepIn X.K (.ref a) = true ∧ Binds X.K fd (d.N.take d.np) [] ∧ FnOk X.prog X.w X.K X.mg X.base (L2.CX X.prog X.w) k a fd (d.N.take d.np) (spM C X.K (cf f))
theorem ECx.blk {C : Nat → Option Value} {T : Tab} {k : Nat} {cf : CF} {N : List Str} {sc : Scope} {X : Cx} {W : WX} (c : ECx C T k cf N sc X W) (scope : Scope) (s : Shared) (H : Hp) (Cc : Addr) (cl : List (Str × Addr)) (fp : List Addr) :
    ECx C T k cf N (relS scope sc) (X.blk s H scope (compEnvC scope cl Cc X.env) fp) W0 := by
  have es : (compEnvC scope cl Cc X.env).scope = relS scope sc := by
    rw [← c.hsc]
    rfl
  refine ⟨c.calm, c.n, c.nd, es, c.room, fun _ _ x => ?_, c.blt, c.funs⟩
  obtain ⟨_, _, _, _, _, _, _, _, _, _, _, _, _, _, _, _, z⟩ := x
  exact z.elim
/-- what a target's name asks -/
def TgOk (X : Cx) (i : Nat) (x : Str) : Prop := X.N[i]? = some x ∧ L2.Loc X.env.scope x ∧ (X.fn x = true ∨ X.env.scope.names.lookup x = some .local)
def TgsOk (X : Cx) : List Nat → List Expr → Prop
  | [], [] => True
  | i :: is, .Name x _ :: xs => TgOk X i x ∧ TgsOk X is xs
  | _, _ => False
theorem tgs_of {X : Cx} {N : List Str} {sc : Scope} (h : ∀ i x, mNm N sc i x = true → TgOk X i x) : ∀ is xs, mNms N sc is xs = true → TgsOk X is xs
  | [], [], _ => trivial
  | [], _ :: _, q => by simp [mNms] at q
  | i :: is, [], q => by simp [mNms] at q
  | i :: is, x :: xs, q => by
    cases x with
    | Name x p =>
      have q : (mNm N sc i x && mNms N sc is xs) = true := q
      exact ⟨h _ _ (ba q).1, tgs_of h is xs (ba q).2⟩
    | _ => simp [mNms] at q
theorem pgs_of {X : Cx} (nd : X.N.Nodup) : ∀ is xs, TgsOk X is xs → PGs X xs (gNms is) ∧ (assignEach xs X.env).length = is.length ∧ (assignEach xs X.env).findIdx? (·.1) = none
  | [], [], _ => ⟨pgs_nil, rfl, rfl⟩
  | [], _ :: _, q => q.elim
  | _ :: _, [], q => q.elim
  | i :: is, x :: xs, q => by
    cases x with
    | Name x p =>
      obtain ⟨⟨h1, h2, h3⟩, q2⟩ := (show TgOk X i x ∧ TgsOk X is xs from q)
      obtain ⟨p1, p2, p3⟩ := pgs_of nd is xs q2
      refine ⟨pgs_cons (pg_name nd h1 h2 h3) p1 rfl, ?_, ?_⟩
      · show (assignEach xs X.env).length + 1 = is.length + 1
        rw [p2]
      · show ((false, assign (.Name x p) X.env) :: assignEach xs X.env).findIdx? (·.1) = none
        rw [List.findIdx?_cons, if_neg (fun z => Bool.noConfusion z), p3]
        rfl
    | _ => exact (show False from q).elim
def MixOk (X : Cx) (js : List Nat) : List Nat → List Expr → Prop
  | [], [.Tuple ys _ _] => TgsOk X js ys
  | i :: is, .Name x _ :: xs => TgOk X i x ∧ MixOk X js is xs
  | _, _ => False
theorem mix_of {X : Cx} {N : List Str} {sc : Scope} {js : List Nat} (h : ∀ i x, mNm N sc i x = true → TgOk X i x) : ∀ is xs, mMix N sc js is xs = true → MixOk X js is xs
  | [], [], q => by simp [mMix] at q
  | [], [x], q => by
    cases x with
    | Tuple ys k p => exact tgs_of h js ys q
    | _ => simp [mMix] at q
  | [], _ :: _ :: _, q => by simp [mMix] at q
  | i :: is, [], q => by simp [mMix] at q
  | i :: is, x :: xs, q => by
    cases x with
    | Name x p =>
      have q : (mNm N sc i x && mMix N sc js is xs) = true := q
      exact ⟨h _ _ (ba q).1, mix_of h is xs (ba q).2⟩
    | _ => simp [mMix] at q
theorem pgm_of {X : Cx} {js : List Nat} (hc : X.calm = true) (nd : X.N.Nodup) : ∀ is xs, MixOk X js is xs → PGs X xs (gMix X.K js is) ∧ (assignEach xs X.env).length = is.length + 1 ∧ (assignEach xs X.env).findIdx? (·.1) = none
  | [], [], q => q.elim
  | [], [x], q => by
    cases x with
    | Tuple ys k p =>
      obtain ⟨p1, p2, p3⟩ := pgs_of nd js ys q
      exact ⟨pgs_cons (pg_tup hc p1 p2 p3) pgs_nil rfl, rfl, rfl⟩
    | _ => exact (show False from q).elim
  | [], _ :: _ :: _, q => by simp [MixOk] at q
  | i :: is, [], q => q.elim
  | i :: is, x :: xs, q => by
    cases x with
    | Name x p =>
      obtain ⟨⟨h1, h2, h3⟩, q2⟩ := (show TgOk X i x ∧ MixOk X js is xs from q)
      obtain ⟨p1, p2, p3⟩ := pgm_of hc nd is xs q2
      refine ⟨pgs_cons (pg_name nd h1 h2 h3) p1 rfl, ?_, ?_⟩
      · show (assignEach xs X.env).length + 1 = is.length + 1 + 1
        rw [p2]
      · show ((false, assign (.Name x p) X.env) :: assignEach xs X.env).findIdx? (·.1) = none
        rw [List.findIdx?_cons, if_neg (fun z => Bool.noConfusion z), p3]
        rfl
    | _ => exact (show False from q).elim
theorem pg_of {X : Cx} {N : List Str} {sc : Scope} {t : Tg} {tg : Expr} (hc : X.calm = true) (nd : X.N.Nodup) (h : ∀ i x, mNm N sc i x = true → TgOk X i x) (m : mTg N sc t tg = true) : PG X tg (gOf X.K t) := by
  cases t with
  | nm i =>
    cases tg with
    | Name x p =>
      obtain ⟨h1, h2, h3⟩ := h i x m
      exact pg_name nd h1 h2 h3
    | _ => simp [mTg] at m
  | tp is =>
    cases tg with
    | Tuple xs k p =>
      obtain ⟨p1, p2, p3⟩ := pgs_of nd is xs (tgs_of h is xs m)
      exact pg_tup hc p1 p2 p3
    | _ => simp [mTg] at m
  | tn is js =>
    cases tg with
    | Tuple xs k p =>
      obtain ⟨p1, p2, p3⟩ := pgm_of hc nd is xs (mix_of h is xs m)
      exact pg_tup hc p1 p2 p3
    | _ => simp [mTg] at m
theorem tg_blk {N : List Str} {scope sc : Scope} {X : Cx} (n : X.N = N) (hsc : X.env.scope = sc) (s : Shared) (H : Hp) (Cc : Addr) (cl : List (Str × Addr)) (fp : List Addr) (i : Nat) (x : Str) (m : mNm N scope i x = true) : TgOk (X.blk s H scope (compEnvC scope cl Cc X.env) fp) i x := by
  unfold mNm at m
  obtain ⟨h1, h2⟩ := ba m
  have h1 := of_decide_eq_true h1
  have es : (compEnvC scope cl Cc X.env).scope = relS scope sc := by
    rw [← hsc]
    rfl
  have keep : ∀ {k : NameKind}, k ≠ .free → scope.names.lookup x = some k → (relS scope sc).names.lookup x = some k := fun {k} hk e => lookup_relS_keep hk e
  refine ⟨by rw [← n] at h1; exact h1, ?_, ?_⟩
  · show L2.Loc (compEnvC scope cl Cc X.env).scope x
    rw [es]
    rcases loc_of h2 with l | l
    · exact .inl (keep (by decide) l)
    · exact .inr (keep (by decide) l)
  · show (scope.names.lookup x == some .cell) = true ∨ (compEnvC scope cl Cc X.env).scope.names.lookup x = some .local
    rw [es]
    rcases loc_of h2 with l | l
    · exact .inr (keep (by decide) l)
    · left; rw [l]; rfl
end Jr

set_option Elab.async false
set_option linter.all false
set_option maxRecDepth 100000
set_option maxHeartbeats 2000000
namespace Jr
open PySem PySem.Spec PyProof.Rows L2
theorem tt_not (m : M Vl) : tt (M.bind (tt m) fun b => pD (.bool !b)) = M.bind (tt m) fun b => M.pure (!b) := by
  funext h
  show M.bind (M.bind (tt m) fun b => pD (.bool !b)) _ h = _
  unfold M.bind
  cases e : tt m h with
  | none => rfl
  | some p =>
    obtain ⟨r, h1⟩ := p
    cases r <;> rfl
theorem tt_ok {v : Vl} {h : Hh} {d : D} {k : Bool} (e : Jr.rd v h = some (.ok d, h)) (t : truth d = some k) : tt (M.pure v) h = some (.ok k, h) := by
  show M.bind (Jr.rd v) (fun d => Jr.ofO (truth d)) h = _
  unfold M.bind
  rw [e]
  show Jr.ofO (truth d) h = _
  rw [t]
  rfl
theorem rd_cases (v : Vl) (h : Hh) : Jr.rd v h = none ∨ ∃ d, Jr.rd v h = some (.ok d, h) := by
  cases v with
  | d x => exact .inr ⟨x, rfl⟩
  | k _ _ => exact .inl rfl
  | r n =>
    show (h[n]?.bind rdC).map _ = none ∨ _
    cases e : h[n]?.bind rdC with
    | none => exact .inl rfl
    | some d => exact .inr ⟨d, by show (h[n]?.bind rdC).map _ = _; rw [e]; rfl⟩
theorem tt_andor (m rest : M Vl) (g : Bool → Bool) (q : Bool) (hg : ∀ k, g k = false → k = q) :
    tt (M.bind m fun v => M.bind (Jr.rd v) fun x => M.bind (ofO (truth x)) fun k => if g k then rest else M.pure v) = M.bind (tt m) fun k => if g k then tt rest else M.pure q := by
  funext h
  show M.bind (M.bind m _) _ h = M.bind (M.bind m _) _ h
  unfold M.bind
  cases e : m h with
  | none => rfl
  | some p =>
    obtain ⟨r, h1⟩ := p
    cases r with
    | exc c => rfl
    | ok v =>
      dsimp only
      rcases rd_cases v h1 with e1 | ⟨d, e1⟩
      · rw [e1]
      · rw [e1]
        dsimp only
        cases e2 : truth d with
        | none => rfl
        | some k =>
          dsimp only [ofO, M.pure]
          cases e3 : g k with
          | true => rfl
          | false =>
            have e4 := hg k e3
            subst e4
            exact tt_ok e1 e2
theorem tt_and (m rest : M Vl) : tt (M.bind m fun v => M.bind (Jr.rd v) fun x => M.bind (ofO (truth x)) fun k => if k then rest else M.pure v) = M.bind (tt m) fun k => if k then tt rest else M.pure false :=
  tt_andor m rest id false fun _ h => h
theorem tt_or (m rest : M Vl) : tt (M.bind m fun v => M.bind (Jr.rd v) fun x => M.bind (ofO (truth x)) fun k => if k then M.pure v else rest) = M.bind (tt m) fun k => if k then M.pure true else tt rest := by
  have := tt_andor m rest (!·) true fun k h => by cases k <;> first | rfl | cases h
  rw [show (fun v => M.bind (Jr.rd v) fun x => M.bind (ofO (truth x)) fun k => if k then M.pure v else rest) = fun v => M.bind (Jr.rd v) fun x => M.bind (ofO (truth x)) fun k => if (!k) = true then rest else M.pure v from by
    funext v; congr 1; funext x; congr 1; funext k; cases k <;> rfl, this]
  congr 1
  funext k
  cases k <;> rfl
section
variable {C : Nat → Option Value} {T : Tab} {k : Nat} {cf : CF} {N : List Str}
theorem ECx.g {sc : Scope} {X : Cx} {W : WX} (c : ECx C T k cf N sc X W) {x : String} {y : Str} (m : isG sc x y = true) (hx : x ∈ names0) : y = Str.ofString x ∧ Gl X (Str.ofString x) ∧ X.mg (Str.ofString x) = none := by
  obtain ⟨h1, h2⟩ := ba m
  have h1 := of_decide_eq_true h1
  subst h1
  exact ⟨rfl, glo_of c.hsc h2, c.blt x hx⟩
theorem mEs_star {T : Tab} {N : List Str} {sc : Scope} : ∀ (es : Es) (xs : List Expr), mEs T N sc es xs = true → xs.all notStar = true
  | .nil, [], _ => rfl
  | .nil, _ :: _, h => by simp [mEs] at h
  | .cons e es, [], h => by simp [mEs] at h
  | .cons e es, x :: xs, h => by
    unfold mEs at h
    obtain ⟨h, h2⟩ := ba h
    rw [List.all_cons, (ba h).1, mEs_star es xs h2]
    rfl
theorem c_blt {X : Cx} {W : WX} {es : List Expr} {e : Expr} {p pos : Pos} {sc : Scope} {evs : Env → M (List Vl)} (c : ECx C T k cf N sc X W) (f : Blt) {y : Str} (m : isG sc (bltName f) y = true) (ha : PA X (e :: es) (tEs C evs X.K W))
    (he : starEach (e :: es) X.env = (false, eval e X.env) :: starEach es X.env) (hpl : (backTo pos (starEach es X.env)).any (·.1) = false) :
    PE X (.Call (.Name y p) (e :: es) [] pos) (tE C (fun en => M.bind (evs en) fun vs => M.bind (Jr.rds vs) fun xs => pO (bltV f xs)) X.K W) := by
  obtain ⟨rfl, hg, hm⟩ := c.g m (by cases f <;> decide)
  refine pei ?_ t_blt
  cases f with
  | len => exact pe_callB cr_len hg hm rfl ha (by decide) (by decide) he hpl
  | abs => exact pe_callB cr_abs hg hm rfl ha (by decide) (by decide) he hpl
  | max1 => exact pe_callB (cr_max1 c.calm) hg hm rfl ha (by decide) (by decide) he hpl
  | max2 => exact pe_callB (cr_max2 c.calm) hg hm rfl ha (by decide) (by decide) he hpl
  | min1 => exact pe_callB (cr_min1 c.calm) hg hm rfl ha (by decide) (by decide) he hpl
  | min2 => exact pe_callB (cr_min2 c.calm) hg hm rfl ha (by decide) (by decide) he hpl
  | sum => exact pe_callB (cr_sum c.calm) hg hm rfl ha (by decide) (by decide) he hpl
  | all => exact pe_callB (cr_all c.calm) hg hm rfl ha (by decide) (by decide) he hpl
  | any => exact pe_callB (cr_any c.calm) hg hm rfl ha (by decide) (by decide) he hpl
  | int => exact pe_callTy cr_int hg hm rfl ha (by decide) (by decide) he hpl
  | str => exact pe_callTy cr_str hg hm rfl ha (by decide) (by decide) he hpl
/-- an expression's whole reading -/
def GE (C : Nat → Option Value) (cf : CF) (e : E) (X : Cx) (W : WX) (x : Expr) : Prop := PE X x (tE C (evE cf e) X.K W) ∧ (tOK x = true → PT X x (tT C (fun en => tt (evE cf e en)) X.K W))
def Plain (X : Cx) (x : Expr) : Prop := ∀ whole, isTrue x X.env whole = (do let v ← whole; standAt x.pos; holding [v] (truthy v))
def GF (C : Nat → Option Value) (cf : CF) (a : F) (X : Cx) (W : WX) (x : Expr) : Prop := PE X x (tF C (evF cf a) X.K W) ∧ Plain X x
def GEs (C : Nat → Option Value) (cf : CF) (es : Es) (X : Cx) (W : WX) (xs : List Expr) : Prop := PA X xs (tEs C (evEs cf es) X.K W) ∧ ∀ y ys, xs = y :: ys → ∀ pos,
  PE X (.BoolOp .And xs pos) (tE C (evAnd cf es) X.K W) ∧ PE X (.BoolOp .Or xs pos) (tE C (evOr cf es) X.K W) ∧
    (xs.all tOK = true → PW X (.BoolOp .And xs pos) (tT C (fun en => tt (evAnd cf es en)) X.K W) ∧ PW X (.BoolOp .Or xs pos) (tT C (fun en => tt (evOr cf es en)) X.K W))
def GI (C : Nat → Option Value) (cf : CF) (it : It) (X : Cx) (W : WX) (tg x : Expr) : Prop := PI X tg x (tI (itB it) C (evI cf it) X.K W) ∧ ∀ env y, foldedSetIterable x env y = pure y
theorem ge_p {e : E} {X : Cx} {W : WX} {x : Expr} (p : PE X x (tE C (evE cf e) X.K W)) (q : Plain X x) : GE C cf e X W x := ⟨p, fun _ => t_plain p q⟩
end
end Jr

set_option Elab.async false
set_option linter.all false
set_option maxRecDepth 100000
set_option maxHeartbeats 4000000
namespace Jr
open PySem PySem.Spec PyProof.Rows L2
section
variable {C : Nat → Option Value} {T : Tab} {k : Nat} {cf : CF} {N : List Str}
theorem own_back (N : List Str) (own : List Nat) : (ownS N own).map (·.2) = own := by
  unfold ownS
  rw [List.map_map]
  exact (List.map_congr_left fun _ _ => rfl).trans (List.map_id _)
theorem star2 {e e' : Expr} {env : PySem.Env} (h : notStar e = true) (h' : notStar e' = true) : starEach [e, e'] env = [(false, eval e env), (false, eval e' env)] := by
  rw [star1 h, star1 h']; rfl
theorem starN {e : Expr} {env : PySem.Env} (h : notStar e = true) : starEach [e] env = [(false, eval e env)] := by
  rw [star1 h]; rfl
theorem few1 {b : Expr} {env : PySem.Env} {pos : Pos} (h : notStar b = true) : ((backTo pos (starEach [b] env)).all (fun x => !x.1) && (backToKw pos (keywordEach [] env)).all (fun x => x.1.isSome)
      && decide ([b].length + ([] : List Keyword).length + (if ([] : List Keyword).isEmpty then 0 else 1) < 30)) = true := by
  rw [starN h]; rfl
theorem isB {it : It} {t : Tg} (h : (!itB it || isTp t) = true) : itB it = true → isTp t = true := fun e => by
  rw [e] at h
  exact h
theorem noSl {e : Expr} (h : notSlice e = true) : NoSl e := by
  cases e <;> first | exact fun _ _ => rfl | (simp [notSlice] at h)
theorem mI_fold {sc : Scope} : ∀ (it : It) (tg : Expr) {x : Expr}, mI T N sc it tg x = true → ∀ env y, foldedSetIterable x env y = pure y
  | .ex e, tg, x, m => by
    unfold mI at m
    exact fun _ => noFold (ba m).1
  | .r1 _, tg, x, m => by
    unfold mI at m
    split at m
    · exact fun _ _ => rfl
    · cases m
  | .r2 _ _, tg, x, m => by
    unfold mI at m
    split at m
    · exact fun _ _ => rfl
    · cases m
  | .z2 _ _, tg, x, m => by
    unfold mI at m
    split at m
    · exact fun _ _ => rfl
    · cases m
  | .en _, tg, x, m => by
    unfold mI at m
    split at m
    · exact fun _ _ => rfl
    · cases m
  | .z3 _ _ _, tg, x, m => by
    unfold mI at m
    split at m
    · exact fun _ _ => rfl
    · cases m
  | .dk _, tg, x, m => by
    unfold mI at m
    cases m
theorem bad_tE {K : PySem.W.Frag} {W : WX} {σ : L2.St} {H : Hp} {Q : V → Hp → Prop} : ¬ tE C (fun _ => fail) K W σ H Q := fun ⟨_, _, _, _, _, _, o⟩ => o
theorem bad_tT {K : PySem.W.Frag} {W : WX} {σ : L2.St} {H : Hp} {Q : Bool → Hp → Prop} : ¬ tT C (fun _ => tt fail) K W σ H Q := fun ⟨_, _, _, _, _, _, o⟩ => o
mutual
theorem sE : ∀ (e : E) {sc : Scope} {X : Cx} {W : WX} {x : Expr}, ECx C T k cf N sc X W → mE T N sc e x = true → GE C cf e X W x
  | .var i, sc, X, W, x, c, m => by
    unfold mE at m
    split at m
    · obtain ⟨m, m3⟩ := ba m
      obtain ⟨m1, m2⟩ := ba m
      have m1 := of_decide_eq_true m1
      rw [← c.n] at m1
      exact ge_p (e_var m1 (by rw [c.hsc]; exact vis_of m2) (nm_of m3).1 (nm_of m3).2) fun _ => rfl
    · cases m
  | .non, sc, X, W, x, c, m => by
    unfold mE at m
    split at m
    · exact ge_p (e_const pe_non fun _ _ => .non) fun _ => rfl
    · cases m
  | .bl b, sc, X, W, x, c, m => by
    unfold mE at m
    split at m
    · have m := eq_of_beq m
      subst m
      exact ge_p (e_const pe_bl fun _ _ => .bool _) fun _ => rfl
    · cases m
  | .int i, sc, X, W, x, c, m => by
    unfold mE at m
    split at m
    · have m := of_decide_eq_true m
      subst m
      exact ge_p (e_const pe_int fun _ _ => .int _) fun _ => rfl
    · cases m
  | .str s, sc, X, W, x, c, m => by
    unfold mE at m
    split at m
    · have m := of_decide_eq_true m
      subst m
      exact ge_p e_str fun _ => rfl
    · cases m
  | .tup es, sc, X, W, x, c, m => by
    unfold mE at m
    split at m
    · exact ge_p (e_tup (sEs es c m).1) fun _ => rfl
    · cases m
  | .op o a b, sc, X, W, x, c, m => by
    unfold mE at m
    split at m
    · obtain ⟨m, m3⟩ := ba m
      obtain ⟨m1, m2⟩ := ba m
      have m1 := of_decide_eq_true m1
      subst m1
      exact ge_p (e_op (or_bin o) (sE a c m2).1 (sE b c m3).1) fun _ => rfl
    · cases m
  | .neg a, sc, X, W, x, c, m => by
    unfold mE at m
    split at m
    · exact ge_p (e_neg (sE a c m).1) fun _ => rfl
    · cases m
  | .nt a, sc, X, W, x, c, m => by
    unfold mE at m
    split at m
    · obtain ⟨m1, m2⟩ := ba m
      refine ⟨e_nt (sE a c m2).1, fun _ => ?_⟩
      have h := t_not (pos := by assumption) ((sE a c m2).2 m1)
      exact pti h fun σ H Q q => by
        simp only [evE, tt_not] at q
        exact q
    · cases m
  | .and es, sc, X, W, x, c, m => by
    unfold mE at m
    split at m
    · obtain ⟨m1, m2⟩ := ba m
      obtain ⟨h1, _, h3⟩ := (sEs es c m1).2 _ _ rfl (by assumption)
      exact ⟨h1, fun _ => (h3 m2).1.pt⟩
    · cases m
  | .or es, sc, X, W, x, c, m => by
    unfold mE at m
    split at m
    · obtain ⟨m1, m2⟩ := ba m
      obtain ⟨_, h1, h3⟩ := (sEs es c m1).2 _ _ rfl (by assumption)
      exact ⟨h1, fun _ => (h3 m2).2.pt⟩
    · cases m
  | .cmp o a b, sc, X, W, x, c, m => by
    unfold mE at m
    split at m
    · obtain ⟨m, m4⟩ := ba m
      obtain ⟨m, m3⟩ := ba m
      obtain ⟨m1, m2⟩ := ba m
      have m1 := of_decide_eq_true m1
      subst m1
      exact ⟨e_cmp (or_cmp c.room.units o) (sE a c m3).1 (sE b c m4).1 (noBehind m2), fun _ => t_cmp (or_cmp c.room.units o) (sE a c m3).1 (sE b c m4).1 (noBehind m2)⟩
    · cases m
  | .chn o o' a b d, sc, X, W, x, c, m => by
    unfold mE at m
    split at m
    · obtain ⟨m, m6⟩ := ba m
      obtain ⟨m, m5⟩ := ba m
      obtain ⟨m, m4⟩ := ba m
      obtain ⟨m, m3⟩ := ba m
      obtain ⟨m1, m2⟩ := ba m
      have m1 := of_decide_eq_true m1
      have m2 := of_decide_eq_true m2
      subst m1
      subst m2
      exact ⟨e_chain (or_cmp c.room.units o) (or_cmp c.room.units o') (sE a c m4).1 (sE b c m5).1 (sE d c m6).1 (noLast m3), fun _ => tt_chain (or_cmp c.room.units o) (or_cmp c.room.units o') (sE a c m4).1 (sE b c m5).1 (sE d c m6).1 (noLast m3)⟩
    · cases m
  | .ite d a b, sc, X, W, x, c, m => by
    unfold mE at m
    split at m
    · obtain ⟨m, m4⟩ := ba m
      obtain ⟨m, m3⟩ := ba m
      obtain ⟨m1, m2⟩ := ba m
      exact ⟨t_ite (evu := fun _ => fail) (evv := fun _ => fail) ((sE d c m2).2 m1) (sE a c m3).1 (sE b c m4).1, fun h => by cases h⟩
    · cases m
  | .ix a b, sc, X, W, x, c, m => by
    unfold mE at m
    split at m
    · obtain ⟨m, m3⟩ := ba m
      obtain ⟨m1, m2⟩ := ba m
      exact ge_p (e_ix (sE a c m2).1 (sE b c m3).1 (plainIx m1)) fun _ => rfl
    · cases m
  | .slT a hi, sc, X, W, x, c, m => by
    unfold mE at m
    split at m
    · obtain ⟨m1, m2⟩ := ba m
      exact ge_p (e_slT (sE a c m1).1 (sE hi c m2).1) fun _ => rfl
    · cases m
  | .slF a lo, sc, X, W, x, c, m => by
    unfold mE at m
    split at m
    · obtain ⟨m1, m2⟩ := ba m
      exact ge_p (e_slF (sE a c m1).1 (sE lo c m2).1) fun _ => rfl
    · cases m
  | .slA a lo hi, sc, X, W, x, c, m => by
    unfold mE at m
    split at m
    · obtain ⟨m, m3⟩ := ba m
      obtain ⟨m1, m2⟩ := ba m
      exact ge_p (e_slA (sE a c m1).1 (sE lo c m2).1 (sE hi c m3).1) fun _ => rfl
    · cases m
  | .rev a, sc, X, W, x, c, m => by
    unfold mE at m
    split at m
    · exact ge_p (e_rev (sE a c m).1) fun _ => rfl
    · cases m
  | .call f es, sc, X, W, x, c, m => by
    unfold mE at m
    split at m
    · split at m
      · rename_i d ed
        obtain ⟨m, m5⟩ := ba m
        obtain ⟨m, m4⟩ := ba m
        obtain ⟨m, m3⟩ := ba m
        obtain ⟨m1, m2⟩ := ba m
        have m1 := of_decide_eq_true m1
        subst m1
        obtain ⟨ad, fd, f1, f2, f3, f4⟩ := c.funs f d ed (by simpa using m2)
        have st := mEs_star _ _ m5
        rw [List.all_cons] at st
        exact ge_p (e_call f4 c.room (glo_of c.hsc m3) f1 f2 f3 c.tk (sEs es c m5).1 (nm_of m4).1 (star1 (ba st).1) (star_any (ba st).2)) fun _ => rfl
      · cases m
    · cases m
  | .blt f es, sc, X, W, x, c, m => by
    unfold mE at m
    split at m
    · obtain ⟨m1, m2⟩ := ba m
      have st := mEs_star _ _ m2
      rw [List.all_cons] at st
      exact ge_p (c_blt c f m1 (sEs es c m2).1 (star1 (ba st).1) (star_any (ba st).2)) fun _ => rfl
    · cases m
  | .isi a t, sc, X, W, x, c, m => by
    unfold mE at m
    split at m
    · obtain ⟨m, m4⟩ := ba m
      obtain ⟨m, m3⟩ := ba m
      obtain ⟨m1, m2⟩ := ba m
      obtain ⟨rfl, g1, g2⟩ := c.g m1 (by decide)
      obtain ⟨rfl, g3, g4⟩ := c.g m2 (by cases t <;> decide)
      exact ge_p (e_isi g1 g2 g3 g4 (sE a c m4).1 (star1 m3)) fun _ => rfl
    · cases m
  | .toT a, sc, X, W, x, c, m => by
    unfold mE at m
    split at m
    · obtain ⟨m, m4⟩ := ba m
      obtain ⟨m1, m2⟩ := ba m
      obtain ⟨rfl, g1, g2⟩ := c.g m1 (by decide)
      exact ge_p (e_toT g1 g2 (sE a c m4).1 (star1 m2)) fun _ => rfl
    · cases m
  | .app o a, sc, X, W, x, c, m => by
    unfold mE at m
    split at m
    · obtain ⟨m, m6⟩ := ba m
      obtain ⟨m, m5⟩ := ba m
      obtain ⟨m, m4⟩ := ba m
      obtain ⟨m, m3⟩ := ba m
      obtain ⟨m1, m2⟩ := ba m
      have m1 := of_decide_eq_true m1
      have m2 := of_decide_eq_true m2
      subst m1
      exact ge_p (e_app (sE o c m5).1 (sE a c m6).1 (baseOk_eq m3) (few1 m4) (by rw [m2]; exact beq_self_eq_true _) (star1 m4)) fun _ => rfl
    · cases m
  | .pop o a, sc, X, W, x, c, m => by
    unfold mE at m
    split at m
    · obtain ⟨m, m6⟩ := ba m
      obtain ⟨m, m5⟩ := ba m
      obtain ⟨m, m4⟩ := ba m
      obtain ⟨m, m3⟩ := ba m
      obtain ⟨m1, m2⟩ := ba m
      have m1 := of_decide_eq_true m1
      have m2 := of_decide_eq_true m2
      subst m1
      exact ge_p (e_pop (sE o c m5).1 (sE a c m6).1 (baseOk_eq m3) (few1 m4) (by rw [m2]; exact beq_self_eq_true _) (star1 m4)) fun _ => rfl
    · cases m
  | .popE o, sc, X, W, x, c, m => by
    unfold mE at m
    split at m
    · obtain ⟨m, m4⟩ := ba m
      obtain ⟨m, m3⟩ := ba m
      obtain ⟨m1, m2⟩ := ba m
      have m1 := of_decide_eq_true m1
      have m2 := of_decide_eq_true m2
      subst m1
      exact ge_p (e_popE (sE o c m4).1 (baseOk_eq m3) (by rw [m2]; exact beq_self_eq_true _)) fun _ => rfl
    · cases m
  | .cnt o a, sc, X, W, x, c, m => by
    unfold mE at m
    split at m
    · obtain ⟨m, m6⟩ := ba m
      obtain ⟨m, m5⟩ := ba m
      obtain ⟨m, m4⟩ := ba m
      obtain ⟨m, m3⟩ := ba m
      obtain ⟨m1, m2⟩ := ba m
      have m1 := of_decide_eq_true m1
      have m2 := of_decide_eq_true m2
      subst m1
      exact ge_p (e_cnt (sE o c m5).1 (sE a c m6).1 (baseOk_eq m3) (few1 m4) (by rw [m2]; exact beq_self_eq_true _) (star1 m4)) fun _ => rfl
    · cases m
  | .idx o a, sc, X, W, x, c, m => by
    unfold mE at m
    split at m
    · obtain ⟨m, m6⟩ := ba m
      obtain ⟨m, m5⟩ := ba m
      obtain ⟨m, m4⟩ := ba m
      obtain ⟨m, m3⟩ := ba m
      obtain ⟨m1, m2⟩ := ba m
      have m1 := of_decide_eq_true m1
      have m2 := of_decide_eq_true m2
      subst m1
      exact ge_p (e_idx c.room.units (sE o c m5).1 (sE a c m6).1 (baseOk_eq m3) (few1 m4) (by rw [m2]; exact beq_self_eq_true _) (star1 m4)) fun _ => rfl
    · cases m
  | .idxT o a, sc, X, W, x, c, m => by
    unfold mE at m
    split at m
    · obtain ⟨m, m6⟩ := ba m
      obtain ⟨m, m5⟩ := ba m
      obtain ⟨m, m4⟩ := ba m
      obtain ⟨m, m3⟩ := ba m
      obtain ⟨m1, m2⟩ := ba m
      have m1 := of_decide_eq_true m1
      have m2 := of_decide_eq_true m2
      subst m1
      exact ge_p (e_idxT c.room.units (sE o c m5).1 (sE a c m6).1 (baseOk_eq m3) (few1 m4) (by rw [m2]; exact beq_self_eq_true _) (star1 m4)) fun _ => rfl
    · cases m
  | .minT a, sc, X, W, x, c, m => by
    unfold mE at m
    split at m
    · obtain ⟨m, m4⟩ := ba m
      obtain ⟨m1, m2⟩ := ba m
      obtain ⟨rfl, g1, g2⟩ := c.g m1 (by decide)
      exact ge_p (e_minT c.calm c.room.units g1 g2 (sE a c m4).1 (star1 m2)) fun _ => rfl
    · cases m
  | .dget d a, sc, X, W, x, c, m => by
    unfold mE at m
    split at m
    · obtain ⟨m, m3⟩ := ba m
      obtain ⟨m1, m2⟩ := ba m
      exact ge_p (e_dget c.room.units (sE d c m2).1 (sE a c m3).1 (noSl m1)) fun _ => rfl
    · cases m
  | .dgt1 d a, sc, X, W, x, c, m => by
    unfold mE at m
    split at m
    · obtain ⟨m, m6⟩ := ba m
      obtain ⟨m, m5⟩ := ba m
      obtain ⟨m, m4⟩ := ba m
      obtain ⟨m, m3⟩ := ba m
      obtain ⟨m1, m2⟩ := ba m
      have m1 := of_decide_eq_true m1
      have m2 := of_decide_eq_true m2
      subst m1
      exact ge_p (e_dgt1 c.room.units (sE d c m5).1 (sE a c m6).1 ⟨baseOk_eq m3, few1 m4, by rw [m2]; exact beq_self_eq_true _, by rw [starN m4]; rfl⟩) fun _ => rfl
    · cases m
  | .dgt2 d a b, sc, X, W, x, c, m => by
    unfold mE at m
    split at m
    · obtain ⟨m, m8⟩ := ba m
      obtain ⟨m, m7⟩ := ba m
      obtain ⟨m, m6⟩ := ba m
      obtain ⟨m, m5⟩ := ba m
      obtain ⟨m, m4⟩ := ba m
      obtain ⟨m, m3⟩ := ba m
      obtain ⟨m1, m2⟩ := ba m
      have m1 := of_decide_eq_true m1
      have m2 := of_decide_eq_true m2
      subst m1
      exact ge_p (e_dgt2 c.room.units (sE d c m6).1 (sE a c m7).1 (sE b c m8).1 ⟨baseOk_eq m3, by rw [star2 m4 m5]; rfl, by rw [m2]; exact beq_self_eq_true _, by rw [star2 m4 m5]; rfl⟩) fun _ => rfl
    · cases m
  | .din a d, sc, X, W, x, c, m => by
    unfold mE at m
    split at m
    · obtain ⟨m, m3⟩ := ba m
      obtain ⟨m1, m2⟩ := ba m
      exact ⟨e_din c.room.units (sE a c m2).1 (sE d c m3).1 (noBehind m1), fun _ => t_din c.room.units (sE a c m2).1 (sE d c m3).1 (noBehind m1)⟩
    · cases m
  | .dnin a d, sc, X, W, x, c, m => by
    unfold mE at m
    split at m
    · obtain ⟨m, m3⟩ := ba m
      obtain ⟨m1, m2⟩ := ba m
      exact ⟨e_dnin c.room.units (sE a c m2).1 (sE d c m3).1 (noBehind m1), fun _ => t_dnin c.room.units (sE a c m2).1 (sE d c m3).1 (noBehind m1)⟩
    · cases m
  | .dnewK t, sc, X, W, x, c, m => by
    unfold mE at m
    split at m
    · exact ge_p (e_dnewK t) fun _ => rfl
    · cases m
  | .dnew t, sc, X, W, x, c, m => by
    unfold mE at m
    split at m
    · exact ge_p (e_dnew t) fun _ => rfl
    · cases m
  | .chars a, sc, X, W, x, c, m => by
    unfold mE at m
    split at m
    · obtain ⟨m, m4⟩ := ba m
      obtain ⟨m1, m2⟩ := ba m
      obtain ⟨rfl, g1, g2⟩ := c.g m1 (by decide)
      exact ge_p (e_chars c.calm g1 g2 (sE a c m4).1 (star1 m2)) fun _ => rfl
    · cases m
  | .join o a, sc, X, W, x, c, m => by
    unfold mE at m
    split at m
    · obtain ⟨m, m6⟩ := ba m
      obtain ⟨m, m5⟩ := ba m
      obtain ⟨m, m4⟩ := ba m
      obtain ⟨m, m3⟩ := ba m
      obtain ⟨m1, m2⟩ := ba m
      have m1 := of_decide_eq_true m1
      have m2 := of_decide_eq_true m2
      subst m1
      exact ge_p (e_join (sE o c m5).1 (sE a c m6).1 (starN m4) (baseOk_eq m3) (by rw [m2]; exact beq_self_eq_true _)) fun _ => rfl
    · cases m
  | .disp _ _, sc, X, W, x, c, m => by
    unfold mE at m
    cases m
  | .dlen _, sc, X, W, x, c, m => by
    unfold mE at m
    cases m
  | .dmin _, sc, X, W, x, c, m => by
    unfold mE at m
    cases m
  | .dzip a b, sc, X, W, x, c, m => by
    unfold mE at m
    split at m
    · obtain ⟨m, m6⟩ := ba m
      obtain ⟨m, m5⟩ := ba m
      obtain ⟨m, m4⟩ := ba m
      obtain ⟨m, m3⟩ := ba m
      obtain ⟨m1, m2⟩ := ba m
      obtain ⟨rfl, g1, g2⟩ := c.g m1 (by decide)
      obtain ⟨rfl, g3, g4⟩ := c.g m2 (by decide)
      exact ge_p (e_dzip c.calm g1 g2 g3 g4 (sE a c m5).1 (sE b c m6).1 (star1 m3) (starN m4)) fun _ => rfl
    · cases m
  | .dlz a b, sc, X, W, x, c, m => by
    unfold mE at m
    split at m
    · obtain ⟨m, m7⟩ := ba m
      obtain ⟨m, m6⟩ := ba m
      obtain ⟨m, m5⟩ := ba m
      obtain ⟨m, m4⟩ := ba m
      obtain ⟨m, m3⟩ := ba m
      obtain ⟨m1, m2⟩ := ba m
      obtain ⟨rfl, g1, g2⟩ := c.g m1 (by decide)
      obtain ⟨rfl, g3, g4⟩ := c.g m2 (by decide)
      obtain ⟨rfl, g5, g6⟩ := c.g m3 (by decide)
      exact ge_p (e_dlz c.calm g1 g2 g3 g4 g5 g6 (sE a c m6).1 (sE b c m7).1 (star1 m4) (starN m5)) fun _ => rfl
    · cases m
  | .dprs a, sc, X, W, x, c, m => by
    unfold mE at m
    split at m
    · obtain ⟨m, m4⟩ := ba m
      obtain ⟨m1, m2⟩ := ba m
      obtain ⟨rfl, g1, g2⟩ := c.g m1 (by decide)
      exact ge_p (e_dprs c.calm g1 g2 (sE a c m4).1 (star1 m2)) fun _ => rfl
    · cases m
  | .dcm _ _ _ _ _, sc, X, W, x, c, m => by
    unfold mE at m
    cases m
  | .bad, sc, X, W, x, c, m => ⟨⟨fun pins s σ H Q I h => bad_tE.elim h⟩, fun _ => ⟨fun pins s σ H Q I h => bad_tT.elim h⟩⟩
  | .lnS a, sc, X, W, x, c, m => by
    unfold mE at m
    split at m
    · obtain ⟨m, m4⟩ := ba m
      obtain ⟨m, m3⟩ := ba m
      obtain ⟨m1, m2⟩ := ba m
      obtain ⟨rfl, g1, g2⟩ := c.g m1 (by decide)
      obtain ⟨rfl, g3, g4⟩ := c.g m2 (by decide)
      exact ge_p (e_lnS c.calm g1 g2 g3 g4 (sE a c m4).1 (star1 m3)) fun _ => rfl
    · cases m
  | .new a, sc, X, W, x, c, m => by
    unfold mE at m
    exact ge_p (e_new (sF a c m).1) (sF a c m).2
  | .box a, sc, X, W, x, c, m => by
    unfold mE at m
    exact ge_p (e_box (sF a c m).1) (sF a c m).2
theorem sF : ∀ (a : F) {sc : Scope} {X : Cx} {W : WX} {x : Expr}, ECx C T k cf N sc X W → mF T N sc a x = true → GF C cf a X W x
  | .lst es, sc, X, W, x, c, m => by
    unfold mF at m
    split at m
    · exact ⟨f_lst (sEs es c m).1, fun _ => rfl⟩
    · cases m
  | .cat a b, sc, X, W, x, c, m => by
    unfold mF at m
    split at m
    · obtain ⟨m1, m2⟩ := ba m
      exact ⟨f_cat (sE a c m1).1 (sE b c m2).1, fun _ => rfl⟩
    · cases m
  | .rep a b, sc, X, W, x, c, m => by
    unfold mF at m
    split at m
    · obtain ⟨m1, m2⟩ := ba m
      exact ⟨f_rep (sE a c m1).1 (sE b c m2).1, fun _ => rfl⟩
    · cases m
  | .slT a hi, sc, X, W, x, c, m => by
    unfold mF at m
    split at m
    · obtain ⟨m1, m2⟩ := ba m
      exact ⟨f_slT (sE a c m1).1 (sE hi c m2).1, fun _ => rfl⟩
    · cases m
  | .slF a lo, sc, X, W, x, c, m => by
    unfold mF at m
    split at m
    · obtain ⟨m1, m2⟩ := ba m
      exact ⟨f_slF (sE a c m1).1 (sE lo c m2).1, fun _ => rfl⟩
    · cases m
  | .rev a, sc, X, W, x, c, m => by
    unfold mF at m
    split at m
    · exact ⟨f_rev (sE a c m).1, fun _ => rfl⟩
    · cases m
  | .toL a, sc, X, W, x, c, m => by
    unfold mF at m
    split at m
    · obtain ⟨m, m4⟩ := ba m
      obtain ⟨m1, m2⟩ := ba m
      obtain ⟨rfl, g1, g2⟩ := c.g m1 (by decide)
      exact ⟨f_toL g1 g2 (sE a c m4).1 (star1 m2), fun _ => rfl⟩
    · cases m
  | .srt a, sc, X, W, x, c, m => by
    unfold mF at m
    split at m
    · obtain ⟨m, m4⟩ := ba m
      obtain ⟨m1, m2⟩ := ba m
      obtain ⟨rfl, g1, g2⟩ := c.g m1 (by decide)
      exact ⟨f_srt c.room.units g1 g2 (sE a c m4).1 (star1 m2), fun _ => rfl⟩
    · cases m
  | .srtS _, sc, X, W, x, c, m => by
    unfold mF at m
    cases m
  | .spl _ _, sc, X, W, x, c, m => by
    unfold mF at m
    cases m
  | .dvals _, sc, X, W, x, c, m => by
    unfold mF at m
    cases m
  | .dsrt _, sc, X, W, x, c, m => by
    unfold mF at m
    cases m
  | .cmp2 e t t1 own own1 it it1 d, sc, X, W, x, c, m => by
    unfold mF at m
    split at m
    · rename_i elt tg iter tg1 iter1 ifs scope pos
      obtain ⟨m, m12⟩ := ba m
      obtain ⟨m, m11⟩ := ba m
      obtain ⟨m, m10⟩ := ba m
      obtain ⟨m, m9⟩ := ba m
      obtain ⟨m, m8⟩ := ba m
      obtain ⟨m, m7⟩ := ba m
      obtain ⟨m, m6⟩ := ba m
      obtain ⟨m, m5⟩ := ba m
      obtain ⟨m, m4⟩ := ba m
      obtain ⟨m, m3⟩ := ba m
      obtain ⟨m1, m2⟩ := ba m
      have gi := sI it tg c m9
      have gi1 := fun s H Cc cl fp => sI it1 tg1 (c.blk scope s H Cc cl fp) m10
      have r := f_cmp2 (C := C) (W := W) (pos := pos) (own := ownS N own) (own1 := own1) (t := t) (t1 := t1) (evi := evI cf it) (evi1 := evI cf it1) (cnd := fun en => tt (evE cf d en)) (ev := evE cf e) c.calm (by rw [c.n]; exact c.nd) gi.1 (by rw [c.n, c.hsc]; exact blkOk_by m1)
        (by rw [own_back]; intro i hi; have := List.all_eq_true.mp m2 i hi; simpa using this) (isB m5) (isB m6) (by rw [own_back]; exact m3) m4
        (fun s H Cc cl fp => pg_of c.calm (by show X.N.Nodup; rw [c.n]; exact c.nd) (fun i x mm => tg_blk c.n c.hsc s H Cc cl fp i x mm) m7)
        (fun s H Cc cl fp => (gi1 s H Cc cl fp).1)
        (fun s H Cc cl fp => pg_of c.calm (by show X.N.Nodup; rw [c.n]; exact c.nd) (fun i x mm => tg_blk c.n c.hsc s H Cc cl fp i x mm) m8)
        (ifs1 := ifs)
        (fun s H Cc cl fp => by
          have cb := c.blk scope s H Cc cl fp
          split at m12
          · split at m12
            · exact pts_imp pts_nil (t_if1 (evt := fun _ => fail))
            · cases m12
          · obtain ⟨n1, n2⟩ := ba m12
            exact pts_one ((sE d cb n2).2 n1)
          · cases m12)
        (fun s H Cc cl fp => (sE e (c.blk scope s H Cc cl fp) m11).1) (gi.2 _) (mI_fold it1 tg1 m10)
      rw [own_back] at r
      exact ⟨r, fun _ => rfl⟩
    · cases m
  | .cmp e t own it d, sc, X, W, x, c, m => by
    unfold mF at m
    split at m
    · rename_i elt tg iter ifs scope pos
      obtain ⟨m, m6⟩ := ba m
      obtain ⟨m, m5⟩ := ba m
      obtain ⟨m, m4⟩ := ba m
      obtain ⟨m, m3⟩ := ba m
      obtain ⟨m, mb⟩ := ba m
      obtain ⟨m1, m2⟩ := ba m
      have gi := sI it tg c m4
      have r := f_cmp (C := C) (W := W) (pos := pos) (own := ownS N own) (t := t) (evi := evI cf it) (cnd := fun en => tt (evE cf d en)) (ev := evE cf e) c.calm (by rw [c.n]; exact c.nd) gi.1 (by rw [c.n, c.hsc]; exact blkOk_by m1) (isB mb) (by rw [own_back]; exact m2)
        (fun s H Cc cl fp => pg_of c.calm (by show X.N.Nodup; rw [c.n]; exact c.nd) (fun i x mm => tg_blk c.n c.hsc s H Cc cl fp i x mm) m3)
        (ifs := ifs)
        (fun s H Cc cl fp => by
          have cb := c.blk scope s H Cc cl fp
          split at m6
          · split at m6
            · exact pts_imp pts_nil (t_if1 (evt := fun _ => fail))
            · cases m6
          · obtain ⟨n1, n2⟩ := ba m6
            exact pts_one ((sE d cb n2).2 n1)
          · cases m6)
        (fun s H Cc cl fp => (sE e (c.blk scope s H Cc cl fp) m5).1) (gi.2 _)
      rw [own_back] at r
      exact ⟨r, fun _ => rfl⟩
    · cases m
theorem sEs : ∀ (es : Es) {sc : Scope} {X : Cx} {W : WX} {xs : List Expr}, ECx C T k cf N sc X W → mEs T N sc es xs = true → GEs C cf es X W xs
  | .nil, sc, X, W, [], c, m => ⟨a_nil, fun y ys h => by cases h⟩
  | .nil, sc, X, W, _ :: _, c, m => by simp [mEs] at m
  | .cons e es, sc, X, W, [], c, m => by simp [mEs] at m
  | .cons e es, sc, X, W, x :: xs, c, m => by
    unfold mEs at m
    obtain ⟨m, m3⟩ := ba m
    obtain ⟨m1, m2⟩ := ba m
    have ge := sE e c m2
    have gs := sEs es c m3
    refine ⟨a_cons ge.1 gs.1 (star1 m1), fun y ys h pos => ?_⟩
    cases h
    match es, xs, m3, gs with
    | .nil, [], _, _ =>
      refine ⟨⟨ge.1.run⟩, ⟨ge.1.run⟩, fun h => ?_⟩
      rw [List.all_cons] at h
      exact ⟨pw_and1 (ge.2 (ba h).1), pw_or1 (ge.2 (ba h).1)⟩
    | .nil, _ :: _, m3, _ => simp [mEs] at m3
    | .cons _ _, [], m3, _ => simp [mEs] at m3
    | .cons e' es', x' :: xs', _, gs =>
      obtain ⟨h1, h2, h3⟩ := gs.2 _ _ rfl pos
      refine ⟨e_and ge.1 h1, e_or ge.1 h2, fun h => ?_⟩
      rw [List.all_cons] at h
      obtain ⟨q1, q2⟩ := ba h
      obtain ⟨h4, h5⟩ := h3 q2
      refine ⟨pwi (t_and (ge.2 q1) h4) fun σ H Q q => ?_, pwi (t_or (ge.2 q1) h5) fun σ H Q q => ?_⟩
      · simp only [evAnd, tt_and] at q
        exact q
      · simp only [evOr, tt_or] at q
        exact q
theorem sI : ∀ (it : It) (tg : Expr) {sc : Scope} {X : Cx} {W : WX} {x : Expr}, ECx C T k cf N sc X W → mI T N sc it tg x = true → GI C cf it X W tg x
  | .ex e, tg, sc, X, W, x, c, m => by
    unfold mI at m
    obtain ⟨m1, m2⟩ := ba m
    exact ⟨i_ex (sE e c m2).1, fun _ => noFold m1⟩
  | .r1 a, tg, sc, X, W, x, c, m => by
    unfold mI at m
    split at m
    · obtain ⟨m, m3⟩ := ba m
      obtain ⟨m1, m2⟩ := ba m
      obtain ⟨rfl, g1, g2⟩ := c.g m1 (by decide)
      exact ⟨i_r1 g1 g2 (sE a c m3).1 (starN m2), fun _ _ => rfl⟩
    · cases m
  | .r2 a b, tg, sc, X, W, x, c, m => by
    unfold mI at m
    split at m
    · obtain ⟨m, m5⟩ := ba m
      obtain ⟨m, m4⟩ := ba m
      obtain ⟨m, m3⟩ := ba m
      obtain ⟨m1, m2⟩ := ba m
      obtain ⟨rfl, g1, g2⟩ := c.g m1 (by decide)
      exact ⟨i_r2 g1 g2 (sE a c m4).1 (sE b c m5).1 (star2 m2 m3) (starN m3), fun _ _ => rfl⟩
    · cases m
  | .z2 a b, tg, sc, X, W, x, c, m => by
    unfold mI at m
    split at m
    · obtain ⟨m, m5⟩ := ba m
      obtain ⟨m, m4⟩ := ba m
      obtain ⟨m, mt⟩ := ba m
      obtain ⟨m, m3⟩ := ba m
      obtain ⟨m1, m2⟩ := ba m
      obtain ⟨rfl, g1, g2⟩ := c.g m1 (by decide)
      cases tg with
      | Tuple xs kk pp => exact ⟨i_z2 g1 g2 (sE a c m4).1 (sE b c m5).1 (star1 m2) (starN m3), fun _ _ => rfl⟩
      | _ => cases mt
    · cases m
  | .z3 a b d, tg, sc, X, W, x, c, m => by
    unfold mI at m
    split at m
    · obtain ⟨m, m8⟩ := ba m
      obtain ⟨m, m7⟩ := ba m
      obtain ⟨m, m6⟩ := ba m
      obtain ⟨m, mt⟩ := ba m
      obtain ⟨m, m4⟩ := ba m
      obtain ⟨m, m3⟩ := ba m
      obtain ⟨m1, m2⟩ := ba m
      obtain ⟨rfl, g1, g2⟩ := c.g m1 (by decide)
      cases tg with
      | Tuple xs kk pp => exact ⟨i_z3 g1 g2 (sE a c m6).1 (sE b c m7).1 (sE d c m8).1 (star1 m2) (star2 m3 m4) (starN m4), fun _ _ => rfl⟩
      | _ => cases mt
    · cases m
  | .dk _, tg, sc, X, W, x, c, m => by
    unfold mI at m
    cases m
  | .en a, tg, sc, X, W, x, c, m => by
    unfold mI at m
    split at m
    · obtain ⟨m, m3⟩ := ba m
      obtain ⟨m, mt⟩ := ba m
      obtain ⟨m1, m2⟩ := ba m
      obtain ⟨rfl, g1, g2⟩ := c.g m1 (by decide)
      cases tg with
      | Tuple xs kk pp => exact ⟨i_en g1 g2 (sE a c m3).1 (starN m2), fun _ _ => rfl⟩
      | _ => cases mt
    · cases m
end
end
end Jr

set_option Elab.async false
set_option linter.all false
set_option maxRecDepth 100000
set_option maxHeartbeats 4000000
namespace Jr
open PySem PySem.Spec PyProof.Rows L2
/-! ### statements against the text -/
def fkB (sc : Scope) : Bool := match sc.kind with
  | .function => true
  | _ => false
def notSwapKind : Expr → Bool
  | .SetComp .. => false
  | .DictComp .. => false
  | _ => true
/-- a comprehension whose list is stored with its variables' exchange -/
def swB (sc : Scope) (tg e : Expr) : Bool := match e with
  | .ListComp _ _ s p => (match tg with
    | .Name t q => isLocal sc t && (q.line == p.line) && !(s.names.any fun (n, k) => n == t && (k == .local || k == .cell))
    | _ => false)
  | _ => false
def isFrz : S → Bool
  | .frz _ => true
  | _ => false
def isCmp : E → Bool
  | .new (.cmp ..) => true
  | .box (.cmp ..) => true
  | _ => false
def mPar (N : List Str) (sc : Scope) (is : List Nat) (xs vs : List Expr) : Bool := match is, xs, vs with
  | [i, j], [.Name x p, .Name y q], [_, _] => decide (N[i]? = some x) && decide (N[j]? = some y) && isLocal sc x && isLocal sc y && (p.line == q.line) && decide (i ≠ j) && decide (x ≠ y)
  | [i, j, l], [.Name x p, .Name y q, .Name z r], [_, _, _] => decide (N[i]? = some x) && decide (N[j]? = some y) && decide (N[l]? = some z) && isLocal sc x && isLocal sc y && isLocal sc z && (p.line == q.line) && (p.line == r.line) && decide (i ≠ j) && decide (i ≠ l) && decide (j ≠ l) && decide (x ≠ y) && decide (x ≠ z) && decide (y ≠ z)
  | _, _, _ => false
def nLoc (sc : Scope) : Expr → Bool
  | .Name x _ => !isLocal sc x
  | _ => true
def mHds (T : Tab) (sc : Scope) : List (Nat × Str) → List ExceptHandler → Bool
  | [], [] => true
  | (c, s) :: hs, .ExceptHandler (some (.Name x _)) none [.Return (some (.Constant (.str t) _ _)) _] _ :: hds => T.ex.contains (c, x) && gloB sc x && nmOk x && decide (s = t) && okS s && mHds T sc hs hds
  | _, _ => false
section
variable (T : Tab) (N : List Str)
mutual
def mS (sc : Scope) : S → Stmt → Bool
  | .asg t e, st => (match st with
    | .Assign [tg] x p => mTg N sc t tg && mE T N sc e x && notSwapKind x && (match swB sc tg x with
      | true => (match t, tg, e, x with
        | .nm i, .Name y _, .new (.cmp ..), .ListComp _ [⟨_, _, _, 0⟩] _ _ => isLocal sc y
        | .nm i, .Name y _, .box (.cmp ..), .ListComp _ [⟨_, _, _, 0⟩] _ _ => isLocal sc y
        | .nm i, .Name y _, .new (.cmp2 ..), .ListComp _ [⟨_, _, [], 0⟩, ⟨_, _, _, 0⟩] _ _ => isLocal sc y
        | .nm i, .Name y _, .box (.cmp2 ..), .ListComp _ [⟨_, _, [], 0⟩, ⟨_, _, _, 0⟩] _ _ => isLocal sc y
        | _, _, _, _ => false)
      | false => (match tg with
        | .Name .. => true
        | _ => !isTup x))
    | _ => false)
  | .par is es, st => (match st with
    | .Assign [.Tuple xs _ _] (.Tuple vs _ _) _ => mEs T N sc es vs && (match mPar N sc is xs vs && !(vs.all (foldedForSure 8)) && !(vs.all (constantsAlone 8)) with
      | true => true
      | false => mNms N sc is xs && decide (is.length ≤ 100) && (!(xs.length == 2 || xs.length == 3) || vs.all (foldedForSure 8) || xs.any (nLoc sc)))
    | _ => false)
  | .aug i e, st => (match st with
    | .AugAssign (.Name x _) .Add y _ => mNm N sc i x && mE T N sc e y
    | _ => false)
  | .set o i e, st => (match st with
    | .Assign [.Subscript y z _] x _ => notSlice z && notSwapKind x && mE T N sc o y && mE T N sc i z && mE T N sc e x
    | _ => false)
  | .ex e, st => (match st with
    | .Expr x _ => notComp x && mE T N sc e x
    | _ => false)
  | .ite c a b, st => (match st with
    | .If x ss ts _ => tOK x && mE T N sc c x && mB sc a ss && mB sc b ts
    | _ => false)
  | .for_ t it b, st => (match st with
    | .For tg x ss [] _ => mTg N sc t tg && (!itB it || isTp t) && mI T N sc it tg x && mB sc b ss
    | _ => false)
  | .whl c b, st => (match st with
    | .While x ss [] _ => tOK x && mE T N sc c x && mB sc b ss
    | _ => false)
  | .ret e, st => (match st with
    | .Return (some x) _ => mE T N sc e x
    | _ => false)
  | .rse c, st => (match st with
    | .Raise (some (.Call (.Name x _) [] [] _)) none _ => T.ex.contains (c, x) && gloB sc x && nmOk x
    | _ => false)
  | .try_ b hs, st => (match st with
    | .Try ss (h :: hds) [] [] _ => mB sc b ss && mHds T sc hs (h :: hds)
    | _ => false)
  | .frz _, _ => false
  | .dput o i e, st => (match st with
    | .Assign [.Subscript y z _] x _ => notSlice z && notSwapKind x && mE T N sc o y && mE T N sc i z && mE T N sc e x
    | _ => false)
  | .bad, _ => true
def mB (sc : Scope) : B → List Stmt → Bool
  | .nil, sts => sts.isEmpty
  | .cons s b, sts => (match s with
    | .frz _ => mB sc b sts
    | _ => (match sts with
      | st :: rest => mS sc s st && mB sc b rest
      | [] => false))
end
end
/-! ### the text's own conditions -/
theorem bk_of {X : Cx} {sc : Scope} (e : X.env.scope = sc) (h : fkB sc = true) : X.env.blockKind = .function := by
  unfold fkB at h
  unfold Env.blockKind
  rw [e]
  split at h
  · rename_i q; rw [q]; rfl
  · cases h
theorem kind_of {X : Cx} {sc : Scope} (e : X.env.scope = sc) (t : Str) : (X.env.kindOf t == some .local) = isLocal sc t := by
  unfold Env.kindOf isLocal
  rw [e]
  split
  · rename_i q; rw [q]; rfl
  · rename_i q
    cases l : sc.names.lookup t with
    | none => rfl
    | some k => cases k <;> first | rfl | exact absurd l q
theorem sw_of {X : Cx} {sc : Scope} {tg e : Expr} {line : Nat} (es : X.env.scope = sc) (h : fkB sc = true) (n : notSwapKind e = true) : swapsWithSole [tg] e line X.env = pure (swB sc tg e) := by
  show swapsWith e (some tg) line X.env = _
  cases e with
  | ListComp elt gens s p =>
    cases tg with
    | Name t q =>
      show (pure (X.env.blockKind == .function && X.env.kindOf t == some .local && q.line == p.line && !(s.names.any fun (n, k) => n == t && (k == .local || k == .cell))) : Sem Bool) = _
      rw [bk_of es h, kind_of es t]
      rfl
    | _ => rfl
  | SetComp => cases n
  | DictComp => cases n
  | _ => rfl
theorem sw_of' {X : Cx} {sc : Scope} {tg e : Expr} {line : Nat} (es : X.env.scope = sc) (h : fkB sc = true) (n : notSwapKind e = true) : swapsWith e (some tg) line X.env = pure (swB sc tg e) := sw_of (tg := tg) (line := line) es h n
theorem ss_name {x : Str} {p : Pos} {e : Expr} {env : PySem.Env} : swappedStores [.Name x p] e env = pure none := by
  cases e <;> rfl
theorem ss_sub {o i : Expr} {p : Pos} {e : Expr} {env : PySem.Env} : swappedStores [.Subscript o i p] e env = pure none := by
  cases e <;> rfl
theorem ss_tup {xs : List Expr} {k : Nat} {p : Pos} {e : Expr} {env : PySem.Env} (h : (!isTup e) = true) : swappedStores [.Tuple xs k p] e env = pure none := by
  cases e <;> first | rfl | cases h
theorem ss_noSwap {xs vs : List Expr} {k k2 : Nat} {p p2 : Pos} {env : PySem.Env} (h : (!(xs.length == 2 || xs.length == 3) || vs.all (foldedForSure 8)) = true) : swappedStores [.Tuple xs k p] (.Tuple vs k2 p2) env = pure none := by
  unfold swappedStores
  dsimp only
  rcases Bool.or_eq_true_iff.mp h with h | h
  · rw [if_pos (by rw [h]; rfl)]
  · by_cases c1 : (!(xs.length == 2 || xs.length == 3) || vs.length != xs.length || env.blockKind != .function) = true
    · rw [if_pos c1]
    · rw [if_neg c1]
      split
      · rfl
      · split
        · rfl
        · first
            | rfl
            | (rw [if_pos h]; rfl)
            | (split
               · rfl
               · rename_i q; exact absurd h q)
theorem fm_lt {α β : Type} {f : α → Option β} : ∀ {xs : List α}, (xs.any fun e => (f e).isNone) = true → (xs.filterMap f).length < xs.length
  | [], h => by simp at h
  | x :: xs, h => by
    cases e : f x with
    | none =>
      rw [List.filterMap_cons_none e, List.length_cons]
      exact Nat.lt_succ_of_le (List.length_filterMap_le f xs)
    | some y =>
      rw [List.any_cons, e] at h
      rw [List.filterMap_cons_some e, List.length_cons, List.length_cons]
      exact Nat.succ_lt_succ (fm_lt (by simpa using h))
theorem ss_noSwapB {X : Cx} {sc : Scope} {xs vs : List Expr} {k k2 : Nat} {p p2 : Pos} (es : X.env.scope = sc) (h : xs.any (nLoc sc) = true) : swappedStores [.Tuple xs k p] (.Tuple vs k2 p2) X.env = pure none := by
  unfold swappedStores
  dsimp only
  by_cases c1 : (!(xs.length == 2 || xs.length == 3) || vs.length != xs.length || X.env.blockKind != .function) = true
  · rw [if_pos c1]
  · rw [if_neg c1]
    split
    · rfl
    · have lt := fm_lt (f := fun (e : Expr) => match e with
        | .Name id pos => if (X.env.kindOf id == some .local && pos.line == (xs.head?.map (·.pos.line)).getD 0) = true then some id else none
        | _ => none) (xs := xs) (by
          rw [List.any_eq_true] at h ⊢
          obtain ⟨e, he, q⟩ := h
          refine ⟨e, he, ?_⟩
          cases e with
          | Name x p =>
            have q : (!isLocal sc x) = true := q
            rw [Bool.not_eq_true'] at q
            dsimp only
            rw [kind_of es x, q]
            rfl
          | _ => rfl)
      rw [if_pos]
      rw [Bool.or_eq_true]
      left
      rw [bne_iff_ne]
      exact Nat.ne_of_lt lt
theorem noStar_any {vs : List Expr} (h : vs.all notStar = true) : (vs.any fun | .Starred .. => true | _ => false) = false := by
  induction vs with
  | nil => rfl
  | cons v vs ih =>
    rw [List.all_cons] at h
    rw [List.any_cons, ih (ba h).2]
    cases v <;> first | rfl | (exact absurd (ba h).1 (by simp [notStar]))
end Jr

set_option Elab.async false
set_option linter.all false
set_option maxRecDepth 100000
set_option maxHeartbeats 4000000
namespace Jr
open PySem PySem.Spec PyProof.Rows L2
theorem er2 {x y : Str} (h : x ≠ y) : [x, y].eraseDups.length = 2 := by
  have h1 : (y == x) = false := beq_eq_false_iff_ne.mpr (Ne.symm h)
  simp [List.eraseDups_cons, List.filter, h1]
theorem er3 {x y z : Str} (h : x ≠ y) (h2 : x ≠ z) (h3 : y ≠ z) : [x, y, z].eraseDups.length = 3 := by
  have h1 : (y == x) = false := beq_eq_false_iff_ne.mpr (Ne.symm h)
  have h2 : (z == x) = false := beq_eq_false_iff_ne.mpr (Ne.symm h2)
  have h3 : (z == y) = false := beq_eq_false_iff_ne.mpr (Ne.symm h3)
  simp [List.eraseDups_cons, List.filter, h1, h2, h3]
def nmF (env : PySem.Env) (line : Nat) : Expr → Option Str := fun
    | .Name id pos => if env.kindOf id == some .local && pos.line == line then some id else none
    | _ => none
theorem nmF_ok {env : PySem.Env} {x : Str} {p : Pos} {line : Nat} (k : (env.kindOf x == some .local) = true) (l : p.line = line) : nmF env line (.Name x p) = some x := by
  show (if env.kindOf x == some .local && p.line == line then some x else none) = _
  rw [k, l, beq_self_eq_true]
  rfl
theorem swapped_by {env : PySem.Env} {ts vs : List Expr} {names : List Str} {k k2 : Nat} {pt pt2 : Pos} (hl : (!(ts.length == 2 || ts.length == 3) || vs.length != ts.length || env.blockKind != .function) = false) (hs : vs.all notStar = true)
    (hn : ts.filterMap (nmF env ((ts.head?.map (·.pos.line)).getD 0)) = names) (h2 : names.length = ts.length) (h3 : names.eraseDups.length = names.length) (f1 : vs.all (foldedForSure 8) = false) (f2 : vs.all (constantsAlone 8) = false) :
    swappedStores [.Tuple ts k pt] (.Tuple vs k2 pt2) env = pure (some names) := by
  subst hn
  unfold swappedStores
  dsimp only
  rw [if_neg (by rw [hl]; exact Bool.false_ne_true)]
  refine (if_neg fun q => Bool.false_ne_true ((noStar_any hs).symm.trans q)).trans ?_
  refine (if_neg (show ¬ (((ts.filterMap (nmF env ((ts.head?.map (·.pos.line)).getD 0))).length != ts.length || (ts.filterMap (nmF env ((ts.head?.map (·.pos.line)).getD 0))).eraseDups.length != (ts.filterMap (nmF env ((ts.head?.map (·.pos.line)).getD 0))).length) = true) from by rw [h2, h3, h2]; simp)).trans ?_
  rw [if_neg (by rw [f1]; exact Bool.false_ne_true), if_neg (by rw [f2]; exact Bool.false_ne_true)]
  rfl
theorem fm2 {env : PySem.Env} {x y : Str} {p q : Pos} (kx : (env.kindOf x == some .local) = true) (ky : (env.kindOf y == some .local) = true) (l : p.line = q.line) :
    ([.Name x p, .Name y q] : List Expr).filterMap (nmF env ((([.Name x p, .Name y q] : List Expr).head?.map (·.pos.line)).getD 0)) = [x, y] := by
  have e : (([.Name x p, .Name y q] : List Expr).head?.map (·.pos.line)).getD 0 = p.line := rfl
  rw [e, List.filterMap_cons_some (nmF_ok kx rfl), List.filterMap_cons_some (nmF_ok ky l.symm)]
  rfl
theorem fm3 {env : PySem.Env} {x y z : Str} {p q r : Pos} (kx : (env.kindOf x == some .local) = true) (ky : (env.kindOf y == some .local) = true) (kz : (env.kindOf z == some .local) = true) (l : p.line = q.line) (l2 : p.line = r.line) :
    ([.Name x p, .Name y q, .Name z r] : List Expr).filterMap (nmF env ((([.Name x p, .Name y q, .Name z r] : List Expr).head?.map (·.pos.line)).getD 0)) = [x, y, z] := by
  have e : (([.Name x p, .Name y q, .Name z r] : List Expr).head?.map (·.pos.line)).getD 0 = p.line := rfl
  rw [e, List.filterMap_cons_some (nmF_ok kx rfl), List.filterMap_cons_some (nmF_ok ky l.symm), List.filterMap_cons_some (nmF_ok kz l2.symm)]
  rfl
end Jr

set_option Elab.async false
set_option linter.all false
set_option maxRecDepth 100000
set_option maxHeartbeats 4000000
namespace Jr
open PySem PySem.Spec PyProof.Rows L2
structure ExT (C : Nat → Option Value) (ex : List (Nat × Str)) (K : PySem.W.Frag) (mg : Str → Option Value) : Prop where
  at_ : ∀ n x, (n, x) ∈ ex → ∃ (Cc : Addr) (B newId initId : String) (bmB : List Value), ExcBaseFacts B newId initId bmB ∧ PySem.W.excIn K Cc bmB newId = true ∧ mg x = some (.ref Cc) ∧ PySem.W.keepIn K (.ref Cc) = true ∧
    PySem.W.subIn K (.ref Cc) (.type "BaseException") = some true ∧ PySem.W.typeIn K (.ref Cc) = some (.type "type") ∧ C n = some (.ref Cc)
  exm : ∀ c v n x, C c = some v → (n, x) ∈ ex → PySem.W.exmOne K v ((C n).getD .none) = some (n == c)
structure SCx (C : Nat → Option Value) (T : Tab) (k : Nat) (cf : CF) (N : List Str) (sc : Scope) (X : Cx) (W : WX) : Prop where
  e : ECx C T k cf N sc X W
  fk : fkB sc = true
  fn : ∀ y, X.fn y = true
  stk : X.stack = X.env :: X.outer
  frm : X.env.frame = some X.env.locals
  pow : PassesOwn (model X.prog X.w) X.A X.env X.xe
  ex : ExT C T.ex X.K X.mg
section
variable {C : Nat → Option Value} {T : Tab} {k : Nat} {cf : CF} {N : List Str}
theorem SCx.tr {sc : Scope} {X : Cx} {W W' : WX} (c : SCx C T k cf N sc X W) {pn : List (Addr × Obj)} {xe : Value → Shared → Prop} (tk : Takes (X.tr pn xe) W') (p : PassesOwn (model X.prog X.w) X.A X.env xe) : SCx C T k cf N sc (X.tr pn xe) W' :=
  ⟨⟨c.e.calm, c.e.n, c.e.nd, c.e.hsc, c.e.room, tk, c.e.blt, c.e.funs⟩, c.fk, c.fn, c.stk, c.frm, p, c.ex⟩
theorem SCx.tg {sc : Scope} {X : Cx} {W : WX} (c : SCx C T k cf N sc X W) {i : Nat} {x : Str} (m : mNm N sc i x = true) : TgOk X i x := by
  unfold mNm at m
  obtain ⟨m1, m2⟩ := ba m
  exact ⟨by rw [c.e.n]; exact of_decide_eq_true m1, by rw [c.e.hsc]; exact loc_of m2, .inl (c.fn x)⟩
theorem SCx.pg {sc : Scope} {X : Cx} {W : WX} (c : SCx C T k cf N sc X W) {t : Tg} {tg : Expr} (m : mTg N sc t tg = true) : PG X tg (gOf X.K t) := pg_of c.e.calm (by rw [c.e.n]; exact c.e.nd) (fun i x h => c.tg h) m
/-- a comprehension's parts -/
theorem cmp_of {e d : E} {t : Tg} {own : List Nat} {it : It} {sc : Scope} {X : Cx} {W : WX} {elt tg iter : Expr} {ifs : List Expr} {scope : Scope} {pos : Pos} (c : ECx C T k cf N sc X W) (m : mF T N sc (.cmp e t own it d) (.ListComp elt [⟨tg, iter, ifs, 0⟩] scope pos) = true) :
    GI C cf it X W tg iter ∧ (itB it = true → isTp t = true) ∧ BlkOk X.N X.env.scope scope (ownS N own) ∧ tgIn t ((ownS N own).map (·.2)) = true ∧ (∀ (s : Shared) (H : Hp) (Cc : Addr) (cl : List (Str × Addr)) (fp : List Addr), PG (X.blk s H scope (compEnvC scope cl Cc X.env) fp) tg (gOf X.K t)) ∧
    (∀ (s : Shared) (H : Hp) (Cc : Addr) (cl : List (Str × Addr)) (fp : List Addr), PTs (X.blk s H scope (compEnvC scope cl Cc X.env) fp) ifs (tT C (fun en => tt (evE cf d en)) X.K W0)) ∧
    (∀ (s : Shared) (H : Hp) (Cc : Addr) (cl : List (Str × Addr)) (fp : List Addr), PE (X.blk s H scope (compEnvC scope cl Cc X.env) fp) elt (tE C (evE cf e) X.K W0)) := by
  unfold mF at m
  obtain ⟨m, m6⟩ := ba m
  obtain ⟨m, m5⟩ := ba m
  obtain ⟨m, m4⟩ := ba m
  obtain ⟨m, m3⟩ := ba m
  obtain ⟨m, mb⟩ := ba m
  obtain ⟨m1, m2⟩ := ba m
  refine ⟨sI it tg c m4, isB mb, by rw [c.n, c.hsc]; exact blkOk_by m1, by rw [own_back]; exact m2, fun s H Cc cl fp => pg_of c.calm (by show X.N.Nodup; rw [c.n]; exact c.nd) (fun i x mm => tg_blk c.n c.hsc s H Cc cl fp i x mm) m3, fun s H Cc cl fp => ?_,
    fun s H Cc cl fp => (sE e (c.blk scope s H Cc cl fp) m5).1⟩
  have cb := c.blk scope s H Cc cl fp
  split at m6
  · split at m6
    · exact pts_imp pts_nil (t_if1 (evt := fun _ => fail))
    · cases m6
  · obtain ⟨n1, n2⟩ := ba m6
    exact pts_one ((sE d cb n2).2 n1)
  · cases m6
theorem cmp2_of {e d : E} {t t1 : Tg} {own own1 : List Nat} {it it1 : It} {sc : Scope} {X : Cx} {W : WX} {elt tg iter tg1 iter1 : Expr} {ifs : List Expr} {scope : Scope} {pos : Pos} (c : ECx C T k cf N sc X W) (m : mF T N sc (.cmp2 e t t1 own own1 it it1 d) (.ListComp elt [⟨tg, iter, [], 0⟩, ⟨tg1, iter1, ifs, 0⟩] scope pos) = true) :
    GI C cf it X W tg iter ∧ BlkOk X.N X.env.scope scope (ownS N own) ∧ (∀ i ∈ own1, i ∈ (ownS N own).map (·.2)) ∧ (itB it = true → isTp t = true) ∧ (itB it1 = true → isTp t1 = true) ∧ tgIn t ((ownS N own).map (·.2)) = true ∧ tgIn t1 own1 = true ∧
    (∀ (s : Shared) (H : Hp) (Cc : Addr) (cl : List (Str × Addr)) (fp : List Addr), PG (X.blk s H scope (compEnvC scope cl Cc X.env) fp) tg (gOf X.K t)) ∧
    (∀ (s : Shared) (H : Hp) (Cc : Addr) (cl : List (Str × Addr)) (fp : List Addr), PI (X.blk s H scope (compEnvC scope cl Cc X.env) fp) tg1 iter1 (tI (itB it1) C (evI cf it1) X.K W0)) ∧
    (∀ (s : Shared) (H : Hp) (Cc : Addr) (cl : List (Str × Addr)) (fp : List Addr), PG (X.blk s H scope (compEnvC scope cl Cc X.env) fp) tg1 (gOf X.K t1)) ∧
    (∀ (s : Shared) (H : Hp) (Cc : Addr) (cl : List (Str × Addr)) (fp : List Addr), PTs (X.blk s H scope (compEnvC scope cl Cc X.env) fp) ifs (tT C (fun en => tt (evE cf d en)) X.K W0)) ∧
    (∀ (s : Shared) (H : Hp) (Cc : Addr) (cl : List (Str × Addr)) (fp : List Addr), PE (X.blk s H scope (compEnvC scope cl Cc X.env) fp) elt (tE C (evE cf e) X.K W0)) ∧ (∀ env x, foldedSetIterable iter1 env x = pure x) := by
  unfold mF at m
  obtain ⟨m, m12⟩ := ba m
  obtain ⟨m, m11⟩ := ba m
  obtain ⟨m, m10⟩ := ba m
  obtain ⟨m, m9⟩ := ba m
  obtain ⟨m, m8⟩ := ba m
  obtain ⟨m, m7⟩ := ba m
  obtain ⟨m, m6⟩ := ba m
  obtain ⟨m, m5⟩ := ba m
  obtain ⟨m, m4⟩ := ba m
  obtain ⟨m, m3⟩ := ba m
  obtain ⟨m1, m2⟩ := ba m
  refine ⟨sI it tg c m9, by rw [c.n, c.hsc]; exact blkOk_by m1, by rw [own_back]; intro i hi; have := List.all_eq_true.mp m2 i hi; simpa using this, isB m5, isB m6, by rw [own_back]; exact m3, m4,
    fun s H Cc cl fp => pg_of c.calm (by show X.N.Nodup; rw [c.n]; exact c.nd) (fun i x mm => tg_blk c.n c.hsc s H Cc cl fp i x mm) m7,
    fun s H Cc cl fp => (sI it1 tg1 (c.blk scope s H Cc cl fp) m10).1,
    fun s H Cc cl fp => pg_of c.calm (by show X.N.Nodup; rw [c.n]; exact c.nd) (fun i x mm => tg_blk c.n c.hsc s H Cc cl fp i x mm) m8, fun s H Cc cl fp => ?_,
    fun s H Cc cl fp => (sE e (c.blk scope s H Cc cl fp) m11).1, mI_fold it1 tg1 m10⟩
  have cb := c.blk scope s H Cc cl fp
  split at m12
  · split at m12
    · exact pts_imp pts_nil (t_if1 (evt := fun _ => fail))
    · cases m12
  · obtain ⟨n1, n2⟩ := ba m12
    exact pts_one ((sE d cb n2).2 n1)
  · cases m12
theorem assign_sub {y z : Expr} {p : Pos} {env : PySem.Env} (h : notSlice z = true) : ∀ v, assign (.Subscript y z p) env v = (do
      let ov ← holding [v] (eval y env)
      let iv ← holding [v, ov] (eval z env)
      standAt p
      holding [v, ov, iv] (setItem ov iv v)
      release [v, ov, iv] []) := by
  cases z <;> first | exact fun _ => rfl | cases h
theorem noSw {x : Expr} {line : Nat} {env : PySem.Env} (h : notComp x = true) : swapsWith x none line env = pure false := by
  cases x <;> first | rfl | cases h
theorem each1 {tg : Expr} {env : PySem.Env} (h : match tg with
    | .Name .. => True
    | .Tuple .. => True
    | .Subscript .. => True
    | _ => False) : (assignEach [tg] env).map (·.2) = [assign tg env] := by
  cases tg <;> first | rfl | exact h.elim
theorem hds_of {sc : Scope} {X : Cx} {W : WX} (c : SCx C T k cf N sc X W) : ∀ (hs : List (Nat × Str)) (hds : List ExceptHandler), mHds T sc hs hds = true → HdsOk X hds (hdl C hs) ∧ (∀ p ∈ hs, okS p.2 = true) ∧ ∀ p ∈ hs, ∃ x, (p.1, x) ∈ T.ex
  | [], [], _ => ⟨.nil, (by simp), (by simp)⟩
  | [], _ :: _, h => by simp [mHds] at h
  | p :: hs, hds, h => by
    obtain ⟨n, s⟩ := p
    unfold mHds at h
    split at h
    · rename_i e; cases e
    · rename_i e0
      cases e0
      obtain ⟨h, h6⟩ := ba h
      obtain ⟨h, h5⟩ := ba h
      obtain ⟨h, h4⟩ := ba h
      obtain ⟨h, h3⟩ := ba h
      obtain ⟨h1, h2⟩ := ba h
      have h4 := of_decide_eq_true h4
      subst h4
      have mem := List.contains_iff_mem.mp h1
      obtain ⟨Cc, B, newId, initId, bmB, F, q, gC, kC, sb, ty, eC⟩ := c.ex.at_ _ _ mem
      obtain ⟨i1, i2, i3⟩ := hds_of c hs _ h6
      refine ⟨HdsOk.cons ⟨glo_of c.e.hsc h2, (nm_of h3).1, .inl ?_⟩ (fun a oe cls d pn _ _ => ?_) i1, ?_, ?_⟩
      · show X.mg _ = some ((C _).getD .none)
        rw [eC]; exact gC
      · exact pssi (pss_cons (ps_ret pe_str) pss_nil) fun D σ H h => h
      · intro p hp
        rcases List.mem_cons.mp hp with rfl | hp
        · exact h5
        · exact i2 p hp
      · intro p hp
        rcases List.mem_cons.mp hp with rfl | hp
        · exact ⟨_, mem⟩
        · exact i3 p hp
    · cases h
mutual
theorem sS : ∀ (s : S) {sc : Scope} {X : Cx} {W : WX} {st : Stmt} (n : Nat), SCx C T k cf N sc X W → mS T N sc s st = true → PS X st (tS C (evS cf n s) X.K W)
  | .asg t e, sc, X, W, st, n, c, m => by
    unfold mS at m
    split at m
    · rename_i tg x p
      obtain ⟨m, m4⟩ := ba m
      obtain ⟨m, m3⟩ := ba m
      obtain ⟨m1, m2⟩ := ba m
      have sw := sw_of (tg := tg) (line := p.line) c.e.hsc c.fk m3
      split at m4
      · rename_i e1
        rw [e1] at sw
        split at m4
        · obtain ⟨hy, _⟩ := ba m1
          have hy := of_decide_eq_true hy
          unfold mE at m2
          obtain ⟨gi, hb, ok, ht, hg, hf, he⟩ := cmp_of c.e m2
          have r := s_setLc (C := C) (W := W) (pos := by assumption) (spos := p) (mk := fun xs => pD (.list xs)) c.e.calm (by rw [c.e.n]; exact c.e.nd) (by rw [c.e.n]; exact hy) (by rw [c.e.hsc]; exact local_of m4) ((sw_of' c.e.hsc c.fk m3).trans (congrArg pure e1)) gi.1 ok hb ht hg hf he (gi.2 _) (.inl rfl)
          rw [own_back] at r
          exact r
        · obtain ⟨hy, _⟩ := ba m1
          have hy := of_decide_eq_true hy
          unfold mE at m2
          obtain ⟨gi, hb, ok, ht, hg, hf, he⟩ := cmp_of c.e m2
          have r := s_setLc (C := C) (W := W) (pos := by assumption) (spos := p) (mk := fun xs => newC (.lst xs)) c.e.calm (by rw [c.e.n]; exact c.e.nd) (by rw [c.e.n]; exact hy) (by rw [c.e.hsc]; exact local_of m4) ((sw_of' c.e.hsc c.fk m3).trans (congrArg pure e1)) gi.1 ok hb ht hg hf he (gi.2 _) (.inr rfl)
          rw [own_back] at r
          exact r
        · obtain ⟨hy, _⟩ := ba m1
          have hy := of_decide_eq_true hy
          unfold mE at m2
          obtain ⟨gi, ok, hv, hb, hb1, ht, ht1, hg, hi1, hg1, hf, he, hs1⟩ := cmp2_of c.e m2
          have r := s_setLc2 (C := C) (W := W) (pos := by assumption) (spos := p) (mk := fun xs => pD (.list xs)) c.e.calm (by rw [c.e.n]; exact c.e.nd) (by rw [c.e.n]; exact hy) (by rw [c.e.hsc]; exact local_of m4) ((sw_of' c.e.hsc c.fk m3).trans (congrArg pure e1)) gi.1 ok hv hb hb1 ht ht1 hg hi1 hg1 hf he (gi.2 _) hs1 (.inl rfl)
          rw [own_back] at r
          exact r
        · obtain ⟨hy, _⟩ := ba m1
          have hy := of_decide_eq_true hy
          unfold mE at m2
          obtain ⟨gi, ok, hv, hb, hb1, ht, ht1, hg, hi1, hg1, hf, he, hs1⟩ := cmp2_of c.e m2
          have r := s_setLc2 (C := C) (W := W) (pos := by assumption) (spos := p) (mk := fun xs => newC (.lst xs)) c.e.calm (by rw [c.e.n]; exact c.e.nd) (by rw [c.e.n]; exact hy) (by rw [c.e.hsc]; exact local_of m4) ((sw_of' c.e.hsc c.fk m3).trans (congrArg pure e1)) gi.1 ok hv hb hb1 ht ht1 hg hi1 hg1 hf he (gi.2 _) hs1 (.inr rfl)
          rw [own_back] at r
          exact r
        · cases m4
      · rename_i e1
        rw [e1] at sw
        split at m4
        · exact s_asg (sE e c.e m2).1 (c.pg m1) sw ss_name rfl
        · cases t with
          | nm i => cases tg <;> first | (simp [mTg] at m1; done) | exact s_asg (sE e c.e m2).1 (c.pg m1) sw ss_name rfl
          | tp is => cases tg <;> first | (simp [mTg] at m1; done) | exact s_asg (sE e c.e m2).1 (c.pg m1) sw (ss_tup m4) rfl
          | tn is js => cases tg <;> first | (simp [mTg] at m1; done) | exact s_asg (sE e c.e m2).1 (c.pg m1) sw (ss_tup m4) rfl
    · cases m
  | .par is es, sc, X, W, st, n, c, m => by
    unfold mS at m
    split at m
    · rename_i xs k1 p1 vs k2 p2 p3
      obtain ⟨m2, m⟩ := ba m
      split at m
      rotate_left
      · obtain ⟨m, m5⟩ := ba m
        obtain ⟨m3, m4⟩ := ba m
        have m4 := of_decide_eq_true m4
        obtain ⟨p1, p2, p3⟩ := pgs_of (X := X) (by rw [c.e.n]; exact c.e.nd) is xs (tgs_of (fun i x h => c.tg h) is xs m3)
        exact s_parT c.e.calm p1 p2 p3 (sEs es c.e m2).1 (Nat.le_trans m4 (by decide)) (sw_of c.e.hsc c.fk rfl) ((Bool.or_eq_true_iff.mp m5).elim ss_noSwap (ss_noSwapB c.e.hsc))
      rename_i mm
      obtain ⟨mm, m4⟩ := ba mm
      obtain ⟨m1, m3⟩ := ba mm
      have m3 : vs.all (foldedForSure 8) = false := by simpa using m3
      have m4 : vs.all (constantsAlone 8) = false := by simpa using m4
      have st := mEs_star _ _ m2
      have bk := bk_of c.e.hsc c.fk
      unfold mPar at m1
      split at m1
      · obtain ⟨m1, d7⟩ := ba m1
        obtain ⟨m1, d6⟩ := ba m1
        obtain ⟨m1, d5⟩ := ba m1
        obtain ⟨m1, d4⟩ := ba m1
        obtain ⟨m1, d3⟩ := ba m1
        obtain ⟨d1, d2⟩ := ba m1
        have d5 := eq_of_beq d5
        have d7 := of_decide_eq_true d7
        exact s_par c.e.calm (by rw [c.e.n]; exact c.e.nd) (by rw [c.e.n]; exact of_decide_eq_true d1) (by rw [c.e.n]; exact of_decide_eq_true d2) (of_decide_eq_true d6) (by rw [c.e.hsc]; exact local_of d3) (by rw [c.e.hsc]; exact local_of d4) (sEs es c.e m2).1
          (swapped_by (by rw [bk]; rfl) st (fm2 ((kind_of c.e.hsc _).trans d3) ((kind_of c.e.hsc _).trans d4) d5) rfl (er2 d7) m3 m4)
      · obtain ⟨m1, d14⟩ := ba m1
        obtain ⟨m1, d13⟩ := ba m1
        obtain ⟨m1, d12⟩ := ba m1
        obtain ⟨m1, d11⟩ := ba m1
        obtain ⟨m1, d10⟩ := ba m1
        obtain ⟨m1, d9⟩ := ba m1
        obtain ⟨m1, d8⟩ := ba m1
        obtain ⟨m1, d7⟩ := ba m1
        obtain ⟨m1, d6⟩ := ba m1
        obtain ⟨m1, d5⟩ := ba m1
        obtain ⟨m1, d4⟩ := ba m1
        obtain ⟨m1, d3⟩ := ba m1
        obtain ⟨d1, d2⟩ := ba m1
        have d7 := eq_of_beq d7
        have d8 := eq_of_beq d8
        exact s_par3 c.e.calm (by rw [c.e.n]; exact c.e.nd) (by rw [c.e.n]; exact of_decide_eq_true d1) (by rw [c.e.n]; exact of_decide_eq_true d2) (by rw [c.e.n]; exact of_decide_eq_true d3) (of_decide_eq_true d9) (of_decide_eq_true d10) (of_decide_eq_true d11) (by rw [c.e.hsc]; exact local_of d4) (by rw [c.e.hsc]; exact local_of d5) (by rw [c.e.hsc]; exact local_of d6) (sEs es c.e m2).1
          (swapped_by (by rw [bk]; rfl) st (fm3 ((kind_of c.e.hsc _).trans d4) ((kind_of c.e.hsc _).trans d5) ((kind_of c.e.hsc _).trans d6) d7 d8) rfl (er3 (of_decide_eq_true d12) (of_decide_eq_true d13) (of_decide_eq_true d14)) m3 m4)
      · cases m1
    · cases m
  | .aug i e, sc, X, W, st, n, c, m => by
    unfold mS at m
    split at m
    · obtain ⟨m1, m2⟩ := ba m
      obtain ⟨t1, t2, t3⟩ := c.tg m1
      exact s_aug (by rw [c.e.n]; exact c.e.nd) t1 t2 (sE e c.e m2).1 t3
    · cases m
  | .set o i e, sc, X, W, st, n, c, m => by
    unfold mS at m
    split at m
    · obtain ⟨m, m5⟩ := ba m
      obtain ⟨m, m4⟩ := ba m
      obtain ⟨m, m3⟩ := ba m
      obtain ⟨m1, m2⟩ := ba m
      refine s_set (sE e c.e m5).1 (sE o c.e m3).1 (sE i c.e m4).1 ?_ ss_sub rfl (assign_sub m1)
      rw [sw_of c.e.hsc c.fk m2]
      congr 1
      unfold swB
      split <;> rfl
    · cases m
  | .ex e, sc, X, W, st, n, c, m => by
    unfold mS at m
    split at m
    · obtain ⟨m1, m2⟩ := ba m
      exact s_ex (sE e c.e m2).1 (noSw m1)
    · cases m
  | .ite d a b, sc, X, W, st, n, c, m => by
    unfold mS at m
    split at m
    · obtain ⟨m, m4⟩ := ba m
      obtain ⟨m, m3⟩ := ba m
      obtain ⟨m1, m2⟩ := ba m
      exact s_ite ((sE d c.e m2).2 m1) (sB a n c m3) (sB b n c m4)
    · cases m
  | .for_ t it b, sc, X, W, st, n, c, m => by
    unfold mS at m
    split at m
    · obtain ⟨m, m3⟩ := ba m
      obtain ⟨m, m2⟩ := ba m
      obtain ⟨m1, mb⟩ := ba m
      have gi := sI it _ c.e m2
      exact s_for c.pow c.e.calm gi.1 (isB mb) (c.pg m1) (sB b n c m3) (gi.2 _)
    · cases m
  | .whl d b, sc, X, W, st, n, c, m => by
    unfold mS at m
    split at m
    · obtain ⟨m, m3⟩ := ba m
      obtain ⟨m1, m2⟩ := ba m
      exact s_whl c.pow ((sE d c.e m2).2 m1) (sB b n c m3)
    · cases m
  | .ret e, sc, X, W, st, n, c, m => by
    unfold mS at m
    split at m
    · exact s_ret (sE e c.e m).1
    · cases m
  | .rse i, sc, X, W, st, n, c, m => by
    unfold mS at m
    split at m
    · obtain ⟨m, m3⟩ := ba m
      obtain ⟨m1, m2⟩ := ba m
      obtain ⟨Cc, B, newId, initId, bmB, F, q, gC, kC, sb, ty, eC⟩ := c.ex.at_ _ _ (List.contains_iff_mem.mp m1)
      exact s_rse c.e.calm c.e.tk F q gC kC (raises_own sb ty) (glo_of c.e.hsc m2) (nm_of m3).1 eC
    · cases m
  | .try_ b hs, sc, X, W, st, n, c, m => by
    unfold mS at m
    split at m
    · obtain ⟨m1, m2⟩ := ba m
      obtain ⟨h1, h2, h3⟩ := hds_of c _ _ m2
      exact s_try c.stk c.frm c.e.tk (fun W' pn xe tk pp => sB b n (c.tr tk pp) m1) h1 (fun i v p e hp => (h3 p hp).elim fun x hx => c.ex.exm i v p.1 x e hx) h2
    · cases m
  | .frz i, sc, X, W, st, n, c, m => by unfold mS at m; cases m
  | .dput o i e, sc, X, W, st, n, c, m => by
    unfold mS at m
    split at m
    · obtain ⟨m, m5⟩ := ba m
      obtain ⟨m, m4⟩ := ba m
      obtain ⟨m, m3⟩ := ba m
      obtain ⟨m1, m2⟩ := ba m
      refine s_dput c.e.room.units (sE e c.e m5).1 (sE o c.e m3).1 (sE i c.e m4).1 ?_
      rw [sw_of' c.e.hsc c.fk m2]
      congr 1
      unfold swB
      split <;> rfl
    · cases m
  | .bad, sc, X, W, st, n, c, m => ⟨fun pins s σ H Q I h => by
      obtain ⟨_, _, _, _, _, _, o⟩ := h
      exact False.elim o⟩
theorem sB : ∀ (b : B) {sc : Scope} {X : Cx} {W : WX} {sts : List Stmt} (n : Nat), SCx C T k cf N sc X W → mB T N sc b sts = true → PSs X sts (tS C (evB cf n b) X.K W)
  | .nil, sc, X, W, sts, n, c, m => by
    unfold mB at m
    cases sts with
    | nil => exact ss_nil
    | cons _ _ => cases m
  | .cons s b, sc, X, W, sts, n, c, m => by
    unfold mB at m
    split at m
    · exact ss_frz (sB b n c m)
    · split at m
      · obtain ⟨m1, m2⟩ := ba m
        exact ss_cons (sS s n c m1) (sB b n c m2)
      · cases m
end
end
end Jr

set_option Elab.async false
set_option linter.all false
set_option maxRecDepth 100000
set_option maxHeartbeats 4000000
namespace Jr
open PySem PySem.Spec PyProof.Rows L2
/-- what the text must be for the table -/
def mDef (T : Tab) (d : Def) (st : Stmt) : Bool := mB T d.N (defScope st) d.body (defBody st) && fkB (defScope st) && decide (d.np ≤ d.N.length)
/-- a def of the table in the frozen ground -/
structure DefAt (K : PySem.W.Frag) (mg : Str → Option Value) (T : Tab) (d : Def) : Prop where
  ex : ∃ (fa : Addr) (fd : FuncData) (qual : Str) (st : Stmt), Fun K d.name qual st fa fd ∧ FnScope d.N (d.N.take d.np) (defScope st) ∧ Binds K fd (d.N.take d.np) [] ∧ mg d.name = some (.ref fa) ∧ mDef T d st = true
theorem level_step {P : Program} {w : World} {K : PySem.W.Frag} {mg : Str → Option Value} {base : Heap} {C : Nat → Option Value} {T : Tab} (n : Nat) (hb : ∀ x ∈ names0, mg (Str.ofString x) = none) (ex : ExT C T.ex K mg) {k f : Nat} {d : Def} {qual : Str} {st : Stmt} {fa : Addr} {fd : FuncData}
    (e : T.fn f = some d) (F : Fun K d.name qual st fa fd) (S : FnScope d.N (d.N.take d.np) (defScope st)) (m : mDef T d st = true)
    (hs : ∀ f d, T.fn f = some d → f ∈ T.pres → ∃ a fd, mg d.name = some (.ref a) ∧ PySem.W.keepIn K (.ref a) = true ∧ Binds K fd (d.N.take d.np) [] ∧ FnOk P w K mg base (L2.CX P w) k a fd (d.N.take d.np) (spM C K (callF T.fn n k f))) :
    FnOk P w K mg base (L2.CX P w) (k + 1) fa fd (d.N.take d.np) (spM C K (callF T.fn n (k + 1) f)) := by
  unfold mDef at m
  obtain ⟨m, m3⟩ := ba m
  obtain ⟨m1, m2⟩ := ba m
  have m3 := of_decide_eq_true m3
  have r := ok_def (P := P) (w := w) (K := K) (mg := mg) (base := base) (C := C) (k := k) (evb := evB (callF T.fn n k) n d.body) F S fun X h1 h2 h3 h4 h5 h6 h7 h8 h9 h10 h11 h12 h13 W h14 => by
    subst h1 h2 h3 h4 h5
    exact sB d.body n ⟨⟨h8, h6, S.nd, h7, h12, h14, hb, hs⟩, m2, h9, h10, h11, h13, ex⟩ m1
  have hl : (d.N.take d.np).length = d.np := by rw [List.length_take]; omega
  rw [hl] at r
  have e2 : callF T.fn n (k + 1) f = fun (vs : List Vl) => if vs.length = d.np then fun h => shut h.length (evB (callF T.fn n k) n d.body (vs.map some ++ List.replicate (d.N.length - d.np) none)) h else fail := by
    funext vs
    show (match T.fn f with
      | some d => if vs.length = d.np then fun (h : Hh) => shut h.length (evB (callF T.fn n k) n d.body (vs.map some ++ List.replicate (d.N.length - d.np) none)) h else fail
      | none => fail) = _
    rw [e]
  rw [e2]
  exact r
theorem level {P : Program} {w : World} {K : PySem.W.Frag} {mg : Str → Option Value} {base : Heap} {C : Nat → Option Value} {T : Tab} (n : Nat) (hd : ∀ f d, T.fn f = some d → f ∈ T.pres → DefAt K mg T d) (hb : ∀ x ∈ names0, mg (Str.ofString x) = none) (ex : ExT C T.ex K mg) :
    ∀ k f d, T.fn f = some d → f ∈ T.pres → ∃ a fd, mg d.name = some (.ref a) ∧ PySem.W.keepIn K (.ref a) = true ∧ Binds K fd (d.N.take d.np) [] ∧ FnOk P w K mg base (L2.CX P w) k a fd (d.N.take d.np) (spM C K (callF T.fn n k f))
  | 0, f, d, e, p => by
    obtain ⟨fa, fd, qual, st, F, S, B, g, m⟩ := (hd f d e p).ex
    refine ⟨fa, fd, g, F.kp, B, ⟨fun vs H Q E h => ?_, fun A outer s H args us vs Q E hr he hb hv h => ?_⟩⟩
    · obtain ⟨L, ρ, h, xs, _, _, o⟩ := h
      exact False.elim o
    · obtain ⟨L, ρ, h, xs, _, _, o⟩ := h
      exact False.elim o
  | k + 1, f, d, e, p => by
    obtain ⟨fa, fd, qual, st, F, S, B, g, m⟩ := (hd f d e p).ex
    exact ⟨fa, fd, g, F.kp, B, level_step n hb ex e F S m fun f' d' e' p' => level n hd hb ex k f' d' e' p'⟩
end Jr

set_option Elab.async false
set_option linter.all false
set_option maxRecDepth 100000
set_option maxHeartbeats 4000000
namespace Jr
open PySem PySem.Spec PyProof.Rows L2
theorem lookup_mem : ∀ (l : List (Str × Value)), (l.map (·.1)).Nodup → ∀ p ∈ l, l.lookup p.1 = some p.2
  | [], _, p, h => by cases h
  | q :: l, nd, p, h => by
    rw [List.map_cons, List.nodup_cons] at nd
    obtain ⟨q1, q2⟩ := q
    rcases List.mem_cons.mp h with rfl | h
    · show (match q1 == q1 with | true => some q2 | false => l.lookup q1) = some q2
      rw [beq_self_eq_true]
    · have ne : (p.1 == q1) = false := beq_eq_false_iff_ne.mpr fun e => nd.1 (List.mem_map.mpr ⟨p, h, e⟩)
      show (match p.1 == q1 with | true => some q2 | false => l.lookup p.1) = some p.2
      rw [ne]
      exact lookup_mem l nd.2 p h
theorem names_zip {ns : List Str} {us : List Value} (nd : ns.Nodup) (hl : us.length = ns.length) : (ns.filterMap fun n => ((ns.zip us).lookup n).map (n, ·)) = ns.zip us ∧ (ns.filter fun n => ((ns.zip us).lookup n).isNone) = [] := by
  have e : (ns.zip us).map Prod.fst = ns := List.map_fst_zip (by omega)
  have lk : ∀ p ∈ ns.zip us, (ns.zip us).lookup p.1 = some p.2 := lookup_mem _ (by rw [show (ns.zip us).map (·.1) = ns from e]; exact nd)
  constructor
  · have key : ∀ l : List (Str × Value), (∀ p ∈ l, (ns.zip us).lookup p.1 = some p.2) → ((l.map Prod.fst).filterMap fun n => ((ns.zip us).lookup n).map (n, ·)) = l := by
      intro l
      induction l with
      | nil => intro _; rfl
      | cons p l ih =>
        intro h
        rw [List.map_cons, List.filterMap_cons_some (b := p) (by rw [h p List.mem_cons_self]; rfl), ih fun q hq => h q (List.mem_cons_of_mem _ hq)]
    have := key _ lk
    rw [e] at this
    exact this
  · rw [List.filter_eq_nil_iff]
    intro n hn
    rw [← e] at hn
    obtain ⟨p, hp, rfl⟩ := List.mem_map.mp hn
    rw [lk p hp]
    simp
theorem bind_plain {x qual : Str} {body : List Stmt} {scope : Scope} {kV doc pm : Value} {an : Option Addr} {cdv ct : Value} {as : List Arg} {us : List Value} (hl : us.length = as.length) (nd : (as.map (·.arg)).Nodup) :
    bindArgs (PySem.W.fnOf x qual ⟨[], as, none, [], [], none, []⟩ body scope .none kV doc pm an cdv ct) ⟨us, []⟩ = pure ((as.map (·.arg)).zip us) := by
  obtain ⟨h1, h2⟩ := names_zip (us := us) nd (by rw [List.length_map]; exact hl)
  unfold bindArgs
  dsimp only [PySem.W.fnOf, List.map_nil, List.nil_append]
  generalize hns : as.map (·.arg) = ns at h1 h2 nd ⊢
  have hl : us.length = ns.length := by rw [← hns, List.length_map]; exact hl
  have s0 : (seqItems? Value.none : Sem (Option (Array Value))) = pure none := rfl
  simp only [s0, List.map_nil, List.nil_append, List.append_nil, List.forIn_nil, pure_bind, Option.getD_none, List.length_nil, Nat.zero_sub, List.drop_nil, Nat.sub_zero, List.take_length, List.zip_nil_right, h2, h1, hl, List.isEmpty_nil, Bool.not_true, Bool.false_eq_true, if_false, gt_iff_lt, Nat.lt_irrefl, decide_false, Bool.false_and, List.drop_length]
end Jr

set_option Elab.async false
set_option linter.all false
set_option maxRecDepth 100000
set_option maxHeartbeats 4000000
namespace Jr
open PySem PySem.Spec PyProof.Rows L2
/-! ### a law's table, its facts -/
/-- the table's rows: number, code, text -/
structure Tb where
  rows : List (Nat × Def × Stmt)
  ex : List (Nat × Str)
def Tb.tab (t : Tb) : Tab := ⟨fun f => (t.rows.lookup f).map (·.1), t.rows.map (·.1), t.ex⟩
def dOf (d : Def) (st : Stmt) : He.DefD := ⟨(d.name, none), d.name, d.name, defArgs st, defBody st, defScope st, [], []⟩
def Tb.fn (t : Tb) : List He.DefD := t.rows.map fun r => dOf r.2.1 r.2.2
def Tb.fa (t : Tb) : List He.Fa := (t.rows.map fun r => .glo r.2.1.name) ++ (names0.map fun x => .free (Str.ofString x)) ++ (t.ex.map fun p => .glo p.2) ++ (t.ex.map fun p => .exc p.2) ++ (t.ex.flatMap fun p => t.ex.map fun q => .exm p.2 q.2 (q.1 == p.1))
def scB (d : Def) (sc : Scope) : Bool := fkB sc && !sc.isCoroutine && !sc.isGenerator && decide d.N.Nodup && ((d.N.take d.np).all fun x => locB sc x) && (sc.names.all fun y => decide (y.2 ≠ .free))
def argB (d : Def) (a : Arguments) : Bool := match a with
  | ⟨[], as, none, [], [], none, []⟩ => decide (as.map (·.arg) = d.N.take d.np)
  | _ => false
def Tb.good (t : Tb) : Bool := (t.rows.all fun r => mDef t.tab r.2.1 r.2.2 && scB r.2.1 (defScope r.2.2) && argB r.2.1 (defArgs r.2.2)) && decide (t.ex.map (·.1)).Nodup
theorem lookup_in {β : Type} : ∀ {l : List (Nat × β)} {f : Nat} {y : β}, l.lookup f = some y → (f, y) ∈ l
  | [], f, y, h => by cases h
  | (g, z) :: l, f, y, h => by
    have h2 : (match f == g with | true => some z | false => l.lookup f) = some y := h
    cases q : f == g with
    | true =>
      rw [q] at h2
      cases h2
      rw [eq_of_beq q]
      exact List.mem_cons_self
    | false =>
      rw [q] at h2
      exact List.mem_cons_of_mem _ (lookup_in h2)
theorem lookup_nd {β : Type} : ∀ {l : List (Nat × β)} {f : Nat} {y : β}, (l.map (·.1)).Nodup → (f, y) ∈ l → l.lookup f = some y
  | [], f, y, _, h => by cases h
  | (g, z) :: l, f, y, nd, h => by
    rw [List.map_cons, List.nodup_cons] at nd
    show (match f == g with | true => some z | false => l.lookup f) = some y
    rcases List.mem_cons.mp h with e | h
    · cases e
      rw [beq_self_eq_true]
    · have ne : (f == g) = false := beq_eq_false_iff_ne.mpr fun e => nd.1 (List.mem_map.mpr ⟨_, h, e⟩)
      rw [ne]
      exact lookup_nd nd.2 h
theorem fnScope_of {d : Def} {sc : Scope} (h : scB d sc = true) (hl : d.np ≤ d.N.length) : FnScope d.N (d.N.take d.np) sc := by
  unfold scB at h
  obtain ⟨h, h6⟩ := ba h
  obtain ⟨h, h5⟩ := ba h
  obtain ⟨h, h4⟩ := ba h
  obtain ⟨h, h3⟩ := ba h
  obtain ⟨h1, h2⟩ := ba h
  refine ⟨?_, by simpa using h2, by simpa using h3, of_decide_eq_true h4, ?_, fun x hx => ?_, fun y hy => ?_⟩
  · unfold fkB at h1
    split at h1
    · rename_i q; exact q
    · cases h1
  · rw [List.length_take, Nat.min_eq_left hl]
  · exact loc_of (List.all_eq_true.mp h5 x hx)
  · exact of_decide_eq_true (List.all_eq_true.mp h6 y hy)
theorem binds_of {K : PySem.W.Frag} {d : Def} {st : Stmt} {f : Addr} {fd : FuncData} {kws : List (Str × V)} (F : FunD K d.name d.name (defArgs st) (defBody st) (defScope st) [] kws f fd) (h : argB d (defArgs st) = true) (nd : d.N.Nodup) :
    (∀ (s : Shared) (us : List Value), us.length = (d.N.take d.np).length → BindsTo s fd ⟨us, []⟩ ((d.N.take d.np).zip us)) ∧ Binds K fd (d.N.take d.np) [] := by
  have key : ∀ (kV doc pm : Value) (an : Option Addr) (cdv ct : Value) (us : List Value), us.length = (d.N.take d.np).length → bindArgs (PySem.W.fnOf d.name d.name (defArgs st) (defBody st) (defScope st) .none kV doc pm an cdv ct) ⟨us, []⟩ = pure ((d.N.take d.np).zip us) := by
    intro kV doc pm an cdv ct us hl
    unfold argB at h
    split at h
    · rename_i as e
      have h := of_decide_eq_true h
      rw [e]
      rw [← h] at hl ⊢
      exact bind_plain (by rw [hl, List.length_map]) (by rw [h]; exact (List.take_sublist _ _).nodup nd)
    · cases h
  exact ⟨fun s us hl => FunD.bindsA F key s us hl, FunD.bindsN F key⟩
section
variable {t : Tb} {K : PySem.W.Frag} {mg : Str → Option Value} {h : Heap}
theorem Tb.def_at (g : t.good = true) (KX : K.In h) (G : h.Ns mainGlobals mg) (c : He.SaysD t.fa t.fn K) {f : Nat} {d : Def} {st : Stmt} (m : (f, d, st) ∈ t.rows) :
    ∃ fd, FunD K d.name d.name (defArgs st) (defBody st) (defScope st) [] [] (He.ga K d.name) fd ∧ FnScope d.N (d.N.take d.np) (defScope st) ∧ ((∀ (s : Shared) (us : List Value), us.length = (d.N.take d.np).length → BindsTo s fd ⟨us, []⟩ ((d.N.take d.np).zip us)) ∧ Binds K fd (d.N.take d.np) []) ∧ mg d.name = some (.ref (He.ga K d.name)) ∧ mDef t.tab d st = true := by
  obtain ⟨g1, _⟩ := ba g
  obtain ⟨g2, g5⟩ := ba (List.all_eq_true.mp g1 _ m)
  obtain ⟨g3, g4⟩ := ba g2
  have hl : d.np ≤ d.N.length := of_decide_eq_true (ba g3).2
  have S := fnScope_of g4 hl
  obtain ⟨fd, F⟩ := c.defs (d := dOf d st) (List.mem_map.mpr ⟨_, m, rfl⟩)
  have F : FunD K d.name d.name (defArgs st) (defBody st) (defScope st) [] [] (He.ga K d.name) fd := F
  refine ⟨fd, F, S, binds_of F g5 S.nd, He.glo_ok KX G (c.facts ?_), g3⟩
  unfold Tb.fa
  simp only [List.mem_append, List.mem_map]
  exact .inl (.inl (.inl (.inl ⟨_, m, rfl⟩)))
theorem Tb.defs (g : t.good = true) (KX : K.In h) (G : h.Ns mainGlobals mg) (c : He.SaysD t.fa t.fn K) : ∀ f d, t.tab.fn f = some d → f ∈ t.tab.pres → DefAt K mg t.tab d := fun f d e _ => by
  have e : (t.rows.lookup f).map (·.1) = some d := e
  cases q : t.rows.lookup f with
  | none => rw [q] at e; cases e
  | some r =>
    rw [q] at e
    cases e
    obtain ⟨d, st⟩ := r
    obtain ⟨fd, F, S, b, gm, md⟩ := t.def_at g KX G c (lookup_in q)
    exact ⟨⟨_, fd, d.name, st, He5.fun_of F, S, b.2, gm, md⟩⟩
theorem Tb.frees (KX : K.In h) (G : h.Ns mainGlobals mg) (c : He.SaysD t.fa t.fn K) : ∀ x ∈ names0, mg (Str.ofString x) = none := fun x hx => He.free_ok KX G (c.facts (by
  unfold Tb.fa
  simp only [List.mem_append, List.mem_map]
  exact .inl (.inl (.inl (.inr ⟨x, hx, rfl⟩)))))
def Tb.cls (t : Tb) (K : PySem.W.Frag) : Nat → Option Value := fun n => (t.ex.lookup n).map fun x => .ref (He.ga K x)
theorem Tb.exs (g : t.good = true) (KX : K.In h) (G : h.Ns mainGlobals mg) (c : He.SaysD t.fa t.fn K) : ExT (t.cls K) t.tab.ex K mg := by
  have nd := of_decide_eq_true (ba g).2
  refine ⟨fun n x m => ?_, fun i v n x e m => ?_⟩
  · have c1 : (He.Fa.exc x).ok K = true := c.facts (by
      unfold Tb.fa
      simp only [List.mem_append, List.mem_map]
      exact .inl (.inr ⟨(n, x), m, rfl⟩))
    have c2 : (He.Fa.glo x).ok K = true := c.facts (by
      unfold Tb.fa
      simp only [List.mem_append, List.mem_map]
      exact .inl (.inl (.inr ⟨(n, x), m, rfl⟩)))
    obtain ⟨c3, c4⟩ := ba c1
    obtain ⟨c5, c6⟩ := ba c4
    obtain ⟨c7, c8⟩ := ba c6
    refine ⟨He.ga K x, "ValueError", "ValueError.__new__", _, He.veBase, PySem.F.excBase_ValueError, c3, He.glo_ok KX G c2, c5, of_decide_eq_true c7, of_decide_eq_true c8, ?_⟩
    unfold Tb.cls
    rw [lookup_nd nd m]
    rfl
  · unfold Tb.cls at e ⊢
    cases q : t.ex.lookup i with
    | none => rw [q] at e; cases e
    | some y =>
      rw [q] at e
      cases e
      rw [lookup_nd nd m]
      have c1 : (He.Fa.exm y x (n == i)).ok K = true := c.facts (by
        unfold Tb.fa
        simp only [List.mem_append, List.mem_map, List.mem_flatMap]
        exact .inr ⟨(i, y), lookup_in q, (n, x), m, rfl⟩)
      exact of_decide_eq_true c1
end
end Jr

set_option Elab.async false
set_option linter.all false
set_option maxRecDepth 100000
set_option maxHeartbeats 4000000
namespace Jr
open PySem PySem.Spec PyProof.Rows L2
theorem rds_ints {P : Addr → Prop} {H : Hp} : ∀ ns : List Int, RDs P H (ns.map D.int) (ns.map V.int)
  | [] => .nil
  | _ :: ns => .cons (.int _) (rds_ints ns)
/-- the law's promise from its pure meaning -/
theorem sp_law {K : PySem.W.Frag} {C : Nat → Option Value} {g : List Vl → M Vl} {H : Hp} {a : Addr} {ns : List Int} {h' : Hh} (hl : ns.length ≤ sizeLine) (hO : Only H) (hS : SqL K H a (ns.map V.int)) (e : g [.r 0] [.ro (ns.map D.int)] = some (.ok (.d (.bool true)), h')) :
    spM C K g [.ref a] H (fun v _ => v = .bl true) fun _ _ _ => False := by
  have np : ∀ {p : Addr}, ¬ Pr (fun _ => False) [a] [Cell.ro (ns.map D.int)] p := by
    rintro p (z | ⟨i, c, _, e2, e3⟩)
    · exact z
    · cases i with
      | zero => cases e2; cases e3
      | succ i => cases e2
  refine ⟨fun _ => False, [a], [.ro (ns.map D.int)], [.r 0], ⟨rfl, ?_, fun _ _ _ _ _ _ z => z, fun _ z => z.elim, ?_⟩, .cons ⟨a, rfl, rfl⟩ .nil, ?_⟩
  · intro i j b ci cj e1 e2 e3 e4 l1 l2
    cases i with
    | zero => cases e3; cases l1
    | succ i => cases e3
  · intro i b c e1 e2
    cases i with
    | zero =>
      cases e1
      cases e2
      refine ⟨ns.map V.int, ?_, by rw [List.length_map]; exact hl, rds_ints ns⟩
      rcases hS with r | k
      · refine .inl ⟨np, ?_⟩
        rcases hO a with z | ⟨o, xs, z⟩
        · rcases r with r | ⟨o, r⟩ <;> (rw [z] at r; cases r)
        · rcases r with r | ⟨o', r⟩
          · rw [z] at r; cases r
          · exact ⟨o', r⟩
      · exact .inr k
    | succ i => cases e2
  · rw [e]
    intro ρ' H' v hr s r
    cases r
    rfl
/-- a law's end, with what its call may let out told by the world -/
theorem walk_w {l : PySem.W.OpenLaw} {n k : Nat} {q : Program} {loose : List Str} {XP : (Str → Option Value) → Heap → Prop} {YP : World → Heap → Prop} {d : DefRec} {CX : World → CXT} {x : Str}
    (hn : l.most = some n) (hn2 : n ≤ sizeLine) (hdf : d.params.defaults = []) (hr : Room k callerA)
    (F : ∀ (w : World) (mg : Str → Option Value) (fa : Addr) (h : Heap), YP w h → h.Ns mainGlobals mg → mg d.name = some (.ref fa) →
      ∃ (K : PySem.W.Frag) (fd : FuncData) (sp : Sp), K.In h ∧ (∀ (s : Shared) (u : Value), BindsTo s fd ⟨[u], []⟩ [(x, u)]) ∧
        (∀ (H : Hp) (a : Addr) (ns : List Int), ns.length ≤ n → Only H → SqL K H a (ns.map V.int) → sp [.ref a] H (fun v _ => v = .bl true) fun _ _ _ => False) ∧
        ∀ base : Heap, K.In base → base.Ns mainGlobals mg → FnOk l.prog w K mg base (CX w) k fa fd [x] sp)
    (hCX : ∀ (w : World) (H : Hp) (s : Shared) (e : Value) (s' : Shared), CX w [] H s (fun _ _ _ => False) e s' → False) :
    PySem.W.WalkO q loose XP YP l.row.toRowW d [] (fun f vs => PySem.call f vs) := by
  refine Att.attach_call hn hdf fun wo st0 st1 gl bl at0 ob1 x1 x2 x3 la items nums gd sy _ _ _ eqf lst rel few bare => ?_
  have got := F wo gl at0 st1.heap sy gd.T.g eqf
  obtain ⟨K, fd, sp, KX, bnd, spk, keep⟩ := got
  refine law_call KX gd.T.g gd.T.b gd.T.builtins gd.T.nolimit bare lst rel (Nat.le_trans few hn2) hr keep bnd (fun H only seq => ?_) fun H e s' => ?_
  · exact spk H la nums few only seq
  · exact hCX wo H st1 e s'
theorem law_end {l : PySem.W.OpenLaw} {q : Program} {loose : List Str} {XP : (Str → Option Value) → Heap → Prop} {d0 : DefRec} {t : Tb} {lawId n k : Nat} {dl : Def} {stl : Stmt} {x : Str}
    (hn : l.most = some 63) (hdf : d0.params.defaults = []) (hr : Room (k + 1) callerA) (g : t.good = true) (ml : t.rows.lookup lawId = some (dl, stl)) (nm : d0.name = dl.name) (hp : dl.N.take dl.np = [x])
    (main : ∀ ns : List Int, ns.length ≤ 63 → ∃ h', callF t.tab.fn n (k + 1) lawId [.r 0] [.ro (ns.map D.int)] = some (.ok (.d (.bool true)), h')) :
    PySem.W.WalkO q loose XP (He.hookD 4 t.fa t.fn).says l.row.toRowW d0 [] (fun f vs => PySem.call f vs) := by
  refine walk_w (l := l) (n := 63) (k := k + 1) (x := x) (CX := fun w => L2.CX l.prog w) hn (by decide) hdf hr ?_ ?_
  · intro w mg fa h Y G hmg0
    obtain ⟨K, KX, c⟩ := Y
    obtain ⟨fd, F, S, b, gm, md⟩ := t.def_at g KX G c (lookup_in ml)
    rw [nm] at hmg0
    have e := hmg0.symm.trans gm
    cases e
    refine ⟨K, fd, spM (t.cls K) K (callF t.tab.fn n (k + 1) lawId), KX, fun s u => ?_, fun H a ns hl hO hS => ?_, fun base _ _ => ?_⟩
    · have := b.1 s [u] (by rw [hp]; rfl)
      rw [hp] at this
      exact this
    · obtain ⟨h', e⟩ := main ns hl
      exact sp_law (Nat.le_trans hl (by decide)) hO hS e
    · have ef : t.tab.fn lawId = some dl := by
        show (t.rows.lookup lawId).map (·.1) = _
        rw [ml]
        rfl
      have st := level_step (P := l.prog) (w := w) (base := base) (k := k) n (t.frees KX G c) (t.exs g KX G c) ef (He5.fun_of F) S md fun f' d' e' p' => level n (t.defs g KX G c) (t.frees KX G c) (t.exs g KX G c) k f' d' e' p'
      rw [hp] at st
      exact st
  · rintro w H s e s' ⟨a, B, H', cls, d, _, _, _, _, _, _, _, z⟩
    exact z
end Jr

set_option linter.all false
set_option maxRecDepth 100000
namespace Jr
open PySem
abbrev q (x : String) : Str := Str.ofString x
/-- 37 -/
def d__law_all : Def := ⟨q "_law_all", 1, [q "_law_entries_here", q "_law_rows", q "_law_entry", q "_law_longer", q "_law_row"], .cons (.asg (.nm 1) (.new (.lst (.cons (.tup (.nil)) (.nil))))) (.cons (.for_ (.nm 2) (.ex (.var 0)) (.cons (.ite (.cmp .is (.var 2) (.non)) (.cons (.asg (.nm 3) (.new (.lst (.nil)))) (.cons (.for_ (.nm 4) (.ex (.var 1)) (.cons (.asg (.nm 3) (.new (.cat (.var 3) (.new (.lst (.cons (.op .add (.var 4) (.tup (.cons (.int 0) (.nil)))) (.cons (.op .add (.var 4) (.tup (.cons (.int 1) (.nil)))) (.nil)))))))) (.nil))) (.cons (.asg (.nm 1) (.var 3)) (.nil)))) (.cons (.asg (.nm 1) (.new (.cmp (.op .add (.var 4) (.tup (.cons (.var 2) (.nil)))) (.nm 4) [4] (.ex (.var 1)) (.bl true)))) (.nil))) (.nil))) (.cons (.ret (.var 1)) (.nil)))⟩
/-- 88 -/
def d__law_answers : Def := ⟨q "_law_answers", 1, [q "_law_many", q "_law_rows", q "_law_step", q "_law_longer", q "_law_row"], .cons (.asg (.nm 1) (.new (.lst (.cons (.tup (.nil)) (.nil))))) (.cons (.for_ (.nm 2) (.r1 (.var 0)) (.cons (.asg (.nm 3) (.new (.lst (.nil)))) (.cons (.for_ (.nm 4) (.ex (.var 1)) (.cons (.asg (.nm 3) (.new (.cat (.var 3) (.new (.lst (.cons (.op .add (.var 4) (.tup (.cons (.int 0) (.nil)))) (.cons (.op .add (.var 4) (.tup (.cons (.int 1) (.nil)))) (.nil)))))))) (.nil))) (.cons (.asg (.nm 1) (.var 3)) (.nil))))) (.cons (.ret (.var 1)) (.nil)))⟩
/-- 56 -/
def d__law_below : Def := ⟨q "_law_below", 2, [q "_law_one", q "_law_other"], .cons (.ret (.cmp .lt (.op .mul (.ix (.var 0) (.int 0)) (.ix (.var 1) (.int 1))) (.op .mul (.ix (.var 1) (.int 0)) (.ix (.var 0) (.int 1))))) (.nil)⟩
/-- 2 -/
def d__law_bent : Def := ⟨q "_law_bent", 3, [q "_law_script", q "_law_state", q "_law_thing", q "_law_at", q "_law_some"], .cons (.ite (.or (.cons (.nt (.isi (.var 2) .tuple)) (.cons (.nt (.var 2)) (.cons (.cmp .eq (.call 8 (.cons (.var 0) (.cons (.var 1) (.cons (.int 4) (.nil))))) (.int 0)) (.nil))))) (.cons (.asg (.nm 4) (.new (.lst (.cons (.non) (.cons (.bl true) (.cons (.bl false) (.cons (.int 0) (.cons (.int 1) (.cons (.neg (.int 1)) (.cons (.int 3) (.cons (.int 10) (.cons (.str (q "a")) (.cons (.str (q "b")) (.cons (.str (q "")) (.cons (.str (q "A")) (.cons (.str (q "abcd")) (.cons (.tup (.nil)) (.cons (.new (.lst (.nil))) (.nil))))))))))))))))))) (.cons (.asg (.nm 4) (.new (.cat (.var 4) (.new (.lst (.cons (.tup (.cons (.str (q "a")) (.nil))) (.cons (.tup (.cons (.str (q "b")) (.cons (.str (q "a")) (.nil)))) (.cons (.tup (.cons (.int 1) (.cons (.int 0) (.nil)))) (.cons (.tup (.cons (.str (q "gain")) (.cons (.int 2) (.nil)))) (.nil)))))))))) (.cons (.ite (.isi (.var 2) .tuple) (.cons (.asg (.nm 4) (.new (.cat (.var 4) (.new (.lst (.cons (.new (.toL (.var 2))) (.cons (.slT (.var 2) (.neg (.int 1))) (.cons (.op .add (.var 2) (.slF (.var 2) (.neg (.int 1)))) (.cons (.slF (.var 2) (.int 1)) (.cons (.rev (.var 2)) (.cons (.op .add (.var 2) (.tup (.cons (.non) (.nil)))) (.nil)))))))))))) (.nil)) (.nil)) (.cons (.ite (.isi (.var 2) .int) (.cons (.asg (.nm 4) (.new (.cat (.var 4) (.new (.rep (.new (.lst (.cons (.op .add (.var 2) (.int 1)) (.cons (.op .sub (.var 2) (.int 1)) (.cons (.nt (.var 2)) (.cons (.tup (.cons (.var 2) (.nil))) (.cons (.blt .str (.cons (.var 2) (.nil))) (.nil)))))))) (.int 2)))))) (.nil)) (.nil)) (.cons (.ret (.call 7 (.cons (.var 0) (.cons (.var 1) (.cons (.var 4) (.nil)))))) (.nil)))))) (.nil)) (.cons (.asg (.nm 3) (.call 8 (.cons (.var 0) (.cons (.var 1) (.cons (.blt .len (.cons (.var 2) (.nil))) (.nil)))))) (.cons (.ret (.op .add (.op .add (.slT (.var 2) (.var 3)) (.tup (.cons (.call 2 (.cons (.var 0) (.cons (.var 1) (.cons (.ix (.var 2) (.var 3)) (.nil))))) (.nil)))) (.slF (.var 2) (.op .add (.var 3) (.int 1))))) (.nil)))⟩
/-- 17 -/
def d__law_collection : Def := ⟨q "_law_collection", 3, [q "_law_script", q "_law_state", q "_law_most", q "_law_names"], .cons (.asg (.nm 3) (.call 15 (.cons (.var 0) (.cons (.var 1) (.cons (.new (.lst (.cons (.str (q "a")) (.cons (.str (q "b")) (.cons (.str (q "c")) (.cons (.str (q "d")) (.cons (.str (q "e")) (.cons (.str (q "f")) (.cons (.str (q "gg")) (.cons (.str (q "hh")) (.nil))))))))))) (.nil)))))) (.cons (.ret (.toT (.new (.srt (.new (.slT (.var 3) (.op .add (.int 1) (.call 8 (.cons (.var 0) (.cons (.var 1) (.cons (.var 2) (.nil)))))))))))) (.nil))⟩
/-- 180 -/
def d__law_compare_or : Def := ⟨q "_law_compare_or", 5, [q "_law_collection_here", q "_law_entries_here", q "_law_one", q "_law_other", q "_law_measure_here"], .cons (.try_ (.cons (.ret (.call 74 (.cons (.var 0) (.cons (.var 1) (.cons (.var 2) (.cons (.var 3) (.cons (.var 4) (.nil)))))))) (.nil)) [(12, q "InvalidCollection"), (20, q "InvalidJudgements"), (40, q "InvalidRanking"), (41, q "InvalidMeasure")]) (.nil)⟩
/-- 30 -/
def d__law_completions_or : Def := ⟨q "_law_completions_or", 2, [q "_law_collection_here", q "_law_entries_here"], .cons (.try_ (.cons (.ret (.call 33 (.cons (.var 0) (.cons (.var 1) (.nil))))) (.nil)) [(12, q "InvalidCollection"), (20, q "InvalidJudgements")]) (.nil)⟩
/-- 8 -/
def d__law_draw : Def := ⟨q "_law_draw", 3, [q "_law_script", q "_law_state", q "_law_many", q "_law_k", q "_law_cell", q "_law_digits", q "_law_number", q "_law_more"], .cons (.ite (.nt (.var 1)) (.cons (.ex (.app (.var 1) (.blt .max1 (.cons (.new (.cat (.new (.cmp (.blt .abs (.cons (.var 4) (.nil))) (.nm 4) [4] (.ex (.var 0)) (.bl true))) (.new (.lst (.cons (.int 0) (.nil)))))) (.nil))))) (.nil)) (.nil)) (.cons (.ex (.app (.var 1) (.int 0))) (.cons (.asg (.nm 3) (.blt .len (.cons (.var 1) (.nil)))) (.cons (.asg (.nm 4) (.ite (.var 0) (.ix (.var 0) (.op .mod (.var 3) (.blt .len (.cons (.var 0) (.nil))))) (.int 0))) (.cons (.asg (.nm 5) (.op .mod (.ix (.var 1) (.int 0)) (.int 65536))) (.cons (.set (.var 1) (.int 0) (.op .fdiv (.ix (.var 1) (.int 0)) (.int 65536))) (.cons (.asg (.nm 6) (.op .mod (.op .add (.op .add (.var 4) (.op .mul (.int 40503) (.var 5))) (.op .mul (.int 104729) (.var 3))) (.int 4294967291))) (.cons (.asg (.nm 6) (.op .mod (.op .mul (.op .mod (.op .mul (.var 6) (.var 6)) (.int 4294967279)) (.int 48271)) (.int 4294967291))) (.cons (.asg (.nm 7) (.op .mod (.op .mul (.op .mod (.op .mul (.var 6) (.var 6)) (.int 4294967279)) (.int 69621)) (.int 4294967291))) (.cons (.ret (.op .mod (.op .add (.op .mul (.op .fdiv (.var 6) (.int 64)) (.int 67108864)) (.op .fdiv (.var 7) (.int 64))) (.var 2))) (.nil))))))))))⟩
/-- 36 -/
def d__law_entries : Def := ⟨q "_law_entries", 3, [q "_law_script", q "_law_state", q "_law_collection_here", q "_law_some", q "_law_one"], .cons (.asg (.nm 3) (.call 7 (.cons (.var 0) (.cons (.var 1) (.cons (.new (.lst (.cons (.new (.lst (.cons (.non) (.cons (.non) (.cons (.int 0) (.cons (.int 1) (.nil))))))) (.cons (.new (.lst (.cons (.non) (.cons (.int 0) (.cons (.int 1) (.nil)))))) (.cons (.new (.lst (.cons (.non) (.nil)))) (.nil)))))) (.nil)))))) (.cons (.ret (.toT (.new (.cmp (.call 7 (.cons (.var 0) (.cons (.var 1) (.cons (.var 3) (.nil))))) (.nm 4) [4] (.ex (.var 2)) (.bl true))))) (.nil))⟩
/-- 183 -/
def d__law_fewest_questions_or : Def := ⟨q "_law_fewest_questions_or", 5, [q "_law_collection_here", q "_law_entries_here", q "_law_one", q "_law_other", q "_law_measure_here"], .cons (.try_ (.cons (.ret (.call 100 (.cons (.var 0) (.cons (.var 1) (.cons (.var 2) (.cons (.var 3) (.cons (.var 4) (.nil)))))))) (.nil)) [(12, q "InvalidCollection"), (20, q "InvalidJudgements"), (40, q "InvalidRanking"), (41, q "InvalidMeasure")]) (.nil)⟩
/-- 90 -/
def d__law_fixed : Def := ⟨q "_law_fixed", 4, [q "_law_collection_here", q "_law_entries_here", q "_law_some", q "_law_answers_here", q "_law_change", q "_law_one", q "_law_entry"], .cons (.asg (.nm 4) (.dlz (.var 2) (.var 3))) (.cons (.ret (.toT (.new (.cmp (.dgt2 (.var 4) (.var 5) (.var 6)) (.tp [5, 6]) [5, 6] (.z2 (.var 0) (.var 1)) (.bl true))))) (.nil))⟩
/-- 185 -/
def d__law_format_ranking_or : Def := ⟨q "_law_format_ranking_or", 2, [q "_law_collection_here", q "_law_ranking_here"], .cons (.try_ (.cons (.ret (.call 166 (.cons (.var 0) (.cons (.var 1) (.nil))))) (.nil)) [(12, q "InvalidCollection"), (40, q "InvalidRanking")]) (.nil)⟩
/-- 49 -/
def d__law_fraction : Def := ⟨q "_law_fraction", 2, [q "_law_top", q "_law_bottom", q "_law_one", q "_law_other"], .cons (.ite (.cmp .eq (.var 1) (.int 0)) (.cons (.ret (.tup (.cons (.int 0) (.cons (.int 1) (.nil))))) (.nil)) (.nil)) (.cons (.par [2, 3] (.cons (.var 0) (.cons (.var 1) (.nil)))) (.cons (.whl (.var 3) (.cons (.par [2, 3] (.cons (.var 3) (.cons (.op .mod (.var 2) (.var 3)) (.nil)))) (.nil))) (.cons (.ret (.tup (.cons (.op .fdiv (.var 0) (.var 2)) (.cons (.op .fdiv (.var 1) (.var 2)) (.nil))))) (.nil))))⟩
/-- 51 -/
def d__law_full : Def := ⟨q "_law_full", 3, [q "_law_script", q "_law_state", q "_law_collection_here", q "_law_one"], .cons (.ret (.toT (.new (.cmp (.call 8 (.cons (.var 0) (.cons (.var 1) (.cons (.int 2) (.nil))))) (.nm 3) [3] (.ex (.var 2)) (.bl true))))) (.nil)⟩
/-- 178 -/
def d__law_greatest_or : Def := ⟨q "_law_greatest_or", 4, [q "_law_collection_here", q "_law_entries_here", q "_law_ranking_here", q "_law_measure_here"], .cons (.try_ (.cons (.ret (.call 63 (.cons (.var 0) (.cons (.var 1) (.cons (.var 2) (.cons (.var 3) (.nil))))))) (.nil)) [(12, q "InvalidCollection"), (20, q "InvalidJudgements"), (40, q "InvalidRanking"), (41, q "InvalidMeasure")]) (.nil)⟩
/-- 89 -/
def d__law_is_settled : Def := ⟨q "_law_is_settled", 2, [q "_law_signs_here", q "_law_entries_here", q "_law_row"], .cons (.ret (.cmp .eq (.lnS (.new (.cmp (.dget (.var 0) (.var 2)) (.nm 2) [2] (.ex (.call 37 (.cons (.var 1) (.nil)))) (.bl true)))) (.int 1))) (.nil)⟩
/-- 156 -/
def d__law_joined_or : Def := ⟨q "_law_joined_or", 3, [q "_law_collection_here", q "_law_one", q "_law_other"], .cons (.try_ (.cons (.ret (.call 159 (.cons (.var 0) (.cons (.var 1) (.cons (.var 2) (.nil)))))) (.nil)) [(12, q "InvalidCollection"), (20, q "InvalidJudgements"), (153, q "Conflict")]) (.nil)⟩
/-- 179 -/
def d__law_least_or : Def := ⟨q "_law_least_or", 4, [q "_law_collection_here", q "_law_entries_here", q "_law_ranking_here", q "_law_measure_here"], .cons (.try_ (.cons (.ret (.call 62 (.cons (.var 0) (.cons (.var 1) (.cons (.var 2) (.cons (.var 3) (.nil))))))) (.nil)) [(12, q "InvalidCollection"), (20, q "InvalidJudgements"), (40, q "InvalidRanking"), (41, q "InvalidMeasure")]) (.nil)⟩
/-- 145 -/
def d__law_left_to_judge_or : Def := ⟨q "_law_left_to_judge_or", 4, [q "_law_collection_here", q "_law_entries_here", q "_law_rows", q "_law_depth"], .cons (.try_ (.cons (.ret (.call 149 (.cons (.var 0) (.cons (.var 1) (.cons (.var 2) (.cons (.var 3) (.nil))))))) (.nil)) [(12, q "InvalidCollection"), (20, q "InvalidJudgements"), (79, q "InvalidRankings"), (138, q "InvalidDepth")]) (.nil)⟩
/-- 158 -/
def d__law_majority_or : Def := ⟨q "_law_majority_or", 2, [q "_law_collection_here", q "_law_people"], .cons (.try_ (.cons (.ret (.call 161 (.cons (.var 0) (.cons (.var 1) (.nil))))) (.nil)) [(12, q "InvalidCollection"), (154, q "InvalidJudges")]) (.nil)⟩
/-- 1 -/
def d__law_measure : Def := ⟨q "_law_measure", 2, [q "_law_script", q "_law_state", q "_law_kind"], .cons (.asg (.nm 2) (.call 7 (.cons (.var 0) (.cons (.var 1) (.cons (.new (.lst (.cons (.str (q "average")) (.cons (.str (q "average")) (.cons (.str (q "reciprocal")) (.cons (.str (q "precision")) (.cons (.str (q "recall")) (.cons (.str (q "gain")) (.cons (.str (q "share")) (.nil)))))))))) (.nil)))))) (.cons (.ret (.ite (.cmp .in_ (.var 2) (.tup (.cons (.str (q "average")) (.cons (.str (q "reciprocal")) (.nil))))) (.tup (.cons (.var 2) (.nil))) (.tup (.cons (.var 2) (.cons (.op .add (.int 1) (.call 8 (.cons (.var 0) (.cons (.var 1) (.cons (.int 5) (.nil)))))) (.nil)))))) (.nil))⟩
/-- 122 -/
def d__law_odds : Def := ⟨q "_law_odds", 3, [q "_law_script", q "_law_state", q "_law_collection_here", q "_law_found", q "_law_one", q "_law_bottom", q "_law_top", q "_law_left", q "_law_other"], .cons (.asg (.nm 3) (.box (.lst (.nil)))) (.cons (.for_ (.nm 4) (.ex (.var 2)) (.cons (.asg (.nm 5) (.call 7 (.cons (.var 0) (.cons (.var 1) (.cons (.new (.lst (.cons (.int 1) (.cons (.int 2) (.cons (.int 3) (.cons (.int 4) (.cons (.int 10) (.cons (.int 20) (.nil))))))))) (.nil)))))) (.cons (.par [6, 7] (.cons (.call 8 (.cons (.var 0) (.cons (.var 1) (.cons (.op .add (.var 5) (.int 1)) (.nil))))) (.cons (.var 5) (.nil)))) (.cons (.par [4, 8] (.cons (.var 6) (.cons (.var 5) (.nil)))) (.cons (.whl (.var 8) (.cons (.par [4, 8] (.cons (.var 8) (.cons (.op .mod (.var 4) (.var 8)) (.nil)))) (.nil))) (.cons (.ex (.app (.var 3) (.tup (.cons (.op .fdiv (.var 6) (.var 4)) (.cons (.op .fdiv (.var 7) (.var 4)) (.nil)))))) (.nil))))))) (.cons (.frz 3) (.cons (.ret (.toT (.var 3))) (.nil))))⟩
/-- 175 -/
def d__law_orders : Def := ⟨q "_law_orders", 1, [q "_law_collection_here", q "_law_rows", q "_law_step", q "_law_longer", q "_law_row", q "_law_one"], .cons (.asg (.nm 1) (.new (.lst (.cons (.tup (.nil)) (.nil))))) (.cons (.for_ (.nm 2) (.ex (.var 0)) (.cons (.asg (.nm 3) (.new (.lst (.nil)))) (.cons (.for_ (.nm 4) (.ex (.var 1)) (.cons (.asg (.nm 3) (.new (.cat (.var 3) (.new (.cmp (.op .add (.var 4) (.tup (.cons (.var 5) (.nil)))) (.nm 5) [5] (.ex (.var 0)) (.cmp .notIn (.var 5) (.var 4))))))) (.nil))) (.cons (.asg (.nm 1) (.var 3)) (.nil))))) (.cons (.ret (.var 1)) (.nil)))⟩
/-- 7 -/
def d__law_pick : Def := ⟨q "_law_pick", 3, [q "_law_script", q "_law_state", q "_law_some"], .cons (.ret (.ix (.var 2) (.call 8 (.cons (.var 0) (.cons (.var 1) (.cons (.blt .len (.cons (.var 2) (.nil))) (.nil))))))) (.nil)⟩
/-- 133 -/
def d__law_plus : Def := ⟨q "_law_plus", 2, [q "_law_one", q "_law_other"], .cons (.ret (.call 49 (.cons (.op .add (.op .mul (.ix (.var 0) (.int 0)) (.ix (.var 1) (.int 1))) (.op .mul (.ix (.var 1) (.int 0)) (.ix (.var 0) (.int 1)))) (.cons (.op .mul (.ix (.var 0) (.int 1)) (.ix (.var 1) (.int 1))) (.nil))))) (.nil)⟩
/-- 143 -/
def d__law_pool_or : Def := ⟨q "_law_pool_or", 3, [q "_law_collection_here", q "_law_rows", q "_law_depth"], .cons (.try_ (.cons (.ret (.call 147 (.cons (.var 0) (.cons (.var 1) (.cons (.var 2) (.nil)))))) (.nil)) [(12, q "InvalidCollection"), (79, q "InvalidRankings"), (138, q "InvalidDepth")]) (.nil)⟩
/-- 18 -/
def d__law_ranking : Def := ⟨q "_law_ranking", 3, [q "_law_script", q "_law_state", q "_law_collection_here", q "_law_rows", q "_law_many"], .cons (.asg (.nm 3) (.call 15 (.cons (.var 0) (.cons (.var 1) (.cons (.var 2) (.nil)))))) (.cons (.asg (.nm 4) (.call 7 (.cons (.var 0) (.cons (.var 1) (.cons (.new (.lst (.cons (.blt .len (.cons (.var 3) (.nil))) (.cons (.blt .len (.cons (.var 3) (.nil))) (.cons (.call 8 (.cons (.var 0) (.cons (.var 1) (.cons (.op .add (.blt .len (.cons (.var 3) (.nil))) (.int 1)) (.nil))))) (.nil)))))) (.nil)))))) (.cons (.ret (.toT (.new (.slT (.var 3) (.var 4))))) (.nil)))⟩
/-- 184 -/
def d__law_regret_or : Def := ⟨q "_law_regret_or", 4, [q "_law_collection_here", q "_law_entries_here", q "_law_ranking_here", q "_law_measure_here"], .cons (.try_ (.cons (.ret (.call 116 (.cons (.var 0) (.cons (.var 1) (.cons (.var 2) (.cons (.var 3) (.nil))))))) (.nil)) [(12, q "InvalidCollection"), (20, q "InvalidJudgements"), (40, q "InvalidRanking"), (41, q "InvalidMeasure")]) (.nil)⟩
/-- 92 -/
def d__law_rest : Def := ⟨q "_law_rest", 2, [q "_law_collection_here", q "_law_entries_here", q "_law_one", q "_law_entry"], .cons (.ret (.toT (.new (.cmp (.var 2) (.tp [2, 3]) [2, 3] (.z2 (.var 0) (.var 1)) (.cmp .is (.var 3) (.non)))))) (.nil)⟩
/-- 28 -/
def d__law_same : Def := ⟨q "_law_same", 2, [q "_law_got", q "_law_due", q "_law_one", q "_law_other"], .cons (.ite (.cmp .is (.var 1) (.non)) (.cons (.ret (.cmp .is (.var 0) (.non))) (.nil)) (.nil)) (.cons (.ite (.isi (.var 1) .bool) (.cons (.ret (.and (.cons (.isi (.var 0) .bool) (.cons (.cmp .eq (.var 0) (.var 1)) (.nil))))) (.nil)) (.nil)) (.cons (.ite (.isi (.var 1) .tuple) (.cons (.ite (.or (.cons (.nt (.isi (.var 0) .tuple)) (.cons (.cmp .ne (.blt .len (.cons (.var 0) (.nil))) (.blt .len (.cons (.var 1) (.nil)))) (.nil)))) (.cons (.ret (.bl false)) (.nil)) (.nil)) (.cons (.ret (.blt .all (.cons (.new (.cmp (.call 28 (.cons (.var 2) (.cons (.var 3) (.nil)))) (.tp [2, 3]) [2, 3] (.z2 (.var 0) (.var 1)) (.bl true))) (.nil)))) (.nil))) (.nil)) (.cons (.ite (.isi (.var 1) .str) (.cons (.ret (.and (.cons (.isi (.var 0) .str) (.cons (.cmp .eq (.var 0) (.var 1)) (.nil))))) (.nil)) (.nil)) (.cons (.ret (.and (.cons (.isi (.var 0) .int) (.cons (.nt (.isi (.var 0) .bool)) (.cons (.cmp .eq (.var 0) (.var 1)) (.nil)))))) (.nil)))))⟩
/-- 186 -/
def d__law_session_or : Def := ⟨q "_law_session_or", 3, [q "_law_collection_here", q "_law_rows", q "_law_measure_here"], .cons (.try_ (.cons (.bad) (.nil)) [(12, q "InvalidCollection"), (79, q "InvalidRankings"), (41, q "InvalidMeasure")]) (.nil)⟩
/-- 93 -/
def d__law_sets : Def := ⟨q "_law_sets", 1, [q "_law_documents", q "_law_found", q "_law_one", q "_law_size", q "_law_row"], .cons (.asg (.nm 1) (.new (.lst (.cons (.tup (.nil)) (.nil))))) (.cons (.for_ (.nm 2) (.ex (.var 0)) (.cons (.asg (.nm 1) (.new (.cat (.var 1) (.new (.cmp (.op .add (.var 4) (.tup (.cons (.var 2) (.nil)))) (.nm 4) [4] (.ex (.var 1)) (.bl true)))))) (.nil))) (.cons (.ret (.new (.cmp (.var 4) (.tp [3, 4]) [3, 4] (.ex (.new (.srt (.new (.cmp (.tup (.cons (.blt .len (.cons (.var 4) (.nil))) (.cons (.var 4) (.nil)))) (.nm 4) [4] (.ex (.var 1)) (.bl true)))))) (.bl true)))) (.nil)))⟩
/-- 94 -/
def d__law_settles : Def := ⟨q "_law_settles", 4, [q "_law_collection_here", q "_law_signs_here", q "_law_entries_here", q "_law_some", q "_law_answers_here"], .cons (.for_ (.nm 4) (.ex (.call 88 (.cons (.blt .len (.cons (.var 3) (.nil))) (.nil)))) (.cons (.ite (.nt (.call 89 (.cons (.var 1) (.cons (.call 90 (.cons (.var 0) (.cons (.var 2) (.cons (.var 3) (.cons (.var 4) (.nil)))))) (.nil))))) (.cons (.ret (.bl false)) (.nil)) (.nil)) (.nil))) (.cons (.ret (.bl true)) (.nil))⟩
/-- 181 -/
def d__law_settling_sets_or : Def := ⟨q "_law_settling_sets_or", 5, [q "_law_collection_here", q "_law_entries_here", q "_law_one", q "_law_other", q "_law_measure_here"], .cons (.try_ (.cons (.ret (.call 97 (.cons (.var 0) (.cons (.var 1) (.cons (.var 2) (.cons (.var 3) (.cons (.var 4) (.nil)))))))) (.nil)) [(12, q "InvalidCollection"), (20, q "InvalidJudgements"), (40, q "InvalidRanking"), (41, q "InvalidMeasure")]) (.nil)⟩
/-- 15 -/
def d__law_shuffled : Def := ⟨q "_law_shuffled", 3, [q "_law_script", q "_law_state", q "_law_things", q "_law_rest", q "_law_found"], .cons (.par [3, 4] (.cons (.box (.toL (.var 2))) (.cons (.box (.lst (.nil))) (.nil)))) (.cons (.whl (.var 3) (.cons (.ex (.app (.var 4) (.pop (.var 3) (.call 8 (.cons (.var 0) (.cons (.var 1) (.cons (.blt .len (.cons (.var 3) (.nil))) (.nil)))))))) (.nil))) (.cons (.frz 4) (.cons (.ret (.var 4)) (.nil))))⟩
/-- 77 -/
def d__law_signs : Def := ⟨q "_law_signs", 5, [q "_law_collection_here", q "_law_entries_here", q "_law_one", q "_law_other", q "_law_measure_here", q "_law_found", q "_law_row", q "_law_left", q "_law_right"], .cons (.asg (.nm 5) (.dnew true)) (.cons (.for_ (.nm 6) (.ex (.call 37 (.cons (.var 1) (.nil)))) (.cons (.par [7, 8] (.cons (.call 52 (.cons (.var 0) (.cons (.var 6) (.cons (.var 2) (.cons (.var 4) (.nil)))))) (.cons (.call 52 (.cons (.var 0) (.cons (.var 6) (.cons (.var 3) (.cons (.var 4) (.nil)))))) (.nil)))) (.cons (.dput (.var 5) (.var 6) (.op .sub (.blt .int (.cons (.call 56 (.cons (.var 8) (.cons (.var 7) (.nil)))) (.nil))) (.blt .int (.cons (.call 56 (.cons (.var 7) (.cons (.var 8) (.nil)))) (.nil))))) (.nil)))) (.cons (.frz 5) (.cons (.ret (.var 5)) (.nil))))⟩
/-- 182 -/
def d__law_sure_order_or : Def := ⟨q "_law_sure_order_or", 4, [q "_law_collection_here", q "_law_entries_here", q "_law_rows", q "_law_measure_here"], .cons (.try_ (.cons (.ret (.call 81 (.cons (.var 0) (.cons (.var 1) (.cons (.var 2) (.cons (.var 3) (.nil))))))) (.nil)) [(12, q "InvalidCollection"), (20, q "InvalidJudgements"), (79, q "InvalidRankings"), (41, q "InvalidMeasure")]) (.nil)⟩
/-- 52 -/
def d__law_value : Def := ⟨q "_law_value", 4, [q "_law_collection_here", q "_law_completion", q "_law_ranking_here", q "_law_measure_here", q "_law_own", q "_law_kind", q "_law_places", q "_law_total", q "_law_good", q "_law_place", q "_law_most", q "_law_spot"], .cons (.par [4, 5] (.cons (.dlz (.var 0) (.var 1)) (.cons (.ix (.var 3) (.int 0)) (.nil)))) (.cons (.asg (.nm 6) (.new (.cmp (.op .add (.var 11) (.int 1)) (.nm 11) [11] (.r1 (.blt .len (.cons (.var 2) (.nil)))) (.dget (.var 4) (.ix (.var 2) (.var 11)))))) (.cons (.ite (.cmp .eq (.var 5) (.str (q "reciprocal"))) (.cons (.ret (.ite (.var 6) (.tup (.cons (.int 1) (.cons (.ix (.var 6) (.int 0)) (.nil)))) (.tup (.cons (.int 0) (.cons (.int 1) (.nil)))))) (.nil)) (.nil)) (.cons (.asg (.nm 7) (.tup (.cons (.int 0) (.cons (.int 1) (.nil))))) (.cons (.ite (.cmp .eq (.var 5) (.str (q "average"))) (.cons (.for_ (.nm 11) (.r1 (.blt .len (.cons (.var 6) (.nil)))) (.cons (.asg (.nm 7) (.call 133 (.cons (.var 7) (.cons (.tup (.cons (.op .add (.var 11) (.int 1)) (.cons (.ix (.var 6) (.var 11)) (.nil)))) (.nil))))) (.nil))) (.cons (.ret (.call 49 (.cons (.ix (.var 7) (.int 0)) (.cons (.op .mul (.ix (.var 7) (.int 1)) (.blt .sum (.cons (.var 1) (.nil)))) (.nil))))) (.nil))) (.nil)) (.cons (.asg (.nm 8) (.new (.cmp (.var 9) (.nm 9) [9] (.ex (.var 6)) (.cmp .le (.var 9) (.ix (.var 3) (.int 1)))))) (.cons (.ite (.cmp .in_ (.var 5) (.tup (.cons (.str (q "precision")) (.cons (.str (q "recall")) (.nil))))) (.cons (.ret (.call 49 (.cons (.blt .len (.cons (.var 8) (.nil))) (.cons (.ite (.cmp .eq (.var 5) (.str (q "precision"))) (.ix (.var 3) (.int 1)) (.blt .sum (.cons (.var 1) (.nil)))) (.nil))))) (.nil)) (.nil)) (.cons (.for_ (.nm 9) (.ex (.var 8)) (.cons (.asg (.nm 7) (.call 133 (.cons (.var 7) (.cons (.tup (.cons (.int 1) (.cons (.var 9) (.nil)))) (.nil))))) (.nil))) (.cons (.asg (.nm 10) (.tup (.cons (.int 0) (.cons (.int 1) (.nil))))) (.cons (.for_ (.nm 9) (.r2 (.int 1) (.op .add (.blt .min2 (.cons (.ix (.var 3) (.int 1)) (.cons (.blt .sum (.cons (.var 1) (.nil))) (.nil)))) (.int 1))) (.cons (.asg (.nm 10) (.call 133 (.cons (.var 10) (.cons (.tup (.cons (.int 1) (.cons (.var 9) (.nil)))) (.nil))))) (.nil))) (.cons (.ret (.ite (.cmp .eq (.var 5) (.str (q "gain"))) (.var 7) (.call 49 (.cons (.op .mul (.ix (.var 7) (.int 0)) (.ix (.var 10) (.int 1))) (.cons (.op .mul (.ix (.var 7) (.int 1)) (.ix (.var 10) (.int 0))) (.nil)))))) (.nil)))))))))))⟩
/-- 29 -/
def d__law_with_judgement_or : Def := ⟨q "_law_with_judgement_or", 4, [q "_law_collection_here", q "_law_entries_here", q "_law_document", q "_law_entry"], .cons (.try_ (.cons (.ret (.call 32 (.cons (.var 0) (.cons (.var 1) (.cons (.var 2) (.cons (.var 3) (.nil))))))) (.nil)) [(12, q "InvalidCollection"), (20, q "InvalidJudgements"), (24, q "InvalidDocument"), (26, q "InvalidEntry")]) (.nil)⟩
/-- 222 -/
def d__wall : Def := ⟨q "_wall", 1, [q "k"], .cons (.whl (.bl true) (.cons (.bad) (.nil))) (.nil)⟩
/-- 43 -/
def d_added : Def := ⟨q "added", 2, [q "one", q "other"], .cons (.ret (.call 42 (.cons (.op .add (.op .mul (.ix (.var 0) (.int 0)) (.ix (.var 1) (.int 1))) (.op .mul (.ix (.var 1) (.int 0)) (.ix (.var 0) (.int 1)))) (.cons (.op .mul (.ix (.var 0) (.int 1)) (.ix (.var 1) (.int 1))) (.nil))))) (.nil)⟩
/-- 160 -/
def d_agreement : Def := ⟨q "agreement", 3, [q "collection", q "one", q "other", q "rows", q "document", q "left", q "right"], .cons (.ex (.call 150 (.cons (.var 0) (.cons (.var 1) (.cons (.var 2) (.nil)))))) (.cons (.asg (.nm 3) (.call 151 (.cons (.var 0) (.cons (.var 1) (.cons (.var 2) (.nil)))))) (.cons (.ite (.nt (.var 3)) (.cons (.ret (.non)) (.nil)) (.nil)) (.cons (.ret (.call 42 (.cons (.blt .len (.cons (.new (.cmp (.int 1) (.tp [4, 5, 6]) [4, 5, 6] (.ex (.var 3)) (.cmp .eq (.var 5) (.var 6)))) (.nil))) (.cons (.blt .len (.cons (.var 3) (.nil))) (.nil))))) (.nil))))⟩
/-- 22 -/
def d_all_completions : Def := ⟨q "all_completions", 1, [q "judgements", q "rows", q "entry", q "some", q "row", q "one"], .cons (.asg (.nm 1) (.new (.lst (.cons (.tup (.nil)) (.nil))))) (.cons (.for_ (.nm 2) (.ex (.var 0)) (.cons (.asg (.nm 3) (.ite (.cmp .is (.var 2) (.non)) (.new (.lst (.cons (.int 0) (.cons (.int 1) (.nil))))) (.new (.lst (.cons (.var 2) (.nil)))))) (.cons (.asg (.nm 1) (.new (.cmp2 (.op .add (.var 4) (.tup (.cons (.var 5) (.nil)))) (.nm 4) (.nm 5) [4, 5] [5] (.ex (.var 1)) (.ex (.var 3)) (.bl true)))) (.nil)))) (.cons (.ret (.var 1)) (.nil)))⟩
/-- 115 -/
def d_all_rankings : Def := ⟨q "all_rankings", 1, [q "collection", q "rows", q "step", q "row", q "document"], .cons (.asg (.nm 1) (.new (.lst (.cons (.tup (.nil)) (.nil))))) (.cons (.for_ (.nm 2) (.ex (.var 0)) (.cons (.asg (.nm 1) (.new (.cmp2 (.op .add (.var 3) (.tup (.cons (.var 4) (.nil)))) (.nm 3) (.nm 4) [3, 4] [4] (.ex (.var 1)) (.ex (.var 0)) (.cmp .notIn (.var 4) (.var 3))))) (.nil))) (.cons (.ret (.var 1)) (.nil)))⟩
/-- 121 -/
def d_are_chances : Def := ⟨q "are_chances", 2, [q "collection", q "candidate"], .cons (.ex (.call 13 (.cons (.var 0) (.nil)))) (.cons (.ret (.call 120 (.cons (.var 0) (.cons (.var 1) (.nil))))) (.nil))⟩
/-- 35 -/
def d_are_judgements : Def := ⟨q "are_judgements", 2, [q "collection", q "candidate"], .cons (.ex (.call 13 (.cons (.var 0) (.nil)))) (.cons (.ret (.call 19 (.cons (.var 0) (.cons (.var 1) (.nil))))) (.nil))⟩
/-- 120 -/
def d_are_valid_chances : Def := ⟨q "are_valid_chances", 2, [q "collection", q "candidate", q "one"], .cons (.ite (.or (.cons (.nt (.isi (.var 1) .tuple)) (.cons (.cmp .ne (.blt .len (.cons (.var 1) (.nil))) (.blt .len (.cons (.var 0) (.nil)))) (.nil)))) (.cons (.ret (.bl false)) (.nil)) (.nil)) (.cons (.ret (.blt .all (.cons (.new (.cmp (.call 119 (.cons (.var 2) (.nil))) (.nm 2) [2] (.ex (.var 1)) (.bl true))) (.nil)))) (.nil))⟩
/-- 19 -/
def d_are_valid_judgements : Def := ⟨q "are_valid_judgements", 2, [q "collection", q "candidate", q "entry"], .cons (.ite (.or (.cons (.nt (.isi (.var 1) .tuple)) (.cons (.cmp .ne (.blt .len (.cons (.var 1) (.nil))) (.blt .len (.cons (.var 0) (.nil)))) (.nil)))) (.cons (.ret (.bl false)) (.nil)) (.nil)) (.cons (.ret (.blt .all (.cons (.new (.cmp (.or (.cons (.cmp .is (.var 2) (.non)) (.cons (.call 6 (.cons (.var 2) (.cons (.int 0) (.cons (.int 1) (.nil))))) (.nil)))) (.nm 2) [2] (.ex (.var 1)) (.bl true))) (.nil)))) (.nil))⟩
/-- 68 -/
def d_assumed : Def := ⟨q "assumed", 2, [q "collection", q "judgements", q "entry"], .cons (.ex (.call 21 (.cons (.var 0) (.cons (.var 1) (.nil))))) (.cons (.ret (.toT (.new (.cmp (.ite (.cmp .is (.var 2) (.non)) (.int 0) (.var 2)) (.nm 2) [2] (.ex (.var 1)) (.bl true))))) (.nil))⟩
/-- 210 -/
def d_average_of : Def := ⟨q "average_of", 2, [q "hits", q "relevant", q "total", q "found", q "spot", q "hit"], .cons (.par [2, 3] (.cons (.tup (.cons (.int 0) (.cons (.int 1) (.nil)))) (.cons (.int 0) (.nil)))) (.cons (.for_ (.tp [4, 5]) (.en (.var 0)) (.cons (.aug 3 (.var 5)) (.cons (.asg (.nm 2) (.call 43 (.cons (.var 2) (.cons (.tup (.cons (.op .mul (.var 5) (.var 3)) (.cons (.op .add (.var 4) (.int 1)) (.nil)))) (.nil))))) (.nil)))) (.cons (.ret (.call 42 (.cons (.ix (.var 2) (.int 0)) (.cons (.op .mul (.ix (.var 2) (.int 1)) (.var 1)) (.nil))))) (.nil)))⟩
/-- 107 -/
def d_best_ranking : Def := ⟨q "best_ranking", 2, [q "collection", q "judgements"], .cons (.ex (.call 21 (.cons (.var 0) (.cons (.var 1) (.nil))))) (.cons (.ex (.call 47 (.cons (.var 1) (.nil)))) (.cons (.ret (.call 54 (.cons (.var 0) (.cons (.var 1) (.nil))))) (.nil)))⟩
/-- 103 -/
def d_best_value : Def := ⟨q "best_value", 3, [q "collection", q "completion", q "measure"], .cons (.ret (.call 48 (.cons (.var 0) (.cons (.var 1) (.cons (.call 54 (.cons (.var 0) (.cons (.var 1) (.nil)))) (.cons (.var 2) (.nil))))))) (.nil)⟩
/-- 151 -/
def d_both_judged : Def := ⟨q "both_judged", 3, [q "collection", q "one", q "other", q "rows", q "document", q "left", q "right", q "row"], .cons (.asg (.nm 3) (.new (.cmp (.tup (.cons (.var 4) (.cons (.var 5) (.cons (.var 6) (.nil))))) (.tp [4, 5, 6]) [4, 5, 6] (.z3 (.var 0) (.var 1) (.var 2)) (.bl true)))) (.cons (.ret (.new (.cmp (.var 7) (.nm 7) [7] (.ex (.var 3)) (.and (.cons (.cmp .isNot (.ix (.var 7) (.int 1)) (.non)) (.cons (.cmp .isNot (.ix (.var 7) (.int 2)) (.non)) (.nil))))))) (.nil))⟩
/-- 130 -/
def d_chance_better : Def := ⟨q "chance_better", 6, [q "collection", q "judgements", q "chances", q "one", q "other", q "measure"], .cons (.ret (.call 128 (.cons (.var 0) (.cons (.var 1) (.cons (.var 2) (.cons (.var 3) (.cons (.var 4) (.cons (.var 5) (.cons (.int 1) (.nil)))))))))) (.nil)⟩
/-- 131 -/
def d_chance_equal : Def := ⟨q "chance_equal", 6, [q "collection", q "judgements", q "chances", q "one", q "other", q "measure"], .cons (.ret (.call 128 (.cons (.var 0) (.cons (.var 1) (.cons (.var 2) (.cons (.var 3) (.cons (.var 4) (.cons (.var 5) (.cons (.int 0) (.nil)))))))))) (.nil)⟩
/-- 128 -/
def d_chance_of_sign : Def := ⟨q "chance_of_sign", 7, [q "collection", q "judgements", q "chances", q "one", q "other", q "measure", q "sign", q "total", q "row", q "weight"], .cons (.ex (.call 125 (.cons (.var 0) (.cons (.var 1) (.cons (.var 2) (.nil)))))) (.cons (.ex (.call 45 (.cons (.var 0) (.cons (.var 3) (.nil))))) (.cons (.ex (.call 45 (.cons (.var 0) (.cons (.var 4) (.nil))))) (.cons (.ex (.call 46 (.cons (.var 5) (.nil)))) (.cons (.asg (.nm 7) (.tup (.cons (.int 0) (.cons (.int 1) (.nil))))) (.cons (.for_ (.tp [8, 9]) (.ex (.call 126 (.cons (.var 1) (.cons (.var 2) (.nil))))) (.cons (.ite (.cmp .eq (.call 72 (.cons (.var 0) (.cons (.var 8) (.cons (.var 3) (.cons (.var 4) (.cons (.var 5) (.nil))))))) (.var 6)) (.cons (.asg (.nm 7) (.call 43 (.cons (.var 7) (.cons (.var 9) (.nil))))) (.nil)) (.nil)) (.nil))) (.cons (.ret (.var 7)) (.nil)))))))⟩
/-- 27 -/
def d_changed : Def := ⟨q "changed", 4, [q "collection", q "judgements", q "document", q "entry", q "spot"], .cons (.asg (.nm 4) (.idxT (.var 0) (.var 2))) (.cons (.ret (.op .add (.op .add (.slT (.var 1) (.var 4)) (.tup (.cons (.var 3) (.nil)))) (.slF (.var 1) (.op .add (.var 4) (.int 1))))) (.nil))⟩
/-- 60 -/
def d_checked_values : Def := ⟨q "checked_values", 4, [q "collection", q "judgements", q "ranking", q "measure"], .cons (.ex (.call 21 (.cons (.var 0) (.cons (.var 1) (.nil))))) (.cons (.ex (.call 45 (.cons (.var 0) (.cons (.var 2) (.nil))))) (.cons (.ex (.call 46 (.cons (.var 3) (.nil)))) (.cons (.ret (.call 58 (.cons (.var 0) (.cons (.var 1) (.cons (.var 2) (.cons (.var 3) (.nil))))))) (.nil))))⟩
/-- 96 -/
def d_choices : Def := ⟨q "choices", 2, [q "documents", q "size", q "rows", q "step", q "row", q "one"], .cons (.asg (.nm 2) (.new (.lst (.cons (.tup (.nil)) (.nil))))) (.cons (.for_ (.nm 3) (.r1 (.var 1)) (.cons (.asg (.nm 2) (.new (.cmp2 (.op .add (.var 4) (.tup (.cons (.var 5) (.nil)))) (.nm 4) (.nm 5) [4, 5] [5] (.ex (.var 2)) (.ex (.var 0)) (.or (.cons (.cmp .eq (.var 4) (.tup (.nil))) (.cons (.cmp .gt (.var 5) (.ix (.var 4) (.neg (.int 1)))) (.nil))))))) (.nil))) (.cons (.ret (.var 2)) (.nil)))⟩
/-- 74 -/
def d_compare : Def := ⟨q "compare", 5, [q "collection", q "judgements", q "one", q "other", q "measure"], .cons (.ex (.call 70 (.cons (.var 0) (.cons (.var 1) (.cons (.var 2) (.cons (.var 3) (.cons (.var 4) (.nil)))))))) (.cons (.ret (.call 71 (.cons (.var 0) (.cons (.var 1) (.cons (.var 2) (.cons (.var 3) (.cons (.var 4) (.nil)))))))) (.nil))⟩
/-- 71 -/
def d_compare_all : Def := ⟨q "compare_all", 5, [q "collection", q "judgements", q "one", q "other", q "measure"], .cons (.bad) (.nil)⟩
/-- 76 -/
def d_completion_against : Def := ⟨q "completion_against", 5, [q "collection", q "judgements", q "one", q "other", q "measure"], .cons (.ex (.call 70 (.cons (.var 0) (.cons (.var 1) (.cons (.var 2) (.cons (.var 3) (.cons (.var 4) (.nil)))))))) (.cons (.ret (.call 73 (.cons (.var 0) (.cons (.var 1) (.cons (.var 2) (.cons (.var 3) (.cons (.var 4) (.nil)))))))) (.nil))⟩
/-- 33 -/
def d_completions : Def := ⟨q "completions", 2, [q "collection", q "judgements"], .cons (.ex (.call 21 (.cons (.var 0) (.cons (.var 1) (.nil))))) (.cons (.ret (.call 22 (.cons (.var 1) (.nil)))) (.nil))⟩
/-- 139 -/
def d_count_in : Def := ⟨q "count_in", 3, [q "rankings", q "depth", q "document", q "ranking"], .cons (.ret (.blt .len (.cons (.new (.cmp (.int 1) (.nm 3) [3] (.ex (.var 0)) (.cmp .in_ (.var 2) (.slT (.var 3) (.var 1))))) (.nil)))) (.nil)⟩
/-- 152 -/
def d_differences : Def := ⟨q "differences", 3, [q "collection", q "one", q "other", q "document", q "left", q "right"], .cons (.ex (.call 150 (.cons (.var 0) (.cons (.var 1) (.cons (.var 2) (.nil)))))) (.cons (.ret (.new (.cmp (.var 3) (.tp [3, 4, 5]) [3, 4, 5] (.ex (.call 151 (.cons (.var 0) (.cons (.var 1) (.cons (.var 2) (.nil)))))) (.cmp .ne (.var 4) (.var 5))))) (.nil))⟩
/-- 91 -/
def d_does_settle : Def := ⟨q "does_settle", 6, [q "collection", q "judgements", q "one", q "other", q "measure", q "documents", q "rest"], .cons (.ex (.call 70 (.cons (.var 0) (.cons (.var 1) (.cons (.var 2) (.cons (.var 3) (.cons (.var 4) (.nil)))))))) (.cons (.asg (.nm 6) (.call 23 (.cons (.var 0) (.cons (.var 1) (.nil))))) (.cons (.ite (.or (.cons (.nt (.isi (.var 5) .tuple)) (.cons (.nt (.blt .all (.cons (.new (.cmp (.and (.cons (.isi (.var 2) .str) (.cons (.cmp .in_ (.var 2) (.var 6)) (.nil)))) (.nm 2) [2] (.ex (.var 5)) (.bl true))) (.nil)))) (.nil)))) (.cons (.rse 85) (.nil)) (.nil)) (.cons (.ite (.nt (.call 9 (.cons (.var 5) (.nil)))) (.cons (.rse 85) (.nil)) (.nil)) (.cons (.ret (.call 86 (.cons (.var 0) (.cons (.call 87 (.cons (.var 0) (.cons (.var 1) (.cons (.var 2) (.cons (.var 3) (.cons (.var 4) (.nil))))))) (.cons (.var 1) (.cons (.var 5) (.nil))))))) (.nil)))))⟩
/-- 129 -/
def d_expected : Def := ⟨q "expected", 5, [q "collection", q "judgements", q "chances", q "ranking", q "measure", q "total", q "row", q "weight"], .cons (.ex (.call 125 (.cons (.var 0) (.cons (.var 1) (.cons (.var 2) (.nil)))))) (.cons (.ex (.call 45 (.cons (.var 0) (.cons (.var 3) (.nil))))) (.cons (.ex (.call 46 (.cons (.var 4) (.nil)))) (.cons (.asg (.nm 5) (.tup (.cons (.int 0) (.cons (.int 1) (.nil))))) (.cons (.for_ (.tp [6, 7]) (.ex (.call 126 (.cons (.var 1) (.cons (.var 2) (.nil))))) (.cons (.asg (.nm 5) (.call 43 (.cons (.var 5) (.cons (.call 127 (.cons (.var 7) (.cons (.call 48 (.cons (.var 0) (.cons (.var 6) (.cons (.var 3) (.cons (.var 4) (.nil)))))) (.nil)))) (.nil))))) (.nil))) (.cons (.ret (.var 5)) (.nil))))))⟩
/-- 100 -/
def d_fewest_questions : Def := ⟨q "fewest_questions", 5, [q "collection", q "judgements", q "one", q "other", q "measure"], .cons (.ex (.call 70 (.cons (.var 0) (.cons (.var 1) (.cons (.var 2) (.cons (.var 3) (.cons (.var 4) (.nil)))))))) (.cons (.ret (.ix (.call 98 (.cons (.var 0) (.cons (.call 87 (.cons (.var 0) (.cons (.var 1) (.cons (.var 2) (.cons (.var 3) (.cons (.var 4) (.nil))))))) (.cons (.var 1) (.cons (.dnewK false) (.nil)))))) (.int 0))) (.nil))⟩
/-- 73 -/
def d_first_against : Def := ⟨q "first_against", 5, [q "collection", q "judgements", q "one", q "other", q "measure", q "row"], .cons (.for_ (.nm 5) (.ex (.call 22 (.cons (.var 1) (.nil)))) (.cons (.ite (.cmp .lt (.call 72 (.cons (.var 0) (.cons (.var 5) (.cons (.var 2) (.cons (.var 3) (.cons (.var 4) (.nil))))))) (.int 0)) (.cons (.ret (.var 5)) (.nil)) (.nil)) (.nil))) (.cons (.ret (.non)) (.nil))⟩
/-- 165 -/
def d_format_judgements : Def := ⟨q "format_judgements", 2, [q "collection", q "judgements"], .cons (.ex (.call 21 (.cons (.var 0) (.cons (.var 1) (.nil))))) (.cons (.ret (.call 164 (.cons (.var 0) (.cons (.var 1) (.nil))))) (.nil))⟩
/-- 166 -/
def d_format_ranking : Def := ⟨q "format_ranking", 2, [q "collection", q "ranking"], .cons (.ex (.call 13 (.cons (.var 0) (.nil)))) (.cons (.ex (.call 45 (.cons (.var 0) (.cons (.var 1) (.nil))))) (.cons (.ret (.join (.str (q " > ")) (.var 1))) (.nil)))⟩
/-- 209 -/
def d_gain_of : Def := ⟨q "gain_of", 1, [q "hits", q "total", q "spot", q "hit"], .cons (.asg (.nm 1) (.tup (.cons (.int 0) (.cons (.int 1) (.nil))))) (.cons (.for_ (.tp [2, 3]) (.en (.var 0)) (.cons (.asg (.nm 1) (.call 43 (.cons (.var 1) (.cons (.tup (.cons (.var 3) (.cons (.op .add (.var 2) (.int 1)) (.nil)))) (.nil))))) (.nil))) (.cons (.ret (.var 1)) (.nil)))⟩
/-- 63 -/
def d_greatest : Def := ⟨q "greatest", 4, [q "collection", q "judgements", q "ranking", q "measure"], .cons (.ret (.ix (.call 61 (.cons (.call 60 (.cons (.var 0) (.cons (.var 1) (.cons (.var 2) (.cons (.var 3) (.nil)))))) (.nil))) (.int 1))) (.nil)⟩
/-- 65 -/
def d_greatest_completion : Def := ⟨q "greatest_completion", 4, [q "collection", q "judgements", q "ranking", q "measure"], .cons (.ret (.ix (.call 61 (.cons (.call 60 (.cons (.var 0) (.cons (.var 1) (.cons (.var 2) (.cons (.var 3) (.nil)))))) (.nil))) (.int 0))) (.nil)⟩
/-- 61 -/
def d_highest : Def := ⟨q "highest", 1, [q "rows", q "best", q "row"], .cons (.asg (.nm 1) (.ix (.var 0) (.int 0))) (.cons (.for_ (.nm 2) (.ex (.var 0)) (.cons (.ite (.call 57 (.cons (.ix (.var 1) (.int 1)) (.cons (.ix (.var 2) (.int 1)) (.nil)))) (.cons (.asg (.nm 1) (.var 2)) (.nil)) (.nil)) (.nil))) (.cons (.ret (.var 1)) (.nil)))⟩
/-- 208 -/
def d_hits_of : Def := ⟨q "hits_of", 3, [q "collection", q "completion", q "ranking", q "entries", q "document"], .cons (.asg (.nm 3) (.dzip (.var 0) (.var 1))) (.cons (.ret (.new (.cmp (.dget (.var 3) (.var 4)) (.nm 4) [4] (.ex (.var 2)) (.bl true)))) (.nil))⟩
/-- 9 -/
def d_is_ascending : Def := ⟨q "is_ascending", 1, [q "row", q "one", q "other"], .cons (.ret (.blt .all (.cons (.new (.cmp (.cmp .lt (.var 1) (.var 2)) (.tp [1, 2]) [1, 2] (.z2 (.var 0) (.slF (.var 0) (.int 1))) (.bl true))) (.nil)))) (.nil)⟩
/-- 57 -/
def d_is_below : Def := ⟨q "is_below", 2, [q "one", q "other"], .cons (.ret (.cmp .lt (.op .mul (.ix (.var 0) (.int 0)) (.ix (.var 1) (.int 1))) (.op .mul (.ix (.var 1) (.int 0)) (.ix (.var 0) (.int 1))))) (.nil)⟩
/-- 106 -/
def d_is_best : Def := ⟨q "is_best", 4, [q "collection", q "judgements", q "ranking", q "measure"], .cons (.ex (.call 21 (.cons (.var 0) (.cons (.var 1) (.nil))))) (.cons (.ex (.call 45 (.cons (.var 0) (.cons (.var 2) (.nil))))) (.cons (.ex (.call 46 (.cons (.var 3) (.nil)))) (.cons (.ex (.call 47 (.cons (.var 1) (.nil)))) (.cons (.ret (.cmp .eq (.call 48 (.cons (.var 0) (.cons (.var 1) (.cons (.var 2) (.cons (.var 3) (.nil)))))) (.call 103 (.cons (.var 0) (.cons (.var 1) (.cons (.var 3) (.nil))))))) (.nil)))))⟩
/-- 119 -/
def d_is_chance : Def := ⟨q "is_chance", 1, [q "candidate"], .cons (.ite (.or (.cons (.nt (.isi (.var 0) .tuple)) (.cons (.cmp .ne (.blt .len (.cons (.var 0) (.nil))) (.int 2)) (.cons (.nt (.call 6 (.cons (.ix (.var 0) (.int 1)) (.cons (.int 1) (.cons (.int 20) (.nil)))))) (.nil))))) (.cons (.ret (.bl false)) (.nil)) (.nil)) (.cons (.ret (.and (.cons (.call 6 (.cons (.ix (.var 0) (.int 0)) (.cons (.int 0) (.cons (.ix (.var 0) (.int 1)) (.nil))))) (.cons (.cmp .eq (.call 42 (.cons (.ix (.var 0) (.int 0)) (.cons (.ix (.var 0) (.int 1)) (.nil)))) (.var 0)) (.nil))))) (.nil))⟩
/-- 11 -/
def d_is_collection : Def := ⟨q "is_collection", 1, [q "candidate", q "one"], .cons (.ite (.or (.cons (.nt (.isi (.var 0) .tuple)) (.cons (.nt (.chn .le .le (.int 1) (.blt .len (.cons (.var 0) (.nil))) (.int 7))) (.nil)))) (.cons (.ret (.bl false)) (.nil)) (.nil)) (.cons (.ret (.and (.cons (.blt .all (.cons (.new (.cmp (.call 10 (.cons (.var 1) (.nil))) (.nm 1) [1] (.ex (.var 0)) (.bl true))) (.nil))) (.cons (.call 9 (.cons (.var 0) (.nil))) (.nil))))) (.nil))⟩
/-- 10 -/
def d_is_document : Def := ⟨q "is_document", 1, [q "candidate", q "sign"], .cons (.ite (.or (.cons (.nt (.isi (.var 0) .str)) (.cons (.nt (.chn .le .le (.int 1) (.blt .len (.cons (.var 0) (.nil))) (.int 3))) (.nil)))) (.cons (.ret (.bl false)) (.nil)) (.nil)) (.cons (.ret (.blt .all (.cons (.new (.cmp (.chn .le .le (.str (q "a")) (.var 1) (.str (q "z"))) (.nm 1) [1] (.ex (.var 0)) (.bl true))) (.nil)))) (.nil))⟩
/-- 6 -/
def d_is_integer : Def := ⟨q "is_integer", 3, [q "candidate", q "least", q "most"], .cons (.ret (.and (.cons (.isi (.var 0) .int) (.cons (.nt (.isi (.var 0) .bool)) (.cons (.chn .le .le (.var 1) (.var 0) (.var 2)) (.nil)))))) (.nil)⟩
/-- 148 -/
def d_is_judged : Def := ⟨q "is_judged", 4, [q "collection", q "judgements", q "rankings", q "depth"], .cons (.ret (.cmp .eq (.call 142 (.cons (.var 0) (.cons (.var 1) (.cons (.var 2) (.cons (.var 3) (.nil)))))) (.new (.lst (.nil))))) (.nil)⟩
/-- 3 -/
def d_is_measure : Def := ⟨q "is_measure", 1, [q "candidate"], .cons (.ite (.or (.cons (.nt (.isi (.var 0) .tuple)) (.cons (.nt (.var 0)) (.cons (.nt (.isi (.ix (.var 0) (.int 0)) .str)) (.nil))))) (.cons (.ret (.bl false)) (.nil)) (.nil)) (.cons (.ite (.cmp .eq (.blt .len (.cons (.var 0) (.nil))) (.int 1)) (.cons (.ret (.cmp .in_ (.ix (.var 0) (.int 0)) (.tup (.cons (.str (q "reciprocal")) (.cons (.str (q "average")) (.nil)))))) (.nil)) (.nil)) (.cons (.ite (.or (.cons (.cmp .ne (.blt .len (.cons (.var 0) (.nil))) (.int 2)) (.cons (.cmp .notIn (.ix (.var 0) (.int 0)) (.tup (.cons (.str (q "precision")) (.cons (.str (q "recall")) (.cons (.str (q "gain")) (.cons (.str (q "share")) (.nil))))))) (.nil)))) (.cons (.ret (.bl false)) (.nil)) (.nil)) (.cons (.ret (.call 6 (.cons (.ix (.var 0) (.int 1)) (.cons (.int 1) (.cons (.int 7) (.nil)))))) (.nil))))⟩
/-- 75 -/
def d_is_never_worse : Def := ⟨q "is_never_worse", 5, [q "collection", q "judgements", q "one", q "other", q "measure"], .cons (.ex (.call 70 (.cons (.var 0) (.cons (.var 1) (.cons (.var 2) (.cons (.var 3) (.cons (.var 4) (.nil)))))))) (.cons (.ret (.cmp .is (.call 73 (.cons (.var 0) (.cons (.var 1) (.cons (.var 2) (.cons (.var 3) (.cons (.var 4) (.nil))))))) (.non))) (.nil))⟩
/-- 16 -/
def d_is_ranking : Def := ⟨q "is_ranking", 2, [q "collection", q "candidate"], .cons (.ex (.call 13 (.cons (.var 0) (.nil)))) (.cons (.ret (.call 14 (.cons (.var 0) (.cons (.var 1) (.nil))))) (.nil))⟩
/-- 84 -/
def d_is_settled : Def := ⟨q "is_settled", 2, [q "signs", q "judgements", q "row"], .cons (.ret (.cmp .eq (.lnS (.new (.cmp (.dget (.var 0) (.var 2)) (.nm 2) [2] (.ex (.call 22 (.cons (.var 1) (.nil)))) (.bl true)))) (.int 1))) (.nil)⟩
/-- 14 -/
def d_is_valid_ranking : Def := ⟨q "is_valid_ranking", 2, [q "collection", q "candidate", q "one"], .cons (.ite (.or (.cons (.nt (.isi (.var 1) .tuple)) (.cons (.nt (.blt .all (.cons (.new (.cmp (.and (.cons (.isi (.var 2) .str) (.cons (.cmp .in_ (.var 2) (.var 0)) (.nil)))) (.nm 2) [2] (.ex (.var 1)) (.bl true))) (.nil)))) (.nil)))) (.cons (.ret (.bl false)) (.nil)) (.nil)) (.cons (.ret (.cmp .eq (.lnS (.var 1)) (.blt .len (.cons (.var 1) (.nil))))) (.nil))⟩
/-- 159 -/
def d_joined : Def := ⟨q "joined", 3, [q "collection", q "one", q "other", q "left", q "right"], .cons (.ite (.call 152 (.cons (.var 0) (.cons (.var 1) (.cons (.var 2) (.nil))))) (.cons (.rse 153) (.nil)) (.nil)) (.cons (.ret (.toT (.new (.cmp (.ite (.cmp .is (.var 3) (.non)) (.var 4) (.var 3)) (.tp [3, 4]) [3, 4] (.z2 (.var 1) (.var 2)) (.bl true))))) (.nil))⟩
/-- 164 -/
def d_judgements_text : Def := ⟨q "judgements_text", 2, [q "collection", q "judgements", q "document", q "entry"], .cons (.ret (.join (.str (q " ")) (.new (.cmp (.op .add (.var 2) (.call 231 (.cons (.var 3) (.nil)))) (.tp [2, 3]) [2, 3] (.z2 (.var 0) (.var 1)) (.bl true))))) (.nil)⟩
/-- 62 -/
def d_least : Def := ⟨q "least", 4, [q "collection", q "judgements", q "ranking", q "measure"], .cons (.ret (.ix (.call 59 (.cons (.call 60 (.cons (.var 0) (.cons (.var 1) (.cons (.var 2) (.cons (.var 3) (.nil)))))) (.nil))) (.int 1))) (.nil)⟩
/-- 64 -/
def d_least_completion : Def := ⟨q "least_completion", 4, [q "collection", q "judgements", q "ranking", q "measure"], .cons (.ret (.ix (.call 59 (.cons (.call 60 (.cons (.var 0) (.cons (.var 1) (.cons (.var 2) (.cons (.var 3) (.nil)))))) (.nil))) (.int 0))) (.nil)⟩
/-- 117 -/
def d_least_regret : Def := ⟨q "least_regret", 3, [q "collection", q "judgements", q "measure", q "best", q "found", q "ranking", q "own"], .cons (.ex (.call 21 (.cons (.var 0) (.cons (.var 1) (.nil))))) (.cons (.ex (.call 46 (.cons (.var 2) (.nil)))) (.cons (.ite (.cmp .gt (.blt .len (.cons (.var 0) (.nil))) (.int 5)) (.cons (.rse 114) (.nil)) (.nil)) (.cons (.par [3, 4] (.cons (.tup (.cons (.int 2) (.cons (.int 1) (.nil)))) (.cons (.non) (.nil)))) (.cons (.for_ (.nm 5) (.ex (.call 115 (.cons (.var 0) (.nil)))) (.cons (.asg (.nm 6) (.call 113 (.cons (.var 0) (.cons (.var 1) (.cons (.var 5) (.cons (.var 2) (.nil))))))) (.cons (.ite (.call 57 (.cons (.var 6) (.cons (.var 3) (.nil)))) (.cons (.par [3, 4] (.cons (.var 6) (.cons (.var 5) (.nil)))) (.nil)) (.nil)) (.nil)))) (.cons (.ret (.var 4)) (.nil))))))⟩
/-- 149 -/
def d_left_to_judge : Def := ⟨q "left_to_judge", 4, [q "collection", q "judgements", q "rankings", q "depth", q "rest", q "rows", q "count", q "document"], .cons (.asg (.nm 4) (.call 142 (.cons (.var 0) (.cons (.var 1) (.cons (.var 2) (.cons (.var 3) (.nil))))))) (.cons (.asg (.nm 5) (.new (.srt (.new (.cmp (.tup (.cons (.neg (.call 139 (.cons (.var 2) (.cons (.var 3) (.cons (.var 7) (.nil)))))) (.cons (.var 7) (.nil)))) (.nm 7) [7] (.ex (.var 4)) (.bl true)))))) (.cons (.ret (.new (.cmp (.var 7) (.tp [6, 7]) [6, 7] (.ex (.var 5)) (.bl true)))) (.nil)))⟩
/-- 112 -/
def d_less : Def := ⟨q "less", 2, [q "one", q "other"], .cons (.ret (.call 43 (.cons (.var 0) (.cons (.tup (.cons (.neg (.ix (.var 1) (.int 0))) (.cons (.ix (.var 1) (.int 1)) (.nil)))) (.nil))))) (.nil)⟩
/-- 59 -/
def d_lowest : Def := ⟨q "lowest", 1, [q "rows", q "best", q "row"], .cons (.asg (.nm 1) (.ix (.var 0) (.int 0))) (.cons (.for_ (.nm 2) (.ex (.var 0)) (.cons (.ite (.call 57 (.cons (.ix (.var 2) (.int 1)) (.cons (.ix (.var 1) (.int 1)) (.nil)))) (.cons (.asg (.nm 1) (.var 2)) (.nil)) (.nil)) (.nil))) (.cons (.ret (.var 1)) (.nil)))⟩
/-- 42 -/
def d_lowest_terms : Def := ⟨q "lowest_terms", 2, [q "top", q "bottom", q "one", q "other"], .cons (.ite (.cmp .eq (.var 1) (.int 0)) (.cons (.ret (.tup (.cons (.int 0) (.cons (.int 1) (.nil))))) (.nil)) (.nil)) (.cons (.par [2, 3] (.cons (.blt .abs (.cons (.var 0) (.nil))) (.cons (.var 1) (.nil)))) (.cons (.whl (.var 3) (.cons (.par [2, 3] (.cons (.var 3) (.cons (.op .mod (.var 2) (.var 3)) (.nil)))) (.nil))) (.cons (.ret (.tup (.cons (.op .fdiv (.var 0) (.var 2)) (.cons (.op .fdiv (.var 1) (.var 2)) (.nil))))) (.nil))))⟩
/-- 161 -/
def d_majority : Def := ⟨q "majority", 2, [q "collection", q "judges", q "found", q "spot", q "entries", q "ones", q "zeros", q "one"], .cons (.ex (.call 13 (.cons (.var 0) (.nil)))) (.cons (.ite (.or (.cons (.nt (.isi (.var 1) .list)) (.cons (.nt (.chn .le .le (.int 1) (.blt .len (.cons (.var 1) (.nil))) (.int 7))) (.nil)))) (.cons (.rse 154) (.nil)) (.nil)) (.cons (.ite (.nt (.blt .all (.cons (.new (.cmp (.call 19 (.cons (.var 0) (.cons (.var 7) (.nil)))) (.nm 7) [7] (.ex (.var 1)) (.bl true))) (.nil)))) (.cons (.rse 154) (.nil)) (.nil)) (.cons (.asg (.nm 2) (.box (.lst (.nil)))) (.cons (.for_ (.nm 3) (.r1 (.blt .len (.cons (.var 0) (.nil)))) (.cons (.asg (.nm 4) (.new (.cmp (.ix (.var 7) (.var 3)) (.nm 7) [7] (.ex (.var 1)) (.bl true)))) (.cons (.par [5, 6] (.cons (.cnt (.var 4) (.int 1)) (.cons (.cnt (.var 4) (.int 0)) (.nil)))) (.cons (.ex (.app (.var 2) (.ite (.cmp .eq (.var 5) (.var 6)) (.non) (.blt .int (.cons (.cmp .gt (.var 5) (.var 6)) (.nil)))))) (.nil))))) (.cons (.frz 2) (.cons (.ret (.toT (.var 2))) (.nil)))))))⟩
/-- 231 -/
def d_mark_of : Def := ⟨q "mark_of", 1, [q "entry"], .cons (.ret (.ite (.cmp .is (.var 0) (.non)) (.str (q "?")) (.ix (.str (q "-+")) (.var 0)))) (.nil)⟩
/-- 173 -/
def d_naive_average : Def := ⟨q "naive_average", 3, [q "collection", q "judgements", q "ranking", q "good", q "top", q "bottom", q "rank", q "found", q "document", q "entry"], .cons (.ex (.call 21 (.cons (.var 0) (.cons (.var 1) (.nil))))) (.cons (.ex (.call 45 (.cons (.var 0) (.cons (.var 2) (.nil))))) (.cons (.ex (.call 47 (.cons (.var 1) (.nil)))) (.cons (.asg (.nm 3) (.new (.cmp (.var 8) (.tp [8, 9]) [8, 9] (.z2 (.var 0) (.var 1)) (.cmp .eq (.var 9) (.int 1))))) (.cons (.par [4, 5] (.cons (.int 0) (.cons (.int 1) (.nil)))) (.cons (.for_ (.nm 6) (.r2 (.int 1) (.op .add (.blt .len (.cons (.var 2) (.nil))) (.int 1))) (.cons (.ite (.cmp .in_ (.ix (.var 2) (.op .sub (.var 6) (.int 1))) (.var 3)) (.cons (.asg (.nm 7) (.blt .len (.cons (.new (.cmp (.int 1) (.nm 8) [8] (.ex (.slT (.var 2) (.var 6))) (.cmp .in_ (.var 8) (.var 3)))) (.nil)))) (.cons (.par [4, 5] (.cons (.op .add (.op .mul (.var 4) (.var 6)) (.op .mul (.var 7) (.var 5))) (.cons (.op .mul (.var 5) (.var 6)) (.nil)))) (.nil))) (.nil)) (.nil))) (.cons (.ret (.call 42 (.cons (.var 4) (.cons (.op .mul (.var 5) (.blt .len (.cons (.var 3) (.nil)))) (.nil))))) (.nil)))))))⟩
/-- 174 -/
def d_naive_best_value : Def := ⟨q "naive_best_value", 3, [q "collection", q "judgements", q "measure", q "best", q "ranking", q "own"], .cons (.ex (.call 21 (.cons (.var 0) (.cons (.var 1) (.nil))))) (.cons (.ex (.call 46 (.cons (.var 2) (.nil)))) (.cons (.ex (.call 47 (.cons (.var 1) (.nil)))) (.cons (.ite (.cmp .gt (.blt .len (.cons (.var 0) (.nil))) (.int 5)) (.cons (.rse 114) (.nil)) (.nil)) (.cons (.asg (.nm 3) (.tup (.cons (.int 0) (.cons (.int 1) (.nil))))) (.cons (.for_ (.nm 4) (.ex (.call 115 (.cons (.var 0) (.nil)))) (.cons (.asg (.nm 5) (.call 48 (.cons (.var 0) (.cons (.var 1) (.cons (.var 4) (.cons (.var 2) (.nil))))))) (.cons (.ite (.call 57 (.cons (.var 3) (.cons (.var 5) (.nil)))) (.cons (.asg (.nm 3) (.var 5)) (.nil)) (.nil)) (.nil)))) (.cons (.ret (.var 3)) (.nil)))))))⟩
/-- 98 -/
def d_need_of : Def := ⟨q "need_of", 4, [q "collection", q "signs", q "judgements", q "known", q "best", q "document", q "rows", q "count", q "row"], .cons (.ite (.dnin (.var 2) (.var 3)) (.cons (.asg (.nm 4) (.tup (.cons (.int 0) (.cons (.non) (.nil))))) (.cons (.ite (.nt (.call 84 (.cons (.var 1) (.cons (.var 2) (.nil))))) (.cons (.for_ (.nm 5) (.ex (.call 23 (.cons (.var 0) (.cons (.var 2) (.nil))))) (.cons (.asg (.nm 6) (.call 83 (.cons (.var 0) (.cons (.var 2) (.cons (.tup (.cons (.var 5) (.nil))) (.nil)))))) (.cons (.asg (.nm 7) (.op .add (.int 1) (.blt .max1 (.cons (.new (.cmp (.ix (.call 98 (.cons (.var 0) (.cons (.var 1) (.cons (.var 8) (.cons (.var 3) (.nil)))))) (.int 0)) (.nm 8) [8] (.ex (.var 6)) (.bl true))) (.nil))))) (.cons (.ite (.or (.cons (.cmp .is (.ix (.var 4) (.int 1)) (.non)) (.cons (.cmp .lt (.var 7) (.ix (.var 4) (.int 0))) (.nil)))) (.cons (.asg (.nm 4) (.tup (.cons (.var 7) (.cons (.var 5) (.nil))))) (.nil)) (.nil)) (.nil))))) (.nil)) (.nil)) (.cons (.dput (.var 3) (.var 2) (.var 4)) (.nil)))) (.nil)) (.cons (.ret (.dget (.var 3) (.var 2))) (.nil))⟩
/-- 101 -/
def d_next_question : Def := ⟨q "next_question", 5, [q "collection", q "judgements", q "one", q "other", q "measure"], .cons (.ex (.call 70 (.cons (.var 0) (.cons (.var 1) (.cons (.var 2) (.cons (.var 3) (.cons (.var 4) (.nil)))))))) (.cons (.ret (.ix (.call 98 (.cons (.var 0) (.cons (.call 87 (.cons (.var 0) (.cons (.var 1) (.cons (.var 2) (.cons (.var 3) (.cons (.var 4) (.nil))))))) (.cons (.var 1) (.cons (.dnewK false) (.nil)))))) (.int 1))) (.nil))⟩
/-- 23 -/
def d_open_documents : Def := ⟨q "open_documents", 2, [q "collection", q "judgements", q "document", q "entry"], .cons (.ret (.toT (.new (.cmp (.var 2) (.tp [2, 3]) [2, 3] (.z2 (.var 0) (.var 1)) (.cmp .is (.var 3) (.non)))))) (.nil)⟩
/-- 142 -/
def d_open_in_pool : Def := ⟨q "open_in_pool", 4, [q "collection", q "judgements", q "rankings", q "depth", q "rest", q "document"], .cons (.ex (.call 21 (.cons (.var 0) (.cons (.var 1) (.nil))))) (.cons (.ex (.call 80 (.cons (.var 0) (.cons (.var 2) (.nil))))) (.cons (.ex (.call 140 (.cons (.var 3) (.nil)))) (.cons (.asg (.nm 4) (.call 23 (.cons (.var 0) (.cons (.var 1) (.nil))))) (.cons (.ret (.new (.cmp (.var 5) (.nm 5) [5] (.ex (.call 141 (.cons (.var 0) (.cons (.var 2) (.cons (.var 3) (.nil)))))) (.cmp .in_ (.var 5) (.var 4))))) (.nil)))))⟩
/-- 169 -/
def d_parse_ranking : Def := ⟨q "parse_ranking", 2, [q "collection", q "text", q "ranking"], .cons (.ex (.call 13 (.cons (.var 0) (.nil)))) (.cons (.ite (.nt (.isi (.var 1) .str)) (.cons (.rse 167) (.nil)) (.nil)) (.cons (.bad) (.cons (.ite (.or (.cons (.nt (.call 14 (.cons (.var 0) (.cons (.var 2) (.nil))))) (.cons (.cmp .ne (.join (.str (q " > ")) (.var 2)) (.var 1)) (.nil)))) (.cons (.rse 167) (.nil)) (.nil)) (.cons (.ret (.var 2)) (.nil)))))⟩
/-- 147 -/
def d_pool : Def := ⟨q "pool", 3, [q "collection", q "rankings", q "depth"], .cons (.ex (.call 13 (.cons (.var 0) (.nil)))) (.cons (.ex (.call 80 (.cons (.var 0) (.cons (.var 1) (.nil))))) (.cons (.ex (.call 140 (.cons (.var 2) (.nil)))) (.cons (.ret (.call 141 (.cons (.var 0) (.cons (.var 1) (.cons (.var 2) (.nil)))))) (.nil))))⟩
/-- 141 -/
def d_pool_of : Def := ⟨q "pool_of", 3, [q "collection", q "rankings", q "depth", q "document"], .cons (.ret (.toT (.new (.cmp (.var 3) (.nm 3) [3] (.ex (.var 0)) (.cmp .gt (.call 139 (.cons (.var 1) (.cons (.var 2) (.cons (.var 3) (.nil))))) (.int 0)))))) (.nil)⟩
/-- 66 -/
def d_possible_values : Def := ⟨q "possible_values", 4, [q "collection", q "judgements", q "ranking", q "measure", q "rows", q "rest", q "found", q "low", q "row"], .cons (.asg (.nm 4) (.call 60 (.cons (.var 0) (.cons (.var 1) (.cons (.var 2) (.cons (.var 3) (.nil))))))) (.cons (.par [5, 6] (.cons (.new (.cmp (.var 8) (.nm 8) [8] (.ex (.var 4)) (.bl true))) (.cons (.box (.lst (.nil))) (.nil)))) (.cons (.whl (.var 5) (.cons (.asg (.nm 7) (.ix (.call 59 (.cons (.var 5) (.nil))) (.int 1))) (.cons (.ex (.app (.var 6) (.var 7))) (.cons (.asg (.nm 5) (.new (.cmp (.var 8) (.nm 8) [8] (.ex (.var 5)) (.cmp .ne (.ix (.var 8) (.int 1)) (.var 7))))) (.nil))))) (.cons (.frz 6) (.cons (.ret (.var 6)) (.nil)))))⟩
/-- 116 -/
def d_regret : Def := ⟨q "regret", 4, [q "collection", q "judgements", q "ranking", q "measure"], .cons (.ex (.call 21 (.cons (.var 0) (.cons (.var 1) (.nil))))) (.cons (.ex (.call 45 (.cons (.var 0) (.cons (.var 2) (.nil))))) (.cons (.ex (.call 46 (.cons (.var 3) (.nil)))) (.cons (.ret (.call 113 (.cons (.var 0) (.cons (.var 1) (.cons (.var 2) (.cons (.var 3) (.nil))))))) (.nil))))⟩
/-- 113 -/
def d_regret_of : Def := ⟨q "regret_of", 4, [q "collection", q "judgements", q "ranking", q "measure", q "found", q "row", q "lost"], .cons (.asg (.nm 4) (.tup (.cons (.int 0) (.cons (.int 1) (.nil))))) (.cons (.for_ (.nm 5) (.ex (.call 22 (.cons (.var 1) (.nil)))) (.cons (.asg (.nm 6) (.call 112 (.cons (.call 103 (.cons (.var 0) (.cons (.var 5) (.cons (.var 3) (.nil))))) (.cons (.call 48 (.cons (.var 0) (.cons (.var 5) (.cons (.var 2) (.cons (.var 3) (.nil)))))) (.nil))))) (.cons (.ite (.call 57 (.cons (.var 4) (.cons (.var 6) (.nil)))) (.cons (.asg (.nm 4) (.var 6)) (.nil)) (.nil)) (.nil)))) (.cons (.ret (.var 4)) (.nil)))⟩
/-- 54 -/
def d_relevant_first : Def := ⟨q "relevant_first", 2, [q "collection", q "completion", q "entries", q "first", q "document"], .cons (.asg (.nm 2) (.dzip (.var 0) (.var 1))) (.cons (.asg (.nm 3) (.new (.cmp (.var 4) (.nm 4) [4] (.ex (.var 0)) (.cmp .eq (.dget (.var 2) (.var 4)) (.int 1))))) (.cons (.ret (.toT (.new (.cat (.var 3) (.new (.cmp (.var 4) (.nm 4) [4] (.ex (.var 0)) (.cmp .eq (.dget (.var 2) (.var 4)) (.int 0)))))))) (.nil)))⟩
/-- 125 -/
def d_require_chances : Def := ⟨q "require_chances", 3, [q "collection", q "judgements", q "chances"], .cons (.ex (.call 21 (.cons (.var 0) (.cons (.var 1) (.nil))))) (.cons (.ite (.nt (.call 120 (.cons (.var 0) (.cons (.var 2) (.nil))))) (.cons (.rse 124) (.nil)) (.nil)) (.nil))⟩
/-- 13 -/
def d_require_collection : Def := ⟨q "require_collection", 1, [q "collection"], .cons (.ite (.nt (.call 11 (.cons (.var 0) (.nil)))) (.cons (.rse 12) (.nil)) (.nil)) (.nil)⟩
/-- 47 -/
def d_require_complete : Def := ⟨q "require_complete", 1, [q "judgements"], .cons (.ite (.cmp .in_ (.non) (.var 0)) (.cons (.rse 44) (.nil)) (.nil)) (.nil)⟩
/-- 140 -/
def d_require_depth : Def := ⟨q "require_depth", 1, [q "depth"], .cons (.ite (.nt (.call 6 (.cons (.var 0) (.cons (.int 1) (.cons (.int 7) (.nil)))))) (.cons (.rse 138) (.nil)) (.nil)) (.nil)⟩
/-- 25 -/
def d_require_document : Def := ⟨q "require_document", 2, [q "collection", q "document"], .cons (.ite (.or (.cons (.nt (.isi (.var 1) .str)) (.cons (.cmp .notIn (.var 1) (.var 0)) (.nil)))) (.cons (.rse 24) (.nil)) (.nil)) (.nil)⟩
/-- 21 -/
def d_require_judgements : Def := ⟨q "require_judgements", 2, [q "collection", q "judgements"], .cons (.ex (.call 13 (.cons (.var 0) (.nil)))) (.cons (.ite (.nt (.call 19 (.cons (.var 0) (.cons (.var 1) (.nil))))) (.cons (.rse 20) (.nil)) (.nil)) (.nil))⟩
/-- 46 -/
def d_require_measure : Def := ⟨q "require_measure", 1, [q "measure"], .cons (.ite (.nt (.call 3 (.cons (.var 0) (.nil)))) (.cons (.rse 41) (.nil)) (.nil)) (.nil)⟩
/-- 150 -/
def d_require_pair : Def := ⟨q "require_pair", 3, [q "collection", q "one", q "other"], .cons (.ex (.call 13 (.cons (.var 0) (.nil)))) (.cons (.ite (.or (.cons (.nt (.call 19 (.cons (.var 0) (.cons (.var 1) (.nil))))) (.cons (.nt (.call 19 (.cons (.var 0) (.cons (.var 2) (.nil))))) (.nil)))) (.cons (.rse 20) (.nil)) (.nil)) (.nil))⟩
/-- 45 -/
def d_require_ranking : Def := ⟨q "require_ranking", 2, [q "collection", q "ranking"], .cons (.ite (.nt (.call 14 (.cons (.var 0) (.cons (.var 1) (.nil))))) (.cons (.rse 40) (.nil)) (.nil)) (.nil)⟩
/-- 80 -/
def d_require_rankings : Def := ⟨q "require_rankings", 2, [q "collection", q "rankings", q "one"], .cons (.ite (.or (.cons (.nt (.isi (.var 1) .list)) (.cons (.nt (.chn .le .le (.int 1) (.blt .len (.cons (.var 1) (.nil))) (.int 5))) (.nil)))) (.cons (.rse 79) (.nil)) (.nil)) (.cons (.ite (.nt (.blt .all (.cons (.new (.cmp (.call 14 (.cons (.var 0) (.cons (.var 2) (.nil)))) (.nm 2) [2] (.ex (.var 1)) (.bl true))) (.nil)))) (.cons (.rse 79) (.nil)) (.nil)) (.nil))⟩
/-- 70 -/
def d_require_two : Def := ⟨q "require_two", 5, [q "collection", q "judgements", q "one", q "other", q "measure"], .cons (.ex (.call 21 (.cons (.var 0) (.cons (.var 1) (.nil))))) (.cons (.ex (.call 45 (.cons (.var 0) (.cons (.var 2) (.nil))))) (.cons (.ex (.call 45 (.cons (.var 0) (.cons (.var 3) (.nil))))) (.cons (.ex (.call 46 (.cons (.var 4) (.nil)))) (.nil))))⟩
/-- 86 -/
def d_settles : Def := ⟨q "settles", 4, [q "collection", q "signs", q "judgements", q "documents", q "row"], .cons (.ret (.blt .all (.cons (.new (.cmp (.call 84 (.cons (.var 1) (.cons (.var 4) (.nil)))) (.nm 4) [4] (.ex (.call 83 (.cons (.var 0) (.cons (.var 2) (.cons (.var 3) (.nil)))))) (.bl true))) (.nil)))) (.nil)⟩
/-- 97 -/
def d_settling_sets : Def := ⟨q "settling_sets", 5, [q "collection", q "judgements", q "one", q "other", q "measure", q "signs", q "rest", q "found", q "size", q "documents", q "own", q "part"], .cons (.ex (.call 70 (.cons (.var 0) (.cons (.var 1) (.cons (.var 2) (.cons (.var 3) (.cons (.var 4) (.nil)))))))) (.cons (.par [5, 6] (.cons (.call 87 (.cons (.var 0) (.cons (.var 1) (.cons (.var 2) (.cons (.var 3) (.cons (.var 4) (.nil))))))) (.cons (.call 23 (.cons (.var 0) (.cons (.var 1) (.nil)))) (.nil)))) (.cons (.asg (.nm 7) (.box (.lst (.nil)))) (.cons (.for_ (.nm 8) (.r1 (.op .add (.blt .len (.cons (.var 6) (.nil))) (.int 1))) (.cons (.for_ (.nm 9) (.ex (.call 96 (.cons (.var 6) (.cons (.var 8) (.nil))))) (.cons (.ite (.nt (.blt .any (.cons (.new (.cmp (.blt .all (.cons (.new (.cmp (.cmp .in_ (.var 11) (.var 9)) (.nm 11) [11] (.ex (.var 10)) (.bl true))) (.nil))) (.nm 10) [10] (.ex (.var 7)) (.bl true))) (.nil)))) (.cons (.ite (.call 86 (.cons (.var 0) (.cons (.var 5) (.cons (.var 1) (.cons (.var 9) (.nil)))))) (.cons (.ex (.app (.var 7) (.var 9))) (.nil)) (.nil)) (.nil)) (.nil)) (.nil))) (.nil))) (.cons (.frz 7) (.cons (.ret (.new (.srt (.var 7)))) (.nil))))))⟩
/-- 72 -/
def d_sign_of : Def := ⟨q "sign_of", 5, [q "collection", q "completion", q "one", q "other", q "measure", q "left", q "right"], .cons (.par [5, 6] (.cons (.call 48 (.cons (.var 0) (.cons (.var 1) (.cons (.var 2) (.cons (.var 4) (.nil)))))) (.cons (.call 48 (.cons (.var 0) (.cons (.var 1) (.cons (.var 3) (.cons (.var 4) (.nil)))))) (.nil)))) (.cons (.ret (.op .sub (.blt .int (.cons (.call 57 (.cons (.var 6) (.cons (.var 5) (.nil)))) (.nil))) (.blt .int (.cons (.call 57 (.cons (.var 5) (.cons (.var 6) (.nil)))) (.nil))))) (.nil))⟩
/-- 87 -/
def d_signs_of : Def := ⟨q "signs_of", 5, [q "collection", q "judgements", q "one", q "other", q "measure", q "row"], .cons (.bad) (.nil)⟩
/-- 81 -/
def d_sure_order : Def := ⟨q "sure_order", 4, [q "collection", q "judgements", q "rankings", q "measure", q "found", q "spot", q "one", q "place", q "other"], .cons (.ex (.call 21 (.cons (.var 0) (.cons (.var 1) (.nil))))) (.cons (.ex (.call 80 (.cons (.var 0) (.cons (.var 2) (.nil))))) (.cons (.ex (.call 46 (.cons (.var 3) (.nil)))) (.cons (.asg (.nm 4) (.box (.lst (.nil)))) (.cons (.for_ (.tp [5, 6]) (.en (.var 2)) (.cons (.for_ (.tp [7, 8]) (.en (.var 2)) (.cons (.ite (.and (.cons (.cmp .ne (.var 5) (.var 7)) (.cons (.cmp .is (.call 73 (.cons (.var 0) (.cons (.var 1) (.cons (.var 6) (.cons (.var 8) (.cons (.var 3) (.nil))))))) (.non)) (.nil)))) (.cons (.ex (.app (.var 4) (.tup (.cons (.var 5) (.cons (.var 7) (.nil)))))) (.nil)) (.nil)) (.nil))) (.nil))) (.cons (.frz 4) (.cons (.ret (.var 4)) (.nil)))))))⟩
/-- 105 -/
def d_swapped : Def := ⟨q "swapped", 3, [q "collection", q "ranking", q "rank"], .cons (.ex (.call 13 (.cons (.var 0) (.nil)))) (.cons (.ex (.call 45 (.cons (.var 0) (.cons (.var 1) (.nil))))) (.cons (.ite (.nt (.call 6 (.cons (.var 2) (.cons (.int 1) (.cons (.op .sub (.blt .len (.cons (.var 1) (.nil))) (.int 1)) (.nil)))))) (.cons (.rse 104) (.nil)) (.nil)) (.cons (.ret (.op .add (.op .add (.slT (.var 1) (.op .sub (.var 2) (.int 1))) (.tup (.cons (.ix (.var 1) (.var 2)) (.cons (.ix (.var 1) (.op .sub (.var 2) (.int 1))) (.nil))))) (.slF (.var 1) (.op .add (.var 2) (.int 1))))) (.nil))))⟩
/-- 127 -/
def d_times : Def := ⟨q "times", 2, [q "one", q "other"], .cons (.ret (.call 42 (.cons (.op .mul (.ix (.var 0) (.int 0)) (.ix (.var 1) (.int 0))) (.cons (.op .mul (.ix (.var 0) (.int 1)) (.ix (.var 1) (.int 1))) (.nil))))) (.nil)⟩
/-- 34 -/
def d_unjudged : Def := ⟨q "unjudged", 2, [q "collection", q "judgements"], .cons (.ex (.call 21 (.cons (.var 0) (.cons (.var 1) (.nil))))) (.cons (.ret (.call 23 (.cons (.var 0) (.cons (.var 1) (.nil))))) (.nil))⟩
/-- 50 -/
def d_value : Def := ⟨q "value", 4, [q "collection", q "judgements", q "ranking", q "measure"], .cons (.ex (.call 21 (.cons (.var 0) (.cons (.var 1) (.nil))))) (.cons (.ex (.call 45 (.cons (.var 0) (.cons (.var 2) (.nil))))) (.cons (.ex (.call 46 (.cons (.var 3) (.nil)))) (.cons (.ex (.call 47 (.cons (.var 1) (.nil)))) (.cons (.ret (.call 48 (.cons (.var 0) (.cons (.var 1) (.cons (.var 2) (.cons (.var 3) (.nil))))))) (.nil)))))⟩
/-- 48 -/
def d_value_of : Def := ⟨q "value_of", 4, [q "collection", q "completion", q "ranking", q "measure", q "hits", q "relevant", q "number", q "gain", q "most"], .cons (.par [4, 5] (.cons (.call 208 (.cons (.var 0) (.cons (.var 1) (.cons (.var 2) (.nil))))) (.cons (.blt .sum (.cons (.var 1) (.nil))) (.nil)))) (.cons (.ite (.cmp .eq (.ix (.var 3) (.int 0)) (.str (q "average"))) (.cons (.ret (.call 210 (.cons (.var 4) (.cons (.var 5) (.nil))))) (.nil)) (.nil)) (.cons (.ite (.cmp .eq (.ix (.var 3) (.int 0)) (.str (q "reciprocal"))) (.cons (.ret (.ite (.cmp .in_ (.int 1) (.var 4)) (.tup (.cons (.int 1) (.cons (.op .add (.idx (.var 4) (.int 1)) (.int 1)) (.nil)))) (.tup (.cons (.int 0) (.cons (.int 1) (.nil)))))) (.nil)) (.nil)) (.cons (.asg (.nm 6) (.ix (.var 3) (.int 1))) (.cons (.ite (.cmp .eq (.ix (.var 3) (.int 0)) (.str (q "precision"))) (.cons (.ret (.call 42 (.cons (.blt .sum (.cons (.new (.slT (.var 4) (.var 6))) (.nil))) (.cons (.var 6) (.nil))))) (.nil)) (.nil)) (.cons (.ite (.cmp .eq (.ix (.var 3) (.int 0)) (.str (q "recall"))) (.cons (.ret (.call 42 (.cons (.blt .sum (.cons (.new (.slT (.var 4) (.var 6))) (.nil))) (.cons (.var 5) (.nil))))) (.nil)) (.nil)) (.cons (.asg (.nm 7) (.call 209 (.cons (.new (.slT (.var 4) (.var 6))) (.nil)))) (.cons (.ite (.cmp .eq (.ix (.var 3) (.int 0)) (.str (q "gain"))) (.cons (.ret (.var 7)) (.nil)) (.nil)) (.cons (.asg (.nm 8) (.call 209 (.cons (.new (.rep (.new (.lst (.cons (.int 1) (.nil)))) (.blt .min2 (.cons (.var 6) (.cons (.var 5) (.nil)))))) (.nil)))) (.cons (.ret (.call 42 (.cons (.op .mul (.ix (.var 7) (.int 0)) (.ix (.var 8) (.int 1))) (.cons (.op .mul (.ix (.var 7) (.int 1)) (.ix (.var 8) (.int 0))) (.nil))))) (.nil))))))))))⟩
/-- 58 -/
def d_values_of : Def := ⟨q "values_of", 4, [q "collection", q "judgements", q "ranking", q "measure", q "one"], .cons (.ret (.new (.cmp (.tup (.cons (.var 4) (.cons (.call 48 (.cons (.var 0) (.cons (.var 4) (.cons (.var 2) (.cons (.var 3) (.nil)))))) (.nil)))) (.nm 4) [4] (.ex (.call 22 (.cons (.var 1) (.nil)))) (.bl true)))) (.nil)⟩
/-- 69 -/
def d_verdict : Def := ⟨q "verdict", 1, [q "signs"], .cons (.ite (.cmp .gt (.lnS (.var 0)) (.int 1)) (.cons (.ret (.str (q "open"))) (.nil)) (.nil)) (.cons (.ret (.ix (.new (.lst (.cons (.str (q "equal")) (.cons (.str (q "better")) (.cons (.str (q "worse")) (.nil)))))) (.ix (.var 0) (.int 0)))) (.nil))⟩
/-- 83 -/
def d_ways_to_judge : Def := ⟨q "ways_to_judge", 3, [q "collection", q "judgements", q "documents", q "rows", q "document", q "row", q "entry"], .cons (.asg (.nm 3) (.new (.lst (.cons (.var 1) (.nil))))) (.cons (.for_ (.nm 4) (.ex (.var 2)) (.cons (.asg (.nm 3) (.new (.cmp2 (.call 27 (.cons (.var 0) (.cons (.var 5) (.cons (.var 4) (.cons (.var 6) (.nil)))))) (.nm 5) (.nm 6) [5, 6] [6] (.ex (.var 3)) (.ex (.tup (.cons (.int 0) (.cons (.int 1) (.nil))))) (.bl true)))) (.nil))) (.cons (.ret (.var 3)) (.nil)))⟩
/-- 126 -/
def d_weighted : Def := ⟨q "weighted", 2, [q "judgements", q "chances", q "found", q "row", q "weight", q "entry", q "old", q "top", q "bottom"], .cons (.asg (.nm 2) (.box (.lst (.nil)))) (.cons (.for_ (.nm 3) (.ex (.call 22 (.cons (.var 0) (.nil)))) (.cons (.asg (.nm 4) (.tup (.cons (.int 1) (.cons (.int 1) (.nil))))) (.cons (.for_ (.tn [5, 6] [7, 8]) (.z3 (.var 3) (.var 0) (.var 1)) (.cons (.ite (.cmp .is (.var 6) (.non)) (.cons (.asg (.nm 4) (.call 127 (.cons (.var 4) (.cons (.ite (.cmp .eq (.var 5) (.int 1)) (.tup (.cons (.var 7) (.cons (.var 8) (.nil)))) (.tup (.cons (.op .sub (.var 8) (.var 7)) (.cons (.var 8) (.nil))))) (.nil))))) (.nil)) (.nil)) (.nil))) (.cons (.ex (.app (.var 2) (.tup (.cons (.var 3) (.cons (.var 4) (.nil)))))) (.nil))))) (.cons (.frz 2) (.cons (.ret (.var 2)) (.nil))))⟩
/-- 32 -/
def d_with_judgement : Def := ⟨q "with_judgement", 4, [q "collection", q "judgements", q "document", q "entry"], .cons (.ex (.call 21 (.cons (.var 0) (.cons (.var 1) (.nil))))) (.cons (.ex (.call 25 (.cons (.var 0) (.cons (.var 2) (.nil))))) (.cons (.ite (.and (.cons (.cmp .isNot (.var 3) (.non)) (.cons (.nt (.call 6 (.cons (.var 3) (.cons (.int 0) (.cons (.int 1) (.nil)))))) (.nil)))) (.cons (.rse 26) (.nil)) (.nil)) (.cons (.ret (.call 27 (.cons (.var 0) (.cons (.var 1) (.cons (.var 2) (.cons (.var 3) (.nil))))))) (.nil))))⟩
end Jr

set_option Elab.async false
set_option linter.all false
set_option maxRecDepth 100000
set_option maxHeartbeats 4000000
namespace Jr.k24
open PySem PySem.Spec PyProof.Rows L2
abbrev prog := PySem.Challenge.pw_judgedranks_k24_whole_judges
abbrev row := PySem.Challenge.rw_judgedranks_k24_whole_judges
def top (i : Nat) : Stmt := prog.main.body.getD i (.Pass ⟨0, 0, 0, 0⟩)
def d_law : Def := ⟨q "law", 1, [q "_law_script", q "_law_state", q "_law_k", q "_law_collection_here", q "_law_one", q "_law_other", q "_law_common", q "_law_found", q "_law_hidden", q "_law_ranking_here", q "_law_measure_here", q "_law_row", q "_law_document"], .cons (.asg (.nm 1) (.box (.lst (.nil)))) (.cons (.for_ (.nm 2) (.r1 (.int 7)) (.cons (.asg (.nm 3) (.call 17 (.cons (.var 0) (.cons (.var 1) (.cons (.int 6) (.nil)))))) (.cons (.par [4, 5] (.cons (.call 36 (.cons (.var 0) (.cons (.var 1) (.cons (.var 3) (.nil))))) (.cons (.call 36 (.cons (.var 0) (.cons (.var 1) (.cons (.var 3) (.nil))))) (.nil)))) (.cons (.ite (.op .mod (.var 2) (.int 2)) (.cons (.asg (.nm 8) (.call 7 (.cons (.var 0) (.cons (.var 1) (.cons (.call 33 (.cons (.var 3) (.cons (.var 4) (.nil)))) (.nil)))))) (.cons (.asg (.nm 5) (.call 162 (.cons (.var 0) (.cons (.var 1) (.cons (.var 8) (.nil)))))) (.nil))) (.nil)) (.cons (.asg (.nm 6) (.new (.cmp (.var 11) (.nm 11) [11] (.ex (.call 33 (.cons (.var 3) (.cons (.var 4) (.nil))))) (.cmp .in_ (.var 11) (.call 33 (.cons (.var 3) (.cons (.var 5) (.nil)))))))) (.cons (.asg (.nm 7) (.call 156 (.cons (.var 3) (.cons (.var 4) (.cons (.var 5) (.nil)))))) (.cons (.ite (.or (.cons (.cmp .ne (.cmp .eq (.var 7) (.str (q "Conflict"))) (.cmp .eq (.var 6) (.new (.lst (.nil))))) (.cons (.cmp .ne (.call 156 (.cons (.var 3) (.cons (.var 5) (.cons (.var 4) (.nil))))) (.var 7)) (.nil)))) (.cons (.ret (.bl false)) (.nil)) (.nil)) (.cons (.ite (.cmp .ne (.call 152 (.cons (.var 3) (.cons (.var 4) (.cons (.var 5) (.nil))))) (.call 152 (.cons (.var 3) (.cons (.var 5) (.cons (.var 4) (.nil)))))) (.cons (.ret (.bl false)) (.nil)) (.nil)) (.cons (.ite (.cmp .ne (.call 160 (.cons (.var 3) (.cons (.var 4) (.cons (.var 5) (.nil))))) (.call 160 (.cons (.var 3) (.cons (.var 5) (.cons (.var 4) (.nil)))))) (.cons (.ret (.bl false)) (.nil)) (.nil)) (.cons (.ite (.cmp .ne (.cmp .eq (.var 7) (.str (q "Conflict"))) (.cmp .ne (.call 152 (.cons (.var 3) (.cons (.var 4) (.cons (.var 5) (.nil))))) (.new (.lst (.nil))))) (.cons (.ret (.bl false)) (.nil)) (.nil)) (.cons (.ite (.cmp .ne (.var 7) (.str (q "Conflict"))) (.cons (.par [9, 10] (.cons (.call 18 (.cons (.var 0) (.cons (.var 1) (.cons (.var 3) (.nil))))) (.cons (.call 1 (.cons (.var 0) (.cons (.var 1) (.nil)))) (.nil)))) (.cons (.ite (.or (.cons (.cmp .ne (.call 33 (.cons (.var 3) (.cons (.var 7) (.nil)))) (.var 6)) (.cons (.cmp .ne (.call 161 (.cons (.var 3) (.cons (.new (.lst (.cons (.var 4) (.cons (.var 5) (.nil))))) (.nil)))) (.var 7)) (.nil)))) (.cons (.ret (.bl false)) (.nil)) (.nil)) (.cons (.ite (.new (.cmp (.var 12) (.nm 12) [12] (.ex (.call 34 (.cons (.var 3) (.cons (.var 7) (.nil))))) (.cmp .notIn (.var 12) (.call 34 (.cons (.var 3) (.cons (.var 4) (.nil))))))) (.cons (.ret (.bl false)) (.nil)) (.nil)) (.cons (.ite (.call 56 (.cons (.call 62 (.cons (.var 3) (.cons (.var 7) (.cons (.var 9) (.cons (.var 10) (.nil)))))) (.cons (.call 62 (.cons (.var 3) (.cons (.var 4) (.cons (.var 9) (.cons (.var 10) (.nil)))))) (.nil)))) (.cons (.ret (.bl false)) (.nil)) (.nil)) (.cons (.ite (.call 56 (.cons (.call 63 (.cons (.var 3) (.cons (.var 5) (.cons (.var 9) (.cons (.var 10) (.nil)))))) (.cons (.call 63 (.cons (.var 3) (.cons (.var 7) (.cons (.var 9) (.cons (.var 10) (.nil)))))) (.nil)))) (.cons (.ret (.bl false)) (.nil)) (.nil)) (.nil)))))) (.nil)) (.nil)))))))))))) (.cons (.ret (.bl true)) (.nil)))⟩
def d__law_masked : Def := ⟨q "_law_masked", 3, [q "_law_script", q "_law_state", q "_law_completion", q "_law_entry"], .cons (.ret (.toT (.new (.cmp (.call 7 (.cons (.var 0) (.cons (.var 1) (.cons (.new (.lst (.cons (.non) (.cons (.var 3) (.nil))))) (.nil))))) (.nm 3) [3] (.ex (.var 2)) (.bl true))))) (.nil)⟩
def tb : Tb := ⟨[(5, d_law, top 57), (34, d_unjudged, top 21), (21, d_require_judgements, top 17), (13, d_require_collection, top 13), (11, d_is_collection, top 12), (10, d_is_document, top 11), (9, d_is_ascending, top 10), (19, d_are_valid_judgements, top 16), (6, d_is_integer, top 9), (23, d_open_documents, top 20), (161, d_majority, top 38), (62, d_least, top 44), (59, d_lowest, top 41), (57, d_is_below, top 27), (60, d_checked_values, top 43), (58, d_values_of, top 40), (48, d_value_of, top 31), (42, d_lowest_terms, top 25), (208, d_hits_of, top 28), (209, d_gain_of, top 29), (43, d_added, top 26), (210, d_average_of, top 30), (22, d_all_completions, top 18), (45, d_require_ranking, top 15), (14, d_is_valid_ranking, top 14), (46, d_require_measure, top 24), (3, d_is_measure, top 23), (63, d_greatest, top 45), (61, d_highest, top 42), (152, d_differences, top 35), (150, d_require_pair, top 33), (151, d_both_judged, top 34), (33, d_completions, top 19), (160, d_agreement, top 37), (18, d__law_ranking, top 51), (15, d__law_shuffled, top 49), (8, d__law_draw, top 47), (7, d__law_pick, top 48), (1, d__law_measure, top 53), (162, d__law_masked, top 55), (156, d__law_joined_or, top 56), (159, d_joined, top 36), (36, d__law_entries, top 52), (17, d__law_collection, top 50), (56, d__law_below, top 54)], [(153, q "Conflict"), (12, q "InvalidCollection"), (20, q "InvalidJudgements"), (154, q "InvalidJudges"), (41, q "InvalidMeasure"), (40, q "InvalidRanking")]⟩
theorem good : tb.good = true := by decide +kernel
structure Tbl (Φ : Nat → Option Def) : Prop where
  f5 : Φ 5 = some d_law
  f34 : Φ 34 = some d_unjudged
  f21 : Φ 21 = some d_require_judgements
  f13 : Φ 13 = some d_require_collection
  f11 : Φ 11 = some d_is_collection
  f10 : Φ 10 = some d_is_document
  f9 : Φ 9 = some d_is_ascending
  f19 : Φ 19 = some d_are_valid_judgements
  f6 : Φ 6 = some d_is_integer
  f23 : Φ 23 = some d_open_documents
  f161 : Φ 161 = some d_majority
  f62 : Φ 62 = some d_least
  f59 : Φ 59 = some d_lowest
  f57 : Φ 57 = some d_is_below
  f60 : Φ 60 = some d_checked_values
  f58 : Φ 58 = some d_values_of
  f48 : Φ 48 = some d_value_of
  f42 : Φ 42 = some d_lowest_terms
  f208 : Φ 208 = some d_hits_of
  f209 : Φ 209 = some d_gain_of
  f43 : Φ 43 = some d_added
  f210 : Φ 210 = some d_average_of
  f22 : Φ 22 = some d_all_completions
  f45 : Φ 45 = some d_require_ranking
  f14 : Φ 14 = some d_is_valid_ranking
  f46 : Φ 46 = some d_require_measure
  f3 : Φ 3 = some d_is_measure
  f63 : Φ 63 = some d_greatest
  f61 : Φ 61 = some d_highest
  f152 : Φ 152 = some d_differences
  f150 : Φ 150 = some d_require_pair
  f151 : Φ 151 = some d_both_judged
  f33 : Φ 33 = some d_completions
  f160 : Φ 160 = some d_agreement
  f18 : Φ 18 = some d__law_ranking
  f15 : Φ 15 = some d__law_shuffled
  f8 : Φ 8 = some d__law_draw
  f7 : Φ 7 = some d__law_pick
  f1 : Φ 1 = some d__law_measure
  f162 : Φ 162 = some d__law_masked
  f156 : Φ 156 = some d__law_joined_or
  f159 : Φ 159 = some d_joined
  f36 : Φ 36 = some d__law_entries
  f17 : Φ 17 = some d__law_collection
  f56 : Φ 56 = some d__law_below
theorem tbl : Tbl tb.tab.fn := ⟨rfl, rfl, rfl, rfl, rfl, rfl, rfl, rfl, rfl, rfl, rfl, rfl, rfl, rfl, rfl, rfl, rfl, rfl, rfl, rfl, rfl, rfl, rfl, rfl, rfl, rfl, rfl, rfl, rfl, rfl, rfl, rfl, rfl, rfl, rfl, rfl, rfl, rfl, rfl, rfl, rfl, rfl, rfl, rfl, rfl⟩
/-! ### the head -/
abbrev R : PySem.W.OpenRow := PySem.W.OpenLaw.row row
abbrev hk : PySem.W.Hook := He.hookD 4 tb.fa tb.fn
def ob (s : PySem.W.SharedT) : He.AlD := He.obsDG 4 tb.fa tb.fn (HandSHeadRun.getT s)
theorem ob_eq (s : PySem.W.SharedT) : ob s = hk.obs s.abs := He.obsDG_eq (HandSHeadRun.getT_eq s)
abbrev loose : List Str := [q "RankingError", q "InvalidCollection", q "InvalidJudgements", q "InvalidRanking", q "InvalidMeasure", q "InvalidJudges", q "Conflict", q "is_integer", q "is_ascending", q "is_document", q "is_collection", q "require_collection", q "is_valid_ranking", q "require_ranking", q "are_valid_judgements", q "require_judgements", q "all_completions", q "completions", q "open_documents", q "unjudged", q "is_measure", q "require_measure", q "lowest_terms", q "added", q "is_below", q "hits_of", q "gain_of", q "average_of", q "value_of", q "require_pair", q "both_judged", q "differences", q "joined", q "agreement", q "majority", q "values_of", q "lowest", q "highest", q "checked_values", q "least", q "greatest", q "_law_draw", q "_law_pick", q "_law_shuffled", q "_law_collection", q "_law_ranking", q "_law_entries", q "_law_measure", q "_law_below", q "_law_masked", q "_law_joined_or"]
open PySem.W in
theorem run (w : World) : HandSHeadRun.RunEq R (PySem.W.view R.prog [57]) hk ob 4000 loose w := by
  intro os
  kernel_rfl
theorem holds_of {k n : Nat} (hr : Room (k + 1) callerA) (main : ∀ ns : List Int, ns.length ≤ 63 → ∃ h', callF tb.tab.fn n (k + 1) 5 [.r 0] [.ro (ns.map D.int)] = some (.ok (.d (.bool true)), h')) : row.Holds := by
  w_on; o_law
  refine HandSHeadRun.head_any (r := R) (q := PySem.W.view R.prog [57]) (H := hk) (ob := ob) (M := 4000) (loose := loose) (d := HandSHeadRun.topDef R.prog 57) (kwd := []) ob_eq
    (by kernel_rfl) (fun s => by kernel_rfl) run (by kernel_rfl) (by kernel_rfl) (by kernel_rfl) (by rfl) (by first | assumption | decide +kernel) (by decide +kernel) ⟨rfl, rfl, rfl, rfl, rfl, by decide +kernel⟩ ?hw ?hc
  case hw => w_witness2
  case hc => exact law_end (t := tb) (lawId := 5) (n := n) (k := k) (x := q "_law_script") rfl (by kernel_rfl) hr good rfl (by kernel_rfl) rfl main
end Jr.k24

set_option Elab.async false
set_option linter.all false
set_option maxRecDepth 100000
set_option maxHeartbeats 2000000
namespace Jr
open PySem
/-! ### what a pure program does, from behind -/
variable {α β : Type}
def W (m : M α) (h : Hh) (Q : α → Hh → Prop) (E : Nat → Hh → Prop) : Prop := match m h with
  | some (.ok a, h') => Q a h'
  | some (.exc c, h') => E c h'
  | none => False
section
variable {h : Hh} {Q : α → Hh → Prop} {E : Nat → Hh → Prop}
theorem W.eq {m : M α} {a : α} {h' : Hh} (e : m h = some (.ok a, h')) : W m h Q E ↔ Q a h' := by unfold W; rw [e]
theorem W.eqE {m : M α} {c : Nat} {h' : Hh} (e : m h = some (.exc c, h')) : W m h Q E ↔ E c h' := by unfold W; rw [e]
theorem W.mono {m : M α} {Q' : α → Hh → Prop} {E' : Nat → Hh → Prop} (w : W m h Q E) (q : ∀ a h', Q a h' → Q' a h') (e : ∀ c h', E c h' → E' c h') : W m h Q' E' := by
  unfold W at *
  split at w
  · exact q _ _ w
  · exact e _ _ w
  · exact w
theorem W.imp {m : M α} {Q' : α → Hh → Prop} (w : W m h Q E) (q : ∀ a h', Q a h' → Q' a h') : W m h Q' E := w.mono q fun _ _ h => h
theorem W.of {m : M α} (w : W m h Q fun _ _ => False) : ∃ a h', m h = some (.ok a, h') ∧ Q a h' := by
  unfold W at w
  split at w
  · exact ⟨_, _, by assumption, w⟩
  · exact w.elim
  · exact w.elim
@[simp] theorem W_bind {m : M β} {f : β → M α} : W (M.bind m f) h Q E ↔ W m h (fun a h1 => W (f a) h1 Q E) E := by
  unfold W M.bind
  cases m h with
  | none => exact Iff.rfl
  | some p =>
    obtain ⟨r, h1⟩ := p
    cases r <;> exact Iff.rfl
@[simp] theorem W_pure {a : α} : W (M.pure a) h Q E ↔ Q a h := Iff.rfl
@[simp] theorem W_fail : W (fail : M α) h Q E ↔ False := Iff.rfl
@[simp] theorem W_raise {c : Nat} : W (raise c : M α) h Q E ↔ E c h := Iff.rfl
@[simp] theorem W_ofO_some {a : α} : W (ofO (some a)) h Q E ↔ Q a h := Iff.rfl
@[simp] theorem W_ofO_none : W (ofO (none : Option α)) h Q E ↔ False := Iff.rfl
theorem W_ofO {o : Option α} : W (ofO o) h Q E ↔ ∃ a, o = some a ∧ Q a h := by
  cases o with
  | none => simp
  | some a => simp
@[simp] theorem W_ite {c : Prop} [Decidable c] {m n : M α} : W (if c then m else n) h Q E ↔ if c then W m h Q E else W n h Q E := by
  by_cases q : c <;> simp [q]
end
section
variable {h : Hh} {E : Nat → Hh → Prop}
@[simp] theorem W_rd_d {x : D} {Q : D → Hh → Prop} : W (rd (.d x)) h Q E ↔ Q x h := Iff.rfl
theorem W_rd_r {n : Nat} {x : D} {Q : D → Hh → Prop} (e : h[n]?.bind rdC = some x) : W (rd (.r n)) h Q E ↔ Q x h := W.eq (by show (h[n]?.bind rdC).map _ = _; rw [e]; rfl)
@[simp] theorem W_asD {x : D} {Q : D → Hh → Prop} : W (asD (.d x)) h Q E ↔ Q x h := Iff.rfl
@[simp] theorem W_pD {x : D} {Q : Vl → Hh → Prop} : W (pD x) h Q E ↔ Q (.d x) h := Iff.rfl
@[simp] theorem W_pO {x : D} {Q : Vl → Hh → Prop} : W (pO (some x)) h Q E ↔ Q (.d x) h := Iff.rfl
theorem W_varM {i : Nat} {en : Env} {v : Vl} {Q : Vl → Hh → Prop} (e : en[i]? = some (some v)) : W (varM i en) h Q E ↔ Q v h := W.eq (by unfold varM; rw [e]; rfl)
@[simp] theorem W_varM' {i : Nat} {en : Env} {Q : Vl → Hh → Prop} : W (varM i en) h Q E ↔ match en[i]? with
  | some (some v) => Q v h
  | _ => False := by
  unfold varM
  generalize en[i]? = o
  rcases o with _ | _ | v
  · exact W_fail
  · exact W_fail
  · exact W_pure
@[simp] theorem W_strM {x : Str} {Q : Vl → Hh → Prop} : W (strM x) h Q E ↔ okS x = true ∧ Q (.d (.str x)) h := by
  unfold strM
  by_cases q : okS x = true <;> simp [q]
@[simp] theorem W_rdL_d {xs : List D} {Q : List D → Hh → Prop} : W (rdL (.d (.list xs))) h Q E ↔ Q xs h := Iff.rfl
theorem W_rdL_r {n : Nat} {xs : List D} {Q : List D → Hh → Prop} (e : h[n]? = some (.lst xs)) : W (rdL (.r n)) h Q E ↔ Q xs h := W.eq (by unfold rdL; dsimp only; rw [e])
@[simp] theorem W_dd {m : M Vl} {Q : D → Hh → Prop} : W (dd m) h Q E ↔ W m h (fun v h1 => W (rd v) h1 Q E) E := W_bind
@[simp] theorem W_tt {m : M Vl} {Q : Bool → Hh → Prop} : W (tt m) h Q E ↔ W m h (fun v h1 => W (rd v) h1 (fun d h2 => W (ofO (truth d)) h2 Q E) E) E := by
  unfold tt
  rw [W_bind]
  simp only [W_bind]
@[simp] theorem W_rd2 {m n : M Vl} {f : D → D → M β} {Q : β → Hh → Prop} : W (rd2 m n f) h Q E ↔ W m h (fun v h1 => W n h1 (fun w h2 => W (rd v) h2 (fun a h3 => W (rd w) h3 (fun b h4 => W (f a b) h4 Q E) E) E) E) E := by
  unfold rd2
  simp only [W_bind]
@[simp] theorem W_rds_nil {Q : List D → Hh → Prop} : W (rds []) h Q E ↔ Q [] h := Iff.rfl
@[simp] theorem W_rds_cons {v : Vl} {vs : List Vl} {Q : List D → Hh → Prop} : W (rds (v :: vs)) h Q E ↔ W (rd v) h (fun x h1 => W (rds vs) h1 (fun xs h2 => Q (x :: xs) h2) E) E := by
  show W (M.bind (rd v) fun x => M.bind (rds vs) fun xs => M.pure (x :: xs)) h Q E ↔ _
  simp only [W_bind, W_pure]
@[simp] theorem W_asDs_nil {Q : List D → Hh → Prop} : W (asDs []) h Q E ↔ Q [] h := Iff.rfl
@[simp] theorem W_asDs_cons {v : Vl} {vs : List Vl} {Q : List D → Hh → Prop} : W (asDs (v :: vs)) h Q E ↔ W (asD v) h (fun x h1 => W (asDs vs) h1 (fun xs h2 => Q (x :: xs) h2) E) E := by
  show W (M.bind (asD v) fun x => M.bind (asDs vs) fun xs => M.pure (x :: xs)) h Q E ↔ _
  simp only [W_bind, W_pure]
@[simp] theorem W_prt {m : M Vl} {Q : Int → Hh → Prop} : W (prt m) h Q E ↔ W m h (fun v h1 => W (asD v) h1 (fun d h2 => W (ofO (asI d)) h2 Q E) E) E := by
  unfold prt
  simp only [W_bind]
@[simp] theorem W_newC {c : Cell} {Q : Vl → Hh → Prop} : W (newC c) h Q E ↔ Q (.r h.length) (h ++ [c]) := Iff.rfl
/-- a def's end -/
def endQ (n : Nat) (Q : Vl → Hh → Prop) : SO → Hh → Prop
  | .ret (.d v), h1 => Q (.d v) (h1.take n)
  | .ret (.k t v), h1 => Q (.k t v) (h1.take n)
  | .ret (.r i), h1 => i < n ∧ Q (.r i) (h1.take n)
  | .next _, h1 => Q (.d .none) (h1.take n)
theorem W_shut {n : Nat} {m : M SO} {Q : Vl → Hh → Prop} : W (shut n m) h Q E ↔ W m h (endQ n Q) fun c h1 => E c (h1.take n) := by
  unfold W shut
  cases m h with
  | none => exact Iff.rfl
  | some p =>
    obtain ⟨r, h1⟩ := p
    cases r with
    | exc c => exact Iff.rfl
    | ok so =>
      cases so with
      | next en => exact Iff.rfl
      | ret v =>
        cases v with
        | d x => exact Iff.rfl
        | k t x => exact Iff.rfl
        | r i =>
          dsimp only [endQ]
          by_cases q : i < n <;> simp [q]
@[simp] theorem endQ_d {n : Nat} {Q : Vl → Hh → Prop} {v : D} {h1 : Hh} : endQ n Q (.ret (.d v)) h1 ↔ Q (.d v) (h1.take n) := Iff.rfl
@[simp] theorem endQ_k {n : Nat} {Q : Vl → Hh → Prop} {t : Bool} {v : List (D × D)} {h1 : Hh} : endQ n Q (.ret (.k t v)) h1 ↔ Q (.k t v) (h1.take n) := Iff.rfl
@[simp] theorem endQ_next {n : Nat} {Q : Vl → Hh → Prop} {en : Env} {h1 : Hh} : endQ n Q (.next en) h1 ↔ Q (.d .none) (h1.take n) := Iff.rfl
/-- a call -/
theorem W_call {Φ : Nat → Option Def} {N k f : Nat} {d : Def} {vs : List Vl} {Q : Vl → Hh → Prop} (e : Φ f = some d) (l : vs.length = d.np) :
    W (callF Φ N (k + 1) f vs) h Q E ↔ W (evB (callF Φ N k) N d.body (vs.map some ++ List.replicate (d.N.length - d.np) none)) h (endQ h.length Q) fun c h1 => E c (h1.take h.length) := by
  have e2 : callF Φ N (k + 1) f vs = fun (h : Hh) => shut h.length (evB (callF Φ N k) N d.body (vs.map some ++ List.replicate (d.N.length - d.np) none)) h := by
    show (match Φ f with
      | some d => if vs.length = d.np then fun (h : Hh) => shut h.length (evB (callF Φ N k) N d.body (vs.map some ++ List.replicate (d.N.length - d.np) none)) h else fail
      | none => fail) = _
    rw [e]
    dsimp only
    rw [if_pos l]
  rw [e2]
  exact W_shut (h := h)
/-- the step behind a statement -/
def seqQ (cf : CF) (N : Nat) (b : B) (Q : SO → Hh → Prop) (E : Nat → Hh → Prop) : SO → Hh → Prop
  | .next en, h => W (evB cf N b en) h Q E
  | .ret v, h => Q (.ret v) h
@[simp] theorem W_B_nil {cf : CF} {N : Nat} {en : Env} {Q : SO → Hh → Prop} : W (evB cf N .nil en) h Q E ↔ Q (.next en) h := Iff.rfl
@[simp] theorem W_B_cons {cf : CF} {N : Nat} {s : S} {b : B} {en : Env} {Q : SO → Hh → Prop} : W (evB cf N (.cons s b) en) h Q E ↔ W (evS cf N s en) h (seqQ cf N b Q E) E := by
  show W (M.bind (evS cf N s en) fun
    | .next en' => evB cf N b en'
    | .ret v => M.pure (.ret v)) h Q E ↔ _
  rw [W_bind]
  constructor <;> (intro w; refine w.imp fun so h1 q => ?_; cases so <;> exact q)
@[simp] theorem seqQ_next {cf : CF} {N : Nat} {b : B} {en : Env} {Q : SO → Hh → Prop} : seqQ cf N b Q E (.next en) h ↔ W (evB cf N b en) h Q E := Iff.rfl
@[simp] theorem seqQ_ret {cf : CF} {N : Nat} {b : B} {v : Vl} {Q : SO → Hh → Prop} : seqQ cf N b Q E (.ret v) h ↔ Q (.ret v) h := Iff.rfl
end
/-! ### iterating -/
def depOk : Option (Nat × Cell) → Hh → Prop
  | none, _ => True
  | some (n, c), h => h[n]? = some c
@[simp] theorem depOk_none {h : Hh} : depOk none h := trivial
section
variable {h : Hh} {E : Nat → Hh → Prop}
theorem same_of {dep : Option (Nat × Cell)} (d : depOk dep h) : same dep h = some (.ok (), h) := by
  cases dep with
  | none => rfl
  | some p =>
    obtain ⟨n, c⟩ := p
    unfold same
    exact if_pos d
theorem W_same {dep : Option (Nat × Cell)} {Q : Unit → Hh → Prop} (d : depOk dep h) : W (same dep) h Q E ↔ Q () h := W.eq (same_of d)
@[simp] theorem W_depOf_d {x : D} {Q : Option (Nat × Cell) → Hh → Prop} : W (depOf (.d x)) h Q E ↔ Q none h := Iff.rfl
theorem W_depOf_r {n : Nat} {c : Cell} {Q : Option (Nat × Cell) → Hh → Prop} (e : h[n]? = some c) : W (depOf (.r n)) h Q E ↔ Q (some (n, c)) h := W.eq (by unfold depOf; dsimp only; rw [e]; rfl)
/-- from a reading to an equation -/
theorem W.toEq {α : Type} {m : M α} {a : α} {h' : Hh} (w : W m h (fun b h1 => b = a ∧ h1 = h') fun _ _ => False) : m h = some (.ok a, h') := by
  obtain ⟨b, h1, e, rfl, rfl⟩ := w.of
  exact e
/-- a comprehension that leaves the heap alone -/
theorem comp_eq {dep : Option (Nat × Cell)} {f : D → M (Option D)} {g : D → Option D} (d : depOk dep h) : ∀ {xs : List D}, (∀ x ∈ xs, f x h = some (.ok (g x), h)) → compL dep f xs h = some (.ok (xs.filterMap g), h)
  | [], _ => by
    show M.bind (same dep) (fun _ => M.pure []) h = _
    unfold M.bind
    rw [same_of d]
    rfl
  | x :: xs, hf => by
    show M.bind (same dep) (fun _ => M.bind (noExc (f x)) fun y => M.bind (compL dep f xs) fun ys => M.pure (match y with
      | some y => y :: ys
      | none => ys)) h = _
    unfold M.bind
    rw [same_of d]
    dsimp only
    unfold noExc
    rw [hf x List.mem_cons_self]
    dsimp only
    rw [comp_eq d fun y hy => hf y (List.mem_cons_of_mem _ hy)]
    dsimp only [M.pure]
    cases e : g x with
    | none => rw [List.filterMap_cons_none e]
    | some y => rw [List.filterMap_cons_some e]
theorem W_comp {dep : Option (Nat × Cell)} {f : D → M (Option D)} {g : D → Option D} {xs : List D} {Q : List D → Hh → Prop} (d : depOk dep h) (hf : ∀ x ∈ xs, W (f x) h (fun b h1 => b = g x ∧ h1 = h) fun _ _ => False) : W (compL dep f xs) h Q E ↔ Q (xs.filterMap g) h :=
  W.eq (comp_eq d fun x hx => (hf x hx).toEq)
/-- a comprehension with an invariant: what was made, what is left -/
theorem W_compI {dep : Option (Nat × Cell)} {f : D → M (Option D)} (I : List D → List D → Hh → Prop) : ∀ {xs : List D} {h : Hh} (acc : List D), I acc xs h →
    (∀ acc x xs h, I acc (x :: xs) h → depOk dep h ∧ W (f x) h (fun y h1 => I (acc ++ y.toList) xs h1) fun _ _ => False) → (∀ acc h, I acc [] h → depOk dep h) → W (compL dep f xs) h (fun ys h1 => I (acc ++ ys) [] h1) E
  | [], h, acc, i, hs, he => by
    show W (M.bind (same dep) (fun _ => M.pure [])) h _ E
    rw [W_bind, W_same (he _ _ i), W_pure, List.append_nil]
    exact i
  | x :: xs, h, acc, i, hs, he => by
    obtain ⟨d, w⟩ := hs _ _ _ _ i
    obtain ⟨y, h1, e, i1⟩ := w.of
    show W (M.bind (same dep) (fun _ => M.bind (noExc (f x)) fun y => M.bind (compL dep f xs) fun ys => M.pure (match y with
      | some y => y :: ys
      | none => ys))) h _ E
    rw [W_bind, W_same d, W_bind, W.eq (m := noExc (f x)) (a := y) (h' := h1) (by unfold noExc; rw [e]), W_bind]
    refine (W_compI I (acc ++ y.toList) i1 hs he).imp fun ys h2 i2 => ?_
    rw [W_pure]
    cases y with
    | none => simpa using i2
    | some y => simpa using i2
theorem W_forL {dep : Option (Nat × Cell)} {f : D → Env → M SO} {Q : SO → Hh → Prop} (I : List D → Env → Hh → Prop) : ∀ {xs : List D} {en : Env} {h : Hh}, I xs en h →
    (∀ x xs en h, I (x :: xs) en h → depOk dep h ∧ W (f x en) h (fun so h1 => match so with
      | .next en1 => I xs en1 h1
      | .ret v => Q (.ret v) h1) E) → (∀ en h, I [] en h → depOk dep h ∧ Q (.next en) h) → W (forL dep f xs en) h Q E
  | [], en, h, i, _, he => by
    obtain ⟨d, q⟩ := he _ _ i
    show W (M.bind (same dep) (fun _ => M.pure (SO.next en))) h _ E
    rw [W_bind, W_same d, W_pure]
    exact q
  | x :: xs, en, h, i, hs, he => by
    obtain ⟨d, w⟩ := hs _ _ _ _ i
    show W (M.bind (same dep) (fun _ => M.bind (f x en) fun
      | .next en' => forL dep f xs en'
      | .ret v => M.pure (.ret v))) h _ E
    rw [W_bind, W_same d, W_bind]
    refine w.imp fun so h1 q => ?_
    cases so with
    | next en1 => exact W_forL I q hs he
    | ret v => exact q
theorem W_whl {c : Env → M Bool} {f : Env → M SO} {Q : SO → Hh → Prop} (I : Nat → Env → Hh → Prop) (hs : ∀ m en h, I m en h → W (c en) h (fun b h1 => if b = true then W (f en) h1 (fun so h2 => match so with
      | .next en1 => ∃ m1, m1 < m ∧ I m1 en1 h2
      | .ret v => Q (.ret v) h2) E else Q (.next en) h1) E) : ∀ {n m : Nat} {en : Env} {h : Hh}, I m en h → m < n → W (whlL c f n en) h Q E
  | 0, _, _, _, _, l => by omega
  | n + 1, m, en, h, i, l => by
    show W (M.bind (c en) fun b => if b then M.bind (f en) fun
      | .next en' => whlL c f n en'
      | .ret v => M.pure (.ret v)
      else M.pure (.next en)) h Q E
    rw [W_bind]
    refine (hs _ _ _ i).imp fun b h1 q => ?_
    cases b with
    | false => simpa using q
    | true =>
      rw [if_pos rfl] at q
      rw [if_pos rfl, W_bind]
      refine q.imp fun so h2 q2 => ?_
      cases so with
      | next en1 =>
        obtain ⟨m1, l1, i1⟩ := q2
        exact W_whl I hs i1 (by omega)
      | ret v => exact q2
end
/-! ### indices -/
theorem ixN_nat {n i : Nat} (h : i < n) : ixN n (i : Int) = some i := by
  unfold ixN L2.ixN
  rw [if_pos (by omega), if_pos (by omega)]
  rfl
theorem ixV_lst {xs : List D} {i : Nat} {y : D} (e : xs[i]? = some y) : ixV (.list xs) (.int (i : Int)) = some y := by
  have h : i < xs.length := by
    rcases Nat.lt_or_ge i xs.length with q | q
    · exact q
    · rw [List.getElem?_eq_none q] at e; cases e
  unfold ixV
  dsimp only
  rw [ixN_nat h]
  exact e
theorem ixV_tup {xs : List D} {i : Nat} {y : D} (e : xs[i]? = some y) : ixV (.tuple xs) (.int (i : Int)) = some y := ixV_lst (xs := xs) e
@[simp] theorem ixV_t0 {x : D} {xs : List D} : ixV (.tuple (x :: xs)) (.int 0) = some x := ixV_tup (i := 0) rfl
@[simp] theorem ixV_l0 {x : D} {xs : List D} : ixV (.list (x :: xs)) (.int 0) = some x := ixV_lst (i := 0) rfl
@[simp] theorem ixV_t1 {x y : D} {xs : List D} : ixV (.tuple (x :: y :: xs)) (.int 1) = some y := ixV_tup (i := 1) rfl
@[simp] theorem ixV_l1 {x y : D} {xs : List D} : ixV (.list (x :: y :: xs)) (.int 1) = some y := ixV_lst (i := 1) rfl
/-! ### equality, depth -/
@[simp] theorem eqv_none_none : eqv .none .none = true := by simp [eqv]
@[simp] theorem eqv_none_bool {b : Bool} : eqv .none (.bool b) = false := by simp [eqv]
@[simp] theorem eqv_none_int {b : Int} : eqv .none (.int b) = false := by simp [eqv]
@[simp] theorem eqv_none_str {b : Str} : eqv .none (.str b) = false := by simp [eqv]
@[simp] theorem eqv_none_list {b : List D} : eqv .none (.list b) = false := by simp [eqv]
@[simp] theorem eqv_none_tuple {b : List D} : eqv .none (.tuple b) = false := by simp [eqv]
@[simp] theorem eqv_bool_none {a : Bool} : eqv (.bool a) .none = false := by simp [eqv]
theorem beq_str (a b : Str) : (a == b) = decide (a = b) := by
  by_cases h : a = b
  · subst h; simp
  · rw [decide_eq_false h]; exact beq_eq_false_iff_ne.mpr h
theorem beq_dec {α : Type} [DecidableEq α] (a b : α) : (a == b) = decide (a = b) := rfl
@[simp] theorem eqv_bool_bool {a : Bool} {b : Bool} : eqv (.bool a) (.bool b) = decide (a = b) := by simp [eqv, Bool.beq_eq_decide_eq]
@[simp] theorem eqv_bool_int {a : Bool} {b : Int} : eqv (.bool a) (.int b) = ((if a then 1 else 0) == b) := by simp [eqv]
@[simp] theorem eqv_bool_str {a : Bool} {b : Str} : eqv (.bool a) (.str b) = false := by simp [eqv]
@[simp] theorem eqv_bool_list {a : Bool} {b : List D} : eqv (.bool a) (.list b) = false := by simp [eqv]
@[simp] theorem eqv_bool_tuple {a : Bool} {b : List D} : eqv (.bool a) (.tuple b) = false := by simp [eqv]
@[simp] theorem eqv_int_none {a : Int} : eqv (.int a) .none = false := by simp [eqv]
@[simp] theorem eqv_int_bool {a : Int} {b : Bool} : eqv (.int a) (.bool b) = (a == (if b then 1 else 0)) := by simp [eqv]
@[simp] theorem eqv_int_int {a : Int} {b : Int} : eqv (.int a) (.int b) = decide (a = b) := by simp [eqv]; exact beq_dec a b
@[simp] theorem eqv_int_str {a : Int} {b : Str} : eqv (.int a) (.str b) = false := by simp [eqv]
@[simp] theorem eqv_int_list {a : Int} {b : List D} : eqv (.int a) (.list b) = false := by simp [eqv]
@[simp] theorem eqv_int_tuple {a : Int} {b : List D} : eqv (.int a) (.tuple b) = false := by simp [eqv]
@[simp] theorem eqv_str_none {a : Str} : eqv (.str a) .none = false := by simp [eqv]
@[simp] theorem eqv_str_bool {a : Str} {b : Bool} : eqv (.str a) (.bool b) = false := by simp [eqv]
@[simp] theorem eqv_str_int {a : Str} {b : Int} : eqv (.str a) (.int b) = false := by simp [eqv]
@[simp] theorem eqv_str_str {a : Str} {b : Str} : eqv (.str a) (.str b) = decide (a = b) := by simp [eqv, beq_str]
@[simp] theorem eqv_str_list {a : Str} {b : List D} : eqv (.str a) (.list b) = false := by simp [eqv]
@[simp] theorem eqv_str_tuple {a : Str} {b : List D} : eqv (.str a) (.tuple b) = false := by simp [eqv]
@[simp] theorem eqv_list_none {a : List D} : eqv (.list a) .none = false := by simp [eqv]
@[simp] theorem eqv_list_bool {a : List D} {b : Bool} : eqv (.list a) (.bool b) = false := by simp [eqv]
@[simp] theorem eqv_list_int {a : List D} {b : Int} : eqv (.list a) (.int b) = false := by simp [eqv]
@[simp] theorem eqv_list_str {a : List D} {b : Str} : eqv (.list a) (.str b) = false := by simp [eqv]
@[simp] theorem eqv_list_list {a : List D} {b : List D} : eqv (.list a) (.list b) = eqvs a b := by simp [eqv]
@[simp] theorem eqv_list_tuple {a : List D} {b : List D} : eqv (.list a) (.tuple b) = false := by simp [eqv]
@[simp] theorem eqv_tuple_none {a : List D} : eqv (.tuple a) .none = false := by simp [eqv]
@[simp] theorem eqv_tuple_bool {a : List D} {b : Bool} : eqv (.tuple a) (.bool b) = false := by simp [eqv]
@[simp] theorem eqv_tuple_int {a : List D} {b : Int} : eqv (.tuple a) (.int b) = false := by simp [eqv]
@[simp] theorem eqv_tuple_str {a : List D} {b : Str} : eqv (.tuple a) (.str b) = false := by simp [eqv]
@[simp] theorem eqv_tuple_list {a : List D} {b : List D} : eqv (.tuple a) (.list b) = false := by simp [eqv]
@[simp] theorem eqv_tuple_tuple {a : List D} {b : List D} : eqv (.tuple a) (.tuple b) = eqvs a b := by simp [eqv]
@[simp] theorem eqvs_nil : eqvs [] [] = true := by simp [eqvs]
@[simp] theorem eqvs_nc {x : D} {xs : List D} : eqvs [] (x :: xs) = false := by simp [eqvs]
@[simp] theorem eqvs_cn {x : D} {xs : List D} : eqvs (x :: xs) [] = false := by simp [eqvs]
@[simp] theorem eqvs_cc {x y : D} {xs ys : List D} : eqvs (x :: xs) (y :: ys) = (eqv x y && eqvs xs ys) := by simp [eqvs]
@[simp] theorem dep_none : dep .none = 0 := by simp [dep]
@[simp] theorem dep_bool {a : Bool} : dep (.bool a) = 0 := by simp [dep]
@[simp] theorem dep_int {a : Int} : dep (.int a) = 0 := by simp [dep]
@[simp] theorem dep_str {a : Str} : dep (.str a) = 0 := by simp [dep]
@[simp] theorem dep_list {a : List D} : dep (.list a) = deps a + 1 := by simp [dep]
@[simp] theorem dep_tuple {a : List D} : dep (.tuple a) = deps a + 1 := by simp [dep]
@[simp] theorem deps_nil : deps [] = 0 := by simp [deps]
@[simp] theorem deps_cons {x : D} {xs : List D} : deps (x :: xs) = max (dep x) (deps xs) := by simp [deps]
/-! ### the readings, one by one -/
section
variable (cf : CF) (N : Nat) (en : Env)
/-- a comprehension's turns, by its code -/
noncomputable def compE (e : E) (t : Tg) (own : List Nat) (c : E) (en : Env) (dep : Option (Nat × Cell)) (xs : List D) : M (List D) := compL dep (turnM t own en (fun en => tt (evE cf c en)) fun en => evE cf e en) xs
noncomputable def forE (t : Tg) (b : B) (dep : Option (Nat × Cell)) (xs : List D) (en : Env) : M SO := forL dep (fun x en => M.bind (ofO (asgT t (.d x) en)) fun en1 => evB cf N b en1) xs en
noncomputable def whlE (c : E) (b : B) (en : Env) : M SO := whlL (fun en => tt (evE cf c en)) (fun en => evB cf N b en) N en
@[simp] theorem evE_var {i} : evE cf (.var i) en = varM i en := rfl
@[simp] theorem evE_non : evE cf .non en = pD .none := rfl
@[simp] theorem evE_bl {b} : evE cf (.bl b) en = pD (.bool b) := rfl
@[simp] theorem evE_int {i} : evE cf (.int i) en = pD (.int i) := rfl
@[simp] theorem evE_str {x} : evE cf (.str x) en = strM x := rfl
@[simp] theorem evE_tup {es} : evE cf (.tup es) en = M.bind (evEs cf es en) fun vs => M.bind (asDs vs) fun xs => if xs.length ≤ sizeLine then pD (.tuple xs) else fail := rfl
@[simp] theorem evE_op {o a b} : evE cf (.op o a b) en = rd2 (evE cf a en) (evE cf b en) fun x y => pO (binV o x y) := rfl
@[simp] theorem evE_neg {a} : evE cf (.neg a) en = M.bind (dd (evE cf a en)) fun x => pO (negV x) := rfl
@[simp] theorem evE_nt {a} : evE cf (.nt a) en = M.bind (tt (evE cf a en)) fun b => pD (.bool !b) := rfl
@[simp] theorem evE_and {es} : evE cf (.and es) en = evAnd cf es en := rfl
@[simp] theorem evE_or {es} : evE cf (.or es) en = evOr cf es en := rfl
@[simp] theorem evE_cmp {o a b} : evE cf (.cmp o a b) en = rd2 (evE cf a en) (evE cf b en) fun x y => pO ((cmpV o x y).map .bool) := rfl
@[simp] theorem evE_chn {o o2 a b c} : evE cf (.chn o o2 a b c) en = M.bind (evE cf a en) fun va => M.bind (evE cf b en) fun vb => M.bind (asD va) fun x => M.bind (asD vb) fun y => M.bind (ofO (cmpV o x y)) fun k =>
      if k then M.bind (evE cf c en) fun vc => M.bind (asD vc) fun z => pO ((cmpV o2 y z).map .bool) else pD (.bool false) := rfl
@[simp] theorem evE_ite {c a b} : evE cf (.ite c a b) en = M.bind (tt (evE cf c en)) fun k => if k then evE cf a en else evE cf b en := rfl
@[simp] theorem evE_ix {a b} : evE cf (.ix a b) en = rd2 (evE cf a en) (evE cf b en) fun x y => pO (ixV x y) := rfl
@[simp] theorem evE_slT {a hi} : evE cf (.slT a hi) en = M.bind (evE cf a en) fun v => M.bind (prt (evE cf hi en)) fun u => M.bind (rd v) fun x => pO (sliceV x none (some u)) := rfl
@[simp] theorem evE_slF {a lo} : evE cf (.slF a lo) en = M.bind (evE cf a en) fun v => M.bind (prt (evE cf lo en)) fun l => M.bind (rd v) fun x => pO (sliceV x (some l) none) := rfl
@[simp] theorem evE_slA {a lo hi} : evE cf (.slA a lo hi) en = M.bind (evE cf a en) fun v => M.bind (prt (evE cf lo en)) fun l => M.bind (prt (evE cf hi en)) fun u => M.bind (rd v) fun x => pO (sliceV x (some l) (some u)) := rfl
@[simp] theorem evE_rev {a} : evE cf (.rev a) en = M.bind (dd (evE cf a en)) fun x => pO ((asT x).map fun xs => .tuple xs.reverse) := rfl
@[simp] theorem evE_call {f es} : evE cf (.call f es) en = M.bind (evEs cf es en) fun vs => cf f vs := rfl
@[simp] theorem evE_blt {f es} : evE cf (.blt f es) en = M.bind (evEs cf es en) fun vs => M.bind (rds vs) fun xs => pO (bltV f xs) := rfl
@[simp] theorem evE_isi {a t} : evE cf (.isi a t) en = M.bind (dd (evE cf a en)) fun x => pD (.bool (isTy x t)) := rfl
@[simp] theorem evE_toT {a} : evE cf (.toT a) en = M.bind (dd (evE cf a en)) fun x => pO ((asSeq x).map .tuple) := rfl
@[simp] theorem evE_app {o a} : evE cf (.app o a) en = M.bind (evE cf o en) fun v => M.bind (rdL v) fun _ => M.bind (evE cf a en) fun w => M.bind (asD w) fun y => appM v y := rfl
@[simp] theorem evE_pop {o a} : evE cf (.pop o a) en = M.bind (evE cf o en) fun v => M.bind (rdL v) fun _ => M.bind (evE cf a en) fun w => M.bind (asD w) fun y => popM v y := rfl
@[simp] theorem evE_popE {o} : evE cf (.popE o) en = M.bind (evE cf o en) fun v => M.bind (rdL v) fun _ => popEM v := rfl
@[simp] theorem evE_lnS {a} : evE cf (.lnS a) en = M.bind (dd (evE cf a en)) fun x => pO (lnSV x) := rfl
@[simp] theorem evE_cnt {o a} : evE cf (.cnt o a) en = M.bind (evE cf o en) fun v => M.bind (asD v) fun x => M.bind (ofO (asL x)) fun xs => M.bind (evE cf a en) fun w => M.bind (asD w) fun y => pO (cntV xs y) := rfl
@[simp] theorem evE_idx {o a} : evE cf (.idx o a) en = M.bind (evE cf o en) fun v => M.bind (asD v) fun x => M.bind (ofO (asL x)) fun xs => M.bind (evE cf a en) fun w => M.bind (asD w) fun y => pO (idxV xs y) := rfl
@[simp] theorem evE_idxT {o a} : evE cf (.idxT o a) en = M.bind (evE cf o en) fun v => M.bind (asD v) fun x => M.bind (ofO (asT x)) fun xs => M.bind (evE cf a en) fun w => M.bind (asD w) fun y => pO (idxV xs y) := rfl
@[simp] theorem evE_minT {a} : evE cf (.minT a) en = M.bind (dd (evE cf a en)) fun x => pO ((asL x).bind minTV) := rfl
@[simp] theorem evE_chars {a} : evE cf (.chars a) en = M.bind (dd (evE cf a en)) fun x => pO ((charsV x).map .tuple) := rfl
@[simp] theorem evE_join {s a} : evE cf (.join s a) en = M.bind (evE cf s en) fun v => M.bind (asD v) fun x => M.bind (ofO (asS x)) fun z => M.bind (evE cf a en) fun w => M.bind (asD w) fun y => pO (joinV (.str z) y) := rfl
@[simp] theorem evE_disp {kvs a} : evE cf (.disp kvs a) en = M.bind (evE cf a en) fun v => M.bind (asD v) fun y => pO (getK kvs y) := rfl
@[simp] theorem evE_dget {d k} : evE cf (.dget d k) en = M.bind (evE cf d en) fun v => M.bind (evE cf k en) fun w => M.bind (asD w) fun y => lookM v y pO := rfl
@[simp] theorem evE_dgt1 {d k} : evE cf (.dgt1 d k) en = M.bind (evE cf d en) fun v => M.bind (rdK v) fun _ => M.bind (evE cf k en) fun w => M.bind (asD w) fun y => lookM v y fun o => pD (o.getD .none) := rfl
@[simp] theorem evE_dgt2 {d k x} : evE cf (.dgt2 d k x) en = M.bind (evE cf d en) fun v => M.bind (rdK v) fun _ => M.bind (evE cf k en) fun w => M.bind (evE cf x en) fun u => M.bind (asD w) fun y => M.bind (asD u) fun z => lookM v y fun o => pD (o.getD z) := rfl
@[simp] theorem evE_din {k d} : evE cf (.din k d) en = M.bind (evE cf k en) fun w => M.bind (evE cf d en) fun v => M.bind (asD w) fun y => lookM v y fun o => pD (.bool o.isSome) := rfl
@[simp] theorem evE_dnin {k d} : evE cf (.dnin k d) en = M.bind (evE cf k en) fun w => M.bind (evE cf d en) fun v => M.bind (asD w) fun y => lookM v y fun o => pD (.bool !o.isSome) := rfl
@[simp] theorem evE_dlen {d} : evE cf (.dlen d) en = M.bind (evE cf d en) fun v => M.bind (rdK v) fun p => if p.1 then fail else pD (.int (p.2.length : Nat)) := rfl
@[simp] theorem evE_dmin {d} : evE cf (.dmin d) en = M.bind (evE cf d en) fun v => M.bind (rdK v) fun p => if p.1 then pO (dminV p.2) else fail := rfl
@[simp] theorem evE_dzip {a b} : evE cf (.dzip a b) en = M.bind (evE cf a en) fun v => M.bind (evE cf b en) fun w => M.bind (asD v) fun x => M.bind (asD w) fun y => M.bind (ofO (dzipV x y)) fun kvs => M.pure (.k false kvs) := rfl
@[simp] theorem evE_dlz {a b} : evE cf (.dlz a b) en = M.bind (evE cf a en) fun v => M.bind (evE cf b en) fun w => M.bind (asD v) fun x => M.bind (asD w) fun y => M.bind (ofO (dzipV x y)) fun kvs => M.pure (.k false kvs) := rfl
@[simp] theorem evE_dprs {a} : evE cf (.dprs a) en = M.bind (evE cf a en) fun v => M.bind (asD v) fun x => M.bind (ofO (dprsV x)) fun kvs => M.pure (.k false kvs) := rfl
@[simp] theorem evE_dcm {k v t own it} : evE cf (.dcm k v t own it) en = M.bind (evI cf it en) fun p => M.bind (compK p.1 (turnK t own en (fun en => evE cf k en) (fun en => evE cf v en)) p.2) fun ps => M.bind (ofO (dmrg true ps)) fun kvs => M.pure (.k true kvs) := rfl
@[simp] theorem evE_dnewK {t} : evE cf (.dnewK t) en = M.pure (.k t []) := rfl
@[simp] theorem evE_dnew {t} : evE cf (.dnew t) en = newC (.dct t []) := rfl
@[simp] theorem evE_bad : evE cf .bad en = fail := rfl
@[simp] theorem evE_new {a} : evE cf (.new a) en = M.bind (evF cf a en) fun xs => pD (.list xs) := rfl
@[simp] theorem evE_box {a} : evE cf (.box a) en = M.bind (evF cf a en) fun xs => newC (.lst xs) := rfl
@[simp] theorem evF_lst {es} : evF cf (.lst es) en = M.bind (evEs cf es en) fun vs => M.bind (asDs vs) fun xs => if xs.length ≤ sizeLine then M.pure xs else fail := rfl
@[simp] theorem evF_cat {a b} : evF cf (.cat a b) en = M.bind (evE cf a en) fun v => M.bind (evE cf b en) fun w => M.bind (rdL v) fun xs => M.bind (rdL w) fun ys => if xs.length + ys.length ≤ sizeLine then M.pure (xs ++ ys) else fail := rfl
@[simp] theorem evF_rep {a b} : evF cf (.rep a b) en = M.bind (evE cf a en) fun v => M.bind (evE cf b en) fun w => M.bind (rdL v) fun xs => M.bind (asD w) fun y => ofO (repL xs y) := rfl
@[simp] theorem evF_slT {a hi} : evF cf (.slT a hi) en = M.bind (evE cf a en) fun v => M.bind (prt (evE cf hi en)) fun u => M.bind (rd v) fun x => ofO (sliceL x none (some u)) := rfl
@[simp] theorem evF_slF {a lo} : evF cf (.slF a lo) en = M.bind (evE cf a en) fun v => M.bind (prt (evE cf lo en)) fun l => M.bind (rd v) fun x => ofO (sliceL x (some l) none) := rfl
@[simp] theorem evF_rev {a} : evF cf (.rev a) en = M.bind (dd (evE cf a en)) fun x => ofO ((asL x).map List.reverse) := rfl
@[simp] theorem evF_toL {a} : evF cf (.toL a) en = M.bind (dd (evE cf a en)) fun x => ofO (asSeq x) := rfl
@[simp] theorem evF_srt {a} : evF cf (.srt a) en = M.bind (dd (evE cf a en)) fun x => ofO ((asL x).bind sortV) := rfl
@[simp] theorem evF_srtS {a} : evF cf (.srtS a) en = M.bind (dd (evE cf a en)) fun x => ofO (srtSV x) := rfl
@[simp] theorem evF_dvals {d} : evF cf (.dvals d) en = M.bind (evE cf d en) fun v => M.bind (rdK v) fun p => if p.1 then M.pure (p.2.map (·.2)) else fail := rfl
@[simp] theorem evF_dsrt {d} : evF cf (.dsrt d) en = M.bind (evE cf d en) fun v => M.bind (rdK v) fun p => if p.1 then ofO (sortT (p.2.map (·.1))) else fail := rfl
@[simp] theorem evF_spl {a s} : evF cf (.spl a s) en = M.bind (evE cf a en) fun v => M.bind (asD v) fun x => M.bind (ofO (asS x)) fun z => M.bind (evE cf s en) fun w => M.bind (asD w) fun y => ofO (splV (.str z) y) := rfl
/-- two fors, by code -/
noncomputable def comp2E (e : E) (t t1 : Tg) (own own1 : List Nat) (it1 : It) (c : E) (en : Env) (dep : Option (Nat × Cell)) (xs : List D) : M (List D) :=
  comp2L dep (turn2M t own en fun en1 => M.bind (evI cf it1 en1) fun q => compE cf e t1 own1 c en1 q.1 q.2) xs
@[simp] theorem evF_cmp2 {e t t1 own own1 it it1 c} : evF cf (.cmp2 e t t1 own own1 it it1 c) en = M.bind (M.bind (evI cf it en) fun p => comp2E cf e t t1 own own1 it1 c en p.1 p.2) fun zs => if zs.length ≤ sizeLine then M.pure zs else fail := rfl
@[simp] theorem evF_cmp {e t own it c} : evF cf (.cmp e t own it c) en = M.bind (evI cf it en) fun p => compE cf e t own c en p.1 p.2 := rfl
@[simp] theorem evEs_nil : evEs cf .nil en = M.pure [] := rfl
@[simp] theorem evEs_cons {e es} : evEs cf (.cons e es) en = M.bind (evE cf e en) fun v => M.bind (evEs cf es en) fun vs => M.pure (v :: vs) := rfl
@[simp] theorem evAnd_one {e} : evAnd cf (.cons e .nil) en = evE cf e en := rfl
@[simp] theorem evAnd_cons {e e2 es} : evAnd cf (.cons e (.cons e2 es)) en = M.bind (evE cf e en) fun v => M.bind (rd v) fun x => M.bind (ofO (truth x)) fun k => if k then evAnd cf (.cons e2 es) en else M.pure v := rfl
@[simp] theorem evOr_one {e} : evOr cf (.cons e .nil) en = evE cf e en := rfl
@[simp] theorem evOr_cons {e e2 es} : evOr cf (.cons e (.cons e2 es)) en = M.bind (evE cf e en) fun v => M.bind (rd v) fun x => M.bind (ofO (truth x)) fun k => if k then M.pure v else evOr cf (.cons e2 es) en := rfl
@[simp] theorem evI_ex {e} : evI cf (.ex e) en = M.bind (evE cf e en) fun v => M.bind (depOf v) fun dp => M.bind (rd v) fun x => M.bind (ofO (itemsV x)) fun xs => M.pure (dp, xs) := rfl
@[simp] theorem evI_r1 {a} : evI cf (.r1 a) en = M.bind (dd (evE cf a en)) fun x => M.bind (ofO ((asI x).bind fun j => rng 0 j)) fun xs => M.pure (none, xs) := rfl
@[simp] theorem evI_r2 {a b} : evI cf (.r2 a b) en = rd2 (evE cf a en) (evE cf b en) fun x y => M.bind (ofO ((asI x).bind fun i => (asI y).bind fun j => rng i j)) fun xs => M.pure (none, xs) := rfl
@[simp] theorem evI_z2 {a b} : evI cf (.z2 a b) en = M.bind (evE cf a en) fun v => M.bind (evE cf b en) fun w => M.bind (asD v) fun x => M.bind (asD w) fun y => M.bind (ofO (zip2V x y)) fun xs => M.pure (none, xs) := rfl
@[simp] theorem evI_z3 {a b c} : evI cf (.z3 a b c) en = M.bind (evE cf a en) fun v => M.bind (evE cf b en) fun w => M.bind (evE cf c en) fun u => M.bind (asD v) fun x => M.bind (asD w) fun y => M.bind (asD u) fun z => M.bind (ofO (zip3V x y z)) fun xs => M.pure (none, xs) := rfl
@[simp] theorem evI_en {a} : evI cf (.en a) en = M.bind (evE cf a en) fun v => M.bind (asD v) fun x => M.bind (ofO ((asL x).map (enumD 0))) fun xs => M.pure (none, xs) := rfl
@[simp] theorem evS_asg {t e} : evS cf N (.asg t e) en = M.bind (evE cf e en) fun v => M.bind (ofO (asgT t v en)) fun en2 => M.pure (.next en2) := rfl
@[simp] theorem evS_par {is es} : evS cf N (.par is es) en = M.bind (evEs cf es en) fun vs => if vs.length = is.length ∧ is.all (· < en.length) then M.pure (.next ((is.zip vs).foldl (fun en p => en.set p.1 (some p.2)) en)) else fail := rfl
@[simp] theorem evS_aug {i e} : evS cf N (.aug i e) en = augM i (fun en => evE cf e en) en := rfl
@[simp] theorem evS_set {o i e} : evS cf N (.set o i e) en = M.bind (evE cf e en) fun u => M.bind (evE cf o en) fun v => M.bind (evE cf i en) fun w => M.bind (asD w) fun k => M.bind (asD u) fun y => M.bind (setM v k y) fun _ => M.pure (.next en) := rfl
@[simp] theorem evS_ex {e} : evS cf N (.ex e) en = M.bind (evE cf e en) fun _ => M.pure (.next en) := rfl
@[simp] theorem evS_ite {c a b} : evS cf N (.ite c a b) en = M.bind (tt (evE cf c en)) fun k => if k then evB cf N a en else evB cf N b en := rfl
@[simp] theorem evS_for {t it b} : evS cf N (.for_ t it b) en = M.bind (evI cf it en) fun p => forE cf N t b p.1 p.2 en := rfl
@[simp] theorem evS_whl {c b} : evS cf N (.whl c b) en = whlE cf N c b en := rfl
@[simp] theorem evS_ret {e} : evS cf N (.ret e) en = M.bind (evE cf e en) fun v => M.pure (.ret v) := rfl
@[simp] theorem evS_rse {c} : evS cf N (.rse c) en = raise c := rfl
@[simp] theorem evS_try {b hs} : evS cf N (.try_ b hs) en = tryM hs (evB cf N b en) := rfl
@[simp] theorem evS_dput {d k e} : evS cf N (.dput d k e) en = M.bind (evE cf e en) fun u => M.bind (evE cf d en) fun v => M.bind (evE cf k en) fun w => M.bind (asD w) fun y => M.bind (asD u) fun z => M.bind (putM v y z) fun _ => M.pure (.next en) := rfl
@[simp] theorem evS_bad : evS cf N .bad en = fail := rfl
@[simp] theorem evS_frz {i} : evS cf N (.frz i) en = frzM i en := rfl
end
/-! ### operations -/
@[simp] theorem binV_add : binV .add = addV := rfl
@[simp] theorem binV_sub : binV .sub = subV := rfl
@[simp] theorem binV_mul : binV .mul = mulV := rfl
@[simp] theorem binV_fdiv : binV .fdiv = fdivV := rfl
@[simp] theorem binV_mod : binV .mod = modV := rfl
@[simp] theorem add_ii {a b : Int} : addV (.int a) (.int b) = some (.int (a + b)) := rfl
@[simp] theorem add_bi {a : Bool} {b : Int} : addV (.bool a) (.int b) = some (.int (b2 a + b)) := rfl
@[simp] theorem sub_ii {a b : Int} : subV (.int a) (.int b) = some (.int (a - b)) := rfl
@[simp] theorem sub_bi {a : Bool} {b : Int} : subV (.bool a) (.int b) = some (.int (b2 a - b)) := rfl
@[simp] theorem neg_i {a : Int} : negV (.int a) = some (.int (-a)) := rfl
theorem log2_lt {a : Int} {n : Nat} (h : a.natAbs < 2 ^ n) (hn : 0 < n) : a.natAbs.log2 < n := by
  rcases Nat.eq_zero_or_pos a.natAbs with z | p
  · rw [z]; simpa using hn
  · exact (Nat.log2_lt (by omega)).mpr h
theorem mul_ii {a b : Int} (h : a.natAbs < 2 ^ 400000) (h2 : b.natAbs < 2 ^ 400000) : mulV (.int a) (.int b) = some (.int (a * b)) := by
  have h3 := log2_lt h (by decide)
  have h4 := log2_lt h2 (by decide)
  unfold mulV
  dsimp only
  rw [if_pos (by omega)]
theorem fdiv_ii {a b : Int} (h : 0 < b) (h2 : b.natAbs < 2 ^ 8000) : fdivV (.int a) (.int b) = some (.int (a / b)) := by
  have h3 := log2_lt h2 (by decide)
  unfold fdivV
  dsimp only
  rw [if_pos ⟨h, by omega⟩]
theorem mod_ii {a b : Int} (h : 0 < b) : modV (.int a) (.int b) = some (.int (a % b)) := by
  unfold modV
  dsimp only
  rw [if_pos h]
@[simp] theorem cmpV_eq {x y : D} : cmpV .eq x y = eqV x y := by cases y <;> rfl
@[simp] theorem cmpV_lt {x y : D} : cmpV .lt x y = ltV x y := by cases y <;> rfl
@[simp] theorem cmpV_le {x y : D} : cmpV .le x y = leV x y := by cases y <;> rfl
@[simp] theorem cmpV_in_ {x y : D} : cmpV .in_ x y = inV x y := by cases y <;> rfl
@[simp] theorem cmpV_ne {x y : D} : cmpV .ne x y = (eqV x y).map (!·) := by cases y <;> rfl
@[simp] theorem cmpV_notIn {x y : D} : cmpV .notIn x y = (inV x y).map (!·) := by cases y <;> rfl
@[simp] theorem cmpV_gt {x y : D} : cmpV .gt x y = ltV y x := by cases y <;> rfl
@[simp] theorem cmpV_ge {x y : D} : cmpV .ge x y = leV y x := by cases y <;> rfl
@[simp] theorem cmpV_is {x : D} : cmpV .is x .none = some (isNone x) := by cases x <;> rfl
@[simp] theorem cmpV_isNot {x : D} : cmpV .isNot x .none = some (!isNone x) := by cases x <;> rfl
@[simp] theorem lt_ii {a b : Int} : ltV (.int a) (.int b) = some (decide (a < b)) := rfl
@[simp] theorem le_ii {a b : Int} : leV (.int a) (.int b) = some (decide (a ≤ b)) := rfl
@[simp] theorem truth_none : truth .none = some false := rfl
@[simp] theorem truth_bool {b : Bool} : truth (.bool b) = some b := rfl
@[simp] theorem truth_int {i : Int} : truth (.int i) = some (decide (i ≠ 0)) := by
  show some (i != 0) = _
  by_cases h : i = 0 <;> simp [h]
@[simp] theorem truth_list {xs : List D} : truth (.list xs) = some (!xs.isEmpty) := rfl
@[simp] theorem truth_tuple {xs : List D} : truth (.tuple xs) = some (!xs.isEmpty) := rfl
@[simp] theorem isTy_none_int : isTy .none .int = false := rfl
@[simp] theorem isTy_none_bool : isTy .none .bool = false := rfl
@[simp] theorem isTy_none_str : isTy .none .str = false := rfl
@[simp] theorem isTy_none_tuple : isTy .none .tuple = false := rfl
@[simp] theorem isTy_none_list : isTy .none .list = false := rfl
@[simp] theorem isTy_bool_int {a : Bool} : isTy (.bool a) .int = true := rfl
@[simp] theorem isTy_bool_bool {a : Bool} : isTy (.bool a) .bool = true := rfl
@[simp] theorem isTy_bool_str {a : Bool} : isTy (.bool a) .str = false := rfl
@[simp] theorem isTy_bool_tuple {a : Bool} : isTy (.bool a) .tuple = false := rfl
@[simp] theorem isTy_bool_list {a : Bool} : isTy (.bool a) .list = false := rfl
@[simp] theorem isTy_int_int {a : Int} : isTy (.int a) .int = true := rfl
@[simp] theorem isTy_int_bool {a : Int} : isTy (.int a) .bool = false := rfl
@[simp] theorem isTy_int_str {a : Int} : isTy (.int a) .str = false := rfl
@[simp] theorem isTy_int_tuple {a : Int} : isTy (.int a) .tuple = false := rfl
@[simp] theorem isTy_int_list {a : Int} : isTy (.int a) .list = false := rfl
@[simp] theorem isTy_str_int {a : Str} : isTy (.str a) .int = false := rfl
@[simp] theorem isTy_str_bool {a : Str} : isTy (.str a) .bool = false := rfl
@[simp] theorem isTy_str_str {a : Str} : isTy (.str a) .str = true := rfl
@[simp] theorem isTy_str_tuple {a : Str} : isTy (.str a) .tuple = false := rfl
@[simp] theorem isTy_str_list {a : Str} : isTy (.str a) .list = false := rfl
@[simp] theorem isTy_list_int {a : List D} : isTy (.list a) .int = false := rfl
@[simp] theorem isTy_list_bool {a : List D} : isTy (.list a) .bool = false := rfl
@[simp] theorem isTy_list_str {a : List D} : isTy (.list a) .str = false := rfl
@[simp] theorem isTy_list_tuple {a : List D} : isTy (.list a) .tuple = false := rfl
@[simp] theorem isTy_list_list {a : List D} : isTy (.list a) .list = true := rfl
@[simp] theorem isTy_tuple_int {a : List D} : isTy (.tuple a) .int = false := rfl
@[simp] theorem isTy_tuple_bool {a : List D} : isTy (.tuple a) .bool = false := rfl
@[simp] theorem isTy_tuple_str {a : List D} : isTy (.tuple a) .str = false := rfl
@[simp] theorem isTy_tuple_tuple {a : List D} : isTy (.tuple a) .tuple = true := rfl
@[simp] theorem isTy_tuple_list {a : List D} : isTy (.tuple a) .list = false := rfl
@[simp] theorem isNone_bool {a : Bool} : isNone (.bool a) = false := rfl
@[simp] theorem isNone_int {a : Int} : isNone (.int a) = false := rfl
@[simp] theorem isNone_str {a : Str} : isNone (.str a) = false := rfl
@[simp] theorem isNone_list {a : List D} : isNone (.list a) = false := rfl
@[simp] theorem isNone_tuple {a : List D} : isNone (.tuple a) = false := rfl
@[simp] theorem isNone_none : isNone .none = true := rfl
@[simp] theorem asI_int {i : Int} : asI (.int i) = some i := rfl
@[simp] theorem asSeq_list {a : List D} : asSeq (.list a) = some a := rfl
@[simp] theorem asSeq_tuple {a : List D} : asSeq (.tuple a) = some a := rfl
@[simp] theorem asL_list {a : List D} : asL (.list a) = some a := rfl
@[simp] theorem asT_tuple {a : List D} : asT (.tuple a) = some a := rfl
@[simp] theorem items_list {a : List D} : itemsV (.list a) = some a := rfl
@[simp] theorem items_tuple {a : List D} : itemsV (.tuple a) = some a := rfl
@[simp] theorem len_list {a : List D} : bltV .len [.list a] = some (.int a.length) := rfl
@[simp] theorem len_tuple {a : List D} : bltV .len [.tuple a] = some (.int a.length) := rfl
@[simp] theorem slV_tuple {a : List D} {lo hi : Option Int} : sliceV (.tuple a) lo hi = some (.tuple (cut a lo hi)) := rfl
@[simp] theorem slL_list {a : List D} {lo hi : Option Int} : sliceL (.list a) lo hi = some (cut a lo hi) := rfl
@[simp] theorem asgT_nm {i : Nat} {v : Vl} {en : Env} : asgT (.nm i) v en = if i < en.length then some (en.set i (some v)) else none := rfl
@[simp] theorem asgT_tn {is js : List Nat} {xs : List D} {en : Env} : asgT (.tn is js) (.d (.tuple xs)) en = if xs.length = is.length + 1 then match xs[is.length]? with
    | some (.tuple ys) => if ys.length = js.length then some ((js.zip ys).foldl (fun en p => en.set p.1 (some (.d p.2))) ((is.zip xs).foldl (fun en p => en.set p.1 (some (.d p.2))) en)) else none
    | _ => none
    else none := rfl
@[simp] theorem asS_str {x : Str} : asS (.str x) = some x := rfl
@[simp] theorem zip2_tt {a b : List D} : zip2V (.tuple a) (.tuple b) = some (zipD a b) := rfl
@[simp] theorem zip2_ll {a b : List D} : zip2V (.list a) (.list b) = some (zipD a b) := rfl
@[simp] theorem zip3_tt {a b c : List D} : zip3V (.tuple a) (.tuple b) (.tuple c) = some (zip3D a b c) := rfl
@[simp] theorem asgT_tp {is : List Nat} {xs : List D} {en : Env} : asgT (.tp is) (.d (.tuple xs)) en = if xs.length = is.length then some ((is.zip xs).foldl (fun en p => en.set p.1 (some (.d p.2))) en) else none := rfl
@[simp] theorem wipe_nil {en : Env} : wipe en [] = en := rfl
@[simp] theorem wipe_cons {en : Env} {v : Nat} {vs : List Nat} : wipe en (v :: vs) = (wipe en vs).set v none := rfl
@[simp] theorem inV_tuple {x : D} {ys : List D} : inV x (.tuple ys) = if min (deps ys) (dep x) ≤ 60 then some (ys.any fun z => eqv z x) else none := rfl
@[simp] theorem inV_list {x : D} {ys : List D} : inV x (.list ys) = if min (deps ys) (dep x) ≤ 60 then some (ys.any fun z => eqv z x) else none := rfl
@[simp] theorem eqV_def {x y : D} : eqV x y = if min (dep x) (dep y) ≤ 60 then some (eqv x y) else none := rfl
section
variable {h : Hh} {E : Nat → Hh → Prop}
theorem W_compE {cf : CF} {e c : Jr.E} {t : Tg} {own : List Nat} {en : Env} {dep : Option (Nat × Cell)} {xs : List D} {Q : List D → Hh → Prop} (g : D → Option D) (d : depOk dep h)
    (hf : ∀ x ∈ xs, W (turnM t own en (fun en => tt (evE cf c en)) (fun en => evE cf e en) x) h (fun b h1 => b = g x ∧ h1 = h) fun _ _ => False) : W (compE cf e t own c en dep xs) h Q E ↔ Q (xs.filterMap g) h := W_comp d hf
/-- with a condition and an element that look only -/
theorem W_turn {cf : CF} {e c : Jr.E} {t : Tg} {own : List Nat} {en : Env} {x : D} {Q : Option D → Hh → Prop} : W (turnM t own en (fun en => tt (evE cf c en)) (fun en => evE cf e en) x) h Q E ↔
    W (ofO (asgT t (.d x) (wipe en own))) h (fun en1 h => W (tt (evE cf c en1)) h (fun k h => if k = true then W (evE cf e en1) h (fun v h => W (asD v) h (fun y h => Q (some y) h) E) E else Q none h) E) E := by
  unfold turnM
  simp only [W_bind, W_ite, W_pure]
end
/-! ### cells -/
section
variable {h : Hh} {E : Nat → Hh → Prop}
@[simp] theorem rdC_ro {xs : List D} : rdC (.ro xs) = some (.list xs) := rfl
@[simp] theorem rdC_lst {xs : List D} : rdC (.lst xs) = some (.list xs) := rfl
@[simp] theorem rdC_dead : rdC .dead = none := rfl
@[simp] theorem W_rdr {n : Nat} {Q : D → Hh → Prop} : W (rd (.r n)) h Q E ↔ ∃ d, h[n]?.bind rdC = some d ∧ Q d h := by
  cases e : h[n]?.bind rdC with
  | none =>
    have : rd (.r n) h = none := by show (h[n]?.bind rdC).map _ = none; rw [e]; rfl
    unfold W
    rw [this]
    simp
  | some d => rw [W_rd_r e]; simp
@[simp] theorem W_rdLr {n : Nat} {Q : List D → Hh → Prop} : W (rdL (.r n)) h Q E ↔ ∃ xs, h[n]? = some (.lst xs) ∧ Q xs h := by
  unfold W rdL
  dsimp only
  cases e : h[n]? with
  | none => simp
  | some c => cases c <;> simp
@[simp] theorem W_depr {n : Nat} {Q : Option (Nat × Cell) → Hh → Prop} : W (depOf (.r n)) h Q E ↔ ∃ c, h[n]? = some c ∧ Q (some (n, c)) h := by
  unfold W depOf
  dsimp only
  cases e : h[n]? with
  | none => simp
  | some c => simp
@[simp] theorem W_appM {n : Nat} {y : D} {Q : Vl → Hh → Prop} : W (appM (.r n) y) h Q E ↔ ∃ xs, h[n]? = some (.lst xs) ∧ xs.length < sizeLine ∧ Q (.d .none) (h.set n (.lst (xs ++ [y]))) := by
  unfold W appM
  dsimp only
  cases e : h[n]? with
  | none => simp
  | some c =>
    cases c with
    | lst xs => by_cases q : xs.length < sizeLine <;> simp [q]
    | _ => simp
@[simp] theorem W_setM {n : Nat} {i : Int} {y : D} {Q : Unit → Hh → Prop} : W (setM (.r n) (.int i) y) h Q E ↔ ∃ xs j, h[n]? = some (.lst xs) ∧ ixN xs.length i = some j ∧ Q () (h.set n (.lst (xs.set j y))) := by
  unfold W setM
  dsimp only
  cases e : h[n]? with
  | none => simp
  | some c =>
    cases c with
    | lst xs => cases q : ixN xs.length i <;> simp [q]
    | _ => simp
end
section
variable {h : Hh} {E : Nat → Hh → Prop}
@[simp] theorem W_rdK_k {t : Bool} {kvs : List (D × D)} {Q : Bool × List (D × D) → Hh → Prop} : W (rdK (.k t kvs)) h Q E ↔ Q (t, kvs) h := Iff.rfl
@[simp] theorem W_rdKr {n : Nat} {Q : Bool × List (D × D) → Hh → Prop} : W (rdK (.r n)) h Q E ↔ ∃ t kvs, h[n]? = some (.dct t kvs) ∧ Q (t, kvs) h := by
  unfold W rdK
  dsimp only
  cases e : h[n]? with
  | none => simp
  | some c =>
    cases c with
    | dct t kvs =>
      constructor
      · intro q; exact ⟨t, kvs, rfl, q⟩
      · rintro ⟨t', kvs', e', q⟩; cases e'; exact q
    | _ => simp
theorem W_lookM {v : Vl} {y : D} {f : Option D → M Vl} {Q : Vl → Hh → Prop} : W (lookM v y f) h Q E ↔ W (rdK v) h (fun p h1 => keyOk p.1 y = true ∧ W (f (getK p.2 y)) h1 Q E) E := by
  unfold lookM
  rw [W_bind]
  constructor <;> (intro w; refine w.imp fun p h1 q => ?_; by_cases k : keyOk p.1 y = true <;> simp [k] at q ⊢; exact q)
@[simp] theorem W_lookK {t : Bool} {kvs : List (D × D)} {y : D} {f : Option D → M Vl} {Q : Vl → Hh → Prop} : W (lookM (.k t kvs) y f) h Q E ↔ keyOk t y = true ∧ W (f (getK kvs y)) h Q E := by rw [W_lookM, W_rdK_k]
@[simp] theorem W_lookr {n : Nat} {y : D} {f : Option D → M Vl} {Q : Vl → Hh → Prop} : W (lookM (.r n) y f) h Q E ↔ ∃ t kvs, h[n]? = some (.dct t kvs) ∧ keyOk t y = true ∧ W (f (getK kvs y)) h Q E := by rw [W_lookM, W_rdKr]
@[simp] theorem W_putr {n : Nat} {k y : D} {Q : Unit → Hh → Prop} : W (putM (.r n) k y) h Q E ↔ ∃ t kvs, h[n]? = some (.dct t kvs) ∧ keyOk t k = true ∧ kvs.length ≤ 1000000 ∧ Q () (h.set n (.dct t (putK kvs k y))) := by
  unfold W putM
  dsimp only
  cases e : h[n]? with
  | none => simp
  | some c =>
    cases c with
    | dct t kvs =>
      dsimp only
      by_cases q : keyOk t k = true ∧ kvs.length ≤ 1000000
      · rw [if_pos q]
        constructor
        · intro w; exact ⟨t, kvs, rfl, q.1, q.2, w⟩
        · rintro ⟨t', kvs', e', _, _, w⟩; cases e'; exact w
      · rw [if_neg q]
        constructor
        · intro w; exact w.elim
        · rintro ⟨t', kvs', e', a, b, _⟩; cases e'; exact absurd ⟨a, b⟩ q
    | _ => simp
@[simp] theorem keyOk_str {x : Str} : keyOk false (.str x) = true := rfl
@[simp] theorem keyOk_int {x : Int} : keyOk false (.int x) = true := rfl
theorem comp2_eq {dep : Option (Nat × Cell)} {f : D → M (List D)} {g : D → List D} (d : depOk dep h) : ∀ {xs : List D}, (∀ x ∈ xs, f x h = some (.ok (g x), h)) → comp2L dep f xs h = some (.ok (xs.flatMap g), h)
  | [], _ => by
    show M.bind (same dep) (fun _ => M.pure []) h = _
    unfold M.bind
    rw [same_of d]
    rfl
  | x :: xs, hf => by
    show M.bind (same dep) (fun _ => M.bind (noExc (f x)) fun y => M.bind (comp2L dep f xs) fun ys => M.pure (y ++ ys)) h = _
    unfold M.bind
    rw [same_of d]
    dsimp only
    unfold noExc
    rw [hf x List.mem_cons_self]
    dsimp only
    rw [comp2_eq d fun y hy => hf y (List.mem_cons_of_mem _ hy)]
    rfl
/-- two fors, each turn looking only -/
theorem W_comp2E {cf : CF} {e c : Jr.E} {t t1 : Tg} {own own1 : List Nat} {it1 : It} {en : Env} {dep : Option (Nat × Cell)} {xs : List D} {Q : List D → Hh → Prop} (g : D → List D) (d : depOk dep h)
    (hf : ∀ x ∈ xs, W (ofO (asgT t (.d x) (wipe en own))) h (fun en1 h1 => W (evI cf it1 en1) h1 (fun q h2 => W (compE cf e t1 own1 c en1 q.1 q.2) h2 (fun b h3 => b = g x ∧ h3 = h) fun _ _ => False) fun _ _ => False) fun _ _ => False) : W (comp2E cf e t t1 own own1 it1 c en dep xs) h Q E ↔ Q (xs.flatMap g) h :=
  W.eq (comp2_eq d fun x hx => W.toEq (by
    have := hf x hx
    unfold turn2M
    simpa only [W_bind] using this))
end
@[simp] theorem take_set1 {h : Hh} {n : Nat} {c : Cell} : List.take h.length (h.set n c) = h.set n c := List.take_of_length_le (by rw [List.length_set]; exact Nat.le_refl _)
end Jr

set_option Elab.async false
set_option linter.all false
set_option maxRecDepth 100000
set_option maxHeartbeats 2000000
namespace Jr
open PySem
def isIntIn (x : D) (a b : Int) : Bool := match x with
  | .int i => decide (a ≤ i) && decide (i ≤ b)
  | _ => false
def inStrs (x : Str) (l : List String) : Bool := l.any fun y => decide (Str.ofString y = x)
theorem cut_first {y : D} {ys : List D} : cut (y :: ys) none (some 1) = [y] := by
  have e1 : sIx (y :: ys).length 0 none = 0 := rfl
  have e2 : sIx (y :: ys).length (y :: ys).length (some 1) = 1 := by
    unfold sIx HT.sIx
    simp
  unfold cut
  rw [e1, e2]
  rfl
section
variable {Φ : Nat → Option Def} {N k : Nat} {h : Hh} {E : Nat → Hh → Prop}
theorem W_is_integer (e : Φ 6 = some d_is_integer) {x : D} {a b : Int} {Q : Vl → Hh → Prop} :
    W (callF Φ N (k + 1) 6 [.d x, .d (.int a), .d (.int b)]) h Q E ↔ Q (.d (.bool (isIntIn x a b))) h := by
  rw [W_call e rfl]
  cases x with
  | int i => by_cases q : a ≤ i <;> simp [d_is_integer, isIntIn, q]
  | _ => simp [d_is_integer, isIntIn]
end
theorem cut_take {α : Type} {xs : List α} {j : Nat} : cut xs none (some (j : Int)) = xs.take j := by
  unfold cut sIx
  rw [HT.sIx_none, HT.sIx_nat, List.drop_zero, Nat.sub_zero]
  rcases Nat.le_total j xs.length with h | h
  · rw [Nat.min_eq_left h]
  · rw [Nat.min_eq_right h, List.take_of_length_le (Nat.le_refl _), List.take_of_length_le h]
theorem cut_drop {α : Type} {xs : List α} {j : Nat} : cut xs (some (j : Int)) none = xs.drop j := by
  unfold cut sIx
  rw [HT.sIx_none, HT.sIx_nat]
  rcases Nat.le_total j xs.length with h | h
  · rw [Nat.min_eq_left h, List.take_of_length_le (by rw [List.length_drop]; omega)]
  · rw [Nat.min_eq_right h, List.drop_eq_nil_of_le (Nat.le_refl _), List.drop_eq_nil_of_le h]
    simp
theorem mul_b {a b : Int} (h1 : -1267650600228229401496703205376 < a) (h2 : a < 1267650600228229401496703205376) (h3 : -1267650600228229401496703205376 < b) (h4 : b < 1267650600228229401496703205376) : mulV (.int a) (.int b) = some (.int (a * b)) := by
  have e : (1267650600228229401496703205376 : Nat) = 2 ^ 100 := by decide
  have h5 := log2_lt (a := a) (n := 100) (by rw [← e]; omega) (by decide)
  have h6 := log2_lt (a := b) (n := 100) (by rw [← e]; omega) (by decide)
  unfold mulV
  dsimp only
  rw [if_pos (by omega)]
theorem fdiv_b {a b : Int} (h : 0 < b) (h2 : b < 1267650600228229401496703205376) : fdivV (.int a) (.int b) = some (.int (a / b)) := by
  have e : (1267650600228229401496703205376 : Nat) = 2 ^ 100 := by decide
  have h6 := log2_lt (a := b) (n := 100) (by rw [← e]; omega) (by decide)
  unfold fdivV
  dsimp only
  rw [if_pos ⟨h, by omega⟩]
def St (ns : List Int) (b : Nat) (h : Hh) : Prop := h[0]? = some (.ro (ns.map D.int)) ∧ ∃ st : List Int, h[1]? = some (.lst (st.map D.int)) ∧ st.length ≤ b
theorem St.cases {ns : List Int} {b : Nat} {h : Hh} (s : St ns b h) : ∃ (st : List Int) (t : Hh), h = .ro (ns.map D.int) :: .lst (st.map D.int) :: t ∧ st.length ≤ b := by
  obtain ⟨h0, st, h1, hl⟩ := s
  match h, h0, h1 with
  | [], h0, _ => cases h0
  | [_], _, h1 => cases h1
  | a :: c :: t, h0, h1 =>
    cases h0
    cases h1
    exact ⟨st, t, rfl, hl⟩
theorem St.mk_ {ns : List Int} {b : Nat} {st : List Int} {t : Hh} (hl : st.length ≤ b) : St ns b (.ro (ns.map D.int) :: .lst (st.map D.int) :: t) := ⟨rfl, st, rfl, hl⟩
theorem allI_map : ∀ l : List Int, allI (l.map D.int) = some l
  | [] => rfl
  | x :: l => by
    show (asI (.int x)).bind (fun i => (allI (l.map D.int)).map (i :: ·)) = _
    rw [allI_map l]
    rfl
theorem max_ints (l : List Int) (x : Int) : ∃ v, bltV .max1 [.list (l.map D.int ++ [.int x])] = some (.int v) := by
  have e : l.map D.int ++ [D.int x] = (l ++ [x]).map D.int := by simp
  unfold bltV
  dsimp only
  rw [e, allI_map]
  cases h : l ++ [x] with
  | nil => simp at h
  | cons a r => exact ⟨_, rfl⟩
section
variable {Φ : Nat → Option Def} {N k : Nat} {h : Hh} {E : Nat → Hh → Prop}
def fabs : D → Option D
  | .int i => some (.int (if i < 0 then -i else i))
  | _ => none
theorem fm_abs (ns : List Int) : (ns.map D.int).filterMap fabs = (ns.map fun i => if i < 0 then -i else i).map D.int := by
  induction ns with
  | nil => rfl
  | cons a l ih =>
    show D.int (if a < 0 then -a else a) :: (l.map D.int).filterMap fabs = _
    rw [ih]
    rfl
theorem W_abs {cf : CF} {en : Env} {i : Nat} (hi : i < en.length) {c0 : Cell} {t : Hh} {ns : List Int} {Q : List D → Hh → Prop} : W (compE cf (.blt .abs (.cons (.var i) .nil)) (.nm i) [i] (.bl true) en (some (0, c0)) (ns.map D.int)) (c0 :: t) Q E ↔ Q ((ns.map fun i => if i < 0 then -i else i).map D.int) (c0 :: t) := by
  rw [← fm_abs]
  refine W_compE fabs rfl fun x hx => ?_
  obtain ⟨j, _, rfl⟩ := List.mem_map.mp hx
  rw [W_turn]
  simp [fabs, bltV, hi]
theorem ix_mod {ns : List Int} (h : ns ≠ []) (j : Int) : ∃ c, ixV (.list (ns.map D.int)) (.int (j % (ns.length : Int))) = some (.int c) := by
  have hp : 0 < ns.length := List.length_pos_iff.mpr h
  obtain ⟨i, hi⟩ : ∃ i : Nat, j % (ns.length : Int) = (i : Int) := ⟨(j % (ns.length : Int)).toNat, (Int.toNat_of_nonneg (Int.emod_nonneg _ (by omega))).symm⟩
  have lt : i < ns.length := by
    have := Int.emod_lt_of_pos j (show (0 : Int) < ns.length by omega)
    omega
  refine ⟨ns[i], ?_⟩
  rw [hi]
  exact ixV_lst (by rw [List.getElem?_map, List.getElem?_eq_getElem lt]; rfl)
theorem W_draw (e : Φ 8 = some d__law_draw) {ns : List Int} {b : Nat} {m : Int} (s : St ns b h) (hb : b ≤ 1000000) (hm : 0 < m) (hns : ns.length ≤ 63) {Q : Vl → Hh → Prop}
    (q : ∀ r c, 0 ≤ r → r < m → St ns (b + 2) (h.set 1 c) → Q (.d (.int r)) (h.set 1 c)) : W (callF Φ N (k + 1) 8 [.r 0, .r 1, .d (.int m)]) h Q E := by
  obtain ⟨st, t, rfl, hl⟩ := s.cases
  rw [W_call e rfl]
  simp only [d__law_draw]
  rw [W_B_cons]
  refine W.imp (Q := fun so h1 => so = SO.next [some (.r 0), some (.r 1), some (.d (.int m)), none, none, none, none, none] ∧ ∃ v w, h1 = .ro (ns.map D.int) :: .lst ((v :: w).map D.int) :: t ∧ w.length ≤ b) ?_ ?_
  · cases st with
    | nil =>
      obtain ⟨v, hv⟩ := max_ints (ns.map fun i => if i < 0 then -i else i) 0
      rw [List.map_map] at hv
      simp [sizeLine, W_abs, hv]
      exact ⟨by omega, v, [], ⟨rfl, rfl⟩, by simp⟩
    | cons v w => 
      simp at hl ⊢
      exact ⟨v, w, ⟨rfl, rfl⟩, by omega⟩
  · rintro so h1 ⟨rfl, v, w, rfl, hw⟩
    have fin : ∀ r v', 0 ≤ r → r < m → Q (.d (.int r)) (Cell.ro (List.map D.int ns) :: Cell.lst (D.int v' :: (List.map D.int w ++ [D.int 0])) :: t) := fun r v' h0 h1 => by
      have e1 : D.int v' :: (List.map D.int w ++ [D.int 0]) = (v' :: (w ++ [0])).map D.int := by simp
      have := q r (.lst ((v' :: (w ++ [0])).map D.int)) h0 h1 (.mk_ (by simp; omega))
      rw [e1]
      exact this
    have h0 : ∀ x : Int, 0 ≤ x % m ∧ x % m < m := fun x => ⟨Int.emod_nonneg _ (by omega), Int.emod_lt_of_pos _ hm⟩
    show W (evB _ _ _ _) _ _ _
    -- append, k
    rw [W_B_cons]
    refine W.imp (Q := fun so h1 => so = SO.next [some (.r 0), some (.r 1), some (.d (.int m)), none, none, none, none, none] ∧ h1 = .ro (ns.map D.int) :: .lst (D.int v :: (w.map D.int ++ [D.int 0])) :: t) ?_ ?_
    · simp [sizeLine]; omega
    rintro so h1 ⟨rfl, rfl⟩
    show W (evB _ _ _ _) _ _ _
    rw [W_B_cons]
    refine W.imp (Q := fun so h1 => so = SO.next [some (.r 0), some (.r 1), some (.d (.int m)), some (.d (.int (w.length + 2))), none, none, none, none] ∧ h1 = .ro (ns.map D.int) :: .lst (D.int v :: (w.map D.int ++ [D.int 0])) :: t) ?_ ?_
    · simp; omega
    rintro so h1 ⟨rfl, rfl⟩
    show W (evB _ _ _ _) _ _ _
    rw [W_B_cons]
    refine W.imp (Q := fun so h1 => ∃ c : Int, so = SO.next [some (.r 0), some (.r 1), some (.d (.int m)), some (.d (.int (w.length + 2))), some (.d (.int c)), none, none, none] ∧ h1 = .ro (ns.map D.int) :: .lst (D.int v :: (w.map D.int ++ [D.int 0])) :: t) ?_ ?_
    · by_cases hne : ns = []
      · simp [hne]
      · obtain ⟨c, hc⟩ := ix_mod hne (w.length + 2)
        have hp : (0 : Int) < ns.length := by
          have := List.length_pos_iff.mpr hne
          omega
        simp [hne, mod_ii hp, hc]
    rintro so h1 ⟨c, rfl, rfl⟩
    show W (evB _ _ _ _) _ _ _
    rw [W_B_cons]
    refine W.imp (Q := fun so h1 => ∃ g : Int, 0 ≤ g ∧ g < 65536 ∧ so = SO.next [some (.r 0), some (.r 1), some (.d (.int m)), some (.d (.int (w.length + 2))), some (.d (.int c)), some (.d (.int g)), none, none] ∧ h1 = .ro (ns.map D.int) :: .lst (D.int v :: (w.map D.int ++ [D.int 0])) :: t) ?_ ?_
    · simp [mod_ii]; omega
    rintro so h1 ⟨g, g0, g1, rfl, rfl⟩
    show W (evB _ _ _ _) _ _ _
    rw [W_B_cons]
    refine W.imp (Q := fun so h1 => ∃ v' : Int, so = SO.next [some (.r 0), some (.r 1), some (.d (.int m)), some (.d (.int (w.length + 2))), some (.d (.int c)), some (.d (.int g)), none, none] ∧ h1 = .ro (ns.map D.int) :: .lst (D.int v' :: (w.map D.int ++ [D.int 0])) :: t) ?_ ?_
    · simp
      repeat (simp (disch := omega) only [mul_b, mod_ii, fdiv_b]; try simp)
      refine ⟨0, ?_, _, rfl⟩
      unfold ixN L2.ixN
      rw [if_pos (by omega), if_pos (by omega)]
      rfl
    rintro so h1 ⟨v', rfl, rfl⟩
    show W (evB _ _ _ _) _ _ _
    rw [W_B_cons]
    refine W.imp (Q := fun so h1 => ∃ n : Int, 0 ≤ n ∧ n < 4294967291 ∧ so = SO.next [some (.r 0), some (.r 1), some (.d (.int m)), some (.d (.int (w.length + 2))), some (.d (.int c)), some (.d (.int g)), some (.d (.int n)), none] ∧ h1 = .ro (ns.map D.int) :: .lst (D.int v' :: (w.map D.int ++ [D.int 0])) :: t) ?_ ?_
    · simp
      repeat (simp (disch := omega) only [mul_b, mod_ii, fdiv_b]; try simp)
      omega
    rintro so h1 ⟨n, n0, n1, rfl, rfl⟩
    show W (evB _ _ _ _) _ _ _
    rw [W_B_cons]
    refine W.imp (Q := fun so h1 => ∃ n : Int, 0 ≤ n ∧ n < 4294967291 ∧ so = SO.next [some (.r 0), some (.r 1), some (.d (.int m)), some (.d (.int (w.length + 2))), some (.d (.int c)), some (.d (.int g)), some (.d (.int n)), none] ∧ h1 = .ro (ns.map D.int) :: .lst (D.int v' :: (w.map D.int ++ [D.int 0])) :: t) ?_ ?_
    · simp
      repeat (simp (disch := omega) only [mul_b, mod_ii, fdiv_b]; try simp)
      omega
    rintro so h1 ⟨n, n0, n1, rfl, rfl⟩
    show W (evB _ _ _ _) _ _ _
    rw [W_B_cons]
    refine W.imp (Q := fun so h1 => ∃ p : Int, 0 ≤ p ∧ p < 4294967291 ∧ so = SO.next [some (.r 0), some (.r 1), some (.d (.int m)), some (.d (.int (w.length + 2))), some (.d (.int c)), some (.d (.int g)), some (.d (.int n)), some (.d (.int p))] ∧ h1 = .ro (ns.map D.int) :: .lst (D.int v' :: (w.map D.int ++ [D.int 0])) :: t) ?_ ?_
    · simp
      repeat (simp (disch := omega) only [mul_b, mod_ii, fdiv_b]; try simp)
      omega
    rintro so h1 ⟨p, p0, p1, rfl, rfl⟩
    show W (evB _ _ _ _) _ _ _
    simp
    repeat (simp (disch := omega) only [mul_b, mod_ii, fdiv_b]; try simp)
    exact fin _ _ (h0 _).1 (h0 _).2
end
/-! ### how large a value is -/
mutual
def sz : D → Nat
  | .int i => i.natAbs
  | .list xs => max xs.length (szs xs)
  | .tuple xs => max xs.length (szs xs)
  | _ => 0
def szs : List D → Nat
  | [] => 0
  | x :: xs => max (sz x) (szs xs)
end
@[simp] theorem sz_none : sz .none = 0 := by simp [sz]
@[simp] theorem sz_bool {b : Bool} : sz (.bool b) = 0 := by simp [sz]
@[simp] theorem sz_str {b : Str} : sz (.str b) = 0 := by simp [sz]
@[simp] theorem sz_int {i : Int} : sz (.int i) = i.natAbs := by simp [sz]
@[simp] theorem sz_list {xs : List D} : sz (.list xs) = max xs.length (szs xs) := by simp [sz]
@[simp] theorem sz_tuple {xs : List D} : sz (.tuple xs) = max xs.length (szs xs) := by simp [sz]
@[simp] theorem szs_nil : szs [] = 0 := by simp [szs]
@[simp] theorem szs_cons {x : D} {xs : List D} : szs (x :: xs) = max (sz x) (szs xs) := by simp [szs]
theorem szs_le {M : Nat} : ∀ {xs : List D}, szs xs ≤ M ↔ ∀ x ∈ xs, sz x ≤ M
  | [] => by simp
  | x :: xs => by rw [szs_cons, Nat.max_le, szs_le (xs := xs)]; simp
theorem deps_le {n : Nat} : ∀ {xs : List D}, deps xs ≤ n ↔ ∀ x ∈ xs, dep x ≤ n
  | [] => by simp
  | x :: xs => by rw [deps_cons, Nat.max_le, deps_le (xs := xs)]; simp
/-- small enough: numbers and lengths up to M, n deep -/
def Sm (M n : Nat) (d : D) : Prop := sz d ≤ M ∧ dep d ≤ n
theorem Sm.tuple {M n : Nat} {xs : List D} (hl : xs.length ≤ M) (h : ∀ x ∈ xs, Sm M n x) : Sm M (n + 1) (.tuple xs) := by
  refine ⟨?_, ?_⟩
  · rw [sz_tuple]
    exact Nat.max_le.mpr ⟨hl, szs_le.mpr fun x hx => (h x hx).1⟩
  · rw [dep_tuple]
    exact Nat.succ_le_succ (deps_le.mpr fun x hx => (h x hx).2)
theorem Sm.list {M n : Nat} {xs : List D} (hl : xs.length ≤ M) (h : ∀ x ∈ xs, Sm M n x) : Sm M (n + 1) (.list xs) := by
  refine ⟨?_, ?_⟩
  · rw [sz_list]
    exact Nat.max_le.mpr ⟨hl, szs_le.mpr fun x hx => (h x hx).1⟩
  · rw [dep_list]
    exact Nat.succ_le_succ (deps_le.mpr fun x hx => (h x hx).2)
theorem Sm.of_tuple {M n : Nat} {xs : List D} (h : Sm M n (.tuple xs)) : xs.length ≤ M ∧ 0 < n ∧ ∀ x ∈ xs, Sm M (n - 1) x := by
  obtain ⟨h1, h2⟩ := h
  rw [sz_tuple, Nat.max_le] at h1
  rw [dep_tuple] at h2
  exact ⟨h1.1, by omega, fun x hx => ⟨szs_le.mp h1.2 x hx, deps_le.mp (by omega) x hx⟩⟩
theorem Sm.mono {M M' n n' : Nat} {d : D} (h : Sm M n d) (hm : M ≤ M') (hn : n ≤ n') : Sm M' n' d := ⟨Nat.le_trans h.1 hm, Nat.le_trans h.2 hn⟩
theorem cut_mem {xs : List D} {lo hi : Option Int} {x : D} (h : x ∈ cut xs lo hi) : x ∈ xs := List.mem_of_mem_drop (List.mem_of_mem_take h)
theorem cut_len' (xs : List D) (lo hi : Option Int) : (cut xs lo hi).length ≤ xs.length := by
  unfold cut
  rw [List.length_take, List.length_drop]
  omega
section
variable {Φ : Nat → Option Def} {N k : Nat} {h : Hh} {E : Nat → Hh → Prop} {ns : List Int} {b : Nat}
theorem W_pick (e8 : Φ 8 = some d__law_draw) (e7 : Φ 7 = some d__law_pick) (s : St ns b h) (hb : b ≤ 1000000) (hns : ns.length ≤ 63) {xs : List D} (hx : xs ≠ []) {Q : Vl → Hh → Prop}
    (q : ∀ y c, y ∈ xs → St ns (b + 2) (h.set 1 c) → Q (.d y) (h.set 1 c)) : W (callF Φ N (k + 2) 7 [.r 0, .r 1, .d (.list xs)]) h Q E := by
  rw [W_call e7 rfl]
  simp [d__law_pick]
  have hp := List.length_pos_iff.mpr hx
  refine W_draw e8 s hb (by omega) hns fun r c r0 r1 s' => ?_
  obtain ⟨i, rfl⟩ : ∃ i : Nat, r = i := ⟨r.toNat, by omega⟩
  have lt : i < xs.length := by omega
  rw [W_rd_d, ixV_lst (List.getElem?_eq_getElem lt)]
  simp
  exact q _ c (List.getElem_mem lt) s'
end
/-- a list that grows, beside the state -/
def Th (ns : List Int) (b j n : Nat) (h : Hh) : Prop := St ns b h ∧ 2 ≤ j ∧ ∃ xs, h[j]? = some (.lst xs) ∧ xs.length ≤ n
theorem St.set_ {ns : List Int} {b j : Nat} {h : Hh} {c : Cell} (s : St ns b h) (hj : 2 ≤ j) : St ns b (h.set j c) := by
  obtain ⟨z1, st, z2, z3⟩ := s
  exact ⟨by rw [List.getElem?_set_ne (by omega)]; exact z1, st, by rw [List.getElem?_set_ne (by omega)]; exact z2, z3⟩
theorem St.app_ {ns : List Int} {b : Nat} {h : Hh} {c : Cell} (s : St ns b h) : St ns b (h ++ [c]) ∧ 2 ≤ h.length := by
  obtain ⟨z1, st, z2, z3⟩ := s
  have l : 1 < h.length := by
    rcases Nat.lt_or_ge 1 h.length with q | q
    · exact q
    · rw [List.getElem?_eq_none q] at z2; cases z2
  exact ⟨⟨by rw [List.getElem?_append_left (by omega)]; exact z1, st, by rw [List.getElem?_append_left (by omega)]; exact z2, z3⟩, l⟩
theorem Th.add {ns : List Int} {b j n : Nat} {h : Hh} {xs ys : List D} (t : Th ns b j n h) (e : h[j]? = some (.lst xs)) (hl : ys.length ≤ n + 1) : Th ns b j (n + 1) (h.set j (.lst ys)) := by
  obtain ⟨s, j2, _⟩ := t
  have lt : j < h.length := by
    rcases Nat.lt_or_ge j h.length with q | q
    · exact q
    · rw [List.getElem?_eq_none q] at e; cases e
  exact ⟨s.set_ j2, j2, ys, by rw [List.getElem?_set_self lt], hl⟩
theorem Th.new {ns : List Int} {b n : Nat} {h : Hh} {ys : List D} (s : St ns b h) (hl : ys.length ≤ n) : Th ns b h.length n (h ++ [.lst ys]) :=
  ⟨s.app_.1, (s.app_ (c := .dead)).2, ys, by simp, hl⟩
theorem Th.draw {ns : List Int} {b b' j n : Nat} {h : Hh} {c : Cell} (t : Th ns b j n h) (s : St ns b' (h.set 1 c)) : Th ns b' j n (h.set 1 c) := by
  obtain ⟨_, j2, xs, e, hl⟩ := t
  exact ⟨s, j2, xs, by rw [List.getElem?_set_ne (by omega)]; exact e, hl⟩
theorem Th.mono {ns : List Int} {b b' j n n' : Nat} {h : Hh} (t : Th ns b j n h) (hb : b ≤ b') (hn : n ≤ n') : Th ns b' j n' h := by
  obtain ⟨⟨z1, st, z2, z3⟩, j2, xs, e, hl⟩ := t
  exact ⟨⟨z1, st, z2, by omega⟩, j2, xs, e, by omega⟩
theorem W_frz {i n : Nat} {en : Env} {h : Hh} {xs : List D} {Q : SO → Hh → Prop} {E : Nat → Hh → Prop} (e : en[i]? = some (some (.r n))) (e2 : h[n]? = some (.lst xs)) : W (frzM i en) h Q E ↔ Q (.next (en.set i (some (.d (.list xs))))) (h.set n .dead) :=
  W.eq (by unfold frzM; rw [e]; dsimp only; rw [e2])
end Jr

set_option Elab.async false
set_option linter.all false
set_option maxRecDepth 100000
set_option maxHeartbeats 2000000
namespace Jr
open PySem
theorem cut_tail {α : Type} {xs : List α} : cut xs (some 1) none = xs.tail := (cut_drop (j := 1)).trans (by simp)
theorem seq_nat {i n : Nat} (h : i < n) : seqIndex? (i : Int) n = some i := by
  have n0 : ¬ ((i : Int) < 0) := by omega
  have n1 : (i : Int) < n := by omega
  unfold seqIndex?
  simp [n0, h]
section
variable {h : Hh} {E : Nat → Hh → Prop}
theorem W_pop {n i : Nat} {y : D} {xs : List D} {Q : Vl → Hh → Prop} (e : h[n]? = some (.lst xs)) (hi : xs[i]? = some y) (sm : xs.length ≤ 100000000) : W (popM (.r n) (.int (i : Int))) h Q E ↔ Q (.d y) (h.set n (.lst (xs.eraseIdx i))) := by
  have lt : i < xs.length := by
    rcases Nat.lt_or_ge i xs.length with q | q
    · exact q
    · rw [List.getElem?_eq_none q] at hi; cases hi
  refine W.eq ?_
  unfold popM
  dsimp only
  rw [e]
  dsimp only
  rw [if_pos (by omega), seq_nat lt]
  dsimp only
  rw [hi]
end
section
variable {Φ : Nat → Option Def} {N k : Nat} {h : Hh} {E : Nat → Hh → Prop} {ns : List Int} {b : Nat}
theorem St.more {b' : Nat} (s : St ns b h) (hb : b ≤ b') : St ns b' h := by
  obtain ⟨z1, st, z2, z3⟩ := s
  exact ⟨z1, st, z2, by omega⟩
theorem St.len (s : St ns b h) : 2 ≤ h.length := (s.app_ (c := .dead)).2
theorem St.up {t : Hh} (s : St ns b h) : St ns b (h ++ t) := by
  have l := s.len
  obtain ⟨z1, st, z2, z3⟩ := s
  exact ⟨by rw [List.getElem?_append_left (by omega)]; exact z1, st, by rw [List.getElem?_append_left (by omega)]; exact z2, z3⟩
theorem St.down {t : Hh} (s : St ns b (h ++ t)) (l : 2 ≤ h.length) : St ns b h := by
  obtain ⟨z1, st, z2, z3⟩ := s
  exact ⟨by rw [List.getElem?_append_left (by omega)] at z1; exact z1, st, by rw [List.getElem?_append_left (by omega)] at z2; exact z2, z3⟩
theorem set_app {t : Hh} {c : Cell} (l : 2 ≤ h.length) : (h ++ t).set 1 c = h.set 1 c ++ t := List.set_append_left _ _ (by omega)
theorem perm_erase {α : Type} : ∀ {xs : List α} {i : Nat} {y : α}, xs[i]? = some y → (y :: xs.eraseIdx i).Perm xs
  | [], i, y, e => by simp at e
  | x :: xs, 0, y, e => by simp at e; subst e; simp
  | x :: xs, i + 1, y, e => by
    have := perm_erase (xs := xs) (i := i) (y := y) (by simpa using e)
    rw [List.eraseIdx_cons_succ]
    exact (List.Perm.swap _ _ _).trans (this.cons x)
theorem W_shuffled (e8 : Φ 8 = some d__law_draw) (e : Φ 15 = some d__law_shuffled) (s : St ns b h) {x : D} {xs : List D} (hx : asSeq x = some xs) (hl : xs.length ≤ 1000) (hb : b ≤ 900000) (hns : ns.length ≤ 63) (hN : 1000 < N) {Q : Vl → Hh → Prop}
    (q : ∀ ys c, ys.Perm xs → St ns (b + 2 * xs.length) (h.set 1 c) → Q (.d (.list ys)) (h.set 1 c)) : W (callF Φ N (k + 2) 15 [.r 0, .r 1, .d x]) h Q E := by
  have l2 := s.len
  rw [W_call e rfl]
  simp only [d__law_shuffled]
  rw [W_B_cons]
  refine W.imp (Q := fun so h1 => so = .next [some (.r 0), some (.r 1), some (.d x), some (.r h.length), some (.r (h.length + 1))] ∧ h1 = h ++ [.lst xs, .lst []]) ?_ ?_
  · simp [hx, sizeLine]
  rintro so h1 ⟨rfl, rfl⟩
  show W (evB _ _ _ _) _ _ _
  rw [W_B_cons]
  obtain ⟨c0, hc0⟩ : ∃ c0, h = h.set 1 c0 := ⟨h[1]'(by omega), by simp⟩
  refine W.imp (Q := fun so h1 => so = .next [some (.r 0), some (.r 1), some (.d x), some (.r h.length), some (.r (h.length + 1))] ∧ ∃ ys c, ys.Perm xs ∧ St ns (b + 2 * xs.length) (h.set 1 c) ∧ h1 = h.set 1 c ++ [.lst [], .lst ys]) ?_ ?_
  · rw [evS_whl]
    unfold whlE
    refine W_whl (fun m en h1 => en = [some (.r 0), some (.r 1), some (.d x), some (.r h.length), some (.r (h.length + 1))] ∧ ∃ rest found c, (found ++ rest).Perm xs ∧ St ns (b + 2 * found.length) (h.set 1 c) ∧ m = rest.length ∧ h1 = h.set 1 c ++ [.lst rest, .lst found]) ?_ (m := xs.length) ?_ (by omega)
    · rintro m en h1 ⟨rfl, rest, found, c, pm, s1, rfl, rfl⟩
      have pl := pm.length_eq
      rw [List.length_append] at pl
      have e1 : (h.set 1 c ++ [Cell.lst rest, Cell.lst found])[h.length]? = some (.lst rest) := by rw [List.getElem?_append_right (by simp)]; simp
      have e2 : (h.set 1 c ++ [Cell.lst rest, Cell.lst found])[h.length + 1]? = some (.lst found) := by rw [List.getElem?_append_right (by simp)]; simp
      simp [e1]
      cases rest with
      | nil =>
        simp
        exact ⟨found, by simpa using pm, c, s1.more (by simp at pl; omega), rfl⟩
      | cons r rest =>
        simp [e1, e2]
        simp at pl
        refine W_draw e8 (s1.up (t := [.lst (r :: rest), .lst found])) (by omega) (by omega) hns fun j c1 j0 j1 s2 => ?_
        rw [set_app (by simpa using l2), List.set_set] at s2 ⊢
        obtain ⟨i, rfl⟩ : ∃ i : Nat, j = i := ⟨j.toNat, by omega⟩
        have lt : i < (r :: rest).length := by simp; omega
        have e3 : (h.set 1 c1 ++ [Cell.lst (r :: rest), Cell.lst found])[h.length]? = some (.lst (r :: rest)) := by rw [List.getElem?_append_right (by simp)]; simp
        have e4 : (h.set 1 c1 ++ [Cell.lst (r :: rest), Cell.lst found]).set h.length (.lst ((r :: rest).eraseIdx i)) = h.set 1 c1 ++ [Cell.lst ((r :: rest).eraseIdx i), Cell.lst found] := by
          rw [List.set_append_right _ _ (by simp)]; simp
        rw [W_asD, W_pop e3 (List.getElem?_eq_getElem lt) (by simp; omega), e4]
        have e5 : (h.set 1 c1 ++ [Cell.lst ((r :: rest).eraseIdx i), Cell.lst found])[h.length + 1]? = some (.lst found) := by rw [List.getElem?_append_right (by simp)]; simp
        have e6 : ∀ z, (h.set 1 c1 ++ [Cell.lst ((r :: rest).eraseIdx i), Cell.lst found]).set (h.length + 1) z = h.set 1 c1 ++ [Cell.lst ((r :: rest).eraseIdx i), z] := fun z => by
          rw [List.set_append_right _ _ (by simp)]; simp
        rw [W_asD]
        refine ⟨found, e5, by unfold sizeLine; omega, ?_⟩
        rw [e6]
        have el : ((r :: rest).eraseIdx i).length = rest.length := by rw [List.length_eraseIdx_of_lt lt]; simp
        refine ⟨rest.length, by omega, (r :: rest).eraseIdx i, found ++ [(r :: rest)[i]], ?_, c1, ?_, el.symm, rfl⟩
        · rw [List.append_assoc]
          exact ((perm_erase (List.getElem?_eq_getElem lt)).append_left found).trans pm
        · exact (s2.down (by simpa using l2)).more (by simp; omega)
    · exact ⟨rfl, xs, [], c0, by simp, by rw [← hc0]; simpa using s, rfl, by rw [← hc0]⟩
  rintro so h1 ⟨rfl, ys, c, pm, s1, rfl⟩
  show W (evB _ _ _ _) _ _ _
  have e2 : (h.set 1 c ++ [Cell.lst [], Cell.lst ys])[h.length + 1]? = some (.lst ys) := by rw [List.getElem?_append_right (by simp)]; simp
  rw [W_B_cons, evS_frz, W_frz rfl e2, seqQ_next]
  simp
  exact q ys c pm s1
end
end Jr

set_option Elab.async false
set_option linter.all false
set_option maxRecDepth 100000
set_option maxHeartbeats 2000000
namespace Jr
open PySem
/-! ### drawn collections -/
def names8 : List Str := [q "a", q "b", q "c", q "d", q "e", q "f", q "gg", q "hh"]
theorem names8_nodup : names8.Nodup := by decide
def sLt (a b : Str) : Prop := a.cps.toList < b.cps.toList
structure Coll (m : Nat) (l : List Str) : Prop where
  sub : ∀ x ∈ l, x ∈ names8
  asc : l.Pairwise sLt
  pos : 1 ≤ l.length
  le : l.length ≤ m
  le8 : l.length ≤ 8
def unS : D → Str
  | .str x => x
  | _ => Str.empty
theorem perm_strs {ys : List D} {l : List Str} (h : ys.Perm (l.map D.str)) : ∃ zs : List Str, ys = zs.map D.str ∧ zs.Perm l := by
  refine ⟨ys.map unS, ?_, ?_⟩
  · have : ∀ y ∈ ys, ∃ z, y = D.str z := fun y hy => by
      obtain ⟨z, _, rfl⟩ := List.mem_map.mp (h.mem_iff.mp hy)
      exact ⟨z, rfl⟩
    rw [List.map_map]
    conv => lhs; rw [← List.map_id ys]
    refine List.map_congr_left fun y hy => ?_
    obtain ⟨z, rfl⟩ := this y hy
    rfl
  · have := h.map unS
    rw [List.map_map] at this
    have e : l.map (unS ∘ D.str) = l := by
      conv => rhs; rw [← List.map_id l]
      rfl
    rwa [e] at this
theorem allS_map : ∀ l : List Str, allS (l.map D.str) = some l
  | [] => rfl
  | x :: l => by
    show (asS (.str x)).bind (fun i => (allS (l.map D.str)).map (i :: ·)) = _
    rw [allS_map l]
    rfl
theorem sortV_strs {l : List Str} (hp : 0 < l.length) (h : l.length < 64) : sortV (l.map D.str) = some ((l.mergeSort sLe).map D.str) := by
  cases l with
  | nil => simp at hp
  | cons x l =>
    have e : allI ((x :: l).map D.str) = none := rfl
    unfold sortV
    rw [e]
    dsimp only
    rw [allS_map]
    dsimp only
    rw [if_pos h]
theorem sLt_of {a b : Str} (h : sLe a b = true) (n : a ≠ b) : sLt a b := by
  refine Classical.byContradiction fun c => n (sLe_anti h ?_)
  unfold sLe
  simp only [Bool.not_eq_true', decide_eq_false_iff_not]
  exact c
theorem sorted_strict {l : List Str} (nd : l.Nodup) : (l.mergeSort sLe).Pairwise sLt := by
  have h1 := sorted_pw (sLe_sorted l)
  have h2 : (l.mergeSort sLe).Nodup := (List.mergeSort_perm l sLe).nodup_iff.mpr nd
  exact (h1.and h2).imp fun ⟨x, y⟩ => sLt_of x y
section
variable {Φ : Nat → Option Def} {N k : Nat} {h : Hh} {E : Nat → Hh → Prop} {ns : List Int} {b : Nat}
theorem W_collection (e8 : Φ 8 = some d__law_draw) (e15 : Φ 15 = some d__law_shuffled) (e : Φ 17 = some d__law_collection) (s : St ns b h) {m : Nat} (hm : 0 < m) (hb : b ≤ 800000) (hns : ns.length ≤ 63) (hN : 1000 < N) {Q : Vl → Hh → Prop}
    (q : ∀ l c, Coll m l → St ns (b + 18) (h.set 1 c) → Q (.d (.tuple (l.map D.str))) (h.set 1 c)) : W (callF Φ N (k + 3) 17 [.r 0, .r 1, .d (.int m)]) h Q E := by
  rw [W_call e rfl]
  simp only [d__law_collection]
  rw [W_B_cons]
  refine W.imp (Q := fun so h1 => ∃ (zs : List Str) (c : Cell), zs.Perm names8 ∧ so = .next [some (.r 0), some (.r 1), some (.d (.int m)), some (.d (.list (zs.map D.str)))] ∧ St ns (b + 16) (h.set 1 c) ∧ h1 = h.set 1 c) ?_ ?_
  · simp [ok_string, sizeLine]
    refine W_shuffled e8 e15 s (xs := names8.map D.str) rfl (by simp [names8]) (by omega) hns hN fun ys c pm s1 => ?_
    obtain ⟨zs, rfl, pm2⟩ := perm_strs pm
    simp
    exact ⟨zs, pm2, rfl, c, s1, rfl⟩
  rintro so h1 ⟨zs, c, pm, rfl, s1, rfl⟩
  show W (evB _ _ _ _) _ _ _
  simp
  refine W_draw e8 (m := (m : Int)) s1 (by omega) (by omega) hns fun r c2 r0 r1 s2 => ?_
  rw [List.set_set] at s2 ⊢
  obtain ⟨i, rfl⟩ : ∃ i : Nat, r = i := ⟨r.toNat, by omega⟩
  have pl := pm.length_eq
  have p8 : names8.length = 8 := rfl
  have ec : cut (zs.map D.str) none (some (1 + (i : Int))) = (zs.take (i + 1)).map D.str := by
    rw [show 1 + (i : Int) = ((i + 1 : Nat) : Int) from by omega, cut_take, List.map_take]
  have lt : (zs.take (i + 1)).length = min (i + 1) 8 := by rw [List.length_take]; omega
  simp [ec]
  have es : sortV (List.map D.str (List.take (i + 1) zs)) = some (((zs.take (i + 1)).mergeSort sLe).map D.str) := sortV_strs (by omega) (by omega)
  rw [List.map_take] at es
  simp [es]
  refine q _ c2 ⟨fun x hx => ?_, sorted_strict (((List.take_sublist _ _).nodup (pm.nodup_iff.mpr names8_nodup))), ?_, ?_, ?_⟩ s2
  · exact pm.mem_iff.mp (List.mem_of_mem_take ((List.mergeSort_perm _ _).mem_iff.mp hx))
  all_goals rw [List.length_mergeSort, lt]; omega
end
end Jr

set_option Elab.async false
set_option linter.all false
set_option maxRecDepth 100000
set_option maxHeartbeats 2000000
namespace Jr
open PySem
section
variable {h : Hh} {X : Nat → Hh → Prop}
theorem W_map {cf : CF} {e c : Jr.E} {t : Tg} {own : List Nat} {en : Env} {dep : Option (Nat × Cell)} {xs : List D} {Q : List D → Hh → Prop} (f : D → D) (d : depOk dep h)
    (hf : ∀ x ∈ xs, W (turnM t own en (fun en => tt (evE cf c en)) (fun en => evE cf e en) x) h (fun b h1 => b = some (f x) ∧ h1 = h) fun _ _ => False) : W (compE cf e t own c en dep xs) h Q X ↔ Q (xs.map f) h := by
  rw [W_compE (fun x => some (f x)) d hf, List.filterMap_eq_map']
end
theorem allB_map {α : Type} (f : α → Bool) : ∀ xs : List α, allB (xs.map fun x => .bool (f x)) = some (xs.map f)
  | [] => rfl
  | x :: l => by
    show (asB (.bool (f x))).bind (fun i => (allB (l.map fun x => .bool (f x))).map (i :: ·)) = _
    rw [allB_map f l]
    rfl
theorem all_map {α : Type} (f : α → Bool) (xs : List α) : bltV .all [.list (xs.map fun x => .bool (f x))] = some (.bool (xs.all f)) := by
  unfold bltV
  dsimp only
  rw [allB_map]
  simp [List.all_map, Function.comp_def]
theorem any_map {α : Type} (f : α → Bool) (xs : List α) : bltV .any [.list (xs.map fun x => .bool (f x))] = some (.bool (xs.any f)) := by
  unfold bltV
  dsimp only
  rw [allB_map]
  simp [List.any_map, Function.comp_def]
/-! ### documents, collections -/
def okc (c : Nat) : Bool := decide (97 ≤ c) && decide (c ≤ 122)
def isDoc : D → Bool
  | .str s => decide (1 ≤ s.length) && decide (s.length ≤ 3) && s.cps.toList.all okc
  | _ => false
def ltS : D → D → Bool
  | .str a, .str b => decide (a.cps.toList < b.cps.toList)
  | _, _ => false
def ascD (xs : List D) : Bool := (zipD xs (xs.tail)).all fun p => match p with
  | .tuple [a, b] => ltS a b
  | _ => false
def isColl : D → Bool
  | .tuple xs => decide (1 ≤ xs.length) && decide (xs.length ≤ 7) && xs.all isDoc && ascD xs
  | _ => false
def sgn : D → Bool
  | .str z => match z.cps.toList with
    | [c] => okc c
    | _ => false
  | _ => false
theorem isDoc_str {x : D} (h : isDoc x = true) : ∃ s, x = .str s := by
  cases x with
  | str s => exact ⟨s, rfl⟩
  | _ => cases h
theorem qa : (q "a").cps.toList = [97] := by decide
theorem qz : (q "z").cps.toList = [122] := by decide
theorem leV_a (c : Nat) : leV (.str (q "a")) (.str ⟨#[c]⟩) = some (decide (97 ≤ c)) := by
  show some (!decide ([c] < (q "a").cps.toList)) = _
  rw [qa]
  have n1 : ([c] < [97]) ↔ c < 97 := by rw [List.cons_lt_cons_iff]; simp
  by_cases a1 : c < 97
  · have b1 : ¬ 97 ≤ c := by omega
    rw [decide_eq_true (n1.mpr a1), decide_eq_false b1]; rfl
  · have b1 : 97 ≤ c := by omega
    rw [decide_eq_false (fun z => a1 (n1.mp z)), decide_eq_true b1]; rfl
theorem leV_z (c : Nat) : leV (.str ⟨#[c]⟩) (.str (q "z")) = some (decide (c ≤ 122)) := by
  show some (!decide ((q "z").cps.toList < [c])) = _
  rw [qz]
  have n1 : ([122] < [c]) ↔ 122 < c := by rw [List.cons_lt_cons_iff]; simp
  by_cases a1 : 122 < c
  · have b1 : ¬ c ≤ 122 := by omega
    rw [decide_eq_true (n1.mpr a1), decide_eq_false b1]; rfl
  · have b1 : c ≤ 122 := by omega
    rw [decide_eq_false (fun z => a1 (n1.mp z)), decide_eq_true b1]; rfl
section
variable {Φ : Nat → Option Def} {N k : Nat} {h : Hh} {E : Nat → Hh → Prop}
theorem W_is_document (e : Φ 10 = some d_is_document) {x : D} (hs : ∀ s, x = .str s → s.length ≤ 16777216) {Q : Vl → Hh → Prop} : W (callF Φ N (k + 1) 10 [.d x]) h Q E ↔ Q (.d (.bool (isDoc x))) h := by
  rw [W_call e rfl]
  cases x with
  | str s =>
    have hl := hs s rfl
    have e1 : bltV .len [.str s] = some (.int s.length) := if_pos hl
    by_cases h1 : 1 ≤ s.length
    · by_cases h3 : s.length ≤ 3
      · have e2 : itemsV (.str s) = some (s.cps.toList.map fun c => .str ⟨#[c]⟩) := if_pos (show s.cps.size ≤ sizeLine from hl)
        have h1' : (1 : Int) ≤ s.length := by omega
        have h3' : (s.length : Int) ≤ 3 := by omega
        have hm : ∀ {Q : List D → Hh → Prop} {E : Nat → Hh → Prop}, W (compE (callF Φ N k) (Jr.E.chn COp.le COp.le (Jr.E.str (q "a")) (Jr.E.var 1) (Jr.E.str (q "z"))) (Tg.nm 1) [1] (Jr.E.bl true) [some (Vl.d (D.str s)), none] none (s.cps.toList.map fun c => .str ⟨#[c]⟩)) h Q E ↔ Q ((s.cps.toList.map fun c => D.str ⟨#[c]⟩).map fun x => .bool (sgn x)) h := by
          intro Q E
          refine W_map (fun x => .bool (sgn x)) depOk_none fun x hx => ?_
          obtain ⟨c, _, rfl⟩ := List.mem_map.mp hx
          rw [W_turn]
          by_cases a1 : 97 ≤ c <;> simp [ok_string, leV_a, leV_z, sgn, okc, a1]
        simp [d_is_document, isDoc, e1, h1, h3, h1', h3', e2, hm]
        rw [show ((fun x => D.bool (sgn x)) ∘ fun c => D.str ⟨#[c]⟩) = fun c : Nat => D.bool (okc c) from rfl, all_map]
        simp
      · have h1' : (1 : Int) ≤ s.length := by omega
        have h3' : ¬ (s.length : Int) ≤ 3 := by omega
        simp [d_is_document, isDoc, e1, h1, h3, h1', h3']
    · have h1' : ¬ (1 : Int) ≤ s.length := by omega
      simp [d_is_document, isDoc, e1, h1, h1']
  | _ => simp [d_is_document, isDoc]
theorem W_is_ascending (e : Φ 9 = some d_is_ascending) {xs : List D} (hs : ∀ x ∈ xs, ∃ s, x = .str s) {Q : Vl → Hh → Prop} : W (callF Φ N (k + 1) 9 [.d (.tuple xs)]) h Q E ↔ Q (.d (.bool (ascD xs))) h := by
  rw [W_call e rfl]
  have hm : ∀ {Q : List D → Hh → Prop} {E : Nat → Hh → Prop}, W (compE (callF Φ N k) (Jr.E.cmp COp.lt (Jr.E.var 1) (Jr.E.var 2)) (Tg.tp [1, 2]) [1, 2] (Jr.E.bl true) [some (Vl.d (D.tuple xs)), none, none] none (zipD xs (xs.tail))) h Q E ↔ Q ((zipD xs (xs.tail)).map fun p => .bool (match p with
    | .tuple [a, b] => ltS a b
    | _ => false)) h := by
    intro Q E
    refine W_map _ depOk_none fun x hx => ?_
    obtain ⟨i, hi⟩ := List.mem_iff_getElem?.mp hx
    obtain ⟨y, z, e1, e2, rfl⟩ := zipD_get _ _ _ _ hi
    obtain ⟨a, rfl⟩ := hs y (List.mem_of_getElem? e1)
    obtain ⟨b, rfl⟩ := hs z (List.mem_of_mem_tail (List.mem_of_getElem? e2))
    rw [W_turn]
    simp [ltV, ltS]
  simp [d_is_ascending, cut_tail, zip2V, hm]
  rw [all_map]
  simp [ascD]
theorem W_is_collection (e9 : Φ 9 = some d_is_ascending) (e10 : Φ 10 = some d_is_document) (e : Φ 11 = some d_is_collection) {x : D} (hs : ∀ xs, x = .tuple xs → ∀ s, .str s ∈ xs → s.length ≤ 16777216) {Q : Vl → Hh → Prop} :
    W (callF Φ N (k + 2) 11 [.d x]) h Q E ↔ Q (.d (.bool (isColl x))) h := by
  rw [W_call e rfl]
  cases x with
  | tuple xs =>
    by_cases h1 : 1 ≤ xs.length
    · have h1' : (1 : Int) ≤ xs.length := by omega
      by_cases h7 : xs.length ≤ 7
      · have h7' : (xs.length : Int) ≤ 7 := by omega
        have hm : ∀ {Q : List D → Hh → Prop} {E : Nat → Hh → Prop}, W (compE (callF Φ N (k + 1)) (Jr.E.call 10 (Es.cons (Jr.E.var 1) Es.nil)) (Tg.nm 1) [1] (Jr.E.bl true) [some (Vl.d (D.tuple xs)), none] none xs) h Q E ↔ Q (xs.map fun x => .bool (isDoc x)) h := by
          intro Q E
          refine W_map (fun x => .bool (isDoc x)) depOk_none fun x hx => ?_
          rw [W_turn]
          have := fun Q E => W_is_document (N := N) (k := k) (h := h) (E := E) e10 (x := x) (fun s es => hs xs rfl s (es ▸ hx)) (Q := Q)
          simp [this]
        simp [d_is_collection, h1', h7', hm]
        rw [all_map]
        cases ha : xs.all isDoc with
        | false => simp [isColl, ha]
        | true =>
          have hd : ∀ x ∈ xs, ∃ s, x = .str s := fun x hx => isDoc_str (List.all_eq_true.mp ha x hx)
          simp [isColl, ha, h1, h7, W_is_ascending e9 hd]
      · have h7' : ¬ (xs.length : Int) ≤ 7 := by omega
        simp [d_is_collection, isColl, h1', h7', h7]
    · have h1' : ¬ (1 : Int) ≤ xs.length := by omega
      simp [d_is_collection, isColl, h1', h1]
  | _ => simp [d_is_collection, isColl]
theorem W_require_collection (e9 : Φ 9 = some d_is_ascending) (e10 : Φ 10 = some d_is_document) (e11 : Φ 11 = some d_is_collection) (e : Φ 13 = some d_require_collection) {x : D} (hs : ∀ xs, x = .tuple xs → ∀ s, .str s ∈ xs → s.length ≤ 16777216) {Q : Vl → Hh → Prop} :
    W (callF Φ N (k + 3) 13 [.d x]) h Q E ↔ if isColl x = true then Q (.d .none) h else E 12 h := by
  rw [W_call e rfl]
  have := fun Q E => W_is_collection (N := N) (k := k) (h := h) (E := E) e9 e10 e11 hs (Q := Q)
  cases hc : isColl x <;> simp [d_require_collection, this, hc]
end
end Jr

set_option Elab.async false
set_option linter.all false
set_option maxRecDepth 100000
set_option maxHeartbeats 2000000
namespace Jr
open PySem
@[simp] theorem sl_1 : 1 ≤ sizeLine := by unfold sizeLine; omega
@[simp] theorem sl_2 : 2 ≤ sizeLine := by unfold sizeLine; omega
@[simp] theorem sl_3 : 3 ≤ sizeLine := by unfold sizeLine; omega
@[simp] theorem sl_4 : 4 ≤ sizeLine := by unfold sizeLine; omega
@[simp] theorem sl_5 : 5 ≤ sizeLine := by unfold sizeLine; omega
@[simp] theorem sl_6 : 6 ≤ sizeLine := by unfold sizeLine; omega
@[simp] theorem sl_7 : 7 ≤ sizeLine := by unfold sizeLine; omega
@[simp] theorem sl_8 : 8 ≤ sizeLine := by unfold sizeLine; omega
@[simp] theorem sl_9 : 9 ≤ sizeLine := by unfold sizeLine; omega
@[simp] theorem sl_10 : 10 ≤ sizeLine := by unfold sizeLine; omega
@[simp] theorem sl_11 : 11 ≤ sizeLine := by unfold sizeLine; omega
@[simp] theorem sl_12 : 12 ≤ sizeLine := by unfold sizeLine; omega
@[simp] theorem sl_13 : 13 ≤ sizeLine := by unfold sizeLine; omega
@[simp] theorem sl_14 : 14 ≤ sizeLine := by unfold sizeLine; omega
@[simp] theorem sl_15 : 15 ≤ sizeLine := by unfold sizeLine; omega
@[simp] theorem sl_16 : 16 ≤ sizeLine := by unfold sizeLine; omega
@[simp] theorem sl_17 : 17 ≤ sizeLine := by unfold sizeLine; omega
@[simp] theorem sl_18 : 18 ≤ sizeLine := by unfold sizeLine; omega
@[simp] theorem sl_19 : 19 ≤ sizeLine := by unfold sizeLine; omega
@[simp] theorem sl_20 : 20 ≤ sizeLine := by unfold sizeLine; omega
@[simp] theorem sl_21 : 21 ≤ sizeLine := by unfold sizeLine; omega
@[simp] theorem sl_22 : 22 ≤ sizeLine := by unfold sizeLine; omega
@[simp] theorem sl_23 : 23 ≤ sizeLine := by unfold sizeLine; omega
@[simp] theorem sl_24 : 24 ≤ sizeLine := by unfold sizeLine; omega
@[simp] theorem sl_25 : 25 ≤ sizeLine := by unfold sizeLine; omega
@[simp] theorem sl_26 : 26 ≤ sizeLine := by unfold sizeLine; omega
@[simp] theorem sl_27 : 27 ≤ sizeLine := by unfold sizeLine; omega
@[simp] theorem sl_28 : 28 ≤ sizeLine := by unfold sizeLine; omega
@[simp] theorem sl_29 : 29 ≤ sizeLine := by unfold sizeLine; omega
@[simp] theorem sl_30 : 30 ≤ sizeLine := by unfold sizeLine; omega
section
variable {h : Hh} {E : Nat → Hh → Prop}
/-- a comprehension over typed items -/
theorem W_compT {T : Type} {cf : CF} {e c : Jr.E} {t : Tg} {own : List Nat} {en : Env} {dep : Option (Nat × Cell)} {emb : T → D} {ts : List T} {Q : List D → Hh → Prop} (g : T → Option D) (d : depOk dep h)
    (hf : ∀ x ∈ ts, W (turnM t own en (fun en => tt (evE cf c en)) (fun en => evE cf e en) (emb x)) h (fun b h1 => b = g x ∧ h1 = h) fun _ _ => False) : W (compE cf e t own c en dep (ts.map emb)) h Q E ↔ Q (ts.filterMap g) h := by
  refine W.eq ?_
  unfold compE
  induction ts with
  | nil => exact comp_eq (g := fun _ => none) d (by simp)
  | cons x ts ih =>
    rw [List.map_cons]
    show M.bind (same dep) (fun _ => M.bind (noExc (turnM t own en (fun en => tt (evE cf c en)) (fun en => evE cf e en) (emb x))) fun y => M.bind (compL dep (turnM t own en (fun en => tt (evE cf c en)) (fun en => evE cf e en)) (ts.map emb)) fun ys => M.pure (match y with
      | some y => y :: ys
      | none => ys)) h = _
    unfold M.bind
    rw [same_of d]
    dsimp only
    unfold noExc
    rw [(hf x List.mem_cons_self).toEq]
    dsimp only
    rw [ih fun y hy => hf y (List.mem_cons_of_mem _ hy)]
    dsimp only [M.pure]
    cases e : g x with
    | none => rw [List.filterMap_cons_none e]
    | some y => rw [List.filterMap_cons_some e]
theorem W_mapT {T : Type} {cf : CF} {e c : Jr.E} {t : Tg} {own : List Nat} {en : Env} {dep : Option (Nat × Cell)} {emb : T → D} {ts : List T} {Q : List D → Hh → Prop} (f : T → D) (d : depOk dep h)
    (hf : ∀ x ∈ ts, W (turnM t own en (fun en => tt (evE cf c en)) (fun en => evE cf e en) (emb x)) h (fun b h1 => b = some (f x) ∧ h1 = h) fun _ _ => False) : W (compE cf e t own c en dep (ts.map emb)) h Q E ↔ Q (ts.map f) h := by
  rw [W_compT (fun x => some (f x)) d hf, List.filterMap_eq_map']
/-- with a condition -/
theorem W_filT {T : Type} {cf : CF} {e c : Jr.E} {t : Tg} {own : List Nat} {en : Env} {dep : Option (Nat × Cell)} {emb : T → D} {ts : List T} {Q : List D → Hh → Prop} (p : T → Bool) (f : T → D) (d : depOk dep h)
    (hf : ∀ x ∈ ts, W (turnM t own en (fun en => tt (evE cf c en)) (fun en => evE cf e en) (emb x)) h (fun b h1 => b = (if p x = true then some (f x) else none) ∧ h1 = h) fun _ _ => False) : W (compE cf e t own c en dep (ts.map emb)) h Q E ↔ Q ((ts.filter p).map f) h := by
  rw [W_compT (fun x => if p x = true then some (f x) else none) d hf]
  have : ∀ ts : List T, ts.filterMap (fun x => if p x = true then some (f x) else none) = (ts.filter p).map f := by
    intro ts
    induction ts with
    | nil => rfl
    | cons x ts ih => rw [List.filterMap_cons, List.filter_cons, ih]; cases p x <;> rfl
  rw [this]
theorem comp2_eqT {T : Type} {dep : Option (Nat × Cell)} {F : D → M (List D)} {emb : T → D} {g : T → List D} (d : depOk dep h) : ∀ {ts : List T}, (∀ x ∈ ts, F (emb x) h = some (.ok (g x), h)) → comp2L dep F (ts.map emb) h = some (.ok (ts.flatMap g), h)
  | [], _ => comp2_eq (g := fun _ => []) d (by simp)
  | x :: ts, hf => by
    rw [List.map_cons]
    show M.bind (same dep) (fun _ => M.bind (noExc (F (emb x))) fun y => M.bind (comp2L dep F (ts.map emb)) fun ys => M.pure (y ++ ys)) h = _
    unfold M.bind
    rw [same_of d]
    dsimp only
    unfold noExc
    rw [hf x List.mem_cons_self]
    dsimp only
    rw [comp2_eqT d fun y hy => hf y (List.mem_cons_of_mem _ hy)]
    rfl
theorem W_comp2T {T : Type} {cf : CF} {e c : Jr.E} {t t1 : Tg} {own own1 : List Nat} {it1 : It} {en : Env} {dep : Option (Nat × Cell)} {emb : T → D} {ts : List T} {Q : List D → Hh → Prop} (g : T → List D) (d : depOk dep h)
    (hf : ∀ x ∈ ts, W (ofO (asgT t (.d (emb x)) (wipe en own))) h (fun en1 h1 => W (evI cf it1 en1) h1 (fun q h2 => W (compE cf e t1 own1 c en1 q.1 q.2) h2 (fun b h3 => b = g x ∧ h3 = h) fun _ _ => False) fun _ _ => False) fun _ _ => False) : W (comp2E cf e t t1 own own1 it1 c en dep (ts.map emb)) h Q E ↔ Q (ts.flatMap g) h := by
  refine W.eq (comp2_eqT d fun x hx => W.toEq ?_)
  have := hf x hx
  unfold turn2M
  simpa only [W_bind] using this
/-- a loop that leaves the heap alone -/
theorem W_forT {T S : Type} {cf : CF} {N : Nat} {t : Tg} {b : B} {emb : T → D} {ts : List T} {en : Env} {Q : SO → Hh → Prop} (R : S → List T → Env → Prop) (step : S → T → S) (s0 : S) (i0 : R s0 ts en)
    (hb : ∀ s x rest en, R s (x :: rest) en → W (M.bind (ofO (asgT t (.d (emb x)) en)) fun en1 => evB cf N b en1) h (fun so h1 => (∃ en', so = .next en' ∧ R (step s x) rest en') ∧ h1 = h) E)
    (q : ∀ en, R (ts.foldl step s0) [] en → Q (.next en) h) : W (forE cf N t b none (ts.map emb) en) h Q E := by
  unfold forE
  refine W_forL (fun xs en h' => ∃ rest s, xs = rest.map emb ∧ R s rest en ∧ rest.foldl step s = ts.foldl step s0 ∧ h' = h) ⟨ts, s0, rfl, i0, rfl, rfl⟩ ?_ ?_
  · rintro x xs en h' ⟨rest, s, ex, r, hs, rfl⟩
    refine ⟨trivial, ?_⟩
    cases rest with
    | nil => cases ex
    | cons y rest =>
      rw [List.map_cons] at ex
      cases ex
      refine (hb _ _ _ _ r).imp ?_
      rintro so h1 ⟨⟨en', rfl, r'⟩, rfl⟩
      exact ⟨rest, _, rfl, r', hs, rfl⟩
  · rintro en h' ⟨rest, s, ex, r, hs, rfl⟩
    cases rest with
    | nil => exact ⟨trivial, q _ (by rw [← hs]; exact r)⟩
    | cons _ _ => cases ex
/-- a loop, told by what is done and what is left -/
theorem W_forI {T : Type} {cf : CF} {N : Nat} {t : Tg} {b : B} {emb : T → D} {ts : List T} {en : Env} {Q : SO → Hh → Prop} (R : List T → Env → Hh → Prop) (i0 : R [] en h)
    (hb : ∀ d x r en h, d ++ x :: r = ts → R d en h → W (M.bind (ofO (asgT t (.d (emb x)) en)) fun en1 => evB cf N b en1) h (fun so h1 => ∃ en', so = .next en' ∧ R (d ++ [x]) en' h1) E)
    (q : ∀ en h, R ts en h → Q (.next en) h) : W (forE cf N t b none (ts.map emb) en) h Q E := by
  unfold forE
  refine W_forL (fun xs en h' => ∃ d r, xs = r.map emb ∧ d ++ r = ts ∧ R d en h') ⟨[], ts, rfl, rfl, i0⟩ ?_ ?_
  · rintro x xs en h' ⟨d, r, ex, hd, hr⟩
    refine ⟨trivial, ?_⟩
    cases r with
    | nil => cases ex
    | cons y r =>
      rw [List.map_cons] at ex
      cases ex
      refine (hb _ _ _ _ _ hd hr).imp ?_
      rintro so h1 ⟨en', rfl, r'⟩
      exact ⟨d ++ [y], r, rfl, by rw [← hd]; simp, r'⟩
  · rintro en h' ⟨d, r, ex, hd, hr⟩
    cases r with
    | nil =>
      rw [List.append_nil] at hd
      subst hd
      exact ⟨trivial, q _ _ hr⟩
    | cons _ _ => cases ex
/-- a loop that only looks, and leaves but its own variable -/
theorem W_forC {cf : CF} {N i : Nat} {b : B} {xs : List D} {en : Env} {Q : SO → Hh → Prop} (hi : i < en.length) (hb : ∀ x ∈ xs, W (evB cf N b (en.set i (some (.d x)))) h (fun so h1 => so = .next (en.set i (some (.d x))) ∧ h1 = h) E)
    (q : ∀ o, Q (.next (en.set i o)) h) : W (forE cf N (.nm i) b none xs en) h Q E := by
  unfold forE
  refine W_forL (fun ys en' h' => (∃ o, en' = en.set i o) ∧ (∀ y ∈ ys, y ∈ xs) ∧ h' = h) ⟨⟨en[i], by simp⟩, fun _ h => h, rfl⟩ ?_ ?_
  · rintro x ys en' h' ⟨⟨o, rfl⟩, hm, rfl⟩
    refine ⟨trivial, ?_⟩
    simp only [W_bind, asgT_nm, List.length_set, hi, if_true, W_ofO_some, List.set_set]
    refine (hb x (hm x List.mem_cons_self)).imp ?_
    rintro so h1 ⟨rfl, rfl⟩
    exact ⟨⟨_, rfl⟩, fun y hy => hm y (List.mem_cons_of_mem _ hy), rfl⟩
  · rintro en' h' ⟨⟨o, rfl⟩, _, rfl⟩
    exact ⟨trivial, q o⟩
/-- from a reading to a rule -/
theorem W.rule {α : Type} {m : M α} {a : α} {Q : α → Hh → Prop} (w : W m h (fun b h1 => b = a ∧ h1 = h) fun _ _ => False) : W m h Q E ↔ Q a h := W.eq w.toEq
end
theorem W_try {hs : List (Nat × Str)} {x : M SO} {h : Hh} {Q : SO → Hh → Prop} {E : Nat → Hh → Prop} : W (tryM hs x) h Q E ↔ W x h Q fun c h1 => match hs.find? (fun p => p.1 == c) with
    | some p => Q (.ret (.d (.str p.2))) h1
    | none => E c h1 := by
  unfold W tryM
  cases x h with
  | none => exact Iff.rfl
  | some p =>
    obtain ⟨r, h1⟩ := p
    cases r with
    | ok a => exact Iff.rfl
    | exc c =>
      dsimp only
      cases hs.find? (fun p => p.1 == c) <;> exact Iff.rfl
end Jr

set_option Elab.async false
set_option linter.all false
set_option maxRecDepth 100000
set_option maxHeartbeats 2000000
namespace Jr
open PySem
/-! ### entries, completions -/
def bd (b : Bool) : D := .int (b2 b)
def ej : Option Bool → D
  | none => .none
  | some b => bd b
def isEnt (d : D) : Bool := isNone d || isIntIn d 0 1
theorem isEnt_of {d : D} (h : isEnt d = true) : ∃ e, d = ej e := by
  rcases d with _ | _ | i | _ | _ | _
  · exact ⟨none, rfl⟩
  · simp [isEnt, isIntIn] at h
  · simp [isEnt, isIntIn] at h
    have : i = 0 ∨ i = 1 := by omega
    rcases this with rfl | rfl
    · exact ⟨some false, rfl⟩
    · exact ⟨some true, rfl⟩
  all_goals simp [isEnt, isIntIn] at h
@[simp] theorem isNone_bd {b : Bool} : isNone (bd b) = false := rfl
@[simp] theorem isEnt_ej (e : Option Bool) : isEnt (ej e) = true := by
  rcases e with _ | _ | _ <;> rfl
theorem ents_of : ∀ {xs : List D}, xs.all isEnt = true → ∃ js : List (Option Bool), xs = js.map ej
  | [], _ => ⟨[], rfl⟩
  | x :: xs, h => by
    rw [List.all_cons, Bool.and_eq_true] at h
    obtain ⟨e, rfl⟩ := isEnt_of h.1
    obtain ⟨js, rfl⟩ := ents_of h.2
    exact ⟨e :: js, rfl⟩
@[simp] theorem all_ej (js : List (Option Bool)) : (js.map ej).all isEnt = true := by
  rw [List.all_map]
  simp [Function.comp_def]
def validJ (n : Nat) : D → Bool
  | .tuple xs => decide (xs.length = n) && xs.all isEnt
  | _ => false
@[simp] theorem validJ_ej {n : Nat} (js : List (Option Bool)) : validJ n (.tuple (js.map ej)) = decide (js.length = n) := by simp [validJ]
theorem validJ_of {n : Nat} {x : D} (h : validJ n x = true) : ∃ js : List (Option Bool), x = .tuple (js.map ej) ∧ js.length = n := by
  rcases x with _ | _ | _ | _ | _ | xs
  case tuple =>
    simp only [validJ, Bool.and_eq_true, decide_eq_true_eq] at h
    obtain ⟨js, rfl⟩ := ents_of h.2
    exact ⟨js, rfl, by simpa using h.1⟩
  all_goals cases h
def clen : D → Nat
  | .tuple xs => xs.length
  | _ => 0
@[simp] theorem clen_tuple {xs : List D} : clen (.tuple xs) = xs.length := rfl
structure TC (Φ : Nat → Option Def) : Prop where
  e9 : Φ 9 = some d_is_ascending
  e10 : Φ 10 = some d_is_document
  e11 : Φ 11 = some d_is_collection
  e13 : Φ 13 = some d_require_collection
structure TV (Φ : Nat → Option Def) : Prop extends TC Φ where
  e6 : Φ 6 = some d_is_integer
  e19 : Φ 19 = some d_are_valid_judgements
structure TJ (Φ : Nat → Option Def) : Prop extends TV Φ where
  e21 : Φ 21 = some d_require_judgements
/-- its texts are short -/
def Shr (c : D) : Prop := ∀ xs, c = .tuple xs → ∀ s, D.str s ∈ xs → s.length ≤ 16777216
section
variable {Φ : Nat → Option Def} {N k : Nat} {h : Hh} {E : Nat → Hh → Prop}
theorem W_valid_judgements (T : TV Φ) {x : D} {cs : List D} {Q : Vl → Hh → Prop} :
    W (callF Φ N (k + 2) 19 [.d (.tuple cs), .d x]) h Q E ↔ Q (.d (.bool (validJ cs.length x))) h := by
  rw [W_call T.e19 rfl]
  rcases x with _ | _ | _ | _ | _ | xs
  case tuple =>
    by_cases hl : xs.length = cs.length
    · have hl' : (xs.length : Int) = cs.length := by omega
      have hm : ∀ {Q : List D → Hh → Prop} {E : Nat → Hh → Prop}, W (compE (callF Φ N (k + 1)) (Jr.E.or (Es.cons (Jr.E.cmp COp.is (Jr.E.var 2) Jr.E.non) (Es.cons (Jr.E.call 6 (Es.cons (Jr.E.var 2) (Es.cons (Jr.E.int 0) (Es.cons (Jr.E.int 1) Es.nil)))) Es.nil))) (Tg.nm 2) [2] (Jr.E.bl true) [some (Vl.d (D.tuple cs)), some (Vl.d (D.tuple xs)), none] none xs) h Q E ↔ Q (xs.map fun x => .bool (isEnt x)) h := by
        intro Q E
        refine W_map (fun x => .bool (isEnt x)) depOk_none fun x hx => ?_
        rw [W_turn]
        cases hn : isNone x <;> simp [hn, isEnt, W_is_integer T.e6]
      simp [d_are_valid_judgements, validJ, hl, hm]
      rw [all_map]
      simp
    · have hl' : ¬ (xs.length : Int) = cs.length := by omega
      simp [d_are_valid_judgements, validJ, hl, hl']
  all_goals simp [d_are_valid_judgements, validJ]
theorem isColl_tup {c : D} (h : isColl c = true) : ∃ cs, c = .tuple cs := by
  rcases c with _ | _ | _ | _ | _ | cs
  case tuple => exact ⟨cs, rfl⟩
  all_goals cases h
theorem W_are_judgements (T : TV Φ) (e : Φ 35 = some d_are_judgements) {c x : D} (hs : Shr c) {Q : Vl → Hh → Prop} : W (callF Φ N (k + 4) 35 [.d c, .d x]) h Q E ↔ if isColl c = true then Q (.d (.bool (validJ (clen c) x))) h else E 12 h := by
  rw [W_call e rfl]
  have := fun Q E => W_require_collection (N := N) (k := k) (h := h) (E := E) T.e9 T.e10 T.e11 T.e13 hs (Q := Q)
  cases hc : isColl c
  · simp [d_are_judgements, this, hc]
  · obtain ⟨cs, rfl⟩ := isColl_tup hc
    simp [d_are_judgements, this, hc, W_valid_judgements T]
theorem W_require_judgements (T : TJ Φ) {c x : D} (hs : Shr c) {Q : Vl → Hh → Prop} : W (callF Φ N (k + 4) 21 [.d c, .d x]) h Q E ↔ if isColl c = true then (if validJ (clen c) x = true then Q (.d .none) h else E 20 h) else E 12 h := by
  rw [W_call T.e21 rfl]
  have := fun Q E => W_require_collection (N := N) (k := k) (h := h) (E := E) T.e9 T.e10 T.e11 T.e13 hs (Q := Q)
  cases hc : isColl c
  · simp [d_require_judgements, this, hc]
  · obtain ⟨cs, rfl⟩ := isColl_tup hc
    cases hv : validJ cs.length x <;> simp [d_require_judgements, this, hc, W_valid_judgements T.toTV, hv]
end
theorem bd_inj {a b : Bool} (h : bd a = bd b) : a = b := by cases a <;> cases b <;> first | rfl | (cases h)
theorem ej1_inj : ∀ {a b : Option Bool}, ej a = ej b → a = b
  | none, none, _ => rfl
  | none, some b, h => by cases h
  | some a, none, h => by cases h
  | some a, some b, h => by rw [bd_inj h]
theorem ej_inj : ∀ {a b : List (Option Bool)}, a.map ej = b.map ej → a = b
  | [], [], _ => rfl
  | [], _ :: _, h => by cases h
  | _ :: _, [], h => by cases h
  | x :: a, y :: b, h => by
    rw [List.map_cons, List.map_cons, List.cons.injEq] at h
    rw [ej1_inj h.1, ej_inj h.2]
def unE : D → Option Bool
  | .int i => some (i != 0)
  | _ => none
def unT : D → List D
  | .tuple xs => xs
  | _ => []
def unJ (x : D) : List (Option Bool) := (unT x).map unE
def unSs (x : D) : List Str := (unT x).map unS
@[simp] theorem unE_ej : ∀ e : Option Bool, unE (ej e) = e
  | none => rfl
  | some b => by cases b <;> rfl
@[simp] theorem unT_tuple {xs : List D} : unT (.tuple xs) = xs := rfl
@[simp] theorem unJ_ej {js : List (Option Bool)} : unJ (.tuple (js.map ej)) = js := by
  simp [unJ, Function.comp_def]
@[simp] theorem unS_str {s : Str} : unS (.str s) = s := rfl
@[simp] theorem unSs_str {cs : List Str} : unSs (.tuple (cs.map .str)) = cs := by
  simp [unSs, Function.comp_def]
theorem docs_strs : ∀ {xs : List D}, xs.all isDoc = true → ∃ cs : List Str, xs = cs.map .str
  | [], _ => ⟨[], rfl⟩
  | x :: xs, h => by
    rw [List.all_cons, Bool.and_eq_true] at h
    obtain ⟨s, rfl⟩ := isDoc_str h.1
    obtain ⟨cs, rfl⟩ := docs_strs h.2
    exact ⟨s :: cs, rfl⟩
theorem isColl_strs {c : D} (h : isColl c = true) : ∃ cs : List Str, c = .tuple (cs.map .str) := by
  obtain ⟨xs, rfl⟩ := isColl_tup h
  simp only [isColl, Bool.and_eq_true] at h
  obtain ⟨cs, rfl⟩ := docs_strs h.1.2
  exact ⟨cs, rfl⟩
theorem collJ {c x : D} (hc : isColl c = true) (hv : validJ (clen c) x = true) : ∃ js : List (Option Bool), x = .tuple (js.map ej) ∧ js.length = clen c ∧ js.length ≤ 7 := by
  obtain ⟨js, rfl, hl⟩ := validJ_of hv
  obtain ⟨cs, rfl⟩ := isColl_tup hc
  simp [isColl] at hc
  exact ⟨js, rfl, hl, by rw [hl]; exact hc.1.1.2⟩
def openD (cs : List D) (js : List (Option Bool)) : List D := ((cs.zip js).filter fun p => p.2.isNone).map (·.1)
theorem zipD_ej : ∀ (cs : List D) (js : List (Option Bool)), zipD cs (js.map ej) = (cs.zip js).map fun p => .tuple [p.1, ej p.2]
  | [], _ => by simp [zipD]
  | _ :: _, [] => by simp [zipD]
  | c :: cs, j :: js => by simp [zipD, zipD_ej cs js]
theorem deps_strs (cs : List Str) : deps (cs.map .str) = 0 := by
  induction cs with
  | nil => simp
  | cons c cs ih => simp [ih]
theorem idxV_strs {cs : List Str} {d : Str} (hd : d ∈ cs) (h7 : cs.length ≤ 1000) : idxV (cs.map .str) (.str d) = some (.int (cs.idxOf d : Nat)) := by
  have key : ∀ cs : List Str, d ∈ cs → (cs.map D.str).findIdx? (fun z => eqv z (.str d)) = some (cs.idxOf d) := by
    intro cs
    induction cs with
    | nil => intro h; cases h
    | cons c cs ih =>
      intro h
      rw [List.map_cons, List.findIdx?_cons, eqv_str_str]
      by_cases e : c = d
      · subst e; simp
      · rw [decide_eq_false e, ih (by rcases List.mem_cons.mp h with q | q; exact absurd q.symm e; exact q)]
        have e2 : (c == d) = false := beq_eq_false_iff_ne.mpr e
        simp [List.idxOf_cons, e2]
  unfold idxV
  rw [if_pos ⟨by simp [deps_strs], by simpa using h7⟩, key cs hd]
  rfl
theorem any_str {cs : List Str} {s : Str} : (cs.map D.str).any (fun z => eqv z (.str s)) = decide (s ∈ cs) := by
  induction cs with
  | nil => simp
  | cons c cs ih =>
    rw [List.map_cons, List.any_cons, ih, eqv_str_str]
    by_cases e : c = s
    · subst e; simp
    · have e2 : ¬ s = c := fun z => e z.symm
      simp [e, e2]
def isIn (cs : List Str) : D → Bool
  | .str s => decide (s ∈ cs)
  | _ => false
theorem isIn_of {cs : List Str} {d : D} (h : isIn cs d = true) : ∃ s, d = .str s ∧ s ∈ cs := by
  rcases d with _ | _ | _ | s | _ | _
  case str => exact ⟨s, rfl, of_decide_eq_true h⟩
  all_goals cases h
theorem set_eq {α : Type} {xs : List α} {i : Nat} {v : α} (h : i < xs.length) : xs.set i v = xs.take i ++ [v] ++ xs.drop (i + 1) := by
  rw [List.set_eq_take_append_cons_drop, if_pos h]
  simp
/-! ### all completions -/
def rowD (r : List Bool) : D := .tuple (r.map bd)
def opts : Option Bool → List Bool
  | none => [false, true]
  | some b => [b]
def comps : List (Option Bool) → List (List Bool)
  | [] => [[]]
  | e :: js => (opts e).flatMap fun b => (comps js).map (b :: ·)
def stepF (rows : List (List Bool)) (e : Option Bool) : List (List Bool) := rows.flatMap fun r => (opts e).map fun b => r ++ [b]
theorem foldF : ∀ (js : List (Option Bool)) (rows : List (List Bool)), js.foldl stepF rows = rows.flatMap fun r => (comps js).map (r ++ ·)
  | [], rows => by
    show rows = rows.flatMap fun r => [r ++ []]
    induction rows with
    | nil => rfl
    | cons r rs ih => rw [List.flatMap_cons, ← ih]; simp
  | e :: js, rows => by
    rw [List.foldl_cons, foldF js, stepF, List.flatMap_assoc]
    congr 1
    funext r
    rw [List.flatMap_map]
    show _ = ((opts e).flatMap fun b => (comps js).map (b :: ·)).map (r ++ ·)
    rw [List.map_flatMap]
    congr 1
    funext b
    rw [List.map_map]
    congr 1
    funext z
    simp
theorem foldF_nil (js : List (Option Bool)) : js.foldl stepF [[]] = comps js := by
  rw [foldF]
  simp
theorem opts_len (e : Option Bool) : (opts e).length ≤ 2 := by rcases e with _ | b <;> simp [opts]
theorem stepF_len (rows : List (List Bool)) (e : Option Bool) : (stepF rows e).length ≤ 2 * rows.length := by
  unfold stepF
  induction rows with
  | nil => simp
  | cons r rs ih =>
    rw [List.flatMap_cons, List.length_append, List.length_map, List.length_cons]
    have := opts_len e
    omega
theorem comps_len : ∀ js : List (Option Bool), (comps js).length ≤ 2 ^ js.length
  | [] => by simp [comps]
  | e :: js => by
    have := comps_len js
    rcases e with _ | b
    · simp [comps, opts, Nat.pow_succ]; omega
    · simp [comps, opts, Nat.pow_succ]; omega
theorem comps_mem_len : ∀ {js : List (Option Bool)} {r : List Bool}, r ∈ comps js → r.length = js.length
  | [], r, h => by simp [comps] at h; simp [h]
  | e :: js, r, h => by
    simp only [comps, List.mem_flatMap, List.mem_map] at h
    obtain ⟨b, _, z, hz, rfl⟩ := h
    simp [comps_mem_len hz]
section
variable {Φ : Nat → Option Def} {N k : Nat} {h : Hh} {E : Nat → Hh → Prop}
theorem add_tt' {a b : List D} (hl : a.length + b.length ≤ 16777216) : addV (.tuple a) (.tuple b) = some (.tuple (a ++ b)) := if_pos hl
theorem W_all_completions (e : Φ 22 = some d_all_completions) {js : List (Option Bool)} (hl : js.length ≤ 20) {Q : Vl → Hh → Prop} : W (callF Φ N (k + 1) 22 [.d (.tuple (js.map ej))]) h Q E ↔ Q (.d (.list ((comps js).map rowD))) h := by
  refine W.rule ?_
  rw [W_call e rfl]
  simp [d_all_completions, sizeLine]
  refine W_forT (fun rows rest en => ∃ v2 v3, en = [some (.d (.tuple (js.map ej))), some (.d (.list (rows.map rowD))), v2, v3, none, none] ∧ rows.length * 2 ^ rest.length ≤ 1048576 ∧ ∀ r ∈ rows, r.length + rest.length ≤ 20) stepF [[]] ?_ ?_ ?_
  · refine ⟨none, none, rfl, ?_, by simpa using hl⟩
    simp only [List.length_cons, List.length_nil, Nat.zero_add, Nat.one_mul]
    exact Nat.pow_le_pow_right (n := 2) (by omega) hl
  · rintro rows e0 rest en ⟨v2, v3, rfl, hz, hr⟩
    have hz1 : (stepF rows e0).length * 2 ^ rest.length ≤ 1048576 := by
      refine Nat.le_trans (Nat.mul_le_mul_right _ (stepF_len rows e0)) (Nat.le_trans (Nat.le_of_eq ?_) hz)
      rw [List.length_cons, Nat.pow_succ, Nat.mul_comm 2, Nat.mul_assoc, Nat.mul_comm 2]
    have hz2 : (stepF rows e0).length ≤ 1048576 := Nat.le_trans (Nat.le_mul_of_pos_right _ (Nat.pow_pos (by omega))) hz1
    have hmem : ∀ r ∈ stepF rows e0, r.length + rest.length ≤ 20 := by
      intro r hr'
      simp only [stepF, List.mem_flatMap, List.mem_map] at hr'
      obtain ⟨r0, h0, b, _, rfl⟩ := hr'
      have := hr r0 h0
      simp at this ⊢
      omega
    have step : ∀ (x2 : Option Vl) (l : List D) {Q : List D → Hh → Prop} {E : Nat → Hh → Prop}, l = (opts e0).map bd → (W (comp2E (callF Φ N k) (Jr.E.op BOp.add (Jr.E.var 4) (Jr.E.tup (Es.cons (Jr.E.var 5) Es.nil))) (Tg.nm 4) (Tg.nm 5) [4, 5] [5] (It.ex (Jr.E.var 3)) (Jr.E.bl true)
        [some (.d (.tuple (js.map ej))), some (.d (.list (rows.map rowD))), x2, some (.d (.list l)), none, none] none (rows.map rowD)) h Q E ↔ Q ((stepF rows e0).map rowD) h) := by
      rintro x2 l Q E rfl
      have e1 : (stepF rows e0).map rowD = rows.flatMap fun r => (opts e0).map fun b => D.tuple (r.map bd ++ [bd b]) := by
        unfold stepF
        rw [List.map_flatMap]
        congr 1
        funext r
        rw [List.map_map]
        congr 1
        funext b
        simp [rowD]
      rw [e1, W_comp2T _ depOk_none]
      intro r hrm
      have hrl := hr r hrm
      simp at hrl
      simp [rowD]
      rw [W_mapT (fun b => .tuple (r.map bd ++ [bd b])) depOk_none]
      · exact ⟨rfl, rfl⟩
      · intro b _
        rw [W_turn]
        simp [sizeLine]
        rw [add_tt' (by simp; omega)]
        simp
    rcases e0 with _ | b
    · simp [ej, sizeLine]
      rw [step _ [.int 0, .int 1] rfl]
      simp [hz2, hz1]
      exact ⟨by omega, hmem⟩
    · simp [ej, sizeLine]
      rw [step _ [bd b] rfl]
      simp [hz2, hz1]
      exact ⟨by omega, hmem⟩
  · rintro en ⟨v2, v3, rfl, _, _⟩
    rw [foldF_nil]
    simp
theorem W_completions (T : TJ Φ) (e22 : Φ 22 = some d_all_completions) (e : Φ 33 = some d_completions) {c x : D} (hs : Shr c) {Q : Vl → Hh → Prop} :
    W (callF Φ N (k + 5) 33 [.d c, .d x]) h Q E ↔ if isColl c = true then (if validJ (clen c) x = true then Q (.d (.list ((comps (unJ x)).map rowD))) h else E 20 h) else E 12 h := by
  rw [W_call e rfl]
  have := fun Q E => W_require_judgements (N := N) (k := k) (h := h) (E := E) T (x := x) hs (Q := Q)
  cases hc : isColl c
  · simp [d_completions, this, hc]
  · cases hv : validJ (clen c) x
    · simp [d_completions, this, hc, hv]
    · obtain ⟨js, rfl, hl, h7⟩ := collJ hc hv
      simp [d_completions, this, hc, hl, W_all_completions e22 (js := js) (by omega)]
/-! ### documents -/
theorem W_open_documents (e : Φ 23 = some d_open_documents) {cs : List D} {js : List (Option Bool)} {Q : Vl → Hh → Prop} :
    W (callF Φ N (k + 1) 23 [.d (.tuple cs), .d (.tuple (js.map ej))]) h Q E ↔ Q (.d (.tuple (openD cs js))) h := by
  rw [W_call e rfl]
  simp [d_open_documents, zipD_ej]
  rw [W_filT (fun p : D × Option Bool => p.2.isNone) (fun p => p.1) depOk_none]
  · simp [openD]
  · rintro ⟨a, b⟩ _
    rw [W_turn]
    rcases b with _ | b <;> simp [ej]
theorem W_unjudged (T : TJ Φ) (e23 : Φ 23 = some d_open_documents) (e : Φ 34 = some d_unjudged) {c x : D} (hs : Shr c) {Q : Vl → Hh → Prop} :
    W (callF Φ N (k + 5) 34 [.d c, .d x]) h Q E ↔ if isColl c = true then (if validJ (clen c) x = true then Q (.d (.tuple (openD (unT c) (unJ x)))) h else E 20 h) else E 12 h := by
  rw [W_call e rfl]
  have := fun Q E => W_require_judgements (N := N) (k := k) (h := h) (E := E) T (x := x) hs (Q := Q)
  cases hc : isColl c
  · simp [d_unjudged, this, hc]
  · cases hv : validJ (clen c) x
    · simp [d_unjudged, this, hc, hv]
    · obtain ⟨js, rfl, hl, h7⟩ := collJ hc hv
      obtain ⟨cs, rfl⟩ := isColl_tup hc
      simp at hl
      simp [d_unjudged, this, hc, hl, W_open_documents e23]
theorem W_changed (e : Φ 27 = some d_changed) {cs : List Str} {xs : List D} {d : Str} {v : D} (hd : d ∈ cs) (hl : xs.length = cs.length) (h7 : cs.length ≤ 1000) {Q : Vl → Hh → Prop} :
    W (callF Φ N (k + 1) 27 [.d (.tuple (cs.map .str)), .d (.tuple xs), .d (.str d), .d v]) h Q E ↔ Q (.d (.tuple (xs.set (cs.idxOf d) v))) h := by
  rw [W_call e rfl]
  have hi : cs.idxOf d < cs.length := List.idxOf_lt_length_iff.mpr hd
  simp [d_changed, idxV_strs hd h7, cut_take, sizeLine]
  rw [add_tt' (by simp; omega)]
  have e1 : ((cs.idxOf d : Nat) : Int) + 1 = ((cs.idxOf d + 1 : Nat) : Int) := by omega
  simp
  rw [e1, cut_drop, add_tt' (by simp; omega)]
  simp
  rw [set_eq (by omega)]
  simp
theorem W_require_document (e : Φ 25 = some d_require_document) {cs : List Str} {d : D} {Q : Vl → Hh → Prop} :
    W (callF Φ N (k + 1) 25 [.d (.tuple (cs.map .str)), .d d]) h Q E ↔ if isIn cs d = true then Q (.d .none) h else E 24 h := by
  rw [W_call e rfl]
  rcases d with _ | _ | _ | s | _ | _
  case str =>
    by_cases hd : s ∈ cs
    · simp [d_require_document, isIn, hd]
      exact fun hh => absurd rfl (hh s hd)
    · simp [d_require_document, isIn, hd]
  all_goals simp [d_require_document, isIn]
theorem W_with_judgement (T : TJ Φ) (e25 : Φ 25 = some d_require_document) (e27 : Φ 27 = some d_changed) (e : Φ 32 = some d_with_judgement) {c x d v : D} (hs : Shr c) {Q : Vl → Hh → Prop} :
    W (callF Φ N (k + 5) 32 [.d c, .d x, .d d, .d v]) h Q E ↔ if isColl c = true then (if validJ (clen c) x = true then (if isIn (unSs c) d = true then (if isEnt v = true then Q (.d (.tuple ((unT x).set ((unSs c).idxOf (unS d)) v))) h else E 26 h) else E 24 h) else E 20 h) else E 12 h := by
  rw [W_call e rfl]
  have := fun Q E => W_require_judgements (N := N) (k := k) (h := h) (E := E) T (x := x) hs (Q := Q)
  cases hc : isColl c
  · simp [d_with_judgement, this, hc]
  · cases hv : validJ (clen c) x
    · simp [d_with_judgement, this, hc, hv]
    · obtain ⟨js, rfl, hl, h7⟩ := collJ hc hv
      obtain ⟨cs, rfl⟩ := isColl_strs hc
      simp at hl h7
      cases hi : isIn cs d
      · simp [d_with_judgement, this, hc, hl, W_require_document e25, hi]
      · obtain ⟨s, rfl, hm⟩ := isIn_of hi
        have w1 := fun Q E => W_changed (Φ := Φ) (N := N) (k := k + 3) (h := h) (E := E) e27 (xs := js.map ej) (v := v) hm (by simpa using hl) (by omega) (Q := Q)
        cases hn : isNone v
        · cases hq : isIntIn v 0 1
          · have : isEnt v = false := by simp [isEnt, hn, hq]
            simp [d_with_judgement, *, W_require_document e25, W_is_integer T.e6]
          · have : isEnt v = true := by simp [isEnt, hn, hq]
            simp [d_with_judgement, *, W_require_document e25, W_is_integer T.e6]
        · have : isEnt v = true := by simp [isEnt, hn]
          simp [d_with_judgement, *, W_require_document e25]
end
end Jr

set_option Elab.async false
set_option linter.all false
set_option maxRecDepth 100000
set_option maxHeartbeats 2000000
namespace Jr
open PySem
/-! ### the laws' own functions -/
mutual
def plain : Nat → D → Bool
  | 0, _ => false
  | n + 1, .tuple xs => decide (xs.length ≤ 1000) && plains n xs
  | _, .list _ => false
  | _, .str s => decide (s.length ≤ 1000)
  | _, _ => true
def plains : Nat → List D → Bool
  | _, [] => true
  | n, x :: xs => plain n x && plains n xs
end
theorem plains_mem {n : Nat} : ∀ {xs : List D}, plains n xs = true → ∀ x ∈ xs, plain n x = true
  | [], _, x, h => by cases h
  | y :: ys, p, x, h => by
    unfold plains at p
    rw [Bool.and_eq_true] at p
    rcases List.mem_cons.mp h with rfl | h
    · exact p.1
    · exact plains_mem p.2 x h
theorem plains_of {n : Nat} : ∀ {xs : List D}, (∀ x ∈ xs, plain n x = true) → plains n xs = true
  | [], _ => by unfold plains; rfl
  | y :: ys, p => by
    unfold plains
    rw [p y List.mem_cons_self, plains_of fun x hx => p x (List.mem_cons_of_mem _ hx)]
    rfl
mutual
theorem plain_dep : ∀ {n : Nat} {d : D}, plain n d = true → dep d ≤ n
  | 0, d, h => by unfold plain at h; cases h
  | n + 1, .tuple xs, h => by
    unfold plain at h
    rw [Bool.and_eq_true] at h
    rw [dep_tuple]
    exact Nat.succ_le_succ (plains_dep h.2)
  | n + 1, .list _, h => by unfold plain at h; cases h
  | n + 1, .none, _ => by simp
  | n + 1, .bool _, _ => by simp
  | n + 1, .int _, _ => by simp
  | n + 1, .str _, _ => by simp
theorem plains_dep : ∀ {n : Nat} {xs : List D}, plains n xs = true → deps xs ≤ n
  | n, [], _ => by simp
  | n, x :: xs, h => by
    unfold plains at h
    rw [Bool.and_eq_true] at h
    rw [deps_cons]
    exact Nat.max_le.mpr ⟨plain_dep h.1, plains_dep h.2⟩
end
mutual
theorem eqv_refl : ∀ d : D, eqv d d = true
  | .none => by simp
  | .bool _ => by simp
  | .int _ => by simp
  | .str _ => by simp
  | .list xs => by simp [eqvs_refl xs]
  | .tuple xs => by simp [eqvs_refl xs]
theorem eqvs_refl : ∀ xs : List D, eqvs xs xs = true
  | [] => by simp
  | x :: xs => by simp [eqv_refl x, eqvs_refl xs]
end
theorem zipD_self : ∀ xs : List D, zipD xs xs = xs.map fun x => .tuple [x, x]
  | [] => by simp [zipD]
  | x :: xs => by simp [zipD, zipD_self xs]
section
variable {Φ : Nat → Option Def} {N k : Nat} {h : Hh} {E : Nat → Hh → Prop}
/-- a thing is the same as itself -/
theorem W_alike (e : Φ 28 = some d__law_same) : ∀ {n k : Nat} {d : D} {Q : Vl → Hh → Prop} {E : Nat → Hh → Prop}, plain n d = true → n ≤ k → n ≤ 50 → (W (callF Φ N k 28 [.d d, .d d]) h Q E ↔ Q (.d (.bool true)) h)
  | 0, k, d, Q, E, p, _, _ => by unfold plain at p; cases p
  | n + 1, 0, d, Q, E, _, l, _ => by omega
  | n + 1, k + 1, d, Q, E, p, l, l2 => by
    rw [W_call e rfl]
    have hd := plain_dep p
    rcases d with _ | b | i | s | xs | xs
    · simp [d__law_same]
    · simp [d__law_same]
    · simp [d__law_same]
    · simp [d__law_same]
    · unfold plain at p; cases p
    · unfold plain at p
      rw [Bool.and_eq_true] at p
      have ih := fun x hx Q E => W_alike e (n := n) (k := k) (d := x) (Q := Q) (E := E) (plains_mem p.2 x hx) (by omega) (by omega)
      simp [d__law_same, zipD_self]
      rw [W_mapT (fun _ => .bool true) depOk_none]
      · have := all_map (fun _ : D => true) xs
        rw [this, List.all_eq_true.mpr fun _ _ => rfl]
        simp
      · intro x hx
        rw [W_turn]
        simp [ih x hx]
/-- drawn entries -/
theorem W_compSt {ns : List Int} {f : D → M (Option D)} {P : D → Prop} {s : Nat} : ∀ {xs : List D} {b : Nat} {h : Hh}, St ns b h →
    (∀ x ∈ xs, ∀ h' b', St ns b' h' → b' ≤ b + s * xs.length → W (f x) h' (fun y h1 => ∃ d c, y = some d ∧ P d ∧ h1 = h'.set 1 c ∧ St ns (b' + s) h1) fun _ _ => False) →
    W (compL none f xs) h (fun ys h1 => (∀ y ∈ ys, P y) ∧ ys.length = xs.length ∧ ∃ c, h1 = h.set 1 c ∧ St ns (b + s * xs.length) h1) E
  | [], b, h, st, _ => by
    show W (M.bind (same none) fun _ => M.pure []) h _ E
    rw [W_bind, W_same (by trivial), W_pure]
    refine ⟨by simp, rfl, ?_⟩
    have l := st.len
    exact ⟨h[1], by simp, by simpa using st⟩
  | x :: xs, b, h, st, hf => by
    obtain ⟨y, h1, e1, d, c, rfl, pd, rfl, s1⟩ := (hf x List.mem_cons_self h b st (by omega)).of
    show W (M.bind (same none) fun _ => M.bind (noExc (f x)) fun y => M.bind (compL none f xs) fun ys => M.pure (match y with
      | some y => y :: ys
      | none => ys)) h _ E
    rw [W_bind, W_same (by trivial), W_bind, W.eq (m := noExc (f x)) (a := some d) (h' := h.set 1 c) (by unfold noExc; rw [e1]), W_bind]
    have hl : s * (x :: xs).length = s + s * xs.length := by rw [List.length_cons, Nat.mul_succ]; omega
    refine (W_compSt (xs := xs) (b := b + s) (P := P) s1 fun z hz h' b' st' lb => hf z (List.mem_cons_of_mem _ hz) h' b' st' (by omega)).imp ?_
    rintro ys h2 ⟨q1, q2, c2, rfl, s2⟩
    rw [W_pure]
    refine ⟨?_, by simp [q2], c2, by rw [List.set_set], by rw [hl]; rw [← Nat.add_assoc]; exact s2⟩
    intro z hz
    rcases List.mem_cons.mp hz with rfl | hz
    · exact pd
    · exact q1 z hz
theorem W_entries {ns : List Int} {b : Nat} (e8 : Φ 8 = some d__law_draw) (e7 : Φ 7 = some d__law_pick) (e : Φ 36 = some d__law_entries) (s : St ns b h) (hb : b ≤ 800000) (hns : ns.length ≤ 63) {cs : List D} (hl : cs.length ≤ 8) {Q : Vl → Hh → Prop}
    (q : ∀ (js : List (Option Bool)) c, js.length = cs.length → St ns (b + 20) (h.set 1 c) → Q (.d (.tuple (js.map ej))) (h.set 1 c)) : W (callF Φ N (k + 3) 36 [.r 0, .r 1, .d (.tuple cs)]) h Q E := by
  rw [W_call e rfl]
  simp [d__law_entries, sizeLine]
  refine W_pick e8 e7 s (by omega) hns (by simp) fun y c hy s1 => ?_
  obtain ⟨sm, rfl, hne, hsm⟩ : ∃ sm, y = D.list sm ∧ sm ≠ [] ∧ sm.all isEnt = true := by
    simp at hy
    rcases hy with rfl | rfl | rfl <;> exact ⟨_, rfl, by simp, by decide⟩
  unfold compE
  have l2 := s.len
  refine (W_compSt (P := fun d => isEnt d = true) (s := 2) s1 fun x hx h' b' st' lb => ?_).imp ?_
  · rw [W_turn]
    simp
    refine W_pick e8 e7 st' (by omega) hns hne fun y c2 hy s2 => ?_
    simp
    exact ⟨List.all_eq_true.mp hsm y hy, ⟨c2, rfl⟩, s2⟩
  · rintro ys h1 ⟨q1, q2, c2, rfl, s2⟩
    obtain ⟨js, rfl⟩ := ents_of (List.all_eq_true.mpr q1)
    simp at q2 ⊢
    rw [List.set_set] at s2
    exact q js c2 q2 (s2.more (by omega))
end
end Jr

set_option Elab.async false
set_option linter.all false
set_option maxRecDepth 100000
set_option maxHeartbeats 2000000
namespace Jr
open PySem
section
variable {Φ : Nat → Option Def} {N k : Nat} {h : Hh} {E : Nat → Hh → Prop} {ns : List Int} {b : Nat}
theorem add_tt {xs ys : List D} (h : xs.length + ys.length ≤ 16777216) : addV (.tuple xs) (.tuple ys) = some (.tuple (xs ++ ys)) := by
  unfold addV
  dsimp only
  rw [if_pos (by unfold sizeLine; omega)]
theorem str_i {i : Int} (h : i.natAbs ≤ 1267650600228229401496703205375) : ∃ s, bltV .str [.int i] = some (.str s) := by
  have e : (1267650600228229401496703205376 : Nat) = 2 ^ 100 := by decide
  have h6 := log2_lt (a := i) (n := 100) (by rw [← e]; omega) (by decide)
  unfold bltV
  dsimp only
  rw [if_pos (by omega)]
  exact ⟨_, rfl⟩
@[simp] theorem str_b {b : Bool} : bltV .str [.bool b] = some (.str (if b then "True" else "False")) := rfl
theorem rep2 {xs : List D} (h : xs.length ≤ 1000000) : repL xs (.int 2) = some (xs ++ xs) := by
  have e : reps xs 2 = xs ++ xs := by
    show (List.replicate 2 xs).flatten = _
    simp [List.replicate]
  unfold repL
  dsimp only
  rw [if_pos (by unfold sizeLine; refine ⟨by decide, by decide, ?_⟩; simp; omega), e]
theorem Sm.sub {M n : Nat} {xs ys : List D} (h : Sm M n (.tuple xs)) (hl : ys.length ≤ xs.length) (hs : ∀ y ∈ ys, y ∈ xs) : Sm M n (.tuple ys) := by
  obtain ⟨h1, h2, h3⟩ := h.of_tuple
  have := Sm.tuple (M := M) (n := n - 1) (xs := ys) (by omega) fun y hy => h3 y (hs y hy)
  rwa [show n - 1 + 1 = n from by omega] at this
theorem Sm.more {M n : Nat} {xs ys : List D} (h : Sm M n (.tuple xs)) (hl : ys.length ≤ xs.length + 1) (hs : ∀ y ∈ ys, y ∈ xs ∨ y = .none) : Sm (M + 1) n (.tuple ys) := by
  obtain ⟨h1, h2, h3⟩ := h.of_tuple
  have := Sm.tuple (M := M + 1) (n := n - 1) (xs := ys) (by omega) fun y hy => by
    rcases hs y hy with q | rfl
    · exact (h3 y q).mono (by omega) (Nat.le_refl _)
    · exact ⟨by simp, by simp⟩
  rwa [show n - 1 + 1 = n from by omega] at this
theorem cut_last (xs : List D) : (cut xs (some (-1)) none).length ≤ 1 := by
  unfold cut
  rw [List.length_take]
  unfold sIx HT.sIx
  split <;> simp at * <;> omega
def thenB : S → B
  | .ite _ a _ => a
  | _ => .nil
def nthS : B → Nat → S
  | .cons s _, 0 => s
  | .cons _ b, n + 1 => nthS b n
  | .nil, _ => .frz 0
theorem bent_in (e8 : Φ 8 = some d__law_draw) (e7 : Φ 7 = some d__law_pick) (s : St ns b h) (hb : b ≤ 1000000) (hns : ns.length ≤ 63) {M n : Nat} (hM : 15 ≤ M) (hM2 : M ≤ 1000000) {x : D} (sm : Sm M n x) {Q : SO → Hh → Prop}
    (q : ∀ y c, Sm (M + 1) (max n 1 + 1) y → St ns (b + 2) (h.set 1 c) → Q (.ret (.d y)) (h.set 1 c)) :
    W (evB (callF Φ N (k + 2)) N (thenB (nthS d__law_bent.body 0)) [some (.r 0), some (.r 1), some (.d x), none, none]) h Q E := by
  show W (evB _ _ (thenB (nthS d__law_bent.body 0)) _) _ _ _
  simp only [d__law_bent, nthS, thenB]
  have fin : ∀ xs : List D, xs ≠ [] → (∀ y ∈ xs, Sm (M + 1) (max n 1 + 1) y) → W (callF Φ N (k + 2) 7 [.r 0, .r 1, .d (.list xs)]) h (fun a h1 => Q (SO.ret a) h1) E := fun xs ne hall => W_pick e8 e7 s hb hns ne fun y c hy s' => q y c (hall y hy) s'
  rcases x with _ | bb | i | _ | ys | xs
  case int =>
    obtain ⟨z, hz⟩ := str_i (i := i) (by have := sm.1; simp at this; omega)
    have s1 : i.natAbs ≤ M := by have := sm.1; simpa using this
    simp [sizeLine, ok_string]
    simp [hz, rep2]
    refine fin _ (by simp) ?_
    simp [Sm]
    omega
  case bool =>
    simp [sizeLine, ok_string, rep2]
    refine fin _ (by simp) ?_
    cases bb <;> simp [Sm, b2] <;> omega
  case tuple =>
    have hl := sm.of_tuple.1
    have hc := cut_last xs
    simp [sizeLine, ok_string]
    rw [add_tt (by omega), W_pO, add_tt (by simp; omega)]
    simp
    refine fin _ (by simp) ?_
    have m1 : Sm (M + 1) (max n 1 + 1) (D.list xs) := ⟨by have := sm.1; simp at this ⊢; omega, by have := sm.2; simp at this ⊢; omega⟩
    have m2 : Sm (M + 1) (max n 1 + 1) (D.tuple (cut xs none (some (-1)))) := (sm.sub (cut_len' _ _ _) fun y hy => cut_mem hy).mono (by omega) (by omega)
    have m3 : Sm (M + 1) (max n 1 + 1) (D.tuple (xs ++ cut xs (some (-1)) none)) := (sm.more (by simp; omega) fun y hy => by
      rcases List.mem_append.mp hy with q | q
      · exact .inl q
      · exact .inl (cut_mem q)).mono (by omega) (by omega)
    have m4 : Sm (M + 1) (max n 1 + 1) (D.tuple (cut xs (some 1) none)) := (sm.sub (cut_len' _ _ _) fun y hy => cut_mem hy).mono (by omega) (by omega)
    have m5 : Sm (M + 1) (max n 1 + 1) (D.tuple xs.reverse) := (sm.sub (by simp) fun y hy => by simpa using hy).mono (by omega) (by omega)
    have m6 : Sm (M + 1) (max n 1 + 1) (D.tuple (xs ++ [D.none])) := (sm.more (by simp) fun y hy => by simpa using hy).mono (by omega) (by omega)
    have consts : ∀ y ∈ [D.none, D.bool true, D.bool false, D.int 0, D.int 1, D.int (-1), D.int 3, D.int 10, D.str (Jr.q "a"), D.str (Jr.q "b"), D.str (Jr.q ""), D.str (Jr.q "A"), D.str (Jr.q "abcd"), D.tuple [], D.list [], D.tuple [D.str (Jr.q "a")], D.tuple [D.str (Jr.q "b"), D.str (Jr.q "a")], D.tuple [D.int 1, D.int 0], D.tuple [D.str (Jr.q "gain"), D.int 2]], Sm (M + 1) (max n 1 + 1) y := by
      simp [Sm]
      omega
    intro y hy
    rcases List.mem_append.mp (show y ∈ [D.none, D.bool true, D.bool false, D.int 0, D.int 1, D.int (-1), D.int 3, D.int 10, D.str (Jr.q "a"), D.str (Jr.q "b"), D.str (Jr.q ""), D.str (Jr.q "A"), D.str (Jr.q "abcd"), D.tuple [], D.list [], D.tuple [D.str (Jr.q "a")], D.tuple [D.str (Jr.q "b"), D.str (Jr.q "a")], D.tuple [D.int 1, D.int 0], D.tuple [D.str (Jr.q "gain"), D.int 2]] ++ [D.list xs, D.tuple (cut xs none (some (-1))), D.tuple (xs ++ cut xs (some (-1)) none), D.tuple (cut xs (some 1) none), D.tuple xs.reverse, D.tuple (xs ++ [D.none])] from hy) with c | c
    · exact consts y c
    · simp only [List.mem_cons, List.not_mem_nil, or_false] at c
      rcases c with rfl | rfl | rfl | rfl | rfl | rfl <;> assumption
  all_goals
    simp [sizeLine, ok_string]
    refine fin _ (by simp) ?_
    simp [Sm]
    omega
end
def condS : S → E
  | .ite c _ _ => c
  | _ => .non
def tailB : B → B
  | .cons _ b => b
  | .nil => .nil
theorem W_S_ite {cf : CF} {N : Nat} {c : Jr.E} {a b : B} {en : Env} {h : Hh} {Q : SO → Hh → Prop} {X : Nat → Hh → Prop} : W (evS cf N (.ite c a b) en) h Q X ↔ W (tt (evE cf c en)) h (fun k h1 => if k = true then W (evB cf N a en) h1 Q X else W (evB cf N b en) h1 Q X) X := by
  rw [evS_ite, W_bind]
  simp only [W_ite]
section
variable {Φ : Nat → Option Def} {N : Nat} {ns : List Int}
theorem bent_body : d__law_bent.body = .cons (.ite (condS (nthS d__law_bent.body 0)) (thenB (nthS d__law_bent.body 0)) .nil) (tailB d__law_bent.body) := rfl
theorem W_bent (e8 : Φ 8 = some d__law_draw) (e7 : Φ 7 = some d__law_pick) (e2 : Φ 2 = some d__law_bent) (hns : ns.length ≤ 63) : ∀ (n : Nat) {k b M : Nat} {h : Hh} {x : D} {E : Nat → Hh → Prop} {Q : Vl → Hh → Prop}, St ns b h → b + 4 * n ≤ 900000 → 15 ≤ M → M ≤ 1000000 → Sm M n x →
    (∀ y c, Sm (M + 1) (n + 2) y → St ns (b + 4 * (n + 1)) (h.set 1 c) → Q (.d y) (h.set 1 c)) → W (callF Φ N (k + n + 3) 2 [.r 0, .r 1, .d x]) h Q E := by
  intro n
  induction n with
  | zero => 
    intro k b M h x E Q s hb hM hM2 sm q
    rw [W_call e2 rfl, bent_body, W_B_cons, W_S_ite]
    have inn := bent_in (k := k) (E := fun c h1 => E c (h1.take h.length)) (N := N) e8 e7 s (by omega) hns hM hM2 sm (Q := seqQ (callF Φ N (k + 0 + 2)) N (tailB d__law_bent.body) (endQ h.length Q) fun c h1 => E c (h1.take h.length)) fun y c h1 h2 => by
      rw [seqQ_ret, endQ_d, List.take_of_length_le (by simp)]
      refine q y c (h1.mono (Nat.le_refl _) (by omega)) ?_
      obtain ⟨z1, st, z2, z3⟩ := h2
      exact ⟨z1, st, z2, by omega⟩
    rcases x with _ | bb | i | _ | ys | xs
    case tuple => exact absurd sm.of_tuple.2.1 (by omega)
    all_goals
      revert inn
      generalize thenB (nthS d__law_bent.body 0) = BB
      intro inn
      simp [condS, nthS, d__law_bent, -W_B_cons]
      exact inn
  | succ n ih => 
    intro k b M h x E Q s hb hM hM2 sm q
    rw [W_call e2 rfl, bent_body, W_B_cons, W_S_ite]
    have inn := fun (h' : Hh) (b' : Nat) (s' : St ns b' h') (hb' : b' + 2 ≤ b + 4 * (n + 1 + 1)) (hl' : h'.length = h.length) (q' : ∀ c, h'.set 1 c = h.set 1 c) => bent_in (k := k + n + 1) (E := fun c h1 => E c (h1.take h.length)) (h := h') (b := b') (N := N) e8 e7 s' (by omega) hns hM hM2 sm (Q := seqQ (callF Φ N (k + (n + 1) + 2)) N (tailB d__law_bent.body) (endQ h.length Q) fun c h1 => E c (h1.take h.length)) fun y c h1 h2 => by
      rw [seqQ_ret, endQ_d, List.take_of_length_le (by simp [hl']), q']
      rw [q'] at h2
      refine q y c (h1.mono (Nat.le_refl _) (by omega)) ?_
      obtain ⟨z1, st, z2, z3⟩ := h2
      exact ⟨z1, st, z2, by omega⟩
    revert inn
    generalize thenB (nthS d__law_bent.body 0) = BB
    intro inn
    rcases x with _ | bb | i | _ | ys | xs
    case tuple =>
      rcases xs with _ | ⟨x, xs⟩
      · simp [condS, nthS, d__law_bent, -W_B_cons]
        exact inn h b s (by omega) rfl fun _ => rfl
      · simp [condS, nthS, d__law_bent, -W_B_cons]
        refine W_draw e8 s (by omega) (by decide) hns fun r c r0 r1 s1 => ?_
        simp
        by_cases hr : r = 0
        · rw [if_pos hr]
          exact inn _ _ s1 (by omega) (by simp) fun c => by simp
        · rw [if_neg hr]
          simp [tailB]
          refine W_draw e8 s1 (by omega) (by omega) hns fun r c r0 r1 s1 => ?_
          obtain ⟨j, rfl⟩ : ∃ j : Nat, r = j := ⟨r.toNat, by omega⟩
          have lt : j < (x :: xs).length := by simp; omega
          simp
          rw [ixV_tup (List.getElem?_eq_getElem lt)]
          simp
          obtain ⟨l1, l2, l3⟩ := sm.of_tuple
          rw [List.set_set] at s1
          refine ih (k := k) (M := M) (b := b + 2 + 2) (h := h.set 1 _) s1 (by omega) hM hM2 (l3 _ (List.getElem_mem lt)) fun y c sy s2 => ?_
          have lc : (cut (x :: xs) none (some (j : Int))).length ≤ j := by rw [cut_take, List.length_take]; omega
          have ld : (cut (x :: xs) (some ((j : Int) + 1)) none).length + j + 1 ≤ (x :: xs).length := by
            rw [show (j : Int) + 1 = ((j + 1 : Nat) : Int) from by omega, cut_drop, List.length_drop]; omega
          have lm : (x :: xs).length ≤ M := l1
          simp [sizeLine]
          rw [add_tt (by simp; omega)]
          simp [sizeLine]
          rw [add_tt (by simp; omega)]
          simp
          refine q _ c ?_ ?_
          · refine Sm.tuple (n := n + 2) (by simp; simp at ld lm; omega) fun z hz => ?_
            simp only [List.mem_append, List.mem_cons, List.not_mem_nil, or_false] at hz
            rcases hz with hz | rfl | hz
            · exact (l3 _ (cut_mem hz)).mono (by omega) (by omega)
            · exact sy
            · exact (l3 _ (cut_mem hz)).mono (by omega) (by omega)
          · rw [List.set_set] at s2
            obtain ⟨z1, st, z2, z3⟩ := s2
            exact ⟨z1, st, z2, by omega⟩
    all_goals
      simp [condS, nthS, d__law_bent, -W_B_cons]
      exact inn h b s (by omega) rfl fun _ => rfl
end
end Jr

set_option Elab.async false
set_option linter.all false
set_option maxRecDepth 100000
set_option maxHeartbeats 2000000
namespace Jr
open PySem
section
variable {h : Hh} {E : Nat → Hh → Prop}
/-- a loop that looks at each item, and leaves with v at the first that is not right -/
theorem W_forP {cf : CF} {N i : Nat} {b : B} {xs : List D} {en : Env} {Q : SO → Hh → Prop} (p : D → Bool) (v : Vl) (hi : i < en.length) (hb : ∀ x ∈ xs, W (evB cf N b (en.set i (some (.d x)))) h (fun so h1 => so = (if p x = true then .next (en.set i (some (.d x))) else .ret v) ∧ h1 = h) E)
    (q1 : xs.all p = true → ∀ o, Q (.next (en.set i o)) h) (q2 : xs.all p = false → Q (.ret v) h) : W (forE cf N (.nm i) b none xs en) h Q E := by
  unfold forE
  refine W_forL (fun ys en' h' => (∃ o, en' = en.set i o) ∧ (∀ y ∈ ys, y ∈ xs) ∧ xs.all p = ys.all p ∧ h' = h) ⟨⟨en[i], by simp⟩, fun _ h => h, rfl, rfl⟩ ?_ ?_
  · rintro x ys en' h' ⟨⟨o, rfl⟩, hm, he, rfl⟩
    refine ⟨trivial, ?_⟩
    simp only [W_bind, asgT_nm, List.length_set, hi, if_true, W_ofO_some, List.set_set]
    refine (hb x (hm x List.mem_cons_self)).imp ?_
    rintro so h1 ⟨rfl, rfl⟩
    cases hp : p x
    · exact q2 (by rw [he, List.all_cons, hp]; rfl)
    · exact ⟨⟨_, rfl⟩, fun y hy => hm y (List.mem_cons_of_mem _ hy), by rw [he, List.all_cons, hp]; rfl, rfl⟩
  · rintro en' h' ⟨⟨o, rfl⟩, _, he, rfl⟩
    exact ⟨trivial, q1 he o⟩
end
/-- a law: a state, a loop, True -/
theorem W_law {ns : List Int} {cf : CF} {N n per m : Nat} {b : B} {z : Int} {E : Nat → Hh → Prop} (hz : z = (n : Int)) (hn : n ≤ 1000) (hb : ∀ (i : Nat) (rest : Env) (bb : Nat) (h : Hh), i < n → rest.length = m → St ns bb h → bb + per ≤ per * n →
      W (evB cf N b (some (.r 0) :: some (.r 1) :: some (.d (.int (i : Int))) :: rest)) h (fun so h1 => ∃ rest' a, so = .next (some (.r 0) :: some (.r 1) :: a :: rest') ∧ rest'.length = m ∧ St ns (bb + per) h1) fun _ _ => False) :
    W (evB cf N (.cons (.asg (.nm 1) (.box (.lst .nil))) (.cons (.for_ (.nm 2) (.r1 (.int z)) b) (.cons (.ret (.bl true)) .nil))) (some (.r 0) :: none :: none :: List.replicate m none)) [.ro (ns.map D.int)] (endQ 1 fun v _ => v = .d (.bool true)) E := by
  have hr : rng 0 z = some (rangeD 0 n) := by
    rw [hz]
    unfold rng
    have h1 : sm 0 = true := by decide
    have h2 : sm (n : Int) = true := by unfold sm; simp; omega
    have h3 : ((n : Int) - 0).toNat = n := by omega
    have h4 : n ≤ sizeLine := by unfold sizeLine; omega
    rw [h1, h2, h3, Bool.true_and, Bool.true_and, if_pos (decide_eq_true h4)]
  have e1 : evS cf N (.asg (.nm 1) (.box (.lst .nil))) (some (.r 0) :: none :: none :: List.replicate m none) [.ro (ns.map D.int)] = some (.ok (.next (some (.r 0) :: some (.r 1) :: none :: List.replicate m none)), [.ro (ns.map D.int), .lst []]) := by
    refine W.toEq ?_
    simp [sizeLine]
  have s : St ns 0 [.ro (ns.map D.int), .lst []] := .mk_ (st := []) (t := []) (by simp)
  rw [W_B_cons, W.eq e1]
  rw [seqQ_next, W_B_cons]
  suffices w1 : W (evS cf N (S.for_ (Tg.nm 2) (It.r1 (Jr.E.int z)) b) (some (Vl.r 0) :: some (Vl.r 1) :: none :: List.replicate m none)) [Cell.ro (List.map D.int ns), Cell.lst []] (fun so h1 => ∃ (rest : Env) (a : Option Vl), so = SO.next (some (.r 0) :: some (.r 1) :: a :: rest)) E by
    refine w1.mono ?_ (fun _ _ h => h)
    rintro so h1 ⟨rest, a, rfl⟩
    simp
  · rw [evS_for, evI_r1]
    simp only [W_bind, W_dd, evE_int, W_pD, W_rd_d, asI_int, Option.bind_some, hr, W_ofO_some, W_pure]
    unfold forE
    have keep : ∀ so h1, (∃ rest' a, so = SO.next (some (.r 0) :: some (.r 1) :: a :: rest') ∧ rest'.length = m ∧ St ns 0 h1) → True := fun _ _ _ => trivial
    have key : ∀ (j : Nat) (k : Nat) (en : Env) (h : Hh) (a : Option Vl) (rest : Env), j + k = n → en = some (.r 0) :: some (.r 1) :: a :: rest → rest.length = m → St ns (per * k) h → W (forL none (fun x en => M.bind (ofO (asgT (.nm 2) (.d x) en)) fun en1 => evB cf N b en1) (((List.range n).drop k).map fun (i : Nat) => .int (0 + (i : Int))) en) h (fun so h1 => ∃ rest a, so = .next (some (.r 0) :: some (.r 1) :: a :: rest)) E := by
      intro j
      induction j with
      | zero =>
        rintro k en h a rest hk rfl hl s
        have : (List.range n).drop k = [] := List.drop_eq_nil_of_le (by simp; omega)
        rw [this]
        show W (M.bind (same none) fun _ => M.pure _) h _ E
        rw [W_bind, W_same depOk_none, W_pure]
        exact ⟨_, _, rfl⟩
      | succ j ih =>
        rintro k en h a rest hk rfl hl s
        have : (List.range n).drop k = k :: (List.range n).drop (k + 1) := by
          rw [List.drop_eq_getElem_cons (by simp; omega)]
          simp
        rw [this, List.map_cons]
        show W (M.bind (same none) fun _ => M.bind (M.bind (ofO (asgT (.nm 2) (.d _) _)) fun en1 => evB cf N b en1) fun
          | .next en' => forL none _ _ en'
          | .ret v => M.pure (.ret v)) h _ E
        rw [W_bind, W_same depOk_none, W_bind, W_bind]
        have e2 : asgT (.nm 2) (.d (.int (0 + (k : Int)))) (some (.r 0) :: some (.r 1) :: a :: rest) = some (some (.r 0) :: some (.r 1) :: some (.d (.int (k : Int))) :: rest) := by simp
        rw [e2, W_ofO_some]
        refine (hb k rest _ h (by omega) hl s ?_).mono ?_ (fun _ _ f => f.elim)
        · have : per * (k + 1) ≤ per * n := Nat.mul_le_mul_left _ (by omega)
          rw [Nat.mul_succ] at this
          exact this
        · rintro so h1 ⟨rest', a', rfl, hl', s'⟩
          exact ih (k + 1) _ h1 a' rest' (by omega) rfl hl' (by rw [Nat.mul_succ]; exact s')
    have := key n 0 (some (.r 0) :: some (.r 1) :: none :: List.replicate m none) _ none (List.replicate m none) (by omega) rfl (List.length_replicate) (by simpa using s)
    simpa [rangeD] using this
@[simp] theorem ixV_t2 {x y z : D} {xs : List D} : ixV (.tuple (x :: y :: z :: xs)) (.int 2) = some z := ixV_tup (i := 2) rfl
@[simp] theorem ixV_l2 {x y z : D} {xs : List D} : ixV (.list (x :: y :: z :: xs)) (.int 2) = some z := ixV_lst (i := 2) rfl
theorem rng_nat {n : Nat} (hn : n ≤ 1000) : rng 0 (n : Int) = some (rangeD 0 n) := by
  unfold rng
  have h1 : sm 0 = true := by decide
  have h2 : sm (n : Int) = true := by unfold sm; simp; omega
  have h3 : ((n : Int) - 0).toNat = n := by omega
  have h4 : n ≤ sizeLine := by unfold sizeLine; omega
  rw [h1, h2, h3, Bool.true_and, Bool.true_and, if_pos (decide_eq_true h4)]
theorem rangeD_nat (n : Nat) : rangeD 0 n = (List.range n).map fun (i : Nat) => .int (i : Int) := by
  unfold rangeD
  congr 1
  funext i
  simp
theorem W_for_len {cf : CF} {N j n : Nat} {t : Tg} {b : B} {en : Env} {x : D} {z : Int} {h : Hh} {Q : SO → Hh → Prop} {E : Nat → Hh → Prop} (e : en[j]? = some (some (.d x))) (hx : bltV .len [x] = some (.int z)) (hz : z = (n : Int)) (hn : n ≤ 1000)
    (w : W (forE cf N t b none ((List.range n).map fun (i : Nat) => .int (i : Int)) en) h Q E) : W (evS cf N (.for_ t (.r1 (.blt .len (.cons (.var j) .nil))) b) en) h Q E := by
  have hr : rng 0 z = some (rangeD 0 n) := by rw [hz]; exact rng_nat hn
  rw [evS_for, evI_r1]
  rw [rangeD_nat] at hr
  simp only [W_bind, W_dd, evE_blt, evEs_cons, evEs_nil, evE_var, W_varM', e, W_pure, W_rds_cons, W_rds_nil, W_rd_d, hx, W_pO, asI_int, Option.bind_some, hr, W_ofO_some]
  exact w
theorem W_r1 {cf : CF} {a : Jr.E} {en : Env} {h : Hh} {Q : Option (Nat × Cell) × List D → Hh → Prop} {E : Nat → Hh → Prop} (w : W (evE cf a en) h (fun v h1 => ∃ n : Nat, v = .d (.int (n : Int)) ∧ n ≤ 1000 ∧ Q (none, (List.range n).map fun (i : Nat) => .int (i : Int)) h1) E) : W (evI cf (.r1 a) en) h Q E := by
  rw [evI_r1, W_bind, W_dd]
  refine w.imp ?_
  rintro v h1 ⟨n, rfl, hn, q⟩
  rw [W_rd_d, W_bind, asI_int, Option.bind_some, rng_nat hn, W_ofO_some, W_pure, rangeD_nat]
  exact q
/-! ### drawn collections -/
theorem sLt_trans {a b c : Str} (h1 : sLt a b) (h2 : sLt b c) : sLt a c := List.lt_trans h1 h2
theorem sLt_irrefl {a : Str} (h : sLt a a) : False := List.lt_irrefl _ h
theorem asc_iff : ∀ l : List Str, ascD (l.map D.str) = true ↔ l.Pairwise sLt
  | [] => by simp [ascD, zipD]
  | [x] => by simp [ascD, zipD]
  | x :: y :: r => by
    have e : ascD ((x :: y :: r).map D.str) = (ltS (.str x) (.str y) && ascD ((y :: r).map D.str)) := rfl
    have ih := asc_iff (y :: r)
    rw [e, Bool.and_eq_true, ih]
    have e2 : ltS (.str x) (.str y) = true ↔ sLt x y := by
      show decide (x.cps.toList < y.cps.toList) = true ↔ _
      rw [decide_eq_true_eq]
      exact Iff.rfl
    rw [e2]
    constructor
    · rintro ⟨h1, h2⟩
      refine List.pairwise_cons.mpr ⟨fun z hz => ?_, h2⟩
      rcases List.mem_cons.mp hz with rfl | hz
      · exact h1
      · exact sLt_trans h1 ((List.pairwise_cons.mp h2).1 z hz)
    · intro h
      obtain ⟨h1, h2⟩ := List.pairwise_cons.mp h
      exact ⟨h1 y List.mem_cons_self, h2⟩
theorem doc8 : ∀ x ∈ names8, isDoc (.str x) = true := by decide
theorem coll_ok {l : List Str} {m : Nat} (c : Coll m l) (hm : m ≤ 7) : isColl (.tuple (l.map D.str)) = true := by
  have h1 := c.pos
  have h2 : l.length ≤ 7 := Nat.le_trans c.le hm
  have h3 : (l.map D.str).all isDoc = true := List.all_eq_true.mpr fun x hx => by
    obtain ⟨z, hz, rfl⟩ := List.mem_map.mp hx
    exact doc8 z (c.sub z hz)
  have h4 := (asc_iff l).mpr c.asc
  simp only [isColl, List.length_map, h1, h2, h3, h4, decide_true, Bool.and_self]
theorem coll_twice {l : List Str} {m : Nat} (c : Coll m l) (hm : m ≤ 7) : isColl (.tuple (l.map D.str ++ l.map D.str)) = false := by
  have h : ascD (l.map D.str ++ l.map D.str) = false := by
    cases e : ascD (l.map D.str ++ l.map D.str) with
    | false => rfl
    | true =>
      rw [← List.map_append, asc_iff] at e
      have hp := c.pos
      cases l with
      | nil => simp at hp
      | cons x r => exact (sLt_irrefl ((List.pairwise_append.mp e).2.2 x List.mem_cons_self x List.mem_cons_self)).elim
  simp [isColl, h]
theorem coll_nodup {l : List Str} {m : Nat} (c : Coll m l) : l.Nodup := List.Pairwise.imp (S := fun a b => a ≠ b) (fun {a b} h e => by subst e; exact sLt_irrefl h) c.asc
theorem shr_coll {l : List Str} {m : Nat} (c : Coll m l) : Shr (.tuple (l.map D.str)) := fun xs e s hs => by
  cases e
  obtain ⟨z, hz, e⟩ := List.mem_map.mp hs
  cases e
  have : ∀ x ∈ names8, x.length ≤ 16777216 := by decide
  exact this _ (c.sub _ hz)
theorem shr_nil : Shr (.tuple []) := fun xs e s hs => by cases e; cases hs
theorem shr_int {i : Int} : Shr (.int i) := fun xs e => by cases e
theorem shr_none : Shr .none := fun xs e => by cases e
theorem coll_ne {l : List Str} {m : Nat} (c : Coll m l) : l ≠ [] := fun e => by have := c.pos; rw [e] at this; simp at this
theorem coll_head {l : List Str} {m : Nat} (c : Coll m l) : ∃ z ∈ l, ixV (.tuple (l.map D.str)) (.int 0) = some (.str z) := by
  cases l with
  | nil => exact absurd rfl (coll_ne c)
  | cons z zs => exact ⟨z, List.mem_cons_self, by simp⟩
theorem coll_no {l : List Str} {m : Nat} (c : Coll m l) {x : String} (h : q x ∉ names8) : q x ∉ l := fun hm => h (c.sub _ hm)
@[simp] theorem isEnt_int {i : Int} : isEnt (.int i) = (decide (0 ≤ i) && decide (i ≤ 1)) := rfl
@[simp] theorem isEnt_bool {i : Bool} : isEnt (.bool i) = false := rfl
@[simp] theorem isEnt_str {i : Str} : isEnt (.str i) = false := rfl
@[simp] theorem isEnt_none : isEnt .none = true := rfl
@[simp] theorem isEnt_tuple {i : List D} : isEnt (.tuple i) = false := rfl
@[simp] theorem isEnt_list {i : List D} : isEnt (.list i) = false := rfl
@[simp] theorem validJ_int {n : Nat} {i : Int} : validJ n (.int i) = false := rfl
@[simp] theorem validJ_none {n : Nat} : validJ n .none = false := rfl
@[simp] theorem validJ_list {n : Nat} {i : List D} : validJ n (.list i) = false := rfl
@[simp] theorem validJ_str {n : Nat} {i : Str} : validJ n (.str i) = false := rfl
@[simp] theorem isColl_nil : isColl (.tuple []) = false := rfl
@[simp] theorem isColl_int {i : Int} : isColl (.int i) = false := rfl
@[simp] theorem isColl_none : isColl .none = false := rfl
@[simp] theorem isIn_str {l : List Str} {s : Str} : isIn l (.str s) = decide (s ∈ l) := rfl
@[simp] theorem isIn_int {l : List Str} {s : Int} : isIn l (.int s) = false := rfl
@[simp] theorem isIn_none {l : List Str} : isIn l .none = false := rfl
@[simp] theorem isIn_tuple {l : List Str} {s : List D} : isIn l (.tuple s) = false := rfl
theorem len0 {α : Type} {l : List α} (h : l.length = 0) : l = [] := List.eq_nil_of_length_eq_zero h
theorem len1 {α : Type} {l : List α} (h : l.length = 1) : ∃ a1, l = [a1] := by
  cases l with
  | nil => cases h
  | cons a1 r =>
    obtain rfl := len0 (l := r) (by simpa using h)
    exact ⟨a1, rfl⟩
theorem len2 {α : Type} {l : List α} (h : l.length = 2) : ∃ a1 a2, l = [a1, a2] := by
  cases l with
  | nil => cases h
  | cons a r =>
    obtain ⟨b1, rfl⟩ := len1 (l := r) (by simpa using h)
    exact ⟨a, b1, rfl⟩
theorem len3 {α : Type} {l : List α} (h : l.length = 3) : ∃ a1 a2 a3, l = [a1, a2, a3] := by
  cases l with
  | nil => cases h
  | cons a r =>
    obtain ⟨b1, b2, rfl⟩ := len2 (l := r) (by simpa using h)
    exact ⟨a, b1, b2, rfl⟩
theorem len4 {α : Type} {l : List α} (h : l.length = 4) : ∃ a1 a2 a3 a4, l = [a1, a2, a3, a4] := by
  cases l with
  | nil => cases h
  | cons a r =>
    obtain ⟨b1, b2, b3, rfl⟩ := len3 (l := r) (by simpa using h)
    exact ⟨a, b1, b2, b3, rfl⟩
theorem len5 {α : Type} {l : List α} (h : l.length = 5) : ∃ a1 a2 a3 a4 a5, l = [a1, a2, a3, a4, a5] := by
  cases l with
  | nil => cases h
  | cons a r =>
    obtain ⟨b1, b2, b3, b4, rfl⟩ := len4 (l := r) (by simpa using h)
    exact ⟨a, b1, b2, b3, b4, rfl⟩
theorem len6 {α : Type} {l : List α} (h : l.length = 6) : ∃ a1 a2 a3 a4 a5 a6, l = [a1, a2, a3, a4, a5, a6] := by
  cases l with
  | nil => cases h
  | cons a r =>
    obtain ⟨b1, b2, b3, b4, b5, rfl⟩ := len5 (l := r) (by simpa using h)
    exact ⟨a, b1, b2, b3, b4, b5, rfl⟩
theorem len7 {α : Type} {l : List α} (h : l.length = 7) : ∃ a1 a2 a3 a4 a5 a6 a7, l = [a1, a2, a3, a4, a5, a6, a7] := by
  cases l with
  | nil => cases h
  | cons a r =>
    obtain ⟨b1, b2, b3, b4, b5, b6, rfl⟩ := len6 (l := r) (by simpa using h)
    exact ⟨a, b1, b2, b3, b4, b5, b6, rfl⟩
theorem len8 {α : Type} {l : List α} (h : l.length = 8) : ∃ a1 a2 a3 a4 a5 a6 a7 a8, l = [a1, a2, a3, a4, a5, a6, a7, a8] := by
  cases l with
  | nil => cases h
  | cons a r =>
    obtain ⟨b1, b2, b3, b4, b5, b6, b7, rfl⟩ := len7 (l := r) (by simpa using h)
    exact ⟨a, b1, b2, b3, b4, b5, b6, b7, rfl⟩
theorem len9 {α : Type} {l : List α} (h : l.length = 9) : ∃ a1 a2 a3 a4 a5 a6 a7 a8 a9, l = [a1, a2, a3, a4, a5, a6, a7, a8, a9] := by
  cases l with
  | nil => cases h
  | cons a r =>
    obtain ⟨b1, b2, b3, b4, b5, b6, b7, b8, rfl⟩ := len8 (l := r) (by simpa using h)
    exact ⟨a, b1, b2, b3, b4, b5, b6, b7, b8, rfl⟩
theorem len10 {α : Type} {l : List α} (h : l.length = 10) : ∃ a1 a2 a3 a4 a5 a6 a7 a8 a9 a10, l = [a1, a2, a3, a4, a5, a6, a7, a8, a9, a10] := by
  cases l with
  | nil => cases h
  | cons a r =>
    obtain ⟨b1, b2, b3, b4, b5, b6, b7, b8, b9, rfl⟩ := len9 (l := r) (by simpa using h)
    exact ⟨a, b1, b2, b3, b4, b5, b6, b7, b8, b9, rfl⟩
theorem len11 {α : Type} {l : List α} (h : l.length = 11) : ∃ a1 a2 a3 a4 a5 a6 a7 a8 a9 a10 a11, l = [a1, a2, a3, a4, a5, a6, a7, a8, a9, a10, a11] := by
  cases l with
  | nil => cases h
  | cons a r =>
    obtain ⟨b1, b2, b3, b4, b5, b6, b7, b8, b9, b10, rfl⟩ := len10 (l := r) (by simpa using h)
    exact ⟨a, b1, b2, b3, b4, b5, b6, b7, b8, b9, b10, rfl⟩
theorem len12 {α : Type} {l : List α} (h : l.length = 12) : ∃ a1 a2 a3 a4 a5 a6 a7 a8 a9 a10 a11 a12, l = [a1, a2, a3, a4, a5, a6, a7, a8, a9, a10, a11, a12] := by
  cases l with
  | nil => cases h
  | cons a r =>
    obtain ⟨b1, b2, b3, b4, b5, b6, b7, b8, b9, b10, b11, rfl⟩ := len11 (l := r) (by simpa using h)
    exact ⟨a, b1, b2, b3, b4, b5, b6, b7, b8, b9, b10, b11, rfl⟩
theorem len13 {α : Type} {l : List α} (h : l.length = 13) : ∃ a1 a2 a3 a4 a5 a6 a7 a8 a9 a10 a11 a12 a13, l = [a1, a2, a3, a4, a5, a6, a7, a8, a9, a10, a11, a12, a13] := by
  cases l with
  | nil => cases h
  | cons a r =>
    obtain ⟨b1, b2, b3, b4, b5, b6, b7, b8, b9, b10, b11, b12, rfl⟩ := len12 (l := r) (by simpa using h)
    exact ⟨a, b1, b2, b3, b4, b5, b6, b7, b8, b9, b10, b11, b12, rfl⟩
theorem len14 {α : Type} {l : List α} (h : l.length = 14) : ∃ a1 a2 a3 a4 a5 a6 a7 a8 a9 a10 a11 a12 a13 a14, l = [a1, a2, a3, a4, a5, a6, a7, a8, a9, a10, a11, a12, a13, a14] := by
  cases l with
  | nil => cases h
  | cons a r =>
    obtain ⟨b1, b2, b3, b4, b5, b6, b7, b8, b9, b10, b11, b12, b13, rfl⟩ := len13 (l := r) (by simpa using h)
    exact ⟨a, b1, b2, b3, b4, b5, b6, b7, b8, b9, b10, b11, b12, b13, rfl⟩
theorem len15 {α : Type} {l : List α} (h : l.length = 15) : ∃ a1 a2 a3 a4 a5 a6 a7 a8 a9 a10 a11 a12 a13 a14 a15, l = [a1, a2, a3, a4, a5, a6, a7, a8, a9, a10, a11, a12, a13, a14, a15] := by
  cases l with
  | nil => cases h
  | cons a r =>
    obtain ⟨b1, b2, b3, b4, b5, b6, b7, b8, b9, b10, b11, b12, b13, b14, rfl⟩ := len14 (l := r) (by simpa using h)
    exact ⟨a, b1, b2, b3, b4, b5, b6, b7, b8, b9, b10, b11, b12, b13, b14, rfl⟩
theorem len16 {α : Type} {l : List α} (h : l.length = 16) : ∃ a1 a2 a3 a4 a5 a6 a7 a8 a9 a10 a11 a12 a13 a14 a15 a16, l = [a1, a2, a3, a4, a5, a6, a7, a8, a9, a10, a11, a12, a13, a14, a15, a16] := by
  cases l with
  | nil => cases h
  | cons a r =>
    obtain ⟨b1, b2, b3, b4, b5, b6, b7, b8, b9, b10, b11, b12, b13, b14, b15, rfl⟩ := len15 (l := r) (by simpa using h)
    exact ⟨a, b1, b2, b3, b4, b5, b6, b7, b8, b9, b10, b11, b12, b13, b14, b15, rfl⟩
theorem len17 {α : Type} {l : List α} (h : l.length = 17) : ∃ a1 a2 a3 a4 a5 a6 a7 a8 a9 a10 a11 a12 a13 a14 a15 a16 a17, l = [a1, a2, a3, a4, a5, a6, a7, a8, a9, a10, a11, a12, a13, a14, a15, a16, a17] := by
  cases l with
  | nil => cases h
  | cons a r =>
    obtain ⟨b1, b2, b3, b4, b5, b6, b7, b8, b9, b10, b11, b12, b13, b14, b15, b16, rfl⟩ := len16 (l := r) (by simpa using h)
    exact ⟨a, b1, b2, b3, b4, b5, b6, b7, b8, b9, b10, b11, b12, b13, b14, b15, b16, rfl⟩
theorem len18 {α : Type} {l : List α} (h : l.length = 18) : ∃ a1 a2 a3 a4 a5 a6 a7 a8 a9 a10 a11 a12 a13 a14 a15 a16 a17 a18, l = [a1, a2, a3, a4, a5, a6, a7, a8, a9, a10, a11, a12, a13, a14, a15, a16, a17, a18] := by
  cases l with
  | nil => cases h
  | cons a r =>
    obtain ⟨b1, b2, b3, b4, b5, b6, b7, b8, b9, b10, b11, b12, b13, b14, b15, b16, b17, rfl⟩ := len17 (l := r) (by simpa using h)
    exact ⟨a, b1, b2, b3, b4, b5, b6, b7, b8, b9, b10, b11, b12, b13, b14, b15, b16, b17, rfl⟩
theorem len19 {α : Type} {l : List α} (h : l.length = 19) : ∃ a1 a2 a3 a4 a5 a6 a7 a8 a9 a10 a11 a12 a13 a14 a15 a16 a17 a18 a19, l = [a1, a2, a3, a4, a5, a6, a7, a8, a9, a10, a11, a12, a13, a14, a15, a16, a17, a18, a19] := by
  cases l with
  | nil => cases h
  | cons a r =>
    obtain ⟨b1, b2, b3, b4, b5, b6, b7, b8, b9, b10, b11, b12, b13, b14, b15, b16, b17, b18, rfl⟩ := len18 (l := r) (by simpa using h)
    exact ⟨a, b1, b2, b3, b4, b5, b6, b7, b8, b9, b10, b11, b12, b13, b14, b15, b16, b17, b18, rfl⟩
theorem len20 {α : Type} {l : List α} (h : l.length = 20) : ∃ a1 a2 a3 a4 a5 a6 a7 a8 a9 a10 a11 a12 a13 a14 a15 a16 a17 a18 a19 a20, l = [a1, a2, a3, a4, a5, a6, a7, a8, a9, a10, a11, a12, a13, a14, a15, a16, a17, a18, a19, a20] := by
  cases l with
  | nil => cases h
  | cons a r =>
    obtain ⟨b1, b2, b3, b4, b5, b6, b7, b8, b9, b10, b11, b12, b13, b14, b15, b16, b17, b18, b19, rfl⟩ := len19 (l := r) (by simpa using h)
    exact ⟨a, b1, b2, b3, b4, b5, b6, b7, b8, b9, b10, b11, b12, b13, b14, b15, b16, b17, b18, b19, rfl⟩
theorem len21 {α : Type} {l : List α} (h : l.length = 21) : ∃ a1 a2 a3 a4 a5 a6 a7 a8 a9 a10 a11 a12 a13 a14 a15 a16 a17 a18 a19 a20 a21, l = [a1, a2, a3, a4, a5, a6, a7, a8, a9, a10, a11, a12, a13, a14, a15, a16, a17, a18, a19, a20, a21] := by
  cases l with
  | nil => cases h
  | cons a r =>
    obtain ⟨b1, b2, b3, b4, b5, b6, b7, b8, b9, b10, b11, b12, b13, b14, b15, b16, b17, b18, b19, b20, rfl⟩ := len20 (l := r) (by simpa using h)
    exact ⟨a, b1, b2, b3, b4, b5, b6, b7, b8, b9, b10, b11, b12, b13, b14, b15, b16, b17, b18, b19, b20, rfl⟩
theorem len22 {α : Type} {l : List α} (h : l.length = 22) : ∃ a1 a2 a3 a4 a5 a6 a7 a8 a9 a10 a11 a12 a13 a14 a15 a16 a17 a18 a19 a20 a21 a22, l = [a1, a2, a3, a4, a5, a6, a7, a8, a9, a10, a11, a12, a13, a14, a15, a16, a17, a18, a19, a20, a21, a22] := by
  cases l with
  | nil => cases h
  | cons a r =>
    obtain ⟨b1, b2, b3, b4, b5, b6, b7, b8, b9, b10, b11, b12, b13, b14, b15, b16, b17, b18, b19, b20, b21, rfl⟩ := len21 (l := r) (by simpa using h)
    exact ⟨a, b1, b2, b3, b4, b5, b6, b7, b8, b9, b10, b11, b12, b13, b14, b15, b16, b17, b18, b19, b20, b21, rfl⟩
@[simp] theorem dep_bd {b : Bool} : dep (bd b) = 0 := by simp [bd]
@[simp] theorem dep_ej {b : Option Bool} : dep (ej b) = 0 := by cases b <;> simp [ej]
theorem deps_map0 {α : Type} {f : α → D} (hf : ∀ x, dep (f x) = 0) (xs : List α) : deps (xs.map f) = 0 := by
  induction xs with
  | nil => simp
  | cons x xs ih => simp [ih, hf]
@[simp] theorem deps_ej {js : List (Option Bool)} : deps (js.map ej) = 0 := deps_map0 (fun _ => dep_ej) _
@[simp] theorem deps_bd {js : List Bool} : deps (js.map bd) = 0 := deps_map0 (fun _ => dep_bd) _
@[simp] theorem deps_str {js : List Str} : deps (js.map D.str) = 0 := deps_strs _
theorem dep_rows (rs : List (List Bool)) : deps (rs.map rowD) ≤ 1 := by
  induction rs with
  | nil => simp
  | cons x xs ih => simp [rowD]; omega
theorem plain_ej {js : List (Option Bool)} {n : Nat} (h : js.length ≤ 1000) : plain (n + 2) (.tuple (js.map ej)) = true := by
  unfold plain
  rw [Bool.and_eq_true]
  refine ⟨by simpa using h, plains_of fun x hx => ?_⟩
  obtain ⟨e, _, rfl⟩ := List.mem_map.mp hx
  rcases e with _ | b <;> simp [ej, bd, plain]
theorem plain_strs {xs : List D} {n : Nat} (h : xs.length ≤ 1000) (hs : ∀ x ∈ xs, ∃ s, x = .str s ∧ s.length ≤ 1000) : plain (n + 2) (.tuple xs) = true := by
  unfold plain
  rw [Bool.and_eq_true]
  refine ⟨by simpa using h, plains_of fun x hx => ?_⟩
  obtain ⟨s, rfl, q⟩ := hs x hx
  simpa [plain] using q
theorem names8_short : ∀ x ∈ names8, x.length ≤ 2 := by decide
theorem coll_short {l : List Str} {m : Nat} (c : Coll m l) {x : Str} (h : x ∈ l) : x.length ≤ 2 := names8_short _ (c.sub _ h)
theorem openD_sub {cs : List D} {js : List (Option Bool)} {x : D} (h : x ∈ openD cs js) : x ∈ cs := by
  simp only [openD, List.mem_map, List.mem_filter] at h
  obtain ⟨p, ⟨h1, _⟩, rfl⟩ := h
  exact (List.of_mem_zip h1).1
theorem openD_len {cs : List D} {js : List (Option Bool)} : (openD cs js).length ≤ cs.length := by
  unfold openD
  rw [List.length_map]
  refine Nat.le_trans (List.length_filter_le _ _) ?_
  rw [List.length_zip]
  omega
end Jr

set_option Elab.async false
set_option linter.all false
set_option maxRecDepth 100000
set_option maxHeartbeats 2000000
namespace Jr
open PySem
/-! ### rankings -/
theorem met_from {α : Type} [DecidableEq α] : ∀ (l acc : List α), acc.Nodup → let m := l.foldl (fun a z => if z ∈ a then a else a ++ [z]) acc
    (m.length ≤ acc.length + l.length) ∧ (m.length = acc.length + l.length ↔ (acc ++ l).Nodup)
  | [], acc, h => by simp [h]
  | x :: l, acc, h => by
    dsimp only
    rw [List.foldl_cons]
    by_cases hx : x ∈ acc
    · rw [if_pos hx]
      obtain ⟨h1, h2⟩ := met_from l acc h
      refine ⟨by rw [List.length_cons]; omega, ⟨fun e => ?_, fun nd => ?_⟩⟩
      · rw [List.length_cons] at e; omega
      · exact absurd rfl ((List.nodup_append.mp nd).2.2 x hx x List.mem_cons_self)
    · rw [if_neg hx]
      have h' : (acc ++ [x]).Nodup := by
        rw [List.nodup_append]
        refine ⟨h, by simp, fun a ha b hb e => ?_⟩
        rw [List.mem_singleton] at hb
        subst e hb
        exact hx ha
      obtain ⟨h1, h2⟩ := met_from l (acc ++ [x]) h'
      rw [List.length_append, List.length_singleton] at h1 h2
      rw [List.append_assoc, List.singleton_append] at h2
      exact ⟨by rw [List.length_cons]; omega, by rw [List.length_cons, ← h2]; constructor <;> (intro e; omega)⟩
theorem met_nodup {α : Type} [DecidableEq α] (l : List α) : ((met l).length = l.length) ↔ l.Nodup := by
  have := (met_from l [] List.nodup_nil).2
  simpa [met] using this
def isRank (cs : List Str) : D → Bool
  | .tuple xs => xs.all (isIn cs) && decide (xs.map unS).Nodup
  | _ => false
theorem ins_strs {cs : List Str} : ∀ {xs : List D}, xs.all (isIn cs) = true → ∃ r : List Str, xs = r.map .str ∧ ∀ x ∈ r, x ∈ cs
  | [], _ => ⟨[], rfl, by simp⟩
  | x :: xs, h => by
    rw [List.all_cons, Bool.and_eq_true] at h
    obtain ⟨s, rfl, hs⟩ := isIn_of h.1
    obtain ⟨r, rfl, hr⟩ := ins_strs h.2
    refine ⟨s :: r, rfl, fun y hy => ?_⟩
    rcases List.mem_cons.mp hy with rfl | hy
    · exact hs
    · exact hr y hy
/-- a ranking -/
structure Rk (l r : List Str) : Prop where
  nd : r.Nodup
  sub : ∀ x ∈ r, x ∈ l
theorem Rk.le {l r : List Str} (h : Rk l r) : r.length ≤ l.length := (List.nodup_iff_count.mp h.nd |> fun _ => h.nd.length_le_of_subset h.sub)
theorem Rk.ok {l r : List Str} (h : Rk l r) : isRank l (.tuple (r.map .str)) = true := by
  simp only [isRank, List.map_map, Bool.and_eq_true, decide_eq_true_eq]
  refine ⟨?_, ?_⟩
  · rw [List.all_map]
    exact List.all_eq_true.mpr fun x hx => decide_eq_true (h.sub x hx)
  · have : (unS ∘ D.str) = id := rfl
    rw [this, List.map_id]
    exact h.nd
theorem isRank_of {l : List Str} {x : D} (h : isRank l x = true) : ∃ r : List Str, x = .tuple (r.map .str) ∧ Rk l r := by
  rcases x with _ | _ | _ | _ | _ | xs
  case tuple =>
    simp only [isRank, Bool.and_eq_true, decide_eq_true_eq] at h
    obtain ⟨r, rfl, hr⟩ := ins_strs h.1
    refine ⟨r, rfl, ?_, hr⟩
    have := h.2
    rw [List.map_map] at this
    have e : (unS ∘ D.str) = id := rfl
    rwa [e, List.map_id] at this
  all_goals cases h
section
variable {Φ : Nat → Option Def} {N k : Nat} {h : Hh} {E : Nat → Hh → Prop}
theorem W_valid_ranking (e : Φ 14 = some d_is_valid_ranking) {cs : List Str} {x : D} (hl : ∀ xs, x = .tuple xs → xs.length < 1000) {Q : Vl → Hh → Prop} : W (callF Φ N (k + 1) 14 [.d (.tuple (cs.map .str)), .d x]) h Q E ↔ Q (.d (.bool (isRank cs x))) h := by
  refine W.rule ?_
  rw [W_call e rfl]
  rcases x with _ | _ | _ | _ | _ | xs
  case tuple =>
    have hx := hl xs rfl
    simp only [d_is_valid_ranking]
    have hm : ∀ {Q : List D → Hh → Prop} {E : Nat → Hh → Prop} {cf : CF}, W (compE cf (Jr.E.and (Es.cons (Jr.E.isi (Jr.E.var 2) Ty.str) (Es.cons (Jr.E.cmp COp.in_ (Jr.E.var 2) (Jr.E.var 0)) Es.nil))) (Tg.nm 2) [2] (Jr.E.bl true) [some (.d (.tuple (cs.map .str))), some (.d (.tuple xs)), none] none xs) h Q E ↔ Q (xs.map fun x => .bool (isIn cs x)) h := by
      intro Q E cf
      refine W_map (fun x => .bool (isIn cs x)) depOk_none fun x hx => ?_
      rw [W_turn]
      rcases x with _ | _ | _ | s | _ | _
      case str =>
        have := any_str (cs := cs) (s := s)
        simp at this ⊢
        rw [Bool.eq_iff_iff]
        simp
      all_goals simp [isIn]
    rw [W_B_cons]
    generalize hQ : seqQ _ _ _ _ _ = Q0
    simp [hm]
    rw [all_map]
    cases ha : xs.all (isIn cs)
    · subst hQ
      simp [isRank, ha]
    · simp
      subst hQ
      rw [seqQ_next]
      obtain ⟨r, rfl, hr⟩ := ins_strs ha
      have hln : lnSV (.tuple (r.map D.str)) = some (.int ((met r).length : Nat)) := by
        unfold lnSV
        dsimp only
        rw [allS_map, Option.bind_some, if_pos (by simpa using hx)]
      have e : (unS ∘ D.str) = id := rfl
      have key : isRank cs (.tuple (r.map D.str)) = decide (((met r).length : Int) = (r.length : Nat)) := by
        simp only [isRank, ha, List.map_map, e, List.map_id, Bool.true_and]
        rw [Bool.eq_iff_iff, decide_eq_true_eq, decide_eq_true_eq, ← met_nodup r]
        omega
      simp [hln, key]
  all_goals simp [d_is_valid_ranking, isRank]
theorem W_require_ranking (e14 : Φ 14 = some d_is_valid_ranking) (e : Φ 45 = some d_require_ranking) {cs : List Str} {x : D} (hl : ∀ xs, x = .tuple xs → xs.length < 1000) {Q : Vl → Hh → Prop} : W (callF Φ N (k + 2) 45 [.d (.tuple (cs.map .str)), .d x]) h Q E ↔ if isRank cs x = true then Q (.d .none) h else E 40 h := by
  rw [W_call e rfl]
  have := fun Q E => W_valid_ranking (N := N) (k := k) (h := h) (E := E) e14 (cs := cs) hl (Q := Q)
  cases hr : isRank cs x <;> simp [d_require_ranking, this, hr]
/-- a drawn ranking -/
theorem W_ranking {ns : List Int} {b : Nat} (e8 : Φ 8 = some d__law_draw) (e7 : Φ 7 = some d__law_pick) (e15 : Φ 15 = some d__law_shuffled) (e : Φ 18 = some d__law_ranking) (s : St ns b h) (hb : b ≤ 800000) (hns : ns.length ≤ 63) (hN : 1000 < N) {l : List Str} (hl : l.length ≤ 8) (nd : l.Nodup) {Q : Vl → Hh → Prop}
    (q : ∀ (r : List Str) c, Rk l r → St ns (b + 24) (h.set 1 c) → Q (.d (.tuple (r.map .str))) (h.set 1 c)) : W (callF Φ N (k + 3) 18 [.r 0, .r 1, .d (.tuple (l.map .str))]) h Q E := by
  rw [W_call e rfl]
  simp only [d__law_ranking]
  rw [W_B_cons]
  generalize hQ : seqQ _ _ _ _ _ = Q0
  simp
  refine W_shuffled e8 e15 s (x := .tuple (l.map .str)) (xs := l.map .str) rfl (by simp; omega) (by omega) hns hN fun ys c pm s => ?_
  obtain ⟨zs, rfl, pm'⟩ := perm_strs pm
  clear pm
  have pm := pm'
  have pl := pm.length_eq
  simp at s
  subst hQ
  rw [seqQ_next]
  rw [W_B_cons]
  generalize hQ : seqQ _ _ _ _ _ = Q0
  simp
  refine W_draw e8 s (by omega) (by omega) hns fun r c2 r0 r1 s => ?_
  rw [List.set_set] at s ⊢
  obtain ⟨m, rfl⟩ : ∃ m : Nat, r = m := ⟨r.toNat, by omega⟩
  simp
  refine W_pick e8 e7 s (by omega) hns (by simp) fun y c3 hy s => ?_
  rw [List.set_set] at s ⊢
  obtain ⟨j, rfl⟩ : ∃ j : Nat, y = .int (j : Int) := by
    simp at hy
    rcases hy with rfl | rfl
    · exact ⟨_, rfl⟩
    · exact ⟨_, rfl⟩
  subst hQ
  rw [seqQ_next]
  simp [cut_take]
  rw [← List.map_take]
  exact q _ c3 ⟨(List.take_sublist _ _).nodup (pm.nodup_iff.mpr nd), fun x hx => pm.mem_iff.mp (List.mem_of_mem_take hx)⟩ (s.more (by omega))
/-! ### several rankings -/
def isRanks (cs : List Str) : D → Bool
  | .list xs => decide (1 ≤ xs.length) && decide (xs.length ≤ 5) && xs.all (isRank cs)
  | _ => false
/-- tuples in it are short -/
def Few (x : D) : Prop := ∀ ys, x = .list ys → ∀ y ∈ ys, ∀ xs, y = .tuple xs → xs.length < 1000
theorem W_require_rankings (e14 : Φ 14 = some d_is_valid_ranking) (e : Φ 80 = some d_require_rankings) {cs : List Str} {x : D} (hl : Few x) {Q : Vl → Hh → Prop} : W (callF Φ N (k + 2) 80 [.d (.tuple (cs.map .str)), .d x]) h Q E ↔ if isRanks cs x = true then Q (.d .none) h else E 79 h := by
  rw [W_call e rfl]
  simp only [d_require_rankings]
  rcases x with _ | _ | _ | _ | xs | _
  case list =>
    by_cases h1 : 1 ≤ xs.length
    · have h1' : (1 : Int) ≤ xs.length := by omega
      by_cases h7 : xs.length ≤ 5
      · have h7' : (xs.length : Int) ≤ 5 := by omega
        rw [W_B_cons]
        generalize hQ : seqQ _ _ _ _ _ = Q0
        simp [h1', h7']
        subst hQ
        rw [seqQ_next]
        have hm : ∀ {Q : List D → Hh → Prop} {E : Nat → Hh → Prop} {a1 : Option Vl}, W (compE (callF Φ N (k + 1)) (Jr.E.call 14 (Es.cons (Jr.E.var 0) (Es.cons (Jr.E.var 2) Es.nil))) (Tg.nm 2) [2] (Jr.E.bl true) [some (.d (.tuple (cs.map .str))), a1, none] none xs) h Q E ↔ Q (xs.map fun x => .bool (isRank cs x)) h := by
          intro Q E a1
          refine W_map (fun x => .bool (isRank cs x)) depOk_none fun x hx => ?_
          rw [W_turn]
          simp [W_valid_ranking e14 (hl xs rfl x hx)]
        simp [hm]
        rw [all_map]
        cases ha : xs.all (isRank cs) <;> simp [isRanks, h1, h7, ha]
      · have h7' : ¬ (xs.length : Int) ≤ 5 := by omega
        simp [h1', h7', isRanks, h7]
    · have h1' : ¬ (1 : Int) ≤ xs.length := by omega
      simp [h1', isRanks, h1]
  all_goals simp [isRanks]
theorem ranks_of {cs : List Str} {x : D} (h : isRanks cs x = true) : ∃ rs : List (List Str), x = .list (rs.map fun r => .tuple (r.map .str)) ∧ (∀ r ∈ rs, Rk cs r) ∧ 1 ≤ rs.length ∧ rs.length ≤ 5 := by
  rcases x with _ | _ | _ | _ | xs | _
  case list =>
    simp only [isRanks, Bool.and_eq_true, decide_eq_true_eq] at h
    obtain ⟨⟨h1, h5⟩, ha⟩ := h
    have key : ∀ xs : List D, xs.all (isRank cs) = true → ∃ rs : List (List Str), xs = rs.map (fun r => D.tuple (r.map .str)) ∧ ∀ r ∈ rs, Rk cs r := by
      intro xs
      induction xs with
      | nil => intro _; exact ⟨[], rfl, by simp⟩
      | cons x xs ih =>
        intro h
        rw [List.all_cons, Bool.and_eq_true] at h
        obtain ⟨r, rfl, hr⟩ := isRank_of h.1
        obtain ⟨rs, rfl, hrs⟩ := ih h.2
        refine ⟨r :: rs, rfl, fun z hz => ?_⟩
        rcases List.mem_cons.mp hz with rfl | hz
        · exact hr
        · exact hrs z hz
    obtain ⟨rs, rfl, hrs⟩ := key xs ha
    exact ⟨rs, rfl, hrs, by simpa using h1, by simpa using h5⟩
  all_goals cases h
end
end Jr

set_option Elab.async false
set_option linter.all false
set_option maxRecDepth 100000
set_option maxHeartbeats 2000000
namespace Jr
open PySem
/-! ### fractions -/
def low (t b : Int) : Int × Int := if b = 0 then (0, 1) else (t / (Nat.gcd t.natAbs b.natAbs : Int), b / (Nat.gcd t.natAbs b.natAbs : Int))
def fr (p : Int × Int) : D := .tuple [.int p.1, .int p.2]
section
variable {Φ : Nat → Option Def} {N k : Nat} {h : Hh} {E : Nat → Hh → Prop}
theorem W_lowest_terms (e : Φ 42 = some d_lowest_terms) {t b : Int} (hb : 0 ≤ b) (hN : b < N) (hb2 : b < 1267650600228229401496703205376) (ht : t.natAbs < 1267650600228229401496703205376) {Q : Vl → Hh → Prop} (q : Q (.d (fr (low t b))) h) : W (callF Φ N (k + 1) 42 [.d (.int t), .d (.int b)]) h Q E := by
  rw [W_call e rfl]
  simp only [d_lowest_terms]
  rw [W_B_cons]
  by_cases b0 : b = 0
  · subst b0
    simp [sizeLine]
    simpa [low, fr] using q
  refine W.imp (Q := fun so h1 => so = .next [some (.d (.int t)), some (.d (.int b)), none, none] ∧ h1 = h) (by simp [b0]) ?_
  rintro so h1 ⟨rfl, rfl⟩
  show W (evB _ _ _ _) _ _ _
  rw [W_B_cons]
  refine W.imp (Q := fun so h2 => so = .next [some (.d (.int t)), some (.d (.int b)), some (.d (.int t.natAbs)), some (.d (.int b.natAbs))] ∧ h2 = h1) ?_ ?_
  · simp [bltV]
    split <;> omega
  rintro so h2 ⟨rfl, rfl⟩
  show W (evB _ _ _ _) _ _ _
  rw [W_B_cons]
  have g0 : 0 < Nat.gcd t.natAbs b.natAbs := Nat.gcd_pos_of_pos_right _ (by omega)
  refine W.imp (Q := fun so h3 => so = .next [some (.d (.int t)), some (.d (.int b)), some (.d (.int (Nat.gcd t.natAbs b.natAbs : Nat))), some (.d (.int 0))] ∧ h3 = h2) ?_ ?_
  · rw [evS_whl]
    unfold whlE
    refine W_whl (fun m en h3 => ∃ u v : Nat, en = [some (.d (.int t)), some (.d (.int b)), some (.d (.int u)), some (.d (.int v))] ∧ Nat.gcd u v = Nat.gcd t.natAbs b.natAbs ∧ m = v ∧ h3 = h2) ?_ (m := b.natAbs) ⟨_, _, rfl, rfl, rfl, rfl⟩ (by omega)
    rintro m en h3 ⟨u, v, rfl, hg, rfl, rfl⟩
    by_cases v0 : m = 0
    · subst v0
      simp
      rw [Nat.gcd_zero_right] at hg
      rw [hg]
    · simp [v0]
      rw [mod_ii (by omega)]
      simp
      refine ⟨u % m, Nat.mod_lt _ (by omega), m, ⟨rfl, by simp⟩, ?_⟩
      rw [← hg, Nat.gcd_comm u m, Nat.gcd_rec m u, Nat.gcd_comm]
  rintro so h3 ⟨rfl, rfl⟩
  have gl : Nat.gcd t.natAbs b.natAbs ≤ b.natAbs := Nat.gcd_le_right _ (by omega)
  show W (evB _ _ _ _) _ _ _
  simp
  rw [fdiv_b (by omega) (by omega), fdiv_b (by omega) (by omega)]
  simp [sizeLine]
  simpa [low, fr, b0] using q
end
end Jr

set_option Elab.async false
set_option linter.all false
set_option maxRecDepth 100000
set_option maxHeartbeats 2000000
namespace Jr
open PySem
/-! ### dicts whose keys are the documents -/
theorem putK_new {kvs : List (D × D)} {s : Str} {v : D} {l : List Str} (hk : kvs.map (·.1) = l.map .str) (hs : s ∉ l) : putK kvs (.str s) v = kvs ++ [(.str s, v)] := by
  unfold putK
  rw [if_neg]
  intro h
  rw [List.any_eq_true] at h
  obtain ⟨p, hp, e⟩ := h
  have : p.1 ∈ kvs.map (·.1) := List.mem_map.mpr ⟨p, hp, rfl⟩
  rw [hk] at this
  obtain ⟨z, hz, e2⟩ := List.mem_map.mp this
  rw [← e2] at e
  simp at e
  exact hs (e ▸ hz)
theorem foldK {l : List Str} {vs : List D} : ∀ {acc : List Str} {kvs : List (D × D)}, kvs.map (·.1) = acc.map .str → (acc ++ l).Nodup → l.length = vs.length → ((l.map D.str).zip vs).foldl (fun a p => putK a p.1 p.2) kvs = kvs ++ (l.map D.str).zip vs := by
  induction l generalizing vs with
  | nil => intro acc kvs hk nd hl; simp
  | cons s l ih =>
    intro acc kvs hk nd hl
    cases vs with
    | nil => simp at hl
    | cons v vs =>
      rw [List.map_cons, List.zip_cons_cons, List.foldl_cons]
      have hs : s ∉ acc := fun hm => (List.nodup_append.mp nd).2.2 s hm s List.mem_cons_self rfl
      rw [putK_new hk hs, ih (acc := acc ++ [s]) (by simp [hk]) (by simpa using nd) (by simpa using hl)]
      simp
theorem mergeK_zip {l : List Str} {vs : List D} (nd : l.Nodup) (hl : l.length = vs.length) : mergeK ((l.map D.str).zip vs) = (l.map D.str).zip vs := by
  have := foldK (acc := []) (kvs := []) (l := l) (vs := vs) rfl (by simpa using nd) hl
  simpa [mergeK] using this
theorem getK_zip : ∀ {l : List Str} {vs : List D} {s : Str}, l.Nodup → l.length = vs.length → s ∈ l → getK ((l.map D.str).zip vs) (.str s) = vs[l.idxOf s]?
  | [], _, _, _, _, h => by cases h
  | x :: l, [], _, _, hl, _ => by simp at hl
  | x :: l, v :: vs, s, nd, hl, hs => by
    unfold getK
    rw [List.map_cons, List.zip_cons_cons, List.find?_cons]
    by_cases e : x = s
    · subst e; simp
    · have e2 : (x == s) = false := beq_eq_false_iff_ne.mpr e
      have hs' : s ∈ l := by
        rcases List.mem_cons.mp hs with q | q
        · exact absurd q.symm e
        · exact q
      have := getK_zip (List.nodup_cons.mp nd).2 (by simpa using hl) hs'
      unfold getK at this
      simp [e, this, List.idxOf_cons, e2]
theorem zip_map_self {l : List Str} {f : Str → D} : (l.map D.str).zip (l.map f) = l.map fun d => (.str d, f d) := by
  induction l with
  | nil => rfl
  | cons x l ih => simp [ih]
theorem getK_map {l : List Str} {f : Str → D} {s : Str} (nd : l.Nodup) (hs : s ∈ l) : getK (l.map fun d => (.str d, f d)) (.str s) = some (f s) := by
  rw [← zip_map_self, getK_zip nd (by simp) hs, List.getElem?_map]
  have : l[l.idxOf s]? = some s := by
    rw [List.getElem?_eq_getElem (List.idxOf_lt_length_iff.mpr hs)]
    simp
  rw [this]
  rfl
theorem allP_map {l : List Str} {f : Str → D} : allP (l.map fun d => .tuple [.str d, f d]) = some (l.map fun d => (.str d, f d)) := by
  induction l with
  | nil => rfl
  | cons x l ih =>
    rw [List.map_cons]
    unfold allP
    rw [ih]
    rfl
theorem dprsV_map {l : List Str} {f : Str → D} (nd : l.Nodup) (hl : l.length ≤ 1000) : dprsV (.list (l.map fun d => .tuple [.str d, f d])) = some (l.map fun d => (.str d, f d)) := by
  unfold dprsV
  dsimp only
  rw [allP_map, Option.bind_some, if_pos ⟨by simpa using hl, by rw [List.all_map]; exact List.all_eq_true.mpr fun _ _ => rfl⟩, ← zip_map_self, mergeK_zip nd (by simp)]
theorem dzipV_zip {l : List Str} {vs : List D} (nd : l.Nodup) (hl : l.length = vs.length) (h7 : l.length ≤ 1000) : dzipV (.tuple (l.map D.str)) (.tuple vs) = some ((l.map D.str).zip vs) := by
  unfold dzipV
  dsimp only
  rw [if_pos ⟨by simpa using h7, by omega, by rw [List.all_map]; exact List.all_eq_true.mpr fun _ _ => rfl⟩, mergeK_zip nd hl]
theorem rng_ab {a b : Nat} (h : a ≤ b) (hb : b ≤ 1000) : rng (a : Int) (b : Int) = some ((List.range' a (b - a)).map fun (i : Nat) => .int (i : Int)) := by
  unfold rng
  have h1 : sm (a : Int) = true := by unfold sm; simp; omega
  have h2 : sm (b : Int) = true := by unfold sm; simp; omega
  have h3 : ((b : Int) - (a : Int)).toNat = b - a := by omega
  have h4 : b - a ≤ sizeLine := by unfold sizeLine; omega
  rw [h1, h2, h3, Bool.true_and, Bool.true_and, if_pos (decide_eq_true h4)]
  unfold rangeD
  rw [List.range'_eq_map_range, List.map_map]
  have : (fun (i : Nat) => D.int ((a : Int) + (i : Int))) = (fun (i : Nat) => D.int (i : Int)) ∘ fun x => a + x := by
    funext i
    simp
  rw [this]
end Jr

set_option Elab.async false
set_option linter.all false
set_option maxRecDepth 100000
set_option maxHeartbeats 2000000
namespace Jr
open PySem
def isMeasure : D → Bool
  | .tuple [.str x] => inStrs x ["reciprocal", "average"]
  | .tuple [.str x, y] => inStrs x ["precision", "recall", "gain", "share"] && isIntIn y 1 7
  | _ => false
section
variable {Φ : Nat → Option Def} {N k : Nat} {h : Hh} {E : Nat → Hh → Prop}
theorem W_is_measure (e6 : Φ 6 = some d_is_integer) (e : Φ 3 = some d_is_measure) {x : D} {Q : Vl → Hh → Prop} : W (callF Φ N (k + 2) 3 [.d x]) h Q E ↔ Q (.d (.bool (isMeasure x))) h := by
  rw [W_call e rfl]
  rcases x with _ | _ | _ | _ | _ | xs
  case tuple =>
    rcases xs with _ | ⟨y, ys⟩
    · simp [d_is_measure, isMeasure]
    · rcases y with _ | _ | _ | s | _ | _
      case str =>
        rcases ys with _ | ⟨z, _ | ⟨w, ws⟩⟩
        · simp [d_is_measure, isMeasure, ok_string, inStrs, sizeLine, q]
        · simp [d_is_measure, isMeasure, ok_string, inStrs, sizeLine, q, W_is_integer e6]
          by_cases c1 : Str.ofString "precision" = s <;> by_cases c2 : Str.ofString "recall" = s <;> by_cases c3 : Str.ofString "gain" = s <;> by_cases c4 : Str.ofString "share" = s <;> simp [c1, c2, c3, c4]
        · have n1 : ¬ ((ws.length : Int) + 1 + 1 + 1 = 1) := by omega
          have n2 : ¬ ((ws.length : Int) + 1 + 1 + 1 = 2) := by omega
          simp [d_is_measure, isMeasure, n1, n2]
      all_goals simp [d_is_measure, isMeasure]
  all_goals simp [d_is_measure, isMeasure]
end
section
variable {Φ : Nat → Option Def} {N k : Nat} {ns : List Int} {b : Nat} {h : Hh} {E : Nat → Hh → Prop}
theorem W_measure (e8 : Φ 8 = some d__law_draw) (e7 : Φ 7 = some d__law_pick) (e : Φ 1 = some d__law_measure) (s : St ns b h) (hb : b ≤ 900000) (hns : ns.length ≤ 63) {Q : Vl → Hh → Prop}
    (q : ∀ y c, isMeasure y = true → Sm 7 1 y → St ns (b + 4) (h.set 1 c) → Q (.d y) (h.set 1 c)) : W (callF Φ N (k + 3) 1 [.r 0, .r 1]) h Q E := by
  rw [W_call e rfl]
  simp [d__law_measure, ok_string, sizeLine]
  refine W_pick e8 e7 s (by omega) hns (by simp) fun y c hy s1 => ?_
  have up : ∀ {c}, St ns (b + 2) (h.set 1 c) → St ns (b + 4) (h.set 1 c) := fun ⟨z1, st, z2, z3⟩ => ⟨z1, st, z2, by omega⟩
  have fin1 : ∀ x, inStrs x ["reciprocal", "average"] = true → Q (.d (.tuple [.str x])) (h.set 1 c) := fun x hx => q _ c (by simpa [isMeasure] using hx) (by simp [Sm]) (up s1)
  have fin2 : ∀ x, inStrs x ["precision", "recall", "gain", "share"] = true → W (callF Φ N (k + 2) 8 [Vl.r 0, Vl.r 1, Vl.d (D.int 5)]) (h.set 1 c) (fun w h2 => W (rd w) h2 (fun b h4 => W (pO (addV (D.int 1) b)) h4 (fun a h1 => W (asD a) h1 (fun x_1 h1 => Q (Vl.d (D.tuple [D.str x, x_1])) (h1.take h.length)) fun c h1 => E c (List.take h.length h1)) fun c h1 => E c (List.take h.length h1)) fun c h1 => E c (List.take h.length h1)) fun c h1 => E c (List.take h.length h1) := fun x hx => by
    refine W_draw e8 s1 (by omega) (by decide) hns fun r c2 r0 r1 s2 => ?_
    simp at s2 ⊢
    refine q _ c2 ?_ ?_ s2
    · simp [isMeasure, hx, isIntIn]
      omega
    · simp [Sm]
      omega
  simp only [List.mem_cons, List.not_mem_nil, or_false] at hy
  rcases hy with rfl | rfl | rfl | rfl | rfl | rfl | rfl <;> simp
  all_goals first | (exact fin1 _ (by simp [inStrs, q])) | exact fin2 _ (by simp [inStrs, q]) | trace_state
end
end Jr

set_option Elab.async false
set_option linter.all false
/-! Jr: measures as rationals (no program here) -/
namespace Jr
/-- a measure -/
inductive Ms where
  | avg | rcp | prec (n : Nat) | rcl (n : Nat) | gain (n : Nat) | share (n : Nat)
  deriving DecidableEq
def bq (b : Bool) : Rat := if b then 1 else 0
/-- the terms from rank k + 1 on -/
def gainF : Nat → List Bool → Rat
  | _, [] => 0
  | k, b :: r => bq b / ((k + 1 : Nat) : Rat) + gainF (k + 1) r
def cnt (hs : List Bool) : Nat := hs.count true
def avgF : Nat → Nat → List Bool → Rat
  | _, _, [] => 0
  | k, f, b :: r => (if b then ((f + 1 : Nat) : Rat) / ((k + 1 : Nat) : Rat) else 0) + avgF (k + 1) (if b then f + 1 else f) r
def rcpF : Nat → List Bool → Rat
  | _, [] => 0
  | k, b :: r => if b then 1 / ((k + 1 : Nat) : Rat) else rcpF (k + 1) r
def mostF (n : Nat) : Rat := gainF 0 (List.replicate n true)
def val (hs : List Bool) (R : Nat) (m : Ms) : Rat := match m with
  | Ms.avg => avgF 0 0 hs / (R : Rat)
  | Ms.rcp => rcpF 0 hs
  | Ms.prec n => (cnt (hs.take n) : Rat) / (n : Rat)
  | Ms.rcl n => (cnt (hs.take n) : Rat) / (R : Rat)
  | Ms.gain n => gainF 0 (hs.take n)
  | Ms.share n => gainF 0 (hs.take n) / mostF (min n R)
@[simp] theorem cnt_nil : cnt [] = 0 := rfl
@[simp] theorem cnt_cons (b : Bool) (r : List Bool) : cnt (b :: r) = cnt r + (if b then 1 else 0) := by cases b <;> simp [cnt]
theorem cnt_le (hs : List Bool) : cnt hs ≤ hs.length := List.count_le_length
theorem cnt_append (a b : List Bool) : cnt (a ++ b) = cnt a + cnt b := List.count_append
@[simp] theorem cnt_rep (n : Nat) : cnt (List.replicate n true) = n := by simp [cnt]
@[simp] theorem cnt_repF (n : Nat) : cnt (List.replicate n false) = 0 := by simp [cnt, List.count_replicate]
theorem cnt_perm {a b : List Bool} (h : a.Perm b) : cnt a = cnt b := h.count_eq _
/-! ### rationals -/
theorem natq_pos {n : Nat} (h : 0 < n) : (0 : Rat) < (n : Rat) := Rat.natCast_pos.mpr h
theorem natq_nonneg (n : Nat) : (0 : Rat) ≤ (n : Rat) := Rat.natCast_nonneg
theorem natq_le {m n : Nat} (h : m ≤ n) : (m : Rat) ≤ (n : Rat) := Rat.natCast_le_natCast.mpr h
theorem bq_nonneg (b : Bool) : 0 ≤ bq b := by cases b <;> simp [bq] <;> decide
theorem bq_le (b : Bool) : bq b ≤ 1 := by cases b <;> simp [bq] <;> decide
theorem inv_nonneg' {b : Rat} (hb : 0 ≤ b) : 0 ≤ b⁻¹ := by
  by_cases h : b = 0
  · subst h; rw [Rat.inv_zero]; exact Rat.le_refl
  · exact Rat.le_of_lt (Rat.inv_pos.mpr (Rat.lt_of_le_of_ne hb (fun e => h e.symm)))
theorem div_nonneg' {a b : Rat} (ha : 0 ≤ a) (hb : 0 ≤ b) : 0 ≤ a / b := by
  rw [Rat.div_def]
  exact Rat.mul_nonneg ha (inv_nonneg' hb)
theorem div_mono {a b c : Rat} (hab : a ≤ b) (hc : 0 ≤ c) : a / c ≤ b / c := by
  rw [Rat.div_def, Rat.div_def]
  exact Rat.mul_le_mul_of_nonneg_right hab (inv_nonneg' hc)
theorem div_le_one {a b : Rat} (hb : 0 < b) (h : a ≤ b) : a / b ≤ 1 := by
  have := div_mono h (Rat.le_of_lt hb)
  have e : b / b = 1 := by grind
  grind
theorem div_le_one' {a b : Rat} (hb : 0 ≤ b) (h : a ≤ b) : a / b ≤ 1 := by
  by_cases e : b = 0
  · subst e; rw [Rat.div_def, Rat.inv_zero]; grind
  · exact div_le_one (Rat.lt_of_le_of_ne hb (fun q => e q.symm)) h
theorem one_div_mono {m n : Nat} (h : m ≤ n) (hm : 0 < m) : (1 : Rat) / (n : Rat) ≤ 1 / (m : Rat) := by
  have a := natq_pos hm
  have b := natq_pos (Nat.lt_of_lt_of_le hm h)
  have c := natq_le h
  have e0 : (1 : Rat) / (n : Rat) * (m : Rat) = (m : Rat) / (n : Rat) := by grind
  have e2 := div_le_one b c
  have e1 : (1 : Rat) / (m : Rat) * (m : Rat) = 1 := by grind
  refine Rat.le_of_mul_le_mul_right ?_ a
  grind
theorem zero_div' (a : Rat) : 0 / a = 0 := by rw [Rat.div_def, Rat.zero_mul]
theorem div_zero' (a : Rat) : a / 0 = 0 := by rw [Rat.div_def, Rat.inv_zero, Rat.mul_zero]
end Jr

set_option Elab.async false
set_option linter.all false
set_option maxRecDepth 100000
set_option maxHeartbeats 2000000
namespace Jr
open PySem
open scoped Rat
/-! ### fractions as rationals -/
def pr (t b : Int) : D := .tuple [.int t, .int b]
def frD (x : Rat) : D := pr x.num x.den
@[irreducible] def bigN : Nat := 2 ^ 4000
theorem big_le {n : Nat} (h : n ≤ 4000) : 2 ^ n ≤ bigN := by unfold bigN; exact Nat.pow_le_pow_right (by decide) h
theorem big_1000 : 1000 < bigN := Nat.lt_of_lt_of_le (show 1000 < 2 ^ 10 by decide) (big_le (by decide))
theorem pr_eqv {a b c d : Int} : eqv (pr a b) (pr c d) = (decide (a = c) && decide (b = d)) := by simp [pr]
theorem frD_eqv {x y : Rat} : eqv (frD x) (frD y) = decide (x = y) := by
  unfold frD
  rw [pr_eqv, Bool.eq_iff_iff, Bool.and_eq_true, decide_eq_true_eq, decide_eq_true_eq, decide_eq_true_eq]
  constructor
  · rintro ⟨h1, h2⟩; exact Rat.ext h1 (by omega)
  · rintro rfl; exact ⟨rfl, rfl⟩
theorem frD_inj {x y : Rat} (h : frD x = frD y) : x = y := by
  unfold frD pr at h
  injection h with h
  injection h with h1 h2
  injection h1 with h1
  injection h2 with h2
  injection h2 with h2
  exact Rat.ext h1 (by omega)
@[simp] theorem dep_pr {a b : Int} : dep (pr a b) = 1 := by simp [pr]
@[simp] theorem dep_frD {x : Rat} : dep (frD x) = 1 := by simp [frD]
theorem low_eq {t b : Int} (hb : 0 ≤ b) : fr (low t b) = frD (t /. b) := by
  unfold low fr frD pr
  by_cases b0 : b = 0
  · subst b0
    simp
  · rw [if_neg b0]
    have hp : 0 < b := by omega
    rw [Rat.num_divInt, Rat.den_divInt, if_neg b0, Int.sign_eq_one_of_pos hp, Int.one_mul]
    have e1 : (Nat.gcd t.natAbs b.natAbs : Int) = (b.gcd t : Nat) := by
      rw [Int.gcd, Nat.gcd_comm]
    rw [e1]
    have e2 : b / ((b.gcd t : Nat) : Int) = ((b.natAbs / b.gcd t : Nat) : Int) := by
      rw [Int.natCast_ediv]
      congr 1
      omega
    rw [e2]
def Bd (n : Nat) (x : Rat) : Prop := x.num.natAbs ≤ 2 ^ n ∧ x.den ≤ 2 ^ n
theorem Bd.up {m n : Nat} {x : Rat} (h : Bd m x) (l : m ≤ n) : Bd n x := ⟨Nat.le_trans h.1 (Nat.pow_le_pow_right (by decide) l), Nat.le_trans h.2 (Nat.pow_le_pow_right (by decide) l)⟩
theorem bd_divInt {t b : Int} {n : Nat} (ht : t.natAbs ≤ 2 ^ n) (hb : b.natAbs ≤ 2 ^ n) : Bd n (t /. b) := by
  constructor
  · rw [Rat.num_divInt]
    refine Nat.le_trans ?_ ht
    refine Nat.le_trans (Int.natAbs_ediv_le_natAbs _ _) ?_
    rw [Int.natAbs_mul, Int.natAbs_sign]
    split <;> omega
  · rw [Rat.den_divInt]
    split
    · exact Nat.one_le_two_pow
    · exact Nat.le_trans (Nat.div_le_self _ _) hb
theorem add_divInt {t1 b1 t2 b2 : Int} (h1 : b1 ≠ 0) (h2 : b2 ≠ 0) : t1 /. b1 + t2 /. b2 = (t1 * b2 + t2 * b1) /. (b1 * b2) := Rat.divInt_add_divInt _ _ h1 h2
theorem mul_le_pow {a b m n : Nat} (h1 : a ≤ 2 ^ m) (h2 : b ≤ 2 ^ n) : a * b ≤ 2 ^ (m + n) := by
  rw [Nat.pow_add]
  exact Nat.mul_le_mul h1 h2
theorem cross_le {t1 b1 t2 b2 : Int} {m n : Nat} (h1 : t1.natAbs ≤ 2 ^ m) (h2 : b1.natAbs ≤ 2 ^ m) (h3 : t2.natAbs ≤ 2 ^ n) (h4 : b2.natAbs ≤ 2 ^ n) : (t1 * b2 + t2 * b1).natAbs ≤ 2 ^ (m + n + 1) := by
  refine Nat.le_trans (Int.natAbs_add_le _ _) ?_
  rw [Int.natAbs_mul, Int.natAbs_mul, Nat.pow_succ]
  have := mul_le_pow h1 h4
  have := mul_le_pow h3 h2
  rw [Nat.add_comm n m] at this
  omega
theorem bot_le {b1 b2 : Int} {m n : Nat} (h2 : b1.natAbs ≤ 2 ^ m) (h4 : b2.natAbs ≤ 2 ^ n) : (b1 * b2).natAbs ≤ 2 ^ (m + n + 1) := by
  rw [Int.natAbs_mul]
  exact Nat.le_trans (mul_le_pow h2 h4) (Nat.pow_le_pow_right (by decide) (by omega))
theorem num_den (x : Rat) : x.num /. (x.den : Int) = x := Rat.num_divInt_den x
theorem Bd.add {m n : Nat} {x y : Rat} (h1 : Bd m x) (h2 : Bd n y) : Bd (m + n + 1) (x + y) := by
  have e : x + y = x.num /. (x.den : Int) + y.num /. (y.den : Int) := by rw [num_den, num_den]
  rw [e, add_divInt (by have := x.den_nz; omega) (by have := y.den_nz; omega)]
  exact bd_divInt (cross_le h1.1 (by simpa using h1.2) h2.1 (by simpa using h2.2)) (bot_le (by simpa using h1.2) (by simpa using h2.2))
theorem Bd.mul {m n : Nat} {x y : Rat} (h1 : Bd m x) (h2 : Bd n y) : Bd (m + n) (x * y) := by
  have e : x * y = x.num /. (x.den : Int) * (y.num /. (y.den : Int)) := by rw [num_den, num_den]
  rw [e, Rat.divInt_mul_divInt]
  refine bd_divInt ?_ ?_
  · rw [Int.natAbs_mul]; exact mul_le_pow h1.1 h2.1
  · rw [Int.natAbs_mul]; exact mul_le_pow (by simpa using h1.2) (by simpa using h2.2)
theorem Bd.neg {n : Nat} {x : Rat} (h : Bd n x) : Bd n (-x) := ⟨by simpa using h.1, by simpa using h.2⟩
theorem Bd.sub {m n : Nat} {x y : Rat} (h1 : Bd m x) (h2 : Bd n y) : Bd (m + n + 1) (x - y) := by
  rw [Rat.sub_eq_add_neg]
  exact h1.add h2.neg
theorem Bd.div {m n : Nat} {x y : Rat} (h1 : Bd m x) (h2 : Bd n y) : Bd (m + n) (x / y) := by
  rw [Rat.div_def]
  refine h1.mul ?_
  rw [Rat.inv_def]
  exact bd_divInt (by simpa using h2.2) h2.1
theorem Bd.nat {k n : Nat} (h : k ≤ 2 ^ n) : Bd n (k : Rat) := ⟨by simpa using h, by simpa using Nat.one_le_two_pow⟩
theorem Bd.zero : Bd 0 0 := ⟨by decide, by decide⟩
theorem Bd.one : Bd 0 1 := ⟨by decide, by decide⟩
theorem mul_bd {a b : Int} {m n : Nat} (h1 : a.natAbs ≤ 2 ^ m) (h2 : b.natAbs ≤ 2 ^ n) (hm : m ≤ 4000) (hn : n ≤ 4000) : mulV (.int a) (.int b) = some (.int (a * b)) := by
  refine mul_ii (Nat.lt_of_le_of_lt h1 ?_) (Nat.lt_of_le_of_lt h2 ?_)
  · exact Nat.pow_lt_pow_right (by decide) (by omega)
  · exact Nat.pow_lt_pow_right (by decide) (by omega)
theorem fdiv_big {a b : Int} (h : 0 < b) (h2 : b.natAbs ≤ bigN) : fdivV (.int a) (.int b) = some (.int (a / b)) := by
  refine fdiv_ii h (Nat.lt_of_le_of_lt h2 ?_)
  unfold bigN
  exact Nat.pow_lt_pow_right (by decide) (by decide)
structure TF (Φ : Nat → Option Def) : Prop where
  e42 : Φ 42 = some d_lowest_terms
  e43 : Φ 43 = some d_added
section
variable {Φ : Nat → Option Def} {N k : Nat} {h : Hh} {E : Nat → Hh → Prop}
theorem W_lowest_big (e : Φ 42 = some d_lowest_terms) {t b : Int} (hb : 0 ≤ b) (hN : bigN < N) (hb2 : b.natAbs ≤ bigN) {Q : Vl → Hh → Prop} (q : Q (.d (fr (low t b))) h) : W (callF Φ N (k + 1) 42 [.d (.int t), .d (.int b)]) h Q E := by
  rw [W_call e rfl]
  simp only [d_lowest_terms]
  rw [W_B_cons]
  by_cases b0 : b = 0
  · subst b0
    simp [sizeLine]
    simpa [low, fr] using q
  refine W.imp (Q := fun so h1 => so = .next [some (.d (.int t)), some (.d (.int b)), none, none] ∧ h1 = h) (by simp [b0]) ?_
  rintro so h1 ⟨rfl, rfl⟩
  show W (evB _ _ _ _) _ _ _
  rw [W_B_cons]
  refine W.imp (Q := fun so h2 => so = .next [some (.d (.int t)), some (.d (.int b)), some (.d (.int t.natAbs)), some (.d (.int b.natAbs))] ∧ h2 = h1) ?_ ?_
  · simp [bltV]
    split <;> omega
  rintro so h2 ⟨rfl, rfl⟩
  show W (evB _ _ _ _) _ _ _
  rw [W_B_cons]
  have g0 : 0 < Nat.gcd t.natAbs b.natAbs := Nat.gcd_pos_of_pos_right _ (by omega)
  refine W.imp (Q := fun so h3 => so = .next [some (.d (.int t)), some (.d (.int b)), some (.d (.int (Nat.gcd t.natAbs b.natAbs : Nat))), some (.d (.int 0))] ∧ h3 = h2) ?_ ?_
  · rw [evS_whl]
    unfold whlE
    refine W_whl (fun m en h3 => ∃ u v : Nat, en = [some (.d (.int t)), some (.d (.int b)), some (.d (.int u)), some (.d (.int v))] ∧ Nat.gcd u v = Nat.gcd t.natAbs b.natAbs ∧ m = v ∧ h3 = h2) ?_ (m := b.natAbs) ⟨_, _, rfl, rfl, rfl, rfl⟩ (by omega)
    rintro m en h3 ⟨u, v, rfl, hg, rfl, rfl⟩
    by_cases v0 : m = 0
    · subst v0
      simp
      rw [Nat.gcd_zero_right] at hg
      rw [hg]
    · simp [v0]
      rw [mod_ii (by omega)]
      simp
      refine ⟨u % m, Nat.mod_lt _ (by omega), m, ⟨rfl, by simp⟩, ?_⟩
      rw [← hg, Nat.gcd_comm u m, Nat.gcd_rec m u, Nat.gcd_comm]
  rintro so h3 ⟨rfl, rfl⟩
  have gl : Nat.gcd t.natAbs b.natAbs ≤ b.natAbs := Nat.gcd_le_right _ (by omega)
  show W (evB _ _ _ _) _ _ _
  simp
  rw [fdiv_big (by omega) (by omega), fdiv_big (by omega) (by omega)]
  simp [sizeLine]
  simpa [low, fr, b0] using q
theorem W_lt (e : Φ 42 = some d_lowest_terms) (hN : bigN < N) {t b : Int} (hb : 0 ≤ b) (hb2 : b.natAbs ≤ bigN) {Q : Vl → Hh → Prop} : W (callF Φ N (k + 1) 42 [.d (.int t), .d (.int b)]) h Q E ↔ Q (.d (frD (t /. b))) h :=
  W.rule (W_lowest_big e hb hN hb2 ⟨by rw [low_eq hb], rfl⟩)
theorem W_added (T : TF Φ) (hN : bigN < N) {t1 b1 t2 b2 : Int} {m n : Nat} (p1 : 0 < b1) (p2 : 0 < b2) (h1 : t1.natAbs ≤ 2 ^ m) (h2 : b1.natAbs ≤ 2 ^ m) (h3 : t2.natAbs ≤ 2 ^ n) (h4 : b2.natAbs ≤ 2 ^ n) (hs : m + n < 4000) {Q : Vl → Hh → Prop} :
    W (callF Φ N (k + 2) 43 [.d (pr t1 b1), .d (pr t2 b2)]) h Q E ↔ Q (.d (frD (t1 /. b1 + t2 /. b2))) h := by
  rw [W_call T.e43 rfl, add_divInt (by omega) (by omega)]
  have hw := fun Q E => W_lt (k := k) (h := h) (E := E) T.e42 hN (t := t1 * b2 + t2 * b1) (b := b1 * b2) (Int.mul_nonneg (by omega) (by omega)) (Nat.le_trans (bot_le h2 h4) (big_le (by omega))) (Q := Q)
  have m1 := mul_bd h1 h4 (by omega) (by omega)
  have m2 := mul_bd h3 h2 (by omega) (by omega)
  have m3 := mul_bd h2 h4 (by omega) (by omega)
  simp [d_added, pr, m1, m2, m3, hw]
theorem W_addF (T : TF Φ) (hN : bigN < N) {x y : Rat} {m n : Nat} (h1 : Bd m x) (h2 : Bd n y) (hs : m + n < 4000) {Q : Vl → Hh → Prop} :
    W (callF Φ N (k + 2) 43 [.d (frD x), .d (frD y)]) h Q E ↔ Q (.d (frD (x + y))) h := by
  have := W_added (Q := Q) (E := E) (h := h) (k := k) T hN (t1 := x.num) (b1 := x.den) (t2 := y.num) (b2 := y.den) (by have := x.den_nz; omega) (by have := y.den_nz; omega) h1.1 (by simpa using h1.2) h2.1 (by simpa using h2.2) hs
  rw [num_den, num_den] at this
  exact this
theorem W_addP (T : TF Φ) (hN : bigN < N) {x : Rat} {t b : Int} {m n : Nat} (h1 : Bd m x) (p : 0 < b) (h3 : t.natAbs ≤ 2 ^ n) (h4 : b.natAbs ≤ 2 ^ n) (hs : m + n < 4000) {Q : Vl → Hh → Prop} :
    W (callF Φ N (k + 2) 43 [.d (frD x), .d (pr t b)]) h Q E ↔ Q (.d (frD (x + t /. b))) h := by
  have := W_added (Q := Q) (E := E) (h := h) (k := k) T hN (t1 := x.num) (b1 := x.den) (t2 := t) (b2 := b) (by have := x.den_nz; omega) p h1.1 (by simpa using h1.2) h3 h4 hs
  rw [num_den] at this
  exact this
theorem W_times (e42 : Φ 42 = some d_lowest_terms) (e : Φ 127 = some d_times) (hN : bigN < N) {t1 b1 t2 b2 : Int} {m n : Nat} (p1 : 0 ≤ b1) (p2 : 0 ≤ b2) (h1 : t1.natAbs ≤ 2 ^ m) (h2 : b1.natAbs ≤ 2 ^ m) (h3 : t2.natAbs ≤ 2 ^ n) (h4 : b2.natAbs ≤ 2 ^ n) (hs : m + n < 4000) {Q : Vl → Hh → Prop} :
    W (callF Φ N (k + 2) 127 [.d (pr t1 b1), .d (pr t2 b2)]) h Q E ↔ Q (.d (frD (t1 /. b1 * (t2 /. b2)))) h := by
  rw [W_call e rfl, Rat.divInt_mul_divInt]
  have hw := fun Q E => W_lt (k := k) (h := h) (E := E) e42 hN (t := t1 * t2) (b := b1 * b2) (Int.mul_nonneg (by omega) (by omega)) (Nat.le_trans (bot_le h2 h4) (big_le (by omega))) (Q := Q)
  have m1 := mul_bd h1 h3 (by omega) (by omega)
  have m3 := mul_bd h2 h4 (by omega) (by omega)
  simp [d_times, pr, m1, m3, hw]
theorem W_timesF (e42 : Φ 42 = some d_lowest_terms) (e : Φ 127 = some d_times) (hN : bigN < N) {x y : Rat} {m n : Nat} (h1 : Bd m x) (h2 : Bd n y) (hs : m + n < 4000) {Q : Vl → Hh → Prop} :
    W (callF Φ N (k + 2) 127 [.d (frD x), .d (frD y)]) h Q E ↔ Q (.d (frD (x * y))) h := by
  have := W_times (Q := Q) (E := E) (h := h) (k := k) e42 e hN (t1 := x.num) (b1 := x.den) (t2 := y.num) (b2 := y.den) (by omega) (by omega) h1.1 (by simpa using h1.2) h2.1 (by simpa using h2.2) hs
  rw [num_den, num_den] at this
  exact this
theorem neg_divInt' (t b : Int) : (-t) /. b = -(t /. b) := (Rat.neg_divInt t b).symm
theorem W_lessF (T : TF Φ) (e : Φ 112 = some d_less) (hN : bigN < N) {x y : Rat} {m n : Nat} (h1 : Bd m x) (h2 : Bd n y) (hs : m + n < 4000) {Q : Vl → Hh → Prop} :
    W (callF Φ N (k + 3) 112 [.d (frD x), .d (frD y)]) h Q E ↔ Q (.d (frD (x - y))) h := by
  rw [W_call e rfl]
  have := fun Q E => W_added (Q := Q) (E := E) (h := h) (k := k) T hN (t1 := x.num) (b1 := x.den) (t2 := -y.num) (b2 := y.den) (by have := x.den_nz; omega) (by have := y.den_nz; omega) h1.1 (by simpa using h1.2) (by simpa using h2.1) (by simpa using h2.2) hs
  rw [num_den, neg_divInt', num_den, ← Rat.sub_eq_add_neg] at this
  simp [pr] at this
  simp [d_less, frD, pr]
  rw [this]
  simp [frD, pr]
theorem W_below {f : Nat} {d : Def} (e : Φ f = some d) (hd : d.np = 2 ∧ d.N.length = 2 ∧ d.body = d_is_below.body) {t1 b1 t2 b2 : Int} {m n : Nat} (h1 : t1.natAbs ≤ 2 ^ m) (h2 : b1.natAbs ≤ 2 ^ m) (h3 : t2.natAbs ≤ 2 ^ n) (h4 : b2.natAbs ≤ 2 ^ n) (hm : m ≤ 4000) (hn : n ≤ 4000) {Q : Vl → Hh → Prop} :
    W (callF Φ N (k + 1) f [.d (pr t1 b1), .d (pr t2 b2)]) h Q E ↔ Q (.d (.bool (decide (t1 * b2 < t2 * b1)))) h := by
  obtain ⟨a1, a2, a3⟩ := hd
  rw [W_call e (by rw [a1]; rfl), a1, a2, a3]
  have m1 := mul_bd h1 h4 (by omega) (by omega)
  have m2 := mul_bd h3 h2 (by omega) (by omega)
  simp [d_is_below, pr, m1, m2]
theorem W_belowF {f : Nat} {d : Def} (e : Φ f = some d) (hd : d.np = 2 ∧ d.N.length = 2 ∧ d.body = d_is_below.body) {x y : Rat} {m n : Nat} (h1 : Bd m x) (h2 : Bd n y) (hm : m ≤ 4000) (hn : n ≤ 4000) {Q : Vl → Hh → Prop} :
    W (callF Φ N (k + 1) f [.d (frD x), .d (frD y)]) h Q E ↔ Q (.d (.bool (decide (x < y)))) h := by
  have := W_below (k := k) (N := N) (h := h) (E := E) e hd (t1 := x.num) (b1 := x.den) (t2 := y.num) (b2 := y.den) h1.1 (by simpa using h1.2) h2.1 (by simpa using h2.2) hm hn (Q := Q)
  have e2 : decide (x < y) = decide (x.num * y.den < y.num * x.den) := by rw [decide_eq_decide]; exact Rat.lt_iff _ _
  rw [e2]
  exact this
end
theorem bel_1 : d_is_below.np = 2 ∧ d_is_below.N.length = 2 ∧ d_is_below.body = d_is_below.body := ⟨rfl, rfl, rfl⟩
theorem bel_2 : d__law_below.np = 2 ∧ d__law_below.N.length = 2 ∧ d__law_below.body = d_is_below.body := ⟨rfl, rfl, rfl⟩
end Jr

set_option Elab.async false
set_option linter.all false
set_option maxRecDepth 100000
set_option maxHeartbeats 2000000
namespace Jr
open PySem
open scoped Rat
/-! ### values of measures -/
def hit (l : List Str) (c : List Bool) (d : Str) : Bool := c.getD (l.idxOf d) false
def hits (l : List Str) (c : List Bool) (r : List Str) : List Bool := r.map (hit l c)
def valC (l : List Str) (c : List Bool) (r : List Str) (m : Ms) : Rat := val (hits l c r) (cnt c) m
def msD : Ms → D
  | .avg => .tuple [.str (q "average")]
  | .rcp => .tuple [.str (q "reciprocal")]
  | .prec n => .tuple [.str (q "precision"), .int n]
  | .rcl n => .tuple [.str (q "recall"), .int n]
  | .gain n => .tuple [.str (q "gain"), .int n]
  | .share n => .tuple [.str (q "share"), .int n]
def MsOk : Ms → Prop
  | .avg => True
  | .rcp => True
  | .prec n => 1 ≤ n ∧ n ≤ 7
  | .rcl n => 1 ≤ n ∧ n ≤ 7
  | .gain n => 1 ≤ n ∧ n ≤ 7
  | .share n => 1 ≤ n ∧ n ≤ 7
theorem isMeasure_ms {m : Ms} (h : MsOk m) : isMeasure (msD m) = true := by
  cases m with
  | avg => simp [msD, isMeasure, inStrs, q]
  | rcp => simp [msD, isMeasure, inStrs, q]
  | prec n => obtain ⟨h1, h2⟩ := h; simp [msD, isMeasure, inStrs, q, isIntIn]; omega
  | rcl n => obtain ⟨h1, h2⟩ := h; simp [msD, isMeasure, inStrs, q, isIntIn]; omega
  | gain n => obtain ⟨h1, h2⟩ := h; simp [msD, isMeasure, inStrs, q, isIntIn]; omega
  | share n => obtain ⟨h1, h2⟩ := h; simp [msD, isMeasure, inStrs, q, isIntIn]; omega
theorem isIntIn_of {x : D} {a b : Int} (h : isIntIn x a b = true) : ∃ i : Int, x = .int i ∧ a ≤ i ∧ i ≤ b := by
  rcases x with _ | _ | i | _ | _ | _
  case int => simp [isIntIn] at h; exact ⟨i, rfl, h⟩
  all_goals cases h
theorem isMeasure_of {x : D} (h : isMeasure x = true) : ∃ m, MsOk m ∧ x = msD m := by
  unfold isMeasure at h
  split at h
  · rename_i s
    simp [inStrs] at h
    rcases h with rfl | rfl
    · exact ⟨.rcp, trivial, rfl⟩
    · exact ⟨.avg, trivial, rfl⟩
  · rename_i s y
    rw [Bool.and_eq_true] at h
    obtain ⟨h1, h2⟩ := h
    obtain ⟨i, rfl, i1, i7⟩ := isIntIn_of h2
    obtain ⟨n, rfl⟩ : ∃ n : Nat, i = n := ⟨i.toNat, by omega⟩
    simp [inStrs] at h1
    rcases h1 with rfl | rfl | rfl | rfl
    · exact ⟨.prec n, ⟨by omega, by omega⟩, rfl⟩
    · exact ⟨.rcl n, ⟨by omega, by omega⟩, rfl⟩
    · exact ⟨.gain n, ⟨by omega, by omega⟩, rfl⟩
    · exact ⟨.share n, ⟨by omega, by omega⟩, rfl⟩
  · cases h
/-! sums, hits as data -/
theorem allI_bd : ∀ c : List Bool, allI (c.map bd) = some (c.map b2)
  | [] => rfl
  | x :: l => by
    show (asI (bd x)).bind (fun i => (allI (l.map bd)).map (i :: ·)) = _
    rw [allI_bd l]
    rfl
theorem sum_b2 : ∀ c : List Bool, (c.map b2).sum = (cnt c : Nat)
  | [] => rfl
  | x :: l => by
    rw [List.map_cons, List.sum_cons, sum_b2 l, cnt_cons]
    cases x <;> simp [b2] <;> omega
theorem sum_bdT (c : List Bool) : bltV .sum [.tuple (c.map bd)] = some (.int (cnt c : Nat)) := by
  unfold bltV
  dsimp only
  rw [allI_bd, Option.map_some, sum_b2]
theorem sum_bdL (c : List Bool) : bltV .sum [.list (c.map bd)] = some (.int (cnt c : Nat)) := by
  unfold bltV
  dsimp only
  rw [allI_bd, Option.map_some, sum_b2]
theorem any_bd (hs : List Bool) : (hs.map bd).any (fun z => eqv z (.int 1)) = decide (true ∈ hs) := by
  induction hs with
  | nil => rfl
  | cons b r ih =>
    rw [List.map_cons, List.any_cons, ih]
    cases b <;> simp [bd, b2]
def fstHit : Nat → List Bool → Nat
  | _, [] => 0
  | k, b :: r => if b then k else fstHit (k + 1) r
theorem idx_bd : ∀ (hs : List Bool) (k : Nat), true ∈ hs → ((hs.map bd).findIdx? (fun z => eqv z (.int 1))).map (k + ·) = some (fstHit k hs)
  | [], _, h => by cases h
  | b :: r, k, h => by
    rw [List.map_cons, List.findIdx?_cons]
    cases b
    · have := idx_bd r (k + 1) (by simpa using h)
      simp only [bd, b2, fstHit, eqv_int_int]
      rw [if_neg (by simp), Option.map_map]
      simp only [Bool.false_eq_true, if_false]
      rw [← this]
      congr 1
      funext j
      simp
      omega
    · simp [bd, b2, fstHit]
theorem rcp_fst : ∀ (hs : List Bool) (k : Nat), rcpF k hs = if true ∈ hs then 1 / ((fstHit k hs + 1 : Nat) : Rat) else 0
  | [], _ => rfl
  | b :: r, k => by
    unfold rcpF fstHit
    cases b
    · rw [rcp_fst r (k + 1)]; simp
    · simp
theorem fstHit_le : ∀ (hs : List Bool) (k : Nat), fstHit k hs ≤ k + hs.length
  | [], k => by simp [fstHit]
  | b :: r, k => by
    unfold fstHit
    have := fstHit_le r (k + 1)
    cases b <;> simp <;> omega
theorem one_div_frD {n : Nat} (h : 0 < n) : frD (1 / (n : Rat)) = pr 1 (n : Nat) := by
  have e : (1 : Rat) / (n : Rat) = (1 : Int) /. (n : Int) := by rw [Rat.divInt_eq_div]; rfl
  have e2 : Int.sign (n : Int) = 1 := Int.sign_eq_one_of_pos (by omega)
  have e3 : ((n : Int)).gcd 1 = 1 := Int.gcd_one_right _
  unfold frD
  rw [e, Rat.num_divInt, Rat.den_divInt, if_neg (by omega), e2, e3]
  simp
theorem zero_frD : frD 0 = pr 0 1 := rfl
theorem one_frD : frD 1 = pr 1 1 := rfl
theorem idxV_bd {hs : List Bool} (h : true ∈ hs) (h7 : hs.length ≤ 1000) : idxV (hs.map bd) (.int 1) = some (.int (fstHit 0 hs : Nat)) := by
  unfold idxV
  rw [if_pos ⟨by simp, by simpa using h7⟩]
  have := idx_bd hs 0 h
  cases e : (hs.map bd).findIdx? (fun z => eqv z (.int 1)) with
  | none => rw [e] at this; cases this
  | some j =>
    rw [e] at this
    simp at this
    simp [this]
theorem divInt_nat (a b : Nat) : (a : Int) /. (b : Int) = (a : Rat) / (b : Rat) := by rw [Rat.divInt_eq_div]; rfl
theorem divInt_bq (b : Bool) (n : Nat) : (b2 b) /. ((n : Nat) : Int) = bq b / (n : Rat) := by
  rw [Rat.divInt_eq_div]
  cases b <;> rfl
/-! bounds -/
theorem Bd.bq (b : Bool) : Bd 0 (bq b) := by cases b; exact Bd.zero; exact Bd.one
theorem small_pow {n k : Nat} (h : n < k) : n ≤ 2 ^ k := Nat.le_of_lt (Nat.lt_of_lt_of_le h (Nat.le_of_lt Nat.lt_two_pow_self))
theorem gainF_bd : ∀ (hs : List Bool) (k : Nat), k + hs.length ≤ 8 → Bd (5 * hs.length) (gainF k hs)
  | [], _, _ => Bd.zero
  | b :: r, k, hk => by
    simp at hk
    have h1 : Bd 4 (bq b / ((k + 1 : Nat) : Rat)) := (Bd.bq b).div (Bd.nat (n := 4) (by omega))
    exact (h1.add (gainF_bd r (k + 1) (by omega))).up (by simp; omega)
theorem avgF_bd : ∀ (hs : List Bool) (k f : Nat), k + hs.length ≤ 8 → f ≤ k → Bd (10 * hs.length) (avgF k f hs)
  | [], _, _, _, _ => Bd.zero
  | b :: r, k, f, hk, hf => by
    simp at hk
    have h1 : Bd 8 (if b then ((f + 1 : Nat) : Rat) / ((k + 1 : Nat) : Rat) else 0) := by
      split
      · exact (Bd.nat (n := 4) (by omega)).div (Bd.nat (n := 4) (by omega))
      · exact Bd.zero.up (by omega)
    exact (h1.add (avgF_bd r (k + 1) _ (by omega) (by split <;> omega))).up (by simp; omega)
theorem rcpF_bd : ∀ (hs : List Bool) (k : Nat), k + hs.length ≤ 8 → Bd 4 (rcpF k hs)
  | [], _, _ => Bd.zero.up (by omega)
  | b :: r, k, hk => by
    simp at hk
    unfold rcpF
    split
    · exact (Bd.one.div (Bd.nat (n := 4) (by omega))).up (by omega)
    · exact rcpF_bd r (k + 1) (by omega)
theorem mostF_bd {n : Nat} (h : n ≤ 8) : Bd 40 (mostF n) := (gainF_bd _ 0 (by simpa using h)).up (by simp; omega)
theorem val_bd {hs : List Bool} {R : Nat} {m : Ms} (hl : hs.length ≤ 8) (hR : R ≤ 8) (hm : MsOk m) : Bd 90 (val hs R m) := by
  have hc : ∀ n, cnt (hs.take n) ≤ 2 ^ 4 := fun n => by
    have := cnt_le (hs.take n)
    simp at this
    omega
  have hg : ∀ n, Bd 40 (gainF 0 (hs.take n)) := fun n => (gainF_bd _ 0 (by simp; omega)).up (by simp; omega)
  cases m with
  | avg => exact ((avgF_bd hs 0 0 (by omega) (by omega)).div (Bd.nat (n := 4) (by omega))).up (by omega)
  | rcp => exact (rcpF_bd hs 0 (by omega)).up (by omega)
  | prec n => obtain ⟨h1, h2⟩ := hm; exact ((Bd.nat (hc n)).div (Bd.nat (n := 4) (by omega))).up (by omega)
  | rcl n => exact ((Bd.nat (hc n)).div (Bd.nat (n := 4) (by omega))).up (by omega)
  | gain n => exact (hg n).up (by omega)
  | share n => exact ((hg n).div (mostF_bd (by omega))).up (by omega)
theorem hits_len {l : List Str} {c : List Bool} {r : List Str} : (hits l c r).length = r.length := List.length_map _
structure TW (Φ : Nat → Option Def) : Prop extends TF Φ where
  e48 : Φ 48 = some d_value_of
  e208 : Φ 208 = some d_hits_of
  e209 : Φ 209 = some d_gain_of
  e210 : Φ 210 = some d_average_of
section
variable {Φ : Nat → Option Def} {N k : Nat} {h : Hh} {E : Nat → Hh → Prop}
theorem W_hits_of (e : Φ 208 = some d_hits_of) {l r : List Str} {c : List Bool} (nd : l.Nodup) (hl : c.length = l.length) (h7 : l.length ≤ 1000) (hr : Rk l r) {Q : Vl → Hh → Prop} :
    W (callF Φ N (k + 1) 208 [.d (.tuple (l.map .str)), .d (rowD c), .d (.tuple (r.map .str))]) h Q E ↔ Q (.d (.list ((hits l c r).map bd))) h := by
  refine W.rule ?_
  rw [W_call e rfl]
  simp only [d_hits_of]
  rw [W_B_cons]
  generalize hQ : seqQ _ _ _ _ _ = Q0
  simp [rowD, dzipV_zip nd (vs := c.map bd) (by simpa using hl.symm) h7]
  subst hQ
  rw [seqQ_next]
  simp
  rw [W_mapT (fun d => bd (hit l c d)) depOk_none]
  · simp [hits]
  · intro d hd
    rw [W_turn]
    have hm := hr.sub d hd
    have hi : l.idxOf d < l.length := List.idxOf_lt_length_iff.mpr hm
    have : getK ((l.map D.str).zip (c.map bd)) (.str d) = some (bd (hit l c d)) := by
      rw [getK_zip nd (by simpa using hl.symm) hm, List.getElem?_map, List.getElem?_eq_getElem (by omega)]
      simp [hit, List.getD_eq_getElem?_getD, List.getElem?_eq_getElem (show l.idxOf d < c.length by omega)]
    simp [this]
theorem enumD_bd : ∀ (hs : List Bool) (k : Nat), enumD k (hs.map bd) = (hs.zipIdx k).map fun p => .tuple [.int (p.2 : Nat), bd p.1]
  | [], _ => rfl
  | b :: r, k => by
    rw [List.map_cons]
    unfold enumD
    rw [enumD_bd r (k + 1)]
    rfl
theorem gain_fold : ∀ (hs : List Bool) (k : Nat) (s : Rat), (hs.zipIdx k).foldl (fun s p => s + bq p.1 / ((p.2 + 1 : Nat) : Rat)) s = s + gainF k hs
  | [], _, s => by simp [gainF, Rat.add_zero]
  | b :: r, k, s => by
    rw [List.zipIdx_cons, List.foldl_cons, gain_fold r (k + 1), gainF, Rat.add_assoc]
theorem W_gain_of (T : TF Φ) (e : Φ 209 = some d_gain_of) (hN : bigN < N) {hs : List Bool} (hl : hs.length ≤ 8) {Q : Vl → Hh → Prop} : W (callF Φ N (k + 3) 209 [.d (.list (hs.map bd))]) h Q E ↔ Q (.d (frD (gainF 0 hs))) h := by
  refine W.rule ?_
  rw [W_call e rfl]
  simp only [d_gain_of]
  rw [W_B_cons]
  generalize hQ : seqQ _ _ _ _ _ = Q0
  simp
  subst hQ
  rw [seqQ_next]
  rw [W_B_cons]
  generalize hQ : seqQ _ _ _ _ _ = Q0
  simp [enumD_bd]
  refine W_forT (fun (s : Rat) rest en => ∃ a2 a3, en = [some (.d (.list (hs.map bd))), some (.d (frD s)), a2, a3] ∧ Bd (6 * (8 - rest.length)) s ∧ rest.length ≤ 8 ∧ ∀ p ∈ rest, p.2 < 8) (fun s p => s + bq p.1 / ((p.2 + 1 : Nat) : Rat)) 0 ?_ ?_ ?_
  · refine ⟨none, none, rfl, Bd.zero.up (by omega), by simpa using hl, fun p hp => ?_⟩
    have := List.snd_lt_of_mem_zipIdx hp
    omega
  · rintro s ⟨b, i⟩ rest en ⟨a2, a3, rfl, hB, hr, hp⟩
    have hi : i < 8 := hp (b, i) List.mem_cons_self
    simp at hr hB
    have hw := fun Q E => W_addP (k := k) (h := h) (E := E) T hN (x := s) (t := b2 b) (b := ((i + 1 : Nat) : Int)) (n := 4) hB (by omega) (by cases b <;> simp [b2]) (by simp; omega) (by omega) (Q := Q)
    simp only [pr, divInt_bq] at hw
    simp [bd, frD, pr] at hw ⊢
    rw [hw]
    simp [frD, pr]
    refine ⟨?_, by omega, fun c hm => hp (false, c) (List.mem_cons_of_mem _ hm), fun c hm => hp (true, c) (List.mem_cons_of_mem _ hm)⟩
    have h1 : Bd 4 (bq b / ((i + 1 : Nat) : Rat)) := (Bd.bq b).div (Bd.nat (n := 4) (by omega))
    simp at h1
    exact (hB.add h1).up (by omega)
  · rintro en ⟨a2, a3, rfl, hB, _, _⟩
    subst hQ
    rw [seqQ_next]
    have := gain_fold hs 0 0
    simp at this
    simp [this, Rat.zero_add]
theorem avg_fold : ∀ (hs : List Bool) (k f : Nat) (s : Rat), (hs.zipIdx k).foldl (fun (s : Rat × Nat) p => (s.1 + (if p.1 then ((s.2 + 1 : Nat) : Rat) / ((p.2 + 1 : Nat) : Rat) else 0), if p.1 then s.2 + 1 else s.2)) (s, f) = (s + avgF k f hs, f + cnt hs)
  | [], _, _, s => by simp [avgF, Rat.add_zero]
  | b :: r, k, f, s => by
    rw [List.zipIdx_cons, List.foldl_cons, avg_fold r (k + 1)]
    rw [avgF, Rat.add_assoc, cnt_cons]
    cases b <;> simp <;> omega
theorem W_average_of (T : TF Φ) (e : Φ 210 = some d_average_of) (hN : bigN < N) {hs : List Bool} {R : Nat} (hl : hs.length ≤ 8) (hR : R ≤ 8) {Q : Vl → Hh → Prop} : W (callF Φ N (k + 3) 210 [.d (.list (hs.map bd)), .d (.int (R : Nat))]) h Q E ↔ Q (.d (frD (avgF 0 0 hs / (R : Rat)))) h := by
  refine W.rule ?_
  rw [W_call e rfl]
  simp only [d_average_of]
  rw [W_B_cons]
  generalize hQ : seqQ _ _ _ _ _ = Q0
  simp
  subst hQ
  rw [seqQ_next]
  rw [W_B_cons]
  generalize hQ : seqQ _ _ _ _ _ = Q0
  simp [enumD_bd]
  refine W_forT (fun (s : Rat × Nat) rest en => ∃ a4 a5, en = [some (.d (.list (hs.map bd))), some (.d (.int (R : Nat))), some (.d (frD s.1)), some (.d (.int (s.2 : Nat))), a4, a5] ∧ Bd (12 * (8 - rest.length)) s.1 ∧ s.2 + rest.length ≤ 8 ∧ ∀ p ∈ rest, p.2 < 8)
    (fun (s : Rat × Nat) p => (s.1 + (if p.1 then ((s.2 + 1 : Nat) : Rat) / ((p.2 + 1 : Nat) : Rat) else 0), if p.1 then s.2 + 1 else s.2)) (0, 0) ?_ ?_ ?_
  · refine ⟨none, none, rfl, Bd.zero.up (by omega), by simpa using hl, fun p hp => ?_⟩
    have := List.snd_lt_of_mem_zipIdx hp
    omega
  · rintro ⟨s, f⟩ ⟨b, i⟩ rest en ⟨a4, a5, rfl, hB, hr, hp⟩
    have hi : i < 8 := hp (b, i) List.mem_cons_self
    simp at hr hB
    have hpr : ∀ c, (false, c) ∈ rest → c < 8 := fun c hm => hp (false, c) (List.mem_cons_of_mem _ hm)
    have hpr2 : ∀ c, (true, c) ∈ rest → c < 8 := fun c hm => hp (true, c) (List.mem_cons_of_mem _ hm)
    have hf : f ≤ 8 := by omega
    have mm : mulV (.int (b2 b)) (.int ((f : Int) + b2 b)) = some (.int (b2 b * ((f : Int) + b2 b))) := by cases b <;> exact mul_b (by simp [b2]) (by simp [b2]) (by simp [b2]; omega) (by simp [b2]; omega)
    have hw := fun Q E => W_addP (k := k) (h := h) (E := E) T hN (x := s) (t := b2 b * ((f : Int) + b2 b)) (b := (i : Int) + 1) (n := 4) hB (by omega) (by cases b <;> simp [b2] <;> omega) (by omega) (by omega) (Q := Q)
    have e1 : (b2 b * ((f : Int) + b2 b)) /. ((i : Int) + 1) = if b then ((f + 1 : Nat) : Rat) / ((i + 1 : Nat) : Rat) else 0 := by
      cases b
      · simp [b2]
      · have := divInt_nat (f + 1) (i + 1)
        simpa [b2] using this
    rw [e1] at hw
    simp only [frD, pr] at hw
    simp [bd, frD, pr, augM, mm, hw]
    refine ⟨by cases b <;> simp [b2], ?_, ?_, hpr, hpr2⟩
    · have h1 : Bd 8 (if b then ((f + 1 : Nat) : Rat) / ((i + 1 : Nat) : Rat) else 0) := by
        split
        · exact (Bd.nat (n := 4) (by omega)).div (Bd.nat (n := 4) (by omega))
        · exact Bd.zero.up (by omega)
      simp at h1
      exact (hB.add h1).up (by omega)
    · cases b <;> simp <;> omega
  · rintro en ⟨a4, a5, rfl, hB, _, _⟩
    subst hQ
    rw [seqQ_next]
    have hq := avg_fold hs 0 0 0
    simp only [Rat.zero_add, Nat.zero_add] at hq
    rw [hq] at hB ⊢
    simp at hB
    have m3 := mul_bd (a := (((avgF 0 0 hs).den : Nat) : Int)) (b := (R : Int)) (m := 96) (n := 4) (by simpa using hB.2) (by simp; omega) (by omega) (by omega)
    have hb : (((avgF 0 0 hs).den : Int) * (R : Int)).natAbs ≤ bigN := by
      rw [Int.natAbs_mul]
      exact Nat.le_trans (mul_le_pow (m := 96) (n := 4) (by simpa using hB.2) (by simp; omega)) (big_le (by omega))
    have hw := fun Q E => W_lt (k := k + 1) (h := h) (E := E) T.e42 hN (t := (avgF 0 0 hs).num) (b := ((avgF 0 0 hs).den : Int) * (R : Int)) (Int.mul_nonneg (by omega) (by omega)) hb (Q := Q)
    have e2 : (avgF 0 0 hs).num /. (((avgF 0 0 hs).den : Int) * (R : Int)) = avgF 0 0 hs / (R : Rat) := by
      have e3 : avgF 0 0 hs / (R : Rat) = ((avgF 0 0 hs).num /. ((avgF 0 0 hs).den : Int)) * ((1 : Int) /. (R : Int)) := by
        rw [num_den, Rat.divInt_eq_div, Rat.div_def, Rat.div_def]
        congr 1
        exact (Rat.one_mul _).symm
      rw [e3, Rat.divInt_mul_divInt, Int.mul_one]
    rw [e2] at hw
    simp [frD, pr, m3] at hw ⊢
    rw [hw]
    simp
end
end Jr

set_option Elab.async false
set_option linter.all false
set_option maxRecDepth 100000
set_option maxHeartbeats 2000000
namespace Jr
open PySem
open scoped Rat
/-! ### value_of, value -/
theorem bd_take {hs : List Bool} {n : Nat} : (hs.map bd).take n = (hs.take n).map bd := by
  rw [List.map_take]
theorem Bd.denAbs {n : Nat} {x : Rat} (h : Bd n x) : ((x.den : Nat) : Int).natAbs ≤ 2 ^ n := by
  rw [Int.natAbs_natCast]; exact h.2
theorem div_frD {x y : Rat} (hy : 0 ≤ y) : (x.num * (y.den : Int)) /. ((x.den : Int) * y.num) = x / y := by
  have : x / y = (x.num /. (x.den : Int)) * ((y.den : Int) /. y.num) := by
    rw [num_den, Rat.div_def, Rat.inv_def]
  rw [this, Rat.divInt_mul_divInt]
theorem gainF_nonneg : ∀ (hs : List Bool) (k : Nat), 0 ≤ gainF k hs
  | [], _ => Rat.le_refl
  | b :: r, k => Rat.add_nonneg (div_nonneg' (bq_nonneg b) (natq_nonneg _)) (gainF_nonneg r (k + 1))
theorem repL_1 {n : Nat} (h : n ≤ 1000) : repL [.int 1] (.int (n : Int)) = some ((List.replicate n true).map bd) := by
  unfold repL
  dsimp only
  rw [if_pos ⟨by omega, by omega, by unfold sizeLine; simp; omega⟩]
  congr 1
  unfold reps
  simp [bd, b2]
theorem os_inj (a b : String) : (Str.ofString a = Str.ofString b) = (a = b) := by
  rw [Str.ofString_eq_toList, Str.ofString_eq_toList]
  apply propext
  constructor
  · intro h
    have h1 : a.toList.map Char.toNat = b.toList.map Char.toNat := by
      have := congrArg (fun s : Str => s.cps.toList) h
      simpa using this
    have key : ∀ (x y : List Char), x.map Char.toNat = y.map Char.toNat → x = y := by
      intro x
      induction x with
      | nil => intro y hy; cases y with
        | nil => rfl
        | cons _ _ => simp at hy
      | cons c x ih =>
        intro y hy
        cases y with
        | nil => simp at hy
        | cons d y =>
          rw [List.map_cons, List.map_cons, List.cons.injEq] at hy
          rw [ih _ hy.2, Char.toNat_inj.mp hy.1]
    exact String.toList_inj.mp (key _ _ h1)
  · rintro rfl; rfl
section
variable {Φ : Nat → Option Def} {N k : Nat} {h : Hh} {E : Nat → Hh → Prop}
theorem W_value_of (T : TW Φ) (hN : bigN < N) {l r : List Str} {c : List Bool} {m : Ms} (nd : l.Nodup) (hl : c.length = l.length) (h7 : l.length ≤ 7) (hr : Rk l r) (hm : MsOk m) {Q : Vl → Hh → Prop} :
    W (callF Φ N (k + 4) 48 [.d (.tuple (l.map .str)), .d (rowD c), .d (.tuple (r.map .str)), .d (msD m)]) h Q E ↔ Q (.d (frD (valC l c r m))) h := by
  refine W.rule ?_
  rw [W_call T.e48 rfl]
  simp only [d_value_of]
  have hh := fun Q E => W_hits_of (N := N) (k := k + 2) (h := h) (E := E) T.e208 nd hl (by omega) hr (Q := Q)
  have hrl := hr.le
  have hhl : (hits l c r).length ≤ 7 := by rw [hits_len]; omega
  have hcc : cnt c ≤ 7 := Nat.le_trans (cnt_le c) (by omega)
  have hsum := sum_bdT c
  rw [W_B_cons]
  generalize hQ : seqQ _ _ _ _ _ = Q0
  simp only [rowD] at hh ⊢
  simp [hh, hsum]
  subst hQ
  rw [seqQ_next]
  have hval : valC l c r m = val (hits l c r) (cnt c) m := rfl
  rw [hval]
  generalize hits l c r = hs at *
  generalize cnt c = R at *
  have wg := fun hs' (hl : hs'.length ≤ 8) Q E => W_gain_of (N := N) (k := k) (h := h) (E := E) T.toTF T.e209 hN (hs := hs') hl (Q := Q)
  have wl := fun (a b : Nat) (hb : b ≤ 7) Q E => W_lt (N := N) (k := k + 2) (h := h) (E := E) T.e42 hN (t := (a : Int)) (b := (b : Int)) (by omega) (Nat.le_trans (show _ ≤ 1000 by omega) (Nat.le_of_lt big_1000)) (Q := Q)
  simp only [divInt_nat] at wl
  cases m with
  | avg =>
    have w := fun Q E => W_average_of (N := N) (k := k) (h := h) (E := E) T.toTF T.e210 hN (hs := hs) (R := R) (by omega) (by omega) (Q := Q)
    simp [msD, ok_string, q, os_inj, w, val]
  | rcp =>


    by_cases ht : true ∈ hs
    · have hi := idxV_bd ht (by omega)
      have e1 := rcp_fst hs 0
      rw [if_pos ht] at e1
      have e2 := one_div_frD (n := fstHit 0 hs + 1) (by omega)
      have ha' : (hs.map bd).any (fun z => eqv z (.int 1)) = true := by rw [any_bd]; simpa using ht
      have ef : eqv (bd false) (.int 1) = false := by simp [bd, b2]
      have et : eqv (bd true) (.int 1) = true := by simp [bd, b2]
      have e2' : D.tuple [D.int 1, D.int ((fstHit 0 hs : Int) + 1)] = frD (1 / ((fstHit 0 hs : Rat) + 1)) := by
        simp [pr] at e2
        exact e2.symm
      simp [msD, ok_string, q, os_inj, val, hi, e1, ht, ef, et, e2']
    · have e1 := rcp_fst hs 0
      rw [if_neg ht] at e1
      have ha' : (hs.map bd).any (fun z => eqv z (.int 1)) = false := by rw [any_bd]; simpa using ht
      have ef : eqv (bd false) (.int 1) = false := by simp [bd, b2]
      simp [msD, ok_string, q, os_inj, val, e1, pr, zero_frD, ef, ht]
  | prec n =>
    obtain ⟨n1, n7⟩ := hm
    simp [msD, ok_string, q, os_inj, val, -List.map_take, cut_take, bd_take, sum_bdL, wl _ n n7]
  | rcl n =>
    obtain ⟨n1, n7⟩ := hm
    simp [msD, ok_string, q, os_inj, val, -List.map_take, cut_take, bd_take, sum_bdL, wl _ R hcc]
  | gain n =>
    obtain ⟨n1, n7⟩ := hm
    simp [msD, ok_string, q, os_inj, val, -List.map_take, cut_take, bd_take, wg (hs.take n) (by simp; omega)]
  | share n =>
    obtain ⟨n1, n7⟩ := hm
    have hmin : bltV .min2 [.int (n : Int), .int (R : Int)] = some (.int ((min n R : Nat) : Int)) := by
      unfold bltV
      dsimp only
      congr 2
      split <;> omega
    have hg := gainF_bd (hs.take n) 0 (by simp; omega)
    have hm2 := mostF_bd (n := min n R) (by omega)
    have hg : Bd 40 (gainF 0 (hs.take n)) := hg.up (by simp; omega)
    have p1 : 0 ≤ mostF (min n R) := gainF_nonneg _ _
    have ed := div_frD (x := gainF 0 (hs.take n)) p1
    have p2 : 0 ≤ (mostF (min n R)).num := Rat.num_nonneg.mpr p1
    have m1 := mul_bd (a := (gainF 0 (hs.take n)).num) (b := ((mostF (min n R)).den : Int)) hg.1 hm2.denAbs (by omega) (by omega)
    have m2 := mul_bd (a := ((gainF 0 (hs.take n)).den : Int)) (b := (mostF (min n R)).num) hg.denAbs hm2.1 (by omega) (by omega)
    have w := fun Q E => W_lt (N := N) (k := k + 2) (h := h) (E := E) T.e42 hN (t := (gainF 0 (hs.take n)).num * ((mostF (min n R)).den : Int)) (b := ((gainF 0 (hs.take n)).den : Int) * (mostF (min n R)).num) (Int.mul_nonneg (by omega) p2) (by rw [Int.natAbs_mul]; exact Nat.le_trans (mul_le_pow hg.denAbs hm2.1) (big_le (by omega))) (Q := Q)
    rw [ed] at w
    have wg1 := wg (hs.take n) (by simp; omega)
    have wg2 := wg (List.replicate (min n R) true) (by simp; omega)
    have e3 : gainF 0 (List.replicate (min n R) true) = mostF (min n R) := rfl
    have hrep := repL_1 (n := min n R) (by omega)
    rw [e3, List.map_replicate] at wg2
    rw [List.map_replicate] at hrep
    simp [msD, ok_string, q, os_inj, val, -List.map_take, cut_take, bd_take, wg1, hmin, hrep, wg2]
    simp [frD, pr, m1, m2, w]
end
end Jr

set_option Elab.async false
set_option linter.all false
set_option maxRecDepth 100000
set_option maxHeartbeats 2000000
namespace Jr
open PySem
/-! ### several judges -/
theorem ej_eqv (a b : Option Bool) : eqv (ej a) (ej b) = decide (a = b) := by
  rcases a with _ | _ | _ <;> rcases b with _ | _ | _ <;> simp [ej, bd, b2]
def trip (cs : List D) (js ks : List (Option Bool)) : List (D × Option Bool × Option Bool) := cs.zip (js.zip ks)
def tD (p : D × Option Bool × Option Bool) : D := .tuple [p.1, ej p.2.1, ej p.2.2]
theorem zip3D_ej : ∀ (cs : List D) (js ks : List (Option Bool)), zip3D cs (js.map ej) (ks.map ej) = (trip cs js ks).map tD
  | [], _, _ => by simp [zip3D, trip]
  | _ :: _, [], _ => by simp [zip3D, trip]
  | _ :: _, _ :: _, [] => by simp [zip3D, trip]
  | c :: cs, j :: js, k :: ks => by
    have := zip3D_ej cs js ks
    simp [trip] at this
    simp [zip3D, trip, tD, this]
theorem zipD_ejj : ∀ (js ks : List (Option Bool)), zipD (js.map ej) (ks.map ej) = (js.zip ks).map fun p => .tuple [ej p.1, ej p.2]
  | [], _ => by simp [zipD]
  | _ :: _, [] => by simp [zipD]
  | j :: js, k :: ks => by simp [zipD, zipD_ejj js ks]
def both (cs : List D) (js ks : List (Option Bool)) : List (D × Option Bool × Option Bool) := (trip cs js ks).filter fun p => p.2.1.isSome && p.2.2.isSome
def diffs (cs : List D) (js ks : List (Option Bool)) : List D := ((both cs js ks).filter fun p => decide (p.2.1 ≠ p.2.2)).map (·.1)
def joinJ (js ks : List (Option Bool)) : List (Option Bool) := (js.zip ks).map fun p => match p.1 with
  | none => p.2
  | some b => some b
def maj (l : List (Option Bool)) : Option Bool := if l.count (some true) = l.count (some false) then none else some (decide (l.count (some true) > l.count (some false)))
theorem nkAll_ej : ∀ l : List (Option Bool), nkAll (l.map ej) = some (l.map fun e => e.map b2)
  | [] => rfl
  | e :: l => by
    rw [List.map_cons]
    unfold nkAll
    rw [nkAll_ej l]
    rcases e with _ | b <;> rfl
theorem cntV_ej (l : List (Option Bool)) (b : Bool) : cntV (l.map ej) (.int (b2 b)) = some (.int (l.count (some b) : Nat)) := by
  unfold cntV
  dsimp only
  rw [nkAll_ej]
  have : (l.map fun e : Option Bool => e.map b2).count (some (b2 b)) = l.count (some b) := by
    induction l with
    | nil => rfl
    | cons e l ih =>
      rw [List.map_cons, List.count_cons, List.count_cons, ih]
      rcases e with _ | _ | _ <;> cases b <;> rfl
  simp [this]
section
variable {Φ : Nat → Option Def} {N k : Nat} {h : Hh} {E : Nat → Hh → Prop}
theorem W_low (e : Φ 42 = some d_lowest_terms) {t b : Int} (hb : 0 ≤ b) (hN : b < N) (hb2 : b < 1267650600228229401496703205376) (ht : t.natAbs < 1267650600228229401496703205376) {Q : Vl → Hh → Prop} : W (callF Φ N (k + 1) 42 [.d (.int t), .d (.int b)]) h Q E ↔ Q (.d (fr (low t b))) h :=
  W.rule (W_lowest_terms e hb hN hb2 ht ⟨rfl, rfl⟩)
theorem W_fraction (e : Φ 49 = some d__law_fraction) {t b : Int} (hb : 0 ≤ b) (hN : b + 1 < N) (hb2 : b < 1267650600228229401496703205376) {Q : Vl → Hh → Prop} : W (callF Φ N (k + 1) 49 [.d (.int t), .d (.int b)]) h Q E ↔ Q (.d (fr (low t b))) h := by
  refine W.rule ?_
  rw [W_call e rfl]
  simp only [d__law_fraction]
  by_cases b0 : b = 0
  · subst b0
    simp [sizeLine, low, fr]
  rw [W_B_cons]
  generalize hQ : seqQ _ _ _ _ _ = Q0
  simp [b0]
  subst hQ
  rw [seqQ_next]
  rw [W_B_cons]
  generalize hQ : seqQ _ _ _ _ _ = Q0
  simp
  subst hQ
  rw [seqQ_next]
  rw [W_B_cons]
  generalize hQ : seqQ _ _ _ _ _ = Q0
  have g0 : 0 < Int.gcd t b := Int.gcd_pos_of_ne_zero_right _ b0
  rw [evS_whl]
  unfold whlE
  refine W_whl (fun m en h3 => ∃ u v : Int, en = [some (.d (.int t)), some (.d (.int b)), some (.d (.int u)), some (.d (.int v))] ∧ 0 ≤ v ∧ (v = 0 → 0 ≤ u) ∧ Int.gcd u v = Int.gcd t b ∧ m = v.toNat ∧ h3 = h) ?_ (m := b.toNat) ⟨_, _, rfl, hb, fun z => absurd z b0, rfl, rfl, rfl⟩ (by omega)
  rintro m en h3 ⟨u, v, rfl, v0, hu, hg, rfl, rfl⟩
  by_cases vz : v = 0
  · subst vz
    have hu := hu rfl
    simp
    have e1 : u = (Int.gcd t b : Nat) := by
      rw [← hg, Int.gcd_zero_right]
      omega
    subst hQ
    rw [seqQ_next]
    subst e1
    have hgb : ((Int.gcd t b : Nat) : Int) < 1267650600228229401496703205376 := by
      have : Int.gcd t b ≤ b.natAbs := Nat.gcd_le_right _ (by omega)
      omega
    simp
    rw [fdiv_b (by omega) hgb, fdiv_b (by omega) hgb]
    simp [sizeLine, fr, low, b0, Int.gcd]
  · simp [vz]
    rw [mod_ii (by omega)]
    simp
    have h1 := Int.emod_nonneg u vz
    have h2 := Int.emod_lt_of_pos u (show 0 < v by omega)
    refine ⟨(u % v).toNat, by omega, v, u % v, ⟨rfl, rfl⟩, h1, fun _ => v0, ?_, rfl⟩
    rw [← hg, Int.emod_def, Int.gcd_comm u v, Int.mul_comm, Int.gcd_sub_mul_right_right]
theorem W_require_pair (T : TV Φ) (e : Φ 150 = some d_require_pair) {c x y : D} (hs : Shr c) {Q : Vl → Hh → Prop} :
    W (callF Φ N (k + 4) 150 [.d c, .d x, .d y]) h Q E ↔ if isColl c = true then (if validJ (clen c) x = true then (if validJ (clen c) y = true then Q (.d .none) h else E 20 h) else E 20 h) else E 12 h := by
  rw [W_call e rfl]
  have := fun Q E => W_require_collection (N := N) (k := k) (h := h) (E := E) T.e9 T.e10 T.e11 T.e13 hs (Q := Q)
  cases hc : isColl c
  · simp [d_require_pair, this, hc]
  · obtain ⟨cs, rfl⟩ := isColl_tup hc
    cases hx : validJ cs.length x <;> cases hy : validJ cs.length y <;> simp [d_require_pair, this, hc, W_valid_judgements T, hx, hy]
theorem W_both_judged (e : Φ 151 = some d_both_judged) {cs : List D} {js ks : List (Option Bool)} {Q : Vl → Hh → Prop} :
    W (callF Φ N (k + 1) 151 [.d (.tuple cs), .d (.tuple (js.map ej)), .d (.tuple (ks.map ej))]) h Q E ↔ Q (.d (.list ((both cs js ks).map tD))) h := by
  refine W.rule ?_
  rw [W_call e rfl]
  simp only [d_both_judged]
  rw [W_B_cons]
  generalize hQ : seqQ _ _ _ _ _ = Q0
  simp [zip3D_ej]
  rw [W_mapT tD depOk_none]
  rotate_left
  · rintro ⟨a, b, c⟩ _
    rw [W_turn]
    simp [tD, sizeLine]
  subst hQ
  rw [seqQ_next]
  simp
  rw [W_filT (fun p : D × Option Bool × Option Bool => p.2.1.isSome && p.2.2.isSome) tD depOk_none]
  · simp [both]
  · rintro ⟨a, b, c⟩ _
    rw [W_turn]
    rcases b with _ | b <;> rcases c with _ | c <;> simp [tD, ej]
theorem W_differences (T : TV Φ) (e150 : Φ 150 = some d_require_pair) (e151 : Φ 151 = some d_both_judged) (e : Φ 152 = some d_differences) {c x y : D} (hs : Shr c) {Q : Vl → Hh → Prop} :
    W (callF Φ N (k + 5) 152 [.d c, .d x, .d y]) h Q E ↔ if isColl c = true then (if validJ (clen c) x = true then (if validJ (clen c) y = true then Q (.d (.list (diffs (unT c) (unJ x) (unJ y)))) h else E 20 h) else E 20 h) else E 12 h := by
  rw [W_call e rfl]
  have := fun Q E => W_require_pair (N := N) (k := k) (h := h) (E := E) T e150 (x := x) (y := y) hs (Q := Q)
  cases hc : isColl c
  · simp [d_differences, this, hc]
  · cases hx : validJ (clen c) x
    · simp [d_differences, this, hc, hx]
    · cases hy : validJ (clen c) y
      · simp [d_differences, this, hc, hx, hy]
      · obtain ⟨js, rfl, hl, h7⟩ := collJ hc hx
        obtain ⟨ks, rfl, hl2, h72⟩ := collJ hc hy
        obtain ⟨cs, rfl⟩ := isColl_tup hc
        simp at hl hl2
        have hm : ∀ {Q : List D → Hh → Prop} {E : Nat → Hh → Prop} {cf : CF} {a0 a1 a2 : Option Vl}, W (compE cf (Jr.E.var 3) (Tg.tp [3, 4, 5]) [3, 4, 5] (Jr.E.cmp COp.ne (Jr.E.var 4) (Jr.E.var 5)) [a0, a1, a2, none, none, none] none ((both cs js ks).map tD)) h Q E ↔ Q (diffs cs js ks) h := by
          intro Q E cf a0 a1 a2
          rw [W_filT (fun p : D × Option Bool × Option Bool => decide (p.2.1 ≠ p.2.2)) (fun p => p.1) depOk_none]
          · rfl
          · rintro ⟨a, b, c⟩ _
            rw [W_turn]
            by_cases hbc : b = c <;> simp [tD, ej_eqv, hbc]
        simp [d_differences, this, hc, hl, hl2, W_both_judged e151, hm]
theorem W_joined (T : TV Φ) (e150 : Φ 150 = some d_require_pair) (e151 : Φ 151 = some d_both_judged) (e152 : Φ 152 = some d_differences) (e : Φ 159 = some d_joined) {c x y : D} (hs : Shr c) {Q : Vl → Hh → Prop} :
    W (callF Φ N (k + 6) 159 [.d c, .d x, .d y]) h Q E ↔ if isColl c = true then (if validJ (clen c) x = true then (if validJ (clen c) y = true then (if diffs (unT c) (unJ x) (unJ y) = [] then Q (.d (.tuple ((joinJ (unJ x) (unJ y)).map ej))) h else E 153 h) else E 20 h) else E 20 h) else E 12 h := by
  rw [W_call e rfl]
  have := fun Q E => W_differences (N := N) (k := k) (h := h) (E := E) T e150 e151 e152 (x := x) (y := y) hs (Q := Q)
  cases hc : isColl c
  · simp [d_joined, this, hc]
  · cases hx : validJ (clen c) x
    · simp [d_joined, this, hc, hx]
    · cases hy : validJ (clen c) y
      · simp [d_joined, this, hc, hx, hy]
      · obtain ⟨js, rfl, hl, h7⟩ := collJ hc hx
        obtain ⟨ks, rfl, hl2, h72⟩ := collJ hc hy
        obtain ⟨cs, rfl⟩ := isColl_tup hc
        simp at hl hl2
        have hm : ∀ {Q : List D → Hh → Prop} {E : Nat → Hh → Prop} {cf : CF} {a0 a1 a2 : Option Vl}, W (compE cf (Jr.E.ite (Jr.E.cmp COp.is (Jr.E.var 3) Jr.E.non) (Jr.E.var 4) (Jr.E.var 3)) (Tg.tp [3, 4]) [3, 4] (Jr.E.bl true) [a0, a1, a2, none, none] none ((js.zip ks).map fun p => .tuple [ej p.1, ej p.2])) h Q E ↔ Q ((joinJ js ks).map ej) h := by
          intro Q E cf a0 a1 a2
          rw [W_mapT (fun p : Option Bool × Option Bool => ej (match p.1 with
            | none => p.2
            | some b => some b)) depOk_none]
          · rw [joinJ, List.map_map]
            rfl
          · rintro ⟨b, c⟩ _
            rw [W_turn]
            rcases b with _ | b <;> simp [ej]
        by_cases hd : diffs cs js ks = []
        · simp [d_joined, this, hc, hl, hl2, hd, zipD_ejj, hm]
        · simp [d_joined, this, hc, hl, hl2, hd]
theorem both_count {cs : List D} {js ks : List (Option Bool)} : (both cs js ks).length ≤ cs.length := by
  unfold both trip
  refine Nat.le_trans (List.length_filter_le _ _) ?_
  rw [List.length_zip]
  omega
def agree (cs : List D) (js ks : List (Option Bool)) : Nat := ((both cs js ks).filter fun p => decide (p.2.1 = p.2.2)).length
def agrD (cs : List D) (js ks : List (Option Bool)) : D := if both cs js ks = [] then .none else fr (low (agree cs js ks : Nat) ((both cs js ks).length : Nat))
theorem W_agreement (T : TV Φ) (e42 : Φ 42 = some d_lowest_terms) (e150 : Φ 150 = some d_require_pair) (e151 : Φ 151 = some d_both_judged) (e : Φ 160 = some d_agreement) (hN : 1000 < N) {c x y : D} (hs : Shr c) {Q : Vl → Hh → Prop} :
    W (callF Φ N (k + 5) 160 [.d c, .d x, .d y]) h Q E ↔ if isColl c = true then (if validJ (clen c) x = true then (if validJ (clen c) y = true then Q (.d (agrD (unT c) (unJ x) (unJ y))) h else E 20 h) else E 20 h) else E 12 h := by
  rw [W_call e rfl]
  have := fun Q E => W_require_pair (N := N) (k := k) (h := h) (E := E) T e150 (x := x) (y := y) hs (Q := Q)
  cases hc : isColl c
  · simp [d_agreement, this, hc]
  · cases hx : validJ (clen c) x
    · simp [d_agreement, this, hc, hx]
    · cases hy : validJ (clen c) y
      · simp [d_agreement, this, hc, hx, hy]
      · obtain ⟨js, rfl, hl, h7⟩ := collJ hc hx
        obtain ⟨ks, rfl, hl2, h72⟩ := collJ hc hy
        obtain ⟨cs, rfl⟩ := isColl_tup hc
        simp at hl hl2
        have hm : ∀ {Q : List D → Hh → Prop} {E : Nat → Hh → Prop} {cf : CF} {a0 a1 a2 a3 : Option Vl}, W (compE cf (Jr.E.int 1) (Tg.tp [4, 5, 6]) [4, 5, 6] (Jr.E.cmp COp.eq (Jr.E.var 5) (Jr.E.var 6)) [a0, a1, a2, a3, none, none, none] none ((both cs js ks).map tD)) h Q E ↔ Q (((both cs js ks).filter fun p => decide (p.2.1 = p.2.2)).map fun _ => .int 1) h := by
          intro Q E cf a0 a1 a2 a3
          rw [W_filT (fun p : D × Option Bool × Option Bool => decide (p.2.1 = p.2.2)) (fun _ => .int 1) depOk_none]
          rintro ⟨a, b, c⟩ _
          rw [W_turn]
          by_cases hbc : b = c <;> simp [tD, ej_eqv, hbc]
        have hb := both_count (cs := cs) (js := js) (ks := ks)
        have ha : agree cs js ks ≤ (both cs js ks).length := List.length_filter_le _ _
        have hlow := fun Q E => W_low (Φ := Φ) (N := N) (k := k + 3) (h := h) (E := E) e42 (t := (agree cs js ks : Nat)) (b := ((both cs js ks).length : Nat)) (by omega) (by omega) (by omega) (by omega) (Q := Q)
        by_cases hn : both cs js ks = []
        · simp [d_agreement, this, hc, hl, hl2, W_both_judged e151, hn, agrD]
        · simp [d_agreement, this, hc, hl, hl2, W_both_judged e151, hn, agrD, hm]
          simp only [agree] at hlow
          rw [hlow]
          simp [agree]
/-! ### the majority -/
def colJ (i : Nat) (ps : List (List (Option Bool))) : List (Option Bool) := ps.map fun r => r.getD i none
def majs (n : Nat) (ps : List (List (Option Bool))) : List (Option Bool) := (List.range n).map fun i => maj (colJ i ps)
def isPeople (n : Nat) : D → Bool
  | .list xs => decide (1 ≤ xs.length) && decide (xs.length ≤ 7) && xs.all (validJ n)
  | _ => false
def unL : D → List D
  | .list xs => xs
  | _ => []
theorem people_of {n : Nat} : ∀ {xs : List D}, xs.all (validJ n) = true → ∃ ps : List (List (Option Bool)), xs = ps.map (fun js => .tuple (js.map ej)) ∧ ∀ r ∈ ps, r.length = n
  | [], _ => ⟨[], rfl, by simp⟩
  | x :: xs, h => by
    rw [List.all_cons, Bool.and_eq_true] at h
    obtain ⟨js, rfl, hl⟩ := validJ_of h.1
    obtain ⟨ps, rfl, hp⟩ := people_of h.2
    refine ⟨js :: ps, rfl, fun r hr => ?_⟩
    rcases List.mem_cons.mp hr with rfl | hr
    · exact hl
    · exact hp r hr
theorem W_majority (T : TV Φ) (e : Φ 161 = some d_majority) {c : D} {ps : List (List (Option Bool))} (hs : Shr c) (hc : isColl c = true) (hp : ∀ r ∈ ps, r.length = clen c) (h1 : 1 ≤ ps.length) (h7 : ps.length ≤ 7) {Q : Vl → Hh → Prop} :
    W (callF Φ N (k + 4) 161 [.d c, .d (.list (ps.map fun js => .tuple (js.map ej)))]) h Q E ↔ Q (.d (.tuple ((majs (clen c) ps).map ej))) h := by
  refine W.rule ?_
  rw [W_call e rfl]
  obtain ⟨cs, rfl⟩ := isColl_tup hc
  have hcl : cs.length ≤ 7 := by
    simp [isColl] at hc
    exact hc.1.1.2
  have hrc := fun Q E => W_require_collection (N := N) (k := k) (h := h) (E := E) T.e9 T.e10 T.e11 T.e13 hs (Q := Q)
  simp at hp
  simp only [d_majority]
  rw [W_B_cons]
  generalize hQ : seqQ _ _ _ _ _ = Q0
  simp [hrc, hc]
  subst hQ
  rw [seqQ_next]
  rw [W_B_cons]
  generalize hQ : seqQ _ _ _ _ _ = Q0
  have c1 : (1 : Int) ≤ ps.length := by omega
  have c2 : (ps.length : Int) ≤ 7 := by omega
  simp [c1, c2]
  subst hQ
  rw [seqQ_next]
  rw [W_B_cons]
  generalize hQ : seqQ _ _ _ _ _ = Q0
  simp
  rw [W_mapT (fun _ => .bool true) depOk_none]
  rotate_left
  · intro r hr
    rw [W_turn]
    simp [W_valid_judgements T, hp r hr]
  try simp
  rw [all_map (fun _ : List (Option Bool) => true), List.all_eq_true.mpr fun _ _ => rfl]
  simp
  subst hQ
  rw [seqQ_next]
  rw [W_B_cons]
  generalize hQ : seqQ _ _ _ _ _ = Q0
  simp
  subst hQ
  rw [seqQ_next]
  rw [W_B_cons]
  generalize hQ : seqQ _ _ _ _ _ = Q0
  refine W_for_len (n := cs.length) rfl len_tuple rfl (by omega) ?_
  refine W_forI (fun d en h' => ∃ (a3 a4 a5 a6 a7 : Option Vl), en = [some (.d (.tuple cs)), some (.d (.list (ps.map fun js => .tuple (js.map ej)))), some (.r h.length), a3, a4, a5, a6, a7] ∧ h' = h ++ [.lst ((d.map fun i => maj (colJ i ps)).map ej)]) ?_ ?_ ?_
  · exact ⟨_, _, _, _, _, rfl, rfl⟩
  · rintro d i r en h' hd ⟨a3, a4, a5, a6, a7, rfl, rfl⟩
    have hi : i < cs.length := by
      have : i ∈ List.range cs.length := by rw [← hd]; simp
      simpa using this
    have hdl : d.length ≤ 7 := by
      have := congrArg List.length hd
      simp at this
      omega
    simp
    rw [W_mapT (fun r => ej (r.getD i none)) depOk_none]
    rotate_left
    · intro r hr
      rw [W_turn]
      have : (r.map ej)[i]? = some (ej (r.getD i none)) := by
        have := hp r hr
        rw [List.getElem?_map, List.getElem?_eq_getElem (by omega)]
        simp [List.getD_eq_getElem?_getD, List.getElem?_eq_getElem (show i < r.length by omega)]
      simp [ixV_tup this]
    have hcol : ps.map (fun r => ej (r.getD i none)) = (colJ i ps).map ej := by simp [colJ]
    have c1 := cntV_ej (colJ i ps) true
    have c0 := cntV_ej (colJ i ps) false
    simp only [b2, if_true, if_false, Bool.false_eq_true] at c1 c0
    rw [hcol]
    have hint : ∀ b : Bool, bltV .int [.bool b] = some (bd b) := fun b => rfl
    have hlt : d.length < sizeLine := by unfold sizeLine; omega
    by_cases hq : (colJ i ps).count (some true) = (colJ i ps).count (some false)
    · have hm : maj (colJ i ps) = none := if_pos hq
      simp [c1, c0, hq, hm, ej, hlt]
    · have hq' : ¬ (((colJ i ps).count (some true) : Nat) : Int) = ((colJ i ps).count (some false) : Nat) := by omega
      have hm : maj (colJ i ps) = some (decide ((colJ i ps).count (some true) > (colJ i ps).count (some false))) := if_neg hq
      simp [c1, c0, hq, hint, hm, ej, hlt]
      exact fun e => absurd e hq'
  · rintro en h' ⟨a3, a4, a5, a6, a7, rfl, rfl⟩
    subst hQ
    rw [seqQ_next]
    have hf : (h ++ [Cell.lst (((List.range cs.length).map fun i => maj (colJ i ps)).map ej)])[h.length]? = some (.lst (((List.range cs.length).map fun i => maj (colJ i ps)).map ej)) := by rw [List.getElem?_append_right (by omega)]; simp
    rw [W_B_cons, evS_frz, W_frz rfl hf, seqQ_next]
    simp [majs]
theorem W_majority_bad (T : TV Φ) (e : Φ 161 = some d_majority) {c x : D} (hs : Shr c) (hx : isColl c = true → isPeople (clen c) x = false) {Q : Vl → Hh → Prop} :
    W (callF Φ N (k + 4) 161 [.d c, .d x]) h Q E ↔ if isColl c = true then E 154 h else E 12 h := by
  rw [W_call e rfl]
  have hrc := fun Q E => W_require_collection (N := N) (k := k) (h := h) (E := E) T.e9 T.e10 T.e11 T.e13 hs (Q := Q)
  simp only [d_majority]
  cases hc : isColl c
  · rw [W_B_cons]
    generalize hQ : seqQ _ _ _ _ _ = Q0
    simp [hrc, hc]
  · have hx := hx hc
    obtain ⟨cs, rfl⟩ := isColl_tup hc
    rw [W_B_cons]
    generalize hQ : seqQ _ _ _ _ _ = Q0
    simp [hrc, hc]
    subst hQ
    rw [seqQ_next]
    rw [W_B_cons]
    generalize hQ : seqQ _ _ _ _ _ = Q0
    rcases x with _ | _ | _ | _ | xs | _
    case list =>
      by_cases h1 : 1 ≤ xs.length
      · have h1' : (1 : Int) ≤ xs.length := by omega
        by_cases h7 : xs.length ≤ 7
        · have h7' : (xs.length : Int) ≤ 7 := by omega
          have ha : xs.all (validJ cs.length) = false := by simpa [isPeople, h1, h7] using hx
          have hm : ∀ {Q : List D → Hh → Prop} {E : Nat → Hh → Prop} {a1 a2 a3 a4 a5 a6 : Option Vl}, W (compE (callF Φ N (k + 3)) (Jr.E.call 19 (Es.cons (Jr.E.var 0) (Es.cons (Jr.E.var 7) Es.nil))) (Tg.nm 7) [7] (Jr.E.bl true) [some (.d (.tuple cs)), a1, a2, a3, a4, a5, a6, none] none xs) h Q E ↔ Q (xs.map fun x => .bool (validJ cs.length x)) h := by
            intro Q E a1 a2 a3 a4 a5 a6
            refine W_map (fun x => .bool (validJ cs.length x)) depOk_none fun x hx => ?_
            rw [W_turn]
            simp [W_valid_judgements T]
          simp [h1', h7']
          subst hQ
          rw [seqQ_next]
          rw [W_B_cons]
          generalize hQ : seqQ _ _ _ _ _ = Q0
          simp [hm]
          rw [all_map, ha]
          simp
        · have h7' : ¬ (xs.length : Int) ≤ 7 := by omega
          simp [h1', h7']
      · have h1' : ¬ (1 : Int) ≤ xs.length := by omega
        simp [h1']
    all_goals simp
end
end Jr

set_option Elab.async false
set_option linter.all false
set_option maxRecDepth 100000
set_option maxHeartbeats 2000000
namespace Jr
open PySem
open scoped Rat
/-! ### value with its exceptions; the law's own value -/
def unM : D → Ms
  | .tuple [.str s] => if s = q "average" then .avg else .rcp
  | .tuple [.str s, .int n] => if s = q "precision" then .prec n.toNat else if s = q "recall" then .rcl n.toNat else if s = q "gain" then .gain n.toNat else .share n.toNat
  | _ => .avg
@[simp] theorem unM_ms (m : Ms) : unM (msD m) = m := by
  cases m <;> simp [msD, unM, q, os_inj]
def unC (x : D) : List Bool := (unJ x).map fun e => e.getD false
def comD (c : List Bool) : List (Option Bool) := c.map some
theorem com_ej (c : List Bool) : (comD c).map ej = c.map bd := by simp [comD, Function.comp_def, ej]
theorem com_of {js : List (Option Bool)} (h : js.all Option.isSome = true) : ∃ c, js = comD c := by
  refine ⟨js.map fun e => e.getD false, ?_⟩
  unfold comD
  rw [List.map_map]
  have : ∀ e ∈ js, (some ∘ fun e : Option Bool => e.getD false) e = e := fun e he => by
    have := List.all_eq_true.mp h e he
    cases e with
    | none => cases this
    | some b => rfl
  rw [List.map_congr_left this]
  simp
@[simp] theorem com_all (c : List Bool) : (comD c).all Option.isSome = true := by simp [comD, Function.comp_def]
@[simp] theorem com_len (c : List Bool) : (comD c).length = c.length := by simp [comD]
@[simp] theorem unC_row (c : List Bool) : unC (rowD c) = c := by
  unfold unC rowD
  rw [← com_ej, unJ_ej]
  simp [comD, Function.comp_def]
@[simp] theorem unJ_row (c : List Bool) : unJ (rowD c) = comD c := by
  unfold rowD
  rw [← com_ej, unJ_ej]
@[simp] theorem validJ_row {n : Nat} (c : List Bool) : validJ n (rowD c) = decide (c.length = n) := by
  unfold rowD
  rw [← com_ej, validJ_ej, com_len]
theorem row_com (c : List Bool) : rowD c = .tuple ((comD c).map ej) := by rw [com_ej]; rfl
/-- a tuple here is short -/
def Fe (x : D) : Prop := ∀ xs, x = .tuple xs → xs.length < 1000
theorem fe_int {i : Int} : Fe (.int i) := fun xs e => by cases e
theorem fe_none : Fe .none := fun xs e => by cases e
theorem fe_str {s : Str} : Fe (.str s) := fun xs e => by cases e
theorem fe_list {s : List D} : Fe (.list s) := fun xs e => by cases e
theorem fe_tup {s : List D} (h : s.length < 1000) : Fe (.tuple s) := fun xs e => by cases e; exact h
structure TRm (Φ : Nat → Option Def) : Prop where
  e6 : Φ 6 = some d_is_integer
  e3 : Φ 3 = some d_is_measure
  e46 : Φ 46 = some d_require_measure
structure TR (Φ : Nat → Option Def) : Prop extends TJ Φ, TRm Φ where
  e14 : Φ 14 = some d_is_valid_ranking
  e45 : Φ 45 = some d_require_ranking
section
variable {Φ : Nat → Option Def} {N k : Nat} {h : Hh} {E : Nat → Hh → Prop}
theorem W_require_measure (T : TRm Φ) {x : D} {Q : Vl → Hh → Prop} : W (callF Φ N (k + 3) 46 [.d x]) h Q E ↔ if isMeasure x = true then Q (.d .none) h else E 41 h := by
  rw [W_call T.e46 rfl]
  have := fun Q E => W_is_measure (Φ := Φ) (N := N) (k := k) (h := h) (E := E) T.e6 T.e3 (x := x) (Q := Q)
  simp only [d_require_measure]
  cases hm : isMeasure x
  · simp [this, hm]
  · simp [this, hm]
theorem any_none (js : List (Option Bool)) : (js.map ej).any (fun z => eqv z .none) = !js.all Option.isSome := by
  induction js with
  | nil => rfl
  | cons e r ih =>
    rw [List.map_cons, List.any_cons, ih, List.all_cons]
    rcases e with _ | _ | _ <;> simp [ej, bd]
theorem W_require_complete (e : Φ 47 = some d_require_complete) {js : List (Option Bool)} {Q : Vl → Hh → Prop} : W (callF Φ N (k + 1) 47 [.d (.tuple (js.map ej))]) h Q E ↔ if js.all Option.isSome = true then Q (.d .none) h else E 44 h := by
  rw [W_call e rfl]
  have := any_none js
  generalize js.all Option.isSome = b at *
  simp [d_require_complete, -List.any_map, this]
theorem W_value (T : TR Φ) (tw : TW Φ) (e47 : Φ 47 = some d_require_complete) (e : Φ 50 = some d_value) (hN : bigN < N) {c x r m : D} (hs : Shr c) (hf : Fe r) {Q : Vl → Hh → Prop} :
    W (callF Φ N (k + 5) 50 [.d c, .d x, .d r, .d m]) h Q E ↔ if isColl c = true then (if validJ (clen c) x = true then (if isRank (unSs c) r = true then (if isMeasure m = true then (if (unJ x).all Option.isSome = true then Q (.d (frD (valC (unSs c) (unC x) (unSs r) (unM m)))) h else E 44 h) else E 41 h) else E 40 h) else E 20 h) else E 12 h := by
  rw [W_call e rfl]
  have h1 := fun Q E => W_require_judgements (N := N) (k := k) (h := h) (E := E) T.toTJ (x := x) hs (Q := Q)
  cases hc : isColl c
  · simp [d_value, h1, hc]
  · cases hv : validJ (clen c) x
    · simp [d_value, h1, hc, hv]
    · obtain ⟨js, rfl, hl, h7⟩ := collJ hc hv
      have hnd : ∀ {cs : List Str}, isColl (.tuple (cs.map .str)) = true → cs.Nodup := fun {cs} hh => by
        simp only [isColl, Bool.and_eq_true] at hh
        have := (asc_iff cs).mp hh.2
        exact List.Pairwise.imp (S := fun a b => a ≠ b) (fun {a b} h e => by subst e; exact sLt_irrefl h) this
      obtain ⟨cs, rfl⟩ := isColl_strs hc
      simp at hl h7
      have h2 := fun Q E => W_require_ranking (N := N) (k := k + 2) (h := h) (E := E) T.e14 T.e45 (cs := cs) (x := r) hf (Q := Q)
      cases hr : isRank cs r
      · simp [d_value, h1, hc, hl, h2, hr]
      · have h3 := fun Q E => W_require_measure (N := N) (k := k + 1) (h := h) (E := E) T.toTRm (x := m) (Q := Q)
        cases hm : isMeasure m
        · simp [d_value, h1, hc, hl, h2, hr, h3, hm]
        · have h4 := fun Q E => W_require_complete (Φ := Φ) (N := N) (k := k + 3) (h := h) (E := E) e47 (js := js) (Q := Q)
          cases ha : js.all Option.isSome
          · rw [ha] at h4
            simp [d_value, h1, hc, hl, h2, hr, h3, hm, h4, ha]
          · obtain ⟨co, rfl⟩ := com_of ha
            obtain ⟨rs, rfl, hR⟩ := isRank_of hr
            obtain ⟨ms, mk, rfl⟩ := isMeasure_of hm
            rw [ha] at h4
            have h5 := fun Q E => W_value_of (N := N) (k := k) (h := h) (E := E) tw hN (l := cs) (r := rs) (c := co) (m := ms) (hnd hc) (by simpa using hl) (by simp at hl h7; omega) hR mk (Q := Q)
            simp only [row_com] at h5
            have e1 : unC (.tuple ((comD co).map ej)) = co := by rw [← row_com, unC_row]
            simp only [e1, unJ_ej, ha, unSs_str, unM_ms, if_true]
            simp [d_value, h1, hc, hl, h2, hr, h3, hm, h4, h5]
/-! the law's fractions -/
theorem W_frac (e : Φ 49 = some d__law_fraction) (hN : bigN < N) {t b : Int} (hb : 0 ≤ b) (hb2 : b.natAbs ≤ bigN) {Q : Vl → Hh → Prop} : W (callF Φ N (k + 1) 49 [.d (.int t), .d (.int b)]) h Q E ↔ Q (.d (frD (t /. b))) h := by
  rw [← low_eq hb]
  refine W.rule ?_
  rw [W_call e rfl]
  simp only [d__law_fraction]
  by_cases b0 : b = 0
  · subst b0
    simp [sizeLine, low, fr]
  rw [W_B_cons]
  generalize hQ : seqQ _ _ _ _ _ = Q0
  simp [b0]
  subst hQ
  rw [seqQ_next]
  rw [W_B_cons]
  generalize hQ : seqQ _ _ _ _ _ = Q0
  simp
  subst hQ
  rw [seqQ_next]
  rw [W_B_cons]
  generalize hQ : seqQ _ _ _ _ _ = Q0
  have g0 : 0 < Int.gcd t b := Int.gcd_pos_of_ne_zero_right _ b0
  rw [evS_whl]
  unfold whlE
  refine W_whl (fun m en h3 => ∃ u v : Int, en = [some (.d (.int t)), some (.d (.int b)), some (.d (.int u)), some (.d (.int v))] ∧ 0 ≤ v ∧ (v = 0 → 0 ≤ u) ∧ Int.gcd u v = Int.gcd t b ∧ m = v.toNat ∧ h3 = h) ?_ (m := b.toNat) ⟨_, _, rfl, hb, fun z => absurd z b0, rfl, rfl, rfl⟩ (by omega)
  rintro m en h3 ⟨u, v, rfl, v0, hu, hg, rfl, rfl⟩
  by_cases vz : v = 0
  · subst vz
    have hu := hu rfl
    simp
    have e1 : u = (Int.gcd t b : Nat) := by
      rw [← hg, Int.gcd_zero_right]
      omega
    subst hQ
    rw [seqQ_next]
    subst e1
    have hgb : (((Int.gcd t b : Nat) : Int)).natAbs ≤ bigN := by
      have : Int.gcd t b ≤ b.natAbs := Nat.gcd_le_right _ (by omega)
      omega
    simp
    rw [fdiv_big (by omega) hgb, fdiv_big (by omega) hgb]
    simp [sizeLine, fr, low, b0, Int.gcd]
  · simp [vz]
    rw [mod_ii (by omega)]
    simp
    have h1 := Int.emod_nonneg u vz
    have h2 := Int.emod_lt_of_pos u (show 0 < v by omega)
    refine ⟨(u % v).toNat, by omega, v, u % v, ⟨rfl, rfl⟩, h1, fun _ => v0, ?_, rfl⟩
    rw [← hg, Int.emod_def, Int.gcd_comm u v, Int.mul_comm, Int.gcd_sub_mul_right_right]
structure TLf (Φ : Nat → Option Def) : Prop where
  e49 : Φ 49 = some d__law_fraction
  e133 : Φ 133 = some d__law_plus
theorem W_plus (T : TLf Φ) (hN : bigN < N) {t1 b1 t2 b2 : Int} {m n : Nat} (p1 : 0 < b1) (p2 : 0 < b2) (h1 : t1.natAbs ≤ 2 ^ m) (h2 : b1.natAbs ≤ 2 ^ m) (h3 : t2.natAbs ≤ 2 ^ n) (h4 : b2.natAbs ≤ 2 ^ n) (hs : m + n < 4000) {Q : Vl → Hh → Prop} :
    W (callF Φ N (k + 2) 133 [.d (pr t1 b1), .d (pr t2 b2)]) h Q E ↔ Q (.d (frD (t1 /. b1 + t2 /. b2))) h := by
  rw [W_call T.e133 rfl, add_divInt (by omega) (by omega)]
  have hw := fun Q E => W_frac (k := k) (h := h) (E := E) T.e49 hN (t := t1 * b2 + t2 * b1) (b := b1 * b2) (Int.mul_nonneg (by omega) (by omega)) (Nat.le_trans (bot_le h2 h4) (big_le (by omega))) (Q := Q)
  have m1 := mul_bd h1 h4 (by omega) (by omega)
  have m2 := mul_bd h3 h2 (by omega) (by omega)
  have m3 := mul_bd h2 h4 (by omega) (by omega)
  simp [d__law_plus, pr, m1, m2, m3, hw]
theorem W_plusP (T : TLf Φ) (hN : bigN < N) {x : Rat} {t b : Int} {m n : Nat} (h1 : Bd m x) (p : 0 < b) (h3 : t.natAbs ≤ 2 ^ n) (h4 : b.natAbs ≤ 2 ^ n) (hs : m + n < 4000) {Q : Vl → Hh → Prop} :
    W (callF Φ N (k + 2) 133 [.d (frD x), .d (pr t b)]) h Q E ↔ Q (.d (frD (x + t /. b))) h := by
  have := W_plus (Q := Q) (E := E) (h := h) (k := k) T hN (t1 := x.num) (b1 := x.den) (t2 := t) (b2 := b) (by have := x.den_nz; omega) p h1.1 (by simpa using h1.2) h3 h4 hs
  rw [num_den] at this
  exact this
end
end Jr

set_option Elab.async false
set_option linter.all false
set_option maxRecDepth 100000
set_option maxHeartbeats 2000000
namespace Jr
open PySem
open scoped Rat
/-! ### the law's own value -/
/-- ranks of the relevant ones -/
def plc : Nat → List Bool → List Nat
  | _, [] => []
  | k, b :: r => if b then (k + 1) :: plc (k + 1) r else plc (k + 1) r
def invP : List Nat → Rat
  | [] => 0
  | p :: ps => 1 / (p : Rat) + invP ps
def avgP : Nat → List Nat → Rat
  | _, [] => 0
  | f, p :: ps => ((f + 1 : Nat) : Rat) / (p : Rat) + avgP (f + 1) ps
theorem gain_plc : ∀ (hs : List Bool) (k : Nat), gainF k hs = invP (plc k hs)
  | [], _ => rfl
  | b :: r, k => by
    unfold gainF plc
    rw [gain_plc r (k + 1)]
    cases b
    · simp [bq, zero_div', Rat.zero_add]
    · simp [bq, invP]
theorem avg_plc : ∀ (hs : List Bool) (k f : Nat), avgF k f hs = avgP f (plc k hs)
  | [], _, _ => rfl
  | b :: r, k, f => by
    unfold avgF plc
    rw [avg_plc r (k + 1)]
    cases b
    · simp [Rat.zero_add]
    · simp [avgP]
theorem rcp_plc : ∀ (hs : List Bool) (k : Nat), rcpF k hs = match plc k hs with
    | [] => 0
    | p :: _ => 1 / (p : Rat)
  | [], _ => rfl
  | b :: r, k => by
    unfold rcpF plc
    cases b
    · simp [rcp_plc r (k + 1)]
    · simp
theorem plc_ge : ∀ (hs : List Bool) (k : Nat), ∀ p ∈ plc k hs, k < p ∧ p ≤ k + hs.length
  | [], _, p, h => by cases h
  | b :: r, k, p, h => by
    unfold plc at h
    have ih := plc_ge r (k + 1) p
    cases b
    · simp at h; have := ih h; simp; omega
    · simp at h
      rcases h with rfl | h
      · simp
      · have := ih h; simp; omega
theorem plc_len : ∀ (hs : List Bool) (k : Nat), (plc k hs).length = cnt hs
  | [], _ => rfl
  | b :: r, k => by
    unfold plc
    cases b <;> simp [plc_len r (k + 1)]
theorem plc_take : ∀ (hs : List Bool) (k n : Nat), plc k (hs.take n) = (plc k hs).filter fun p => decide (p ≤ k + n)
  | [], _, _ => by simp [plc]
  | b :: r, k, 0 => by
    rw [List.take_zero, plc]
    symm
    rw [List.filter_eq_nil_iff]
    intro p hp
    have := plc_ge _ _ p hp
    simp; omega
  | b :: r, k, n + 1 => by
    have ih := plc_take r (k + 1) n
    rw [List.take_succ_cons]
    unfold plc
    have e : k + 1 + n = k + (n + 1) := by omega
    rw [e] at ih
    cases b
    · simp [ih]
    · simp [ih]
theorem plc_rep : ∀ (n k : Nat), plc k (List.replicate n true) = List.range' (k + 1) n
  | 0, _ => rfl
  | n + 1, k => by
    rw [List.replicate_succ, plc, plc_rep n (k + 1), List.range'_succ]
    rfl
theorem mostF_inv (n : Nat) : mostF n = invP (List.range' 1 n) := by
  unfold mostF
  rw [gain_plc, plc_rep]
theorem plc_range : ∀ (hs hs0 : List Bool) (k : Nat), hs0.drop k = hs → ((List.range' k hs.length).filter fun i => hs0.getD i false).map (· + 1) = plc k hs
  | [], _, _, _ => rfl
  | b :: r, hs0, k, h => by
    have hk : hs0[k]? = some b := by
      have := congrArg (fun l => l[0]?) h
      simpa using this
    have hd : hs0.drop (k + 1) = r := by
      have := congrArg List.tail h
      simpa using this
    have ih := plc_range r hs0 (k + 1) hd
    rw [List.length_cons, List.range'_succ, List.filter_cons]
    have e : hs0.getD k false = b := by simp [List.getD_eq_getElem?_getD, hk]
    unfold plc
    rw [e]
    cases b
    · simpa using ih
    · simpa using ih
theorem inv_fold : ∀ (ps : List Nat) (s : Rat), ps.foldl (fun (s : Rat) (p : Nat) => s + 1 / (p : Rat)) s = s + invP ps
  | [], s => by simp [invP, Rat.add_zero]
  | p :: ps, s => by rw [List.foldl_cons, inv_fold ps, invP, Rat.add_assoc]
theorem avgP_fold : ∀ (ps ps0 : List Nat) (k : Nat) (s : Rat), ps0.drop k = ps → (List.range' k ps.length).foldl (fun s i => s + ((i + 1 : Nat) : Rat) / ((ps0.getD i 1 : Nat) : Rat)) s = s + avgP k ps
  | [], _, _, s, _ => by simp [avgP, Rat.add_zero]
  | p :: ps, ps0, k, s, h => by
    have hk : ps0[k]? = some p := by
      have := congrArg (fun l => l[0]?) h
      simpa using this
    have hd : ps0.drop (k + 1) = ps := by
      have := congrArg List.tail h
      simpa using this
    rw [List.length_cons, List.range'_succ, List.foldl_cons, avgP_fold ps ps0 (k + 1) _ hd, avgP, Rat.add_assoc]
    have e : ps0.getD k 1 = p := by simp [List.getD_eq_getElem?_getD, hk]
    rw [e]
theorem getE {α : Type} {en : List α} {i : Nat} {v : α} (h : en[i]? = some v) : ∃ hi : i < en.length, en[i]'hi = v := by
  rcases Nat.lt_or_ge i en.length with q | q
  · exact ⟨q, by rw [List.getElem?_eq_getElem q] at h; exact Option.some.inj h⟩
  · rw [List.getElem?_eq_none q] at h; cases h
section
variable {Φ : Nat → Option Def} {N k : Nat} {h : Hh} {E : Nat → Hh → Prop}
theorem W_r2 {cf : CF} {a b : Jr.E} {en : Env} {Q : Option (Nat × Cell) × List D → Hh → Prop} (w : W (evE cf a en) h (fun v h1 => W (evE cf b en) h1 (fun v2 h2 => ∃ m n : Nat, v = .d (.int (m : Int)) ∧ v2 = .d (.int (n : Int)) ∧ m ≤ n ∧ n ≤ 1000 ∧ Q (none, (List.range' m (n - m)).map fun i : Nat => .int (i : Int)) h2) E) E) : W (evI cf (.r2 a b) en) h Q E := by
  rw [evI_r2, W_rd2]
  refine w.imp fun v h1 w => w.imp ?_
  rintro v2 h2 ⟨m, n, rfl, rfl, hm, hn, q⟩
  rw [W_rd_d, W_rd_d, W_bind, asI_int, Option.bind_some, asI_int, Option.bind_some, rng_ab hm hn, W_ofO_some, W_pure]
  exact q
theorem W_law_value (T : TLf Φ) (e : Φ 52 = some d__law_value) (hN : bigN < N) {l r : List Str} {c : List Bool} {m : Ms} (nd : l.Nodup) (hl : c.length = l.length) (h7 : l.length ≤ 7) (hr : Rk l r) (hm : MsOk m) {Q : Vl → Hh → Prop} :
    W (callF Φ N (k + 3) 52 [.d (.tuple (l.map .str)), .d (rowD c), .d (.tuple (r.map .str)), .d (msD m)]) h Q E ↔ Q (.d (frD (valC l c r m))) h := by
  refine W.rule ?_
  rw [W_call e rfl]
  simp only [d__law_value]
  have hrl := hr.le
  have hhl : (hits l c r).length = r.length := hits_len
  have hcc : cnt c ≤ 7 := Nat.le_trans (cnt_le c) (by omega)
  have hsum := sum_bdT c
  have hmx : ∃ s t, msD m = .tuple (.str s :: t) ∧ s = (match m with | .avg => q "average" | .rcp => q "reciprocal" | .prec _ => q "precision" | .rcl _ => q "recall" | .gain _ => q "gain" | .share _ => q "share") := by cases m <;> exact ⟨_, _, rfl, rfl⟩
  obtain ⟨s, t, es, e2⟩ := hmx
  have hix : ixV (msD m) (.int 0) = some (.str s) := by rw [es]; simp
  rw [W_B_cons]
  generalize hQ : seqQ _ _ _ _ _ = Q0
  simp [rowD, dzipV_zip nd (vs := c.map bd) (by simpa using hl.symm) (by omega), hix]
  subst hQ
  rw [seqQ_next]
  rw [W_B_cons]
  generalize hQ : seqQ _ _ _ _ _ = Q0
  simp [-evI_r1]
  refine W_r1 ?_
  simp
  refine ⟨r.length, rfl, by omega, ?_⟩
  rw [W_filT (fun i : Nat => (hits l c r).getD i false) (fun i : Nat => .int ((i + 1 : Nat) : Int)) depOk_none]
  rotate_left
  · intro i hi
    rw [W_turn]
    simp at hi
    have hd : (r.map D.str)[i]? = some (.str r[i]) := by rw [List.getElem?_map, List.getElem?_eq_getElem hi]; rfl
    have hm := hr.sub r[i] (List.getElem_mem hi)
    have hj : l.idxOf r[i] < l.length := List.idxOf_lt_length_iff.mpr hm
    have hg : getK ((l.map D.str).zip (c.map bd)) (.str r[i]) = some (bd (hit l c r[i])) := by
      rw [getK_zip nd (by simpa using hl.symm) hm, List.getElem?_map, List.getElem?_eq_getElem (by omega)]
      simp [hit, List.getD_eq_getElem?_getD, List.getElem?_eq_getElem (show l.idxOf r[i] < c.length by omega)]
    have hh : (hits l c r).getD i false = hit l c r[i] := by
      simp [hits, List.getD_eq_getElem?_getD, List.getElem?_eq_getElem hi]
    have htr : truth (bd (hit l c r[i])) = some (hit l c r[i]) := by cases hit l c r[i] <;> rfl
    rw [hh]
    simp [ixV_tup hd, hg, htr]
  have hpl : ((List.range r.length).filter fun i => (hits l c r).getD i false).map (fun i : Nat => D.int ((i + 1 : Nat) : Int)) = (plc 0 (hits l c r)).map fun p : Nat => .int (p : Int) := by
    rw [← plc_range (hits l c r) (hits l c r) 0 rfl, hhl, List.range_eq_range', List.map_map]
    rfl
  rw [hpl]
  subst hQ
  rw [seqQ_next]
  have hval : valC l c r m = val (hits l c r) (cnt c) m := rfl
  rw [hval]
  have hpb := plc_ge (hits l c r) 0
  have hpn := plc_len (hits l c r) 0
  have hcl := cnt_le (hits l c r)
  generalize hits l c r = hs at *
  have wp := fun (x : Rat) (t b : Nat) (hB : Bd 1000 x) (h1 : t ≤ 16) (h2 : 0 < b) (h3 : b ≤ 16) Q E => W_plusP (N := N) (k := k) (h := h) (E := E) T hN (x := x) (t := (t : Int)) (b := (b : Int)) (n := 4) hB (by omega) (by simpa using h1) (by simpa using h3) (by omega) (Q := Q)
  simp only [divInt_nat] at wp
  have hinv : ∀ ps : List Nat, (∀ p ∈ ps, 0 < p ∧ p ≤ 8) → Bd (5 * ps.length) (invP ps) := by
    intro ps
    induction ps with
    | nil => intro _; exact Bd.zero
    | cons p ps ih =>
      intro hp
      have := hp p List.mem_cons_self
      exact ((Bd.one.div (Bd.nat (n := 4) (k := p) (by omega))).add (ih fun z hz => hp z (List.mem_cons_of_mem _ hz))).up (by simp; omega)
  have wloop : ∀ (ps : List Nat) (en : Env) (j tg : Nat) (Q : SO → Hh → Prop) (E : Nat → Hh → Prop), (∀ p ∈ ps, 0 < p ∧ p ≤ 8) → ps.length ≤ 8 → en[j]? = some (some (.d (frD 0))) → tg < en.length → j ≠ tg → (∀ o, Q (.next ((en.set j (some (.d (frD (invP ps))))).set tg o)) h) →
      W (forE (callF Φ N (k + 2)) N (Tg.nm tg) (B.cons (S.asg (Tg.nm j) (Jr.E.call 133 (Es.cons (Jr.E.var j) (Es.cons (Jr.E.tup (Es.cons (Jr.E.int 1) (Es.cons (Jr.E.var tg) Es.nil))) Es.nil)))) B.nil) none (ps.map fun p : Nat => .int (p : Int)) en) h Q E := by
    intro ps en j tg Q E hp hl h0 htg hne q
    obtain ⟨hj, h0'⟩ := getE h0
    refine W_forT (fun (s : Rat) rest en' => ∃ o, en' = (en.set j (some (.d (frD s)))).set tg o ∧ Bd (6 * (8 - rest.length)) s ∧ rest.length ≤ 8 ∧ ∀ p ∈ rest, 0 < p ∧ p ≤ 8) (fun (s : Rat) (p : Nat) => s + 1 / (p : Rat)) 0 ?_ ?_ ?_
    · refine ⟨en[tg]'htg, ?_, Bd.zero.up (by omega), by simpa using hl, hp⟩
      rw [← h0', List.set_getElem_self, List.set_getElem_self]
    · rintro s p rest en' ⟨o, rfl, hB, hr, hp⟩
      have hp0 := hp p List.mem_cons_self
      simp at hr hB
      have hw := wp s 1 p (hB.up (by omega)) (by omega) (by omega) (by omega)
      have hne' : tg ≠ j := fun e => hne e.symm
      simp [pr] at hw
      simp [hj, htg, hne, hne', hw]
      refine ⟨⟨some (.d (.int (p : Int))), ?_⟩, ?_, by omega, fun p hm => hp p (List.mem_cons_of_mem _ hm)⟩
      · rw [List.set_comm _ _ hne, List.set_set]
        exact List.set_comm _ _ hne'
      · exact (hB.add (Bd.one.div (Bd.nat (n := 4) (k := p) (by omega)))).up (by omega)
    · rintro en' ⟨o, rfl, _, _, _⟩
      have := inv_fold ps 0
      rw [Rat.zero_add] at this
      rw [this]
      exact q o
  have wdiv : ∀ (x : Rat) (R : Nat) (Q : Vl → Hh → Prop) (E : Nat → Hh → Prop), Bd 200 x → R ≤ 7 → (W (callF Φ N (k + 2) 49 [.d (.int x.num), .d (.int ((x.den : Int) * (R : Int)))]) h Q E ↔ Q (.d (frD (x / (R : Rat)))) h) := by
    intro x R Q E hB hR
    have hb : ((x.den : Int) * (R : Int)).natAbs ≤ bigN := by
      rw [Int.natAbs_mul]
      exact Nat.le_trans (mul_le_pow (m := 200) (n := 4) hB.denAbs (by simp; omega)) (big_le (by omega))
    have hw := W_frac (k := k + 1) (h := h) (E := E) T.e49 hN (t := x.num) (b := (x.den : Int) * (R : Int)) (Int.mul_nonneg (by omega) (by omega)) hb (Q := Q)
    have e2 : x.num /. ((x.den : Int) * (R : Int)) = x / (R : Rat) := by
      have e3 : x / (R : Rat) = (x.num /. (x.den : Int)) * ((1 : Int) /. (R : Int)) := by
        rw [num_den, Rat.divInt_eq_div, Rat.div_def, Rat.div_def]
        congr 1
        exact (Rat.one_mul _).symm
      rw [e3, Rat.divInt_mul_divInt, Int.mul_one]
    rw [e2] at hw
    exact hw
  have hgood : ∀ {n : Nat} {Q : List D → Hh → Prop} {E : Nat → Hh → Prop} {cf : CF} {en : Env} {s : Str} (hl : 9 < en.length) (h3 : en[3]? = some (some (.d (.tuple [.str s, .int (n : Int)])))), W (compE cf (Jr.E.var 9) (Tg.nm 9) [9] (Jr.E.cmp COp.le (Jr.E.var 9) ((Jr.E.var 3).ix (Jr.E.int 1))) en none ((plc 0 hs).map fun p : Nat => .int (p : Int))) h Q E ↔ Q (((plc 0 hs).filter fun p => decide (p ≤ n)).map fun p : Nat => .int (p : Int)) h := by
    intro n Q E cf en s hl h3
    rw [W_filT (fun p : Nat => decide (p ≤ n)) (fun p : Nat => .int (p : Int)) depOk_none]
    intro p _
    rw [W_turn]
    simp [hl, h3]
  have hcn : ∀ n, (((plc 0 hs).filter fun p => decide (p ≤ n)).length) = cnt (hs.take n) := fun n => by
    rw [← plc_len (hs.take n) 0, plc_take, Nat.zero_add]
  have hwn := fun (a n : Nat) (n7 : n ≤ 7) Q E => W_frac (k := k + 1) (h := h) (E := E) T.e49 hN (t := (a : Int)) (b := (n : Int)) (by omega) (Nat.le_trans (show _ ≤ 1000 by omega) (Nat.le_of_lt big_1000)) (Q := Q)
  simp only [divInt_nat] at hwn
  have hinvg : ∀ n, invP ((plc 0 hs).filter fun p => decide (p ≤ n)) = gainF 0 (hs.take n) := fun n => by
    rw [gain_plc, plc_take, Nat.zero_add]
  cases m with
  | avg =>
    obtain rfl : s = q "average" := e2
    rw [W_B_cons]
    generalize hQ : seqQ _ _ _ _ _ = Q0
    simp [ok_string, q, os_inj]
    subst hQ
    rw [seqQ_next]
    rw [W_B_cons]
    generalize hQ : seqQ _ _ _ _ _ = Q0
    simp
    subst hQ
    rw [seqQ_next]
    rw [W_B_cons]
    generalize hQ : seqQ _ _ _ _ _ = Q0
    simp [ok_string, q, os_inj, -evS_for, -W_B_cons, -evI_r1]
    rw [W_B_cons]
    refine W_for_len (n := (plc 0 hs).length) rfl len_list (by simp) (by omega) ?_
    have pl7 : (plc 0 hs).length ≤ 7 := by omega
    refine W_forT (fun (s : Rat) rest en' => ∃ o, en' = [some (Vl.d (D.tuple (List.map D.str l))), some (Vl.d (D.tuple (List.map bd c))), some (Vl.d (D.tuple (List.map D.str r))), some (Vl.d (msD Ms.avg)),
        some (Vl.k false ((List.map D.str l).zip (List.map bd c))), some (Vl.d (D.str (Str.ofString "average"))),
        some (Vl.d (D.list (List.map (fun p : Nat => D.int (p : Int)) (plc 0 hs)))), some (Vl.d (frD s)), none, none, none, o] ∧ Bd (12 * (8 - rest.length)) s ∧ rest.length ≤ 8 ∧ ∀ i ∈ rest, i < (plc 0 hs).length) (fun (s : Rat) (i : Nat) => s + ((i + 1 : Nat) : Rat) / (((plc 0 hs).getD i 1 : Nat) : Rat)) 0 ?_ ?_ ?_
    · exact ⟨none, rfl, Bd.zero.up (by omega), by simp; omega, fun i hi => by simpa using hi⟩
    · rintro s i rest en' ⟨o, rfl, hB, hr, hp⟩
      have hi := hp i List.mem_cons_self
      simp at hr hB
      have hget : (plc 0 hs)[i]? = some ((plc 0 hs).getD i 1) := by
        rw [List.getD_eq_getElem?_getD, List.getElem?_eq_getElem hi]; rfl
      have hmem : (plc 0 hs).getD i 1 ∈ plc 0 hs := List.mem_of_getElem? hget
      have hpp := hpb _ hmem
      generalize (plc 0 hs).getD i 1 = p at *
      have hgd : (List.map (fun p : Nat => D.int (p : Int)) (plc 0 hs))[i]? = some (.int (p : Int)) := by rw [List.getElem?_map, hget]; rfl
      have hw := wp s (i + 1) p (hB.up (by omega)) (by omega) (by omega) (by omega)
      simp [pr] at hw
      simp [ixV_lst hgd, hw]
      refine ⟨?_, by omega, fun i hi => hp i (List.mem_cons_of_mem _ hi)⟩
      have h1 : Bd 8 (((i + 1 : Nat) : Rat) / (p : Rat)) := (Bd.nat (n := 4) (by omega)).div (Bd.nat (n := 4) (by omega))
      simp at h1
      exact (hB.add h1).up (by omega)
    · rintro en' ⟨o, rfl, hB, _, _⟩
      have hf := avgP_fold (plc 0 hs) (plc 0 hs) 0 0 rfl
      rw [← List.range_eq_range', Rat.zero_add, ← avg_plc] at hf
      simp at hf
      simp at hB
      simp [hf] at hB ⊢
      have hm2 := mul_bd (a := ((avgF 0 0 hs).den : Int)) (b := (cnt c : Int)) (m := 96) (n := 4) hB.denAbs (by simp; omega) (by omega) (by omega)
      have hw := fun Q E => wdiv (avgF 0 0 hs) (cnt c) Q E (hB.up (by omega)) hcc
      subst hQ
      simp [frD, pr] at hw
      simp [frD, pr, hsum, hm2, hw, val]
  | rcp =>
    obtain rfl : s = q "reciprocal" := e2
    rw [W_B_cons]
    generalize hQ : seqQ _ _ _ _ _ = Q0
    have hv := rcp_plc hs 0
    have hv2 : val hs (cnt c) Ms.rcp = rcpF 0 hs := rfl
    cases hp : plc 0 hs with
    | nil =>
      rw [hp] at hv
      simp [ok_string, q, os_inj]
      subst hQ
      simp [hv2, hv, zero_frD, pr]
    | cons p ps =>
      rw [hp] at hv
      have hp0 := hpb p (by rw [hp]; exact List.mem_cons_self)
      have e1 := one_div_frD (n := p) (by omega)
      simp [ok_string, q, os_inj]
      subst hQ
      simp [hv2, hv, e1, pr]
  | prec n =>
    obtain ⟨n1, n7⟩ := hm
    obtain rfl : s = q "precision" := e2
    rw [W_B_cons]
    generalize hQ : seqQ _ _ _ _ _ = Q0
    simp [ok_string, q, os_inj]
    subst hQ
    rw [seqQ_next]
    rw [W_B_cons]
    generalize hQ : seqQ _ _ _ _ _ = Q0
    simp
    subst hQ
    rw [seqQ_next]
    rw [W_B_cons]
    generalize hQ : seqQ _ _ _ _ _ = Q0
    simp [ok_string, q, os_inj, -evS_for, -W_B_cons, -evI_r1]
    subst hQ
    rw [seqQ_next]
    rw [W_B_cons]
    generalize hQ : seqQ _ _ _ _ _ = Q0
    simp
    rw [hgood (n := n) (s := q "precision") (by simp) (by simp [msD])]
    subst hQ
    rw [seqQ_next]
    rw [W_B_cons]
    generalize hQ : seqQ _ _ _ _ _ = Q0
    simp [ok_string, q, os_inj, msD, hcn, hsum, hwn (cnt (hs.take n)) n n7]
    subst hQ
    simp [val]
  | rcl n =>
    obtain ⟨n1, n7⟩ := hm
    obtain rfl : s = q "recall" := e2
    rw [W_B_cons]
    generalize hQ : seqQ _ _ _ _ _ = Q0
    simp [ok_string, q, os_inj]
    subst hQ
    rw [seqQ_next]
    rw [W_B_cons]
    generalize hQ : seqQ _ _ _ _ _ = Q0
    simp
    subst hQ
    rw [seqQ_next]
    rw [W_B_cons]
    generalize hQ : seqQ _ _ _ _ _ = Q0
    simp [ok_string, q, os_inj, -evS_for, -W_B_cons, -evI_r1]
    subst hQ
    rw [seqQ_next]
    rw [W_B_cons]
    generalize hQ : seqQ _ _ _ _ _ = Q0
    simp
    rw [hgood (n := n) (s := q "recall") (by simp) (by simp [msD])]
    subst hQ
    rw [seqQ_next]
    rw [W_B_cons]
    generalize hQ : seqQ _ _ _ _ _ = Q0
    simp [ok_string, q, os_inj, msD, hcn, hsum, hwn (cnt (hs.take n)) (cnt c) hcc]
    subst hQ
    simp [val]
  | gain n =>
    obtain ⟨n1, n7⟩ := hm
    obtain rfl : s = q "gain" := e2
    rw [W_B_cons]
    generalize hQ : seqQ _ _ _ _ _ = Q0
    simp [ok_string, q, os_inj]
    subst hQ
    rw [seqQ_next]
    rw [W_B_cons]
    generalize hQ : seqQ _ _ _ _ _ = Q0
    simp
    subst hQ
    rw [seqQ_next]
    rw [W_B_cons]
    generalize hQ : seqQ _ _ _ _ _ = Q0
    simp [ok_string, q, os_inj, -evS_for, -W_B_cons, -evI_r1]
    subst hQ
    rw [seqQ_next]
    rw [W_B_cons]
    generalize hQ : seqQ _ _ _ _ _ = Q0
    simp
    rw [hgood (n := n) (s := q "gain") (by simp) (by simp [msD])]
    subst hQ
    rw [seqQ_next]
    rw [W_B_cons]
    generalize hQ : seqQ _ _ _ _ _ = Q0
    simp [ok_string, q, os_inj]
    subst hQ
    rw [seqQ_next]
    rw [W_B_cons]
    generalize hQ : seqQ _ _ _ _ _ = Q0
    rw [evS_for]
    simp only [evI_ex, W_bind, evE_var, W_varM', List.getElem?_cons_succ, List.getElem?_cons_zero, W_depOf_d, W_rd_d, items_list, W_ofO_some, W_pure]
    refine wloop _ _ 7 9 _ _ (fun p hp => ?_) ?_ rfl (by simp) (by decide) fun o => ?_
    · have := hpb p (List.mem_filter.mp hp).1
      omega
    · rw [hcn]
      exact Nat.le_trans (cnt_le _) (by simp; omega)
    rw [hinvg n]
    simp only [List.set_cons_succ, List.set_cons_zero]
    subst hQ
    rw [seqQ_next]
    rw [W_B_cons]
    generalize hQ : seqQ _ _ _ _ _ = Q0
    simp
    subst hQ
    rw [seqQ_next]
    rw [W_B_cons]
    generalize hQ : seqQ _ _ _ _ _ = Q0
    rw [evS_for, W_bind]
    refine W_r2 ?_
    have hmin : bltV .min2 [.int (n : Int), .int (cnt c : Int)] = some (.int ((min n (cnt c) : Nat) : Int)) := by
      unfold bltV
      dsimp only
      congr 2
      split <;> omega
    have hix1 : ixV (msD (Ms.gain n)) (.int 1) = some (.int (n : Int)) := by simp [msD]
    simp only [evE_int, evE_op, evE_blt, evE_ix, evE_var, evEs_cons, evEs_nil, W_bind, W_rd2, W_pD, W_rd_d, W_varM', List.getElem?_cons_succ, List.getElem?_cons_zero, hix1, W_pO, hsum, W_rds_cons, W_rds_nil, W_pure, hmin, binV_add, add_ii]
    refine ⟨1, min n (cnt c) + 1, rfl, by simp, by omega, by omega, ?_⟩
    refine wloop _ _ 10 9 _ _ (fun p hp => ?_) (by simp; omega) rfl (by simp) (by decide) fun o => ?_
    · rw [List.mem_range'_1] at hp
      omega
    rw [Nat.add_sub_cancel, ← mostF_inv]
    simp only [List.set_cons_succ, List.set_cons_zero]
    subst hQ
    rw [seqQ_next]
    simp [ok_string, q, os_inj, val]
  | share n =>
    obtain ⟨n1, n7⟩ := hm
    obtain rfl : s = q "share" := e2
    rw [W_B_cons]
    generalize hQ : seqQ _ _ _ _ _ = Q0
    simp [ok_string, q, os_inj]
    subst hQ
    rw [seqQ_next]
    rw [W_B_cons]
    generalize hQ : seqQ _ _ _ _ _ = Q0
    simp
    subst hQ
    rw [seqQ_next]
    rw [W_B_cons]
    generalize hQ : seqQ _ _ _ _ _ = Q0
    simp [ok_string, q, os_inj, -evS_for, -W_B_cons, -evI_r1]
    subst hQ
    rw [seqQ_next]
    rw [W_B_cons]
    generalize hQ : seqQ _ _ _ _ _ = Q0
    simp
    rw [hgood (n := n) (s := q "share") (by simp) (by simp [msD])]
    subst hQ
    rw [seqQ_next]
    rw [W_B_cons]
    generalize hQ : seqQ _ _ _ _ _ = Q0
    simp [ok_string, q, os_inj]
    subst hQ
    rw [seqQ_next]
    rw [W_B_cons]
    generalize hQ : seqQ _ _ _ _ _ = Q0
    rw [evS_for]
    simp only [evI_ex, W_bind, evE_var, W_varM', List.getElem?_cons_succ, List.getElem?_cons_zero, W_depOf_d, W_rd_d, items_list, W_ofO_some, W_pure]
    refine wloop _ _ 7 9 _ _ (fun p hp => ?_) ?_ rfl (by simp) (by decide) fun o => ?_
    · have := hpb p (List.mem_filter.mp hp).1
      omega
    · rw [hcn]
      exact Nat.le_trans (cnt_le _) (by simp; omega)
    rw [hinvg n]
    simp only [List.set_cons_succ, List.set_cons_zero]
    subst hQ
    rw [seqQ_next]
    rw [W_B_cons]
    generalize hQ : seqQ _ _ _ _ _ = Q0
    simp
    subst hQ
    rw [seqQ_next]
    rw [W_B_cons]
    generalize hQ : seqQ _ _ _ _ _ = Q0
    rw [evS_for, W_bind]
    refine W_r2 ?_
    have hmin : bltV .min2 [.int (n : Int), .int (cnt c : Int)] = some (.int ((min n (cnt c) : Nat) : Int)) := by
      unfold bltV
      dsimp only
      congr 2
      split <;> omega
    have hix1 : ixV (msD (Ms.share n)) (.int 1) = some (.int (n : Int)) := by simp [msD]
    simp only [evE_int, evE_op, evE_blt, evE_ix, evE_var, evEs_cons, evEs_nil, W_bind, W_rd2, W_pD, W_rd_d, W_varM', List.getElem?_cons_succ, List.getElem?_cons_zero, hix1, W_pO, hsum, W_rds_cons, W_rds_nil, W_pure, hmin, binV_add, add_ii]
    refine ⟨1, min n (cnt c) + 1, rfl, by simp, by omega, by omega, ?_⟩
    refine wloop _ _ 10 9 _ _ (fun p hp => ?_) (by simp; omega) rfl (by simp) (by decide) fun o => ?_
    · rw [List.mem_range'_1] at hp
      omega
    rw [Nat.add_sub_cancel, ← mostF_inv]
    simp only [List.set_cons_succ, List.set_cons_zero]
    subst hQ
    rw [seqQ_next]
    have hg : Bd 40 (gainF 0 (hs.take n)) := (gainF_bd (hs.take n) 0 (by simp; omega)).up (by simp; omega)
    have hm2 := mostF_bd (n := min n (cnt c)) (by omega)
    have p1 : 0 ≤ mostF (min n (cnt c)) := gainF_nonneg _ _
    have ed := div_frD (x := gainF 0 (hs.take n)) p1
    have p2 : 0 ≤ (mostF (min n (cnt c))).num := Rat.num_nonneg.mpr p1
    have m1 := mul_bd (a := (gainF 0 (hs.take n)).num) (b := ((mostF (min n (cnt c))).den : Int)) hg.1 hm2.denAbs (by omega) (by omega)
    have m2 := mul_bd (a := ((gainF 0 (hs.take n)).den : Int)) (b := (mostF (min n (cnt c))).num) hg.denAbs hm2.1 (by omega) (by omega)
    have w := fun Q E => W_frac (N := N) (k := k + 1) (h := h) (E := E) T.e49 hN (t := (gainF 0 (hs.take n)).num * ((mostF (min n (cnt c))).den : Int)) (b := ((gainF 0 (hs.take n)).den : Int) * (mostF (min n (cnt c))).num) (Int.mul_nonneg (by omega) p2) (by rw [Int.natAbs_mul]; exact Nat.le_trans (mul_le_pow hg.denAbs hm2.1) (big_le (by omega))) (Q := Q)
    rw [ed] at w
    simp [frD, pr] at w
    simp [ok_string, q, os_inj, val, frD, pr, m1, m2, w]
end
end Jr

set_option Elab.async false
set_option linter.all false
set_option maxRecDepth 100000
set_option maxHeartbeats 2000000
namespace Jr
open PySem
open scoped Rat
/-- what a collection gives -/
structure CO (l : List Str) : Prop where
  col : isColl (.tuple (l.map D.str)) = true
  nd : l.Nodup
  shr : Shr (.tuple (l.map D.str))
  h7 : l.length ≤ 7
  pos : 1 ≤ l.length
  asc : l.Pairwise sLt
  short : ∀ x ∈ l, x.length ≤ 3
theorem Coll.co {l : List Str} {m : Nat} (c : Coll m l) (hm : m ≤ 7) : CO l :=
  ⟨coll_ok c hm, coll_nodup c, shr_coll c, Nat.le_trans c.le hm, c.pos, c.asc, fun x hx => Nat.le_trans (coll_short c hx) (by decide)⟩
/-- a drawn measure's number is at most 5 -/
def Ms5 : Ms → Prop
  | .avg => True
  | .rcp => True
  | .prec n => 1 ≤ n ∧ n ≤ 5
  | .rcl n => 1 ≤ n ∧ n ≤ 5
  | .gain n => 1 ≤ n ∧ n ≤ 5
  | .share n => 1 ≤ n ∧ n ≤ 5
theorem Ms5.ok {m : Ms} (h : Ms5 m) : MsOk m := by
  cases m with
  | avg => trivial
  | rcp => trivial
  | prec n => exact ⟨h.1, by have := h.2; omega⟩
  | rcl n => exact ⟨h.1, by have := h.2; omega⟩
  | gain n => exact ⟨h.1, by have := h.2; omega⟩
  | share n => exact ⟨h.1, by have := h.2; omega⟩
structure TD (Φ : Nat → Option Def) : Prop where
  e8 : Φ 8 = some d__law_draw
  e7 : Φ 7 = some d__law_pick
theorem St.set {ns : List Int} {b : Nat} {h : Hh} (s : St ns b h) : ∃ c, h = h.set 1 c := by
  have l := s.len
  exact ⟨h[1], by simp⟩
section
variable {Φ : Nat → Option Def} {N k : Nat} {ns : List Int} {b : Nat} {h : Hh} {E : Nat → Hh → Prop}
theorem W_measureM (e8 : Φ 8 = some d__law_draw) (e7 : Φ 7 = some d__law_pick) (e : Φ 1 = some d__law_measure) (s : St ns b h) (hb : b ≤ 900000) (hns : ns.length ≤ 63) {Q : Vl → Hh → Prop}
    (q : ∀ m c, Ms5 m → St ns (b + 4) (h.set 1 c) → Q (.d (msD m)) (h.set 1 c)) : W (callF Φ N (k + 3) 1 [.r 0, .r 1]) h Q E := by
  rw [W_call e rfl]
  simp [d__law_measure, ok_string, sizeLine]
  refine W_pick e8 e7 s (by omega) hns (by simp) fun y c hy s1 => ?_
  have up : ∀ {c}, St ns (b + 2) (h.set 1 c) → St ns (b + 4) (h.set 1 c) := fun ⟨z1, st, z2, z3⟩ => ⟨z1, st, z2, by omega⟩
  have fin2 : ∀ x, (∀ n : Nat, 1 ≤ n → n ≤ 5 → ∃ m, Ms5 m ∧ msD m = .tuple [.str x, .int (n : Int)]) → W (callF Φ N (k + 2) 8 [Vl.r 0, Vl.r 1, Vl.d (D.int 5)]) (h.set 1 c) (fun w h2 => W (rd w) h2 (fun b h4 => W (pO (addV (D.int 1) b)) h4 (fun a h1 => W (asD a) h1 (fun x_1 h1 => Q (Vl.d (D.tuple [D.str x, x_1])) (h1.take h.length)) fun c h1 => E c (List.take h.length h1)) fun c h1 => E c (List.take h.length h1)) fun c h1 => E c (List.take h.length h1)) fun c h1 => E c (List.take h.length h1) := fun x hx => by
    refine W_draw e8 s1 (by omega) (by decide) hns fun r c2 r0 r1 s2 => ?_
    simp at s2 ⊢
    obtain ⟨m, hm, em⟩ := hx (r + 1).toNat (by omega) (by omega)
    have e2 : (((r + 1).toNat : Nat) : Int) = 1 + r := by omega
    rw [e2] at em
    rw [← em]
    exact q _ c2 hm s2
  simp only [List.mem_cons, List.not_mem_nil, or_false] at hy
  rcases hy with rfl | rfl | rfl | rfl | rfl | rfl | rfl <;> simp
  · simpa [msD] using q .avg c trivial (up s1)
  · simpa [msD] using q .avg c trivial (up s1)
  · simpa [msD] using q .rcp c trivial (up s1)
  · exact fin2 _ fun n h1 h2 => ⟨.prec n, ⟨h1, h2⟩, rfl⟩
  · exact fin2 _ fun n h1 h2 => ⟨.rcl n, ⟨h1, h2⟩, rfl⟩
  · exact fin2 _ fun n h1 h2 => ⟨.gain n, ⟨h1, h2⟩, rfl⟩
  · exact fin2 _ fun n h1 h2 => ⟨.share n, ⟨h1, h2⟩, rfl⟩
theorem W_full (e8 : Φ 8 = some d__law_draw) (e : Φ 51 = some d__law_full) (s : St ns b h) (hb : b ≤ 800000) (hns : ns.length ≤ 63) {cs : List D} (hl : cs.length ≤ 8) {Q : Vl → Hh → Prop}
    (q : ∀ (co : List Bool) c, co.length = cs.length → St ns (b + 20) (h.set 1 c) → Q (.d (rowD co)) (h.set 1 c)) : W (callF Φ N (k + 2) 51 [.r 0, .r 1, .d (.tuple cs)]) h Q E := by
  rw [W_call e rfl]
  simp [d__law_full]
  unfold compE
  have l2 := s.len
  refine (W_compSt (P := fun d => ∃ x : Bool, d = bd x) (s := 2) s fun x hx h' b' st' lb => ?_).imp ?_
  · rw [W_turn]
    simp
    refine W_draw e8 st' (by omega) (by decide) hns fun r c2 r0 r1 s2 => ?_
    simp
    refine ⟨?_, ⟨c2, rfl⟩, s2⟩
    have : r = 0 ∨ r = 1 := by omega
    rcases this with rfl | rfl
    · exact Or.inl rfl
    · exact Or.inr rfl
  · rintro ys h1 ⟨q1, q2, c2, rfl, s2⟩
    obtain ⟨co, rfl⟩ : ∃ co : List Bool, ys = co.map bd := by
      clear q2
      induction ys with
      | nil => exact ⟨[], rfl⟩
      | cons y ys ih =>
        obtain ⟨x, rfl⟩ := q1 y List.mem_cons_self
        obtain ⟨co, rfl⟩ := ih fun z hz => q1 z (List.mem_cons_of_mem _ hz)
        exact ⟨x :: co, rfl⟩
    simp at q2 ⊢
    exact q co c2 q2 (s2.more (by omega))
theorem W_valueG (T : TR Φ) (tw : TW Φ) (e47 : Φ 47 = some d_require_complete) (e : Φ 50 = some d_value) (hN : bigN < N) {l r : List Str} {co : List Bool} {m : Ms} (cl : CO l) (hl : co.length = l.length) (hr : Rk l r) (hm : MsOk m) {Q : Vl → Hh → Prop} :
    W (callF Φ N (k + 5) 50 [.d (.tuple (l.map .str)), .d (rowD co), .d (.tuple (r.map .str)), .d (msD m)]) h Q E ↔ Q (.d (frD (valC l co r m))) h := by
  have hrl := hr.le
  have h7 := cl.h7
  have := W_value (N := N) (k := k) (h := h) (E := E) T tw e47 e hN (c := .tuple (l.map .str)) (x := rowD co) (r := .tuple (r.map .str)) (m := msD m) cl.shr (fe_tup (by simp; omega)) (Q := Q)
  simp only [cl.col, validJ_row, clen_tuple, List.length_map, hl, hr.ok, isMeasure_ms hm, unSs_str, unJ_row, com_all, unC_row, unM_ms, decide_true, if_true] at this
  exact this
end
theorem W_asg1 {h : Hh} {E : Nat → Hh → Prop} {Q : SO → Hh → Prop} {i : Nat} {v : D} {en : Env} {f : Env → M SO} (hi : i < en.length) : W (M.bind (ofO (asgT (.nm i) (.d v) en)) f) h Q E ↔ W (f (en.set i (some (.d v)))) h Q E := by
  rw [W_bind, asgT_nm, if_pos hi, W_ofO_some]
theorem plain_frD {x : Rat} {n : Nat} : plain (n + 2) (frD x) = true := by
  unfold frD pr plain
  rw [Bool.and_eq_true]
  refine ⟨by simp, plains_of fun y hy => ?_⟩
  simp at hy
  rcases hy with rfl | rfl <;> simp [plain]
end Jr

set_option Elab.async false
set_option linter.all false
set_option maxRecDepth 100000
set_option maxHeartbeats 2000000
namespace Jr
open PySem
open scoped Rat
/-! ### bounds -/
def rvD (p : List Bool × Rat) : D := .tuple [rowD p.1, frD p.2]
def rowsV (l : List Str) (js : List (Option Bool)) (r : List Str) (m : Ms) : List (List Bool × Rat) := (comps js).map fun c => (c, valC l c r m)
def lowF (rows : List (List Bool × Rat)) (x : List Bool × Rat) : List Bool × Rat := rows.foldl (fun b p => if p.2 < b.2 then p else b) x
def highF (rows : List (List Bool × Rat)) (x : List Bool × Rat) : List Bool × Rat := rows.foldl (fun b p => if b.2 < p.2 then p else b) x
/-- the first row with the least, with the greatest value -/
def lowR (rows : List (List Bool × Rat)) : List Bool × Rat := lowF rows (rows.headD ([], 0))
def highR (rows : List (List Bool × Rat)) : List Bool × Rat := highF rows (rows.headD ([], 0))
theorem lowF_mem : ∀ (rows : List (List Bool × Rat)) (x : List Bool × Rat), lowF rows x = x ∨ lowF rows x ∈ rows
  | [], x => Or.inl rfl
  | p :: ps, x => by
    unfold lowF
    rw [List.foldl_cons]
    rcases lowF_mem ps (if p.2 < x.2 then p else x) with e | e
    · unfold lowF at e
      rw [e]
      split
      · exact Or.inr List.mem_cons_self
      · exact Or.inl rfl
    · exact Or.inr (List.mem_cons_of_mem _ e)
theorem highF_mem : ∀ (rows : List (List Bool × Rat)) (x : List Bool × Rat), highF rows x = x ∨ highF rows x ∈ rows
  | [], x => Or.inl rfl
  | p :: ps, x => by
    unfold highF
    rw [List.foldl_cons]
    rcases highF_mem ps (if x.2 < p.2 then p else x) with e | e
    · unfold highF at e
      rw [e]
      split
      · exact Or.inr List.mem_cons_self
      · exact Or.inl rfl
    · exact Or.inr (List.mem_cons_of_mem _ e)
theorem lowF_le : ∀ (rows : List (List Bool × Rat)) (x : List Bool × Rat), (lowF rows x).2 ≤ x.2 ∧ ∀ p ∈ rows, (lowF rows x).2 ≤ p.2
  | [], x => ⟨Rat.le_refl, by simp⟩
  | p :: ps, x => by
    have ih := lowF_le ps (if p.2 < x.2 then p else x)
    have e : lowF (p :: ps) x = lowF ps (if p.2 < x.2 then p else x) := rfl
    rw [e]
    by_cases h : p.2 < x.2
    · rw [if_pos h] at ih ⊢
      refine ⟨Rat.le_trans ih.1 (Rat.le_of_lt h), fun z hz => ?_⟩
      rcases List.mem_cons.mp hz with rfl | hz
      · exact ih.1
      · exact ih.2 z hz
    · rw [if_neg h] at ih ⊢
      refine ⟨ih.1, fun z hz => ?_⟩
      rcases List.mem_cons.mp hz with rfl | hz
      · exact Rat.le_trans ih.1 (Rat.not_lt.mp h)
      · exact ih.2 z hz
theorem highF_ge : ∀ (rows : List (List Bool × Rat)) (x : List Bool × Rat), x.2 ≤ (highF rows x).2 ∧ ∀ p ∈ rows, p.2 ≤ (highF rows x).2
  | [], x => ⟨Rat.le_refl, by simp⟩
  | p :: ps, x => by
    have ih := highF_ge ps (if x.2 < p.2 then p else x)
    have e : highF (p :: ps) x = highF ps (if x.2 < p.2 then p else x) := rfl
    rw [e]
    by_cases h : x.2 < p.2
    · rw [if_pos h] at ih ⊢
      refine ⟨Rat.le_trans (Rat.le_of_lt h) ih.1, fun z hz => ?_⟩
      rcases List.mem_cons.mp hz with rfl | hz
      · exact ih.1
      · exact ih.2 z hz
    · rw [if_neg h] at ih ⊢
      refine ⟨ih.1, fun z hz => ?_⟩
      rcases List.mem_cons.mp hz with rfl | hz
      · exact Rat.le_trans (Rat.not_lt.mp h) ih.1
      · exact ih.2 z hz
theorem headD_mem {α : Type} {l : List α} {d : α} (h : l ≠ []) : l.headD d ∈ l := by
  cases l with
  | nil => exact absurd rfl h
  | cons x r => exact List.mem_cons_self
theorem lowR_mem {rows : List (List Bool × Rat)} (h : rows ≠ []) : lowR rows ∈ rows := by
  rcases lowF_mem rows (rows.headD ([], 0)) with e | e
  · unfold lowR; rw [e]; exact headD_mem h
  · exact e
theorem highR_mem {rows : List (List Bool × Rat)} (h : rows ≠ []) : highR rows ∈ rows := by
  rcases highF_mem rows (rows.headD ([], 0)) with e | e
  · unfold highR; rw [e]; exact headD_mem h
  · exact e
theorem lowR_le {rows : List (List Bool × Rat)} : ∀ p ∈ rows, (lowR rows).2 ≤ p.2 := (lowF_le rows _).2
theorem highR_ge {rows : List (List Bool × Rat)} : ∀ p ∈ rows, p.2 ≤ (highR rows).2 := (highF_ge rows _).2
theorem comps_ne : ∀ js : List (Option Bool), comps js ≠ []
  | [] => by simp [comps]
  | e :: js => by
    have := comps_ne js
    rcases e with _ | b <;> simp [comps, opts, this]
theorem rowsV_ne {l : List Str} {js : List (Option Bool)} {r : List Str} {m : Ms} : rowsV l js r m ≠ [] := by
  unfold rowsV
  intro h
  exact comps_ne js (List.map_eq_nil_iff.mp h)
/-- least, greatest value -/
def leastV (l : List Str) (js : List (Option Bool)) (r : List Str) (m : Ms) : Rat := (lowR (rowsV l js r m)).2
def greatV (l : List Str) (js : List (Option Bool)) (r : List Str) (m : Ms) : Rat := (highR (rowsV l js r m)).2
def leastC (l : List Str) (js : List (Option Bool)) (r : List Str) (m : Ms) : List Bool := (lowR (rowsV l js r m)).1
def greatC (l : List Str) (js : List (Option Bool)) (r : List Str) (m : Ms) : List Bool := (highR (rowsV l js r m)).1
theorem leastC_spec {l : List Str} {js : List (Option Bool)} {r : List Str} {m : Ms} : leastC l js r m ∈ comps js ∧ valC l (leastC l js r m) r m = leastV l js r m := by
  have h := lowR_mem (rowsV_ne (l := l) (js := js) (r := r) (m := m))
  unfold leastC leastV
  generalize lowR (rowsV l js r m) = p at *
  obtain ⟨c, hc, rfl⟩ := List.mem_map.mp h
  exact ⟨hc, rfl⟩
theorem greatC_spec {l : List Str} {js : List (Option Bool)} {r : List Str} {m : Ms} : greatC l js r m ∈ comps js ∧ valC l (greatC l js r m) r m = greatV l js r m := by
  have h := highR_mem (rowsV_ne (l := l) (js := js) (r := r) (m := m))
  unfold greatC greatV
  generalize highR (rowsV l js r m) = p at *
  obtain ⟨c, hc, rfl⟩ := List.mem_map.mp h
  exact ⟨hc, rfl⟩
theorem leastV_le {l : List Str} {js : List (Option Bool)} {r : List Str} {m : Ms} {c : List Bool} (h : c ∈ comps js) : leastV l js r m ≤ valC l c r m :=
  lowR_le (c, valC l c r m) (List.mem_map.mpr ⟨c, h, rfl⟩)
theorem greatV_ge {l : List Str} {js : List (Option Bool)} {r : List Str} {m : Ms} {c : List Bool} (h : c ∈ comps js) : valC l c r m ≤ greatV l js r m :=
  highR_ge (c, valC l c r m) (List.mem_map.mpr ⟨c, h, rfl⟩)
theorem leastV_eq {l : List Str} {js : List (Option Bool)} {r : List Str} {m : Ms} {x : Rat} (h1 : ∃ c ∈ comps js, valC l c r m = x) (h2 : ∀ c ∈ comps js, x ≤ valC l c r m) : leastV l js r m = x := by
  obtain ⟨c, hc, rfl⟩ := h1
  refine Rat.le_antisymm (leastV_le hc) ?_
  have := leastC_spec (l := l) (js := js) (r := r) (m := m)
  rw [← this.2]
  exact h2 _ this.1
/-! all different values, ascending -/
def insR (x : Rat) : List Rat → List Rat
  | [] => [x]
  | y :: l => if x < y then x :: y :: l else if x = y then y :: l else y :: insR x l
def posR (vs : List Rat) : List Rat := vs.foldr insR []
theorem insR_mem (x z : Rat) : ∀ l : List Rat, z ∈ insR x l ↔ z = x ∨ z ∈ l
  | [] => by simp [insR]
  | y :: l => by
    unfold insR
    split
    · simp
    · split
      · rename_i h; subst h; simp
      · simp [insR_mem x z l]
        constructor
        · rintro (h | h | h) <;> simp [h]
        · rintro (h | h | h) <;> simp [h]
theorem insR_sorted (x : Rat) : ∀ {l : List Rat}, l.Pairwise (· < ·) → (insR x l).Pairwise (· < ·)
  | [], _ => by simp [insR]
  | y :: l, h => by
    obtain ⟨h1, h2⟩ := List.pairwise_cons.mp h
    unfold insR
    split
    · rename_i hx
      refine List.pairwise_cons.mpr ⟨fun z hz => ?_, h⟩
      rcases List.mem_cons.mp hz with rfl | hz
      · exact hx
      · have := h1 z hz; grind
    · split
      · exact h
      · rename_i hx hne
        refine List.pairwise_cons.mpr ⟨fun z hz => ?_, insR_sorted x h2⟩
        rcases (insR_mem x z l).mp hz with rfl | hz
        · grind
        · exact h1 z hz
theorem posR_mem (z : Rat) : ∀ vs : List Rat, z ∈ posR vs ↔ z ∈ vs
  | [] => by simp [posR]
  | v :: vs => by
    have := posR_mem z vs
    unfold posR at *
    rw [List.foldr_cons, insR_mem, this]
    simp
theorem posR_sorted : ∀ vs : List Rat, (posR vs).Pairwise (· < ·)
  | [] => by simp [posR]
  | v :: vs => insR_sorted v (posR_sorted vs)
/-- a strictly ascending list is told by its members -/
theorem sorted_unique : ∀ {a b : List Rat}, a.Pairwise (· < ·) → b.Pairwise (· < ·) → (∀ z, z ∈ a ↔ z ∈ b) → a = b
  | [], [], _, _, _ => rfl
  | [], y :: b, _, _, h => by have := (h y).mpr List.mem_cons_self; cases this
  | x :: a, [], _, _, h => by have := (h x).mp List.mem_cons_self; cases this
  | x :: a, y :: b, ha, hb, h => by
    obtain ⟨a1, a2⟩ := List.pairwise_cons.mp ha
    obtain ⟨b1, b2⟩ := List.pairwise_cons.mp hb
    have hxy : x = y := by
      have h1 := (h x).mp List.mem_cons_self
      have h2 := (h y).mpr List.mem_cons_self
      rcases List.mem_cons.mp h1 with e | h1
      · exact e
      · rcases List.mem_cons.mp h2 with e | h2
        · exact e.symm
        · have := b1 x h1; have := a1 y h2; grind
    subst hxy
    rw [sorted_unique a2 b2 fun z => ?_]
    have := h z
    rw [List.mem_cons, List.mem_cons] at this
    constructor
    · intro hz
      rcases this.mp (Or.inr hz) with rfl | q
      · have := a1 z hz; grind
      · exact q
    · intro hz
      rcases this.mpr (Or.inr hz) with rfl | q
      · have := b1 z hz; grind
      · exact q
theorem posR_low {vs : List Rat} {low : Rat} (hm : low ∈ vs) (hl : ∀ v ∈ vs, low ≤ v) : posR vs = low :: posR (vs.filter fun v => decide (v ≠ low)) := by
  refine sorted_unique (posR_sorted _) (List.pairwise_cons.mpr ⟨fun z hz => ?_, posR_sorted _⟩) fun z => ?_
  · rw [posR_mem, List.mem_filter] at hz
    have h1 := hl z hz.1
    have h2 : z ≠ low := by simpa using hz.2
    grind
  · rw [posR_mem, List.mem_cons, posR_mem, List.mem_filter]
    by_cases e : z = low
    · subst e; simp [hm]
    · simp [e]
def possV (l : List Str) (js : List (Option Bool)) (r : List Str) (m : Ms) : List Rat := posR ((comps js).map fun c => valC l c r m)
theorem valC_bd {l r : List Str} {c : List Bool} {m : Ms} (h7 : l.length ≤ 7) (hc : c.length = l.length) (hr : Rk l r) (hm : MsOk m) : Bd 90 (valC l c r m) := by
  have := hr.le
  have := cnt_le c
  exact val_bd (by rw [hits_len]; omega) (by omega) hm
structure TBd (Φ : Nat → Option Def) : Prop extends TR Φ, TW Φ where
  e22 : Φ 22 = some d_all_completions
  e57 : Φ 57 = some d_is_below
  e58 : Φ 58 = some d_values_of
  e60 : Φ 60 = some d_checked_values
section
variable {Φ : Nat → Option Def} {N k : Nat} {h : Hh} {E : Nat → Hh → Prop}
theorem W_values_of (T : TBd Φ) (hN : bigN < N) {l r : List Str} {js : List (Option Bool)} {m : Ms} (cl : CO l) (hl : js.length = l.length) (hr : Rk l r) (hm : MsOk m) {Q : Vl → Hh → Prop} :
    W (callF Φ N (k + 5) 58 [.d (.tuple (l.map .str)), .d (.tuple (js.map ej)), .d (.tuple (r.map .str)), .d (msD m)]) h Q E ↔ Q (.d (.list ((rowsV l js r m).map rvD))) h := by
  refine W.rule ?_
  rw [W_call T.e58 rfl]
  have h7 := cl.h7
  simp [d_values_of, W_all_completions T.e22 (js := js) (by omega)]
  rw [W_mapT (fun c => rvD (c, valC l c r m)) depOk_none]
  · simp [rowsV, Function.comp_def]
  · intro c hc
    rw [W_turn]
    have hcl := comps_mem_len hc
    have := fun Q E => W_value_of (N := N) (k := k) (h := h) (E := E) T.toTW hN (l := l) (r := r) (c := c) (m := m) cl.nd (by omega) h7 hr hm (Q := Q)
    simp [this, rvD]
theorem W_checked (T : TBd Φ) (hN : bigN < N) {c x r m : D} (hs : Shr c) (hf : Fe r) {Q : Vl → Hh → Prop} :
    W (callF Φ N (k + 6) 60 [.d c, .d x, .d r, .d m]) h Q E ↔ if isColl c = true then (if validJ (clen c) x = true then (if isRank (unSs c) r = true then (if isMeasure m = true then Q (.d (.list ((rowsV (unSs c) (unJ x) (unSs r) (unM m)).map rvD))) h else E 41 h) else E 40 h) else E 20 h) else E 12 h := by
  rw [W_call T.e60 rfl]
  have h1 := fun Q E => W_require_judgements (N := N) (k := k + 1) (h := h) (E := E) T.toTJ (x := x) hs (Q := Q)
  cases hc : isColl c
  · simp [d_checked_values, h1, hc]
  · cases hv : validJ (clen c) x
    · simp [d_checked_values, h1, hc, hv]
    · obtain ⟨js, rfl, hl, h7⟩ := collJ hc hv
      obtain ⟨cs, rfl⟩ := isColl_strs hc
      simp at hl h7
      have h2 := fun Q E => W_require_ranking (N := N) (k := k + 3) (h := h) (E := E) T.e14 T.e45 (cs := cs) (x := r) hf (Q := Q)
      cases hr : isRank cs r
      · simp [d_checked_values, h1, hc, hl, h2, hr]
      · have h3 := fun Q E => W_require_measure (N := N) (k := k + 2) (h := h) (E := E) T.toTRm (x := m) (Q := Q)
        cases hm : isMeasure m
        · simp [d_checked_values, h1, hc, hl, h2, hr, h3, hm]
        · obtain ⟨rs, rfl, hR⟩ := isRank_of hr
          obtain ⟨ms, mk, rfl⟩ := isMeasure_of hm
          have cl : CO cs := by
            have hh := hc
            simp only [isColl, Bool.and_eq_true] at hh
            have ha := (asc_iff cs).mp hh.2
            have hl : cs.length ≤ 7 := by simpa using hh.1.1.2
            have hp : 1 ≤ cs.length := by simpa using hh.1.1.1
            refine ⟨hc, List.Pairwise.imp (S := fun a b => a ≠ b) (fun {a b} h e => by subst e; exact sLt_irrefl h) ha, hs, hl, hp, ha, fun z hz => ?_⟩
            have hd := List.all_eq_true.mp hh.1.2 (.str z) (List.mem_map.mpr ⟨z, hz, rfl⟩)
            simp [isDoc] at hd
            exact hd.1.2
          have h5 := fun Q E => W_values_of (N := N) (k := k) (h := h) (E := E) T hN (l := cs) (r := rs) (js := js) (m := ms) cl (by simpa using hl) hR mk (Q := Q)
          simp [d_checked_values, h1, hc, hl, h2, hr, h3, hm, h5]
end
end Jr

set_option Elab.async false
set_option linter.all false
set_option maxRecDepth 100000
set_option maxHeartbeats 2000000
namespace Jr
open PySem
open scoped Rat
section
variable {Φ : Nat → Option Def} {N k : Nat} {h : Hh} {E : Nat → Hh → Prop}
theorem rows_ix0 {rows : List (List Bool × Rat)} (h : rows ≠ []) : ixV (.list (rows.map rvD)) (.int 0) = some (rvD (rows.headD ([], 0))) := by
  cases rows with
  | nil => exact absurd rfl h
  | cons x r => simp
@[simp] theorem rv_ix0 {p : List Bool × Rat} : ixV (rvD p) (.int 0) = some (rowD p.1) := by simp [rvD]
@[simp] theorem rv_ix1 {p : List Bool × Rat} : ixV (rvD p) (.int 1) = some (frD p.2) := by simp [rvD]
theorem W_lowest (e57 : Φ 57 = some d_is_below) (e : Φ 59 = some d_lowest) {rows : List (List Bool × Rat)} (hne : rows ≠ []) (hB : ∀ p ∈ rows, Bd 90 p.2) {Q : Vl → Hh → Prop} :
    W (callF Φ N (k + 2) 59 [.d (.list (rows.map rvD))]) h Q E ↔ Q (.d (rvD (lowR rows))) h := by
  refine W.rule ?_
  rw [W_call e rfl]
  simp only [d_lowest]
  have e0 : lowR rows = lowF rows (rows.headD ([], 0)) := rfl
  have hi := rows_ix0 hne
  have hB0 := hB _ (headD_mem (d := ([], 0)) hne)
  generalize rows.headD ([], 0) = x0 at *
  rw [W_B_cons]
  generalize hQ : seqQ _ _ _ _ _ = Q0
  simp [hi]
  subst hQ
  rw [seqQ_next]
  rw [W_B_cons]
  generalize hQ : seqQ _ _ _ _ _ = Q0
  simp
  refine W_forT (fun (s : List Bool × Rat) rest en => ∃ a, en = [some (.d (.list (rows.map rvD))), some (.d (rvD s)), a] ∧ Bd 90 s.2 ∧ ∀ p ∈ rest, Bd 90 p.2) (fun b p => if p.2 < b.2 then p else b) x0 ?_ ?_ ?_
  · exact ⟨none, rfl, hB0, hB⟩
  · rintro s p rest en ⟨a, rfl, hs, hp⟩
    have hp0 := hp p List.mem_cons_self
    have hpr : ∀ p ∈ rest, Bd 90 p.2 := fun q hq => hp q (List.mem_cons_of_mem _ hq)
    have hw := fun Q E => W_belowF (N := N) (k := k) (h := h) (E := E) e57 bel_1 (x := p.2) (y := s.2) hp0 hs (by omega) (by omega) (Q := Q)
    by_cases hlt : p.2 < s.2
    · simp [hw, hlt]
      exact ⟨hp0, fun a b hm => hpr (a, b) hm⟩
    · simp [hw, hlt]
      exact ⟨hs, fun a b hm => hpr (a, b) hm⟩
  · rintro en ⟨a, rfl, _, _⟩
    subst hQ
    rw [seqQ_next]
    simp [e0]
    rfl
theorem W_highest (e57 : Φ 57 = some d_is_below) (e : Φ 61 = some d_highest) {rows : List (List Bool × Rat)} (hne : rows ≠ []) (hB : ∀ p ∈ rows, Bd 90 p.2) {Q : Vl → Hh → Prop} :
    W (callF Φ N (k + 2) 61 [.d (.list (rows.map rvD))]) h Q E ↔ Q (.d (rvD (highR rows))) h := by
  refine W.rule ?_
  rw [W_call e rfl]
  simp only [d_highest]
  have e0 : highR rows = highF rows (rows.headD ([], 0)) := rfl
  have hi := rows_ix0 hne
  have hB0 := hB _ (headD_mem (d := ([], 0)) hne)
  generalize rows.headD ([], 0) = x0 at *
  rw [W_B_cons]
  generalize hQ : seqQ _ _ _ _ _ = Q0
  simp [hi]
  subst hQ
  rw [seqQ_next]
  rw [W_B_cons]
  generalize hQ : seqQ _ _ _ _ _ = Q0
  simp
  refine W_forT (fun (s : List Bool × Rat) rest en => ∃ a, en = [some (.d (.list (rows.map rvD))), some (.d (rvD s)), a] ∧ Bd 90 s.2 ∧ ∀ p ∈ rest, Bd 90 p.2) (fun b p => if b.2 < p.2 then p else b) x0 ?_ ?_ ?_
  · exact ⟨none, rfl, hB0, hB⟩
  · rintro s p rest en ⟨a, rfl, hs, hp⟩
    have hp0 := hp p List.mem_cons_self
    have hpr : ∀ p ∈ rest, Bd 90 p.2 := fun q hq => hp q (List.mem_cons_of_mem _ hq)
    have hw := fun Q E => W_belowF (N := N) (k := k) (h := h) (E := E) e57 bel_1 (x := s.2) (y := p.2) hs hp0 (by omega) (by omega) (Q := Q)
    by_cases hlt : s.2 < p.2
    · simp [hw, hlt]
      exact ⟨hp0, fun a b hm => hpr (a, b) hm⟩
    · simp [hw, hlt]
      exact ⟨hs, fun a b hm => hpr (a, b) hm⟩
  · rintro en ⟨a, rfl, _, _⟩
    subst hQ
    rw [seqQ_next]
    simp [e0]
    rfl
theorem rowsV_bd {l r : List Str} {js : List (Option Bool)} {m : Ms} (h7 : l.length ≤ 7) (hl : js.length = l.length) (hr : Rk l r) (hm : MsOk m) : ∀ p ∈ rowsV l js r m, Bd 90 p.2 := by
  intro p hp
  obtain ⟨c, hc, rfl⟩ := List.mem_map.mp hp
  exact valC_bd h7 (by rw [comps_mem_len hc, hl]) hr hm
/-- the ladder of the checks of judgements, a ranking and a measure -/
def lad4 (c x r m : D) (P : Prop) (F : Nat → Prop) : Prop := if isColl c = true then (if validJ (clen c) x = true then (if isRank (unSs c) r = true then (if isMeasure m = true then P else F 41) else F 40) else F 20) else F 12
theorem lad4_args {c x r m : D} {P P' : Prop} {F : Nat → Prop} (h : ∀ (l : List Str) (js : List (Option Bool)) (rs : List Str) (ms : Ms), isColl (.tuple (l.map .str)) = true → js.length = l.length → Rk l rs → MsOk ms → c = .tuple (l.map .str) → x = .tuple (js.map ej) → r = .tuple (rs.map .str) → m = msD ms → (P ↔ P')) : lad4 c x r m P F ↔ lad4 c x r m P' F := by
  unfold lad4
  cases hc : isColl c
  · simp
  · cases hv : validJ (clen c) x
    · simp
    · cases hr : isRank (unSs c) r
      · simp
      · cases hm : isMeasure m
        · simp
        · simp
          obtain ⟨js, rfl, hl, h7⟩ := collJ hc hv
          obtain ⟨cs, rfl⟩ := isColl_strs hc
          simp at hl hr
          obtain ⟨rs, rfl, hR⟩ := isRank_of hr
          obtain ⟨ms, mk, rfl⟩ := isMeasure_of hm
          exact h cs js rs ms hc hl hR mk rfl rfl rfl rfl
theorem co_of {cs : List Str} (hc : isColl (.tuple (cs.map D.str)) = true) (hs : Shr (.tuple (cs.map D.str))) : CO cs := by
  have hh := hc
  simp only [isColl, Bool.and_eq_true] at hh
  have ha := (asc_iff cs).mp hh.2
  have hl : cs.length ≤ 7 := by simpa using hh.1.1.2
  have hp : 1 ≤ cs.length := by simpa using hh.1.1.1
  refine ⟨hc, List.Pairwise.imp (S := fun a b => a ≠ b) (fun {a b} h e => by subst e; exact sLt_irrefl h) ha, hs, hl, hp, ha, fun z hz => ?_⟩
  have hd := List.all_eq_true.mp hh.1.2 (.str z) (List.mem_map.mpr ⟨z, hz, rfl⟩)
  simp [isDoc] at hd
  exact hd.1.2
theorem W_checkedL (T : TBd Φ) (hN : bigN < N) {c x r m : D} (hs : Shr c) (hf : Fe r) {Q : Vl → Hh → Prop} :
    W (callF Φ N (k + 6) 60 [.d c, .d x, .d r, .d m]) h Q E ↔ lad4 c x r m (Q (.d (.list ((rowsV (unSs c) (unJ x) (unSs r) (unM m)).map rvD))) h) fun n => E n h := W_checked T hN hs hf
theorem W_least (T : TBd Φ) (e59 : Φ 59 = some d_lowest) (e : Φ 62 = some d_least) (hN : bigN < N) {c x r m : D} (hs : Shr c) (hf : Fe r) {Q : Vl → Hh → Prop} :
    W (callF Φ N (k + 7) 62 [.d c, .d x, .d r, .d m]) h Q E ↔ lad4 c x r m (Q (.d (frD (leastV (unSs c) (unJ x) (unSs r) (unM m)))) h) fun n => E n h := by
  rw [W_call e rfl]
  have h1 := fun Q E => W_checkedL (N := N) (k := k) (h := h) (E := E) T hN (c := c) (x := x) (r := r) (m := m) hs hf (Q := Q)
  simp [d_least, h1]
  refine lad4_args ?_
  rintro l js rs ms hc hl hR mk rfl rfl rfl rfl
  have cl := co_of hc hs
  have h2 := fun Q E => W_lowest (N := N) (k := k + 4) (h := h) (E := E) T.e57 e59 rowsV_ne (rowsV_bd (js := js) cl.h7 hl hR mk) (Q := Q)
  simp [h2, leastV]
theorem W_greatest (T : TBd Φ) (e61 : Φ 61 = some d_highest) (e : Φ 63 = some d_greatest) (hN : bigN < N) {c x r m : D} (hs : Shr c) (hf : Fe r) {Q : Vl → Hh → Prop} :
    W (callF Φ N (k + 7) 63 [.d c, .d x, .d r, .d m]) h Q E ↔ lad4 c x r m (Q (.d (frD (greatV (unSs c) (unJ x) (unSs r) (unM m)))) h) fun n => E n h := by
  rw [W_call e rfl]
  have h1 := fun Q E => W_checkedL (N := N) (k := k) (h := h) (E := E) T hN (c := c) (x := x) (r := r) (m := m) hs hf (Q := Q)
  simp [d_greatest, h1]
  refine lad4_args ?_
  rintro l js rs ms hc hl hR mk rfl rfl rfl rfl
  have cl := co_of hc hs
  have h2 := fun Q E => W_highest (N := N) (k := k + 4) (h := h) (E := E) T.e57 e61 rowsV_ne (rowsV_bd (js := js) cl.h7 hl hR mk) (Q := Q)
  simp [h2, greatV]
theorem W_least_completion (T : TBd Φ) (e59 : Φ 59 = some d_lowest) (e : Φ 64 = some d_least_completion) (hN : bigN < N) {c x r m : D} (hs : Shr c) (hf : Fe r) {Q : Vl → Hh → Prop} :
    W (callF Φ N (k + 7) 64 [.d c, .d x, .d r, .d m]) h Q E ↔ lad4 c x r m (Q (.d (rowD (leastC (unSs c) (unJ x) (unSs r) (unM m)))) h) fun n => E n h := by
  rw [W_call e rfl]
  have h1 := fun Q E => W_checkedL (N := N) (k := k) (h := h) (E := E) T hN (c := c) (x := x) (r := r) (m := m) hs hf (Q := Q)
  simp [d_least_completion, h1]
  refine lad4_args ?_
  rintro l js rs ms hc hl hR mk rfl rfl rfl rfl
  have cl := co_of hc hs
  have h2 := fun Q E => W_lowest (N := N) (k := k + 4) (h := h) (E := E) T.e57 e59 rowsV_ne (rowsV_bd (js := js) cl.h7 hl hR mk) (Q := Q)
  simp [h2, leastC]
theorem W_greatest_completion (T : TBd Φ) (e61 : Φ 61 = some d_highest) (e : Φ 65 = some d_greatest_completion) (hN : bigN < N) {c x r m : D} (hs : Shr c) (hf : Fe r) {Q : Vl → Hh → Prop} :
    W (callF Φ N (k + 7) 65 [.d c, .d x, .d r, .d m]) h Q E ↔ lad4 c x r m (Q (.d (rowD (greatC (unSs c) (unJ x) (unSs r) (unM m)))) h) fun n => E n h := by
  rw [W_call e rfl]
  have h1 := fun Q E => W_checkedL (N := N) (k := k) (h := h) (E := E) T hN (c := c) (x := x) (r := r) (m := m) hs hf (Q := Q)
  simp [d_greatest_completion, h1]
  refine lad4_args ?_
  rintro l js rs ms hc hl hR mk rfl rfl rfl rfl
  have cl := co_of hc hs
  have h2 := fun Q E => W_highest (N := N) (k := k + 4) (h := h) (E := E) T.e57 e61 rowsV_ne (rowsV_bd (js := js) cl.h7 hl hR mk) (Q := Q)
  simp [h2, greatC]
theorem W_possible (T : TBd Φ) (e59 : Φ 59 = some d_lowest) (e : Φ 66 = some d_possible_values) (hN : bigN < N) {c x r m : D} (hs : Shr c) (hf : Fe r) {Q : Vl → Hh → Prop} :
    W (callF Φ N (k + 7) 66 [.d c, .d x, .d r, .d m]) h Q E ↔ lad4 c x r m (Q (.d (.list ((possV (unSs c) (unJ x) (unSs r) (unM m)).map frD))) h) fun n => E n h := by
  have h1 := fun h E Q => W_checkedL (N := N) (k := k) (h := h) (E := E) T hN (c := c) (x := x) (r := r) (m := m) hs hf (Q := Q)
  by_cases hg : isColl c = true ∧ validJ (clen c) x = true ∧ isRank (unSs c) r = true ∧ isMeasure m = true
  · obtain ⟨hc, hv, hr, hm⟩ := hg
    have e1 : ∀ (P : Prop) F, lad4 c x r m P F = P := fun P F => by simp [lad4, hc, hv, hr, hm]
    rw [e1]
    simp only [e1] at h1
    obtain ⟨js, rfl, hl, h7⟩ := collJ hc hv
    obtain ⟨cs, rfl⟩ := isColl_strs hc
    simp at hl hr
    obtain ⟨rs, rfl, hR⟩ := isRank_of hr
    obtain ⟨ms, mk, rfl⟩ := isMeasure_of hm
    have cl := co_of hc hs
    simp only [unSs_str, unJ_ej, unM_ms] at h1 ⊢
    clear e1
    refine W.rule ?_
    rw [W_call e rfl]
    simp only [d_possible_values]
    rw [W_B_cons]
    generalize hQ : seqQ _ _ _ _ _ = Q0
    simp [h1]
    subst hQ
    rw [seqQ_next]
    have hB := rowsV_bd (js := js) cl.h7 hl hR mk
    have hlen : (rowsV cs js rs ms).length ≤ 1048576 := by
      have := comps_len js
      have := Nat.pow_le_pow_right (n := 2) (by omega) h7
      simp [rowsV]
      omega
    have hpos : possV cs js rs ms = posR ((rowsV cs js rs ms).map (·.2)) := by
      unfold possV rowsV
      rw [List.map_map]
      rfl
    generalize rowsV cs js rs ms = rows at *
    rw [W_B_cons]
    generalize hQ : seqQ _ _ _ _ _ = Q0
    simp
    rw [W_mapT (fun p => rvD p) depOk_none]
    rotate_left
    · intro p _
      rw [W_turn]
      simp
    subst hQ
    rw [seqQ_next]
    rw [W_B_cons]
    generalize hQ : seqQ _ _ _ _ _ = Q0
    rw [evS_whl]
    unfold whlE
    refine W_whl (fun n en h' => ∃ (rest : List (List Bool × Rat)) (found : List Rat) (a7 a8 : Option Vl), en = [some (.d (.tuple (cs.map D.str))), some (.d (.tuple (js.map ej))), some (.d (.tuple (rs.map D.str))), some (.d (msD ms)), some (.d (.list (rows.map rvD))), some (.d (.list (rest.map rvD))), some (.r h.length), a7, a8] ∧ h' = h ++ [.lst (found.map frD)] ∧ found ++ posR (rest.map (·.2)) = possV cs js rs ms ∧ (∀ p ∈ rest, Bd 90 p.2) ∧ n = rest.length ∧ found.length + rest.length ≤ 1048576) ?_ (m := rows.length) ?_ ?_
    · rintro n en h' ⟨rest, found, a7, a8, rfl, rfl, hf, hb, rfl, hln⟩
      by_cases hne : rest = []
      · subst hne
        simp
        subst hQ
        rw [seqQ_next]
        have hh : (h ++ [Cell.lst (found.map frD)])[h.length]? = some (.lst (found.map frD)) := by rw [List.getElem?_append_right (by omega)]; simp
        rw [W_B_cons, evS_frz, W_frz rfl hh, seqQ_next]
        simp [posR] at hf
        simp [hf]
      · have w := fun h E Q => W_lowest (N := N) (k := k + 4) (h := h) (E := E) T.e57 e59 hne hb (Q := Q)
        have hlm := lowR_mem hne
        have hll := lowR_le (rows := rest)
        simp [hne, w]
        refine ⟨by unfold sizeLine; omega, ?_⟩
        rw [W_filT (fun p : List Bool × Rat => decide (p.2 ≠ (lowR rest).2)) rvD depOk_none]
        rotate_left
        · intro p hp
          rw [W_turn]
          by_cases e : p.2 = (lowR rest).2 <;> simp [frD_eqv, e]
        have hsub : (rest.filter fun p => decide (p.2 ≠ (lowR rest).2)).length < rest.length := by
          refine List.length_filter_lt_length_iff_exists.mpr ⟨_, hlm, by simp⟩
        refine ⟨_, hsub, _, rfl, found ++ [(lowR rest).2], by simp, ?_, fun a b hm => hb (a, b) (List.mem_filter.mp hm).1, rfl, by rw [List.length_append, List.length_singleton]; omega⟩
        rw [← hf, List.append_assoc]
        congr 1
        rw [posR_low (low := (lowR rest).2) (List.mem_map.mpr ⟨_, hlm, rfl⟩) (fun v hv => by obtain ⟨p, hp, rfl⟩ := List.mem_map.mp hv; exact hll p hp)]
        rw [List.filter_map]
        rfl
    · exact ⟨rows, [], none, none, rfl, rfl, by rw [hpos]; rfl, hB, rfl, by simpa using hlen⟩
    · have := big_le (n := 20) (by omega)
      have : (2 : Nat) ^ 20 = 1048576 := by decide
      omega
  · rw [W_call e rfl]
    simp only [d_possible_values]
    rw [W_B_cons]
    generalize hQ : seqQ _ _ _ _ _ = Q0
    unfold lad4 at h1 ⊢
    cases hc : isColl c
    · simp [h1, hc]
    · cases hv : validJ (clen c) x
      · simp [h1, hc, hv]
      · cases hr : isRank (unSs c) r
        · simp [h1, hc, hv, hr]
        · cases hm : isMeasure m
          · simp [h1, hc, hv, hr, hm]
          · exact absurd ⟨hc, hv, hr, hm⟩ hg
end
end Jr

set_option Elab.async false
set_option linter.all false
set_option maxRecDepth 100000
set_option maxHeartbeats 2000000
namespace Jr
open PySem
/-! ### pools -/
def rkD (r : List Str) : D := .tuple (r.map .str)
def cntIn (rs : List (List Str)) (dep : Nat) (d : Str) : Nat := (rs.filter fun r => decide (d ∈ r.take dep)).length
def poolOf (cs : List Str) (rs : List (List Str)) (dep : Nat) : List Str := cs.filter fun d => decide (0 < cntIn rs dep d)
def openS (cs : List Str) (js : List (Option Bool)) : List Str := ((cs.zip js).filter fun p => p.2.isNone).map (·.1)
theorem openD_strs (cs : List Str) (js : List (Option Bool)) : openD (cs.map .str) js = (openS cs js).map .str := by
  unfold openD openS
  rw [List.zip_map_left, List.filter_map, List.map_map, List.map_map]
  rfl
def leftIn (cs : List Str) (js : List (Option Bool)) (rs : List (List Str)) (dep : Nat) : List Str := (poolOf cs rs dep).filter fun d => decide (d ∈ openS cs js)
theorem cut_takeS {r : List Str} {j : Nat} : cut (r.map D.str) none (some (j : Int)) = (r.take j).map D.str := by rw [cut_take, List.map_take]
@[simp] theorem ex_str {cs : List Str} {d : Str} : (∃ x, x ∈ cs.map D.str ∧ eqv x (.str d) = true) ↔ d ∈ cs := by
  constructor
  · rintro ⟨x, hx, e⟩
    obtain ⟨z, hz, rfl⟩ := List.mem_map.mp hx
    simp at e
    exact e ▸ hz
  · intro hd
    exact ⟨.str d, List.mem_map.mpr ⟨d, hd, rfl⟩, by simp⟩
def unL' : D → List D
  | .list xs => xs
  | _ => []
section
variable {Φ : Nat → Option Def} {N k : Nat} {h : Hh} {E : Nat → Hh → Prop}
theorem W_count_in (e : Φ 139 = some d_count_in) {rs : List (List Str)} {dep : Nat} {d : Str} {Q : Vl → Hh → Prop} :
    W (callF Φ N (k + 1) 139 [.d (.list (rs.map rkD)), .d (.int (dep : Int)), .d (.str d)]) h Q E ↔ Q (.d (.int (cntIn rs dep d : Nat))) h := by
  refine W.rule ?_
  rw [W_call e rfl]
  simp only [d_count_in]
  simp
  rw [W_filT (fun r : List Str => decide (d ∈ r.take dep)) (fun _ => .int 1) depOk_none]
  · simp [cntIn]
  · intro r _
    rw [W_turn]
    simp [rkD]
    rw [cut_takeS]
    simp only [ex_str]
    split <;> assumption
theorem W_pool_of (e139 : Φ 139 = some d_count_in) (e : Φ 141 = some d_pool_of) {cs : List Str} {rs : List (List Str)} {dep : Nat} {Q : Vl → Hh → Prop} :
    W (callF Φ N (k + 2) 141 [.d (.tuple (cs.map .str)), .d (.list (rs.map rkD)), .d (.int (dep : Int))]) h Q E ↔ Q (.d (.tuple ((poolOf cs rs dep).map .str))) h := by
  refine W.rule ?_
  rw [W_call e rfl]
  simp only [d_pool_of]
  simp
  rw [W_filT (fun d : Str => decide (0 < cntIn rs dep d)) D.str depOk_none]
  · simp [poolOf]
  · intro d _
    rw [W_turn]
    simp [W_count_in e139]
theorem W_require_depth (e6 : Φ 6 = some d_is_integer) (e : Φ 140 = some d_require_depth) {x : D} {Q : Vl → Hh → Prop} : W (callF Φ N (k + 2) 140 [.d x]) h Q E ↔ if isIntIn x 1 7 = true then Q (.d .none) h else E 138 h := by
  rw [W_call e rfl]
  cases hq : isIntIn x 1 7 <;> simp [d_require_depth, W_is_integer e6, hq]
end
structure TP (Φ : Nat → Option Def) : Prop extends TJ Φ where
  e14 : Φ 14 = some d_is_valid_ranking
  e23 : Φ 23 = some d_open_documents
  e80 : Φ 80 = some d_require_rankings
  e139 : Φ 139 = some d_count_in
  e140 : Φ 140 = some d_require_depth
  e141 : Φ 141 = some d_pool_of
def unRs (x : D) : List (List Str) := (unL' x).map unSs
def unI : D → Nat
  | .int i => i.toNat
  | _ => 0
@[simp] theorem unSs_rkD {r : List Str} : unSs (rkD r) = r := unSs_str
@[simp] theorem unRs_list {rs : List (List Str)} : unRs (.list (rs.map rkD)) = rs := by simp [unRs, unL', Function.comp_def]
section
variable {Φ : Nat → Option Def} {N k : Nat} {h : Hh} {E : Nat → Hh → Prop}
theorem W_pool (T : TP Φ) (e : Φ 147 = some d_pool) {c x d : D} (hs : Shr c) (hf : Few x) {Q : Vl → Hh → Prop} :
    W (callF Φ N (k + 4) 147 [.d c, .d x, .d d]) h Q E ↔ if isColl c = true then (if isRanks (unSs c) x = true then (if isIntIn d 1 7 = true then Q (.d (.tuple ((poolOf (unSs c) (unRs x) (unI d)).map .str))) h else E 138 h) else E 79 h) else E 12 h := by
  rw [W_call e rfl]
  have hrc := fun Q E => W_require_collection (N := N) (k := k) (h := h) (E := E) T.e9 T.e10 T.e11 T.e13 hs (Q := Q)
  cases hc : isColl c
  · simp [d_pool, hrc, hc]
  · obtain ⟨cs, rfl⟩ := isColl_strs hc
    have hrr := fun Q E => W_require_rankings (N := N) (k := k + 1) (h := h) (E := E) T.e14 T.e80 (cs := cs) hf (Q := Q)
    cases hx : isRanks cs x
    · simp [d_pool, hrc, hc, hrr, hx]
    · cases hd : isIntIn d 1 7
      · simp [d_pool, hrc, hc, hrr, hx, W_require_depth T.e6 T.e140, hd]
      · obtain ⟨rs, ex, _⟩ := ranks_of hx
        have ex : x = .list (rs.map rkD) := ex
        subst ex
        obtain ⟨n, rfl⟩ : ∃ n : Nat, d = .int (n : Int) := by
          rcases d with _ | _ | i | _ | _ | _
          case int =>
            simp [isIntIn] at hd
            exact ⟨i.toNat, by rw [Int.toNat_of_nonneg (by omega)]⟩
          all_goals cases hd
        have hp := fun Q E => W_pool_of (N := N) (k := k + 1) (h := h) (E := E) T.e139 T.e141 (cs := cs) (rs := rs) (dep := n) (Q := Q)
        simp [d_pool, hrc, hc, hrr, hx, W_require_depth T.e6 T.e140, hd, hp, unI]
theorem W_open_in_pool (T : TP Φ) (e : Φ 142 = some d_open_in_pool) {c j x d : D} (hs : Shr c) (hf : Few x) {Q : Vl → Hh → Prop} :
    W (callF Φ N (k + 5) 142 [.d c, .d j, .d x, .d d]) h Q E ↔ if isColl c = true then (if validJ (clen c) j = true then (if isRanks (unSs c) x = true then (if isIntIn d 1 7 = true then Q (.d (.list ((leftIn (unSs c) (unJ j) (unRs x) (unI d)).map .str))) h else E 138 h) else E 79 h) else E 20 h) else E 12 h := by
  rw [W_call e rfl]
  have hrj := fun Q E => W_require_judgements (N := N) (k := k) (h := h) (E := E) T.toTJ (x := j) hs (Q := Q)
  cases hc : isColl c
  · simp [d_open_in_pool, hrj, hc]
  · cases hv : validJ (clen c) j
    · simp [d_open_in_pool, hrj, hc, hv]
    · obtain ⟨js, rfl, hl, h7⟩ := collJ hc hv
      obtain ⟨cs, rfl⟩ := isColl_strs hc
      simp at hl
      have hrr := fun Q E => W_require_rankings (N := N) (k := k + 2) (h := h) (E := E) T.e14 T.e80 (cs := cs) hf (Q := Q)
      cases hx : isRanks cs x
      · simp [d_open_in_pool, hrj, hc, hl, hrr, hx]
      · cases hd : isIntIn d 1 7
        · simp [d_open_in_pool, hrj, hc, hl, hrr, hx, W_require_depth T.e6 T.e140, hd]
        · obtain ⟨rs, ex, _⟩ := ranks_of hx
          have ex : x = .list (rs.map rkD) := ex
          subst ex
          obtain ⟨n, rfl⟩ : ∃ n : Nat, d = .int (n : Int) := by
            rcases d with _ | _ | i | _ | _ | _
            case int =>
              simp [isIntIn] at hd
              exact ⟨i.toNat, by rw [Int.toNat_of_nonneg (by omega)]⟩
            all_goals cases hd
          have hp := fun Q E => W_pool_of (N := N) (k := k + 2) (h := h) (E := E) T.e139 T.e141 (cs := cs) (rs := rs) (dep := n) (Q := Q)
          have ho := fun Q E => W_open_documents (Φ := Φ) (N := N) (k := k + 3) (h := h) (E := E) T.e23 (cs := cs.map .str) (js := js) (Q := Q)
          have hm : ∀ {Q : List D → Hh → Prop} {E : Nat → Hh → Prop} {cf : CF} {a0 a1 a2 a3 : Option Vl}, W (compE cf (Jr.E.var 5) (Tg.nm 5) [5] (Jr.E.cmp COp.in_ (Jr.E.var 5) (Jr.E.var 4)) [a0, a1, a2, a3, some (.d (.tuple ((openS cs js).map .str))), none] none ((poolOf cs rs n).map .str)) h Q E ↔ Q ((leftIn cs js rs n).map .str) h := by
            intro Q E cf a0 a1 a2 a3
            rw [W_filT (fun d : Str => decide (d ∈ openS cs js)) D.str depOk_none]
            · rfl
            · intro d _
              rw [W_turn]
              simp
          rw [openD_strs] at ho
          simp [d_open_in_pool, hrj, hc, hl, hrr, hx, W_require_depth T.e6 T.e140, hd, hp, ho, hm, unI]
theorem W_is_judged (T : TP Φ) (e142 : Φ 142 = some d_open_in_pool) (e : Φ 148 = some d_is_judged) {c j x d : D} (hs : Shr c) (hf : Few x) {Q : Vl → Hh → Prop} :
    W (callF Φ N (k + 6) 148 [.d c, .d j, .d x, .d d]) h Q E ↔ if isColl c = true then (if validJ (clen c) j = true then (if isRanks (unSs c) x = true then (if isIntIn d 1 7 = true then Q (.d (.bool (leftIn (unSs c) (unJ j) (unRs x) (unI d)).isEmpty)) h else E 138 h) else E 79 h) else E 20 h) else E 12 h := by
  rw [W_call e rfl]
  have hm := fun Q E => W_open_in_pool (N := N) (k := k) (h := h) (E := E) T e142 (c := c) (j := j) (x := x) (d := d) hs hf (Q := Q)
  have he : ∀ l : List Str, eqvs (l.map D.str) [] = l.isEmpty := fun l => by cases l <;> simp
  simp [d_is_judged, hm, he]
end
/-! ### rows of a number and a document, sorted -/
def cD (p : Int × Str) : D := .tuple [.int p.1, .str p.2]
def unP : D → Int × Str
  | .tuple [.int a, .str b] => (a, b)
  | _ => (0, Str.empty)
@[simp] theorem unP_cD (p : Int × Str) : unP (cD p) = p := rfl
def srtP (ps : List (Int × Str)) : List (Int × Str) := ((ps.map cD).mergeSort leD).map unP
theorem alike_cD (p r : Int × Str) : PySem.W.alike (toP (cD p)) (toP (cD r)) = true := by
  simp [cD, toP, toPs, PySem.W.alike, PySem.W.alikeAll]
theorem srtP_map (ps : List (Int × Str)) : (srtP ps).map cD = (ps.map cD).mergeSort leD := by
  unfold srtP
  rw [List.map_map]
  conv => rhs; rw [← List.map_id ((ps.map cD).mergeSort leD)]
  refine List.map_congr_left fun x hx => ?_
  obtain ⟨p, _, rfl⟩ := List.mem_map.mp ((List.mergeSort_perm _ _).mem_iff.mp hx)
  rfl
theorem sortV_cD {ps : List (Int × Str)} (h : ps.length ≤ 1000) : sortV (ps.map cD) = some ((srtP ps).map cD) := by
  cases ps with
  | nil => simp [sortV, allI, srtP]
  | cons p ps =>
    have e1 : allI ((p :: ps).map cD) = none := rfl
    have e2 : allS ((p :: ps).map cD) = none := rfl
    unfold sortV
    rw [e1]
    dsimp only
    rw [e2]
    dsimp only
    rw [srtP_map]
    unfold sortT
    rw [if_pos]
    refine ⟨by simpa using h, ?_, ?_, ?_⟩
    · unfold alikeB
      rw [List.all_eq_true]
      intro x hx
      rw [List.all_eq_true]
      intro y hy
      obtain ⟨a, _, rfl⟩ := List.mem_map.mp hx
      obtain ⟨b, _, rfl⟩ := List.mem_map.mp hy
      exact alike_cD a b
    · rw [List.all_eq_true]
      intro x hx
      obtain ⟨a, _, rfl⟩ := List.mem_map.mp hx
      rfl
    · exact Nat.le_trans (deps_le.mpr fun x hx => by
        obtain ⟨a, _, rfl⟩ := List.mem_map.mp hx
        show dep (cD a) ≤ 1
        simp [cD]) (by omega)
def leftRows (rs : List (List Str)) (dep : Nat) (ds : List Str) : List (Int × Str) := ds.map fun d => (-((cntIn rs dep d : Nat) : Int), d)
def leftSorted (rs : List (List Str)) (dep : Nat) (ds : List Str) : List Str := (srtP (leftRows rs dep ds)).map (·.2)
section
variable {Φ : Nat → Option Def} {N k : Nat} {h : Hh} {E : Nat → Hh → Prop}
theorem W_left_to_judge (T : TP Φ) (e142 : Φ 142 = some d_open_in_pool) (e : Φ 149 = some d_left_to_judge) {c j x d : D} (hs : Shr c) (hf : Few x) {Q : Vl → Hh → Prop} :
    W (callF Φ N (k + 6) 149 [.d c, .d j, .d x, .d d]) h Q E ↔ if isColl c = true then (if validJ (clen c) j = true then (if isRanks (unSs c) x = true then (if isIntIn d 1 7 = true then Q (.d (.list ((leftSorted (unRs x) (unI d) (leftIn (unSs c) (unJ j) (unRs x) (unI d))).map .str))) h else E 138 h) else E 79 h) else E 20 h) else E 12 h := by
  rw [W_call e rfl]
  have hm := fun Q E => W_open_in_pool (N := N) (k := k) (h := h) (E := E) T e142 (c := c) (j := j) (x := x) (d := d) hs hf (Q := Q)
  simp only [d_left_to_judge]
  cases hc : isColl c
  · rw [W_B_cons]
    generalize hQ : seqQ _ _ _ _ _ = Q0
    simp [hm, hc]
  · cases hv : validJ (clen c) j
    · rw [W_B_cons]
      generalize hQ : seqQ _ _ _ _ _ = Q0
      simp [hm, hc, hv]
    · obtain ⟨cs, rfl⟩ := isColl_strs hc
      simp only [clen_tuple, List.length_map] at hv
      cases hx : isRanks cs x
      · rw [W_B_cons]
        generalize hQ : seqQ _ _ _ _ _ = Q0
        simp [hm, hc, hv, hx]
      · cases hd : isIntIn d 1 7
        · rw [W_B_cons]
          generalize hQ : seqQ _ _ _ _ _ = Q0
          simp [hm, hc, hv, hx, hd]
        · obtain ⟨rs, ex, _⟩ := ranks_of hx
          have ex : x = .list (rs.map rkD) := ex
          subst ex
          obtain ⟨n, rfl⟩ : ∃ n : Nat, d = .int (n : Int) := by
            rcases d with _ | _ | i | _ | _ | _
            case int =>
              simp [isIntIn] at hd
              exact ⟨i.toNat, by rw [Int.toNat_of_nonneg (by omega)]⟩
            all_goals cases hd
          simp only [hc, hx, hd, hv, unSs_str, unRs_list, unI, Int.toNat_natCast, clen_tuple, List.length_map, if_true]
          have h7 : cs.length ≤ 7 := by
            simp [isColl] at hc
            exact hc.1.1.2
          have hll : (leftIn cs (unJ j) rs n).length ≤ 7 := by
            unfold leftIn poolOf
            exact Nat.le_trans (List.length_filter_le _ _) (Nat.le_trans (List.length_filter_le _ _) h7)
          rw [W_B_cons]
          generalize hQ : seqQ _ _ _ _ _ = Q0
          simp [hm, hc, hv, hx, hd, unI]
          subst hQ
          rw [seqQ_next]
          generalize leftIn cs (unJ j) rs n = ds at *
          rw [W_B_cons]
          generalize hQ : seqQ _ _ _ _ _ = Q0
          simp
          rw [W_mapT (fun d : Str => cD (-((cntIn rs n d : Nat) : Int), d)) depOk_none]
          rotate_left
          · intro d _
            rw [W_turn]
            simp [W_count_in T.e139, cD]
          have hq : ds.map (fun d => cD (-((cntIn rs n d : Nat) : Int), d)) = (leftRows rs n ds).map cD := by simp [leftRows]
          rw [hq]
          simp [sortV_cD (ps := leftRows rs n ds) (by simp [leftRows]; omega)]
          subst hQ
          rw [seqQ_next]
          simp
          rw [W_mapT (fun p : Int × Str => .str p.2) depOk_none]
          · simp [leftSorted]
            exact Iff.rfl
          · rintro ⟨a, b⟩ _
            rw [W_turn]
            simp [cD]
def assumedJ (js : List (Option Bool)) : List (Option Bool) := js.map fun e => some (e.getD false)
theorem W_assumed (T : TJ Φ) (e : Φ 68 = some d_assumed) {c j : D} (hs : Shr c) {Q : Vl → Hh → Prop} :
    W (callF Φ N (k + 5) 68 [.d c, .d j]) h Q E ↔ if isColl c = true then (if validJ (clen c) j = true then Q (.d (.tuple ((assumedJ (unJ j)).map ej))) h else E 20 h) else E 12 h := by
  rw [W_call e rfl]
  have hrj := fun Q E => W_require_judgements (N := N) (k := k) (h := h) (E := E) T (x := j) hs (Q := Q)
  cases hc : isColl c
  · simp [d_assumed, hrj, hc]
  · cases hv : validJ (clen c) j
    · simp [d_assumed, hrj, hc, hv]
    · obtain ⟨js, rfl, hl, h7⟩ := collJ hc hv
      have hm : ∀ {Q : List D → Hh → Prop} {E : Nat → Hh → Prop} {cf : CF} {a0 a1 : Option Vl}, W (compE cf (Jr.E.ite (Jr.E.cmp COp.is (Jr.E.var 2) Jr.E.non) (Jr.E.int 0) (Jr.E.var 2)) (Tg.nm 2) [2] (Jr.E.bl true) [a0, a1, none] none (js.map ej)) h Q E ↔ Q ((assumedJ js).map ej) h := by
        intro Q E cf a0 a1
        rw [W_mapT (fun e : Option Bool => ej (some (e.getD false))) depOk_none]
        · simp [assumedJ]
          exact Iff.rfl
        · intro e _
          rw [W_turn]
          rcases e with _ | b <;> simp [ej, bd, b2]
      simp [d_assumed, hrj, hc, hl, hm]
end
end Jr

set_option Elab.async false
set_option linter.all false
/-! Jr: laws of the measures (no program here) -/
namespace Jr
theorem gainF_nonneg' : ∀ (hs : List Bool) (k : Nat), 0 ≤ gainF k hs
  | [], _ => Rat.le_refl
  | b :: r, k => Rat.add_nonneg (div_nonneg' (bq_nonneg b) (natq_nonneg _)) (gainF_nonneg' r (k + 1))
theorem avgF_nonneg : ∀ (hs : List Bool) (k f : Nat), 0 ≤ avgF k f hs
  | [], _, _ => Rat.le_refl
  | b :: r, k, f => by
    unfold avgF
    refine Rat.add_nonneg ?_ (avgF_nonneg r _ _)
    split
    · exact div_nonneg' (natq_nonneg _) (natq_nonneg _)
    · exact Rat.le_refl
theorem one_div_pos {n : Nat} (h : 0 < n) : (0 : Rat) < 1 / (n : Rat) := by
  rw [Rat.div_def, Rat.one_mul]
  exact Rat.inv_pos.mpr (natq_pos h)
theorem rcpF_nonneg : ∀ (hs : List Bool) (k : Nat), 0 ≤ rcpF k hs
  | [], _ => Rat.le_refl
  | b :: r, k => by
    unfold rcpF
    split
    · exact Rat.le_of_lt (one_div_pos (by omega))
    · exact rcpF_nonneg r _
theorem gain_append : ∀ (a b : List Bool) (k : Nat), gainF k (a ++ b) = gainF k a + gainF (k + a.length) b
  | [], b, k => by simp [gainF, Rat.zero_add]
  | x :: a, b, k => by
    rw [List.cons_append, gainF, gainF, gain_append a b (k + 1), Rat.add_assoc, List.length_cons]
    congr 3
    omega
theorem avg_append : ∀ (a b : List Bool) (k f : Nat), avgF k f (a ++ b) = avgF k f a + avgF (k + a.length) (f + cnt a) b
  | [], b, k, f => by simp [avgF, Rat.zero_add]
  | x :: a, b, k, f => by
    rw [List.cons_append, avgF, avgF, avg_append a b (k + 1), Rat.add_assoc, List.length_cons, cnt_cons]
    have e1 : k + 1 + a.length = k + (a.length + 1) := by omega
    have e2 : (if x = true then f + 1 else f) + cnt a = f + (cnt a + if x = true then 1 else 0) := by cases x <;> simp <;> omega
    rw [e1, e2]
theorem rcp_append : ∀ (a b : List Bool) (k : Nat), rcpF k a ≤ rcpF k (a ++ b)
  | [], b, k => rcpF_nonneg _ _
  | x :: a, b, k => by
    rw [List.cons_append, rcpF, rcpF]
    split
    · exact Rat.le_refl
    · exact rcp_append a b (k + 1)
theorem gainF_false (n k : Nat) : gainF k (List.replicate n false) = 0 := by
  induction n generalizing k with
  | zero => rfl
  | succ n ih => rw [List.replicate_succ, gainF, ih]; simp [bq, zero_div', Rat.add_zero]
theorem avgF_false (n k f : Nat) : avgF k f (List.replicate n false) = 0 := by
  induction n generalizing k with
  | zero => rfl
  | succ n ih => rw [List.replicate_succ, avgF]; simp [ih, Rat.add_zero]
theorem rcpF_false (n k : Nat) : rcpF k (List.replicate n false) = 0 := by
  induction n generalizing k with
  | zero => rfl
  | succ n ih => rw [List.replicate_succ, rcpF]; simp [ih]
theorem mostF_nonneg (n : Nat) : 0 ≤ mostF n := gainF_nonneg' _ _
theorem mostF_pos {n : Nat} (h : 0 < n) : 0 < mostF n := by
  cases n with
  | zero => omega
  | succ n =>
    unfold mostF
    rw [List.replicate_succ, gainF]
    have := gainF_nonneg' (List.replicate n true) (0 + 1)
    have h1 : (0 : Rat) < bq true / ((0 + 1 : Nat) : Rat) := one_div_pos (by omega)
    grind
theorem gain_shift : ∀ (j k : Nat), gainF (k + 1) (List.replicate j true) ≤ gainF k (List.replicate j true)
  | 0, _ => Rat.le_refl
  | j + 1, k => by
    rw [List.replicate_succ, gainF, gainF]
    have h1 := gain_shift j (k + 1)
    have h2 := one_div_mono (m := k + 1) (n := k + 1 + 1) (by omega) (by omega)
    simp only [bq, if_true]
    grind
theorem gain_le_rep : ∀ (hs : List Bool) (k j : Nat), cnt hs ≤ j → gainF k hs ≤ gainF k (List.replicate j true)
  | [], k, j, _ => gainF_nonneg' _ _
  | true :: r, k, 0, h => by simp at h
  | true :: r, k, j + 1, h => by
    rw [List.replicate_succ, gainF, gainF]
    have := gain_le_rep r (k + 1) j (by simp at h; omega)
    grind
  | false :: r, k, j, h => by
    rw [gainF]
    have h1 := gain_le_rep r (k + 1) j (by simpa using h)
    have h2 := gain_shift j k
    simp only [bq, zero_div']
    grind
theorem gain_le_most {hs : List Bool} {j : Nat} (h : cnt hs ≤ j) : gainF 0 hs ≤ mostF j := gain_le_rep hs 0 j h
theorem cnt_take_le (hs : List Bool) (n : Nat) : cnt (hs.take n) ≤ n := by
  have := cnt_le (hs.take n)
  simp at this
  omega
theorem cnt_take_cnt (hs : List Bool) (n : Nat) : cnt (hs.take n) ≤ cnt hs := by
  have := cnt_append (hs.take n) (hs.drop n)
  rw [List.take_append_drop] at this
  omega
theorem avgF_le_cnt : ∀ (hs : List Bool) (k f : Nat), f ≤ k → avgF k f hs ≤ (cnt hs : Rat)
  | [], _, _, _ => by simp [avgF]
  | b :: r, k, f, h => by
    rw [avgF, cnt_cons]
    cases b
    · have := avgF_le_cnt r (k + 1) f (by omega)
      simp
      grind
    · have h1 := avgF_le_cnt r (k + 1) (f + 1) (by omega)
      have h2 : ((f + 1 : Nat) : Rat) / ((k + 1 : Nat) : Rat) ≤ 1 := div_le_one (natq_pos (by omega)) (natq_le (by omega))
      simp only [if_true]
      have e : ((cnt r + 1 : Nat) : Rat) = (cnt r : Rat) + 1 := by simp
      rw [e]
      grind
theorem avgF_rep : ∀ (n k : Nat), avgF k k (List.replicate n true) = (n : Rat)
  | 0, _ => by simp [avgF]
  | n + 1, k => by
    rw [List.replicate_succ, avgF]
    simp only [if_true]
    rw [avgF_rep n (k + 1)]
    have h := natq_pos (n := k + 1) (by omega)
    have e1 : ((k + 1 : Nat) : Rat) / ((k + 1 : Nat) : Rat) = 1 := by grind
    rw [e1]
    have e : ((n + 1 : Nat) : Rat) = (n : Rat) + 1 := by simp
    rw [e]
    grind
theorem rcpF_le : ∀ (hs : List Bool) (k : Nat), rcpF k hs ≤ 1 / ((k + 1 : Nat) : Rat)
  | [], k => Rat.le_of_lt (one_div_pos (by omega))
  | b :: r, k => by
    rw [rcpF]
    split
    · exact Rat.le_refl
    · exact Rat.le_trans (rcpF_le r (k + 1)) (one_div_mono (by omega) (by omega))
theorem cnt0 {hs : List Bool} (h : cnt hs = 0) : hs = List.replicate hs.length false := by
  refine List.eq_replicate_iff.mpr ⟨rfl, fun b hb => ?_⟩
  cases b
  · rfl
  · have h1 : 0 < hs.count true := List.count_pos_iff.mpr hb
    have h2 : hs.count true = 0 := h
    omega
theorem one_div_one : (1 : Rat) / ((0 + 1 : Nat) : Rat) = 1 := by simp; grind
theorem avg_rcp : ∀ (hs : List Bool) (k : Nat), cnt hs ≤ 1 → avgF k 0 hs = rcpF k hs
  | [], _, _ => rfl
  | true :: r, k, h => by
    have : cnt r = 0 := by simp at h; omega
    have e := cnt0 this
    rw [avgF, rcpF, e, avgF_false]
    simp [Rat.add_zero]
  | false :: r, k, h => by
    rw [avgF, rcpF]
    simp
    rw [Rat.zero_add]
    exact avg_rcp r (k + 1) (by simpa using h)
/-! the ranking with the relevant ones first -/
def bestH (R z : Nat) : List Bool := List.replicate R true ++ List.replicate z false
theorem best_take (R z n : Nat) : (bestH R z).take n = List.replicate (min n R) true ++ List.replicate (min (n - R) z) false := by
  unfold bestH
  rw [List.take_append, List.take_replicate, List.take_replicate, List.length_replicate]
theorem best_gain (R z n : Nat) : gainF 0 ((bestH R z).take n) = mostF (min n R) := by
  rw [best_take, gain_append, gainF_false, Rat.add_zero]
  rfl
theorem best_cnt (R z n : Nat) : cnt ((bestH R z).take n) = min n R := by
  rw [best_take, cnt_append, cnt_rep, cnt_repF, Nat.add_zero]
theorem best_avg (R z : Nat) : avgF 0 0 (bestH R z) = (R : Rat) := by
  unfold bestH
  rw [avg_append, avgF_rep, avgF_false, Rat.add_zero]
theorem best_rcp {R z : Nat} (h : 0 < R) : rcpF 0 (bestH R z) = 1 := by
  cases R with
  | zero => omega
  | succ R =>
    unfold bestH
    rw [List.replicate_succ, List.cons_append, rcpF]
    exact one_div_one
/-- no ranking is better than that with the relevant ones first -/
theorem val_best {hs : List Bool} {R z : Nat} (h : cnt hs ≤ R) (m : Ms) : val hs R m ≤ val (bestH R z) R m := by
  cases m with
  | avg =>
    unfold val
    refine div_mono ?_ (natq_nonneg _)
    rw [best_avg]
    exact Rat.le_trans (avgF_le_cnt hs 0 0 (by omega)) (natq_le h)
  | rcp =>
    unfold val
    by_cases h0 : 0 < R
    · rw [best_rcp h0]
      have := rcpF_le hs 0
      rwa [one_div_one] at this
    · have : cnt hs = 0 := by omega
      rw [cnt0 this, rcpF_false]
      exact rcpF_nonneg _ _
  | prec n =>
    unfold val
    refine div_mono (natq_le ?_) (natq_nonneg _)
    rw [best_cnt]
    have := cnt_take_le hs n
    have := cnt_take_cnt hs n
    omega
  | rcl n =>
    unfold val
    refine div_mono (natq_le ?_) (natq_nonneg _)
    rw [best_cnt]
    have := cnt_take_le hs n
    have := cnt_take_cnt hs n
    omega
  | gain n =>
    show gainF 0 (hs.take n) ≤ gainF 0 ((bestH R z).take n)
    rw [best_gain]
    refine gain_le_most ?_
    have := cnt_take_le hs n
    have := cnt_take_cnt hs n
    omega
  | share n =>
    unfold val
    refine div_mono ?_ (mostF_nonneg _)
    rw [best_gain]
    refine gain_le_most ?_
    have := cnt_take_le hs n
    have := cnt_take_cnt hs n
    omega
theorem div_self' {a : Rat} (h : a ≠ 0) : a / a = 1 := by grind
/-- all but gain are at most 1 -/
theorem val_le_one {hs : List Bool} {R : Nat} (h : cnt hs ≤ R) (m : Ms) (hg : ∀ n, m ≠ .gain n) (hn : ∀ n, m = .prec n → 0 < n) : val hs R m ≤ 1 := by
  cases m with
  | avg => exact div_le_one' (natq_nonneg _) (Rat.le_trans (avgF_le_cnt hs 0 0 (by omega)) (natq_le h))
  | rcp =>
    have := rcpF_le hs 0
    rwa [one_div_one] at this
  | prec n => exact div_le_one' (natq_nonneg _) (natq_le (cnt_take_le hs n))
  | rcl n => exact div_le_one' (natq_nonneg _) (natq_le (Nat.le_trans (cnt_take_cnt hs n) h))
  | gain n => exact absurd rfl (hg n)
  | share n =>
    refine div_le_one' (mostF_nonneg _) (gain_le_most ?_)
    have := cnt_take_le hs n
    have := cnt_take_cnt hs n
    omega
theorem val_nonneg {hs : List Bool} {R : Nat} (m : Ms) : 0 ≤ val hs R m := by
  cases m with
  | avg => exact div_nonneg' (avgF_nonneg _ _ _) (natq_nonneg _)
  | rcp => exact rcpF_nonneg _ _
  | prec n => exact div_nonneg' (natq_nonneg _) (natq_nonneg _)
  | rcl n => exact div_nonneg' (natq_nonneg _) (natq_nonneg _)
  | gain n => exact gainF_nonneg' _ _
  | share n => exact div_nonneg' (gainF_nonneg' _ _) (mostF_nonneg _)
/-- a ranking that is continued is not worse -/
theorem val_append {a b : List Bool} {R : Nat} (m : Ms) : val a R m ≤ val (a ++ b) R m := by
  have ht : ∀ n, gainF 0 (a.take n) ≤ gainF 0 ((a ++ b).take n) := fun n => by
    rw [List.take_append, gain_append]
    have := gainF_nonneg' (b.take (n - a.length)) (0 + (a.take n).length)
    grind
  have hc : ∀ n, cnt (a.take n) ≤ cnt ((a ++ b).take n) := fun n => by
    rw [List.take_append, cnt_append]
    omega
  cases m with
  | avg =>
    refine div_mono ?_ (natq_nonneg _)
    rw [avg_append]
    have := avgF_nonneg b (0 + a.length) (0 + cnt a)
    grind
  | rcp => exact rcp_append a b 0
  | prec n => exact div_mono (natq_le (hc n)) (natq_nonneg _)
  | rcl n => exact div_mono (natq_le (hc n)) (natq_nonneg _)
  | gain n => exact ht n
  | share n => exact div_mono (ht n) (mostF_nonneg _)
theorem take_succ_cnt (hs : List Bool) (n : Nat) : cnt (hs.take n) ≤ cnt (hs.take (n + 1)) := by
  have := cnt_take_cnt (hs.take (n + 1)) n
  rw [List.take_take] at this
  rwa [Nat.min_eq_left (by omega)] at this
theorem take_succ_gain (hs : List Bool) (n : Nat) : gainF 0 (hs.take n) ≤ gainF 0 (hs.take (n + 1)) := by
  have e : hs.take (n + 1) = (hs.take (n + 1)).take n ++ (hs.take (n + 1)).drop n := (List.take_append_drop _ _).symm
  rw [List.take_take, Nat.min_eq_left (by omega)] at e
  rw [e, gain_append]
  have := gainF_nonneg' ((hs.take (n + 1)).drop n) (0 + (hs.take n).length)
  grind
end Jr

set_option Elab.async false
set_option linter.all false
set_option maxRecDepth 100000
set_option maxHeartbeats 2000000
namespace Jr
open PySem
/-! ### completions and further judgements -/
def fits (js : List (Option Bool)) (c : List Bool) : Prop := c.length = js.length ∧ ∀ (i : Nat) (b : Bool), js[i]? = some (some b) → c[i]? = some b
theorem comps_mem : ∀ {js : List (Option Bool)} {c : List Bool}, c ∈ comps js ↔ fits js c
  | [], c => by
    simp only [comps, List.mem_singleton, fits]
    constructor
    · rintro rfl; exact ⟨rfl, fun i b h => by simp at h⟩
    · rintro ⟨h, _⟩; exact List.eq_nil_of_length_eq_zero h
  | e :: js, [] => by
    simp only [comps, List.mem_flatMap, List.mem_map, fits]
    constructor
    · rintro ⟨b, _, z, _, h⟩; cases h
    · rintro ⟨h, _⟩; simp at h
  | e :: js, x :: c => by
    have ih := comps_mem (js := js) (c := c)
    simp only [comps, List.mem_flatMap, List.mem_map]
    constructor
    · rintro ⟨b, hb, z, hz, h⟩
      cases h
      obtain ⟨h1, h2⟩ := ih.mp hz
      refine ⟨by simp [h1], fun i y hy => ?_⟩
      cases i with
      | zero =>
        simp at hy
        subst hy
        simp [opts] at hb
        simp [hb]
      | succ i => simpa using h2 i y (by simpa using hy)
    · rintro ⟨h1, h2⟩
      refine ⟨x, ?_, c, ih.mpr ⟨by simpa using h1, fun i y hy => by simpa using h2 (i + 1) y (by simpa using hy)⟩, rfl⟩
      rcases e with _ | b
      · cases x <;> simp [opts]
      · have := h2 0 b (by simp)
        simp at this
        simp [opts, this]
theorem fits_set {js : List (Option Bool)} {c : List Bool} {i : Nat} {b : Bool} (hi : js[i]? = some none) : fits (js.set i (some b)) c ↔ fits js c ∧ c[i]? = some b := by
  have hil : i < js.length := by
    rcases Nat.lt_or_ge i js.length with q | q
    · exact q
    · rw [List.getElem?_eq_none q] at hi; cases hi
  constructor
  · rintro ⟨h1, h2⟩
    rw [List.length_set] at h1
    refine ⟨⟨h1, fun j y hy => ?_⟩, h2 i b (by rw [List.getElem?_set_self hil])⟩
    refine h2 j y ?_
    rw [List.getElem?_set_ne (by rintro rfl; rw [hi] at hy; cases hy)]
    exact hy
  · rintro ⟨⟨h1, h2⟩, h3⟩
    refine ⟨by rw [List.length_set]; exact h1, fun j y hy => ?_⟩
    by_cases e : i = j
    · subst e
      rw [List.getElem?_set_self hil] at hy
      cases hy
      exact h3
    · rw [List.getElem?_set_ne e] at hy
      exact h2 j y hy
theorem comps_set {js : List (Option Bool)} {c : List Bool} {i : Nat} {b : Bool} (hi : js[i]? = some none) : c ∈ comps (js.set i (some b)) ↔ c ∈ comps js ∧ c[i]? = some b := by
  rw [comps_mem, comps_mem, fits_set hi]
theorem comps_com (c : List Bool) : comps (comD c) = [c] := by
  induction c with
  | nil => rfl
  | cons b c ih =>
    show (opts (some b)).flatMap (fun x => (comps (comD c)).map (x :: ·)) = _
    rw [ih]
    rfl
/-- bounds are narrowed -/
theorem leastV_sub {l r : List Str} {js js' : List (Option Bool)} {m : Ms} (h : ∀ c ∈ comps js', c ∈ comps js) : leastV l js r m ≤ leastV l js' r m := by
  have hs := leastC_spec (l := l) (js := js') (r := r) (m := m)
  rw [← hs.2]
  exact leastV_le (h _ hs.1)
theorem greatV_sub {l r : List Str} {js js' : List (Option Bool)} {m : Ms} (h : ∀ c ∈ comps js', c ∈ comps js) : greatV l js' r m ≤ greatV l js r m := by
  have hs := greatC_spec (l := l) (js := js') (r := r) (m := m)
  rw [← hs.2]
  exact greatV_ge (h _ hs.1)
/-! unjudged documents -/
theorem openS_mem_iff : ∀ {l : List Str} {js : List (Option Bool)} {d : Str}, l.Nodup → js.length = l.length → (d ∈ openS l js ↔ d ∈ l ∧ js[l.idxOf d]? = some none)
  | [], _, d, _, _ => by simp [openS]
  | x :: l, [], d, _, h => by simp at h
  | x :: l, e :: js, d, nd, h => by
    obtain ⟨nx, nd'⟩ := List.nodup_cons.mp nd
    have ih := openS_mem_iff (l := l) (js := js) (d := d) nd' (by simpa using h)
    have hx : x ∉ openS l js := fun hm => nx ((openS_mem_iff (d := x) nd' (by simpa using h)).mp hm).1
    have ho : openS (x :: l) (e :: js) = if e.isNone then x :: openS l js else openS l js := by
      rcases e with _ | b <;> simp [openS]
    rw [ho]
    by_cases hd : x = d
    · subst hd
      have : (x :: l).idxOf x = 0 := by simp
      rw [this]
      rcases e with _ | b
      · simp
      · simp [hx]
    · have e2 : (x == d) = false := beq_eq_false_iff_ne.mpr hd
      have hne : ¬ d = x := fun q => hd q.symm
      have : (x :: l).idxOf d = l.idxOf d + 1 := by rw [List.idxOf_cons]; simp [e2]
      rw [this]
      rcases e with _ | b
      · simp [hne, ih]
      · simp [hne, ih]
theorem openS_nil : ∀ {l : List Str} {js : List (Option Bool)}, js.length = l.length → openS l js = [] → ∃ c, js = comD c
  | [], [], _, _ => ⟨[], rfl⟩
  | x :: l, [], h, _ => by simp at h
  | [], e :: js, h, _ => by simp at h
  | x :: l, e :: js, h, ho => by
    rcases e with _ | b
    · simp [openS] at ho
    · obtain ⟨c, rfl⟩ := openS_nil (l := l) (js := js) (by simpa using h) (by simpa [openS] using ho)
      exact ⟨b :: c, rfl⟩
theorem openS_set {l : List Str} {js : List (Option Bool)} {d z : Str} {b : Bool} (nd : l.Nodup) (hl : js.length = l.length) (hd : d ∈ l) : z ∈ openS l (js.set (l.idxOf d) (some b)) ↔ z ∈ openS l js ∧ z ≠ d := by
  rw [openS_mem_iff nd (by simpa using hl), openS_mem_iff nd hl]
  have hi : l.idxOf d < js.length := by rw [hl]; exact List.idxOf_lt_length_iff.mpr hd
  constructor
  · rintro ⟨h1, h2⟩
    have hne : z ≠ d := by
      rintro rfl
      rw [List.getElem?_set_self hi] at h2
      cases h2
    refine ⟨⟨h1, ?_⟩, hne⟩
    rw [List.getElem?_set_ne] at h2
    · exact h2
    · intro e
      have h3 : l.idxOf z < l.length := List.idxOf_lt_length_iff.mpr h1
      have h4 : l.idxOf d < l.length := by omega
      have e1 : l[l.idxOf d] = d := List.getElem_idxOf h4
      have e2 : l[l.idxOf z] = z := List.getElem_idxOf h3
      apply hne
      rw [← e1, ← e2]
      congr 1
      exact e.symm
  · rintro ⟨⟨h1, h2⟩, h3⟩
    refine ⟨h1, ?_⟩
    rw [List.getElem?_set_ne]
    · exact h2
    · intro e
      have h4 : l.idxOf d < l.length := by omega
      have h5 : l.idxOf z < l.length := List.idxOf_lt_length_iff.mpr h1
      have e1 : l[l.idxOf d] = d := List.getElem_idxOf h4
      have e2 : l[l.idxOf z] = z := List.getElem_idxOf h5
      apply h3
      rw [← e1, ← e2]
      congr 1
      exact e.symm
theorem zip_fst_sub {α β : Type} : ∀ (l : List α) (js : List β), ((l.zip js).map (·.1)).Sublist l
  | [], _ => by simp
  | x :: l, [] => by simp
  | x :: l, j :: js => by simpa using zip_fst_sub l js
theorem openS_nodup {l : List Str} {js : List (Option Bool)} (nd : l.Nodup) : (openS l js).Nodup := by
  unfold openS
  have h1 := zip_fst_sub l js
  exact List.Sublist.nodup ((List.filter_sublist).map _ |>.trans h1) nd
/-! more relevant documents do no harm to precision, reciprocal, gain -/
theorem bq_mono {a b : Bool} (h : a = true → b = true) : bq a ≤ bq b := by
  cases a
  · exact bq_nonneg b
  · rw [h rfl]; exact Rat.le_refl
theorem hits_mono_gain {f g : Str → Bool} (h : ∀ d, f d = true → g d = true) : ∀ (r : List Str) (k : Nat), gainF k (r.map f) ≤ gainF k (r.map g)
  | [], _ => Rat.le_refl
  | d :: r, k => by
    have h1 := hits_mono_gain h r (k + 1)
    have h2 := div_mono (bq_mono (h d)) (natq_nonneg (k + 1))
    simp only [List.map_cons, gainF]
    grind
theorem hits_mono_cnt {f g : Str → Bool} (h : ∀ d, f d = true → g d = true) : ∀ (r : List Str), cnt (r.map f) ≤ cnt (r.map g)
  | [] => Nat.le_refl _
  | d :: r => by
    have h1 := hits_mono_cnt h r
    have h2 := h d
    simp only [List.map_cons, cnt_cons]
    cases hf : f d
    · simp; omega
    · simp [h2 hf]; omega
theorem hits_mono_rcp {f g : Str → Bool} (h : ∀ d, f d = true → g d = true) : ∀ (r : List Str) (k : Nat), rcpF k (r.map f) ≤ rcpF k (r.map g)
  | [], _ => Rat.le_refl
  | d :: r, k => by
    simp only [List.map_cons, rcpF]
    by_cases hf : f d = true
    · rw [if_pos hf, if_pos (h d hf)]; exact Rat.le_refl
    · rw [if_neg hf]
      split
      · exact Rat.le_trans (rcpF_le _ _) (one_div_mono (by omega) (by omega))
      · exact hits_mono_rcp h r (k + 1)
def easy : Ms → Bool
  | .prec _ => true
  | .rcp => true
  | .gain _ => true
  | _ => false
theorem val_easy {l r : List Str} {c c' : List Bool} {m : Ms} (he : easy m = true) (h : ∀ d, hit l c d = true → hit l c' d = true) : valC l c r m ≤ valC l c' r m := by
  have ht : ∀ n, (r.map (hit l c)).take n = (r.take n).map (hit l c) := fun n => by rw [List.map_take]
  have ht' : ∀ n, (r.map (hit l c')).take n = (r.take n).map (hit l c') := fun n => by rw [List.map_take]
  cases m with
  | avg => cases he
  | rcp => exact hits_mono_rcp h r 0
  | prec n =>
    refine div_mono (natq_le ?_) (natq_nonneg _)
    unfold hits
    rw [ht, ht']
    exact hits_mono_cnt h _
  | rcl n => cases he
  | gain n =>
    show gainF 0 ((hits l c r).take n) ≤ gainF 0 ((hits l c' r).take n)
    unfold hits
    rw [ht, ht']
    exact hits_mono_gain h _ 0
  | share n => cases he
/-- all unjudged ones not relevant: the least -/
theorem least_assumed {l r : List Str} {js : List (Option Bool)} {m : Ms} (he : easy m = true) : leastV l js r m = valC l (js.map fun e => e.getD false) r m := by
  have hf : (js.map fun e => e.getD false) ∈ comps js := comps_mem.mpr ⟨by simp, fun i b h => by simp [h]⟩
  refine leastV_eq ⟨_, hf, rfl⟩ fun c hc => ?_
  refine val_easy he fun d hd => ?_
  obtain ⟨h1, h2⟩ := comps_mem.mp hc
  unfold hit at hd ⊢
  generalize l.idxOf d = i at *
  rw [List.getD_eq_getElem?_getD, List.getElem?_map] at hd
  cases hj : js[i]? with
  | none => rw [hj] at hd; cases hd
  | some e =>
    rw [hj] at hd
    rcases e with _ | b
    · cases hd
    · simp at hd
      subst hd
      rw [List.getD_eq_getElem?_getD, h2 i true hj]
      rfl
end Jr

set_option Elab.async false
set_option linter.all false
set_option maxRecDepth 100000
set_option maxHeartbeats 2000000
namespace Jr
open PySem
open scoped Rat
theorem lad4_good {l r : List Str} {js : List (Option Bool)} {m : Ms} {P : Prop} {F : Nat → Prop} (cl : CO l) (hl : js.length = l.length) (hr : Rk l r) (hm : MsOk m) : lad4 (.tuple (l.map .str)) (.tuple (js.map ej)) (.tuple (r.map .str)) (msD m) P F ↔ P := by
  simp [lad4, cl.col, hl, hr.ok, isMeasure_ms hm]
theorem rk_fe {l r : List Str} (cl : CO l) (hr : Rk l r) : Fe (.tuple (r.map D.str)) := fe_tup (by have := hr.le; have := cl.h7; simp; omega)
theorem any_frD {x : Rat} {ps : List Rat} : (ps.map frD).any (fun z => eqv z (frD x)) = decide (x ∈ ps) := by
  induction ps with
  | nil => rfl
  | cons p ps ih =>
    rw [List.map_cons, List.any_cons, ih, frD_eqv]
    by_cases e : p = x
    · subst e; simp
    · have : ¬ x = p := fun q => e q.symm
      simp [e, this]
theorem deps_frD (ps : List Rat) : deps (ps.map frD) ≤ 1 := by
  induction ps with
  | nil => simp
  | cons p ps ih => simp; omega
theorem inV_frD {x : Rat} {ps : List Rat} : inV (frD x) (.list (ps.map frD)) = some (decide (x ∈ ps)) := by
  rw [inV_list, if_pos, any_frD]
  have := deps_frD ps
  simp
  omega
section
variable {Φ : Nat → Option Def} {N k : Nat} {h : Hh} {E : Nat → Hh → Prop}
variable {l r : List Str} {js : List (Option Bool)} {m : Ms}
theorem W_leastG (T : TBd Φ) (e59 : Φ 59 = some d_lowest) (e : Φ 62 = some d_least) (hN : bigN < N) (cl : CO l) (hl : js.length = l.length) (hr : Rk l r) (hm : MsOk m) {Q : Vl → Hh → Prop} :
    W (callF Φ N (k + 7) 62 [.d (.tuple (l.map .str)), .d (.tuple (js.map ej)), .d (.tuple (r.map .str)), .d (msD m)]) h Q E ↔ Q (.d (frD (leastV l js r m))) h := by
  have := W_least (k := k) (h := h) (E := E) T e59 e hN (x := .tuple (js.map ej)) (m := msD m) cl.shr (rk_fe cl hr) (Q := Q)
  rw [lad4_good cl hl hr hm] at this
  simpa using this
theorem W_greatG (T : TBd Φ) (e61 : Φ 61 = some d_highest) (e : Φ 63 = some d_greatest) (hN : bigN < N) (cl : CO l) (hl : js.length = l.length) (hr : Rk l r) (hm : MsOk m) {Q : Vl → Hh → Prop} :
    W (callF Φ N (k + 7) 63 [.d (.tuple (l.map .str)), .d (.tuple (js.map ej)), .d (.tuple (r.map .str)), .d (msD m)]) h Q E ↔ Q (.d (frD (greatV l js r m))) h := by
  have := W_greatest (k := k) (h := h) (E := E) T e61 e hN (x := .tuple (js.map ej)) (m := msD m) cl.shr (rk_fe cl hr) (Q := Q)
  rw [lad4_good cl hl hr hm] at this
  simpa using this
theorem W_leastCG (T : TBd Φ) (e59 : Φ 59 = some d_lowest) (e : Φ 64 = some d_least_completion) (hN : bigN < N) (cl : CO l) (hl : js.length = l.length) (hr : Rk l r) (hm : MsOk m) {Q : Vl → Hh → Prop} :
    W (callF Φ N (k + 7) 64 [.d (.tuple (l.map .str)), .d (.tuple (js.map ej)), .d (.tuple (r.map .str)), .d (msD m)]) h Q E ↔ Q (.d (rowD (leastC l js r m))) h := by
  have := W_least_completion (k := k) (h := h) (E := E) T e59 e hN (x := .tuple (js.map ej)) (m := msD m) cl.shr (rk_fe cl hr) (Q := Q)
  rw [lad4_good cl hl hr hm] at this
  simpa using this
theorem W_greatCG (T : TBd Φ) (e61 : Φ 61 = some d_highest) (e : Φ 65 = some d_greatest_completion) (hN : bigN < N) (cl : CO l) (hl : js.length = l.length) (hr : Rk l r) (hm : MsOk m) {Q : Vl → Hh → Prop} :
    W (callF Φ N (k + 7) 65 [.d (.tuple (l.map .str)), .d (.tuple (js.map ej)), .d (.tuple (r.map .str)), .d (msD m)]) h Q E ↔ Q (.d (rowD (greatC l js r m))) h := by
  have := W_greatest_completion (k := k) (h := h) (E := E) T e61 e hN (x := .tuple (js.map ej)) (m := msD m) cl.shr (rk_fe cl hr) (Q := Q)
  rw [lad4_good cl hl hr hm] at this
  simpa using this
theorem W_possG (T : TBd Φ) (e59 : Φ 59 = some d_lowest) (e : Φ 66 = some d_possible_values) (hN : bigN < N) (cl : CO l) (hl : js.length = l.length) (hr : Rk l r) (hm : MsOk m) {Q : Vl → Hh → Prop} :
    W (callF Φ N (k + 7) 66 [.d (.tuple (l.map .str)), .d (.tuple (js.map ej)), .d (.tuple (r.map .str)), .d (msD m)]) h Q E ↔ Q (.d (.list ((possV l js r m).map frD))) h := by
  have := W_possible (k := k) (h := h) (E := E) T e59 e hN (x := .tuple (js.map ej)) (m := msD m) cl.shr (rk_fe cl hr) (Q := Q)
  rw [lad4_good cl hl hr hm] at this
  simpa using this
theorem W_complG (T : TJ Φ) (e22 : Φ 22 = some d_all_completions) (e : Φ 33 = some d_completions) (cl : CO l) (hl : js.length = l.length) {Q : Vl → Hh → Prop} :
    W (callF Φ N (k + 5) 33 [.d (.tuple (l.map .str)), .d (.tuple (js.map ej))]) h Q E ↔ Q (.d (.list ((comps js).map rowD))) h := by
  have := W_completions (N := N) (k := k) (h := h) (E := E) T e22 e (c := .tuple (l.map .str)) (x := .tuple (js.map ej)) cl.shr (Q := Q)
  simpa [cl.col, hl] using this
theorem W_unjG (T : TJ Φ) (e23 : Φ 23 = some d_open_documents) (e : Φ 34 = some d_unjudged) (cl : CO l) (hl : js.length = l.length) {Q : Vl → Hh → Prop} :
    W (callF Φ N (k + 5) 34 [.d (.tuple (l.map .str)), .d (.tuple (js.map ej))]) h Q E ↔ Q (.d (.tuple ((openS l js).map .str))) h := by
  have := W_unjudged (N := N) (k := k) (h := h) (E := E) T e23 e (c := .tuple (l.map .str)) (x := .tuple (js.map ej)) cl.shr (Q := Q)
  simpa [cl.col, hl, openD_strs] using this
theorem W_wjG (T : TJ Φ) (e25 : Φ 25 = some d_require_document) (e27 : Φ 27 = some d_changed) (e : Φ 32 = some d_with_judgement) (cl : CO l) (hl : js.length = l.length) {d : Str} (hd : d ∈ l) (b : Option Bool) {Q : Vl → Hh → Prop} :
    W (callF Φ N (k + 5) 32 [.d (.tuple (l.map .str)), .d (.tuple (js.map ej)), .d (.str d), .d (ej b)]) h Q E ↔ Q (.d (.tuple ((js.set (l.idxOf d) b).map ej))) h := by
  have := W_with_judgement (N := N) (k := k) (h := h) (E := E) T e25 e27 e (c := .tuple (l.map .str)) (x := .tuple (js.map ej)) (d := .str d) (v := ej b) cl.shr (Q := Q)
  rw [List.map_set]
  simpa [cl.col, hl, hd] using this
end
theorem leastV_bd {l r : List Str} {js : List (Option Bool)} {m : Ms} (cl : CO l) (hl : js.length = l.length) (hr : Rk l r) (hm : MsOk m) : Bd 90 (leastV l js r m) := by
  have hs := leastC_spec (l := l) (js := js) (r := r) (m := m)
  rw [← hs.2]
  exact valC_bd cl.h7 (by rw [comps_mem_len hs.1, hl]) hr hm
theorem greatV_bd {l r : List Str} {js : List (Option Bool)} {m : Ms} (cl : CO l) (hl : js.length = l.length) (hr : Rk l r) (hm : MsOk m) : Bd 90 (greatV l js r m) := by
  have hs := greatC_spec (l := l) (js := js) (r := r) (m := m)
  rw [← hs.2]
  exact valC_bd cl.h7 (by rw [comps_mem_len hs.1, hl]) hr hm
theorem val_poss {l r : List Str} {js : List (Option Bool)} {m : Ms} {c : List Bool} (h : c ∈ comps js) : valC l c r m ∈ possV l js r m := (posR_mem _ _).mpr (List.mem_map.mpr ⟨c, h, rfl⟩)
theorem b2_of {r : Int} (h0 : 0 ≤ r) (h1 : r < 2) : ∃ b : Bool, D.int r = bd b := by
  have : r = 0 ∨ r = 1 := by omega
  rcases this with rfl | rfl
  · exact ⟨false, rfl⟩
  · exact ⟨true, rfl⟩
end Jr

set_option Elab.async false
set_option linter.all false
set_option maxRecDepth 100000
set_option maxHeartbeats 2000000
namespace Jr
open PySem
/-! ### two judges, in plain Lean -/
theorem diffs_cons {c : D} {cs : List D} {j k : Option Bool} {js ks : List (Option Bool)} : diffs (c :: cs) (j :: js) (k :: ks) = (if j.isSome && k.isSome && decide (j ≠ k) then [c] else []) ++ diffs cs js ks := by
  unfold diffs both trip
  rcases j with _ | a
  · simp
  · rcases k with _ | b
    · simp
    · by_cases e : a = b
      · subst e; simp
      · simp [e]
theorem joinJ_cons {j k : Option Bool} {js ks : List (Option Bool)} : joinJ (j :: js) (k :: ks) = (match j with
    | none => k
    | some b => some b) :: joinJ js ks := rfl
theorem joinJ_len {js ks : List (Option Bool)} (h : ks.length = js.length) : (joinJ js ks).length = js.length := by
  unfold joinJ
  rw [List.length_map, List.length_zip, h, Nat.min_self]
theorem mem_comps_cons {b : Bool} {z : List Bool} {e : Option Bool} {js : List (Option Bool)} : b :: z ∈ comps (e :: js) ↔ b ∈ opts e ∧ z ∈ comps js := by
  simp only [comps, List.mem_flatMap, List.mem_map]
  constructor
  · rintro ⟨x, hx, y, hy, h⟩
    cases h
    exact ⟨hx, hy⟩
  · rintro ⟨h1, h2⟩
    exact ⟨b, h1, z, h2, rfl⟩
theorem common_eq : ∀ {cs : List D} {js ks : List (Option Bool)}, js.length = cs.length → ks.length = cs.length → (comps js).filter (fun c => decide (c ∈ comps ks)) = if diffs cs js ks = [] then comps (joinJ js ks) else []
  | [], [], [], _, _ => by decide
  | [], _ :: _, _, h, _ => by simp at h
  | [], [], _ :: _, _, h => by simp at h
  | _ :: _, [], _, h, _ => by simp at h
  | _ :: _, _ :: _, [], _, h => by simp at h
  | c :: cs, j :: js, k :: ks, h1, h2 => by
    have ih := common_eq (cs := cs) (js := js) (ks := ks) (by simpa using h1) (by simpa using h2)
    have step : ∀ b : Bool, ((comps js).map (b :: ·)).filter (fun z => decide (z ∈ comps (k :: ks))) = if b ∈ opts k then ((comps js).filter fun c => decide (c ∈ comps ks)).map (b :: ·) else [] := by
      intro b
      rw [List.filter_map]
      have : (fun z => decide (z ∈ comps (k :: ks))) ∘ (b :: ·) = fun z => decide (b ∈ opts k) && decide (z ∈ comps ks) := by
        funext z
        simp [mem_comps_cons]
      rw [this]
      by_cases hb : b ∈ opts k
      · simp [hb]
      · simp [hb]
    rw [diffs_cons, joinJ_cons]
    generalize comps (k :: ks) = X at *
    show ((opts j).flatMap fun b => (comps js).map (b :: ·)).filter _ = _
    simp only [List.filter_flatMap, step, ih]
    rcases j with _ | a <;> rcases k with _ | b
    · by_cases hd : diffs cs js ks = [] <;> simp [opts, comps, hd]
    · by_cases hd : diffs cs js ks = [] <;> cases b <;> simp [opts, comps, hd]
    · by_cases hd : diffs cs js ks = [] <;> cases a <;> simp [opts, comps, hd]
    · by_cases hd : diffs cs js ks = [] <;> cases a <;> cases b <;> simp [opts, comps, hd]
theorem diffs_comm : ∀ {cs : List D} {js ks : List (Option Bool)}, js.length = cs.length → ks.length = cs.length → diffs cs js ks = diffs cs ks js
  | [], _, _, _, _ => by simp [diffs, both, trip]
  | _ :: _, [], _, h, _ => by simp at h
  | _ :: _, _ :: _, [], _, h => by simp at h
  | c :: cs, j :: js, k :: ks, h1, h2 => by
    rw [diffs_cons, diffs_cons, diffs_comm (by simpa using h1) (by simpa using h2)]
    congr 1
    rcases j with _ | a <;> rcases k with _ | b
    · rfl
    · rfl
    · rfl
    · cases a <;> cases b <;> rfl
theorem joinJ_comm : ∀ {cs : List D} {js ks : List (Option Bool)}, js.length = cs.length → ks.length = cs.length → diffs cs js ks = [] → joinJ js ks = joinJ ks js
  | [], [], [], _, _, _ => rfl
  | [], _ :: _, _, h, _, _ => by simp at h
  | [], [], _ :: _, _, h, _ => by simp at h
  | _ :: _, [], _, h, _, _ => by simp at h
  | _ :: _, _ :: _, [], _, h, _ => by simp at h
  | c :: cs, j :: js, k :: ks, h1, h2, hd => by
    rw [diffs_cons, List.append_eq_nil_iff] at hd
    rw [joinJ_cons, joinJ_cons, joinJ_comm (cs := cs) (by simpa using h1) (by simpa using h2) hd.2]
    congr 1
    have h := hd.1
    rcases j with _ | a <;> rcases k with _ | b
    · rfl
    · rfl
    · rfl
    · cases a <;> cases b <;> first | rfl | (exact absurd h (by simp))
theorem both_comm_len : ∀ {cs : List D} {js ks : List (Option Bool)}, js.length = cs.length → ks.length = cs.length → (both cs js ks).length = (both cs ks js).length ∧ agree cs js ks = agree cs ks js
  | [], _, _, _, _ => by simp [agree, both, trip]
  | _ :: _, [], _, h, _ => by simp at h
  | _ :: _, _ :: _, [], _, h => by simp at h
  | c :: cs, j :: js, k :: ks, h1, h2 => by
    obtain ⟨i1, i2⟩ := both_comm_len (cs := cs) (js := js) (ks := ks) (by simpa using h1) (by simpa using h2)
    unfold agree both trip at *
    simp only [List.filter_filter] at i2 ⊢
    rcases j with _ | a <;> rcases k with _ | b
    · simpa using ⟨i1, i2⟩
    · simpa using ⟨i1, i2⟩
    · simpa using ⟨i1, i2⟩
    · cases a <;> cases b <;> simp [i1] <;> exact i2
theorem agrD_comm {cs : List D} {js ks : List (Option Bool)} (h1 : js.length = cs.length) (h2 : ks.length = cs.length) : agrD cs js ks = agrD cs ks js := by
  obtain ⟨i1, i2⟩ := both_comm_len h1 h2
  unfold agrD
  rw [i2, i1]
  have : both cs js ks = [] ↔ both cs ks js = [] := by
    rw [← List.length_eq_zero_iff, ← List.length_eq_zero_iff, i1]
  by_cases hb : both cs js ks = []
  · rw [if_pos hb, if_pos (this.mp hb)]
  · rw [if_neg hb, if_neg (fun q => hb (this.mpr q))]
theorem majs_join {cs : List D} {js ks : List (Option Bool)} (h1 : js.length = cs.length) (h2 : ks.length = cs.length) (hd : diffs cs js ks = []) : majs cs.length [js, ks] = joinJ js ks := by
  have key : ∀ {cs : List D} {js ks : List (Option Bool)} (i : Nat), js.length = cs.length → ks.length = cs.length → diffs cs js ks = [] → i < cs.length → maj [js.getD i none, ks.getD i none] = (joinJ js ks).getD i none := by
    intro cs
    induction cs with
    | nil => intro js ks i _ _ _ h; simp at h
    | cons c cs ih =>
      intro js ks i h1 h2 hd hi
      cases js with
      | nil => simp at h1
      | cons j js =>
        cases ks with
        | nil => simp at h2
        | cons k ks =>
          rw [diffs_cons, List.append_eq_nil_iff] at hd
          rw [joinJ_cons]
          cases i with
          | zero =>
            have h := hd.1
            rcases j with _ | a <;> rcases k with _ | b
            · rfl
            · cases b <;> rfl
            · cases a <;> rfl
            · cases a <;> cases b <;> first | rfl | (exact absurd h (by simp))
          | succ i =>
            have := ih (js := js) (ks := ks) i (by simpa using h1) (by simpa using h2) hd.2 (by simpa using hi)
            simpa using this
  refine List.ext_getElem ?_ fun i a b => ?_
  · rw [joinJ_len (by omega)]
    simp [majs, h1]
  · have hi : i < cs.length := by simpa [majs] using a
    have := key i h1 h2 hd hi
    simp only [majs, List.getElem_map, List.getElem_range]
    rw [List.getD_eq_getElem?_getD (l := joinJ js ks), List.getElem?_eq_getElem b] at this
    exact this
theorem join_sub {cs : List D} {js ks : List (Option Bool)} (h1 : js.length = cs.length) (h2 : ks.length = cs.length) (hd : diffs cs js ks = []) : (∀ c ∈ comps (joinJ js ks), c ∈ comps js) ∧ ∀ c ∈ comps (joinJ js ks), c ∈ comps ks := by
  have := common_eq h1 h2
  rw [if_pos hd] at this
  rw [← this]
  exact ⟨fun c hc => (List.mem_filter.mp hc).1, fun c hc => of_decide_eq_true (List.mem_filter.mp hc).2⟩
theorem open_join {l : List Str} {js ks : List (Option Bool)} (nd : l.Nodup) (h1 : js.length = l.length) (h2 : ks.length = l.length) {d : Str} (hd : d ∈ openS l (joinJ js ks)) : d ∈ openS l js := by
  rw [openS_mem_iff nd (by rw [joinJ_len (by omega), h1])] at hd
  rw [openS_mem_iff nd h1]
  refine ⟨hd.1, ?_⟩
  have h := hd.2
  have hi : l.idxOf d < l.length := List.idxOf_lt_length_iff.mpr hd.1
  generalize l.idxOf d = i at *
  unfold joinJ at h
  rw [List.getElem?_map, List.getElem?_eq_getElem (by rw [List.length_zip]; omega)] at h
  simp at h
  rw [List.getElem?_eq_getElem (by omega)]
  cases hj : js[i]'(by omega) with
  | none => rfl
  | some b => rw [hj] at h; simp at h
theorem rowD_inj {a b : List Bool} (h : rowD a = rowD b) : a = b := by
  have := congrArg unC h
  simpa using this
theorem eqvs_bd : ∀ (a b : List Bool), eqvs (a.map bd) (b.map bd) = decide (a = b)
  | [], [] => by simp
  | [], _ :: _ => by simp
  | _ :: _, [] => by simp
  | x :: a, y :: b => by
    rw [List.map_cons, List.map_cons, eqvs_cc, eqvs_bd a b]
    have : eqv (bd x) (bd y) = decide (x = y) := by cases x <;> cases y <;> simp [bd, b2]
    rw [this, Bool.eq_iff_iff]
    simp
theorem rowD_eqv {a b : List Bool} : eqv (rowD a) (rowD b) = decide (a = b) := by
  unfold rowD
  rw [eqv_tuple_tuple, eqvs_bd]
theorem any_row {x : List Bool} {rs : List (List Bool)} : (rs.map rowD).any (fun z => eqv z (rowD x)) = decide (x ∈ rs) := by
  induction rs with
  | nil => rfl
  | cons p ps ih =>
    rw [List.map_cons, List.any_cons, ih, rowD_eqv]
    by_cases e : p = x
    · subst e; simp
    · have : ¬ x = p := fun q => e q.symm
      simp [e, this]
theorem inV_row {x : List Bool} {rs : List (List Bool)} : inV (rowD x) (.list (rs.map rowD)) = some (decide (x ∈ rs)) := by
  rw [inV_list, if_pos, any_row]
  have := dep_rows rs
  omega
end Jr

set_option Elab.async false
set_option linter.all false
set_option maxRecDepth 100000
set_option maxHeartbeats 2000000
namespace Jr
open PySem
open scoped Rat
namespace k24
section
variable {Φ : Nat → Option Def} {N k : Nat} {ns : List Int} {b : Nat} {h : Hh} {E : Nat → Hh → Prop}
theorem W_masked (T : Tbl Φ) (s : St ns b h) (hb : b ≤ 800000) (hns : ns.length ≤ 63) {co : List Bool} (hl : co.length ≤ 8) {Q : Vl → Hh → Prop}
    (q : ∀ (js : List (Option Bool)) c, js.length = co.length → St ns (b + 20) (h.set 1 c) → Q (.d (.tuple (js.map ej))) (h.set 1 c)) : W (callF Φ N (k + 3) 162 [.r 0, .r 1, .d (rowD co)]) h Q E := by
  rw [W_call T.f162 rfl]
  simp [d__law_masked, rowD]
  unfold compE
  have l2 := s.len
  refine (W_compSt (P := fun d => isEnt d = true) (s := 2) s fun x hx h' b' st' lb => ?_).imp ?_
  · rw [W_turn]
    simp [sizeLine]
    obtain ⟨y, _, rfl⟩ := List.mem_map.mp hx
    refine W_pick T.f8 T.f7 st' (by simp at lb; omega) hns (by simp) fun y2 c2 hy s2 => ?_
    simp
    refine ⟨?_, ⟨c2, rfl⟩, s2⟩
    simp at hy
    rcases hy with rfl | rfl
    · rfl
    · cases y <;> rfl
  · rintro ys h1 ⟨q1, q2, c2, rfl, s2⟩
    obtain ⟨js, rfl⟩ := ents_of (List.all_eq_true.mpr q1)
    simp at q2 s2 ⊢
    exact q js c2 q2 (s2.more (by omega))
theorem W_joined_or (T : Tbl Φ) (tv : TV Φ) {l : List Str} {js ks : List (Option Bool)} (cl : CO l) (h1 : js.length = l.length) (h2 : ks.length = l.length) {Q : Vl → Hh → Prop} :
    W (callF Φ N (k + 7) 156 [.d (.tuple (l.map .str)), .d (.tuple (js.map ej)), .d (.tuple (ks.map ej))]) h Q E ↔ if diffs (l.map .str) js ks = [] then Q (.d (.tuple ((joinJ js ks).map ej))) h else Q (.d (.str (q "Conflict"))) h := by
  rw [W_call T.f156 rfl]
  have := fun Q E => W_joined (N := N) (k := k) (h := h) (E := E) tv T.f150 T.f151 T.f152 T.f159 (c := .tuple (l.map .str)) (x := .tuple (js.map ej)) (y := .tuple (ks.map ej)) cl.shr (Q := Q)
  simp only [cl.col, validJ_ej, clen_tuple, List.length_map, h1, h2, decide_true, if_true, unT_tuple, unJ_ej] at this
  by_cases hd : diffs (l.map .str) js ks = []
  · simp [d__law_joined_or, W_try, this, hd]
  · simp [d__law_joined_or, W_try, this, hd]
end
theorem law_pure {Φ : Nat → Option Def} (T : Tbl Φ) {ns : List Int} (hns : ns.length ≤ 63) {N k : Nat} (hN : bigN < N) : W (callF Φ N (k + 21) 5 [.r 0]) [.ro (ns.map D.int)] (fun v _ => v = .d (.bool true)) fun _ _ => False := by
  have tr : TR Φ := ⟨⟨⟨⟨T.f9, T.f10, T.f11, T.f13⟩, T.f6, T.f19⟩, T.f21⟩, T.f3, T.f46, T.f14, T.f45⟩
  have tw : TW Φ := ⟨⟨T.f42, T.f43⟩, T.f48, T.f208, T.f209, T.f210⟩
  have tb : TBd Φ := ⟨tr, tw, T.f22, T.f57, T.f58, T.f60⟩
  have hN0 := Nat.lt_trans big_1000 hN
  rw [W_call T.f5 rfl]
  simp only [d_law]
  refine W_law (n := 7) (per := 1000) (m := 10) rfl (by omega) fun i rest bb h hi hl s hb => ?_
  obtain ⟨a3, a4, a5, a6, a7, a8, a9, a10, a11, a12, rfl⟩ := len10 hl
  clear hl hi
  rw [W_B_cons]
  generalize hQ : seqQ _ _ _ _ _ = Q0
  simp
  refine W_collection (m := 6) T.f8 T.f15 T.f17 s (by omega) (by omega) hns hN0 fun l c cl0 s => ?_
  have cl := cl0.co (by omega)
  have h7 := cl.h7
  generalize h.set 1 c = h at *
  subst hQ
  rw [seqQ_next]
  rw [W_B_cons]
  generalize hQ : seqQ _ _ _ _ _ = Q0
  simp
  refine W_entries T.f8 T.f7 T.f36 s (by omega) hns (by simp; omega) fun js c hjs s => ?_
  generalize h.set 1 c = h at *
  simp at hjs ⊢
  refine W_entries T.f8 T.f7 T.f36 s (by omega) hns (by simp; omega) fun ks c hks s => ?_
  generalize h.set 1 c = h at *
  simp at hks ⊢
  subst hQ
  rw [seqQ_next]
  rw [W_B_cons]
  generalize hQ : seqQ _ _ _ _ _ = Q0
  refine W.imp (Q := fun so h1 => ∃ (ks : List (Option Bool)) (o8 : Option Vl), ks.length = l.length ∧ so = .next [some (.r 0), some (.r 1), some (.d (.int (i : Int))), some (.d (.tuple (l.map D.str))), some (.d (.tuple (js.map ej))), some (.d (.tuple (ks.map ej))), a6, a7, o8, a9, a10, a11, a12] ∧ St ns (bb + 300) h1) ?_ ?_
  · simp [mod_ii]
    split
    · exact ⟨ks, hks, rfl, s.more (by omega)⟩
    · simp [W_complG tr.toTJ T.f22 T.f33 cl hjs]
      refine W_pick T.f8 T.f7 s (by omega) hns ?_ fun y c hy s => ?_
      · simpa using comps_ne js
      obtain ⟨co, hco, rfl⟩ := List.mem_map.mp hy
      generalize h.set 1 c = h at *
      have hcl : co.length = l.length := by rw [comps_mem_len hco, hjs]
      refine W_masked T s (by omega) hns (by omega) fun ks2 c hks2 s => ?_
      generalize h.set 1 c = h at *
      try simp
      exact ⟨ks2, by omega, rfl, s.more (by omega)⟩
  clear hks ks
  rintro so h1 ⟨ks, o8, hks, rfl, s⟩
  subst hQ
  rw [seqQ_next]
  have hjd : js.length = (l.map D.str).length := by simpa using hjs
  have hkd : ks.length = (l.map D.str).length := by simpa using hks
  have hcm := common_eq hjd hkd
  have wc := fun (js : List (Option Bool)) (hjs : js.length = l.length) Q E => W_complG (Φ := Φ) (N := N) (k := k + 15) (h := h1) (E := E) tr.toTJ T.f22 T.f33 cl hjs (Q := Q)
  rw [W_B_cons]
  generalize hQ : seqQ _ _ _ _ _ = Q0
  simp [wc js hjs]
  rw [W_filT (fun c => decide (c ∈ comps ks)) rowD depOk_none]
  rotate_left
  · intro c _
    rw [W_turn]
    by_cases hc : c ∈ comps ks <;> simp [wc ks hks, -inV_list, inV_row, hc]
  rw [hcm]
  subst hQ
  rw [seqQ_next]
  rw [W_B_cons]
  generalize hQ : seqQ _ _ _ _ _ = Q0
  have wj1 := fun Q E => W_joined_or (N := N) (k := k + 13) (h := h1) (E := E) T tr.toTV cl hjs hks (Q := Q)
  have wj2 := fun Q E => W_joined_or (N := N) (k := k + 13) (h := h1) (E := E) T tr.toTV cl hks hjs (Q := Q)
  have hdc := diffs_comm hjd hkd
  rw [← hdc] at wj2
  have wd1 := fun Q E => W_differences (N := N) (k := k + 15) (h := h1) (E := E) tr.toTV T.f150 T.f151 T.f152 (c := .tuple (l.map .str)) (x := .tuple (js.map ej)) (y := .tuple (ks.map ej)) cl.shr (Q := Q)
  have wd2 := fun Q E => W_differences (N := N) (k := k + 15) (h := h1) (E := E) tr.toTV T.f150 T.f151 T.f152 (c := .tuple (l.map .str)) (x := .tuple (ks.map ej)) (y := .tuple (js.map ej)) cl.shr (Q := Q)
  simp only [cl.col, validJ_ej, clen_tuple, List.length_map, hjs, hks, decide_true, if_true, unT_tuple, unJ_ej] at wd1 wd2
  rw [← hdc] at wd2
  have wa1 := fun Q E => W_agreement (N := N) (k := k + 15) (h := h1) (E := E) tr.toTV T.f42 T.f150 T.f151 T.f160 hN0 (c := .tuple (l.map .str)) (x := .tuple (js.map ej)) (y := .tuple (ks.map ej)) cl.shr (Q := Q)
  have wa2 := fun Q E => W_agreement (N := N) (k := k + 15) (h := h1) (E := E) tr.toTV T.f42 T.f150 T.f151 T.f160 hN0 (c := .tuple (l.map .str)) (x := .tuple (ks.map ej)) (y := .tuple (js.map ej)) cl.shr (Q := Q)
  simp only [cl.col, validJ_ej, clen_tuple, List.length_map, hjs, hks, decide_true, if_true, unT_tuple, unJ_ej] at wa1 wa2
  rw [agrD_comm hkd hjd] at wa2
  have hdd : deps (diffs (l.map D.str) js ks) = 0 := by
    have : ∀ x ∈ diffs (l.map D.str) js ks, ∃ s, x = D.str s := fun x hx => by
      unfold diffs both trip at hx
      obtain ⟨p, hp, rfl⟩ := List.mem_map.mp hx
      have := (List.mem_filter.mp (List.mem_filter.mp hp).1).1
      obtain ⟨s, _, e⟩ := List.mem_map.mp (List.of_mem_zip this).1
      exact ⟨s, e.symm⟩
    generalize diffs (l.map D.str) js ks = xs at this
    induction xs with
    | nil => simp
    | cons x xs ih =>
      obtain ⟨s, rfl⟩ := this x List.mem_cons_self
      simp [ih fun y hy => this y (List.mem_cons_of_mem _ hy)]
  have hag : dep (agrD (l.map D.str) js ks) ≤ 1 := by
    unfold agrD
    split
    · simp
    · simp [fr]
  have hdr := eqvs_refl (diffs (l.map D.str) js ks)
  have har := eqv_refl (agrD (l.map D.str) js ks)
  by_cases hd : diffs (l.map D.str) js ks = []
  · rw [if_pos hd]
    simp only [hd, if_true] at wj1 wj2 wd1 wd2
    simp [wj1]
    subst hQ
    rw [seqQ_next]
    have hjl : (joinJ js ks).length = l.length := by rw [joinJ_len (by omega), hjs]
    obtain ⟨sub1, sub2⟩ := join_sub hjd hkd hd
    have hjc := joinJ_comm hjd hkd hd
    rw [← hjc] at wj2
    have hmaj := majs_join hjd hkd hd
    have hopj := fun d hd => open_join (d := d) cl.nd hjs hks hd
    have hne := comps_ne (joinJ js ks)
    have hde := dep_rows (comps (joinJ js ks))
    have her := eqvs_refl ((comps (joinJ js ks)).map rowD)
    have hej := eqvs_refl ((joinJ js ks).map ej)
    have hcn : eqvs ((comps (joinJ js ks)).map rowD) [] = false := by
      cases hh : comps (joinJ js ks) with
      | nil => exact absurd hh hne
      | cons x xs => simp
    generalize joinJ js ks = gs at *
    rw [W_B_cons]
    generalize hQ : seqQ _ _ _ _ _ = Q0
    simp [ok_string, wj2, hcn, hej]
    subst hQ
    rw [seqQ_next]
    rw [W_B_cons]
    generalize hQ : seqQ _ _ _ _ _ = Q0
    simp [wd1, wd2]
    subst hQ
    rw [seqQ_next]
    rw [W_B_cons]
    generalize hQ : seqQ _ _ _ _ _ = Q0
    have hag60 : dep (agrD (l.map D.str) js ks) ≤ 60 := by omega
    simp [wa1, wa2, har, hag60]
    subst hQ
    rw [seqQ_next]
    rw [W_B_cons]
    generalize hQ : seqQ _ _ _ _ _ = Q0
    simp [ok_string, wd1]
    subst hQ
    rw [seqQ_next]
    simp only [W_B_cons, evS_ite]
    simp [ok_string, -evS_par]
    generalize hQ : seqQ _ _ _ _ _ = Q0
    simp
    refine W_ranking T.f8 T.f7 T.f15 T.f18 s (by omega) hns hN0 (by omega) cl.nd fun r c hr s => ?_
    generalize h1.set 1 c = h at *
    refine W_measureM T.f8 T.f7 T.f1 s (by omega) hns fun m c hm s => ?_
    generalize h.set 1 c = h at *
    try simp
    subst hQ
    rw [seqQ_next]
    rw [W_B_cons]
    generalize hQ : seqQ _ _ _ _ _ = Q0
    have wc := fun (js : List (Option Bool)) (hjs : js.length = l.length) Q E => W_complG (Φ := Φ) (N := N) (k := k + 15) (h := h) (E := E) tr.toTJ T.f22 T.f33 cl hjs (Q := Q)
    have wm := fun Q E => W_majority (N := N) (k := k + 16) (h := h) (E := E) tr.toTV T.f161 (c := .tuple (l.map .str)) (ps := [js, ks]) cl.shr cl.col (fun r hr => by simp at hr ⊢; rcases hr with rfl | rfl <;> assumption) (by simp) (by simp) (Q := Q)
    have e3 : majs l.length [js, ks] = gs := by simpa using hmaj
    simp [e3] at wm
    have hde60 : deps ((comps gs).map rowD) ≤ 60 := by omega
    have hde59 : deps ((comps gs).map rowD) + 1 ≤ 60 := by omega
    simp [wc gs hjl, hde60, hde59, her, sizeLine, wm, hej]
    subst hQ
    rw [seqQ_next]
    rw [W_B_cons]
    generalize hQ : seqQ _ _ _ _ _ = Q0
    have wu := fun (js : List (Option Bool)) (hjs : js.length = l.length) Q E => W_unjG (Φ := Φ) (N := N) (k := k + 15) (h := h) (E := E) tr.toTJ T.f23 T.f34 cl hjs (Q := Q)
    simp [wu gs hjl]
    rw [W_filT (fun d => !decide (d ∈ openS l js)) D.str depOk_none]
    rotate_left
    · intro d hd
      rw [W_turn]
      have := hopj d hd
      simp [wu js hjs, this]
    have hfe : (openS l gs).filter (fun d => !decide (d ∈ openS l js)) = [] := List.filter_eq_nil_iff.mpr fun d hd => by simp [hopj d hd]
    rw [hfe]
    simp
    subst hQ
    rw [seqQ_next]
    have wl := fun (js : List (Option Bool)) (hjs : js.length = l.length) Q E => W_leastG (N := N) (k := k + 13) (h := h) (E := E) tb T.f59 T.f62 hN cl hjs hr hm.ok (Q := Q)
    have wg := fun (js : List (Option Bool)) (hjs : js.length = l.length) Q E => W_greatG (N := N) (k := k + 13) (h := h) (E := E) tb T.f61 T.f63 hN cl hjs hr hm.ok (Q := Q)
    have wb := fun x y hx hy Q E => W_belowF (N := N) (k := k + 19) (h := h) (E := E) T.f56 bel_2 (x := x) (y := y) (m := 90) (n := 90) hx hy (by omega) (by omega) (Q := Q)
    have l1 : ¬ leastV l gs r m < leastV l js r m := Rat.not_lt.mpr (leastV_sub sub1)
    have l2 : ¬ greatV l ks r m < greatV l gs r m := Rat.not_lt.mpr (greatV_sub sub2)
    have b1 := wb _ _ (leastV_bd cl hjl hr hm.ok) (leastV_bd cl hjs hr hm.ok)
    have b2 := wb _ _ (greatV_bd cl hks hr hm.ok) (greatV_bd cl hjl hr hm.ok)
    rw [W_B_cons]
    generalize hQ : seqQ _ _ _ _ _ = Q0
    simp [wl gs hjl, wl js hjs, b1, l1]
    subst hQ
    rw [seqQ_next]
    simp [wg gs hjl, wg ks hks, b2, l2]
    exact s.more (by omega)
  · rw [if_neg hd]
    simp only [hd, if_false] at wj1 wj2
    simp [wj1]
    subst hQ
    rw [seqQ_next]
    generalize diffs (l.map D.str) js ks = xs at *
    have hxe : eqvs xs [] = false := by
      cases xs with
      | nil => exact absurd rfl hd
      | cons x xs => simp
    rw [W_B_cons]
    generalize hQ : seqQ _ _ _ _ _ = Q0
    simp [ok_string, wj2]
    subst hQ
    rw [seqQ_next]
    rw [W_B_cons]
    generalize hQ : seqQ _ _ _ _ _ = Q0
    simp [wd1, wd2, hdd, hdr]
    subst hQ
    rw [seqQ_next]
    rw [W_B_cons]
    generalize hQ : seqQ _ _ _ _ _ = Q0
    have hag60 : dep (agrD (l.map D.str) js ks) ≤ 60 := by omega
    simp [wa1, wa2, har, hag60]
    subst hQ
    rw [seqQ_next]
    rw [W_B_cons]
    generalize hQ : seqQ _ _ _ _ _ = Q0
    simp [ok_string, wd1, hxe, hdd]
    subst hQ
    rw [seqQ_next]
    simp [ok_string]
    exact s.more (by omega)
end k24
end Jr

set_option Elab.async false
open PySem PySem.W PyProof.Rows
theorem PySem.Challenge.cw_judgedranks_k24_whole_judges_holds : PySem.Challenge.rw_judgedranks_k24_whole_judges.Holds := by
  refine Jr.k24.holds_of (k := 20) (n := Jr.bigN + 1) ⟨rfl, by decide, by decide⟩ fun ns hns => ?_
  obtain ⟨v, h', e, rfl⟩ := (Jr.k24.law_pure Jr.k24.tbl (N := Jr.bigN + 1) (k := 0) hns (Nat.lt_succ_self _)).of
  exact ⟨h', e⟩

