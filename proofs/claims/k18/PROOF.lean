import PyProof.Rows.All
import Wide.All
import OpenK.AllK
import Wide.FinOn
import PySem.Challenge.RW_judgedranks_k18_chances_recognized
import HandS.ForMost
import HandS.ForExc
import KE.SortData
import HandS.TryMany
import HandS.Zip
import HandS.TupAny
import HandS.TupMul
import HandS.Deep
import HandS.IsInst
import HandS.Style
import HandS.Wide
import HandS.Flow
import HandS.SortInts
import HandS.Head0
import HandS.Head1
import HandS.Head2
import HandS.HeadEnd
import HandS.HeadHook1
import HandS.HeadHook2
import HandS.HeadHook4
import HandS.HeadNt
set_option Elab.async false
set_option linter.all false
set_option maxRecDepth 100000
/-! Jr: position-free code and its pure meaning. -/
namespace Jr
open PySem
/-- data -/
inductive D where
  | none
  | bool (b : Bool)
  | int (i : Int)
  | str (x : Str)
  | list (xs : List D)
  | tuple (xs : List D)
mutual
def toP : D → PyData
  | .none => .none
  | .bool b => .bool b
  | .int i => .int i
  | .str x => .str x
  | .list xs => .list (toPs xs)
  | .tuple xs => .tuple (toPs xs)
def toPs : List D → List PyData
  | [] => []
  | x :: xs => toP x :: toPs xs
end
mutual
/-- Python's == -/
def eqv : D → D → Bool
  | .none, .none => true
  | .bool a, .bool b => a == b
  | .bool a, .int j => (if a then 1 else 0) == j
  | .int i, .bool b => i == (if b then 1 else 0)
  | .int i, .int j => i == j
  | .str x, .str y => x == y
  | .list xs, .list ys => eqvs xs ys
  | .tuple xs, .tuple ys => eqvs xs ys
  | _, _ => false
def eqvs : List D → List D → Bool
  | [], [] => true
  | x :: xs, y :: ys => eqv x y && eqvs xs ys
  | _, _ => false
end
mutual
def dep : D → Nat
  | .list xs => deps xs + 1
  | .tuple xs => deps xs + 1
  | _ => 0
def deps : List D → Nat
  | [] => 0
  | x :: xs => max (dep x) (deps xs)
end
def okS (x : Str) : Bool := x.cps.all (· < 0x110000)
/-- a value: data, a mutable cell, a dict that nobody changes -/
inductive Vl where
  | d (x : D)
  | r (n : Nat)
  | k (kvs : List (D × D))
inductive Cell where
  | dead
  | ro (xs : List D)
  | lst (xs : List D)
  | dct (kvs : List (D × D))
abbrev Hh := List Cell
inductive R (α : Type) where
  | ok (a : α)
  | exc (c : Nat)
abbrev M (α : Type) := Hh → Option (R α × Hh)
variable {α β : Type}
def M.pure (a : α) : M α := fun h => some (.ok a, h)
def M.bind (x : M α) (f : α → M β) : M β := fun h => match x h with
  | none => none
  | some (.exc c, h1) => some (.exc c, h1)
  | some (.ok a, h1) => f a h1
instance : Monad M := { pure := M.pure, bind := M.bind }
def fail : M α := fun _ => none
def raise (c : Nat) : M α := fun h => some (.exc c, h)
def ofO : Option α → M α
  | some a => M.pure a
  | none => fail
abbrev Env := List (Option Vl)

/-! ### values -/
def asB : D → Option Bool
  | .bool b => some b
  | _ => none
def asI : D → Option Int
  | .int i => some i
  | _ => none
def asS : D → Option Str
  | .str x => some x
  | _ => none
def asSeq : D → Option (List D)
  | .list xs => some xs
  | .tuple xs => some xs
  | _ => none
def asL : D → Option (List D)
  | .list xs => some xs
  | _ => none
def asT : D → Option (List D)
  | .tuple xs => some xs
  | _ => none
def b2 (b : Bool) : Int := if b then 1 else 0
/-- a cell as it reads now -/
def rdC : Cell → Option D
  | .dead => none
  | .ro xs => some (.list xs)
  | .lst xs => some (.list xs)
  | .dct _ => none
def rd : Vl → M D
  | .d x => fun h => some (.ok x, h)
  | .r n => fun h => (h[n]?.bind rdC).map fun x => (.ok x, h)
  | .k _ => fail
def truth : D → Option Bool
  | .none => some false
  | .bool b => some b
  | .int i => some (i != 0)
  | .str x => if x.length ≤ sizeLine then some (x.length != 0) else none
  | .list xs => some !xs.isEmpty
  | .tuple xs => some !xs.isEmpty

inductive BOp where
  | add | sub | mul | fdiv | mod
  deriving DecidableEq
inductive COp where
  | eq | ne | lt | le | gt | ge | in_ | notIn | is | isNot
  deriving DecidableEq
inductive Ty where
  | int | bool | str | tuple | list
  deriving DecidableEq
inductive Blt where
  | len | abs | max1 | max2 | min1 | min2 | sum | all | any | int | str
  deriving DecidableEq

def addV : D → D → Option D
  | .int a, .int b => some (.int (a + b))
  | .bool a, .int b => some (.int (b2 a + b))
  | .int a, .bool b => some (.int (a + b2 b))
  | .str a, .str b => if a.length + b.length ≤ sizeLine then some (.str (a ++ b)) else none
  | .tuple a, .tuple b => if a.length + b.length ≤ sizeLine then some (.tuple (a ++ b)) else none
  | _, _ => none
def subV : D → D → Option D
  | .int a, .int b => some (.int (a - b))
  | .bool a, .int b => some (.int (b2 a - b))
  | _, _ => none
def reps (xs : List D) (k : Int) : List D := (List.replicate k.toNat xs).flatten
def mulV : D → D → Option D
  | .int a, .int b => if a.natAbs.log2 + b.natAbs.log2 < 1000000 then some (.int (a * b)) else none
  | .tuple a, .int k => if 0 ≤ k ∧ k ≤ 1000 ∧ a.length ≤ 1000 then some (.tuple (reps a k)) else none
  | _, _ => none
def fdivV : D → D → Option D
  | .int a, .int b => if 0 < b ∧ b.natAbs.log2 < 9000 then some (.int (a / b)) else none
  | _, _ => none
def modV : D → D → Option D
  | .int a, .int b => if 0 < b then some (.int (a % b)) else none
  | _, _ => none
def binV : BOp → D → D → Option D
  | .add => addV
  | .sub => subV
  | .mul => mulV
  | .fdiv => fdivV
  | .mod => modV
def repL (a : List D) : D → Option (List D)
  | .int k => if -(2 ^ 63) ≤ k ∧ k < 2 ^ 63 ∧ a.length * k.toNat ≤ sizeLine then some (reps a k) else none
  | _ => none
def negV : D → Option D
  | .int a => some (.int (-a))
  | _ => none
def ltV : D → D → Option Bool
  | .int a, .int b => some (decide (a < b))
  | .str a, .str b => some (decide (a.cps.toList < b.cps.toList))
  | _, _ => none
def leV : D → D → Option Bool
  | .int a, .int b => some (decide (a ≤ b))
  | .str a, .str b => some (!decide (b.cps.toList < a.cps.toList))
  | _, _ => none
def eqV (x y : D) : Option Bool := if min (dep x) (dep y) ≤ 60 then some (eqv x y) else none
def inV (x : D) : D → Option Bool
  | .list ys => if min (deps ys) (dep x) ≤ 60 then some (ys.any fun z => eqv z x) else none
  | .tuple ys => if min (deps ys) (dep x) ≤ 60 then some (ys.any fun z => eqv z x) else none
  | _ => none
def isNone : D → Bool
  | .none => true
  | _ => false
def cmpV : COp → D → D → Option Bool
  | .eq, x, y => eqV x y
  | .ne, x, y => (eqV x y).map (!·)
  | .lt, x, y => ltV x y
  | .le, x, y => leV x y
  | .gt, x, y => ltV y x
  | .ge, x, y => leV y x
  | .in_, x, y => inV x y
  | .notIn, x, y => (inV x y).map (!·)
  | .is, x, .none => some (isNone x)
  | .isNot, x, .none => some (!isNone x)
  | _, _, _ => none
/-- the place that an index of any sign means -/
def ixN (n : Nat) (i : Int) : Option Nat := L2.ixN n i
def ixV : D → D → Option D
  | .list xs, .int i => (ixN xs.length i).bind fun j => xs[j]?
  | .tuple xs, .int i => (ixN xs.length i).bind fun j => xs[j]?
  | _, _ => none
def sIx (n d : Nat) (o : Option Int) : Nat := HT.sIx n d o
def cut (xs : List α) (lo hi : Option Int) : List α := (xs.drop (sIx xs.length 0 lo)).take (sIx xs.length xs.length hi - sIx xs.length 0 lo)
def sliceV : D → Option Int → Option Int → Option D
  | .tuple xs, lo, hi => some (.tuple (cut xs lo hi))
  | .str z, lo, hi => if z.length ≤ sizeLine then some (.str (L2.cutS z lo hi)) else none
  | _, _, _ => none
def sliceL : D → Option Int → Option Int → Option (List D)
  | .list xs, lo, hi => some (cut xs lo hi)
  | _, _, _ => none
def isTy : D → Ty → Bool
  | .int _, .int => true
  | .bool _, .int => true
  | .bool _, .bool => true
  | .str _, .str => true
  | .tuple _, .tuple => true
  | .list _, .list => true
  | _, _ => false
def allI : List D → Option (List Int)
  | [] => some []
  | x :: xs => (asI x).bind fun i => (allI xs).map (i :: ·)
def allB : List D → Option (List Bool)
  | [] => some []
  | x :: xs => (asB x).bind fun i => (allB xs).map (i :: ·)
def maxL : Int → List Int → Int
  | a, [] => a
  | a, b :: r => maxL (if a < b then b else a) r
def minL : Int → List Int → Int
  | a, [] => a
  | a, b :: r => minL (if b < a then b else a) r
def bltV : Blt → List D → Option D
  | .len, [.list xs] => some (.int xs.length)
  | .len, [.tuple xs] => some (.int xs.length)
  | .len, [.str x] => if x.length ≤ sizeLine then some (.int x.length) else none
  | .abs, [.int i] => some (.int (if i < 0 then -i else i))
  | .max1, [.list xs] => (allI xs).bind fun
    | [] => none
    | a :: r => some (.int (maxL a r))
  | .min1, [.list xs] => (allI xs).bind fun
    | [] => none
    | a :: r => some (.int (minL a r))
  | .max2, [.int i, .int j] => some (.int (if j > i then j else i))
  | .min2, [.int i, .int j] => some (.int (if j < i then j else i))
  | .sum, [.list xs] => (allI xs).map fun l => .int l.sum
  | .all, [.list xs] => (allB xs).map fun l => .bool (l.all id)
  | .any, [.list xs] => (allB xs).map fun l => .bool (l.any id)
  | .int, [.int i] => some (.int i)
  | .int, [.bool b] => some (.int (b2 b))
  | .str, [.bool b] => some (.str (if b then "True" else "False"))
  | .str, [.int i] => if i.natAbs.log2 < 1920 then some (.str (toString i : String)) else none
  | _, _ => none

def allS : List D → Option (List Str)
  | [] => some []
  | x :: xs => (asS x).bind fun i => (allS xs).map (i :: ·)
def sLe (x y : Str) : Bool := !decide (y.cps.toList < x.cps.toList)
def sortV (xs : List D) : Option (List D) := match allI xs with
  | some l => some ((l.mergeSort fun a b => decide (a ≤ b)).map .int)
  | none => (allS xs).bind fun l => if l.length < 64 then some ((l.mergeSort sLe).map .str) else none

/-! ### code -/
inductive Tg where
  | nm (i : Nat)
  | tp (is : List Nat)
mutual
inductive E where
  | var (i : Nat)
  | non | bl (b : Bool) | int (i : Int) | str (x : Str)
  | tup (es : Es)
  | op (o : BOp) (a b : E)
  | neg (a : E) | nt (a : E)
  | and (es : Es) | or (es : Es)
  | cmp (o : COp) (a b : E)
  | chn (o o' : COp) (a b c : E)
  | ite (c a b : E)
  | ix (a b : E)
  | slT (a hi : E) | slF (a lo : E) | slA (a lo hi : E) | rev (a : E)
  | call (f : Nat) (es : Es)
  | blt (f : Blt) (es : Es)
  | isi (a : E) (t : Ty)
  | toT (a : E)
  | app (o a : E) | pop (o a : E) | popE (o : E)
  | cnt (o a : E) | idx (o a : E)
  | new (a : F)
  | box (a : F)
/-- what makes a new list -/
inductive F where
  | lst (es : Es)
  | cat (a b : E) | rep (a b : E)
  | slT (a hi : E) | slF (a lo : E) | rev (a : E)
  | toL (a : E)
  | srt (a : E)
  | cmp (e : E) (t : Tg) (own : List Nat) (it : It) (c : E)
inductive Es where
  | nil
  | cons (e : E) (es : Es)
inductive It where
  | ex (e : E)
  | r1 (a : E) | r2 (a b : E)
  | z2 (a b : E)
  | en (a : E)
end
mutual
inductive S where
  | asg (t : Tg) (e : E)
  | par (is : List Nat) (es : Es)
  | aug (i : Nat) (e : E)
  | set (o i e : E)
  | ex (e : E)
  | ite (c : E) (a b : B)
  | for_ (t : Tg) (it : It) (b : B)
  | whl (c : E) (b : B)
  | ret (e : E)
  | rse (c : Nat)
  | try_ (b : B) (hs : List (Nat × Str))
  | frz (i : Nat)
inductive B where
  | nil
  | cons (s : S) (b : B)
end
structure Def where
  name : Str
  np : Nat
  N : List Str
  body : B

/-! ### meaning -/
def asgT : Tg → Vl → Env → Option Env
  | .nm i, v, en => if i < en.length then some (en.set i (some v)) else none
  | .tp is, .d (.tuple xs), en => if xs.length = is.length then some ((is.zip xs).foldl (fun en p => en.set p.1 (some (.d p.2))) en) else none
  | .tp _, _, _ => none
def wipe (en : Env) : List Nat → Env
  | [] => en
  | v :: vs => (wipe en vs).set v none
def setC (n : Nat) (c : Cell) : M Unit := fun h => some (.ok (), h.set n c)
def newC (c : Cell) : M Vl := fun h => some (.ok (.r h.length), h ++ [c])
def cellAt (n : Nat) : M Cell := fun h => h[n]?.map fun c => (.ok c, h)
def appM : Vl → D → M Vl
  | .r n, y => fun h => match h[n]? with
    | some (.lst xs) => if xs.length < sizeLine then some (.ok (.d .none), h.set n (.lst (xs ++ [y]))) else none
    | _ => none
  | _, _ => fail
def popM : Vl → D → M Vl
  | .r n, .int i => fun h => match h[n]? with
    | some (.lst xs) => if -(2 ^ 63) ≤ i ∧ i < 2 ^ 63 then
        match seqIndex? i xs.length with
        | some k => (match xs[k]? with
          | some y => some (.ok (.d y), h.set n (.lst (xs.eraseIdx k)))
          | none => none)
        | none => none
      else none
    | _ => none
  | _, _ => fail
def popEM : Vl → M Vl
  | .r n => fun h => match h[n]? with
    | some (.lst xs) => (match xs[xs.length - 1]? with
      | some y => some (.ok (.d y), h.set n (.lst xs.dropLast))
      | none => none)
    | _ => none
  | _ => fail
def setM : Vl → D → D → M Unit
  | .r n, .int i, y => fun h => match h[n]? with
    | some (.lst xs) => (match ixN xs.length i with
      | some j => some (.ok (), h.set n (.lst (xs.set j y)))
      | none => none)
    | _ => none
  | _, _, _ => fail
open Classical in
/-- the mutable list that is walked is as it was -/
noncomputable def same (dep : Option (Nat × Cell)) : M Unit := fun h => match dep with
  | none => some (.ok (), h)
  | some (n, c) => if h[n]? = some c then some (.ok (), h) else none
def depOf : Vl → M (Option (Nat × Cell))
  | .r n => fun h => h[n]?.map fun c => (.ok (some (n, c)), h)
  | _ => M.pure none
def itemsV : D → Option (List D)
  | .list xs => some xs
  | .tuple xs => some xs
  | .str z => if z.cps.size ≤ sizeLine then some (z.cps.toList.map fun c => .str ⟨#[c]⟩) else none
  | _ => none
def zipD : List D → List D → List D
  | x :: xs, y :: ys => .tuple [x, y] :: zipD xs ys
  | _, _ => []
def zip2V : D → D → Option (List D)
  | .list a, .list b => some (zipD a b)
  | .tuple a, .tuple b => some (zipD a b)
  | _, _ => none
def enumD : Nat → List D → List D
  | _, [] => []
  | n, x :: xs => .tuple [.int n, x] :: enumD (n + 1) xs
def rangeD (lo : Int) (n : Nat) : List D := (List.range n).map fun (i : Nat) => .int (lo + (i : Int))
def sm (i : Int) : Bool := decide (-(2 ^ 62) ≤ i ∧ i < 2 ^ 62)
def rng (i j : Int) : Option (List D) := if sm i && sm j && decide ((j - i).toNat ≤ sizeLine) then some (rangeD i (j - i).toNat) else none
def asD : Vl → M D
  | .d x => M.pure x
  | _ => fail
def noExc (x : M α) : M α := fun h => match x h with
  | some (.ok a, h1) => some (.ok a, h1)
  | _ => none
/-- a comprehension's turns -/
noncomputable def compL (dep : Option (Nat × Cell)) (f : D → M (Option D)) : List D → M (List D)
  | [] => M.bind (same dep) fun _ => M.pure []
  | x :: xs => M.bind (same dep) fun _ => M.bind (noExc (f x)) fun y => M.bind (compL dep f xs) fun ys => M.pure (match y with
    | some y => y :: ys
    | none => ys)
inductive SO where
  | next (en : Env)
  | ret (v : Vl)
noncomputable def forL (dep : Option (Nat × Cell)) (f : D → Env → M SO) : List D → Env → M SO
  | [], en => M.bind (same dep) fun _ => M.pure (.next en)
  | x :: xs, en => M.bind (same dep) fun _ => M.bind (f x en) fun
    | .next en' => forL dep f xs en'
    | .ret v => M.pure (.ret v)
noncomputable def whlL (c : Env → M Bool) (f : Env → M SO) : Nat → Env → M SO
  | 0, _ => fail
  | n + 1, en => M.bind (c en) fun b => if b then M.bind (f en) fun
    | .next en' => whlL c f n en'
    | .ret v => M.pure (.ret v)
    else M.pure (.next en)
def tryM (hs : List (Nat × Str)) (x : M SO) : M SO := fun h => match x h with
  | some (.exc c, h1) => (match hs.find? (fun p => p.1 == c) with
    | some p => some (.ok (.ret (.d (.str p.2))), h1)
    | none => some (.exc c, h1))
  | r => r
def frzM (i : Nat) (en : Env) : M SO := match en[i]? with
  | some (some (.r n)) => fun h => match h[n]? with
    | some (.lst xs) => some (.ok (.next (en.set i (some (.d (.list xs))))), h.set n .dead)
    | _ => none
  | _ => fail
def part (x : M D) : M (Option Int) := M.bind x fun d => ofO ((asI d).map some)
/-- the call's table -/
abbrev CF := Nat → List Vl → M Vl
/-- read now -/
def dd (x : M Vl) : M D := M.bind x rd
def tt (x : M Vl) : M Bool := M.bind x fun v => M.bind (rd v) fun d => ofO (truth d)
def rd2 (x y : M Vl) (f : D → D → M β) : M β := M.bind x fun v => M.bind y fun w => M.bind (rd v) fun a => M.bind (rd w) fun b => f a b
def rds : List Vl → M (List D)
  | [] => M.pure []
  | v :: vs => M.bind (rd v) fun x => M.bind (rds vs) fun xs => M.pure (x :: xs)
def asDs : List Vl → M (List D)
  | [] => M.pure []
  | v :: vs => M.bind (asD v) fun x => M.bind (asDs vs) fun xs => M.pure (x :: xs)
/-- a list that is mine -/
def rdL : Vl → M (List D)
  | .d (.list xs) => M.pure xs
  | .r n => fun h => match h[n]? with
    | some (.lst xs) => some (.ok xs, h)
    | _ => none
  | _ => fail
def prt (x : M Vl) : M Int := M.bind x fun v => M.bind (asD v) fun d => ofO (asI d)
def varM (i : Nat) (en : Env) : M Vl := match en[i]? with
  | some (some v) => M.pure v
  | _ => fail
def strM (x : Str) : M Vl := if okS x then M.pure (.d (.str x)) else fail
def pD (x : D) : M Vl := M.pure (.d x)
def pO (x : Option D) : M Vl := M.bind (ofO x) pD
/-- a comprehension's turn -/
def turnM (t : Tg) (own : List Nat) (en : Env) (cnd : Env → M Bool) (elt : Env → M Vl) (x : D) : M (Option D) :=
  M.bind (ofO (asgT t (.d x) (wipe en own))) fun en1 => M.bind (cnd en1) fun k => if k then M.bind (elt en1) fun v => M.bind (asD v) fun y => M.pure (some y) else M.pure none
def augM (i : Nat) (ev : Env → M Vl) (en : Env) : M SO := match en[i]? with
  | some (some v) => M.bind (ev en) fun w => M.bind (asD v) fun x => M.bind (asD w) fun y => M.bind (ofO (match x, y with
      | .int a, .int b => some (D.int (a + b))
      | _, _ => none)) fun z => M.pure (.next (en.set i (some (.d z))))
  | _ => fail
section
variable (cf : CF)
mutual
noncomputable def evE : E → Env → M Vl
  | .var i, en => varM i en
  | .non, _ => pD .none
  | .bl b, _ => pD (.bool b)
  | .int i, _ => pD (.int i)
  | .str x, _ => strM x
  | .tup es, en => M.bind (evEs es en) fun vs => M.bind (asDs vs) fun xs => if xs.length ≤ sizeLine then pD (.tuple xs) else fail
  | .op o a b, en => rd2 (evE a en) (evE b en) fun x y => pO (binV o x y)
  | .neg a, en => M.bind (dd (evE a en)) fun x => pO (negV x)
  | .nt a, en => M.bind (tt (evE a en)) fun b => pD (.bool !b)
  | .and es, en => evAnd es en
  | .or es, en => evOr es en
  | .cmp o a b, en => rd2 (evE a en) (evE b en) fun x y => pO ((cmpV o x y).map .bool)
  | .chn o o' a b c, en => M.bind (evE a en) fun va => M.bind (evE b en) fun vb => M.bind (asD va) fun x => M.bind (asD vb) fun y => M.bind (ofO (cmpV o x y)) fun k =>
      if k then M.bind (evE c en) fun vc => M.bind (asD vc) fun z => pO ((cmpV o' y z).map .bool) else pD (.bool false)
  | .ite c a b, en => M.bind (tt (evE c en)) fun k => if k then evE a en else evE b en
  | .ix a b, en => rd2 (evE a en) (evE b en) fun x y => pO (ixV x y)
  | .slT a hi, en => M.bind (evE a en) fun v => M.bind (prt (evE hi en)) fun u => M.bind (rd v) fun x => pO (sliceV x none (some u))
  | .slF a lo, en => M.bind (evE a en) fun v => M.bind (prt (evE lo en)) fun l => M.bind (rd v) fun x => pO (sliceV x (some l) none)
  | .slA a lo hi, en => M.bind (evE a en) fun v => M.bind (prt (evE lo en)) fun l => M.bind (prt (evE hi en)) fun u => M.bind (rd v) fun x => pO (sliceV x (some l) (some u))
  | .rev a, en => M.bind (dd (evE a en)) fun x => pO ((asT x).map fun xs => .tuple xs.reverse)
  | .call f es, en => M.bind (evEs es en) fun vs => cf f vs
  | .blt f es, en => M.bind (evEs es en) fun vs => M.bind (rds vs) fun xs => pO (bltV f xs)
  | .isi a t, en => M.bind (dd (evE a en)) fun x => pD (.bool (isTy x t))
  | .toT a, en => M.bind (dd (evE a en)) fun x => pO ((asSeq x).map .tuple)
  | .app o a, en => M.bind (evE o en) fun v => M.bind (rdL v) fun _ => M.bind (evE a en) fun w => M.bind (asD w) fun y => appM v y
  | .pop o a, en => M.bind (evE o en) fun v => M.bind (rdL v) fun _ => M.bind (evE a en) fun w => M.bind (asD w) fun y => popM v y
  | .popE o, en => M.bind (evE o en) fun v => M.bind (rdL v) fun _ => popEM v
  | .cnt o a, en => rd2 (evE o en) (evE a en) fun x y => pO ((asL x).bind fun xs => (allI xs).bind fun l => (asI y).map fun i => .int (l.count i))
  | .idx o a, en => rd2 (evE o en) (evE a en) fun x y => pO ((asSeq x).bind fun xs => if min (deps xs) (dep y) ≤ 60 then (xs.findIdx? fun z => eqv z y).map fun j => .int (j : Nat) else none)
  | .new a, en => M.bind (evF a en) fun xs => pD (.list xs)
  | .box a, en => M.bind (evF a en) fun xs => newC (.lst xs)
noncomputable def evF : F → Env → M (List D)
  | .lst es, en => M.bind (evEs es en) fun vs => M.bind (asDs vs) fun xs => if xs.length ≤ sizeLine then M.pure xs else fail
  | .cat a b, en => M.bind (evE a en) fun v => M.bind (evE b en) fun w => M.bind (rdL v) fun xs => M.bind (rdL w) fun ys => if xs.length + ys.length ≤ sizeLine then M.pure (xs ++ ys) else fail
  | .rep a b, en => M.bind (evE a en) fun v => M.bind (evE b en) fun w => M.bind (rdL v) fun xs => M.bind (asD w) fun y => ofO (repL xs y)
  | .slT a hi, en => M.bind (evE a en) fun v => M.bind (prt (evE hi en)) fun u => M.bind (rd v) fun x => ofO (sliceL x none (some u))
  | .slF a lo, en => M.bind (evE a en) fun v => M.bind (prt (evE lo en)) fun l => M.bind (rd v) fun x => ofO (sliceL x (some l) none)
  | .rev a, en => M.bind (dd (evE a en)) fun x => ofO ((asL x).map List.reverse)
  | .toL a, en => M.bind (dd (evE a en)) fun x => ofO (asSeq x)
  | .srt a, en => M.bind (dd (evE a en)) fun x => ofO ((asL x).bind sortV)
  | .cmp e t own it c, en => M.bind (evI it en) fun p => compL p.1 (turnM t own en (fun en => tt (evE c en)) (fun en => evE e en)) p.2
noncomputable def evEs : Es → Env → M (List Vl)
  | .nil, _ => M.pure []
  | .cons e es, en => M.bind (evE e en) fun v => M.bind (evEs es en) fun vs => M.pure (v :: vs)
noncomputable def evAnd : Es → Env → M Vl
  | .nil, _ => fail
  | .cons e .nil, en => evE e en
  | .cons e (.cons e' es), en => M.bind (evE e en) fun v => M.bind (rd v) fun x => M.bind (ofO (truth x)) fun k => if k then evAnd (.cons e' es) en else M.pure v
noncomputable def evOr : Es → Env → M Vl
  | .nil, _ => fail
  | .cons e .nil, en => evE e en
  | .cons e (.cons e' es), en => M.bind (evE e en) fun v => M.bind (rd v) fun x => M.bind (ofO (truth x)) fun k => if k then M.pure v else evOr (.cons e' es) en
noncomputable def evI : It → Env → M (Option (Nat × Cell) × List D)
  | .ex e, en => M.bind (evE e en) fun v => M.bind (depOf v) fun dp => M.bind (rd v) fun x => M.bind (ofO (itemsV x)) fun xs => M.pure (dp, xs)
  | .r1 a, en => M.bind (dd (evE a en)) fun x => M.bind (ofO ((asI x).bind fun j => rng 0 j)) fun xs => M.pure (none, xs)
  | .r2 a b, en => rd2 (evE a en) (evE b en) fun x y => M.bind (ofO ((asI x).bind fun i => (asI y).bind fun j => rng i j)) fun xs => M.pure (none, xs)
  | .z2 a b, en => M.bind (evE a en) fun v => M.bind (evE b en) fun w => M.bind (asD v) fun x => M.bind (asD w) fun y => M.bind (ofO (zip2V x y)) fun xs => M.pure (none, xs)
  | .en a, en => M.bind (evE a en) fun v => M.bind (asD v) fun x => M.bind (ofO ((asL x).map (enumD 0))) fun xs => M.pure (none, xs)
end
mutual
noncomputable def evS (W : Nat) : S → Env → M SO
  | .asg t e, en => M.bind (evE cf e en) fun v => M.bind (ofO (asgT t v en)) fun en' => M.pure (.next en')
  | .par is es, en => M.bind (evEs cf es en) fun vs => if vs.length = is.length ∧ is.all (· < en.length) then M.pure (.next ((is.zip vs).foldl (fun en p => en.set p.1 (some p.2)) en)) else fail
  | .aug i e, en => augM i (fun en => evE cf e en) en
  | .set o i e, en => M.bind (evE cf e en) fun u => M.bind (evE cf o en) fun v => M.bind (evE cf i en) fun w => M.bind (asD w) fun k => M.bind (asD u) fun y => M.bind (setM v k y) fun _ => M.pure (.next en)
  | .ex e, en => M.bind (evE cf e en) fun _ => M.pure (.next en)
  | .ite c a b, en => M.bind (tt (evE cf c en)) fun k => if k then evB W a en else evB W b en
  | .for_ t it b, en => M.bind (evI cf it en) fun p => forL p.1 (fun x en => M.bind (ofO (asgT t (.d x) en)) fun en1 => evB W b en1) p.2 en
  | .whl c b, en => whlL (fun en => tt (evE cf c en)) (fun en => evB W b en) W en
  | .ret e, en => M.bind (evE cf e en) fun v => M.pure (.ret v)
  | .rse c, _ => raise c
  | .try_ b hs, en => tryM hs (evB W b en)
  | .frz i, en => frzM i en
noncomputable def evB (W : Nat) : B → Env → M SO
  | .nil, en => M.pure (.next en)
  | .cons s b, en => M.bind (evS W s en) fun
    | .next en' => evB W b en'
    | .ret v => M.pure (.ret v)
end
end
/-- a call leaves no cell of its own -/
def shut (n : Nat) (x : M SO) : M Vl := fun h => match x h with
  | some (.ok (.ret (.d v)), h1) => some (.ok (.d v), h1.take n)
  | some (.ok (.ret (.k v)), h1) => some (.ok (.k v), h1.take n)
  | some (.ok (.ret (.r i)), h1) => if i < n then some (.ok (.r i), h1.take n) else none
  | some (.ok (.next _), h1) => some (.ok (.d .none), h1.take n)
  | some (.exc c, h1) => some (.exc c, h1.take n)
  | none => none
noncomputable def callF (Φ : Nat → Option Def) (W : Nat) : Nat → CF
  | 0, _, _ => fail
  | k + 1, f, vs => match Φ f with
    | some d => if vs.length = d.np then fun h => shut h.length (evB (callF Φ W k) W d.body (vs.map some ++ List.replicate (d.N.length - d.np) none)) h else fail
    | none => fail
end Jr

set_option Elab.async false
set_option linter.all false
set_option maxRecDepth 100000
set_option maxHeartbeats 1000000
namespace Jr
open PySem PySem.Spec PyProof.Rows L2
def keyD : Key → D
  | .inl i => .int i
  | .inr x => .str x
/-! ### data in the abstract heap -/
mutual
inductive RD (Pr : Addr → Prop) (H : Hp) : D → V → Prop
  | non : RD Pr H .none .non
  | bool (b : Bool) : RD Pr H (.bool b) (.bl b)
  | int (i : Int) : RD Pr H (.int i) (.int i)
  | str (x : Str) (ok : okS x = true) : RD Pr H (.str x) (.str x)
  | tup {p : Addr} {ds : List D} {vs : List V} : ¬ Pr p → H p = some (.tup vs) → ds.length ≤ sizeLine → RDs Pr H ds vs → RD Pr H (.tuple ds) (.ref p)
  | lst {p : Addr} {ds : List D} {vs : List V} : ¬ Pr p → H p = some (.lst vs) → ds.length ≤ sizeLine → RDs Pr H ds vs → RD Pr H (.list ds) (.ref p)
inductive RDs (Pr : Addr → Prop) (H : Hp) : List D → List V → Prop
  | nil : RDs Pr H [] []
  | cons {d : D} {v : V} {ds : List D} {vs : List V} : RD Pr H d v → RDs Pr H ds vs → RDs Pr H (d :: ds) (v :: vs)
end
inductive RKs (Pr : Addr → Prop) (H : Hp) : List (D × D) → List (Key × V) → Prop
  | nil : RKs Pr H [] []
  | cons {k : Key} {d : D} {v : V} {ds : List (D × D)} {vs : List (Key × V)} : RD Pr H d v → RKs Pr H ds vs → RKs Pr H ((keyD k, d) :: ds) ((k, v) :: vs)
/-- what is not protected stays, and stays not protected -/
def Gr (Pr : Addr → Prop) (H : Hp) (Pr' : Addr → Prop) (H' : Hp) : Prop := ∀ a o, H a = some o → ¬ Pr a → H' a = some o ∧ ¬ Pr' a
section
variable {Pr Pr' : Addr → Prop} {H H' : Hp}
mutual
theorem RD.gr (g : Gr Pr H Pr' H') : ∀ (d : D) (v : V), RD Pr H d v → RD Pr' H' d v
  | .none, _, h => by cases h; exact .non
  | .bool b, _, h => by cases h; exact .bool b
  | .int i, _, h => by cases h; exact .int i
  | .str x, _, h => by cases h with | str x ok => exact .str x ok
  | .tuple ds, _, h => by
    cases h with
    | tup a b z c => exact .tup (g _ _ b a).2 (g _ _ b a).1 z (RDs.gr g ds _ c)
  | .list ds, _, h => by
    cases h with
    | lst a b z c => exact .lst (g _ _ b a).2 (g _ _ b a).1 z (RDs.gr g ds _ c)
theorem RDs.gr (g : Gr Pr H Pr' H') : ∀ (ds : List D) (vs : List V), RDs Pr H ds vs → RDs Pr' H' ds vs
  | [], _, h => by cases h; exact .nil
  | d :: ds, _, h => by
    cases h with
    | cons a b => exact .cons (RD.gr g d _ a) (RDs.gr g ds _ b)
end
theorem RKs.gr (g : Gr Pr H Pr' H') : ∀ (ds : List (D × D)) (vs : List (Key × V)), RKs Pr H ds vs → RKs Pr' H' ds vs
  | [], _, h => by cases h; exact .nil
  | (k, d) :: ds, _, h => by
    cases h with
    | cons a b => exact .cons (RD.gr g d _ a) (RKs.gr g ds _ b)
theorem RDs.length : ∀ {ds : List D} {vs : List V}, RDs Pr H ds vs → ds.length = vs.length
  | _, _, .nil => rfl
  | _, _, .cons _ t => by rw [List.length_cons, List.length_cons, RDs.length t]
theorem RDs.get : ∀ {ds : List D} {vs : List V} {i : Nat} {d : D}, RDs Pr H ds vs → ds[i]? = some d → ∃ v, vs[i]? = some v ∧ RD Pr H d v
  | _, _, _, _, .nil, e => by simp at e
  | _, _, 0, _, .cons r _, e => by simp at e; subst e; exact ⟨_, rfl, r⟩
  | _, _, i + 1, d, .cons _ t, e => by
    obtain ⟨v, h1, h2⟩ := RDs.get (i := i) (d := d) t (by simpa using e)
    exact ⟨v, by simpa using h1, h2⟩
theorem RDs.append : ∀ {ds es : List D} {vs ws : List V}, RDs Pr H ds vs → RDs Pr H es ws → RDs Pr H (ds ++ es) (vs ++ ws)
  | _, _, _, _, .nil, s => s
  | _, _, _, _, .cons r t, s => .cons r (RDs.append t s)
theorem RDs.take : ∀ {ds : List D} {vs : List V} (n : Nat), RDs Pr H ds vs → RDs Pr H (ds.take n) (vs.take n)
  | _, _, 0, _ => .nil
  | _, _, _ + 1, .nil => .nil
  | _, _, n + 1, .cons r t => .cons r (RDs.take n t)
theorem RDs.drop : ∀ {ds : List D} {vs : List V} (n : Nat), RDs Pr H ds vs → RDs Pr H (ds.drop n) (vs.drop n)
  | _, _, 0, r => r
  | _, _, _ + 1, .nil => .nil
  | _, _, n + 1, .cons _ t => RDs.drop n t
theorem RDs.reverse : ∀ {ds : List D} {vs : List V}, RDs Pr H ds vs → RDs Pr H ds.reverse vs.reverse
  | _, _, .nil => .nil
  | _, _, .cons r t => by rw [List.reverse_cons, List.reverse_cons]; exact RDs.append (RDs.reverse t) (.cons r .nil)
theorem RDs.set {d : D} {v : V} (r : RD Pr H d v) : ∀ {ds : List D} {vs : List V} (i : Nat), RDs Pr H ds vs → RDs Pr H (ds.set i d) (vs.set i v)
  | _, _, _, .nil => .nil
  | _, _, 0, .cons _ t => .cons r t
  | _, _, i + 1, .cons q t => .cons q (RDs.set r i t)
theorem RDs.eraseIdx : ∀ {ds : List D} {vs : List V} (i : Nat), RDs Pr H ds vs → RDs Pr H (ds.eraseIdx i) (vs.eraseIdx i)
  | _, _, _, .nil => .nil
  | _, _, 0, .cons _ t => t
  | _, _, i + 1, .cons q t => .cons q (RDs.eraseIdx i t)
theorem RDs.rep {ds : List D} {vs : List V} (h : RDs Pr H ds vs) : ∀ k : Nat, RDs Pr H (List.replicate k ds).flatten (List.replicate k vs).flatten
  | 0 => .nil
  | k + 1 => by
    rw [List.replicate_succ, List.replicate_succ, List.flatten_cons, List.flatten_cons]
    exact RDs.append h (RDs.rep h k)
end
/-! ### the heap of cells -/
def live : Cell → Bool
  | .lst _ => true
  | .dct _ => true
  | _ => false
/-- protected: by hand, or a live cell's own -/
def Pr (L : Addr → Prop) (ρ : List Addr) (h : Hh) : Addr → Prop := fun a => L a ∨ ∃ (i : Nat) (c : Cell), ρ[i]? = some a ∧ h[i]? = some c ∧ live c = true
def KL (K : PySem.W.Frag) (a : Addr) (xs : List V) : Prop := ∃ (o : Obj) (its : Array Value) (n : Nat), K.lookup a = some o ∧ o.cls = .type "list" ∧ o.dict = none ∧ o.data = .seq its n ∧ its.size ≤ sizeLine ∧ Vals xs its.toList
def CR (K : PySem.W.Frag) (P : Addr → Prop) (H : Hp) (a : Addr) : Cell → Prop
  | .dead => True
  | .ro ds => ∃ vs, ((¬ P a ∧ ∃ o, H a = some (.frz o (.lst vs))) ∨ KL K a vs) ∧ ds.length ≤ sizeLine ∧ RDs P H ds vs
  | .lst ds => ∃ vs, H a = some (.lst vs) ∧ ds.length ≤ sizeLine ∧ RDs P H ds vs
  | .dct kvs => ∃ vs, H a = some (.dK vs) ∧ RKs P H kvs vs
structure HR (K : PySem.W.Frag) (L : Addr → Prop) (ρ : List Addr) (h : Hh) (H : Hp) : Prop where
  len : ρ.length = h.length
  nd : ∀ (i j : Nat) (a : Addr) (ci cj : Cell), ρ[i]? = some a → ρ[j]? = some a → h[i]? = some ci → h[j]? = some cj → live ci = true → live cj = true → i = j
  dis : ∀ (i : Nat) (a : Addr) (c : Cell), ρ[i]? = some a → h[i]? = some c → live c = true → ¬ L a
  ltr : ∀ a, L a → H a ≠ none
  cell : ∀ (i : Nat) (a : Addr) (c : Cell), ρ[i]? = some a → h[i]? = some c → CR K (Pr L ρ h) H a c
structure Stp (L : Addr → Prop) (ρ : List Addr) (h : Hh) (H : Hp) (ρ' : List Addr) (h' : Hh) (H' : Hp) : Prop where
  gr : Gr (Pr L ρ h) H (Pr L ρ' h') H'
  fix : ∀ a, L a → H' a = H a
  pre : ∀ (i : Nat) (a : Addr), ρ[i]? = some a → ρ'[i]? = some a
def RV (P : Addr → Prop) (ρ : List Addr) (H : Hp) : Vl → V → Prop
  | .d x, v => RD P H x v
  | .r n, v => ∃ a, ρ[n]? = some a ∧ v = .ref a
  | .k kvs, v => ∃ p vs, ¬ P p ∧ v = .ref p ∧ H p = some (.dK vs) ∧ RKs P H kvs vs
inductive RVs (P : Addr → Prop) (ρ : List Addr) (H : Hp) : List Vl → List V → Prop
  | nil : RVs P ρ H [] []
  | cons {x : Vl} {v : V} {xs : List Vl} {vs : List V} : RV P ρ H x v → RVs P ρ H xs vs → RVs P ρ H (x :: xs) (v :: vs)
structure ER (P : Addr → Prop) (ρ : List Addr) (H : Hp) (en : Env) (σ : L2.St) : Prop where
  len : en.length = σ.length
  at_ : ∀ (i : Nat) (x : Vl), en[i]? = some (some x) → ∃ v, σ[i]? = some (some v) ∧ RV P ρ H x v
section
variable {K : PySem.W.Frag} {L : Addr → Prop} {ρ ρ1 ρ2 : List Addr} {h h1 h2 : Hh} {H H1 H2 : Hp}
theorem Gr.refl {P : Addr → Prop} : Gr P H P H := fun _ _ e n => ⟨e, n⟩
theorem Stp.refl : Stp L ρ h H ρ h H := ⟨Gr.refl, fun _ _ => rfl, fun _ _ e => e⟩
theorem Stp.trans (a : Stp L ρ h H ρ1 h1 H1) (b : Stp L ρ1 h1 H1 ρ2 h2 H2) : Stp L ρ h H ρ2 h2 H2 :=
  ⟨fun c o e n => let ⟨e1, n1⟩ := a.gr c o e n; b.gr c o e1 n1, fun c l => (b.fix c l).trans (a.fix c l), fun i c e => b.pre i c (a.pre i c e)⟩
theorem RV.step (s : Stp L ρ h H ρ1 h1 H1) {x : Vl} {v : V} (r : RV (Pr L ρ h) ρ H x v) : RV (Pr L ρ1 h1) ρ1 H1 x v := by
  cases x with
  | d x => exact RD.gr s.gr _ _ r
  | r n => obtain ⟨a, e, rfl⟩ := r; exact ⟨a, s.pre _ _ e, rfl⟩
  | k kvs => obtain ⟨p, vs, np, e, e1, c⟩ := r; exact ⟨p, vs, (s.gr _ _ e1 np).2, e, (s.gr _ _ e1 np).1, RKs.gr s.gr _ _ c⟩
theorem RVs.step (s : Stp L ρ h H ρ1 h1 H1) : ∀ {xs : List Vl} {vs : List V}, RVs (Pr L ρ h) ρ H xs vs → RVs (Pr L ρ1 h1) ρ1 H1 xs vs
  | _, _, .nil => .nil
  | _, _, .cons a b => .cons (RV.step s a) (RVs.step s b)
theorem RVs.length {P : Addr → Prop} : ∀ {xs : List Vl} {vs : List V}, RVs P ρ H xs vs → xs.length = vs.length
  | _, _, .nil => rfl
  | _, _, .cons _ t => by rw [List.length_cons, List.length_cons, RVs.length t]
theorem ER.step (s : Stp L ρ h H ρ1 h1 H1) {en : Env} {σ : L2.St} (r : ER (Pr L ρ h) ρ H en σ) : ER (Pr L ρ1 h1) ρ1 H1 en σ :=
  ⟨r.len, fun i x e => let ⟨v, e1, e2⟩ := r.at_ i x e; ⟨v, e1, RV.step s e2⟩⟩
theorem ER.set {P : Addr → Prop} {en : Env} {σ : L2.St} (r : ER P ρ H en σ) {i : Nat} {x : Vl} {v : V} (q : RV P ρ H x v) : ER P ρ H (en.set i (some x)) (σ.set i (some v)) := by
  refine ⟨by rw [List.length_set, List.length_set]; exact r.len, fun j y e => ?_⟩
  by_cases hij : i = j
  · subst hij
    by_cases hl : i < en.length
    · rw [List.getElem?_set_self hl] at e
      cases e
      exact ⟨v, List.getElem?_set_self (by rw [← r.len]; exact hl), q⟩
    · rw [List.getElem?_eq_none (by simpa using hl)] at e; cases e
  · rw [List.getElem?_set_ne hij] at e
    obtain ⟨w, e1, e2⟩ := r.at_ j y e
    exact ⟨w, by rw [List.getElem?_set_ne hij]; exact e1, e2⟩
theorem ER.none_ {P : Addr → Prop} {en : Env} {σ : L2.St} (r : ER P ρ H en σ) (i : Nat) : ER P ρ H (en.set i none) (σ.set i none) := by
  refine ⟨by rw [List.length_set, List.length_set]; exact r.len, fun j y e => ?_⟩
  by_cases hij : i = j
  · subst hij
    by_cases hl : i < en.length
    · rw [List.getElem?_set_self hl] at e; cases e
    · rw [List.getElem?_eq_none (by simpa using hl)] at e; cases e
  · rw [List.getElem?_set_ne hij] at e
    obtain ⟨w, e1, e2⟩ := r.at_ j y e
    exact ⟨w, by rw [List.getElem?_set_ne hij]; exact e1, e2⟩
theorem ER.wipe {P : Addr → Prop} {en : Env} {σ : L2.St} (r : ER P ρ H en σ) : ∀ vs : List Nat, ER P ρ H (Jr.wipe en vs) (L2.wipe σ vs)
  | [] => r
  | v :: vs => (ER.wipe r vs).none_ v
theorem HR.pr_tracked (hr : HR K L ρ h H) {a : Addr} (n : H a = none) : ¬ Pr L ρ h a := by
  rintro (l | ⟨i, c, e1, e2, e3⟩)
  · exact hr.ltr a l n
  · have q := hr.cell i a c e1 e2
    cases c with
    | dead => cases e3
    | ro ds => cases e3
    | lst ds => obtain ⟨vs, e, _⟩ := q; rw [n] at e; cases e
    | dct ds => obtain ⟨vs, e, _⟩ := q; rw [n] at e; cases e
theorem CR.gr {P P' : Addr → Prop} {a : Addr} (g : Gr P H P' H1) (k : H1 a = H a) : ∀ {c : Cell}, CR K P H a c → CR K P' H1 a c
  | .dead, _ => trivial
  | .ro ds, ⟨vs, o, z, r⟩ => ⟨vs, o.imp (fun ⟨np, o, e⟩ => ⟨(g _ _ e np).2, o, (g _ _ e np).1⟩) id, z, RDs.gr g _ _ r⟩
  | .lst ds, ⟨vs, e, z, r⟩ => ⟨vs, k.trans e, z, RDs.gr g _ _ r⟩
  | .dct ds, ⟨vs, e, r⟩ => ⟨vs, k.trans e, RKs.gr g _ _ r⟩
/-- a new object that is not mine -/
theorem HR.new (hr : HR K L ρ h H) {p : Addr} {o : HO} (n : H p = none) : HR K L ρ h (upd H p o) ∧ Stp L ρ h H ρ h (upd H p o) := by
  have g : Gr (Pr L ρ h) H (Pr L ρ h) (upd H p o) := fun a u e q => ⟨by rw [upd_ne (ne_of_none e n)]; exact e, q⟩
  have ne : ∀ a, L a → a ≠ p := fun a l z => hr.ltr a l (by rw [z]; exact n)
  refine ⟨⟨hr.len, hr.nd, hr.dis, fun a l => ?_, fun i a c e1 e2 => ?_⟩, g, fun a l => ?_, fun _ _ e => e⟩
  · rw [upd_ne (ne a l)]; exact hr.ltr a l
  · have q := hr.cell i a c e1 e2
    cases c with
    | dead => trivial
    | ro ds => obtain ⟨vs, x, z, r⟩ := q; exact ⟨vs, x.imp (fun ⟨np, u, e⟩ => ⟨np, u, (g _ _ e np).1⟩) id, z, RDs.gr g _ _ r⟩
    | lst ds => obtain ⟨vs, e, z, r⟩ := q; exact ⟨vs, by rw [upd_ne (ne_of_none e n)]; exact e, z, RDs.gr g _ _ r⟩
    | dct ds => obtain ⟨vs, e, r⟩ := q; exact ⟨vs, by rw [upd_ne (ne_of_none e n)]; exact e, RKs.gr g _ _ r⟩
  · exact upd_ne (ne a l)
/-- a new cell -/
theorem HR.cellNew (hr : HR K L ρ h H) {p : Addr} {ds : List D} {vs : List V} (n : H p = none) (z : ds.length ≤ sizeLine) (r : RDs (Pr L ρ h) H ds vs) :
    HR K L (ρ ++ [p]) (h ++ [.lst ds]) (upd H p (.lst vs)) ∧ Stp L ρ h H (ρ ++ [p]) (h ++ [.lst ds]) (upd H p (.lst vs)) := by
  have lt : ∀ {i : Nat} {c : Cell}, h[i]? = some c → i < h.length := fun {i c} e => by
    rcases Nat.lt_or_ge i h.length with q | q
    · exact q
    · rw [List.getElem?_eq_none q] at e; cases e
  have ne : ∀ a, L a → a ≠ p := fun a l z => hr.ltr a l (by rw [z]; exact n)
  have old : ∀ {i : Nat} {a : Addr} {c : Cell}, (ρ ++ [p])[i]? = some a → (h ++ [Cell.lst ds])[i]? = some c → (i < h.length ∧ ρ[i]? = some a ∧ h[i]? = some c) ∨ (i = h.length ∧ a = p ∧ c = .lst ds) := fun {i a c} e1 e2 => by
    rcases Nat.lt_trichotomy i h.length with q | q | q
    · rw [List.getElem?_append_left (by rw [hr.len]; exact q)] at e1
      rw [List.getElem?_append_left q] at e2
      exact .inl ⟨q, e1, e2⟩
    · subst q
      rw [← hr.len, List.getElem?_append_right (Nat.le_refl _), Nat.sub_self] at e1
      rw [List.getElem?_append_right (Nat.le_refl _), Nat.sub_self] at e2
      cases e1; cases e2
      exact .inr ⟨rfl, rfl, rfl⟩
    · rw [List.getElem?_eq_none (by rw [List.length_append]; exact q)] at e2; cases e2
  have nlive : ∀ {i : Nat} {c : Cell}, ρ[i]? = some p → h[i]? = some c → live c = true → False := fun {i c} e1 e2 e3 => hr.pr_tracked n (.inr ⟨i, c, e1, e2, e3⟩)
  have prs : ∀ a, a ≠ p → ¬ Pr L ρ h a → ¬ Pr L (ρ ++ [p]) (h ++ [.lst ds]) a := fun a ne np => by
    rintro (l | ⟨i, c, e1, e2, e3⟩)
    · exact np (.inl l)
    · rcases old e1 e2 with ⟨_, f1, f2⟩ | ⟨_, f1, _⟩
      · exact np (.inr ⟨i, c, f1, f2, e3⟩)
      · exact ne f1
  have g : Gr (Pr L ρ h) H (Pr L (ρ ++ [p]) (h ++ [.lst ds])) (upd H p (.lst vs)) := fun a u e q => ⟨by rw [upd_ne (ne_of_none e n)]; exact e, prs a (ne_of_none e n) q⟩
  refine ⟨⟨by rw [List.length_append, List.length_append, hr.len]; rfl, fun i j a ci cj e1 e2 e3 e4 l1 l2 => ?_, fun i a c e1 e2 e3 l => ?_, fun a l => by rw [upd_ne (ne a l)]; exact hr.ltr a l, fun i a c e1 e2 => ?_⟩, g, fun a l => upd_ne (ne a l), fun i a e => ?_⟩
  · rcases old e1 e3 with ⟨_, f1, f2⟩ | ⟨f0, f1, f2⟩
    · rcases old e2 e4 with ⟨_, g1, g2⟩ | ⟨g0, g1, g2⟩
      · exact hr.nd i j a ci cj f1 g1 f2 g2 l1 l2
      · subst g1; exact (nlive f1 f2 l1).elim
    · rcases old e2 e4 with ⟨_, g1, g2⟩ | ⟨g0, g1, g2⟩
      · subst f1; exact (nlive g1 g2 l2).elim
      · rw [f0, g0]
  · rcases old e1 e2 with ⟨_, f1, f2⟩ | ⟨f0, f1, f2⟩
    · exact hr.dis i a c f1 f2 e3 l
    · exact ne a l f1
  · rcases old e1 e2 with ⟨_, f1, f2⟩ | ⟨f0, f1, f2⟩
    · have q := hr.cell i a c f1 f2
      cases c with
      | dead => trivial
      | ro es => obtain ⟨ws, x, z, r⟩ := q; exact ⟨ws, x.imp (fun ⟨np, u, e⟩ => ⟨(g _ _ e np).2, u, (g _ _ e np).1⟩) id, z, RDs.gr g _ _ r⟩
      | lst es => obtain ⟨ws, e, z, r⟩ := q; exact ⟨ws, by rw [upd_ne (ne_of_none e n)]; exact e, z, RDs.gr g _ _ r⟩
      | dct es => obtain ⟨ws, e, r⟩ := q; exact ⟨ws, by rw [upd_ne (ne_of_none e n)]; exact e, RKs.gr g _ _ r⟩
    · subst f1; subst f2
      exact ⟨vs, upd_same, z, RDs.gr g _ _ r⟩
  · rw [List.getElem?_append_left (by
      rcases Nat.lt_or_ge i ρ.length with q | q
      · exact q
      · rw [List.getElem?_eq_none q] at e; cases e)]
    exact e
/-- a live cell is written (or becomes dead) -/
theorem HR.cellSet (hr : HR K L ρ h H) {n : Nat} {p : Addr} {c0 : Cell} {ds : List D} {vs : List V} (e1 : ρ[n]? = some p) (e2 : h[n]? = some c0) (lv : live c0 = true) (z : ds.length ≤ sizeLine) (r : RDs (Pr L ρ h) H ds vs) :
    HR K L ρ (h.set n (.lst ds)) (upd H p (.lst vs)) ∧ Stp L ρ h H ρ (h.set n (.lst ds)) (upd H p (.lst vs)) := by
  have lt : n < h.length := by
    rcases Nat.lt_or_ge n h.length with q | q
    · exact q
    · rw [List.getElem?_eq_none q] at e2; cases e2
  have pp : Pr L ρ h p := .inr ⟨n, c0, e1, e2, lv⟩
  have ne : ∀ a, L a → a ≠ p := fun a l z => hr.dis n p c0 e1 e2 lv (z ▸ l)
  have old : ∀ {i : Nat} {c : Cell}, (h.set n (.lst ds))[i]? = some c → (i = n ∧ c = .lst ds) ∨ (i ≠ n ∧ h[i]? = some c) := fun {i c} e => by
    by_cases q : n = i
    · subst q
      rw [List.getElem?_set_self lt] at e
      cases e
      exact .inl ⟨rfl, rfl⟩
    · rw [List.getElem?_set_ne q] at e
      exact .inr ⟨fun z => q z.symm, e⟩
  have prs : ∀ a, ¬ Pr L ρ h a → ¬ Pr L ρ (h.set n (.lst ds)) a := fun a np => by
    rintro (l | ⟨i, c, f1, f2, f3⟩)
    · exact np (.inl l)
    · rcases old f2 with ⟨rfl, _⟩ | ⟨_, g⟩
      · exact np (.inr ⟨_, c0, f1, e2, lv⟩)
      · exact np (.inr ⟨i, c, f1, g, f3⟩)
  have nep : ∀ a, ¬ Pr L ρ h a → a ≠ p := fun a np z => np (z ▸ pp)
  have g : Gr (Pr L ρ h) H (Pr L ρ (h.set n (.lst ds))) (upd H p (.lst vs)) := fun a u e q => ⟨by rw [upd_ne (nep a q)]; exact e, prs a q⟩
  have lv0 : ∀ {i : Nat} {c : Cell}, (h.set n (.lst ds))[i]? = some c → live c = true → ∃ c', h[i]? = some c' ∧ live c' = true := fun {i c} e l => by
    rcases old e with ⟨rfl, _⟩ | ⟨_, g⟩
    · exact ⟨c0, e2, lv⟩
    · exact ⟨c, g, l⟩
  refine ⟨⟨by rw [List.length_set]; exact hr.len, fun i j a ci cj f1 f2 f3 f4 l1 l2 => ?_, fun i a c f1 f2 f3 => ?_, fun a l => by rw [upd_ne (ne a l)]; exact hr.ltr a l, fun i a c f1 f2 => ?_⟩, g, fun a l => upd_ne (ne a l), fun _ _ e => e⟩
  · obtain ⟨c1, g1, m1⟩ := lv0 f3 l1
    obtain ⟨c2, g2, m2⟩ := lv0 f4 l2
    exact hr.nd i j a c1 c2 f1 f2 g1 g2 m1 m2
  · obtain ⟨c1, g1, m1⟩ := lv0 f2 f3
    exact hr.dis i a c1 f1 g1 m1
  · rcases old f2 with ⟨rfl, rfl⟩ | ⟨hn, g1⟩
    · rw [e1] at f1; cases f1
      exact ⟨vs, upd_same, z, RDs.gr g _ _ r⟩
    · have q := hr.cell i a c f1 g1
      have nea : live c = true → a ≠ p := fun l z => by
        subst z
        exact hn (hr.nd i n a c c0 f1 e1 g1 e2 l lv)
      cases c with
      | dead => trivial
      | ro es => obtain ⟨ws, x, z, r⟩ := q; exact ⟨ws, x.imp (fun ⟨np, u, e⟩ => ⟨(g _ _ e np).2, u, (g _ _ e np).1⟩) id, z, RDs.gr g _ _ r⟩
      | lst es => obtain ⟨ws, e, z, r⟩ := q; exact ⟨ws, by rw [upd_ne (nea rfl)]; exact e, z, RDs.gr g _ _ r⟩
      | dct es => obtain ⟨ws, e, r⟩ := q; exact ⟨ws, by rw [upd_ne (nea rfl)]; exact e, RKs.gr g _ _ r⟩
theorem HR.cellDead (hr : HR K L ρ h H) (n : Nat) : HR K L ρ (h.set n .dead) H ∧ Stp L ρ h H ρ (h.set n .dead) H := by
  have old : ∀ {i : Nat} {c : Cell}, (h.set n .dead)[i]? = some c → c = .dead ∨ (i ≠ n ∧ h[i]? = some c) := fun {i c} e => by
    by_cases q : n = i
    · subst q
      rcases Nat.lt_or_ge n h.length with lt | ge
      · rw [List.getElem?_set_self lt] at e
        cases e
        exact .inl rfl
      · rw [List.getElem?_eq_none (by rw [List.length_set]; exact ge)] at e; cases e
    · rw [List.getElem?_set_ne q] at e
      exact .inr ⟨fun z => q z.symm, e⟩
  have lv0 : ∀ {i : Nat} {c : Cell}, (h.set n .dead)[i]? = some c → live c = true → h[i]? = some c := fun {i c} e l => by
    rcases old e with rfl | ⟨_, g⟩
    · cases l
    · exact g
  have g : Gr (Pr L ρ h) H (Pr L ρ (h.set n .dead)) H := fun a u e q => ⟨e, by
    rintro (l | ⟨i, c, f1, f2, f3⟩)
    · exact q (.inl l)
    · exact q (.inr ⟨i, c, f1, lv0 f2 f3, f3⟩)⟩
  refine ⟨⟨by rw [List.length_set]; exact hr.len, fun i j a ci cj f1 f2 f3 f4 l1 l2 => hr.nd i j a ci cj f1 f2 (lv0 f3 l1) (lv0 f4 l2) l1 l2, fun i a c f1 f2 f3 => hr.dis i a c f1 (lv0 f2 f3) f3, hr.ltr, fun i a c f1 f2 => ?_⟩, g, fun _ _ => rfl, fun _ _ e => e⟩
  rcases old f2 with rfl | ⟨_, g1⟩
  · trivial
  · exact CR.gr g rfl (hr.cell i a c f1 g1)
theorem HR.trunc (hr : HR K L ρ h H) (hr1 : HR K L ρ1 h1 H1) (s : Stp L ρ h H ρ1 h1 H1) : HR K L (ρ1.take h.length) (h1.take h.length) H1 ∧ Stp L ρ h H (ρ1.take h.length) (h1.take h.length) H1 ∧ Gr (Pr L ρ1 h1) H1 (Pr L (ρ1.take h.length) (h1.take h.length)) H1 := by
  have up : ∀ {α : Type} {l : List α} {m i : Nat} {x : α}, (l.take m)[i]? = some x → l[i]? = some x := fun {α l m i x} e => by
    rw [List.getElem?_take] at e
    split at e
    · exact e
    · cases e
  have prs : ∀ a, ¬ Pr L ρ1 h1 a → ¬ Pr L (ρ1.take h.length) (h1.take h.length) a := fun a np => by
    rintro (l | ⟨i, c, e1, e2, e3⟩)
    · exact np (.inl l)
    · exact np (.inr ⟨i, c, up e1, up e2, e3⟩)
  have g : Gr (Pr L ρ1 h1) H1 (Pr L (ρ1.take h.length) (h1.take h.length)) H1 := fun a u e q => ⟨e, prs a q⟩
  refine ⟨⟨?_, fun i j a ci cj e1 e2 e3 e4 l1 l2 => hr1.nd i j a ci cj (up e1) (up e2) (up e3) (up e4) l1 l2, fun i a c e1 e2 l => hr1.dis i a c (up e1) (up e2) l, hr1.ltr, fun i a c e1 e2 => CR.gr g rfl (hr1.cell i a c (up e1) (up e2))⟩,
    ⟨fun a o e n => let ⟨e1, n1⟩ := s.gr a o e n; ⟨e1, prs a n1⟩, s.fix, fun i a e => ?_⟩, g⟩
  · rw [List.length_take, List.length_take, hr1.len]
  · have lt : i < h.length := by
      rcases Nat.lt_or_ge i h.length with q | q
      · exact q
      · rw [List.getElem?_eq_none (by rw [hr.len]; exact q)] at e; cases e
    rw [List.getElem?_take, if_pos lt]
    exact s.pre i a e
theorem HR.np (hr : HR K L ρ h H) {p : Addr} (n : H p = none) : ¬ Pr L ρ h p := hr.pr_tracked n
end
end Jr

set_option Elab.async false
set_option linter.all false
set_option maxRecDepth 100000
set_option maxHeartbeats 1000000
namespace Jr
open PySem PySem.Spec PyProof.Rows L2
/-! ### outcomes -/
/-- an outcome of the pure meaning against what is wanted of the machine's: rel relates the results in the state behind -/
def Out {α τ : Type} (K : PySem.W.Frag) (C : Nat → Option Value) (L : Addr → Prop) (ρ : List Addr) (h : Hh) (H : Hp) (rel : List Addr → Hh → Hp → α → τ → Prop) (E : Value → Option Addr → Hp → Prop) (r : Option (R α × Hh)) (Q : τ → Hp → Prop) : Prop :=
  match r with
  | none => False
  | some (.ok x, h') => ∀ ρ' H' v, HR K L ρ' h' H' → Stp L ρ h H ρ' h' H' → rel ρ' h' H' x v → Q v H'
  | some (.exc c, h') => ∀ cv, C c = some cv → ∀ ρ' H' d, HR K L ρ' h' H' → Stp L ρ h H ρ' h' H' → E cv d H'
section
variable {α β τ υ : Type} {K : PySem.W.Frag} {C : Nat → Option Value} {L : Addr → Prop} {ρ ρ1 : List Addr} {h h1 : Hh} {H H1 : Hp} {E : Value → Option Addr → Hp → Prop}
theorem Out.rebase {rel : List Addr → Hh → Hp → α → τ → Prop} {r : Option (R α × Hh)} {Q : τ → Hp → Prop} (s : Stp L ρ h H ρ1 h1 H1) (o : Out K C L ρ h H rel E r Q) : Out K C L ρ1 h1 H1 rel E r Q := by
  match r, o with
  | some (.ok x, h'), o => exact fun ρ' H' v a b c => o ρ' H' v a (s.trans b) c
  | some (.exc c, h'), o => exact fun cv hc ρ' H' d a b => o cv hc ρ' H' d a (s.trans b)
theorem Out.mono {rel : List Addr → Hh → Hp → α → τ → Prop} {r : Option (R α × Hh)} {Q Q' : τ → Hp → Prop} (o : Out K C L ρ h H rel E r Q) (q : ∀ v H', Q v H' → Q' v H') : Out K C L ρ h H rel E r Q' := by
  match r, o with
  | some (.ok x, h'), o => exact fun ρ' H' v a b c => q _ _ (o ρ' H' v a b c)
  | some (.exc c, h'), o => exact o
/-- the first part of a chain -/
theorem Out.split {rel : List Addr → Hh → Hp → α → τ → Prop} {rel' : List Addr → Hh → Hp → β → υ → Prop} {m : M α} {f : α → M β} {Q : υ → Hp → Prop} (o : Out K C L ρ h H rel' E (M.bind m f h) Q) :
    Out K C L ρ h H rel E (m h) (fun v H1 => ∃ ρ1 h1 x, HR K L ρ1 h1 H1 ∧ Stp L ρ h H ρ1 h1 H1 ∧ rel ρ1 h1 H1 x v ∧ Out K C L ρ1 h1 H1 rel' E (f x h1) Q) := by
  unfold M.bind at o
  cases e : m h with
  | none => rw [e] at o; exact o
  | some p =>
    obtain ⟨r, h'⟩ := p
    rw [e] at o
    cases r with
    | ok x => exact fun ρ' H' v a b c => ⟨ρ', h', x, a, b, c, o.rebase b⟩
    | exc c => exact o
/-- a step that stays -/
theorem Out.at_ {rel' : List Addr → Hh → Hp → β → υ → Prop} {m : M α} {f : α → M β} {Q : υ → Hp → Prop} {x : α} (e : m h = some (.ok x, h)) (o : Out K C L ρ h H rel' E (M.bind m f h) Q) : Out K C L ρ h H rel' E (f x h) Q := by
  unfold M.bind at o
  rw [e] at o
  exact o
theorem Out.ofO {rel' : List Addr → Hh → Hp → β → υ → Prop} {m : Option α} {f : α → M β} {Q : υ → Hp → Prop} (o : Out K C L ρ h H rel' E (M.bind (Jr.ofO m) f h) Q) : ∃ x, m = some x ∧ Out K C L ρ h H rel' E (f x h) Q := by
  cases m with
  | none => exact False.elim o
  | some x => exact ⟨x, rfl, o⟩
end
/-- a value as it reads now (a cell's content too) -/
def RT (K : PySem.W.Frag) (P : Addr → Prop) (H : Hp) : D → V → Prop
  | .list ds, v => ∃ p vs, v = .ref p ∧ SqL K H p vs ∧ ds.length ≤ sizeLine ∧ RDs P H ds vs
  | d, v => RD P H d v
section
variable {α β τ υ : Type} {K : PySem.W.Frag} {C : Nat → Option Value} {L : Addr → Prop} {ρ ρ1 : List Addr} {h h1 : Hh} {H H1 : Hp} {E : Value → Option Addr → Hp → Prop}
theorem RD.rt {P : Addr → Prop} {d : D} {v : V} (r : RD P H d v) : RT K P H d v := by
  cases r with
  | lst a b z c => exact ⟨_, _, rfl, .inl (.inl b), z, c⟩
  | non => exact RD.non
  | bool b => exact RD.bool b
  | int i => exact RD.int i
  | str x ok => exact RD.str x ok
  | tup a b z c => exact RD.tup a b z c
theorem CR.rt {P : Addr → Prop} {a : Addr} {c : Cell} {d : D} (q : CR K P H a c) (e : rdC c = some d) : RT K P H d (.ref a) := by
  cases c with
  | dead => cases e
  | ro ds =>
    cases e
    obtain ⟨vs, o, z, r⟩ := q
    refine ⟨a, vs, rfl, ?_, z, r⟩
    rcases o with ⟨_, o, e⟩ | o
    · exact .inl (.inr ⟨o, e⟩)
    · exact .inr o
  | lst ds => cases e; obtain ⟨vs, e, z, r⟩ := q; exact ⟨a, vs, rfl, .inl (.inl e), z, r⟩
  | dct ds => cases e
/-- reading -/
theorem Out.rd {rel' : List Addr → Hh → Hp → β → υ → Prop} {x : Vl} {v : V} {f : D → M β} {Q : υ → Hp → Prop} (hr : HR K L ρ h H) (rv : RV (Pr L ρ h) ρ H x v) (o : Out K C L ρ h H rel' E (M.bind (Jr.rd x) f h) Q) :
    ∃ d, RT K (Pr L ρ h) H d v ∧ Out K C L ρ h H rel' E (f d h) Q := by
  cases x with
  | d x => exact ⟨x, rv.rt, o⟩
  | k n => exact False.elim o
  | r n =>
    obtain ⟨a, e1, rfl⟩ := rv
    have e0 : Jr.rd (.r n) h = (h[n]?.bind rdC).map fun x => (R.ok x, h) := rfl
    cases e2 : h[n]? with
    | none =>
      rw [e2] at e0
      unfold M.bind at o
      rw [e0] at o
      exact False.elim o
    | some c =>
      rw [e2] at e0
      cases e3 : rdC c with
      | none =>
        rw [Option.bind_some, e3] at e0
        unfold M.bind at o
        rw [e0] at o
        exact False.elim o
      | some d =>
        rw [Option.bind_some, e3] at e0
        exact ⟨d, (hr.cell n a c e1 e2).rt e3, Out.at_ e0 o⟩
theorem Out.asD {rel' : List Addr → Hh → Hp → β → υ → Prop} {x : Vl} {v : V} {f : D → M β} {Q : υ → Hp → Prop} (rv : RV (Pr L ρ h) ρ H x v) (o : Out K C L ρ h H rel' E (M.bind (Jr.asD x) f h) Q) :
    ∃ d, x = .d d ∧ RD (Pr L ρ h) H d v ∧ Out K C L ρ h H rel' E (f d h) Q := by
  cases x with
  | d x => exact ⟨x, rfl, rv, o⟩
  | r n => exact False.elim o
  | k n => exact False.elim o
/-- an end with data -/
def Ret (K : PySem.W.Frag) (L : Addr → Prop) (ρ : List Addr) (h : Hh) (H : Hp) (c : D) (Q : VK) : Prop := ∀ u H', HR K L ρ h H' → Stp L ρ h H ρ h H' → RD (Pr L ρ h) H' c u → Q u H'
abbrev relV (L : Addr → Prop) : List Addr → Hh → Hp → Vl → V → Prop := fun ρ h H x v => RV (Pr L ρ h) ρ H x v
abbrev relVs (L : Addr → Prop) : List Addr → Hh → Hp → List Vl → List V → Prop := fun ρ h H x v => RVs (Pr L ρ h) ρ H x v
abbrev relB : List Addr → Hh → Hp → Bool → Bool → Prop := fun _ _ _ b c => b = c
theorem Out.pD {c : D} {Q : VK} (hr : HR K L ρ h H) (o : Out K C L ρ h H (relV L) E (Jr.pD c h) Q) : Ret K L ρ h H c Q := fun u H' hr' s r => o ρ H' u hr' s r
theorem Out.pO {c : Option D} {Q : VK} (hr : HR K L ρ h H) (o : Out K C L ρ h H (relV L) E (Jr.pO c h) Q) : ∃ d, c = some d ∧ Ret K L ρ h H d Q := by
  obtain ⟨d, e, o⟩ := Out.ofO o
  exact ⟨d, e, Out.pD hr o⟩
theorem Ret.here {c : D} {Q : VK} {u : V} (q : Ret K L ρ h H c Q) (hr : HR K L ρ h H) (r : RD (Pr L ρ h) H c u) : Q u H := q u H hr Stp.refl r
/-- a new tuple -/
theorem Ret.tup {ds : List D} {vs : List V} {Q : VK} (q : Ret K L ρ h H (.tuple ds) Q) (hr : HR K L ρ h H) (z : ds.length ≤ sizeLine) (r : RDs (Pr L ρ h) H ds vs) : ∀ p, H p = none → Q (.ref p) (upd H p (.tup vs)) := fun p n => by
  obtain ⟨hr', s⟩ := hr.new (o := .tup vs) n
  exact q _ _ hr' s (.tup (hr.np n) upd_same z (RDs.gr s.gr _ _ r))
theorem Ret.lst {ds : List D} {vs : List V} {Q : VK} (q : Ret K L ρ h H (.list ds) Q) (hr : HR K L ρ h H) (z : ds.length ≤ sizeLine) (r : RDs (Pr L ρ h) H ds vs) : ∀ p, H p = none → Q (.ref p) (upd H p (.lst vs)) := fun p n => by
  obtain ⟨hr', s⟩ := hr.new (o := .lst vs) n
  exact q _ _ hr' s (.lst (hr.np n) upd_same z (RDs.gr s.gr _ _ r))
end
/-! ### readings -/
/-- an expression's: a state that the pure one stands for -/
def tE (C : Nat → Option Value) (ev : Env → M Vl) (K : PySem.W.Frag) (W : WX) : TE := fun σ H Q => ∃ L ρ h en, HR K L ρ h H ∧ ER (Pr L ρ h) ρ H en σ ∧ Out K C L ρ h H (relV L) (fun c d H' => W c d σ H') (ev en h) Q
def tEs (C : Nat → Option Value) (ev : Env → M (List Vl)) (K : PySem.W.Frag) (W : WX) : TA := fun σ H Q => ∃ L ρ h en, HR K L ρ h H ∧ ER (Pr L ρ h) ρ H en σ ∧ Out K C L ρ h H (relVs L) (fun c d H' => W c d σ H') (ev en h) Q
def tT (C : Nat → Option Value) (ev : Env → M Bool) (K : PySem.W.Frag) (W : WX) : TT := fun σ H Q => ∃ L ρ h en, HR K L ρ h H ∧ ER (Pr L ρ h) ρ H en σ ∧ Out K C L ρ h H relB (fun c d H' => W c d σ H') (ev en h) Q
theorem pei {X : Cx} {e : Expr} {t t' : TE} (p : PE X e t) (i : ∀ σ H Q, t' σ H Q → t σ H Q) : PE X e t' := ⟨fun pins s σ H Q I h => p.run pins s σ H Q I (i σ H Q h)⟩
theorem pti {X : Cx} {e : Expr} {t t' : TT} (p : PT X e t) (i : ∀ σ H Q, t' σ H Q → t σ H Q) : PT X e t' := ⟨fun pins s σ H Q I h => p.run pins s σ H Q I (i σ H Q h)⟩
theorem pai {X : Cx} {e : List Expr} {t t' : TA} (p : PA X e t) (i : ∀ σ H Q, t' σ H Q → t σ H Q) : PA X e t' := ⟨fun pos pins s σ H Q I h => p.run pos pins s σ H Q I (i σ H Q h)⟩
section
variable {X : Cx} {C : Nat → Option Value} {W : WX} {a b c : Expr} {eva evb evc : Env → M Vl} {pos : Pos}
theorem e_var {i : Nat} {x : Str} {pos : Pos} (hN : X.N[i]? = some x) (hv : Vis X.env.scope x) (hd : (x == ("__debug__" : Str)) = false) (hcd : (x == ("__classdict__" : Str)) = false) :
    PE X (.Name x pos) (tE C (varM i) X.K W) := by
  refine pei (pe_var hN hv hd hcd) fun σ H Q ⟨L, ρ, h, en, hr, er, o⟩ => ?_
  unfold varM at o
  cases e : en[i]? with
  | none => rw [e] at o; exact False.elim o
  | some y =>
    rw [e] at o
    cases y with
    | none => exact False.elim o
    | some v =>
      obtain ⟨w, e1, e2⟩ := er.at_ i v e
      exact ⟨w, e1, o ρ H w hr .refl e2⟩
theorem e_const {e : Expr} {v : V} {d : D} (p : PE X e (tC v)) (r : ∀ P H, RD P H d v) : PE X e (tE C (fun _ => pD d) X.K W) :=
  pei p fun σ H Q ⟨L, ρ, h, en, hr, er, o⟩ => (Out.pD hr o).here hr (r _ _)
theorem e_str {x : Str} {j : Nat} : PE X (.Constant (.str x) j pos) (tE C (fun _ => strM x) X.K W) :=
  pei pe_str fun σ H Q ⟨L, ρ, h, en, hr, er, o⟩ => by
    unfold strM at o
    by_cases ok : okS x = true
    · rw [if_pos ok] at o
      exact (Out.pD hr o).here hr (.str x ok)
    · rw [if_neg ok] at o
      exact False.elim o
/-- a two-place operation by values -/
def r2 (K : PySem.W.Frag) (f : D → D → Option D) : R2 := fun v w H Q => ∃ L ρ h x y d, HR K L ρ h H ∧ RT K (Pr L ρ h) H x v ∧ RT K (Pr L ρ h) H y w ∧ f x y = some d ∧ Ret K L ρ h H d Q
theorem t_op {f : D → D → Option D} : ∀ σ H Q, tE C (fun en => rd2 (eva en) (evb en) fun x y => pO (f x y)) X.K W σ H Q → tOp (r2 X.K f) (tE C eva X.K W) (tE C evb X.K W) σ H Q := fun σ H Q ⟨L, ρ, h, en, hr, er, o⟩ => by
  refine ⟨L, ρ, h, en, hr, er, (Out.split (rel := relV L) o).mono fun v H1 ⟨ρ1, h1, x, hr1, s1, rv1, o1⟩ => ?_⟩
  refine ⟨L, ρ1, h1, en, hr1, er.step s1, (Out.split (rel := relV L) o1).mono fun w H2 ⟨ρ2, h2, y, hr2, s2, rv2, o2⟩ => ?_⟩
  obtain ⟨dx, rx, o3⟩ := Out.rd hr2 (rv1.step s2) o2
  obtain ⟨dy, ry, o4⟩ := Out.rd hr2 rv2 o3
  obtain ⟨d, e, q⟩ := Out.pO hr2 o4
  exact ⟨L, ρ2, h2, dx, dy, d, hr2, rx, ry, e, q⟩
theorem e_op {o : Operator} {f : D → D → Option D} (ho : OpR X (binaryOp o) (r2 X.K f)) (ha : PE X a (tE C eva X.K W)) (hb : PE X b (tE C evb X.K W)) : PE X (.BinOp a o b pos) (tE C (fun en => rd2 (eva en) (evb en) fun x y => pO (f x y)) X.K W) :=
  pei (pe_op ho ha hb) t_op
theorem e_cmp {o : CmpOp} {f : D → D → Option D} (ho : OpR X (compareOp o) (r2 X.K f)) (ha : PE X a (tE C eva X.K W)) (hb : PE X b (tE C evb X.K W)) (hm : behindInMarks o b = false) : PE X (.Compare a [o] [b] pos) (tE C (fun en => rd2 (eva en) (evb en) fun x y => pO (f x y)) X.K W) :=
  pei (pe_cmpR ho ha hb hm) t_op
def r1 (K : PySem.W.Frag) (f : D → Option D) : V → Hp → VK → Prop := fun v H Q => ∃ L ρ h x d, HR K L ρ h H ∧ RT K (Pr L ρ h) H x v ∧ f x = some d ∧ Ret K L ρ h H d Q
theorem t_un {f : D → Option D} : ∀ σ H Q, tE C (fun en => M.bind (dd (eva en)) fun x => pO (f x)) X.K W σ H Q → tUn (r1 X.K f) (tE C eva X.K W) σ H Q := fun σ H Q ⟨L, ρ, h, en, hr, er, o⟩ => by
  have o' : Out X.K C L ρ h H (relV L) (fun c d H' => W c d σ H') (M.bind (eva en) (fun v => M.bind (Jr.rd v) fun x => pO (f x)) h) Q := by
    have e : M.bind (dd (eva en)) (fun x => pO (f x)) h = M.bind (eva en) (fun v => M.bind (Jr.rd v) fun x => pO (f x)) h := by
      unfold dd M.bind
      cases eva en h with
      | none => rfl
      | some p => obtain ⟨r, h'⟩ := p; cases r <;> rfl
    rw [← e]; exact o
  refine ⟨L, ρ, h, en, hr, er, (Out.split (rel := relV L) o').mono fun v H1 ⟨ρ1, h1, x, hr1, s1, rv1, o1⟩ => ?_⟩
  obtain ⟨dx, rx, o3⟩ := Out.rd hr1 rv1 o1
  obtain ⟨d, e, q⟩ := Out.pO hr1 o3
  exact ⟨L, ρ1, h1, dx, d, hr1, rx, e, q⟩
end
end Jr

set_option Elab.async false
set_option linter.all false
set_option maxRecDepth 100000
set_option maxHeartbeats 1000000
namespace L2x
open PySem PySem.Spec PyProof.Rows L2 PySem.MeetsSeq PySem.MeetsSeq2 PySem.MeetsSeq3
/-! ### tuple * int, the two edges -/
theorem tuple_mulS (l : Addr) (items : Array Value) (n : Nat) (dd : Option Addr) (sl : Array (Option Value)) (x : Int) (u : Tok) (c0 : (decide (x < -(2 ^ 63)) || decide (x ≥ 2 ^ 63)) = false) (c1 : (items.isEmpty || x == 1) = true) :
    Meets (Builtin.«tuple.__mul__» ⟨[.ref l, .int x u], []⟩) (fun _ R s => s.heap.get? l = some { cls := .type "tuple", dict := dd, data := .seq items n, slots := sl } ∧ R (.ok (.ret (Value.ref l))) s) :=
  .of_wp fun prog w A R s h => by
    obtain ⟨hp, g, d, tk, os⟩ := s
    obtain ⟨hl, h⟩ := h
    have f1 := AutoSeq1.idx_int
    wp_walk using AutoSeq1.wpAny_loadPart' hl
    repeat (first
      | (refine wpAny_ite_false (decide_eq_false (by rw [c0]; exact Bool.false_ne_true)) ?_; wp_walk using AutoSeq1.wpAny_loadPart' hl)
      | (refine wpAny_ite_true (decide_eq_true c1) ?_; wp_walk using AutoSeq1.wpAny_loadPart' hl))
    exact ⟨_, rfl, h⟩
theorem tuple_mul0 (l : Addr) (items : Array Value) (n : Nat) (dd : Option Addr) (sl : Array (Option Value)) (u : Tok) (c1 : (items.isEmpty || (0 : Int) == 1) = false) :
    Meets (Builtin.«tuple.__mul__» ⟨[.ref l, .int 0 u], []⟩) (fun _ R s => s.heap.get? l = some { cls := .type "tuple", dict := dd, data := .seq items n, slots := sl } ∧
      R (.ok (.ret (Value.ref s.heap.objs.size))) { s with heap := s.heap.push { cls := Value.type "tuple", data := Data.seq #[] }, toks := s.toks }) :=
  .of_wp fun prog w A R s h => by
    obtain ⟨hp, g, d, tk, os⟩ := s
    obtain ⟨hl, h⟩ := h
    have f1 := AutoSeq1.idx_int
    wp_walk using AutoSeq1.wpAny_loadPart' hl
    repeat (first
      | (refine wpAny_ite_false (decide_eq_false (by rw [c1]; exact Bool.false_ne_true)) ?_; wp_walk using AutoSeq1.wpAny_loadPart' hl)
      | (refine wpAny_ite_true rfl ?_; wp_walk using AutoSeq1.wpAny_loadPart' hl)
      | (refine wpAny_ite_true (decide_eq_true rfl) ?_; wp_walk using AutoSeq1.wpAny_loadPart' hl))
    exact ⟨_, rfl, h⟩
end L2x
namespace L2x
open PySem PySem.Spec PyProof.Rows L2
def rRepA (K : PySem.W.Frag) : R2 := fun x y H Q => ∃ l k xs, x = .ref l ∧ y = .int k ∧ SqT K H l xs ∧ 0 ≤ k ∧ k ≤ 1000 ∧ xs.length ≤ 1000 ∧ ((xs = [] ∨ k = 1) → Q (.ref l) H) ∧
  (xs ≠ [] → k ≠ 1 → ∀ p, H p = none → Q (.ref p) (upd H p (.tup (List.replicate k.toNat xs).flatten)))
theorem op_repA {X : Cx} : OpR X (binaryOp .Mult) (rRepA X.K) := by
  intro pins s σ H x y v u Q I rx ry h
  obtain ⟨l, k, xs, rfl, rfl, hT, h0, h2, hz, q1, q2⟩ := h
  by_cases hbig : xs ≠ [] ∧ 2 ≤ k
  · exact op_repT pins s σ H _ _ v u Q I rx ry ⟨l, k, xs, rfl, rfl, hT, hbig.1, hbig.2, h2, hz, q2 hbig.1 (by omega)⟩
  cases rx
  obtain ⟨t, rfl⟩ := ry
  obtain ⟨its, r, ⟨⟨cls, dd, data, sl⟩, ho, hc, n, hd⟩, hs⟩ := I.tuple hT
  simp only at hc hd
  subst hc hd
  have hle : its.length = xs.length := r.length.symm
  have c0 : (decide (k < -(2 ^ 63)) || decide (k ≥ 2 ^ 63)) = false := by
    rw [decide_eq_false (by omega), decide_eq_false (by omega)] <;> rfl
  by_cases he : xs = [] ∨ k = 1
  · have c1 : (its.toArray.isEmpty || k == 1) = true := by
      rcases he with e | e
      · subst e
        have : its = [] := List.eq_nil_of_length_eq_zero (by rw [hle]; rfl)
        subst this
        rfl
      · subst e
        simp
    refine wpAny_binaryOp_repeat_ref (T := "tuple") (U := "int") (by decide) ⟨_, ho, rfl⟩ (fun s' => typeIs_int s' k t) noFill_tuple_mul F.fills_int_mul F.slot_int_rmul repeat_tuple F.slot_int_index.lookup
      (call_meets F.slot_int_rmul (typeIs_int s k t) F.entry_int_rmul (F.args_int_rmul_2 _ _) (int_rmul_tuple k t l its.toArray n dd sl)
        ⟨ho, rfl, ⟨_, ho, rfl⟩, call_meets F.slot_tuple_mul ⟨_, ho, rfl⟩ F.entry_tuple_mul (F.args_tuple_mul_2 _ _) (tuple_mulS l its.toArray n dd sl k t c0 c1) ⟨ho, ?_⟩⟩)
    exact ⟨.ref l, H, I, rfl, q1 he⟩
  · have hk : k = 0 := by
      have a1 : xs ≠ [] := fun z => he (.inl z)
      have a2 : k ≠ 1 := fun z => he (.inr z)
      have a3 : ¬ 2 ≤ k := fun z => hbig ⟨a1, z⟩
      omega
    subst hk
    have hne : xs ≠ [] := fun z => he (.inl z)
    have hn : its ≠ [] := fun e => hne (by
      rw [e] at hle
      exact List.eq_nil_of_length_eq_zero hle.symm)
    have hi : its.toArray.isEmpty = false := by
      cases its with
      | nil => exact absurd rfl hn
      | cons a b => rfl
    have c1 : (its.toArray.isEmpty || (0 : Int) == 1) = false := by
      rw [hi, Bool.false_or]
      rfl
    refine wpAny_binaryOp_repeat_ref (T := "tuple") (U := "int") (by decide) ⟨_, ho, rfl⟩ (fun s' => typeIs_int s' 0 t) noFill_tuple_mul F.fills_int_mul F.slot_int_rmul repeat_tuple F.slot_int_index.lookup
      (call_meets F.slot_int_rmul (typeIs_int s 0 t) F.entry_int_rmul (F.args_int_rmul_2 _ _) (int_rmul_tuple 0 t l its.toArray n dd sl)
        ⟨ho, rfl, ⟨_, ho, rfl⟩, call_meets F.slot_tuple_mul ⟨_, ho, rfl⟩ F.entry_tuple_mul (F.args_tuple_mul_2 _ _) (tuple_mul0 l its.toArray n dd sl t c1) ⟨ho, ?_⟩⟩)
    refine ⟨.ref s.heap.objs.size, _, I.laid (t' := s.toks) (o := .tup (List.replicate (0 : Int).toNat xs).flatten) (fun b ob q => Heap.get?_push_of_some _ q) (Nat.le_refl _) ?_, rfl, q2 hne (by omega) _ (I.hok.fresh (Nat.le_refl _))⟩
    exact ⟨Nat.zero_le _, [], .nil, IsTup.new _ _⟩
end L2x
namespace Jr
open PySem PySem.Spec PyProof.Rows L2
/-! ### texts that may stand -/
theorem ok_iff {x : Str} : okS x = true ↔ ∀ c ∈ x.cps.toList, c < 0x110000 := by
  unfold okS
  rw [Array.all_eq_true_iff_forall_mem]
  constructor
  · intro h c hc
    have := h c (by simpa using hc)
    simpa using this
  · intro h c hc
    simpa using h c (by simpa using hc)
theorem ok_append {x y : Str} (a : okS x = true) (b : okS y = true) : okS (x ++ y) = true := by
  rw [ok_iff] at a b ⊢
  intro c hc
  have e : (x ++ y).cps.toList = x.cps.toList ++ y.cps.toList := by
    show (x.cps ++ y.cps).toList = _
    rw [Array.toList_append]
  rw [e] at hc
  rcases List.mem_append.mp hc with h | h
  · exact a c h
  · exact b c h
theorem ok_cut {x : Str} (a : okS x = true) (lo hi : Option Int) : okS (cutS x lo hi) = true := by
  rw [ok_iff] at a ⊢
  intro c hc
  unfold cutS at hc
  simp only [List.mem_toArray] at hc
  exact a c (List.mem_of_mem_drop (List.mem_of_mem_take hc))
theorem ok_sign {x : Str} (a : okS x = true) {c : Nat} (hc : c ∈ x.cps.toList) : okS ⟨#[c]⟩ = true := by
  rw [ok_iff] at a ⊢
  intro d hd
  simp at hd
  subst hd
  exact a _ hc
theorem ok_string (z : String) : okS (Str.ofString z) = true := by
  rw [ok_iff]
  intro c hc
  unfold Str.ofString at hc
  simp only [cpsOfBytes_string] at hc
  simp only [List.mem_map] at hc
  obtain ⟨ch, _, rfl⟩ := hc
  have h := ch.valid
  simp only [UInt32.isValidChar, Nat.isValidChar] at h
  show ch.val.toNat < _
  omega
/-! ### operators -/
section
variable {X : Cx}
def opOf : BOp → Operator
  | .add => .Add
  | .sub => .Sub
  | .mul => .Mult
  | .fdiv => .FloorDiv
  | .mod => .Mod
theorem len_eq {P : Addr → Prop} {H : Hp} {ds : List D} {vs : List V} (r : RDs P H ds vs) : (vs = [] ↔ ds = []) := by
  have := r.length
  constructor
  · intro e; subst e; exact List.eq_nil_of_length_eq_zero (by simpa using this)
  · intro e; subst e; exact List.eq_nil_of_length_eq_zero (by simpa using this.symm)
theorem or_add : OpR X (binaryOp .Add) (r2 X.K addV) := by
  intro pins s σ H x y v u Q I rx ry ⟨L, ρ, h, a, b, d, hr, ra, rb, e, q⟩
  unfold addV at e
  split at e
  · rename_i i j
    cases e
    cases (show RD _ _ _ _ from ra)
    cases (show RD _ _ _ _ from rb)
    exact op_add pins s σ H _ _ v u Q I rx ry ⟨_, _, rfl, rfl, q.here hr (.int _)⟩
  · rename_i i j
    cases e
    cases (show RD _ _ _ _ from ra)
    cases (show RD _ _ _ _ from rb)
    cases rx
    obtain ⟨t, rfl⟩ := ry
    exact PySem.IntBool.add_bool_int ⟨.int _, H, I.tok _, ⟨_, rfl⟩, q.here hr (.int _)⟩
  · rename_i i j
    cases e
    cases (show RD _ _ _ _ from ra)
    cases (show RD _ _ _ _ from rb)
    obtain ⟨t, rfl⟩ := rx
    cases ry
    exact add_int_bool ⟨.int _, H, I.tok _, ⟨_, rfl⟩, q.here hr (.int _)⟩
  · rename_i i j
    split at e
    · cases e
      cases (show RD _ _ _ _ from ra) with | str _ oka =>
      cases (show RD _ _ _ _ from rb) with | str _ okb =>
      exact op_add_str pins s σ H _ _ v u Q I rx ry ⟨_, _, rfl, rfl, by assumption, q.here hr (.str _ (ok_append oka okb))⟩
    · cases e
  · rename_i xs ys
    split at e
    · rename_i hz
      cases e
      cases (show RD _ _ _ _ from ra) with | tup np1 e1 z1 r1 =>
      cases (show RD _ _ _ _ from rb) with | tup np2 e2 z2 r2 =>
      refine op_catA pins s σ H _ _ v u Q I rx ry ⟨_, _, _, _, rfl, rfl, SqT.of e1, SqT.of e2, by rw [← r1.length, ← r2.length]; exact hz, fun en => ?_, fun n1 en => ?_, fun n1 n2 => q.tup hr (by rw [List.length_append]; exact hz) (r1.append r2)⟩
      · have : xs = [] := (len_eq r1).mp en
        subst this
        exact q.here hr (.tup np2 e2 z2 r2)
      · have : ys = [] := (len_eq r2).mp en
        subst this
        rw [List.append_nil] at q
        exact q.here hr (.tup np1 e1 z1 r1)
    · cases e
  · cases e
theorem or_sub : OpR X (binaryOp .Sub) (r2 X.K subV) := by
  intro pins s σ H x y v u Q I rx ry ⟨L, ρ, h, a, b, d, hr, ra, rb, e, q⟩
  unfold subV at e
  split at e
  · cases e
    cases (show RD _ _ _ _ from ra)
    cases (show RD _ _ _ _ from rb)
    exact op_sub pins s σ H _ _ v u Q I rx ry ⟨_, _, rfl, rfl, q.here hr (.int _)⟩
  · cases e
    cases (show RD _ _ _ _ from ra)
    cases (show RD _ _ _ _ from rb)
    cases rx
    obtain ⟨t, rfl⟩ := ry
    exact PySem.IntBool.sub_bool_int ⟨.int _, H, I.tok _, ⟨_, rfl⟩, q.here hr (.int _)⟩
  · cases e
theorem or_mul : OpR X (binaryOp .Mult) (r2 X.K mulV) := by
  intro pins s σ H x y v u Q I rx ry ⟨L, ρ, h, a, b, d, hr, ra, rb, e, q⟩
  unfold mulV at e
  split at e
  · split at e
    · rename_i hz
      cases e
      cases (show RD _ _ _ _ from ra)
      cases (show RD _ _ _ _ from rb)
      exact op_mulW pins s σ H _ _ v u Q I rx ry ⟨_, _, rfl, rfl, hz, q.here hr (.int _)⟩
    · cases e
  · rename_i xs k
    split at e
    · rename_i hz
      cases e
      cases (show RD _ _ _ _ from ra) with | tup np1 e1 z1 r1 =>
      cases (show RD _ _ _ _ from rb)
      have len : ∀ (ds : List D) (k : Nat), ((List.replicate k ds).flatten).length = k * ds.length := fun ds k => PyProof.Rows.lm_len_rep_flat ..
      refine L2x.op_repA pins s σ H _ _ v u Q I rx ry ⟨_, _, _, rfl, rfl, SqT.of e1, hz.1, hz.2.1, by rw [← r1.length]; exact hz.2.2, fun en => ?_, fun n1 n2 => q.tup hr (by unfold reps; rw [len, sizeLine_eq]; have := Nat.mul_le_mul (show k.toNat ≤ 1000 by omega) hz.2.2; omega) (r1.rep _)⟩
      have e3 : reps xs k = xs := by
        unfold reps
        rcases en with en | en
        · have : xs = [] := (len_eq r1).mp en
          subst this
          exact List.eq_nil_of_length_eq_zero (by rw [len]; rfl)
        · subst en
          show (List.replicate 1 xs).flatten = xs
          simp
      rw [e3] at q
      exact q.here hr (.tup np1 e1 z1 r1)
    · cases e
  · cases e
theorem or_fdiv : OpR X (binaryOp .FloorDiv) (r2 X.K fdivV) := by
  intro pins s σ H x y v u Q I rx ry ⟨L, ρ, h, a, b, d, hr, ra, rb, e, q⟩
  unfold fdivV at e
  split at e
  · split at e
    · rename_i hz
      cases e
      cases (show RD _ _ _ _ from ra)
      cases (show RD _ _ _ _ from rb)
      exact op_fdivW pins s σ H _ _ v u Q I rx ry ⟨_, _, rfl, rfl, hz, q.here hr (.int _)⟩
    · cases e
  · cases e
theorem or_mod : OpR X (binaryOp .Mod) (r2 X.K modV) := by
  intro pins s σ H x y v u Q I rx ry ⟨L, ρ, h, a, b, d, hr, ra, rb, e, q⟩
  unfold modV at e
  split at e
  · split at e
    · rename_i hz
      cases e
      cases (show RD _ _ _ _ from ra)
      cases (show RD _ _ _ _ from rb)
      exact op_mod pins s σ H _ _ v u Q I rx ry ⟨_, _, rfl, rfl, hz, q.here hr (.int _)⟩
    · cases e
  · cases e
theorem or_bin (o : BOp) : OpR X (binaryOp (opOf o)) (r2 X.K (binV o)) := by
  cases o
  · exact or_add
  · exact or_sub
  · exact or_mul
  · exact or_fdiv
  · exact or_mod
theorem ur_neg : UnR X (unaryOp .USub) (r1 X.K negV) := by
  intro pins s σ H x v Q I rx ⟨L, ρ, h, a, d, hr, ra, e, q⟩
  unfold negV at e
  split at e
  · cases e
    cases (show RD _ _ _ _ from ra)
    exact un_neg pins s σ H _ v Q I rx ⟨_, rfl, q.here hr (.int _)⟩
  · cases e
end
end Jr

set_option Elab.async false
set_option linter.all false
set_option maxRecDepth 100000
set_option maxHeartbeats 1000000
namespace Jr
open PySem PySem.Spec PyProof.Rows L2
mutual
theorem dep_eq : ∀ d : D, (toP d).depth = dep d
  | .none => rfl
  | .bool _ => rfl
  | .int _ => rfl
  | .str _ => rfl
  | .list xs => by simp only [toP, PyData.depth, dep, deps_eq xs]; try omega
  | .tuple xs => by simp only [toP, PyData.depth, dep, deps_eq xs]; try omega
theorem deps_eq : ∀ ds : List D, PyData.depthAll (toPs ds) = deps ds
  | [] => rfl
  | d :: ds => by simp only [toPs, PyData.depthAll, deps, dep_eq d, deps_eq ds]
end
mutual
theorem eqv_eq : ∀ x y : D, PyData.eqv (toP x) (toP y) = eqv x y
  | .none, y => by cases y <;> simp [toP, PyData.eqv, eqv]
  | .bool _, y => by cases y <;> simp [toP, PyData.eqv, eqv]
  | .int _, y => by cases y <;> simp [toP, PyData.eqv, eqv]
  | .str _, y => by cases y <;> simp [toP, PyData.eqv, eqv]
  | .list xs, y => by cases y <;> simp [toP, PyData.eqv, eqv, eqvs_eq xs]
  | .tuple xs, y => by cases y <;> simp [toP, PyData.eqv, eqv, eqvs_eq xs]
theorem eqvs_eq : ∀ xs ys : List D, PyData.eqvAll (toPs xs) (toPs ys) = eqvs xs ys
  | [], ys => by cases ys <;> simp [toPs, PyData.eqvAll, eqvs]
  | x :: xs, [] => by simp [toPs, PyData.eqvAll, eqvs]
  | x :: xs, y :: ys => by simp [toPs, PyData.eqvAll, eqvs, eqv_eq x y, eqvs_eq xs ys]
end
theorem toPs_map : ∀ xs : List D, toPs xs = xs.map toP
  | [] => rfl
  | x :: xs => by simp only [toPs, List.map_cons, toPs_map xs]
section
variable {K : PySem.W.Frag} {P : Addr → Prop} {H : Hp}
mutual
theorem RD.lay : ∀ (d : D) (v : V), RD P H d v → (toP d).canLay0 = true
  | .none, _, _ => rfl
  | .bool _, _, _ => rfl
  | .int _, _, _ => rfl
  | .str x, _, h => by cases h with | str _ ok => exact ok
  | .list xs, _, h => by cases h with | lst a b z c => exact RDs.lay xs _ c
  | .tuple xs, _, h => by cases h with | tup a b z c => exact RDs.lay xs _ c
theorem RDs.lay : ∀ (ds : List D) (vs : List V), RDs P H ds vs → PyData.canLayAll0 (toPs ds) = true
  | [], _, _ => rfl
  | d :: ds, _, h => by
    cases h with
    | cons a b =>
      show (PyData.canLay0 (toP d) && PyData.canLayAll0 (toPs ds)) = true
      rw [RD.lay d _ a, RDs.lay ds _ b]; rfl
end
mutual
theorem RD.dp : ∀ (d : D) (v : V), RD P H d v → Dp K H v (toP d)
  | .none, _, h => by cases h; exact .non
  | .bool b, _, h => by cases h; exact .bl b
  | .int i, _, h => by cases h; exact .int i
  | .str x, _, h => by cases h; exact .str x
  | .list xs, _, h => by cases h with | lst a b z c => exact .lst (.inl (.inl b)) (RDs.dp xs _ c)
  | .tuple xs, _, h => by cases h with | tup a b z c => exact .tup (.inl (.inl b)) (RDs.dp xs _ c)
theorem RDs.dp : ∀ (ds : List D) (vs : List V), RDs P H ds vs → DpAll K H vs (toPs ds)
  | [], _, h => by cases h; exact .nil
  | d :: ds, _, h => by
    cases h with
    | cons a b => exact .cons (RD.dp d _ a) (RDs.dp ds _ b)
end
theorem RT.dp {d : D} {v : V} (r : RT K P H d v) : Dp K H v (toP d) ∧ (toP d).canLay0 = true := by
  cases d with
  | list xs => obtain ⟨p, vs, rfl, s, z, c⟩ := r; exact ⟨.lst s (RDs.dp xs _ c), RDs.lay xs _ c⟩
  | none => exact ⟨RD.dp _ _ (show RD P H _ v from r), RD.lay _ _ (show RD P H _ v from r)⟩
  | bool b => exact ⟨RD.dp _ _ (show RD P H _ v from r), RD.lay _ _ (show RD P H _ v from r)⟩
  | int b => exact ⟨RD.dp _ _ (show RD P H _ v from r), RD.lay _ _ (show RD P H _ v from r)⟩
  | str b => exact ⟨RD.dp _ _ (show RD P H _ v from r), RD.lay _ _ (show RD P H _ v from r)⟩
  | tuple b => exact ⟨RD.dp _ _ (show RD P H _ v from r), RD.lay _ _ (show RD P H _ v from r)⟩
end
section
variable {X : Cx}
theorem anyP (ys : List D) (x : D) : ((toPs ys).any fun z => PyData.eqv z (toP x)) = ys.any fun z => eqv z x := by
  rw [toPs_map, List.any_map]
  congr 1
  funext z
  exact eqv_eq z x
def bB (f : D → D → Option Bool) : D → D → Option D := fun x y => (f x y).map .bool
theorem or_eq (hu : X.A.units + 64 < cLine) : OpR X (compareOp .Eq) (r2 X.K (bB eqV)) := by
  intro pins s σ H x y v u Q I rx ry ⟨L, ρ, h, a, b, d, hr, ra, rb, e, q⟩
  unfold bB eqV at e
  try dsimp only at e
  split at e
  · rename_i hz
    cases e
    obtain ⟨da, la⟩ := ra.dp
    obtain ⟨db, lb⟩ := rb.dp
    obtain ⟨as, r1⟩ := Dp.reads I _ x v da rx
    obtain ⟨bs, r2⟩ := Dp.reads I _ y u db ry
    refine SeqAt.compareEq_reads r1 r2 la lb (by rw [dep_eq, dep_eq]; omega) ⟨.bl _, H, I, rfl, ?_⟩
    rw [eqv_eq]
    exact q.here hr (.bool _)
  · cases e
theorem or_ne (hu : X.A.units + 64 < cLine) : OpR X (compareOp .NotEq) (r2 X.K (bB fun x y => (eqV x y).map (!·))) := by
  intro pins s σ H x y v u Q I rx ry ⟨L, ρ, h, a, b, d, hr, ra, rb, e, q⟩
  unfold bB eqV at e
  try dsimp only at e
  split at e
  · rename_i hz
    cases e
    obtain ⟨da, la⟩ := ra.dp
    obtain ⟨db, lb⟩ := rb.dp
    obtain ⟨as, r1⟩ := Dp.reads I _ x v da rx
    obtain ⟨bs, r2⟩ := Dp.reads I _ y u db ry
    refine SeqAt.compareNe_reads r1 r2 la lb (by rw [dep_eq, dep_eq]; omega) ⟨.bl _, H, I, rfl, ?_⟩
    rw [eqv_eq]
    exact q.here hr (.bool _)
  · cases e
theorem or_in (hu : X.A.units + 64 < cLine) : OpR X (compareOp .In) (r2 X.K (bB inV)) := by
  intro pins s σ H x y v u Q I rx ry ⟨L, ρ, h, a, b, d, hr, ra, rb, e, q⟩
  unfold bB inV at e
  try dsimp only at e
  split at e
  · split at e
    · rename_i hz
      cases e
      obtain ⟨da, la⟩ := ra.dp
      obtain ⟨db, lb⟩ := rb.dp
      obtain ⟨as, r1⟩ := Dp.reads I _ x v da rx
      obtain ⟨bs, r2⟩ := Dp.reads I _ y u db ry
      refine SeqAt.in_list_reads r2 r1 lb la (by rw [deps_eq, dep_eq]; omega) ⟨.bl _, H, I, rfl, ?_⟩
      rw [anyP]
      exact q.here hr (.bool _)
    · cases e
  · split at e
    · rename_i hz
      cases e
      obtain ⟨da, la⟩ := ra.dp
      obtain ⟨db, lb⟩ := rb.dp
      obtain ⟨as, r1⟩ := Dp.reads I _ x v da rx
      obtain ⟨bs, r2⟩ := Dp.reads I _ y u db ry
      refine SeqAt.in_tuple_reads r2 r1 lb la (by rw [deps_eq, dep_eq]; omega) ⟨.bl _, H, I, rfl, ?_⟩
      rw [anyP]
      exact q.here hr (.bool _)
    · cases e
  · cases e
theorem or_notIn (hu : X.A.units + 64 < cLine) : OpR X (compareOp .NotIn) (r2 X.K (bB fun x y => (inV x y).map (!·))) := by
  intro pins s σ H x y v u Q I rx ry ⟨L, ρ, h, a, b, d, hr, ra, rb, e, q⟩
  unfold bB inV at e
  try dsimp only at e
  split at e
  · split at e
    · rename_i hz
      cases e
      obtain ⟨da, la⟩ := ra.dp
      obtain ⟨db, lb⟩ := rb.dp
      obtain ⟨as, r1⟩ := Dp.reads I _ x v da rx
      obtain ⟨bs, r2⟩ := Dp.reads I _ y u db ry
      refine SeqAt.notIn_list_reads r2 r1 lb la (by rw [deps_eq, dep_eq]; omega) ⟨.bl _, H, I, rfl, ?_⟩
      rw [anyP]
      exact q.here hr (.bool _)
    · cases e
  · split at e
    · rename_i hz
      cases e
      obtain ⟨da, la⟩ := ra.dp
      obtain ⟨db, lb⟩ := rb.dp
      obtain ⟨as, r1⟩ := Dp.reads I _ x v da rx
      obtain ⟨bs, r2⟩ := Dp.reads I _ y u db ry
      refine SeqAt.notIn_tuple_reads r2 r1 lb la (by rw [deps_eq, dep_eq]; omega) ⟨.bl _, H, I, rfl, ?_⟩
      rw [anyP]
      exact q.here hr (.bool _)
    · cases e
  · cases e
theorem or_lt : OpR X (compareOp .Lt) (r2 X.K (bB ltV)) := by
  intro pins s σ H x y v u Q I rx ry ⟨L, ρ, h, a, b, d, hr, ra, rb, e, q⟩
  unfold bB ltV at e
  split at e
  · cases e
    cases (show RD _ _ _ _ from ra)
    cases (show RD _ _ _ _ from rb)
    exact op_lt pins s σ H _ _ v u Q I rx ry ⟨_, _, rfl, rfl, q.here hr (.bool _)⟩
  · cases e
    cases (show RD _ _ _ _ from ra)
    cases (show RD _ _ _ _ from rb)
    exact op_lt_str pins s σ H _ _ v u Q I rx ry ⟨_, _, rfl, rfl, q.here hr (.bool _)⟩
  · cases e
theorem or_le : OpR X (compareOp .LtE) (r2 X.K (bB leV)) := by
  intro pins s σ H x y v u Q I rx ry ⟨L, ρ, h, a, b, d, hr, ra, rb, e, q⟩
  unfold bB leV at e
  split at e
  · cases e
    cases (show RD _ _ _ _ from ra)
    cases (show RD _ _ _ _ from rb)
    exact op_le pins s σ H _ _ v u Q I rx ry ⟨_, _, rfl, rfl, q.here hr (.bool _)⟩
  · cases e
    cases (show RD _ _ _ _ from ra)
    cases (show RD _ _ _ _ from rb)
    exact op_le_str pins s σ H _ _ v u Q I rx ry ⟨_, _, rfl, rfl, q.here hr (.bool _)⟩
  · cases e
theorem or_gt : OpR X (compareOp .Gt) (r2 X.K (bB fun x y => ltV y x)) := by
  intro pins s σ H x y v u Q I rx ry ⟨L, ρ, h, a, b, d, hr, ra, rb, e, q⟩
  unfold bB ltV at e
  dsimp only at e
  split at e
  · cases e
    cases (show RD _ _ _ _ from ra)
    cases (show RD _ _ _ _ from rb)
    exact op_gt pins s σ H _ _ v u Q I rx ry ⟨_, _, rfl, rfl, q.here hr (.bool _)⟩
  · cases e
    cases (show RD _ _ _ _ from ra)
    cases (show RD _ _ _ _ from rb)
    exact op_gt_str pins s σ H _ _ v u Q I rx ry ⟨_, _, rfl, rfl, q.here hr (.bool _)⟩
  · cases e
theorem or_ge : OpR X (compareOp .GtE) (r2 X.K (bB fun x y => leV y x)) := by
  intro pins s σ H x y v u Q I rx ry ⟨L, ρ, h, a, b, d, hr, ra, rb, e, q⟩
  unfold bB leV at e
  dsimp only at e
  split at e
  · cases e
    cases (show RD _ _ _ _ from ra)
    cases (show RD _ _ _ _ from rb)
    exact op_ge pins s σ H _ _ v u Q I rx ry ⟨_, _, rfl, rfl, q.here hr (.bool _)⟩
  · cases e
    cases (show RD _ _ _ _ from ra)
    cases (show RD _ _ _ _ from rb)
    exact op_ge_str pins s σ H _ _ v u Q I rx ry ⟨_, _, rfl, rfl, q.here hr (.bool _)⟩
  · cases e
theorem isNone_eq {P : Addr → Prop} {H : Hp} {a : D} {x : V} (r : RT X.K P H a x) : decide (x = .non) = isNone a := by
  cases a with
  | list xs => obtain ⟨p, vs, rfl, _⟩ := r; rfl
  | none => cases (show RD _ _ _ _ from r); rfl
  | bool b => cases (show RD _ _ _ _ from r); rfl
  | int b => cases (show RD _ _ _ _ from r); rfl
  | str b => cases (show RD _ _ _ _ from r); rfl
  | tuple b => cases (show RD _ _ _ _ from r); rfl
theorem or_is : OpR X (compareOp .Is) (r2 X.K (bB (cmpV .is))) := by
  intro pins s σ H x y v u Q I rx ry ⟨L, ρ, h, a, b, d, hr, ra, rb, e, q⟩
  cases b with
  | none =>
    cases e
    cases (show RD _ _ _ _ from rb)
    refine op_isN pins s σ H _ _ v u Q I rx ry ⟨rfl, ?_⟩
    rw [isNone_eq ra]
    exact q.here hr (.bool _)
  | _ => cases e
theorem or_isNot : OpR X (compareOp .IsNot) (r2 X.K (bB (cmpV .isNot))) := by
  intro pins s σ H x y v u Q I rx ry ⟨L, ρ, h, a, b, d, hr, ra, rb, e, q⟩
  cases b with
  | none =>
    cases e
    cases (show RD _ _ _ _ from rb)
    refine op_notN pins s σ H _ _ v u Q I rx ry ⟨rfl, ?_⟩
    rw [isNone_eq ra]
    exact q.here hr (.bool _)
  | _ => cases e
def cmpOf : COp → CmpOp
  | .eq => .Eq
  | .ne => .NotEq
  | .lt => .Lt
  | .le => .LtE
  | .gt => .Gt
  | .ge => .GtE
  | .in_ => .In
  | .notIn => .NotIn
  | .is => .Is
  | .isNot => .IsNot
theorem or_cmp (hu : X.A.units + 64 < cLine) (o : COp) : OpR X (compareOp (cmpOf o)) (r2 X.K (bB (cmpV o))) := by
  cases o
  · exact or_eq hu
  · exact or_ne hu
  · exact or_lt
  · exact or_le
  · exact or_gt
  · exact or_ge
  · exact or_in hu
  · exact or_notIn hu
  · exact or_is
  · exact or_isNot
/-- a value's truth -/
theorem RT.tru {K : PySem.W.Frag} {P : Addr → Prop} {H : Hp} {a : D} {x : V} {k : Bool} (r : RT K P H a x) (e : truth a = some k) : TruV K x H k := by
  cases a with
  | list xs =>
    obtain ⟨p, vs, rfl, s, z, c⟩ := r
    cases e
    refine .inl ⟨vs, s, ?_⟩
    have := c.length
    cases xs <;> cases vs <;> simp_all
  | none => cases (show RD _ _ _ _ from r); cases e; rfl
  | bool b => cases (show RD _ _ _ _ from r); cases e; rfl
  | int b => cases (show RD _ _ _ _ from r); cases e; rfl
  | str b =>
    cases (show RD _ _ _ _ from r)
    have e' : (if b.length ≤ sizeLine then some (b.length != 0) else none) = some k := e
    by_cases hz : b.length ≤ sizeLine
    · rw [if_pos hz] at e'
      cases e'
      refine ⟨hz, ?_⟩
      cases b.length with
      | zero => rfl
      | succ n =>
        have : ((n + 1 : Nat) : Int) ≠ 0 := by omega
        rw [bne_iff_ne.mpr this]; rfl
    · rw [if_neg hz] at e'; cases e'
  | tuple xs =>
    cases (show RD _ _ _ _ from r) with | tup np e1 z c =>
    cases e
    refine .inr (.inl ⟨_, .inl (.inl e1), ?_⟩)
    have := c.length
    rename_i vs
    cases xs <;> cases vs <;> simp_all
end
end Jr

set_option Elab.async false
set_option linter.all false
set_option maxRecDepth 100000
set_option maxHeartbeats 1000000
namespace L2x
open PySem PySem.Spec PyProof.Rows L2 HT
section
variable {prog : Program} {w : World} {A : Around} {E : Value → Shared → Prop} {s : Shared}
theorem adjust_rev (n : Nat) : Builtin.Slice.sliceAdjust none none (-1) (n : Int) = ((n : Int) - 1, -1) := rfl
theorem places_rev (n : Nat) : Builtin.Slice.slicePlaces ((n : Int) - 1) (-1) (-1) = n := by
  unfold Builtin.Slice.slicePlaces
  have h1 : ¬ ((-1 : Int) > 0) := by omega
  have e : (- (-1 : Int)) = 1 := by omega
  simp only [h1, if_false, e, Int.ediv_one]
  split <;> omega
theorem sliceApplied_rev {sl : Addr} {vl vu vs : Value} {n : Nat} {Q : Int × Int × Nat → Shared → Prop} (hs : s.heap.IsSliceOf sl vl vu vs) (pl : IsPart vl none) (pu : IsPart vu none) (ps : IsPart vs (some (-1)))
    (h : Q ((n : Int) - 1, -1, n) s) : wpAny (model prog w) A (Builtin.Slice.sliceApplied (.ref sl) (pure (n : Int))) Q E s := by
  obtain ⟨os, hos, hcs, hds⟩ := id hs
  unfold Builtin.Slice.sliceApplied Builtin.Slice.sliceFields
  refine wpAny_bind (wpAny_bind (wpAny_field hos hds (x := vl) rfl (wpAny_bind (wpAny_field hos hds (x := vu) rfl (wpAny_bind (wpAny_field hos hds (x := vs) rfl (wpAny_pure ?_)))))))
  refine wpAny_bind (slicePart_ ps ?_)
  show wpAny _ _ (if ((-1 : Int) == 0) = true then _ else _) _ _ s
  rw [if_neg (by decide)]
  refine wpAny_bind (slicePart_ pl (wpAny_bind (slicePart_ pu (wpAny_bind (wpAny_pure ?_)))))
  show wpAny _ _ (match Builtin.Slice.sliceAdjust none none (-1) (n : Int) with | (lo, hi) => pure (lo, (-1 : Int), Builtin.Slice.slicePlaces lo hi (-1))) _ _ s
  rw [adjust_rev n]
  show wpAny _ _ (pure ((n : Int) - 1, (-1 : Int), Builtin.Slice.slicePlaces ((n : Int) - 1) (-1) (-1))) _ _ s
  rw [places_rev]
  exact wpAny_pure h
theorem filterMap_some {α β : Type} {f : α → Option β} {g : α → β} : ∀ l : List α, (∀ x ∈ l, f x = some (g x)) → l.filterMap f = l.map g
  | [], _ => rfl
  | x :: l, h => by
    rw [List.filterMap_cons, h x List.mem_cons_self, List.map_cons, filterMap_some l fun y hy => h y (List.mem_cons_of_mem _ hy)]
theorem pick_rev (xs : List Value) : ((List.range xs.length).filterMap fun (m : Nat) => xs.toArray[(((xs.length : Nat) : Int) - 1 + (m : Int) * (-1)).toNat]?) = xs.reverse := by
  apply List.ext_getElem?
  intro i
  have e : (List.range xs.length).filterMap (fun (m : Nat) => xs.toArray[(((xs.length : Nat) : Int) - 1 + (m : Int) * (-1)).toNat]?) = (List.range xs.length).map fun m => xs.reverse.getD m .none := by
    apply filterMap_some
    intro m hm
    have hm : m < xs.length := List.mem_range.mp hm
    have e1 : (((xs.length : Nat) : Int) - 1 + (m : Int) * (-1)).toNat = xs.length - 1 - m := by omega
    rw [e1]
    simp only [List.getElem?_toArray, Function.comp]
    rw [List.getElem?_eq_getElem (by omega)]
    rw [List.getD_eq_getElem?_getD, List.getElem?_reverse hm, List.getElem?_eq_getElem (by omega)]
    rfl
  rw [e, List.getElem?_map]
  by_cases hi : i < xs.length
  · rw [List.getElem?_range hi, Option.map_some, List.getD_eq_getElem?_getD, List.getElem?_eq_getElem (by simpa using hi)]
    rfl
  · rw [List.getElem?_eq_none (by simpa using hi), List.getElem?_eq_none (by simpa using hi)]
    rfl
theorem getItem_tuple_rev {t sl : Addr} {items : List Value} {vl vu vs : Value} {Q : Value → Shared → Prop} (ht : IsTup s.heap t items.toArray) (hs : s.heap.IsSliceOf sl vl vu vs) (pl : IsPart vl none) (pu : IsPart vu none) (ps : IsPart vs (some (-1)))
    (h : Q (.ref s.heap.objs.size) { s with heap := s.heap.push { cls := .type "tuple", data := .seq items.reverse.toArray } })
    (hsz : items.length ≤ sizeLine) : wpAny (model prog w) A (getItem (.ref t) (.ref sl)) Q E s := by
  have htake : sizeOk (.seq items.reverse.toArray) := by
    show items.reverse.toArray.size ≤ sizeLine
    rw [List.size_toArray, List.length_reverse]
    exact hsz
  obtain ⟨os, hos, hcs, hds⟩ := id hs
  have hTs : s.TypeIs (.ref sl) "slice" := ⟨os, hos, hcs⟩
  unfold getItem
  try with_reducible refine wpAny_holding ?_
  first | refine wpAny_bind (wpAny_pure ?_) | skip
  refine wpAny_bind (wpAny_sequenceKey ht.typeIs (by decide) ?_)
  refine wpAny_bind (wpAny_callSpecial?_slot (name := Str.ofString "__getitem__") ht.typeIs PyProof.Rows.slot_tuple_getitem
    (wpAny_call_entry PyProof.Rows.slot_tuple_getitem ht.typeIs entry_tuple_getitem ?_ (args_tuple_getitem _ _)))
  show wpAny _ _ (Builtin.Tuple.tupleItemsOf (.ref t) >>= _) _ _ s
  refine wpAny_bind (tupleItemsOf_ ht ?_)
  refine wpAny_bind (wpAny_typeOf hTs ?_)
  rw [if_pos (by decide)]
  have hn : ((items.toArray.size : Nat) : Int) = ((items.length : Nat) : Int) := by rw [List.size_toArray]
  rw [hn]
  refine wpAny_bind (sliceApplied_rev (n := items.length) hs pl pu ps ?_)
  have hno : ¬ ((((items.length : Nat) : Int) - 1 == 0 && (-1 : Int) == 1 && items.length == items.toArray.size) = true) := by
    intro q
    rw [Bool.and_eq_true, Bool.and_eq_true] at q
    exact absurd (eq_of_beq q.1.2) (by decide)
  show wpAny _ _ (if (((items.length : Nat) : Int) - 1 == 0 && (-1 : Int) == 1 && items.length == items.toArray.size) = true then _ else _) _ _ s
  rw [if_neg hno]
  have hp := congrArg List.toArray (pick_rev items)
  rw [hp]
  first
    | exact wpAny_bind (m := Builtin.Tuple.tupleExact _) (wpAny_newObj_type (wpAny_pure ⟨_, rfl, wpAny_pure h⟩) htake)
    | exact wpAny_bind (m := Builtin.Tuple.tupleExact _) (wpAny_newObj_type (wpAny_bind (wpAny_pure (wpAny_pure ⟨_, rfl, wpAny_pure h⟩))) htake)
    | exact wpAny_bind (wpAny_bind (m := Builtin.Tuple.tupleExact _) (wpAny_newObj_type (wpAny_pure (wpAny_pure ⟨_, rfl, wpAny_pure h⟩)) htake))
    | exact wpAny_bind (wpAny_bind (m := Builtin.Tuple.tupleExact _) (wpAny_newObj_type (wpAny_pure ⟨_, rfl, wpAny_pure h⟩) htake))
end
def tRevT (K : PySem.W.Frag) (te : TE) : TE := fun σ H Q => te σ H fun x H1 => ∃ a xs, x = .ref a ∧ SqT K H1 a xs ∧ ∀ p, H1 p = none → Q (.ref p) (upd H1 p (.tup xs.reverse))
theorem pe_revT {X : Cx} {e : Expr} {te : TE} {k : Nat} {p1 p2 p3 pos : Pos} (he : PE X e te) : PE X (.Subscript e (.Slice none none (some (.UnaryOp .USub (.Constant (.int 1) k p1) p2)) p3) pos) (tRevT X.K te) := by
  refine ⟨fun pins s σ H Q I h => ?_⟩
  refine Subscript_ (thn (he.run pins s σ H _ I h) fun v s1 ⟨x, H1, I1, r1, q1⟩ => ?_)
  obtain ⟨a, xs, ex, hx, q⟩ := q1
  subst ex
  cases r1
  have hst : PO X (some (.UnaryOp .USub (.Constant (.int 1) k p1) p2)) (tPart (tUn (rU fun i => .int (-i)) (tC (.int 1)))) := po_some (pe_un un_neg pe_int)
  refine wpAny_Slice (thn (po_none.run pins s1 σ H1 (fun o H2 => o = none ∧ H2 = H1) I1 ⟨rfl, rfl⟩) fun vl s2 ⟨l, H2, I2, pl, el, e2⟩ => ?_)
  subst el e2
  refine thn (po_none.run pins s2 σ H2 (fun o H3 => o = none ∧ H3 = H2) I2 ⟨rfl, rfl⟩) fun vu s3 ⟨u, H3, I3, pu, eu, e3⟩ => ?_
  subst eu e3
  refine thn (hst.run pins s3 σ H3 (fun o H4 => o = some (-1) ∧ H4 = H3) I3 ⟨1, rfl, -1, rfl, rfl, rfl⟩) fun vs s4 ⟨o, H4, I4, ps, eo, e4⟩ => ?_
  subst eo e4
  have I5 : L2.Inv X pins σ H4 { s4 with heap := s4.heap.push { cls := .type "slice", data := .fields #[vl, vu, vs] } } := I4.kept (t' := s4.toks) fun b ob q => Heap.get?_push_of_some _ q
  obtain ⟨its, r, ht, hz⟩ := I5.tuple hx
  have hlen := r.length
  show wpAny (model X.prog X.w) X.A (subscriptTail e (.Slice none none (some (.UnaryOp .USub (.Constant (.int 1) k p1) p2)) p3) (.ref a) (.ref s4.heap.objs.size)) (EP X pins σ Q) X.xe { s4 with heap := s4.heap.push { cls := .type "slice", data := .fields #[vl, vu, vs] } }
  refine tail_any (ops := [.ref a, .ref s4.heap.objs.size]) ht.typeIs (slot_tuple_getitem.lookup) ?_ (by with_unfolding_all rfl)
  refine getItem_tuple_rev ht (Heap.IsSliceOf.new _ vl vu vs) pl pu ps ?_ (by omega)
  refine ⟨.ref _, _, I5.laid (t' := s4.toks) (o := .tup xs.reverse) (fun b ob q => Heap.get?_push_of_some _ q) (Nat.le_refl _) ?_, rfl, q _ (I5.hok.fresh (Nat.le_refl _))⟩
  exact ⟨by rw [List.length_reverse]; exact hz, _, r.reverse, IsTup.new _ _⟩
end L2x
namespace Jr
open PySem PySem.Spec PyProof.Rows L2
section
variable {X : Cx}
theorem ixr : IxR X (r2 X.K ixV) := by
  intro value slice pins s σ H x y v u Q I rx ry ⟨L, ρ, h, a, b, d, hr, ra, rb, e, q⟩ hs
  unfold ixV at e
  split at e
  · obtain ⟨p, vs, rfl, sq, z, c⟩ := ra
    cases (show RD _ _ _ _ from rb)
    rename_i xs i
    cases ej : ixN xs.length i with
    | none => rw [ej] at e; cases e
    | some j =>
      rw [ej, Option.bind_some] at e
      obtain ⟨w, e1, e2⟩ := c.get e
      refine ix_list value slice pins s σ H _ _ v u Q I rx ry ⟨p, vs, i, w, rfl, rfl, sq, ?_, q.here hr e2⟩ hs
      unfold atI
      rw [← c.length, show L2.ixN xs.length i = some j from ej, Option.bind_some]
      exact e1
  · cases (show RD _ _ _ _ from ra) with | tup np e1 z c =>
    cases (show RD _ _ _ _ from rb)
    rename_i xs i vs p
    cases ej : ixN xs.length i with
    | none => rw [ej] at e; cases e
    | some j =>
      rw [ej, Option.bind_some] at e
      obtain ⟨w, f1, f2⟩ := c.get e
      refine ix_tup value slice pins s σ H _ _ v u Q I rx ry ⟨_, _, i, w, rfl, rfl, SqT.of e1, ?_, q.here hr f2⟩ hs
      unfold atI
      rw [← c.length, show L2.ixN xs.length i = some j from ej, Option.bind_some]
      exact f1
  · cases e
/-- a slice by values -/
def rSl (K : PySem.W.Frag) : V → Option Int → Option Int → Hp → VK → Prop := fun v lo hi H Q => ∃ L ρ h x d, HR K L ρ h H ∧ RT K (Pr L ρ h) H x v ∧ sliceV x lo hi = some d ∧ Ret K L ρ h H d Q
def rSlN (K : PySem.W.Frag) : V → Option Int → Option Int → Hp → VK → Prop := fun v lo hi H Q => ∃ L ρ h x xs, HR K L ρ h H ∧ RT K (Pr L ρ h) H x v ∧ sliceL x lo hi = some xs ∧
  ∀ p vs, H p = none → xs.length ≤ sizeLine → RDs (Pr L ρ h) H xs vs → Q (.ref p) (upd H p (.lst vs))
theorem cut_rel {P : Addr → Prop} {H : Hp} {ds : List D} {vs : List V} (c : RDs P H ds vs) (lo hi : Option Int) : RDs P H (cut ds lo hi) (cutV vs lo hi) := by
  unfold cut cutV sIx
  rw [c.length]
  exact (c.drop _).take _
theorem cut_len {α : Type} (xs : List α) (lo hi : Option Int) : (cut xs lo hi).length ≤ xs.length := by
  unfold cut
  rw [List.length_take, List.length_drop]
  omega
theorem cut_whole {α : Type} {xs : List α} {lo hi : Option Int} (h : HT.sIx xs.length 0 lo = 0 ∧ HT.sIx xs.length xs.length hi = xs.length) : cut xs lo hi = xs := by
  unfold cut sIx
  rw [h.1, h.2, List.drop_zero, Nat.sub_zero, List.take_length]
theorem slr : SlR X (rSl X.K) := by
  intro pins s σ H x v vl vu lo hi sl Q I rx hs pl pu ⟨L, ρ, h, a, d, hr, ra, e, q⟩
  unfold sliceV at e
  split at e
  · cases e
    cases (show RD _ _ _ _ from ra) with | tup np e1 z c =>
    refine sl_tupA pins s σ H _ v vl vu lo hi sl Q I rx hs pl pu ⟨_, _, rfl, SqT.of e1, fun w => ?_, fun w => q.tup hr (Nat.le_trans (cut_len _ _ _) z) (cut_rel c lo hi)⟩
    rw [← c.length] at w
    rw [cut_whole w] at q
    exact q.here hr (.tup np e1 z c)
  · rename_i zz
    split at e
    · rename_i hz
      cases e
      cases (show RD _ _ _ _ from ra) with | str _ ok =>
      exact sl_str pins s σ H _ v vl vu lo hi sl Q I rx hs pl pu ⟨_, rfl, hz, q.here hr (.str _ (ok_cut ok lo hi))⟩
    · cases e
  · cases e
theorem slrN : SlR X (rSlN X.K) := by
  intro pins s σ H x v vl vu lo hi sl Q I rx hs pl pu ⟨L, ρ, h, a, xs, hr, ra, e, q⟩
  unfold sliceL at e
  split at e
  · cases e
    obtain ⟨p, vs, rfl, sq, z, c⟩ := ra
    exact sl_list pins s σ H _ v vl vu lo hi sl Q I rx hs pl pu ⟨p, vs, rfl, sq, fun p' n => q p' _ n (Nat.le_trans (cut_len _ _ _) z) (cut_rel c lo hi)⟩
  · cases e
end
section
variable {X : Cx} {C : Nat → Option Value} {W : WX} {a b c : Expr} {eva evb evc : Env → M Vl} {pos : Pos}
theorem e_ix (ha : PE X a (tE C eva X.K W)) (hb : PE X b (tE C evb X.K W)) (hs : PlainIx b) : PE X (.Subscript a b pos) (tE C (fun en => rd2 (eva en) (evb en) fun x y => pO (ixV x y)) X.K W) :=
  pei (pe_ix ixr ha hb hs) t_op
/-- an int part -/
theorem o_prt {α τ : Type} {K : PySem.W.Frag} {L : Addr → Prop} {ρ : List Addr} {h : Hh} {H : Hp} {rel : List Addr → Hh → Hp → α → τ → Prop} {E : Value → Option Addr → Hp → Prop} {m : M Vl} {f : Int → M α} {Q : τ → Hp → Prop}
    (o : Out K C L ρ h H rel E (M.bind (prt m) f h) Q) : Out K C L ρ h H (relV L) E (m h) (fun x H1 => ∃ i, x = .int i ∧ ∃ ρ1 h1, HR K L ρ1 h1 H1 ∧ Stp L ρ h H ρ1 h1 H1 ∧ Out K C L ρ1 h1 H1 rel E (f i h1) Q) := by
  have e : M.bind (prt m) f h = M.bind m (fun v => M.bind (Jr.asD v) fun d => M.bind (ofO (asI d)) f) h := by
    unfold prt M.bind
    cases m h with
    | none => rfl
    | some p =>
      obtain ⟨r, h'⟩ := p
      cases r with
      | exc c => rfl
      | ok v =>
        dsimp only
        cases Jr.asD v h' with
        | none => rfl
        | some p => obtain ⟨r, h'⟩ := p; cases r <;> rfl
  rw [e] at o
  refine (Out.split (rel := relV L) o).mono fun x H1 ⟨ρ1, h1, y, hr1, s1, rv1, o1⟩ => ?_
  obtain ⟨d, rfl, rd, o2⟩ := Out.asD rv1 o1
  obtain ⟨i, e2, o3⟩ := Out.ofO o2
  cases d with
  | int j =>
    cases e2
    cases rd
    exact ⟨i, rfl, ρ1, h1, hr1, s1, o3⟩
  | _ => cases e2
theorem e_slT {hi : Expr} {evh : Env → M Vl} {p2 : Pos} (ha : PE X a (tE C eva X.K W)) (hh : PE X hi (tE C evh X.K W)) :
    PE X (.Subscript a (.Slice none (some hi) none p2) pos) (tE C (fun en => M.bind (eva en) fun v => M.bind (prt (evh en)) fun u => M.bind (Jr.rd v) fun x => pO (sliceV x none (some u))) X.K W) := by
  refine pei (pe_slice slr ha po_none (po_some hh)) fun σ H Q ⟨L, ρ, h, en, hr, er, o⟩ => ?_
  refine ⟨L, ρ, h, en, hr, er, (Out.split (rel := relV L) o).mono fun v H1 ⟨ρ1, h1, x, hr1, s1, rv1, o1⟩ => ?_⟩
  refine ⟨L, ρ1, h1, en, hr1, er.step s1, (o_prt o1).mono fun w H2 ⟨i, ei, ρ2, h2, hr2, s2, o2⟩ => ⟨i, ei, ?_⟩⟩
  obtain ⟨dx, rx, o3⟩ := Out.rd hr2 (rv1.step s2) o2
  obtain ⟨d, e, q⟩ := Out.pO hr2 o3
  exact ⟨L, ρ2, h2, dx, d, hr2, rx, e, q⟩
theorem e_slF {lo : Expr} {evl : Env → M Vl} {p2 : Pos} (ha : PE X a (tE C eva X.K W)) (hl : PE X lo (tE C evl X.K W)) :
    PE X (.Subscript a (.Slice (some lo) none none p2) pos) (tE C (fun en => M.bind (eva en) fun v => M.bind (prt (evl en)) fun l => M.bind (Jr.rd v) fun x => pO (sliceV x (some l) none)) X.K W) := by
  refine pei (pe_slice slr ha (po_some hl) po_none) fun σ H Q ⟨L, ρ, h, en, hr, er, o⟩ => ?_
  refine ⟨L, ρ, h, en, hr, er, (Out.split (rel := relV L) o).mono fun v H1 ⟨ρ1, h1, x, hr1, s1, rv1, o1⟩ => ?_⟩
  refine ⟨L, ρ1, h1, en, hr1, er.step s1, (o_prt o1).mono fun w H2 ⟨i, ei, ρ2, h2, hr2, s2, o2⟩ => ⟨i, ei, ?_⟩⟩
  obtain ⟨dx, rx, o3⟩ := Out.rd hr2 (rv1.step s2) o2
  obtain ⟨d, e, q⟩ := Out.pO hr2 o3
  exact ⟨L, ρ2, h2, dx, d, hr2, rx, e, q⟩
theorem e_slA {lo hi : Expr} {evl evh : Env → M Vl} {p2 : Pos} (ha : PE X a (tE C eva X.K W)) (hl : PE X lo (tE C evl X.K W)) (hh : PE X hi (tE C evh X.K W)) :
    PE X (.Subscript a (.Slice (some lo) (some hi) none p2) pos) (tE C (fun en => M.bind (eva en) fun v => M.bind (prt (evl en)) fun l => M.bind (prt (evh en)) fun u => M.bind (Jr.rd v) fun x => pO (sliceV x (some l) (some u))) X.K W) := by
  refine pei (pe_slice slr ha (po_some hl) (po_some hh)) fun σ H Q ⟨L, ρ, h, en, hr, er, o⟩ => ?_
  refine ⟨L, ρ, h, en, hr, er, (Out.split (rel := relV L) o).mono fun v H1 ⟨ρ1, h1, x, hr1, s1, rv1, o1⟩ => ?_⟩
  refine ⟨L, ρ1, h1, en, hr1, er.step s1, (o_prt o1).mono fun w H2 ⟨i, ei, ρ2, h2, hr2, s2, o2⟩ => ⟨i, ei, ?_⟩⟩
  refine ⟨L, ρ2, h2, en, hr2, (er.step s1).step s2, (o_prt o2).mono fun w H3 ⟨j, ej, ρ3, h3, hr3, s3, o3⟩ => ⟨j, ej, ?_⟩⟩
  obtain ⟨dx, rx, o4⟩ := Out.rd hr3 ((rv1.step s2).step s3) o3
  obtain ⟨d, e, q⟩ := Out.pO hr3 o4
  exact ⟨L, ρ3, h3, dx, d, hr3, rx, e, q⟩
/-- dd of a chain -/
theorem dd_bind {α : Type} (m : M Vl) (f : D → M α) : M.bind (dd m) f = M.bind m fun v => M.bind (Jr.rd v) f := by
  funext h
  unfold dd M.bind
  cases m h with
  | none => rfl
  | some p => obtain ⟨r, h'⟩ := p; cases r <;> rfl
theorem tt_bind {α : Type} (m : M Vl) (f : Bool → M α) : M.bind (tt m) f = M.bind m fun v => M.bind (Jr.rd v) fun d => M.bind (ofO (truth d)) f := by
  funext h
  unfold tt M.bind
  cases m h with
  | none => rfl
  | some p =>
    obtain ⟨r, h'⟩ := p
    cases r with
    | exc c => rfl
    | ok v =>
      dsimp only
      cases Jr.rd v h' with
      | none => rfl
      | some p => obtain ⟨r, h'⟩ := p; cases r <;> rfl
theorem e_rev {k : Nat} {p1 p2 p3 : Pos} (ha : PE X a (tE C eva X.K W)) : PE X (.Subscript a (.Slice none none (some (.UnaryOp .USub (.Constant (.int 1) k p1) p2)) p3) pos)
    (tE C (fun en => M.bind (dd (eva en)) fun x => pO ((asT x).map fun xs => .tuple xs.reverse)) X.K W) := by
  refine pei (L2x.pe_revT ha) fun σ H Q ⟨L, ρ, h, en, hr, er, o⟩ => ?_
  dsimp only at o
  rw [dd_bind] at o
  refine ⟨L, ρ, h, en, hr, er, (Out.split (rel := relV L) o).mono fun v H1 ⟨ρ1, h1, x, hr1, s1, rv1, o1⟩ => ?_⟩
  obtain ⟨dx, rx, o3⟩ := Out.rd hr1 rv1 o1
  obtain ⟨d, e, q⟩ := Out.pO hr1 o3
  cases dx with
  | tuple xs =>
    cases e
    cases (show RD _ _ _ _ from rx) with | tup np e1 z c =>
    exact ⟨_, _, rfl, SqT.of e1, q.tup hr1 (by rw [List.length_reverse]; exact z) c.reverse⟩
  | _ => cases e
theorem e_neg (ha : PE X a (tE C eva X.K W)) : PE X (.UnaryOp .USub a pos) (tE C (fun en => M.bind (dd (eva en)) fun x => pO (negV x)) X.K W) := pei (pe_un ur_neg ha) t_un
/-! ### truth -/
theorem o_tt {β υ : Type} {K : PySem.W.Frag} {L : Addr → Prop} {ρ : List Addr} {h : Hh} {H : Hp} {rel' : List Addr → Hh → Hp → β → υ → Prop} {E : Value → Option Addr → Hp → Prop} {m : M Vl} {f : Bool → M β} {Q : υ → Hp → Prop}
    (o : Out K C L ρ h H rel' E (M.bind (tt m) f h) Q) : Out K C L ρ h H (relV L) E (m h) (fun v H1 => ∃ ρ1 h1 k, HR K L ρ1 h1 H1 ∧ Stp L ρ h H ρ1 h1 H1 ∧ TruV K v H1 k ∧ Out K C L ρ1 h1 H1 rel' E (f k h1) Q) := by
  rw [tt_bind] at o
  refine (Out.split (rel := relV L) o).mono fun v H1 ⟨ρ1, h1, x, hr1, s1, rv1, o1⟩ => ?_
  obtain ⟨dx, rx, o2⟩ := Out.rd hr1 rv1 o1
  obtain ⟨k, e, o3⟩ := Out.ofO o2
  exact ⟨ρ1, h1, k, hr1, s1, RT.tru rx e, o3⟩
theorem e_nt (ha : PE X a (tE C eva X.K W)) : PE X (.UnaryOp .Not a pos) (tE C (fun en => M.bind (tt (eva en)) fun b => pD (.bool !b)) X.K W) := by
  refine pei (pe_notT ha) fun σ H Q ⟨L, ρ, h, en, hr, er, o⟩ => ?_
  refine ⟨L, ρ, h, en, hr, er, (o_tt o).mono fun v H1 ⟨ρ1, h1, k, hr1, s1, tv, o1⟩ => ⟨k, tv, ?_⟩⟩
  exact (Out.pD hr1 o1).here hr1 (.bool _)
theorem e_and {rest : List Expr} (ha : PE X a (tE C eva X.K W)) (hb : PE X (.BoolOp .And (b :: rest) pos) (tE C evb X.K W)) :
    PE X (.BoolOp .And (a :: b :: rest) pos) (tE C (fun en => M.bind (eva en) fun v => M.bind (Jr.rd v) fun x => M.bind (ofO (truth x)) fun k => if k then evb en else M.pure v) X.K W) := by
  refine pei (pe_andT ha hb) fun σ H Q ⟨L, ρ, h, en, hr, er, o⟩ => ?_
  refine ⟨L, ρ, h, en, hr, er, (Out.split (rel := relV L) o).mono fun v H1 ⟨ρ1, h1, x, hr1, s1, rv1, o1⟩ => ?_⟩
  obtain ⟨dx, rx, o2⟩ := Out.rd hr1 rv1 o1
  obtain ⟨k, e, o3⟩ := Out.ofO o2
  refine ⟨k, RT.tru rx e, ?_⟩
  cases k with
  | true => exact ⟨L, ρ1, h1, en, hr1, er.step s1, o3⟩
  | false => exact o3 ρ1 H1 v hr1 .refl rv1
theorem e_or {rest : List Expr} (ha : PE X a (tE C eva X.K W)) (hb : PE X (.BoolOp .Or (b :: rest) pos) (tE C evb X.K W)) :
    PE X (.BoolOp .Or (a :: b :: rest) pos) (tE C (fun en => M.bind (eva en) fun v => M.bind (Jr.rd v) fun x => M.bind (ofO (truth x)) fun k => if k then M.pure v else evb en) X.K W) := by
  refine pei (pe_orT ha hb) fun σ H Q ⟨L, ρ, h, en, hr, er, o⟩ => ?_
  refine ⟨L, ρ, h, en, hr, er, (Out.split (rel := relV L) o).mono fun v H1 ⟨ρ1, h1, x, hr1, s1, rv1, o1⟩ => ?_⟩
  obtain ⟨dx, rx, o2⟩ := Out.rd hr1 rv1 o1
  obtain ⟨k, e, o3⟩ := Out.ofO o2
  refine ⟨k, RT.tru rx e, ?_⟩
  cases k with
  | false => exact ⟨L, ρ1, h1, en, hr1, er.step s1, o3⟩
  | true => exact o3 ρ1 H1 v hr1 .refl rv1
/-! ### tests -/
/-- tt against a test's own way -/
theorem o_fin {K : PySem.W.Frag} {L : Addr → Prop} {ρ : List Addr} {h : Hh} {H : Hp} {E : Value → Option Addr → Hp → Prop} {m : M Vl} {Q : Bool → Hp → Prop}
    (o : Out K C L ρ h H relB E (tt m h) Q) : Out K C L ρ h H relB E (M.bind (tt m) M.pure h) Q := by
  have e : M.bind (tt m) M.pure h = tt m h := by
    unfold M.bind
    cases tt m h with
    | none => rfl
    | some p => obtain ⟨r, h'⟩ := p; cases r <;> rfl
  rw [e]; exact o
theorem t_plain (ha : PE X a (tE C eva X.K W)) (he : ∀ whole, isTrue a X.env whole = (do let v ← whole; standAt a.pos; holding [v] (truthy v))) : PT X a (tT C (fun en => tt (eva en)) X.K W) := by
  refine pti (pt_truth ha he) fun σ H Q ⟨L, ρ, h, en, hr, er, o⟩ => ?_
  refine ⟨L, ρ, h, en, hr, er, (o_tt (o_fin o)).mono fun v H1 ⟨ρ1, h1, k, hr1, s1, tv, o1⟩ => ⟨k, tv, ?_⟩⟩
  exact o1 ρ1 H1 k hr1 .refl rfl
theorem t_not {evt : Env → M Bool} (ha : PT X a (tT C evt X.K W)) : PT X (.UnaryOp .Not a pos) (tT C (fun en => M.bind (evt en) fun b => M.pure (!b)) X.K W) := by
  refine pti (pt_not ha) fun σ H Q ⟨L, ρ, h, en, hr, er, o⟩ => ?_
  exact ⟨L, ρ, h, en, hr, er, (Out.split (rel := relB) o).mono fun v H1 ⟨ρ1, h1, x, hr1, s1, rv1, o1⟩ => by cases rv1; exact o1 ρ1 H1 _ hr1 .refl rfl⟩
structure PWt (X : Cx) (e : Expr) (t : TT) : Prop where
  pw : PW X e t
theorem pwi {e : Expr} {t t' : TT} (p : PW X e t) (i : ∀ σ H Q, t' σ H Q → t σ H Q) : PW X e t' := ⟨fun wh pins s σ H Q I h => p.run wh pins s σ H Q I (i σ H Q h)⟩
theorem t_and {rest : List Expr} {evt evu : Env → M Bool} (ha : PT X a (tT C evt X.K W)) (hb : PW X (.BoolOp .And (b :: rest) pos) (tT C evu X.K W)) : PW X (.BoolOp .And (a :: b :: rest) pos) (tT C (fun en => M.bind (evt en) fun k => if k then evu en else M.pure false) X.K W) := by
  refine pwi (pw_and ha hb) fun σ H Q ⟨L, ρ, h, en, hr, er, o⟩ => ?_
  refine ⟨L, ρ, h, en, hr, er, (Out.split (rel := relB) o).mono fun v H1 ⟨ρ1, h1, x, hr1, s1, rv1, o1⟩ => ?_⟩
  cases rv1
  cases v with
  | true => exact ⟨L, ρ1, h1, en, hr1, er.step s1, o1⟩
  | false => exact o1 ρ1 H1 _ hr1 .refl rfl
theorem t_or {rest : List Expr} {evt evu : Env → M Bool} (ha : PT X a (tT C evt X.K W)) (hb : PW X (.BoolOp .Or (b :: rest) pos) (tT C evu X.K W)) : PW X (.BoolOp .Or (a :: b :: rest) pos) (tT C (fun en => M.bind (evt en) fun k => if k then M.pure true else evu en) X.K W) := by
  refine pwi (pw_or ha hb) fun σ H Q ⟨L, ρ, h, en, hr, er, o⟩ => ?_
  refine ⟨L, ρ, h, en, hr, er, (Out.split (rel := relB) o).mono fun v H1 ⟨ρ1, h1, x, hr1, s1, rv1, o1⟩ => ?_⟩
  cases rv1
  cases v with
  | false => exact ⟨L, ρ1, h1, en, hr1, er.step s1, o1⟩
  | true => exact o1 ρ1 H1 _ hr1 .refl rfl
theorem tt_pD (x : D) (h : Hh) : tt (pD x) h = (truth x).elim none fun k => some (.ok k, h) := by
  show (match ofO (truth x) h with | r => r) = _
  cases truth x <;> rfl
/-- the result is a bool -/
def BoolM (m : M Vl) : Prop := ∀ h x h', m h = some (.ok x, h') → ∃ k, x = .d (.bool k)
theorem BoolM.bind {α : Type} {m : M α} {f : α → M Vl} (b : ∀ x, BoolM (f x)) : BoolM (M.bind m f) := fun h x h' e => by
  unfold M.bind at e
  cases e1 : m h with
  | none => rw [e1] at e; cases e
  | some p =>
    obtain ⟨r, h1⟩ := p
    rw [e1] at e
    cases r with
    | exc c => cases e
    | ok v => exact b v h1 x h' e
theorem BoolM.pO {o : Option Bool} : BoolM (Jr.pO (o.map .bool)) := fun h x h' e => by
  cases o with
  | none => cases e
  | some k => cases e; exact ⟨k, rfl⟩
theorem BoolM.pD {k : Bool} : BoolM (Jr.pD (.bool k)) := fun h x h' e => by cases e; exact ⟨k, rfl⟩
theorem BoolM.fail : BoolM Jr.fail := fun h x h' e => by cases e
theorem BoolM.out {K : PySem.W.Frag} {L : Addr → Prop} {ρ : List Addr} {h : Hh} {H : Hp} {E : Value → Option Addr → Hp → Prop} {m : M Vl} {Q : Bool → Hp → Prop} (b : BoolM m)
    (o : Out K C L ρ h H relB E (tt m h) Q) : Out K C L ρ h H (relV L) E (m h) (fun x H' => ∃ k, x = .bl k ∧ Q k H') := by
  unfold tt M.bind at o
  cases e : m h with
  | none => rw [e] at o; exact o
  | some p =>
    obtain ⟨r, h1⟩ := p
    rw [e] at o
    cases r with
    | exc c => exact o
    | ok v =>
      obtain ⟨k, rfl⟩ := b h v h1 e
      intro ρ' H' z hr' s' rz
      cases (show RD _ _ _ _ from rz)
      exact ⟨k, rfl, o ρ' H' k hr' s' rfl⟩
/-- a comparison's reading, as a test -/
theorem t_cmp {o : CmpOp} {f : D → D → Option Bool} (ho : OpR X (compareOp o) (r2 X.K (bB f))) (ha : PE X a (tE C eva X.K W)) (hb : PE X b (tE C evb X.K W)) (hm : behindInMarks o b = false) :
    PT X (.Compare a [o] [b] pos) (tT C (fun en => tt (rd2 (eva en) (evb en) fun x y => pO ((f x y).map .bool))) X.K W) := by
  refine pti (pt_cmpR ho ha hb hm) fun σ H Q ⟨L, ρ, h, en, hr, er, o⟩ => ?_
  refine t_op (f := bB f) σ H _ ⟨L, ρ, h, en, hr, er, BoolM.out (m := rd2 (eva en) (evb en) fun x y => pO ((f x y).map .bool)) ?_ o⟩
  exact BoolM.bind fun _ => BoolM.bind fun _ => BoolM.bind fun _ => BoolM.bind fun _ => BoolM.pO
/-! ### a op b op' c -/
theorem t_chain {o o' : CmpOp} {f f' : D → D → Option Bool} {evc : Env → M Vl} : ∀ σ H Q, tE C (fun en => M.bind (eva en) fun va => M.bind (evb en) fun vb => M.bind (Jr.asD va) fun x => M.bind (Jr.asD vb) fun y => M.bind (ofO (f x y)) fun k =>
      if k then M.bind (evc en) fun vc => M.bind (Jr.asD vc) fun z => pO ((f' y z).map .bool) else pD (.bool false)) X.K W σ H Q → tChain (r2 X.K (bB f)) (r2 X.K (bB f')) (tE C eva X.K W) (tE C evb X.K W) (tE C evc X.K W) σ H Q := fun σ H Q ⟨L, ρ, h, en, hr, er, o⟩ => by
  refine ⟨L, ρ, h, en, hr, er, (Out.split (rel := relV L) o).mono fun v H1 ⟨ρ1, h1, x, hr1, s1, rv1, o1⟩ => ?_⟩
  refine ⟨L, ρ1, h1, en, hr1, er.step s1, (Out.split (rel := relV L) o1).mono fun w H2 ⟨ρ2, h2, y, hr2, s2, rv2, o2⟩ => ?_⟩
  obtain ⟨dx, rfl, rx, o3⟩ := Out.asD (rv1.step s2) o2
  obtain ⟨dy, rfl, ry, o4⟩ := Out.asD rv2 o3
  obtain ⟨k, e, o5⟩ := Out.ofO o4
  refine ⟨L, ρ2, h2, dx, dy, .bool k, hr2, rx.rt, ry.rt, by unfold bB; rw [e]; rfl, fun u H3 hr3 s3 ru => ?_⟩
  cases (show RD _ _ _ _ from ru)
  refine ⟨k, rfl, ?_⟩
  cases k with
  | false => exact (Out.pD hr3 (o5.rebase s3)).here hr3 (.bool _)
  | true =>
    refine ⟨L, ρ2, h2, en, hr3, ((er.step s1).step s2).step s3, (Out.split (rel := relV L) (o5.rebase s3)).mono fun z H4 ⟨ρ4, h4, vz, hr4, s4, rv4, o6⟩ => ?_⟩
    obtain ⟨dz, rfl, rz, o7⟩ := Out.asD rv4 o6
    obtain ⟨d, e7, q⟩ := Out.pO hr4 o7
    exact ⟨L, ρ4, h4, dy, dz, d, hr4, (RD.gr s4.gr _ _ (RD.gr s3.gr _ _ ry)).rt, rz.rt, e7, q⟩
theorem e_chain {o o' : CmpOp} {f f' : D → D → Option Bool} {evc : Env → M Vl} (ho : OpR X (compareOp o) (r2 X.K (bB f))) (ho' : OpR X (compareOp o') (r2 X.K (bB f'))) (ha : PE X a (tE C eva X.K W)) (hb : PE X b (tE C evb X.K W)) (hc : PE X c (tE C evc X.K W)) (hm : lastMarks [o, o'] [b, c] = false) :
    PE X (.Compare a [o, o'] [b, c] pos) (tE C (fun en => M.bind (eva en) fun va => M.bind (evb en) fun vb => M.bind (Jr.asD va) fun x => M.bind (Jr.asD vb) fun y => M.bind (ofO (f x y)) fun k =>
      if k then M.bind (evc en) fun vc => M.bind (Jr.asD vc) fun z => pO ((f' y z).map .bool) else pD (.bool false)) X.K W) :=
  pei (pe_chain ho ho' ha hb hc hm) (t_chain (o := o) (o' := o'))
theorem tt_chain {o o' : CmpOp} {f f' : D → D → Option Bool} {evc : Env → M Vl} (ho : OpR X (compareOp o) (r2 X.K (bB f))) (ho' : OpR X (compareOp o') (r2 X.K (bB f'))) (ha : PE X a (tE C eva X.K W)) (hb : PE X b (tE C evb X.K W)) (hc : PE X c (tE C evc X.K W)) (hm : lastMarks [o, o'] [b, c] = false) :
    PT X (.Compare a [o, o'] [b, c] pos) (tT C (fun en => tt (M.bind (eva en) fun va => M.bind (evb en) fun vb => M.bind (Jr.asD va) fun x => M.bind (Jr.asD vb) fun y => M.bind (ofO (f x y)) fun k =>
      if k then M.bind (evc en) fun vc => M.bind (Jr.asD vc) fun z => pO ((f' y z).map .bool) else pD (.bool false))) X.K W) := by
  refine pti (pt_chain ho ho' ha hb hc hm) fun σ H Q ⟨L, ρ, h, en, hr, er, o⟩ => ?_
  refine t_chain (o := .Eq) (o' := .Eq) σ H _ ⟨L, ρ, h, en, hr, er, BoolM.out (m := M.bind (eva en) fun va => M.bind (evb en) fun vb => M.bind (Jr.asD va) fun x => M.bind (Jr.asD vb) fun y => M.bind (ofO (f x y)) fun k =>
      if k then M.bind (evc en) fun vc => M.bind (Jr.asD vc) fun z => pO ((f' y z).map .bool) else pD (.bool false)) ?_ o⟩
  refine BoolM.bind fun _ => BoolM.bind fun _ => BoolM.bind fun _ => BoolM.bind fun _ => BoolM.bind fun k => ?_
  cases k with
  | false => exact BoolM.pD
  | true => exact BoolM.bind fun _ => BoolM.bind fun _ => BoolM.pO
theorem t_ite {evt evu evv : Env → M Bool} {eva evb : Env → M Vl} (hc : PT X c (tT C evt X.K W)) (ha : PE X a (tE C eva X.K W)) (hb : PE X b (tE C evb X.K W)) :
    PE X (.IfExp c a b pos) (tE C (fun en => M.bind (evt en) fun k => if k then eva en else evb en) X.K W) := by
  refine pei (pe_ifExp hc ha hb) fun σ H Q ⟨L, ρ, h, en, hr, er, o⟩ => ?_
  refine ⟨L, ρ, h, en, hr, er, (Out.split (rel := relB) o).mono fun v H1 ⟨ρ1, h1, x, hr1, s1, rv1, o1⟩ => ?_⟩
  cases rv1
  cases v with
  | true => exact ⟨L, ρ1, h1, en, hr1, er.step s1, o1⟩
  | false => exact ⟨L, ρ1, h1, en, hr1, er.step s1, o1⟩
end
end Jr

set_option Elab.async false
set_option linter.all false
set_option maxRecDepth 100000
set_option maxHeartbeats 1000000
namespace Jr
open PySem PySem.Spec PyProof.Rows L2
inductive RTs (K : PySem.W.Frag) (P : Addr → Prop) (H : Hp) : List D → List V → Prop
  | nil : RTs K P H [] []
  | cons {d : D} {v : V} {ds : List D} {vs : List V} : RT K P H d v → RTs K P H ds vs → RTs K P H (d :: ds) (v :: vs)
section
variable {α β τ υ : Type} {K : PySem.W.Frag} {C : Nat → Option Value} {L : Addr → Prop} {ρ ρ1 : List Addr} {h h1 : Hh} {H H1 : Hp} {E : Value → Option Addr → Hp → Prop}
theorem Out.bb {γ : Type} {rel' : List Addr → Hh → Hp → υ → τ → Prop} {m : M α} {f : α → M β} {g : β → M υ} {Q : τ → Hp → Prop} (o : Out K C L ρ h H rel' E (M.bind (M.bind m f) g h) Q) : Out K C L ρ h H rel' E (M.bind m (fun x => M.bind (f x) g) h) Q := by
  have e : M.bind (M.bind m f) g h = M.bind m (fun x => M.bind (f x) g) h := by
    unfold M.bind
    cases m h with
    | none => rfl
    | some p => obtain ⟨r, h'⟩ := p; cases r <;> rfl
  rw [← e]; exact o
theorem Out.asDs {rel' : List Addr → Hh → Hp → β → υ → Prop} {Q : υ → Hp → Prop} : ∀ {xs : List Vl} {vs : List V} {f : List D → M β}, RVs (Pr L ρ h) ρ H xs vs → Out K C L ρ h H rel' E (M.bind (Jr.asDs xs) f h) Q → ∃ ds, RDs (Pr L ρ h) H ds vs ∧ Out K C L ρ h H rel' E (f ds h) Q
  | _, _, f, .nil, o => ⟨[], .nil, o⟩
  | _, _, f, .cons rv rvs, o => by
    obtain ⟨d, _, r, o1⟩ := Out.asD rv (Out.bb (γ := Unit) o)
    obtain ⟨ds, rs, o2⟩ := Out.asDs rvs (Out.bb (γ := Unit) o1)
    exact ⟨d :: ds, .cons r rs, o2⟩
theorem Out.rds {rel' : List Addr → Hh → Hp → β → υ → Prop} {Q : υ → Hp → Prop} (hr : HR K L ρ h H) : ∀ {xs : List Vl} {vs : List V} {f : List D → M β}, RVs (Pr L ρ h) ρ H xs vs → Out K C L ρ h H rel' E (M.bind (Jr.rds xs) f h) Q → ∃ ds, RTs K (Pr L ρ h) H ds vs ∧ Out K C L ρ h H rel' E (f ds h) Q
  | _, _, f, .nil, o => ⟨[], .nil, o⟩
  | _, _, f, .cons rv rvs, o => by
    obtain ⟨d, r, o1⟩ := Out.rd hr rv (Out.bb (γ := Unit) o)
    obtain ⟨ds, rs, o2⟩ := Out.rds hr rvs (Out.bb (γ := Unit) o1)
    exact ⟨d :: ds, .cons r rs, o2⟩
theorem Out.rdL {rel' : List Addr → Hh → Hp → β → υ → Prop} {x : Vl} {v : V} {f : List D → M β} {Q : υ → Hp → Prop} (hr : HR K L ρ h H) (rv : RV (Pr L ρ h) ρ H x v) (o : Out K C L ρ h H rel' E (M.bind (Jr.rdL x) f h) Q) :
    ∃ ds p vs, v = .ref p ∧ H p = some (.lst vs) ∧ ds.length ≤ sizeLine ∧ RDs (Pr L ρ h) H ds vs ∧ Out K C L ρ h H rel' E (f ds h) Q := by
  cases x with
  | k n => exact False.elim o
  | d x =>
    cases x with
    | list xs =>
      cases (show RD _ _ _ _ from rv) with
      | lst np e z c => exact ⟨xs, _, _, rfl, e, z, c, o⟩
    | _ => exact False.elim o
  | r n =>
    obtain ⟨a, e1, rfl⟩ := rv
    have e0 : Jr.rdL (.r n) h = (match h[n]? with
      | some (.lst xs) => some (R.ok xs, h)
      | _ => none) := rfl
    unfold M.bind at o
    rw [e0] at o
    cases e2 : h[n]? with
    | none => rw [e2] at o; exact False.elim o
    | some c =>
      rw [e2] at o
      cases c with
      | lst xs =>
        obtain ⟨vs, e3, z, c⟩ := hr.cell n a _ e1 e2
        exact ⟨xs, a, vs, rfl, e3, z, c, o⟩
      | _ => exact False.elim o
theorem Out.ite {rel' : List Addr → Hh → Hp → β → υ → Prop} {Q : υ → Hp → Prop} {c : Prop} [Decidable c] {m : M β} (o : Out K C L ρ h H rel' E ((if c then m else Jr.fail) h) Q) : c ∧ Out K C L ρ h H rel' E (m h) Q := by
  by_cases q : c
  · rw [if_pos q] at o; exact ⟨q, o⟩
  · rw [if_neg q] at o; exact False.elim o
end
/-! ### new lists -/
/-- a list at p that stands by itself: in H1 it was not there -/
def relF (K : PySem.W.Frag) (L : Addr → Prop) (ρ0 : List Addr) (h0 : Hh) (H0 : Hp) : List Addr → Hh → Hp → List D → V → Prop := fun ρ h H xs v =>
  ∃ p vs H1, v = .ref p ∧ H = upd H1 p (.lst vs) ∧ H1 p = none ∧ HR K L ρ h H1 ∧ Stp L ρ0 h0 H0 ρ h H1 ∧ RDs (Pr L ρ h) H1 xs vs ∧ xs.length ≤ sizeLine
def tF (C : Nat → Option Value) (ev : Env → M (List D)) (K : PySem.W.Frag) (W : WX) : TE := fun σ H Q => ∃ L ρ h en, HR K L ρ h H ∧ ER (Pr L ρ h) ρ H en σ ∧ Out K C L ρ h H (relF K L ρ h H) (fun c d H' => W c d σ H') (ev en h) Q
section
variable {X : Cx} {C : Nat → Option Value} {W : WX} {a b c : Expr} {eva evb evc : Env → M Vl} {pos : Pos}
theorem e_new {e : Expr} {ev : Env → M (List D)} (p : PE X e (tF C ev X.K W)) : PE X e (tE C (fun en => M.bind (ev en) fun xs => pD (.list xs)) X.K W) := by
  refine pei p fun σ H Q ⟨L, ρ, h, en, hr, er, o⟩ => ⟨L, ρ, h, en, hr, er, ?_⟩
  unfold M.bind at o
  dsimp only at o
  cases e : ev en h with
  | none => rw [e] at o; exact o
  | some q =>
    obtain ⟨r, h1⟩ := q
    rw [e] at o
    cases r with
    | exc c => exact o
    | ok xs =>
      intro ρ' H' v hr' s' ⟨p, vs, H1, ev, eH, np, hr1, s1, rs, z⟩
      subst ev eH
      obtain ⟨hr2, s2⟩ := hr1.new (o := .lst vs) np
      exact o ρ' _ _ hr' s' (RD.lst (hr1.np np) upd_same z (RDs.gr s2.gr _ _ rs))
theorem e_box {e : Expr} {ev : Env → M (List D)} (p : PE X e (tF C ev X.K W)) : PE X e (tE C (fun en => M.bind (ev en) fun xs => newC (.lst xs)) X.K W) := by
  refine pei p fun σ H Q ⟨L, ρ, h, en, hr, er, o⟩ => ⟨L, ρ, h, en, hr, er, ?_⟩
  unfold M.bind at o
  dsimp only at o
  cases e : ev en h with
  | none => rw [e] at o; exact o
  | some q =>
    obtain ⟨r, h1⟩ := q
    rw [e] at o
    cases r with
    | exc c => exact o
    | ok xs =>
      intro ρ' H' v hr' s' ⟨p, vs, H1, ev, eH, np, hr1, s1, rs, z⟩
      subst ev eH
      obtain ⟨hr2, s2⟩ := hr1.cellNew np z rs
      refine o (ρ' ++ [p]) _ _ hr2 (s1.trans s2) ⟨p, ?_, rfl⟩
      rw [← hr1.len, List.getElem?_append_right (Nat.le_refl _), Nat.sub_self]
      rfl
/-- an end with a new list -/
theorem fin_lst {L : Addr → Prop} {ρ : List Addr} {h : Hh} {H : Hp} {ρ0 : List Addr} {h0 : Hh} {H0 : Hp} {E : Value → Option Addr → Hp → Prop} {xs : List D} {vs : List V} {Q : VK} (s : Stp L ρ0 h0 H0 ρ h H) (hr : HR X.K L ρ h H)
    (o : Out X.K C L ρ h H (relF X.K L ρ0 h0 H0) E (M.pure xs h) Q) (z : xs.length ≤ sizeLine) (rs : RDs (Pr L ρ h) H xs vs) : ∀ p, H p = none → Q (.ref p) (upd H p (.lst vs)) := fun p n => by
  obtain ⟨hr2, s2⟩ := hr.new (o := .lst vs) n
  exact o ρ _ _ hr2 s2 ⟨p, vs, H, rfl, rfl, n, hr, s, rs, z⟩
/-! ### arguments -/
theorem a_nil : PA X [] (tEs C (fun _ => M.pure []) X.K W) := pai pa_nil fun σ H Q ⟨L, ρ, h, en, hr, er, o⟩ => o ρ H [] hr .refl .nil
theorem a_cons {e : Expr} {es : List Expr} {ev : Env → M Vl} {evs : Env → M (List Vl)} (ha : PE X e (tE C ev X.K W)) (hes : PA X es (tEs C evs X.K W)) (hs : starEach (e :: es) X.env = (false, eval e X.env) :: starEach es X.env) :
    PA X (e :: es) (tEs C (fun en => M.bind (ev en) fun v => M.bind (evs en) fun vs => M.pure (v :: vs)) X.K W) := by
  refine pai (pa_cons ha hes hs) fun σ H Q ⟨L, ρ, h, en, hr, er, o⟩ => ?_
  refine ⟨L, ρ, h, en, hr, er, (Out.split (rel := relV L) o).mono fun v H1 ⟨ρ1, h1, x, hr1, s1, rv1, o1⟩ => ?_⟩
  refine ⟨L, ρ1, h1, en, hr1, er.step s1, (Out.split (rel := relVs L) o1).mono fun vs H2 ⟨ρ2, h2, xs, hr2, s2, rv2, o2⟩ => ?_⟩
  exact o2 ρ2 H2 _ hr2 .refl (.cons (rv1.step s2) rv2)
theorem e_tup {es : List Expr} {evs : Env → M (List Vl)} {k : Nat} (hes : PA X es (tEs C evs X.K W)) :
    PE X (.Tuple es k pos) (tE C (fun en => M.bind (evs en) fun vs => M.bind (Jr.asDs vs) fun xs => if xs.length ≤ sizeLine then pD (.tuple xs) else Jr.fail) X.K W) := by
  refine pei (pe_tup hes) fun σ H Q ⟨L, ρ, h, en, hr, er, o⟩ => ?_
  refine ⟨L, ρ, h, en, hr, er, (Out.split (rel := relVs L) o).mono fun vs H1 ⟨ρ1, h1, xs, hr1, s1, rv1, o1⟩ => ?_⟩
  obtain ⟨ds, rs, o2⟩ := Out.asDs rv1 o1
  obtain ⟨z, o3⟩ := Out.ite o2
  exact ⟨by rw [← rs.length]; exact z, (Out.pD hr1 o3).tup hr1 z rs⟩
theorem f_lst {es : List Expr} {evs : Env → M (List Vl)} (hes : PA X es (tEs C evs X.K W)) :
    PE X (.List es pos) (tF C (fun en => M.bind (evs en) fun vs => M.bind (Jr.asDs vs) fun xs => if xs.length ≤ sizeLine then M.pure xs else Jr.fail) X.K W) := by
  refine pei (pe_lst hes) fun σ H Q ⟨L, ρ, h, en, hr, er, o⟩ => ?_
  refine ⟨L, ρ, h, en, hr, er, (Out.split (rel := relVs L) o).mono fun vs H1 ⟨ρ1, h1, xs, hr1, s1, rv1, o1⟩ => ?_⟩
  obtain ⟨ds, rs, o2⟩ := Out.asDs rv1 o1
  obtain ⟨z, o3⟩ := Out.ite o2
  exact ⟨by rw [← rs.length]; exact z, fin_lst s1 hr1 o3 z rs⟩
theorem f_cat (ha : PE X a (tE C eva X.K W)) (hb : PE X b (tE C evb X.K W)) : PE X (.BinOp a .Add b pos) (tF C (fun en => M.bind (eva en) fun v => M.bind (evb en) fun w => M.bind (Jr.rdL v) fun xs => M.bind (Jr.rdL w) fun ys => if xs.length + ys.length ≤ sizeLine then M.pure (xs ++ ys) else Jr.fail) X.K W) := by
  refine pei (pe_op op_cat ha hb) fun σ H Q ⟨L, ρ, h, en, hr, er, o⟩ => ?_
  refine ⟨L, ρ, h, en, hr, er, (Out.split (rel := relV L) o).mono fun v H1 ⟨ρ1, h1, x, hr1, s1, rv1, o1⟩ => ?_⟩
  refine ⟨L, ρ1, h1, en, hr1, er.step s1, (Out.split (rel := relV L) o1).mono fun w H2 ⟨ρ2, h2, y, hr2, s2, rv2, o2⟩ => ?_⟩
  obtain ⟨xs, p, vs, rfl, e1, z1, c1, o3⟩ := Out.rdL hr2 (rv1.step s2) o2
  obtain ⟨ys, q, ws, rfl, e2, z2, c2, o4⟩ := Out.rdL hr2 rv2 o3
  obtain ⟨z, o5⟩ := Out.ite o4
  exact ⟨p, q, vs, ws, rfl, rfl, e1, e2, by rw [← c1.length, ← c2.length]; exact z, fin_lst (s1.trans s2) hr2 o5 (by rw [List.length_append]; exact z) (c1.append c2)⟩
theorem f_rep (ha : PE X a (tE C eva X.K W)) (hb : PE X b (tE C evb X.K W)) : PE X (.BinOp a .Mult b pos) (tF C (fun en => M.bind (eva en) fun v => M.bind (evb en) fun w => M.bind (Jr.rdL v) fun xs => M.bind (Jr.asD w) fun y => ofO (repL xs y)) X.K W) := by
  refine pei (pe_op op_rep ha hb) fun σ H Q ⟨L, ρ, h, en, hr, er, o⟩ => ?_
  refine ⟨L, ρ, h, en, hr, er, (Out.split (rel := relV L) o).mono fun v H1 ⟨ρ1, h1, x, hr1, s1, rv1, o1⟩ => ?_⟩
  refine ⟨L, ρ1, h1, en, hr1, er.step s1, (Out.split (rel := relV L) o1).mono fun w H2 ⟨ρ2, h2, y, hr2, s2, rv2, o2⟩ => ?_⟩
  obtain ⟨xs, p, vs, rfl, e1, z1, c1, o3⟩ := Out.rdL hr2 (rv1.step s2) o2
  obtain ⟨d, rfl, rd, o4⟩ := Out.asD rv2 o3
  cases d with
  | int k =>
    cases rd
    have er : repL xs (.int k) = if -(2 ^ 63) ≤ k ∧ k < 2 ^ 63 ∧ xs.length * k.toNat ≤ sizeLine then some (reps xs k) else none := rfl
    rw [er] at o4
    by_cases hz : -(2 ^ 63) ≤ k ∧ k < 2 ^ 63 ∧ xs.length * k.toNat ≤ sizeLine
    · rw [if_pos hz] at o4
      refine ⟨p, k, vs, rfl, rfl, e1, hz.1, hz.2.1, by rw [← c1.length]; exact hz.2.2, fin_lst (s1.trans s2) hr2 o4 ?_ (c1.rep _)⟩
      unfold reps
      rw [PyProof.Rows.lm_len_rep_flat, Nat.mul_comm]
      exact hz.2.2
    · rw [if_neg hz] at o4; exact False.elim o4
  | _ => exact False.elim o4
theorem f_slT {hi : Expr} {evh : Env → M Vl} {p2 : Pos} (ha : PE X a (tE C eva X.K W)) (hh : PE X hi (tE C evh X.K W)) :
    PE X (.Subscript a (.Slice none (some hi) none p2) pos) (tF C (fun en => M.bind (eva en) fun v => M.bind (prt (evh en)) fun u => M.bind (Jr.rd v) fun x => ofO (sliceL x none (some u))) X.K W) := by
  refine pei (pe_slice slrN ha po_none (po_some hh)) fun σ H Q ⟨L, ρ, h, en, hr, er, o⟩ => ?_
  refine ⟨L, ρ, h, en, hr, er, (Out.split (rel := relV L) o).mono fun v H1 ⟨ρ1, h1, x, hr1, s1, rv1, o1⟩ => ?_⟩
  refine ⟨L, ρ1, h1, en, hr1, er.step s1, (o_prt o1).mono fun w H2 ⟨i, ei, ρ2, h2, hr2, s2, o2⟩ => ⟨i, ei, ?_⟩⟩
  obtain ⟨dx, rx, o3⟩ := Out.rd hr2 (rv1.step s2) o2
  cases e : sliceL dx none (some i) with
  | none => rw [e] at o3; exact False.elim o3
  | some xs =>
    rw [e] at o3
    exact ⟨L, ρ2, h2, dx, xs, hr2, rx, e, fun p vs n z rs => fin_lst (s1.trans s2) hr2 o3 z rs p n⟩
theorem f_slF {lo : Expr} {evl : Env → M Vl} {p2 : Pos} (ha : PE X a (tE C eva X.K W)) (hl : PE X lo (tE C evl X.K W)) :
    PE X (.Subscript a (.Slice (some lo) none none p2) pos) (tF C (fun en => M.bind (eva en) fun v => M.bind (prt (evl en)) fun l => M.bind (Jr.rd v) fun x => ofO (sliceL x (some l) none)) X.K W) := by
  refine pei (pe_slice slrN ha (po_some hl) po_none) fun σ H Q ⟨L, ρ, h, en, hr, er, o⟩ => ?_
  refine ⟨L, ρ, h, en, hr, er, (Out.split (rel := relV L) o).mono fun v H1 ⟨ρ1, h1, x, hr1, s1, rv1, o1⟩ => ?_⟩
  refine ⟨L, ρ1, h1, en, hr1, er.step s1, (o_prt o1).mono fun w H2 ⟨i, ei, ρ2, h2, hr2, s2, o2⟩ => ⟨i, ei, ?_⟩⟩
  obtain ⟨dx, rx, o3⟩ := Out.rd hr2 (rv1.step s2) o2
  cases e : sliceL dx (some i) none with
  | none => rw [e] at o3; exact False.elim o3
  | some xs =>
    rw [e] at o3
    exact ⟨L, ρ2, h2, dx, xs, hr2, rx, e, fun p vs n z rs => fin_lst (s1.trans s2) hr2 o3 z rs p n⟩
theorem f_rev {k : Nat} {p1 p2 p3 : Pos} (ha : PE X a (tE C eva X.K W)) : PE X (.Subscript a (.Slice none none (some (.UnaryOp .USub (.Constant (.int 1) k p1) p2)) p3) pos)
    (tF C (fun en => M.bind (dd (eva en)) fun x => ofO ((asL x).map List.reverse)) X.K W) := by
  refine pei (pe_revL ha) fun σ H Q ⟨L, ρ, h, en, hr, er, o⟩ => ?_
  dsimp only at o
  rw [dd_bind] at o
  refine ⟨L, ρ, h, en, hr, er, (Out.split (rel := relV L) o).mono fun v H1 ⟨ρ1, h1, x, hr1, s1, rv1, o1⟩ => ?_⟩
  obtain ⟨dx, rx, o3⟩ := Out.rd hr1 rv1 o1
  cases dx with
  | list xs =>
    obtain ⟨p, vs, rfl, sq, z, c⟩ := rx
    exact ⟨p, vs, rfl, sq, fin_lst s1 hr1 o3 (by rw [List.length_reverse]; exact z) c.reverse⟩
  | _ => exact False.elim o3
/-! ### built-ins by values -/
def rC (K : PySem.W.Frag) (f : List D → Option D) : List V → Hp → VK → Prop := fun vs H Q => ∃ L ρ h ds d, HR K L ρ h H ∧ RTs K (Pr L ρ h) H ds vs ∧ f ds = some d ∧ Ret K L ρ h H d Q
theorem t_blt {f : List D → Option D} {evs : Env → M (List Vl)} : ∀ σ H Q, tE C (fun en => M.bind (evs en) fun vs => M.bind (Jr.rds vs) fun xs => pO (f xs)) X.K W σ H Q → tCB (rC X.K f) (tEs C evs X.K W) σ H Q := fun σ H Q ⟨L, ρ, h, en, hr, er, o⟩ => by
  refine ⟨L, ρ, h, en, hr, er, (Out.split (rel := relVs L) o).mono fun vs H1 ⟨ρ1, h1, xs, hr1, s1, rv1, o1⟩ => ?_⟩
  obtain ⟨ds, rs, o2⟩ := Out.rds hr1 rv1 o1
  obtain ⟨d, e, q⟩ := Out.pO hr1 o2
  exact ⟨L, ρ1, h1, ds, d, hr1, rs, e, q⟩
theorem allI_rel {P : Addr → Prop} {H : Hp} : ∀ {ds : List D} {vs : List V} {l : List Int}, RDs P H ds vs → allI ds = some l → vs = l.map V.int
  | _, _, l, .nil, e => by cases e; rfl
  | d :: ds, _, l, .cons r t, e => by
    cases d with
    | int i =>
      cases r
      unfold allI at e
      simp only [asI, Option.bind_some] at e
      cases e2 : allI ds with
      | none => rw [e2] at e; cases e
      | some l' => rw [e2] at e; cases e; rw [allI_rel t e2]; rfl
    | _ => cases e
theorem allB_rel {P : Addr → Prop} {H : Hp} : ∀ {ds : List D} {vs : List V} {l : List Bool}, RDs P H ds vs → allB ds = some l → vs = l.map V.bl
  | _, _, l, .nil, e => by cases e; rfl
  | d :: ds, _, l, .cons r t, e => by
    cases d with
    | bool i =>
      cases r
      unfold allB at e
      simp only [asB, Option.bind_some] at e
      cases e2 : allB ds with
      | none => rw [e2] at e; cases e
      | some l' => rw [e2] at e; cases e; rw [allB_rel t e2]; rfl
    | _ => cases e
theorem maxL_mem : ∀ (r : List Int) (a : Int), maxL a r ∈ a :: r
  | [], a => List.mem_cons_self
  | b :: r, a => by
    unfold maxL
    have := maxL_mem r (if a < b then b else a)
    rcases List.mem_cons.mp this with h | h
    · rw [h]; split <;> simp
    · exact List.mem_cons_of_mem _ (List.mem_cons_of_mem _ h)
theorem maxL_ge : ∀ (r : List Int) (a : Int), ∀ y ∈ a :: r, y ≤ maxL a r
  | [], a, y, h => by
    rcases List.mem_cons.mp h with rfl | h
    · exact Int.le_refl _
    · cases h
  | b :: r, a, y, h => by
    unfold maxL
    have ih := maxL_ge r (if a < b then b else a)
    have h0 := ih _ List.mem_cons_self
    rcases List.mem_cons.mp h with rfl | h
    · split at h0 <;> split <;> omega
    · rcases List.mem_cons.mp h with rfl | h
      · split at h0 <;> split <;> omega
      · exact ih y (List.mem_cons_of_mem _ h)
theorem minL_mem : ∀ (r : List Int) (a : Int), minL a r ∈ a :: r
  | [], a => List.mem_cons_self
  | b :: r, a => by
    unfold minL
    have := minL_mem r (if b < a then b else a)
    rcases List.mem_cons.mp this with h | h
    · rw [h]; split <;> simp
    · exact List.mem_cons_of_mem _ (List.mem_cons_of_mem _ h)
theorem minL_le : ∀ (r : List Int) (a : Int), ∀ y ∈ a :: r, minL a r ≤ y
  | [], a, y, h => by
    rcases List.mem_cons.mp h with rfl | h
    · exact Int.le_refl _
    · cases h
  | b :: r, a, y, h => by
    unfold minL
    have ih := minL_le r (if b < a then b else a)
    have h0 := ih _ List.mem_cons_self
    rcases List.mem_cons.mp h with rfl | h
    · split at h0 <;> split <;> omega
    · rcases List.mem_cons.mp h with rfl | h
      · split at h0 <;> split <;> omega
      · exact ih y (List.mem_cons_of_mem _ h)
end
end Jr

set_option Elab.async false
set_option linter.all false
set_option maxRecDepth 100000
set_option maxHeartbeats 1000000
namespace Jr
open PySem PySem.Spec PyProof.Rows L2
section
variable {X : Cx}
/-- the fragment's own rule for one built-in -/
theorem RTs.one {K : PySem.W.Frag} {P : Addr → Prop} {H : Hp} {d : D} {vs : List V} (r : RTs K P H [d] vs) : ∃ v, vs = [v] ∧ RT K P H d v := by
  cases r with
  | cons a b => cases b; exact ⟨_, rfl, a⟩
theorem RTs.two {K : PySem.W.Frag} {P : Addr → Prop} {H : Hp} {d e : D} {vs : List V} (r : RTs K P H [d, e] vs) : ∃ v w, vs = [v, w] ∧ RT K P H d v ∧ RT K P H e w := by
  cases r with
  | cons a b => cases b with | cons c d => cases d; exact ⟨_, _, rfl, a, c⟩
theorem cr_len : CallR X (.builtin "len") (rC X.K (bltV .len)) := by
  intro pins s σ H vs us Q I r ⟨L, ρ, h, ds, d, hr, rs, e, q⟩
  unfold bltV at e
  split at e <;> try (rename_i hc; cases hc; done)
  all_goals first | (cases e; done) | skip
  · cases e
    obtain ⟨v, rfl, p, ws, rfl, sq, z, c⟩ := rs.one
    exact call_len_seq pins s σ H _ us Q I r ⟨p, ws, rfl, .inl sq, by rw [← c.length]; exact q.here hr (.int _)⟩
  · cases e
    obtain ⟨v, rfl, rt⟩ := rs.one
    cases (show RD _ _ _ _ from rt) with | tup np e1 z c =>
    exact call_len_seq pins s σ H _ us Q I r ⟨_, _, rfl, .inr (SqT.of e1), by rw [← c.length]; exact q.here hr (.int _)⟩
  · rename_i x _h
    obtain ⟨v, rfl, rt⟩ := rs.one
    cases (show RD _ _ _ _ from rt) with | str _ ok =>
    by_cases hz : x.length ≤ sizeLine
    · rw [if_pos hz] at e
      cases e
      exact call_len_str pins s σ H _ us Q I r ⟨_, rfl, hz, q.here hr (.int _)⟩
    · rw [if_neg hz] at e; cases e
theorem cr_abs : CallR X (.builtin "abs") (rC X.K (bltV .abs)) := by
  intro pins s σ H vs us Q I r ⟨L, ρ, h, ds, d, hr, rs, e, q⟩
  unfold bltV at e
  split at e <;> try (rename_i hc; cases hc; done)
  all_goals first | (cases e; done) | skip
  · cases e
    obtain ⟨v, rfl, rt⟩ := rs.one
    cases (show RD _ _ _ _ from rt)
    exact call_abs pins s σ H _ us Q I r ⟨_, rfl, q.here hr (.int _)⟩
theorem cr_max2 (hc : X.calm = true) : CallR X (.builtin "max") (rC X.K (bltV .max2)) := by
  intro pins s σ H vs us Q I r ⟨L, ρ, h, ds, d, hr, rs, e, q⟩
  unfold bltV at e
  split at e <;> try (rename_i hc; cases hc; done)
  all_goals first | (cases e; done) | skip
  · cases e
    obtain ⟨v, w, rfl, rt, ru⟩ := rs.two
    cases (show RD _ _ _ _ from rt)
    cases (show RD _ _ _ _ from ru)
    exact call_max2 hc pins s σ H _ us Q I r ⟨_, _, rfl, q.here hr (.int _)⟩
theorem cr_min2 (hc : X.calm = true) : CallR X (.builtin "min") (rC X.K (bltV .min2)) := by
  intro pins s σ H vs us Q I r ⟨L, ρ, h, ds, d, hr, rs, e, q⟩
  unfold bltV at e
  split at e <;> try (rename_i hc; cases hc; done)
  all_goals first | (cases e; done) | skip
  · cases e
    obtain ⟨v, w, rfl, rt, ru⟩ := rs.two
    cases (show RD _ _ _ _ from rt)
    cases (show RD _ _ _ _ from ru)
    exact call_min2 hc pins s σ H _ us Q I r ⟨_, _, rfl, q.here hr (.int _)⟩
theorem cr_max1 (hc : X.calm = true) : CallR X (.builtin "max") (rC X.K (bltV .max1)) := by
  intro pins s σ H vs us Q I r ⟨L, ρ, h, ds, d, hr, rs, e, q⟩
  unfold bltV at e
  split at e <;> try (rename_i hc; cases hc; done)
  all_goals first | (cases e; done) | skip
  · rename_i xs _h
    obtain ⟨v, rfl, p, ws, rfl, sq, z, c⟩ := rs.one
    cases ea : allI xs with
    | none => rw [ea] at e; cases e
    | some l =>
      rw [ea, Option.bind_some] at e
      cases l with
      | nil => cases e
      | cons a t =>
        cases e
        have ew := allI_rel c ea
        subst ew
        refine L2.cr_max hc pins s σ H _ us Q I r ⟨p, a :: t, rfl, sq, Nat.succ_pos _, fun m hm hy => ?_⟩
        have e1 : m = maxL a t := Int.le_antisymm (maxL_ge t a m hm) (hy _ (maxL_mem t a))
        rw [e1]
        exact q.here hr (.int _)
theorem cr_min1 (hc : X.calm = true) : CallR X (.builtin "min") (rC X.K (bltV .min1)) := by
  intro pins s σ H vs us Q I r ⟨L, ρ, h, ds, d, hr, rs, e, q⟩
  unfold bltV at e
  split at e <;> try (rename_i hc; cases hc; done)
  all_goals first | (cases e; done) | skip
  · rename_i xs _h
    obtain ⟨v, rfl, p, ws, rfl, sq, z, c⟩ := rs.one
    cases ea : allI xs with
    | none => rw [ea] at e; cases e
    | some l =>
      rw [ea, Option.bind_some] at e
      cases l with
      | nil => cases e
      | cons a t =>
        cases e
        have ew := allI_rel c ea
        subst ew
        refine L2.cr_min hc pins s σ H _ us Q I r ⟨p, a :: t, rfl, sq, Nat.succ_pos _, fun m hm hy => ?_⟩
        have e1 : m = minL a t := Int.le_antisymm (hy _ (minL_mem t a)) (minL_le t a m hm)
        rw [e1]
        exact q.here hr (.int _)
theorem cr_sum (hc : X.calm = true) : CallR X (.builtin "sum") (rC X.K (bltV .sum)) := by
  intro pins s σ H vs us Q I r ⟨L, ρ, h, ds, d, hr, rs, e, q⟩
  unfold bltV at e
  split at e <;> try (rename_i hc; cases hc; done)
  all_goals first | (cases e; done) | skip
  · rename_i xs _h
    obtain ⟨v, rfl, p, ws, rfl, sq, z, c⟩ := rs.one
    cases ea : allI xs with
    | none => rw [ea] at e; cases e
    | some l =>
      rw [ea] at e
      cases e
      have ew := allI_rel c ea
      subst ew
      exact L2.cr_sum hc pins s σ H _ us Q I r ⟨p, l, rfl, sq, q.here hr (.int _)⟩
theorem cr_all (hc : X.calm = true) : CallR X (.builtin "all") (rC X.K (bltV .all)) := by
  intro pins s σ H vs us Q I r ⟨L, ρ, h, ds, d, hr, rs, e, q⟩
  unfold bltV at e
  split at e <;> try (rename_i hc; cases hc; done)
  all_goals first | (cases e; done) | skip
  · rename_i xs _h
    obtain ⟨v, rfl, p, ws, rfl, sq, z, c⟩ := rs.one
    cases ea : allB xs with
    | none => rw [ea] at e; cases e
    | some l =>
      rw [ea] at e
      cases e
      have ew := allB_rel c ea
      subst ew
      exact L2.cr_all hc pins s σ H _ us Q I r ⟨p, l, rfl, sq, q.here hr (.bool _)⟩
theorem cr_any (hc : X.calm = true) : CallR X (.builtin "any") (rC X.K (bltV .any)) := by
  intro pins s σ H vs us Q I r ⟨L, ρ, h, ds, d, hr, rs, e, q⟩
  unfold bltV at e
  split at e <;> try (rename_i hc; cases hc; done)
  all_goals first | (cases e; done) | skip
  · rename_i xs _h
    obtain ⟨v, rfl, p, ws, rfl, sq, z, c⟩ := rs.one
    cases ea : allB xs with
    | none => rw [ea] at e; cases e
    | some l =>
      rw [ea] at e
      cases e
      have ew := allB_rel c ea
      subst ew
      exact L2.cr_any hc pins s σ H _ us Q I r ⟨p, l, rfl, sq, q.here hr (.bool _)⟩
theorem cr_int : CallR X (.type "int") (rC X.K (bltV .int)) := by
  intro pins s σ H vs us Q I r ⟨L, ρ, h, ds, d, hr, rs, e, q⟩
  unfold bltV at e
  split at e <;> try (rename_i hc; cases hc; done)
  all_goals first | (cases e; done) | skip
  · cases e
    obtain ⟨v, rfl, rt⟩ := rs.one
    cases (show RD _ _ _ _ from rt)
    exact call_int1 pins s σ H _ us Q I r (.inl ⟨_, rfl, q.here hr (.int _)⟩)
  · cases e
    obtain ⟨v, rfl, rt⟩ := rs.one
    cases (show RD _ _ _ _ from rt)
    exact call_int1 pins s σ H _ us Q I r (.inr ⟨_, rfl, q.here hr (.int _)⟩)
theorem cr_str : CallR X (.type "str") (rC X.K (bltV .str)) := by
  intro pins s σ H vs us Q I r ⟨L, ρ, h, ds, d, hr, rs, e, q⟩
  unfold bltV at e
  split at e <;> try (rename_i hc; cases hc; done)
  all_goals first | (cases e; done) | skip
  · cases e
    obtain ⟨v, rfl, rt⟩ := rs.one
    cases (show RD _ _ _ _ from rt)
    rename_i b _
    obtain ⟨u, rfl, t⟩ := vals1 r
    cases t
    exact PySem.P.str_of_bool ⟨.str _, H, I.tok _, ⟨_, rfl⟩, q.here hr (by cases b <;> exact .str _ (ok_string _))⟩
  · rename_i i _h
    obtain ⟨v, rfl, rt⟩ := rs.one
    cases (show RD _ _ _ _ from rt)
    by_cases hz : i.natAbs.log2 < 1920
    · rw [if_pos hz] at e
      cases e
      exact call_str_int pins s σ H _ us Q I r ⟨_, rfl, hz, q.here hr (.str _ (ok_string _))⟩
    · rw [if_neg hz] at e; cases e
end
end Jr

set_option Elab.async false
set_option linter.all false
set_option maxRecDepth 100000
set_option maxHeartbeats 1000000
namespace Jr
open PySem PySem.Spec PyProof.Rows L2
def tyName : Ty → String
  | .int => "int"
  | .bool => "bool"
  | .str => "str"
  | .tuple => "tuple"
  | .list => "list"
def tyOfD : D → String
  | .none => "NoneType"
  | .bool _ => "bool"
  | .int _ => "int"
  | .str _ => "str"
  | .list _ => "list"
  | .tuple _ => "tuple"
theorem kit_all : ∀ (n : String) (t : Ty) , kitB "NoneType" (tyName t) = some false ∧ kitB "bool" (tyName t) = some (isTy (.bool true) t) ∧ kitB "int" (tyName t) = some (isTy (.int 0) t) ∧ kitB "str" (tyName t) = some (isTy (.str Str.empty) t) ∧
    kitB "list" (tyName t) = some (isTy (.list []) t) ∧ kitB "tuple" (tyName t) = some (isTy (.tuple []) t) := by
  intro n t
  cases t <;> (refine ⟨?_, ?_, ?_, ?_, ?_, ?_⟩ <;> decide +kernel)
theorem kit_d (d : D) (t : Ty) : kitB (tyOfD d) (tyName t) = some (isTy d t) := by
  obtain ⟨h1, h2, h3, h4, h5, h6⟩ := kit_all "" t
  cases d with
  | none => exact h1.trans (by cases t <;> rfl)
  | bool b => exact h2.trans (by cases t <;> rfl)
  | int b => exact h3.trans (by cases t <;> rfl)
  | str b => exact h4.trans (by cases t <;> rfl)
  | list b => exact h5.trans (by cases t <;> rfl)
  | tuple b => exact h6.trans (by cases t <;> rfl)
theorem RT.ty {K : PySem.W.Frag} {P : Addr → Prop} {H : Hp} {d : D} {v : V} (r : RT K P H d v) : TyX K H v (.type (tyOfD d)) := by
  cases d with
  | list xs =>
    obtain ⟨p, vs, rfl, sq, z, c⟩ := r
    rcases sq with (e | ⟨o, e⟩) | ⟨o, its, n, e1, e2, _⟩
    · exact .base (.lst e)
    · exact .base (.frz e)
    · exact .kList e1 e2
  | none => cases (show RD _ _ _ _ from r); exact .base .non
  | bool b => cases (show RD _ _ _ _ from r); exact .base (.bl _)
  | int b => cases (show RD _ _ _ _ from r); exact .base (.int _)
  | str b => cases (show RD _ _ _ _ from r); exact .base (.str _)
  | tuple b => cases (show RD _ _ _ _ from r) with | tup np e1 z c => exact .base (.tup e1)
section
variable {X : Cx} {C : Nat → Option Value} {W : WX} {a b c : Expr} {eva evb evc : Env → M Vl} {pos : Pos}
theorem e_isi {t : Ty} {p p2 : Pos} (hg : Gl X "isinstance") (hm : X.mg "isinstance" = none) (hg2 : Gl X (Str.ofString (tyName t))) (hm2 : X.mg (Str.ofString (tyName t)) = none) (ha : PE X a (tE C eva X.K W))
    (hs : starEach [a, .Name (Str.ofString (tyName t)) p2] X.env = (false, eval a X.env) :: starEach [.Name (Str.ofString (tyName t)) p2] X.env) :
    PE X (.Call (.Name "isinstance" p) [a, .Name (Str.ofString (tyName t)) p2] [] pos) (tE C (fun en => M.bind (dd (eva en)) fun x => pD (.bool (isTy x t))) X.K W) := by
  have hb : PE X (.Name (Str.ofString (tyName t)) p2) (tC (.ty (tyName t))) := by
    refine pe_bltn (u := .type (tyName t)) hg2 hm2 ?_ rfl ?_ ?_
    · cases t <;> decide +kernel
    · cases t <;> decide +kernel
    · cases t <;> decide +kernel
  refine pei (pe_callB call_isi hg hm (by decide +kernel) (pa_cons ha (pa_cons hb pa_nil) hs) (by decide) (by decide) (by rw [hs])) fun σ H Q ⟨L, ρ, h, en, hr, er, o⟩ => ?_
  dsimp only at o
  rw [dd_bind] at o
  refine ⟨L, ρ, h, en, hr, er, (Out.split (rel := relV L) o).mono fun v H1 ⟨ρ1, h1, x, hr1, s1, rv1, o1⟩ => ?_⟩
  obtain ⟨dx, rx, o3⟩ := Out.rd hr1 rv1 o1
  exact ⟨v, .ty (tyName t), _, _, _, rfl, .ty _, rx.ty, kit_ty (kit_d dx t), (Out.pD hr1 o3).here hr1 (.bool _)⟩
theorem e_toT {p : Pos} (hg : Gl X "tuple") (hm : X.mg "tuple" = none) (ha : PE X a (tE C eva X.K W)) (hs : starEach [a] X.env = (false, eval a X.env) :: starEach [] X.env) :
    PE X (.Call (.Name "tuple" p) [a] [] pos) (tE C (fun en => M.bind (dd (eva en)) fun x => pO ((asSeq x).map .tuple)) X.K W) := by
  refine pei (pe_callTy call_tuple_of hg hm (by decide +kernel) (pa_cons ha pa_nil hs) (by decide) (by decide) (by rw [hs])) fun σ H Q ⟨L, ρ, h, en, hr, er, o⟩ => ?_
  dsimp only at o
  rw [dd_bind] at o
  refine ⟨L, ρ, h, en, hr, er, (Out.split (rel := relV L) o).mono fun v H1 ⟨ρ1, h1, x, hr1, s1, rv1, o1⟩ => ?_⟩
  obtain ⟨dx, rx, o3⟩ := Out.rd hr1 rv1 o1
  obtain ⟨d, e, q⟩ := Out.pO hr1 o3
  cases dx with
  | list xs =>
    cases e
    obtain ⟨p, vs, rfl, sq, z, c⟩ := rx
    exact ⟨p, vs, rfl, .inl ⟨sq, q.tup hr1 z c⟩⟩
  | tuple xs =>
    cases e
    cases (show RD _ _ _ _ from rx) with | tup np e1 z c =>
    exact ⟨_, _, rfl, .inr ⟨SqT.of e1, q.here hr1 (.tup np e1 z c)⟩⟩
  | _ => cases e
theorem f_toL {p : Pos} (hg : Gl X "list") (hm : X.mg "list" = none) (ha : PE X a (tE C eva X.K W)) (hs : starEach [a] X.env = (false, eval a X.env) :: starEach [] X.env) :
    PE X (.Call (.Name "list" p) [a] [] pos) (tF C (fun en => M.bind (dd (eva en)) fun x => ofO (asSeq x)) X.K W) := by
  refine pei (pe_callTy call_list_of hg hm (by decide +kernel) (pa_cons ha pa_nil hs) (by decide) (by decide) (by rw [hs])) fun σ H Q ⟨L, ρ, h, en, hr, er, o⟩ => ?_
  dsimp only at o
  rw [dd_bind] at o
  refine ⟨L, ρ, h, en, hr, er, (Out.split (rel := relV L) o).mono fun v H1 ⟨ρ1, h1, x, hr1, s1, rv1, o1⟩ => ?_⟩
  obtain ⟨dx, rx, o3⟩ := Out.rd hr1 rv1 o1
  cases dx with
  | list xs =>
    obtain ⟨p, vs, rfl, sq, z, c⟩ := rx
    exact ⟨p, vs, rfl, .inl sq, fin_lst s1 hr1 o3 z c⟩
  | tuple xs =>
    cases (show RD _ _ _ _ from rx) with | tup np e1 z c =>
    exact ⟨_, _, rfl, .inr (SqT.of e1), fin_lst s1 hr1 o3 z c⟩
  | _ => exact False.elim o3
theorem allS_rel {P : Addr → Prop} {H : Hp} : ∀ {ds : List D} {vs : List V} {l : List Str}, RDs P H ds vs → allS ds = some l → vs = l.map V.str ∧ ∀ z ∈ l, okS z = true
  | _, _, l, .nil, e => by cases e; exact ⟨rfl, fun z h => by cases h⟩
  | d :: ds, _, l, .cons r t, e => by
    cases d with
    | str i =>
      cases r with | str _ ok =>
      unfold allS at e
      simp only [asS, Option.bind_some] at e
      cases e2 : allS ds with
      | none => rw [e2] at e; cases e
      | some l' =>
        rw [e2] at e
        cases e
        obtain ⟨h1, h2⟩ := allS_rel t e2
        refine ⟨by rw [h1]; rfl, fun z hz => ?_⟩
        rcases List.mem_cons.mp hz with rfl | hz
        · exact ok
        · exact h2 z hz
    | _ => cases e
theorem rds_strs {P : Addr → Prop} {H : Hp} : ∀ {l : List Str}, (∀ z ∈ l, okS z = true) → RDs P H (l.map D.str) (l.map V.str)
  | [], _ => .nil
  | z :: l, h => .cons (.str z (h z List.mem_cons_self)) (rds_strs fun y hy => h y (List.mem_cons_of_mem _ hy))
theorem rds_ints0 {P : Addr → Prop} {H : Hp} : ∀ ns : List Int, RDs P H (ns.map D.int) (ns.map V.int)
  | [] => .nil
  | _ :: ns => .cons (.int _) (rds_ints0 ns)
theorem sLe_sorted (l : List Str) : sortedS (l.mergeSort sLe) = true := by
  have tr : ∀ a b c : Str, sLe a b = true → sLe b c = true → sLe a c = true := fun a b c h1 h2 => by
    unfold sLe at *
    simp only [Bool.not_eq_true', decide_eq_false_iff_not] at *
    exact List.le_trans (l₁ := a.cps.toList) (l₂ := b.cps.toList) h1 h2
  have to : ∀ a b : Str, (sLe a b || sLe b a) = true := fun a b => by
    unfold sLe
    simp only [Bool.or_eq_true, Bool.not_eq_true', decide_eq_false_iff_not]
    exact List.le_total (a.cps.toList) (b.cps.toList)
  have h := List.pairwise_mergeSort tr to l
  refine sortedS_of_pairwise _ (h.imp fun {a b} q => ?_)
  rw [ltCps_eq]
  unfold sLe at q
  simpa using q
theorem sLe_trans {a b c : Str} (h1 : sLe a b = true) (h2 : sLe b c = true) : sLe a c = true := by
  unfold sLe at *
  simp only [Bool.not_eq_true', decide_eq_false_iff_not] at *
  exact List.le_trans (l₁ := a.cps.toList) (l₂ := b.cps.toList) h1 h2
theorem rising_pw : ∀ (l : List Str) (p : Str), risingS p l = true → (p :: l).Pairwise fun a b => sLe a b = true
  | [], p, _ => List.pairwise_singleton _ _
  | x :: r, p, h => by
    have h : (!ltCps x.cps.toList p.cps.toList && risingS x r) = true := h
    obtain ⟨h1, h2⟩ := Bool.and_eq_true_iff.mp h
    have ih := rising_pw r x h2
    have hp : sLe p x = true := by
      rw [ltCps_eq] at h1
      exact h1
    refine List.pairwise_cons.mpr ⟨fun y hy => ?_, ih⟩
    rcases List.mem_cons.mp hy with rfl | hy
    · exact hp
    · exact sLe_trans hp ((List.pairwise_cons.mp ih).1 y hy)
theorem sorted_pw {l : List Str} (h : sortedS l = true) : l.Pairwise fun a b => sLe a b = true := by
  cases l with
  | nil => exact .nil
  | cons x r => exact rising_pw r x h
theorem str_eta (a b : Str) (h : a.cps.toList = b.cps.toList) : a = b := by
  cases a with | mk u =>
  cases b with | mk v =>
  exact congrArg Str.mk (Array.toList_inj.mp h)
theorem sLe_anti {a b : Str} (h1 : sLe a b = true) (h2 : sLe b a = true) : a = b := by
  unfold sLe at *
  simp only [Bool.not_eq_true', decide_eq_false_iff_not] at *
  exact str_eta a b (List.le_antisymm (as := a.cps.toList) (bs := b.cps.toList) h1 h2)
theorem f_srt {p : Pos} (hg : Gl X "sorted") (hm : X.mg "sorted" = none) (ha : PE X a (tE C eva X.K W)) (hs : starEach [a] X.env = (false, eval a X.env) :: starEach [] X.env) :
    PE X (.Call (.Name "sorted" p) [a] [] pos) (tF C (fun en => M.bind (dd (eva en)) fun x => ofO ((asL x).bind sortV)) X.K W) := by
  have cr : CallR X (.builtin "sorted") (fun vs H Q => rSortedI X.K vs H Q ∨ rSortedS X.K vs H Q) := fun pins s σ H vs us Q I r h => by
    rcases h with h | h
    · exact cr_sortedI pins s σ H vs us Q I r h
    · exact cr_sortedS pins s σ H vs us Q I r h
  refine pei (pe_callB cr hg hm (by decide +kernel) (pa_cons ha pa_nil hs) (by decide) (by decide) (by rw [hs])) fun σ H Q ⟨L, ρ, h, en, hr, er, o⟩ => ?_
  dsimp only at o
  rw [dd_bind] at o
  refine ⟨L, ρ, h, en, hr, er, (Out.split (rel := relV L) o).mono fun v H1 ⟨ρ1, h1, x, hr1, s1, rv1, o1⟩ => ?_⟩
  obtain ⟨dx, rx, o3⟩ := Out.rd hr1 rv1 o1
  cases dx with
  | list xs =>
    obtain ⟨p, vs, rfl, sq, z, c⟩ := rx
    have e0 : (asL (D.list xs)).bind sortV = sortV xs := rfl
    rw [e0] at o3
    unfold sortV at o3
    cases e : allI xs with
    | some l =>
      rw [e] at o3
      have ev := allI_rel c e
      subst ev
      have hl : xs.length = l.length := by rw [c.length, List.length_map]
      have pm := List.mergeSort_perm l fun a b => decide (a ≤ b)
      have pw : (l.mergeSort fun a b => decide (a ≤ b)).Pairwise (· ≤ ·) := by
        have := List.pairwise_mergeSort (le := fun a b : Int => decide (a ≤ b)) (fun a b c h1 h2 => by simp only [decide_eq_true_eq] at *; omega) (fun a b => by simp only [Bool.or_eq_true, decide_eq_true_eq]; omega) l
        exact this.imp fun h => by simpa using h
      refine .inl ⟨p, l, rfl, sq, fun ns' p' pm' pw' n => ?_⟩
      have eq : ns' = l.mergeSort fun a b => decide (a ≤ b) := (pm'.trans pm.symm).eq_of_pairwise (le := (· ≤ ·)) (fun a b _ _ h1 h2 => Int.le_antisymm h1 h2) pw' pw
      rw [eq]
      exact fin_lst s1 hr1 o3 (by rw [List.length_map, pm.length_eq, ← hl]; exact z) (rds_ints0 _) p' n
    | none =>
      rw [e] at o3
      dsimp only at o3
      cases e2 : allS xs with
      | none => rw [e2] at o3; exact False.elim o3
      | some l =>
        rw [e2] at o3
        obtain ⟨ev, ok⟩ := allS_rel c e2
        subst ev
        have hl : xs.length = l.length := by rw [c.length, List.length_map]
        by_cases h64 : l.length < 64
        · rw [Option.bind_some, if_pos h64] at o3
          have pm := List.mergeSort_perm l sLe
          refine .inr ⟨p, l, rfl, sq, h64, fun ys p' pm' sd n => ?_⟩
          have eq : ys = l.mergeSort sLe := (pm'.trans pm.symm).eq_of_pairwise (le := fun a b => sLe a b = true) (fun a b _ _ h1 h2 => sLe_anti h1 h2) (sorted_pw sd) (sorted_pw (sLe_sorted l))
          rw [eq]
          exact fin_lst s1 hr1 o3 (by rw [List.length_map, pm.length_eq, ← hl]; exact z) (rds_strs fun z hz => ok z (pm.mem_iff.mp hz)) p' n
        · rw [Option.bind_some, if_neg h64] at o3
          exact False.elim o3
  | _ => exact False.elim o3
/-! ### calls of the program's own defs -/
def spM (C : Nat → Option Value) (K : PySem.W.Frag) (g : List Vl → M Vl) : Sp := fun vs H Q E => ∃ L ρ h xs, HR K L ρ h H ∧ RVs (Pr L ρ h) ρ H xs vs ∧ Out K C L ρ h H (relV L) E (g xs h) Q
theorem e_call {k : Nat} {f : Addr} {fd : FuncData} {ps : List Str} {g : List Vl → M Vl} {x : Str} {p : Pos} {e : Expr} {es : List Expr} {evs : Env → M (List Vl)}
    (F : FnOk X.prog X.w X.K X.mg X.base (L2.CX X.prog X.w) k f fd ps (spM C X.K g)) (hr : Room k X.A) (hg : Gl X x) (hm : X.mg x = some (.ref f)) (hk : PySem.W.keepIn X.K (.ref f) = true) (hb : Binds X.K fd ps []) (tk : Takes X W)
    (ha : PA X (e :: es) (tEs C evs X.K W)) (hdb : (x == ("__debug__" : Str)) = false) (he : starEach (e :: es) X.env = (false, eval e X.env) :: starEach es X.env) (hpl : (backTo pos (starEach es X.env)).any (·.1) = false) :
    PE X (.Call (.Name x p) (e :: es) [] pos) (tE C (fun en => M.bind (evs en) fun vs => g vs) X.K W) := by
  refine pei (pe_callS F hr hg hm hk hb (fun σ => passAt tk σ) ha hdb he hpl) fun σ H Q ⟨L, ρ, h, en, hr, er, o⟩ => ?_
  exact ⟨L, ρ, h, en, hr, er, (Out.split (rel := relVs L) o).mono fun vs H1 ⟨ρ1, h1, xs, hr1, s1, rv1, o1⟩ => ⟨L, ρ1, h1, xs, hr1, rv1, o1⟩⟩
/-! ### a cell's methods -/
theorem o_rdL {K : PySem.W.Frag} {L : Addr → Prop} {ρ : List Addr} {h : Hh} {H : Hp} {β υ : Type} {E : Value → Option Addr → Hp → Prop} {rel' : List Addr → Hh → Hp → β → υ → Prop} {x : Vl} {v : V} {f : List D → M β} {Q : υ → Hp → Prop} (hr : HR K L ρ h H) (rv : RV (Pr L ρ h) ρ H x v)
    (o : Out K C L ρ h H rel' E (M.bind (Jr.rdL x) f h) Q) : tyV K "list" v H ∧ ∃ ds, Out K C L ρ h H rel' E (f ds h) Q := by
  obtain ⟨ds, p, vs, rfl, e, z, c, o1⟩ := Out.rdL hr rv o
  exact ⟨.inl ⟨rfl, vs, .inl (.inl e)⟩, ds, o1⟩
theorem e_app {apos : Pos} (ha : PE X a (tE C eva X.K W)) (hb : PE X b (tE C evb X.K W)) (hbase : attributeBase a "append" X.env (eval a X.env) = eval a X.env)
    (hfew : ((backTo pos (starEach [b] X.env)).all (fun x => !x.1) && (backToKw pos (keywordEach [] X.env)).all (fun x => x.1.isSome)
      && decide ([b].length + ([] : List Keyword).length + (if ([] : List Keyword).isEmpty then 0 else 1) < 30)) = true) (hline : (apos.endLine == pos.line) = true) (hs : starEach [b] X.env = (false, eval b X.env) :: starEach [] X.env) :
    PE X (.Call (.Attribute a "append" apos) [b] [] pos) (tE C (fun en => M.bind (eva en) fun v => M.bind (Jr.rdL v) fun _ => M.bind (evb en) fun w => M.bind (Jr.asD w) fun y => appM v y) X.K W) := by
  refine pei (pe_bm PySem.F.plainAttrs_list PySem.F.slot_list_append PySem.F.type_list_append mt_append ha (pa_cons hb pa_nil hs) hbase hfew hline hs rfl) fun σ H Q ⟨L, ρ, h, en, hr, er, o⟩ => ?_
  refine ⟨L, ρ, h, en, hr, er, (Out.split (rel := relV L) o).mono fun v H1 ⟨ρ1, h1, x, hr1, s1, rv1, o1⟩ => ?_⟩
  obtain ⟨ty, ds, o2⟩ := o_rdL hr1 rv1 o1
  refine ⟨ty, L, ρ1, h1, en, hr1, er.step s1, (Out.split (rel := relV L) o2).mono fun w H2 ⟨ρ2, h2, y, hr2, s2, rv2, o3⟩ => ?_⟩
  obtain ⟨d, rfl, rd, o4⟩ := Out.asD rv2 o3
  cases x with
  | d _ => exact False.elim o4
  | k _ => exact False.elim o4
  | r n =>
    obtain ⟨p, e1, rfl⟩ := rv1.step s2
    have e0 : appM (.r n) d h2 = (match h2[n]? with
      | some (.lst xs) => if xs.length < sizeLine then some (R.ok (Vl.d .none), h2.set n (.lst (xs ++ [d]))) else none
      | _ => none) := rfl
    rw [e0] at o4
    cases e2 : h2[n]? with
    | none => rw [e2] at o4; exact False.elim o4
    | some c =>
      rw [e2] at o4
      cases c with
      | lst xs =>
        dsimp only at o4
        by_cases hz : xs.length < sizeLine
        · rw [if_pos hz] at o4
          obtain ⟨vs, e3, z, c⟩ := hr2.cell n p _ e1 e2
          have z' : (xs ++ [d]).length ≤ sizeLine := by rw [List.length_append]; exact hz
          obtain ⟨hr3, s3⟩ := hr2.cellSet e1 e2 rfl z' (c.append (.cons rd .nil))
          exact ⟨p, vs, w, rfl, rfl, e3, by rw [← c.length]; exact hz, o4 ρ2 _ .non hr3 s3 RD.non⟩
        · rw [if_neg hz] at o4; exact False.elim o4
      | _ => exact False.elim o4
theorem e_pop {apos : Pos} (ha : PE X a (tE C eva X.K W)) (hb : PE X b (tE C evb X.K W)) (hbase : attributeBase a "pop" X.env (eval a X.env) = eval a X.env)
    (hfew : ((backTo pos (starEach [b] X.env)).all (fun x => !x.1) && (backToKw pos (keywordEach [] X.env)).all (fun x => x.1.isSome)
      && decide ([b].length + ([] : List Keyword).length + (if ([] : List Keyword).isEmpty then 0 else 1) < 30)) = true) (hline : (apos.endLine == pos.line) = true) (hs : starEach [b] X.env = (false, eval b X.env) :: starEach [] X.env) :
    PE X (.Call (.Attribute a "pop" apos) [b] [] pos) (tE C (fun en => M.bind (eva en) fun v => M.bind (Jr.rdL v) fun _ => M.bind (evb en) fun w => M.bind (Jr.asD w) fun y => popM v y) X.K W) := by
  refine pei (pe_bm PySem.F.plainAttrs_list PySem.F.slot_list_pop PySem.F.type_list_pop mt_popAt ha (pa_cons hb pa_nil hs) hbase hfew hline hs rfl) fun σ H Q ⟨L, ρ, h, en, hr, er, o⟩ => ?_
  refine ⟨L, ρ, h, en, hr, er, (Out.split (rel := relV L) o).mono fun v H1 ⟨ρ1, h1, x, hr1, s1, rv1, o1⟩ => ?_⟩
  obtain ⟨ty, ds, o2⟩ := o_rdL hr1 rv1 o1
  refine ⟨ty, L, ρ1, h1, en, hr1, er.step s1, (Out.split (rel := relV L) o2).mono fun w H2 ⟨ρ2, h2, y, hr2, s2, rv2, o3⟩ => ?_⟩
  obtain ⟨d, rfl, rd, o4⟩ := Out.asD rv2 o3
  cases x with
  | d _ => exact False.elim o4
  | k _ => exact False.elim o4
  | r n =>
    obtain ⟨p, e1, rfl⟩ := rv1.step s2
    cases d with
    | int i =>
      cases rd
      have e0 : popM (.r n) (.int i) h2 = (match h2[n]? with
        | some (.lst xs) => if -(2 ^ 63) ≤ i ∧ i < 2 ^ 63 then
            match seqIndex? i xs.length with
            | some k => (match xs[k]? with
              | some y => some (R.ok (Vl.d y), h2.set n (.lst (xs.eraseIdx k)))
              | none => none)
            | none => none
          else none
        | _ => none) := rfl
      rw [e0] at o4
      cases e2 : h2[n]? with
      | none => rw [e2] at o4; exact False.elim o4
      | some c =>
        rw [e2] at o4
        cases c with
        | lst xs =>
          dsimp only at o4
          by_cases hz : -(2 ^ 63) ≤ i ∧ i < 2 ^ 63
          · rw [if_pos hz] at o4
            cases e4 : seqIndex? i xs.length with
            | none => rw [e4] at o4; exact False.elim o4
            | some k =>
              rw [e4] at o4
              dsimp only at o4
              cases e5 : xs[k]? with
              | none => rw [e5] at o4; exact False.elim o4
              | some y =>
                rw [e5] at o4
                obtain ⟨vs, e3, z, c⟩ := hr2.cell n p _ e1 e2
                obtain ⟨u, e6, ru⟩ := c.get e5
                have z' : (xs.eraseIdx k).length ≤ sizeLine := Nat.le_trans (L2.len_erase _ _) z
                obtain ⟨hr3, s3⟩ := hr2.cellSet e1 e2 rfl z' (c.eraseIdx k)
                exact ⟨p, vs, i, k, u, rfl, rfl, e3, hz.1, hz.2, by rw [← c.length]; exact e4, e6, o4 ρ2 _ u hr3 s3 (RD.gr s3.gr _ _ ru)⟩
          · rw [if_neg hz] at o4; exact False.elim o4
        | _ => exact False.elim o4
    | _ => exact False.elim o4
theorem e_popE {apos : Pos} (ha : PE X a (tE C eva X.K W)) (hbase : attributeBase a "pop" X.env (eval a X.env) = eval a X.env) (hline : (apos.endLine == pos.line) = true) :
    PE X (.Call (.Attribute a "pop" apos) [] [] pos) (tE C (fun en => M.bind (eva en) fun v => M.bind (Jr.rdL v) fun _ => popEM v) X.K W) := by
  refine pei (pe_bm0 PySem.F.plainAttrs_list PySem.F.slot_list_pop PySem.F.type_list_pop mt_pop ha hbase hline) fun σ H Q ⟨L, ρ, h, en, hr, er, o⟩ => ?_
  refine ⟨L, ρ, h, en, hr, er, (Out.split (rel := relV L) o).mono fun v H1 ⟨ρ1, h1, x, hr1, s1, rv1, o1⟩ => ?_⟩
  obtain ⟨ty, ds, o4⟩ := o_rdL hr1 rv1 o1
  refine ⟨ty, ?_⟩
  cases x with
  | d _ => exact False.elim o4
  | k _ => exact False.elim o4
  | r n =>
    obtain ⟨p, e1, rfl⟩ := rv1
    have e0 : popEM (.r n) h1 = (match h1[n]? with
      | some (.lst xs) => (match xs[xs.length - 1]? with
        | some y => some (R.ok (Vl.d y), h1.set n (.lst xs.dropLast))
        | none => none)
      | _ => none) := rfl
    rw [e0] at o4
    cases e2 : h1[n]? with
    | none => rw [e2] at o4; exact False.elim o4
    | some c =>
      rw [e2] at o4
      cases c with
      | lst xs =>
        dsimp only at o4
        cases e5 : xs[xs.length - 1]? with
        | none => rw [e5] at o4; exact False.elim o4
        | some y =>
          rw [e5] at o4
          obtain ⟨vs, e3, z, c⟩ := hr1.cell n p _ e1 e2
          obtain ⟨u, e6, ru⟩ := c.get e5
          have z' : xs.dropLast.length ≤ sizeLine := by rw [List.length_dropLast]; omega
          have c' : RDs (Pr L ρ1 h1) H1 xs.dropLast vs.dropLast := by rw [List.dropLast_eq_take, List.dropLast_eq_take, c.length]; exact c.take _
          obtain ⟨hr3, s3⟩ := hr1.cellSet e1 e2 rfl z' c'
          exact ⟨p, vs, u, rfl, rfl, e3, by rw [← c.length]; exact e6, o4 ρ1 _ u hr3 s3 (RD.gr s3.gr _ _ ru)⟩
      | _ => exact False.elim o4
end
end Jr

set_option Elab.async false
set_option linter.all false
set_option maxRecDepth 100000
set_option maxHeartbeats 1000000
namespace L2x
open PySem PySem.Spec PyProof.Rows L2
section
variable {X : Cx} {tg : Expr}
def iAny (K : PySem.W.Frag) (tl : TE) : TI := fun σ H R => tl σ H fun x H1 => (∃ a, x = .ref a ∧ (∃ xs, SqL K H1 a xs) ∧ R (Itl K a) H1) ∨ (∃ a, x = .ref a ∧ (∃ xs, SqT K H1 a xs) ∧ R (Itt K a) H1) ∨ (∃ z, x = .str z ∧ R (Its z) H1)
theorem pi_any {l : Expr} {tl : TE} (hl : PE X l tl) : PI X tg l (iAny X.K tl) := by
  refine ⟨fun pins s σ H R I h => ?_⟩
  refine thn (hl.run pins s σ H _ I h) fun v s1 ⟨x, H1, I1, r1, q1⟩ => ?_
  rcases q1 with ⟨a, e, ⟨xs, hq⟩, q⟩ | ⟨a, e, ⟨xs, hq⟩, q⟩ | ⟨z, e, q⟩
  · subst e
    cases r1
    obtain ⟨its, rv, p, hz⟩ := I1.list hq
    refine wpAny_pyIter_list p.isList ?_
    refine ⟨s1.heap.objs.size, [s1.heap.objs.size], _, _, H1, rfl, I1.kept (t' := s1.toks) fun b o e => Heap.get?_push_of_some _ e, turn_list a _, ⟨_, Heap.get?_push_size _ rfl, rfl, rfl⟩, fun b hb => ?_, q⟩
    have e : b = s1.heap.objs.size := by simpa using hb
    subst e
    exact I1.fpOk (Nat.le_refl _) (I1.hok.fresh (Nat.le_refl _))
  · subst e
    cases r1
    obtain ⟨its, rv, p, hz⟩ := I1.tuple hq
    refine wpAny_pyIter_tuple (show s1.heap.IsTuple a its.toArray from p) ?_
    refine ⟨s1.heap.objs.size, [s1.heap.objs.size], _, _, H1, rfl, I1.kept (t' := s1.toks) fun b o e => Heap.get?_push_of_some _ e, turn_tuple a _, ⟨_, Heap.get?_push_size _ rfl, rfl, rfl⟩, fun b hb => ?_, q⟩
    have e : b = s1.heap.objs.size := by simpa using hb
    subst e
    exact I1.fpOk (Nat.le_refl _) (I1.hok.fresh (Nat.le_refl _))
  · subst e
    obtain ⟨t, rfl⟩ := r1
    cases ha : z.cps.all (· < 128)
    · exact wpAny_pyIter_wide ha (pi_one (tk := s1.toks) I1 _ (turn_str _ z t "str_iterator" (.inr rfl)) ⟨_, Heap.get?_push_size _ rfl, rfl, rfl⟩ q)
    · exact wpAny_pyIter_ascii ha (pi_one (tk := s1.toks) I1 _ (turn_str _ z t "str_ascii_iterator" (.inl rfl)) ⟨_, Heap.get?_push_size _ rfl, rfl, rfl⟩ q)
end
end L2x
namespace Jr
open PySem PySem.Spec PyProof.Rows L2
def depOK : Option (Nat × Cell) → Hh → Prop
  | none, _ => True
  | some (n, c), h => h[n]? = some c
/-- a weaker step: more may be protected behind it -/
structure Stw (L : Addr → Prop) (ρ : List Addr) (h : Hh) (H : Hp) (L' : Addr → Prop) (ρ' : List Addr) (h' : Hh) (H' : Hp) : Prop where
  gr : Gr (Pr L ρ h) H (Pr L' ρ' h') H'
  pre : ∀ (i : Nat) (a : Addr), ρ[i]? = some a → ρ'[i]? = some a
theorem Stp.w {L : Addr → Prop} {ρ ρ1 : List Addr} {h h1 : Hh} {H H1 : Hp} (s : Stp L ρ h H ρ1 h1 H1) : Stw L ρ h H L ρ1 h1 H1 := ⟨s.gr, s.pre⟩
theorem Stw.then_ {L L1 : Addr → Prop} {ρ ρ1 ρ2 : List Addr} {h h1 h2 : Hh} {H H1 H2 : Hp} (s : Stw L ρ h H L1 ρ1 h1 H1) (t : Stp L1 ρ1 h1 H1 ρ2 h2 H2) : Stw L ρ h H L1 ρ2 h2 H2 :=
  ⟨fun a o e n => let ⟨e1, n1⟩ := s.gr a o e n; t.gr a o e1 n1, fun i a e => t.pre i a (s.pre i a e)⟩
theorem RV.stw {L L1 : Addr → Prop} {ρ ρ1 : List Addr} {h h1 : Hh} {H H1 : Hp} (s : Stw L ρ h H L1 ρ1 h1 H1) {x : Vl} {v : V} (r : RV (Pr L ρ h) ρ H x v) : RV (Pr L1 ρ1 h1) ρ1 H1 x v := by
  cases x with
  | d x => exact RD.gr s.gr _ _ r
  | r n => obtain ⟨a, e, rfl⟩ := r; exact ⟨a, s.pre _ _ e, rfl⟩
  | k kvs => obtain ⟨p, vs, np, e, e1, c⟩ := r; exact ⟨p, vs, (s.gr _ _ e1 np).2, e, (s.gr _ _ e1 np).1, RKs.gr s.gr _ _ c⟩
theorem ER.stw {L L1 : Addr → Prop} {ρ ρ1 : List Addr} {h h1 : Hh} {H H1 : Hp} (s : Stw L ρ h H L1 ρ1 h1 H1) {en : Env} {σ : L2.St} (r : ER (Pr L ρ h) ρ H en σ) : ER (Pr L1 ρ1 h1) ρ1 H1 en σ :=
  ⟨r.len, fun i x e => let ⟨v, e1, e2⟩ := r.at_ i x e; ⟨v, e1, RV.stw s e2⟩⟩
/-- how an iterator goes through xs, while what it leans on stands -/
def ItR (K : PySem.W.Frag) (L : Addr → Prop) (ρ : List Addr) (h : Hh) (H : Hp) (dep : Option (Nat × Cell)) (xs : List D) (J : L2.It) : Prop :=
  ∀ L2 ρ2 h2 H2, HR K L2 ρ2 h2 H2 → Stw L ρ h H L2 ρ2 h2 H2 → depOK dep h2 →
    (∀ i x, xs[i]? = some x → J.go i H2 ∧ ∀ v H', J.yld i H2 v H' → HR K L2 ρ2 h2 H' ∧ Stp L2 ρ2 h2 H2 ρ2 h2 H' ∧ RD (Pr L2 ρ2 h2) H' x v) ∧ J.stop xs.length H2
abbrev relI (K : PySem.W.Frag) (L : Addr → Prop) : List Addr → Hh → Hp → Option (Nat × Cell) × List D → L2.It → Prop := fun ρ h H p J => ItR K L ρ h H p.1 p.2 J ∧ depOK p.1 h ∧ p.2.length ≤ sizeLine
def tI (C : Nat → Option Value) (ev : Env → M (Option (Nat × Cell) × List D)) (K : PySem.W.Frag) (W : WX) : TI := fun σ H R => ∃ L ρ h en, HR K L ρ h H ∧ ER (Pr L ρ h) ρ H en σ ∧ Out K C L ρ h H (relI K L) (fun c d H' => W c d σ H') (ev en h) R
theorem pii {X : Cx} {tg e : Expr} {t t' : TI} (p : PI X tg e t) (i : ∀ σ H R, t' σ H R → t σ H R) : PI X tg e t' := ⟨fun pins s σ H R I h => p.run pins s σ H R I (i σ H R h)⟩
theorem itr_list {K : PySem.W.Frag} {L : Addr → Prop} {ρ : List Addr} {h : Hh} {H : Hp} {dep : Option (Nat × Cell)} {xs : List D} {a : Addr}
    (at_ : ∀ L2 ρ2 h2 H2, HR K L2 ρ2 h2 H2 → Stw L ρ h H L2 ρ2 h2 H2 → depOK dep h2 → ∃ vs, SqL K H2 a vs ∧ RDs (Pr L2 ρ2 h2) H2 xs vs) : ItR K L ρ h H dep xs (Itl K a) := fun L2 ρ2 h2 H2 hr s d => by
  obtain ⟨vs, sq, c⟩ := at_ L2 ρ2 h2 H2 hr s d
  refine ⟨fun i x e => ?_, ⟨vs, sq, by rw [c.length]; exact Nat.le_refl _⟩⟩
  obtain ⟨v, e1, r⟩ := c.get e
  refine ⟨⟨vs, v, sq, e1⟩, fun w H' y => ?_⟩
  obtain ⟨rfl, y⟩ := y
  have := y vs sq
  rw [e1] at this
  cases this
  exact ⟨hr, .refl, r⟩
theorem itr_tup {K : PySem.W.Frag} {L : Addr → Prop} {ρ : List Addr} {h : Hh} {H : Hp} {dep : Option (Nat × Cell)} {xs : List D} {a : Addr}
    (at_ : ∀ L2 ρ2 h2 H2, HR K L2 ρ2 h2 H2 → Stw L ρ h H L2 ρ2 h2 H2 → depOK dep h2 → ∃ vs, SqT K H2 a vs ∧ RDs (Pr L2 ρ2 h2) H2 xs vs) : ItR K L ρ h H dep xs (Itt K a) := fun L2 ρ2 h2 H2 hr s d => by
  obtain ⟨vs, sq, c⟩ := at_ L2 ρ2 h2 H2 hr s d
  refine ⟨fun i x e => ?_, ⟨vs, sq, by rw [c.length]; exact Nat.le_refl _⟩⟩
  obtain ⟨v, e1, r⟩ := c.get e
  refine ⟨⟨vs, v, sq, e1⟩, fun w H' y => ?_⟩
  obtain ⟨rfl, y⟩ := y
  have := y vs sq
  rw [e1] at this
  cases this
  exact ⟨hr, .refl, r⟩
theorem itr_str {K : PySem.W.Frag} {L : Addr → Prop} {ρ : List Addr} {h : Hh} {H : Hp} {z : Str} (ok : okS z = true) : ItR K L ρ h H none (z.cps.toList.map fun c => .str ⟨#[c]⟩) (Its z) := fun L2 ρ2 h2 H2 hr s d => by
  refine ⟨fun i x e => ?_, by show z.cps.size ≤ _; simp⟩
  rw [List.getElem?_map] at e
  cases e1 : z.cps.toList[i]? with
  | none => rw [e1] at e; cases e
  | some c =>
    rw [e1] at e
    cases e
    have e2 : z.cps[i]? = some c := by simpa using e1
    have lt : i < z.cps.size := by
      rcases Nat.lt_or_ge i z.cps.size with q | q
      · exact q
      · rw [Array.getElem?_eq_none q] at e2; cases e2
    refine ⟨lt, fun v H' y => ?_⟩
    obtain ⟨rfl, c', e3, rfl⟩ := y
    rw [e2] at e3
    cases e3
    exact ⟨hr, .refl, .str _ (ok_sign ok (List.mem_of_getElem? e1))⟩
theorem itr_rng {K : PySem.W.Frag} {L : Addr → Prop} {ρ : List Addr} {h : Hh} {H : Hp} {lo : Int} {n : Nat} : ItR K L ρ h H none (rangeD lo n) (Itr lo n) := fun L2 ρ2 h2 H2 hr s d => by
  refine ⟨fun i x e => ?_, by show n ≤ _; unfold rangeD; simp⟩
  unfold rangeD at e
  rw [List.getElem?_map] at e
  rcases Nat.lt_or_ge i n with q | q
  · rw [List.getElem?_range q] at e
    cases e
    refine ⟨q, fun v H' y => ?_⟩
    obtain ⟨rfl, rfl⟩ := y
    exact ⟨hr, .refl, .int _⟩
  · rw [List.getElem?_eq_none (by simpa using q)] at e; cases e
theorem enumD_get : ∀ (xs : List D) (n i : Nat) (x : D), (enumD n xs)[i]? = some x → ∃ y, xs[i]? = some y ∧ x = .tuple [.int ((n + i : Nat) : Int), y]
  | [], n, i, x, e => by cases i <;> cases e
  | y :: xs, n, 0, x, e => by cases e; exact ⟨y, rfl, rfl⟩
  | y :: xs, n, i + 1, x, e => by
    obtain ⟨z, e1, e2⟩ := enumD_get xs (n + 1) i x e
    exact ⟨z, e1, by rw [e2]; congr 4; omega⟩
theorem enumD_len : ∀ (xs : List D) (n : Nat), (enumD n xs).length = xs.length
  | [], _ => rfl
  | _ :: xs, n => by unfold enumD; rw [List.length_cons, List.length_cons, enumD_len xs]
theorem itr_enum {K : PySem.W.Frag} {L : Addr → Prop} {ρ : List Addr} {h : Hh} {H : Hp} {xs : List D} {a : Addr}
    (at_ : ∀ L2 ρ2 h2 H2, HR K L2 ρ2 h2 H2 → Stw L ρ h H L2 ρ2 h2 H2 → ∃ vs, SqL K H2 a vs ∧ RDs (Pr L2 ρ2 h2) H2 xs vs) : ItR K L ρ h H none (enumD 0 xs) (Ite K a) := fun L2 ρ2 h2 H2 hr s d => by
  obtain ⟨vs, sq, c⟩ := at_ L2 ρ2 h2 H2 hr s
  refine ⟨fun i x e => ?_, ⟨vs, sq, by rw [enumD_len, c.length]; exact Nat.le_refl _⟩⟩
  obtain ⟨y, e0, rfl⟩ := enumD_get xs 0 i x e
  obtain ⟨v, e1, r⟩ := c.get e0
  refine ⟨⟨vs, v, sq, e1⟩, fun w H' q => ?_⟩
  obtain ⟨T, u, rfl, nT, rfl, f⟩ := q
  have := f vs sq
  rw [e1] at this
  cases this
  obtain ⟨hr3, s3⟩ := hr.new (o := .tup [.int (i : Nat), _]) nT
  refine ⟨hr3, s3, .tup (hr.np nT) upd_same (by rw [sizeLine_eq]; simp) (.cons ?_ (.cons (RD.gr s3.gr _ _ r) .nil))⟩
  rw [Nat.zero_add]
  exact .int _
theorem zipD_get : ∀ (xs ys : List D) (i : Nat) (x : D), (zipD xs ys)[i]? = some x → ∃ y z, xs[i]? = some y ∧ ys[i]? = some z ∧ x = .tuple [y, z]
  | [], ys, i, x, e => by unfold zipD at e; cases e
  | _ :: _, [], i, x, e => by unfold zipD at e; cases e
  | y :: xs, z :: ys, 0, x, e => by cases e; exact ⟨y, z, rfl, rfl, rfl⟩
  | y :: xs, z :: ys, i + 1, x, e => zipD_get xs ys i x e
theorem zipD_len : ∀ (xs ys : List D), (zipD xs ys).length = min xs.length ys.length
  | [], ys => by unfold zipD; simp
  | _ :: _, [] => by unfold zipD; simp
  | y :: xs, z :: ys => by unfold zipD; rw [List.length_cons, List.length_cons, List.length_cons, zipD_len xs ys]; omega
theorem itr_zipL {K : PySem.W.Frag} {L : Addr → Prop} {ρ : List Addr} {h : Hh} {H : Hp} {xs ys : List D} {a b : Addr}
    (at_ : ∀ L2 ρ2 h2 H2, HR K L2 ρ2 h2 H2 → Stw L ρ h H L2 ρ2 h2 H2 → ∃ vs ws, SqL K H2 a vs ∧ RDs (Pr L2 ρ2 h2) H2 xs vs ∧ SqL K H2 b ws ∧ RDs (Pr L2 ρ2 h2) H2 ys ws) : ItR K L ρ h H none (zipD xs ys) (Itz K a b) := fun L2 ρ2 h2 H2 hr s d => by
  obtain ⟨vs, ws, sq, c, sq2, c2⟩ := at_ L2 ρ2 h2 H2 hr s
  refine ⟨fun i x e => ?_, ⟨vs, ws, sq, sq2, by rw [zipD_len, c.length, c2.length]; omega⟩⟩
  obtain ⟨y, z, e0, e0', rfl⟩ := zipD_get xs ys i x e
  obtain ⟨v, e1, r⟩ := c.get e0
  obtain ⟨u, e2, r2⟩ := c2.get e0'
  refine ⟨⟨vs, ws, v, u, sq, sq2, e1, e2⟩, fun w H' q => ?_⟩
  obtain ⟨T, v', u', rfl, nT, rfl, f1, f2⟩ := q
  have h1 := f1 vs sq
  rw [e1] at h1
  cases h1
  have h2 := f2 ws sq2
  rw [e2] at h2
  cases h2
  obtain ⟨hr3, s3⟩ := hr.new (o := .tup [_, _]) nT
  exact ⟨hr3, s3, .tup (hr.np nT) upd_same (by rw [sizeLine_eq]; simp) (.cons (RD.gr s3.gr _ _ r) (.cons (RD.gr s3.gr _ _ r2) .nil))⟩
theorem itr_zipT {K : PySem.W.Frag} {L : Addr → Prop} {ρ : List Addr} {h : Hh} {H : Hp} {xs ys : List D} {a b : Addr}
    (at_ : ∀ L2 ρ2 h2 H2, HR K L2 ρ2 h2 H2 → Stw L ρ h H L2 ρ2 h2 H2 → ∃ vs ws, SqT K H2 a vs ∧ RDs (Pr L2 ρ2 h2) H2 xs vs ∧ SqT K H2 b ws ∧ RDs (Pr L2 ρ2 h2) H2 ys ws) : ItR K L ρ h H none (zipD xs ys) (RZ.ItzT K a b) := fun L2 ρ2 h2 H2 hr s d => by
  obtain ⟨vs, ws, sq, c, sq2, c2⟩ := at_ L2 ρ2 h2 H2 hr s
  refine ⟨fun i x e => ?_, ⟨vs, ws, sq, sq2, by rw [zipD_len, c.length, c2.length]; omega⟩⟩
  obtain ⟨y, z, e0, e0', rfl⟩ := zipD_get xs ys i x e
  obtain ⟨v, e1, r⟩ := c.get e0
  obtain ⟨u, e2, r2⟩ := c2.get e0'
  refine ⟨⟨vs, ws, v, u, sq, sq2, e1, e2⟩, fun w H' q => ?_⟩
  obtain ⟨T, v', u', rfl, nT, rfl, f1, f2⟩ := q
  have h1 := f1 vs sq
  rw [e1] at h1
  cases h1
  have h2 := f2 ws sq2
  rw [e2] at h2
  cases h2
  obtain ⟨hr3, s3⟩ := hr.new (o := .tup [_, _]) nT
  exact ⟨hr3, s3, .tup (hr.np nT) upd_same (by rw [sizeLine_eq]; simp) (.cons (RD.gr s3.gr _ _ r) (.cons (RD.gr s3.gr _ _ r2) .nil))⟩
theorem RD.listAt {K : PySem.W.Frag} {P : Addr → Prop} {H : Hp} {xs : List D} {a : Addr} (r : RD P H (.list xs) (.ref a)) : ∃ vs, SqL K H a vs ∧ RDs P H xs vs ∧ xs.length ≤ sizeLine := by
  cases r with
  | lst np e z c => exact ⟨_, .inl (.inl e), c, z⟩
theorem RD.tupAt {K : PySem.W.Frag} {P : Addr → Prop} {H : Hp} {xs : List D} {a : Addr} (r : RD P H (.tuple xs) (.ref a)) : ∃ vs, SqT K H a vs ∧ RDs P H xs vs ∧ xs.length ≤ sizeLine := by
  cases r with
  | tup np e z c => exact ⟨_, .inl (.inl e), c, z⟩
section
variable {X : Cx} {C : Nat → Option Value} {W : WX} {a b c : Expr} {eva evb evc : Env → M Vl} {pos : Pos} {tg : Expr}
theorem i_ex (ha : PE X a (tE C eva X.K W)) : PI X tg a (tI C (fun en => M.bind (eva en) fun v => M.bind (depOf v) fun dp => M.bind (Jr.rd v) fun x => M.bind (ofO (itemsV x)) fun xs => M.pure (dp, xs)) X.K W) := by
  refine pii (L2x.pi_any ha) fun σ H R ⟨L, ρ, h, en, hr, er, o⟩ => ?_
  refine ⟨L, ρ, h, en, hr, er, (Out.split (rel := relV L) o).mono fun v H1 ⟨ρ1, h1, x, hr1, s1, rv1, o1⟩ => ?_⟩
  cases x with
  | k kvs => exact False.elim o1
  | d x =>
    have o2 : Out X.K C L ρ1 h1 H1 (relI X.K L) (fun c d H' => W c d σ H') (M.bind (ofO (itemsV x)) (fun xs => M.pure (none, xs)) h1) R := o1
    obtain ⟨xs, e, o3⟩ := Out.ofO o2
    cases x with
    | list ys =>
      cases e
      obtain ⟨a, rfl⟩ : ∃ a, v = .ref a := by cases (show RD _ _ _ _ from rv1); exact ⟨_, rfl⟩
      obtain ⟨vs, sq, c, z⟩ := RD.listAt (K := X.K) (show RD _ _ _ _ from rv1)
      refine .inl ⟨a, rfl, ⟨vs, sq⟩, o3 ρ1 H1 _ hr1 .refl ⟨itr_list fun L2 ρ2 h2 H2 _ s _ => ?_, trivial, z⟩⟩
      obtain ⟨ws, q1, q2, _⟩ := RD.listAt (K := X.K) (RD.gr s.gr _ _ (show RD _ _ _ _ from rv1))
      exact ⟨ws, q1, q2⟩
    | tuple ys =>
      cases e
      obtain ⟨a, rfl⟩ : ∃ a, v = .ref a := by cases (show RD _ _ _ _ from rv1); exact ⟨_, rfl⟩
      obtain ⟨vs, sq, c, z⟩ := RD.tupAt (K := X.K) (show RD _ _ _ _ from rv1)
      refine .inr (.inl ⟨a, rfl, ⟨vs, sq⟩, o3 ρ1 H1 _ hr1 .refl ⟨itr_tup fun L2 ρ2 h2 H2 _ s _ => ?_, trivial, z⟩⟩)
      obtain ⟨ws, q1, q2, _⟩ := RD.tupAt (K := X.K) (RD.gr s.gr _ _ (show RD _ _ _ _ from rv1))
      exact ⟨ws, q1, q2⟩
    | str z =>
      have e : (if z.cps.size ≤ sizeLine then some (z.cps.toList.map fun c => D.str ⟨#[c]⟩) else none) = some xs := e
      by_cases hz : z.cps.size ≤ sizeLine
      · rw [if_pos hz] at e
        cases e
        cases (show RD _ _ _ _ from rv1) with | str _ ok =>
        exact .inr (.inr ⟨z, rfl, o3 ρ1 H1 _ hr1 .refl ⟨itr_str ok, trivial, by simpa using hz⟩⟩)
      · rw [if_neg hz] at e; cases e
    | _ => cases e
  | r n =>
    obtain ⟨a, ea, rfl⟩ := rv1
    have e0 : depOf (.r n) h1 = h1[n]?.map fun c => (Jr.R.ok (some (n, c)), h1) := rfl
    cases ec : h1[n]? with
    | none =>
      rw [ec] at e0
      unfold M.bind at o1
      rw [e0] at o1
      exact False.elim o1
    | some c =>
      rw [ec] at e0
      have o2 := Out.at_ e0 o1
      have e3 : Jr.rd (.r n) h1 = (rdC c).map fun x => (Jr.R.ok x, h1) := by
        show (h1[n]?.bind rdC).map _ = _
        rw [ec]
        rfl
      cases c with
      | lst ds =>
        have o3 := Out.at_ e3 o2
        obtain ⟨vs, f1, z, c⟩ := hr1.cell n a _ ea ec
        refine .inl ⟨a, rfl, ⟨vs, .inl (.inl f1)⟩, o3 ρ1 H1 _ hr1 .refl ⟨itr_list fun L2 ρ2 h2 H2 hr2 s d => ?_, ec, z⟩⟩
        obtain ⟨ws, g1, _, g2⟩ := hr2.cell n a _ (s.pre _ _ ea) d
        exact ⟨ws, .inl (.inl g1), g2⟩
      | ro ds =>
        have o3 := Out.at_ e3 o2
        have sqo : ∀ {L2 ρ2 h2 H2 vs}, ((¬ Pr L2 ρ2 h2 a ∧ ∃ o, H2 a = some (.frz o (.lst vs))) ∨ KL X.K a vs) → SqL X.K H2 a vs := fun q => q.elim (fun ⟨_, o, e⟩ => .inl (.inr ⟨o, e⟩)) .inr
        obtain ⟨vs, f1, z, c⟩ := hr1.cell n a _ ea ec
        refine .inl ⟨a, rfl, ⟨vs, sqo f1⟩, o3 ρ1 H1 _ hr1 .refl ⟨itr_list fun L2 ρ2 h2 H2 hr2 s d => ?_, ec, z⟩⟩
        obtain ⟨ws, g1, _, g2⟩ := hr2.cell n a _ (s.pre _ _ ea) d
        exact ⟨ws, sqo g1, g2⟩
      | dead =>
        unfold M.bind at o2
        rw [e3] at o2
        exact False.elim o2
      | dct _ =>
        unfold M.bind at o2
        rw [e3] at o2
        exact False.elim o2
theorem rng_ok {i j : Int} {xs : List D} (e : rng i j = some xs) : (-(2 ^ 62) ≤ i ∧ i < 2 ^ 62 ∧ -(2 ^ 62) ≤ j ∧ j < 2 ^ 62) ∧ xs = rangeD i (j - i).toNat ∧ (j - i).toNat ≤ sizeLine := by
  unfold rng at e
  by_cases q : (sm i && sm j && decide ((j - i).toNat ≤ sizeLine)) = true
  · rw [if_pos q] at e
    cases e
    simp only [Bool.and_eq_true, decide_eq_true_eq, sm] at q
    exact ⟨⟨q.1.1.1, q.1.1.2, q.1.2.1, q.1.2.2⟩, rfl, q.2⟩
  · rw [if_neg q] at e; cases e
theorem i_r1 {p : Pos} (hg : Gl X "range") (hm : X.mg "range" = none) (ha : PE X a (tE C eva X.K W)) (hs : starEach [a] X.env = [(false, eval a X.env)]) :
    PI X tg (.Call (.Name "range" p) [a] [] pos) (tI C (fun en => M.bind (dd (eva en)) fun x => M.bind (ofO ((asI x).bind fun j => rng 0 j)) fun xs => M.pure (none, xs)) X.K W) := by
  refine pii (pi_range1 hg hm (pa_cons ha pa_nil (by rw [hs]; rfl)) hs) fun σ H R ⟨L, ρ, h, en, hr, er, o⟩ => ?_
  dsimp only at o
  rw [dd_bind] at o
  refine ⟨L, ρ, h, en, hr, er, (Out.split (rel := relV L) o).mono fun v H1 ⟨ρ1, h1, x, hr1, s1, rv1, o1⟩ => ?_⟩
  obtain ⟨dx, rx, o2⟩ := Out.rd hr1 rv1 o1
  obtain ⟨xs, e, o3⟩ := Out.ofO o2
  cases dx with
  | int j =>
    cases (show RD _ _ _ _ from rx)
    obtain ⟨⟨b1, b2, b3, b4⟩, rfl, z⟩ := rng_ok (show rng 0 j = some xs from e)
    rw [Int.sub_zero] at o3 z
    exact ⟨j, rfl, b3, b4, o3 ρ1 H1 _ hr1 .refl ⟨itr_rng, trivial, by unfold rangeD; simpa using z⟩⟩
  | _ => cases e
theorem i_r2 {p : Pos} (hg : Gl X "range") (hm : X.mg "range" = none) (ha : PE X a (tE C eva X.K W)) (hb : PE X b (tE C evb X.K W)) (hs : starEach [a, b] X.env = [(false, eval a X.env), (false, eval b X.env)]) (hs2 : starEach [b] X.env = [(false, eval b X.env)]) :
    PI X tg (.Call (.Name "range" p) [a, b] [] pos) (tI C (fun en => rd2 (eva en) (evb en) fun x y => M.bind (ofO ((asI x).bind fun i => (asI y).bind fun j => rng i j)) fun xs => M.pure (none, xs)) X.K W) := by
  refine pii (pi_range2 hg hm (pa_cons ha (pa_cons hb pa_nil (by rw [hs2]; rfl)) (by rw [hs, hs2])) hs hs2) fun σ H R ⟨L, ρ, h, en, hr, er, o⟩ => ?_
  refine ⟨L, ρ, h, en, hr, er, (Out.split (rel := relV L) o).mono fun v H1 ⟨ρ1, h1, x, hr1, s1, rv1, o1⟩ => ?_⟩
  refine ⟨L, ρ1, h1, en, hr1, er.step s1, (Out.split (rel := relV L) o1).mono fun w H2 ⟨ρ2, h2, y, hr2, s2, rv2, o2⟩ => ?_⟩
  obtain ⟨dx, rx, o3⟩ := Out.rd hr2 (rv1.step s2) o2
  obtain ⟨dy, ry, o4⟩ := Out.rd hr2 rv2 o3
  obtain ⟨xs, e, o5⟩ := Out.ofO o4
  cases dx with
  | int i =>
    cases dy with
    | int j =>
      cases (show RD _ _ _ _ from rx)
      cases (show RD _ _ _ _ from ry)
      obtain ⟨bs, rfl, z⟩ := rng_ok (show rng i j = some xs from e)
      exact ⟨i, j, rfl, bs, o5 ρ2 H2 _ hr2 .refl ⟨itr_rng, trivial, by unfold rangeD; simpa using z⟩⟩
    | _ => cases e
  | _ => cases e
theorem i_z2 {p tpos : Pos} {elts : List Expr} {kk : Nat} (hg : Gl X "zip") (hm : X.mg "zip" = none) (ha : PE X a (tE C eva X.K W)) (hb : PE X b (tE C evb X.K W)) (hs : starEach [a, b] X.env = (false, eval a X.env) :: starEach [b] X.env) (hs2 : starEach [b] X.env = [(false, eval b X.env)]) :
    PI X (.Tuple elts kk tpos) (.Call (.Name "zip" p) [a, b] [] pos) (tI C (fun en => M.bind (eva en) fun v => M.bind (evb en) fun w => M.bind (Jr.asD v) fun x => M.bind (Jr.asD w) fun y => M.bind (ofO (zip2V x y)) fun xs => M.pure (none, xs)) X.K W) := by
  refine pii (RZ.pi_zipA hg hm (pa_cons ha (pa_cons hb pa_nil (by rw [hs2]; rfl)) hs) hs (by rw [hs2]; rfl)) fun σ H R ⟨L, ρ, h, en, hr, er, o⟩ => ?_
  refine ⟨L, ρ, h, en, hr, er, (Out.split (rel := relV L) o).mono fun v H1 ⟨ρ1, h1, x, hr1, s1, rv1, o1⟩ => ?_⟩
  refine ⟨L, ρ1, h1, en, hr1, er.step s1, (Out.split (rel := relV L) o1).mono fun w H2 ⟨ρ2, h2, y, hr2, s2, rv2, o2⟩ => ?_⟩
  obtain ⟨dx, rfl, rx, o3⟩ := Out.asD (rv1.step s2) o2
  obtain ⟨dy, rfl, ry, o4⟩ := Out.asD rv2 o3
  obtain ⟨xs, e, o5⟩ := Out.ofO o4
  unfold zip2V at e
  split at e
  · cases e
    obtain ⟨a1, rfl⟩ : ∃ a, v = .ref a := by cases rx; exact ⟨_, rfl⟩
    obtain ⟨a2, rfl⟩ : ∃ a, w = .ref a := by cases ry; exact ⟨_, rfl⟩
    obtain ⟨vs, q1, c1, z1⟩ := RD.listAt (K := X.K) rx
    obtain ⟨ws, q2, c2, z2⟩ := RD.listAt (K := X.K) ry
    refine ⟨a1, a2, vs, ws, rfl, .inl ⟨q1, q2, o5 ρ2 H2 _ hr2 .refl ⟨itr_zipL fun L3 ρ3 h3 H3 _ s => ?_, trivial, by rw [zipD_len]; omega⟩⟩⟩
    obtain ⟨vs', q3, c3, _⟩ := RD.listAt (K := X.K) (RD.gr s.gr _ _ rx)
    obtain ⟨ws', q4, c4, _⟩ := RD.listAt (K := X.K) (RD.gr s.gr _ _ ry)
    exact ⟨vs', ws', q3, c3, q4, c4⟩
  · cases e
    obtain ⟨a1, rfl⟩ : ∃ a, v = .ref a := by cases rx; exact ⟨_, rfl⟩
    obtain ⟨a2, rfl⟩ : ∃ a, w = .ref a := by cases ry; exact ⟨_, rfl⟩
    obtain ⟨vs, q1, c1, z1⟩ := RD.tupAt (K := X.K) rx
    obtain ⟨ws, q2, c2, z2⟩ := RD.tupAt (K := X.K) ry
    refine ⟨a1, a2, vs, ws, rfl, .inr ⟨q1, q2, o5 ρ2 H2 _ hr2 .refl ⟨itr_zipT fun L3 ρ3 h3 H3 _ s => ?_, trivial, by rw [zipD_len]; omega⟩⟩⟩
    obtain ⟨vs', q3, c3, _⟩ := RD.tupAt (K := X.K) (RD.gr s.gr _ _ rx)
    obtain ⟨ws', q4, c4, _⟩ := RD.tupAt (K := X.K) (RD.gr s.gr _ _ ry)
    exact ⟨vs', ws', q3, c3, q4, c4⟩
  · cases e
theorem i_en {p tpos : Pos} {elts : List Expr} {kk : Nat} (hg : Gl X "enumerate") (hm : X.mg "enumerate" = none) (ha : PE X a (tE C eva X.K W)) (hs : starEach [a] X.env = [(false, eval a X.env)]) :
    PI X (.Tuple elts kk tpos) (.Call (.Name "enumerate" p) [a] [] pos) (tI C (fun en => M.bind (eva en) fun v => M.bind (Jr.asD v) fun x => M.bind (ofO ((asL x).map (enumD 0))) fun xs => M.pure (none, xs)) X.K W) := by
  refine pii (pi_enum hg hm (pa_cons ha pa_nil (by rw [hs]; rfl)) hs) fun σ H R ⟨L, ρ, h, en, hr, er, o⟩ => ?_
  refine ⟨L, ρ, h, en, hr, er, (Out.split (rel := relV L) o).mono fun v H1 ⟨ρ1, h1, x, hr1, s1, rv1, o1⟩ => ?_⟩
  obtain ⟨dx, rfl, rx, o2⟩ := Out.asD rv1 o1
  obtain ⟨xs, e, o3⟩ := Out.ofO o2
  cases dx with
  | list ys =>
    cases e
    obtain ⟨a1, rfl⟩ : ∃ a, v = .ref a := by cases rx; exact ⟨_, rfl⟩
    obtain ⟨vs, q1, c1, z1⟩ := RD.listAt (K := X.K) rx
    refine ⟨a1, vs, rfl, q1, o3 ρ1 H1 _ hr1 .refl ⟨itr_enum fun L3 ρ3 h3 H3 _ s => ?_, trivial, by rw [enumD_len]; exact z1⟩⟩
    obtain ⟨vs', q3, c3, _⟩ := RD.listAt (K := X.K) (RD.gr s.gr _ _ rx)
    exact ⟨vs', q3, c3⟩
  | _ => cases e
end
end Jr

set_option Elab.async false
set_option linter.all false
set_option maxRecDepth 100000
set_option maxHeartbeats 1000000
namespace Jr
open PySem PySem.Spec PyProof.Rows L2
/-! ### more is protected, less is protected -/
section
variable {K : PySem.W.Frag} {L L' : Addr → Prop} {ρ ρ1 : List Addr} {h h1 : Hh} {H H1 : Hp} {D : Addr}
abbrev addL (L : Addr → Prop) (D : Addr) : Addr → Prop := fun a => L a ∨ a = D
theorem HR.guard (hr : HR K L ρ h H) (n : H D = none) (vs : List V) : HR K (addL L D) ρ h (upd H D (.lst vs)) ∧ Stw L ρ h H (addL L D) ρ h (upd H D (.lst vs)) := by
  have prs : ∀ a, a ≠ D → ¬ Pr L ρ h a → ¬ Pr (addL L D) ρ h a := fun a ne np => by
    rintro ((l | l) | l)
    · exact np (.inl l)
    · exact ne l
    · exact np (.inr l)
  have g : Gr (Pr L ρ h) H (Pr (addL L D) ρ h) (upd H D (.lst vs)) := fun a u e q => ⟨by rw [upd_ne (ne_of_none e n)]; exact e, prs a (ne_of_none e n) q⟩
  refine ⟨⟨hr.len, hr.nd, fun i a c e1 e2 e3 l => ?_, fun a l => ?_, fun i a c e1 e2 => ?_⟩, g, fun _ _ e => e⟩
  · rcases l with l | l
    · exact hr.dis i a c e1 e2 e3 l
    · subst l
      exact hr.pr_tracked n (.inr ⟨i, c, e1, e2, e3⟩)
  · rcases l with l | l
    · have : a ≠ D := fun z => hr.ltr a l (by rw [z]; exact n)
      rw [upd_ne this]; exact hr.ltr a l
    · subst l; rw [upd_same]; exact fun z => nomatch z
  · have q := hr.cell i a c e1 e2
    cases c with
    | dead => trivial
    | ro es => obtain ⟨ws, x, z, r⟩ := q; exact ⟨ws, x.imp (fun ⟨np, u, e⟩ => ⟨(g _ _ e np).2, u, (g _ _ e np).1⟩) id, z, RDs.gr g _ _ r⟩
    | lst es => obtain ⟨ws, e, z, r⟩ := q; exact ⟨ws, by rw [upd_ne (ne_of_none e n)]; exact e, z, RDs.gr g _ _ r⟩
    | dct es => obtain ⟨ws, e, r⟩ := q; exact ⟨ws, by rw [upd_ne (ne_of_none e n)]; exact e, RKs.gr g _ _ r⟩
/-- a guarded object is written -/
theorem HR.updL (hr : HR K L ρ h H) (l : L D) (o : HO) : HR K L ρ h (upd H D o) ∧ Gr (Pr L ρ h) H (Pr L ρ h) (upd H D o) := by
  have ne : ∀ a, ¬ Pr L ρ h a → a ≠ D := fun a np z => np (.inl (z ▸ l))
  have g : Gr (Pr L ρ h) H (Pr L ρ h) (upd H D o) := fun a u e q => ⟨by rw [upd_ne (ne a q)]; exact e, q⟩
  refine ⟨⟨hr.len, hr.nd, hr.dis, fun a l' => ?_, fun i a c e1 e2 => ?_⟩, g⟩
  · by_cases z : a = D
    · subst z; rw [upd_same]; exact fun z => nomatch z
    · rw [upd_ne z]; exact hr.ltr a l'
  · have q := hr.cell i a c e1 e2
    have nea : live c = true → a ≠ D := fun lv z => hr.dis i a c e1 e2 lv (by rw [z]; exact l)
    cases c with
    | dead => trivial
    | ro es => obtain ⟨ws, x, z, r⟩ := q; exact ⟨ws, x.imp (fun ⟨np, u, e⟩ => ⟨(g _ _ e np).2, u, (g _ _ e np).1⟩) id, z, RDs.gr g _ _ r⟩
    | lst es => obtain ⟨ws, e, z, r⟩ := q; exact ⟨ws, by rw [upd_ne (nea rfl)]; exact e, z, RDs.gr g _ _ r⟩
    | dct es => obtain ⟨ws, e, r⟩ := q; exact ⟨ws, by rw [upd_ne (nea rfl)]; exact e, RKs.gr g _ _ r⟩
/-- H without D -/
def without (H : Hp) (D : Addr) : Hp := fun a => if a = D then none else H a
theorem without_ne {a : Addr} (n : a ≠ D) : without H D a = H a := if_neg n
theorem without_same : without H D D = none := if_pos rfl
theorem upd_without {o : HO} (e : H D = some o) : upd (without H D) D o = H := by
  funext a
  by_cases z : a = D
  · subst z; rw [upd_same, e]
  · rw [upd_ne z, without_ne z]
/-- the guard is taken away, with what it guards -/
theorem HR.unguard (hr : HR K (addL L D) ρ h H) (nL : ¬ L D) : HR K L ρ h (without H D) ∧ Gr (Pr (addL L D) ρ h) H (Pr L ρ h) (without H D) := by
  have prs : ∀ a, ¬ Pr (addL L D) ρ h a → ¬ Pr L ρ h a := fun a np => by
    rintro (l | l)
    · exact np (.inl (.inl l))
    · exact np (.inr l)
  have ne : ∀ a, ¬ Pr (addL L D) ρ h a → a ≠ D := fun a np z => np (.inl (.inr z))
  have g : Gr (Pr (addL L D) ρ h) H (Pr L ρ h) (without H D) := fun a u e q => ⟨by rw [without_ne (ne a q)]; exact e, prs a q⟩
  refine ⟨⟨hr.len, hr.nd, fun i a c e1 e2 e3 l => hr.dis i a c e1 e2 e3 (.inl l), fun a l => ?_, fun i a c e1 e2 => ?_⟩, g⟩
  · have : a ≠ D := fun z => nL (z ▸ l)
    rw [without_ne this]; exact hr.ltr a (.inl l)
  · have q := hr.cell i a c e1 e2
    have nea : live c = true → a ≠ D := fun lv z => hr.dis i a c e1 e2 lv (.inr z)
    cases c with
    | dead => trivial
    | ro es => obtain ⟨ws, x, z, r⟩ := q; exact ⟨ws, x.imp (fun ⟨np, u, e⟩ => ⟨(g _ _ e np).2, u, (g _ _ e np).1⟩) id, z, RDs.gr g _ _ r⟩
    | lst es => obtain ⟨ws, e, z, r⟩ := q; exact ⟨ws, by rw [without_ne (nea rfl)]; exact e, z, RDs.gr g _ _ r⟩
    | dct es => obtain ⟨ws, e, r⟩ := q; exact ⟨ws, by rw [without_ne (nea rfl)]; exact e, RKs.gr g _ _ r⟩
end
/-! ### targets -/
def gNms : List Nat → TGs
  | [] => gNil
  | i :: is => gCons (gName i) (gNms is)
def gOf (K : PySem.W.Frag) : Tg → TG
  | .nm i => gName i
  | .tp is => gTup K is.length (gNms is)
theorem wipe_set : ∀ (σ : L2.St) {i : Nat} {x : Option V} {vs : List Nat}, i ∈ vs → L2.wipe (σ.set i x) vs = L2.wipe σ vs := fun σ i x vs => by
  induction vs with
  | nil => intro h; cases h
  | cons v vs ih =>
    intro hm
    unfold L2.wipe
    by_cases h2 : i ∈ vs
    · rw [ih h2]
    · have e : i = v := by
        rcases List.mem_cons.mp hm with q | q
        · exact q
        · exact absurd q h2
      subst e
      have aux : ∀ (ws : List Nat), i ∉ ws → L2.wipe (σ.set i x) ws = (L2.wipe σ ws).set i x := fun ws => by
        induction ws with
        | nil => intro _; rfl
        | cons w ws ih2 =>
          intro hn
          unfold L2.wipe
          rw [ih2 (fun q => hn (List.mem_cons_of_mem _ q)), List.set_comm _ _ (fun z => hn (by rw [z]; exact List.mem_cons_self))]
      rw [aux vs h2, List.set_set]
theorem wipe_wipe (σ : L2.St) {vs : List Nat} : ∀ us : List Nat, (∀ i ∈ us, i ∈ vs) → L2.wipe (L2.wipe σ us) vs = L2.wipe σ vs
  | [], _ => rfl
  | u :: us, h => by
    show L2.wipe ((L2.wipe σ us).set u none) vs = _
    rw [wipe_set _ (h u List.mem_cons_self), wipe_wipe σ us fun i hi => h i (List.mem_cons_of_mem _ hi)]
def tgIn : Tg → List Nat → Bool
  | .nm i, vs => vs.contains i
  | .tp is, vs => is.all vs.contains
theorem g_nms {P : Addr → Prop} {ρ : List Addr} {H : Hp} {Q : L2.St → Hp → Prop} : ∀ {is : List Nat} {xs : List D} {vs : List V} {en : Env} {σ : L2.St}, xs.length = is.length → RDs P H xs vs → ER P ρ H en σ →
    (∀ σ', ER P ρ H ((is.zip xs).foldl (fun en p => en.set p.1 (some (.d p.2))) en) σ' → (∀ ws, is.all ws.contains = true → L2.wipe σ' ws = L2.wipe σ ws) → Q σ' H) → gNms is vs σ H Q
  | [], [], _, en, σ, _, .nil, er, q => ⟨rfl, q σ er fun _ _ => rfl⟩
  | i :: is, x :: xs, _, en, σ, l, .cons r rs, er, q => ⟨_, _, rfl, g_nms (by simpa using l) rs (er.set (x := .d x) r) fun σ' er' hw => q σ' er' fun ws hm => by
      rw [List.all_cons, Bool.and_eq_true] at hm
      rw [hw ws hm.2, wipe_set _ (by simpa using hm.1)]⟩
  | [], _ :: _, _, _, _, l, _, _, _ => by simp at l
  | _ :: _, [], _, _, _, l, _, _, _ => by simp at l
theorem g_ok {K : PySem.W.Frag} {P : Addr → Prop} {ρ : List Addr} {H : Hp} {Q : L2.St → Hp → Prop} {t : Tg} {x : Vl} {v : V} {en en' : Env} {σ : L2.St} (e : asgT t x en = some en') (r : RV P ρ H x v) (er : ER P ρ H en σ)
    (q : ∀ σ', ER P ρ H en' σ' → (∀ ws, tgIn t ws = true → L2.wipe σ' ws = L2.wipe σ ws) → Q σ' H) : gOf K t v σ H Q := by
  cases t with
  | nm i =>
    have e : (if i < en.length then some (en.set i (some x)) else none) = some en' := e
    by_cases hi : i < en.length
    · rw [if_pos hi] at e
      cases e
      exact q _ (er.set r) fun ws hm => wipe_set _ (by simpa [tgIn] using hm)
    · rw [if_neg hi] at e; cases e
  | tp is =>
    cases x with
    | d x =>
      cases x with
      | tuple xs =>
        have e : (if xs.length = is.length then some ((is.zip xs).foldl (fun en p => en.set p.1 (some (.d p.2))) en) else none) = some en' := e
        by_cases hl : xs.length = is.length
        · rw [if_pos hl] at e
          cases e
          cases (show RD _ _ _ _ from r) with | tup np e1 z c =>
          exact ⟨_, _, rfl, SqT.of e1, by rw [← c.length]; exact hl, g_nms hl c er q⟩
        · rw [if_neg hl] at e; cases e
      | _ => cases e
    | _ => cases e
/-! ### comprehensions -/
theorem same_ok {dep : Option (Nat × Cell)} {h h' : Hh} {u : Unit} (e : same dep h = some (.ok u, h')) : depOK dep h ∧ h' = h := by
  unfold same at e
  cases dep with
  | none => cases e; exact ⟨trivial, rfl⟩
  | some p =>
    obtain ⟨n, c⟩ := p
    dsimp only at e
    split at e
    · rename_i q
      cases e
      exact ⟨q, rfl⟩
    · cases e
theorem bind_ok {α β : Type} {m : M α} {f : α → M β} {h h' : Hh} {r : R β} (e : M.bind m f h = some (r, h')) : (∃ x h1, m h = some (.ok x, h1) ∧ f x h1 = some (r, h')) ∨ ∃ c, m h = some (.exc c, h') ∧ r = .exc c := by
  unfold M.bind at e
  cases e1 : m h with
  | none => rw [e1] at e; cases e
  | some p =>
    obtain ⟨q, h1⟩ := p
    rw [e1] at e
    cases q with
    | ok x => exact .inl ⟨x, h1, rfl, e⟩
    | exc c => cases e; exact .inr ⟨c, rfl, rfl⟩
theorem bind_okv {α β : Type} {m : M α} {f : α → M β} {h h' : Hh} {y : β} (e : M.bind m f h = some (.ok y, h')) : ∃ x h1, m h = some (.ok x, h1) ∧ f x h1 = some (.ok y, h') := by
  rcases bind_ok e with q | ⟨c, _, q⟩
  · exact q
  · cases q
theorem noExc_ok {α : Type} {m : M α} {h h' : Hh} {r : R α} (e : noExc m h = some (r, h')) : ∃ x, r = .ok x ∧ m h = some (.ok x, h') := by
  unfold noExc at e
  split at e
  · rename_i x h1 e1
    cases e
    exact ⟨x, rfl, e1⟩
  · cases e
theorem same_exc {dep : Option (Nat × Cell)} {h h' : Hh} {c : Nat} (e : same dep h = some (.exc c, h')) : False := by
  unfold same at e
  cases dep with
  | none => cases e
  | some p =>
    dsimp only at e
    split at e <;> cases e
theorem compL_cons {dep : Option (Nat × Cell)} {f : D → M (Option D)} {x : D} {xs : List D} {h h' : Hh} {r : R (List D)} (e : compL dep f (x :: xs) h = some (r, h')) :
    ∃ y h1 ys, depOK dep h ∧ f x h = some (.ok y, h1) ∧ compL dep f xs h1 = some (.ok ys, h') ∧ r = .ok (match y with
    | some y => y :: ys
    | none => ys) := by
  unfold compL at e
  rcases bind_ok e with ⟨u, h1, e1, e2⟩ | ⟨c, e1, _⟩
  · obtain ⟨d, rfl⟩ := same_ok e1
    rcases bind_ok e2 with ⟨y, h2, e3, e4⟩ | ⟨c, e3, _⟩
    · obtain ⟨y', q, e5⟩ := noExc_ok e3
      cases q
      rcases bind_ok e4 with ⟨ys, h3, e6, e7⟩ | ⟨c, e6, _⟩
      · cases e7
        exact ⟨y, h2, ys, d, e5, e6, rfl⟩
      · exfalso
        have noexc : ∀ (xs : List D) (h h' : Hh) (c : Nat), compL dep f xs h ≠ some (.exc c, h') := fun xs => by
          induction xs with
          | nil =>
            intro h h' c z
            rcases bind_ok (show M.bind (same dep) (fun _ => M.pure []) h = _ from z) with ⟨_, _, _, q⟩ | ⟨c, q, _⟩
            · cases q
            · exact same_exc q
          | cons x xs ih =>
            intro h h' c z
            unfold compL at z
            rcases bind_ok z with ⟨u, h1, e1, e2⟩ | ⟨c, e1, _⟩
            · rcases bind_ok e2 with ⟨y, h2, e3, e4⟩ | ⟨c, e3, _⟩
              · rcases bind_ok e4 with ⟨ys, h3, e6, e7⟩ | ⟨c, e6, _⟩
                · cases e7
                · exact ih _ _ _ e6
              · obtain ⟨_, q, _⟩ := noExc_ok e3; cases q
            · exact same_exc e1
        exact noexc _ _ _ _ e6
    · obtain ⟨_, q, _⟩ := noExc_ok e3; cases q
  · exact (same_exc e1).elim
abbrev W0 : WX := fun _ _ _ _ => False
theorem t_lc {K : PySem.W.Frag} {C : Nat → Option Value} {W : WX} {t : Tg} {own : List Nat} {evi : Env → M (Option (Nat × Cell) × List D)} {cnd : Env → M Bool} {elt : Env → M Vl} (ht : tgIn t own = true) : ∀ σ H Q,
    tF C (fun en => M.bind (evi en) fun p => compL p.1 (turnM t own en cnd elt) p.2) K W σ H Q → tLc (tI C evi K W) (gOf K t) (tT C cnd K W0) (tE C elt K W0) own σ H Q := fun σ H Q ⟨L, ρ, h, en, hr, er, o⟩ => by
  refine ⟨L, ρ, h, en, hr, er, (Out.split (rel := relI K L) o).mono fun J H1 ⟨ρ1, h1, p, hr1, s1, ⟨it, dp, hz⟩, o1⟩ => ?_⟩
  obtain ⟨dep, xs⟩ := p
  dsimp only at it dp hz o1
  intro Dd nD
  obtain ⟨ys, hE, eC⟩ : ∃ ys hE, compL dep (turnM t own en cnd elt) xs h1 = some (.ok ys, hE) := by
    cases e : compL dep (turnM t own en cnd elt) xs h1 with
    | none => rw [e] at o1; exact False.elim o1
    | some q =>
      obtain ⟨r, hE⟩ := q
      cases r with
      | ok ys => exact ⟨ys, hE, rfl⟩
      | exc c =>
        exfalso
        cases xs with
        | nil =>
          rcases bind_ok (show M.bind (same dep) (fun _ => M.pure []) h1 = _ from e) with ⟨_, _, _, q⟩ | ⟨c, q, _⟩
          · cases q
          · exact same_exc q
        | cons x xs => obtain ⟨_, _, _, _, _, _, q⟩ := compL_cons e; cases q
  rw [eC] at o1
  obtain ⟨hr2, s2⟩ := hr1.guard nD []
  have nLD : ¬ L Dd := fun z => hr1.ltr Dd z nD
  have neD : ∀ a, L a → a ≠ Dd := fun a l z => nLD (by rw [← z]; exact l)
  refine ⟨fun i m H => m = xs.length - i ∧ i ≤ xs.length ∧ ∃ ρ' h' acc vs ys2, HR K (addL L Dd) ρ' h' H ∧ Stw L ρ1 h1 H1 (addL L Dd) ρ' h' H ∧ (∀ a, L a → H a = H1 a) ∧ H Dd = some (.lst vs) ∧ RDs (Pr (addL L Dd) ρ' h') H acc vs ∧ acc.length ≤ i ∧
      ys = acc ++ ys2 ∧ compL dep (turnM t own en cnd elt) (xs.drop i) h' = some (.ok ys2, hE), ⟨xs.length, by simp, Nat.zero_le _, ρ1, h1, [], [], ys, hr2, s2, fun a l => upd_ne (neD a l), upd_same, .nil, Nat.le_refl _, rfl, eC⟩, ?_⟩
  rintro i m H2 ⟨rfl, hi, ρ', h', acc, vs, ys2, hr', s', fx, eD, rs, la, rfl, eC'⟩
  by_cases hlt : i < xs.length
  · have ex : xs.drop i = xs[i] :: xs.drop (i + 1) := (List.getElem_cons_drop hlt).symm
    rw [ex] at eC'
    obtain ⟨y, h3, ys3, d', e3, e4, e5⟩ := compL_cons eC'
    obtain ⟨go, yl⟩ := (it (addL L Dd) ρ' h' H2 hr' s' d').1 i xs[i] (List.getElem?_eq_getElem hlt)
    refine .inr ⟨go, fun H' => ∃ ρ' h' acc vs ys2, HR K (addL L Dd) ρ' h' H' ∧ Stw L ρ1 h1 H1 (addL L Dd) ρ' h' H' ∧ (∀ a, L a → H' a = H1 a) ∧ H' Dd = some (.lst vs) ∧ RDs (Pr (addL L Dd) ρ' h') H' acc vs ∧ acc.length ≤ i + 1 ∧
      _ = acc ++ ys2 ∧ compL dep (turnM t own en cnd elt) (xs.drop (i + 1)) h' = some (.ok ys2, hE), fun H' q => ⟨xs.length - (i + 1), by omega, rfl, hlt, q⟩, fun v H' yv => ?_⟩
    obtain ⟨hr3, s3, rv⟩ := yl v H' yv
    have er' : ER (Pr (addL L Dd) ρ' h') ρ' H' en σ := (ER.stw s' (ER.step s1 er)).step s3
    have fx3 : ∀ a, L a → H' a = H1 a := fun a l => (s3.fix a (.inl l)).trans (fx a l)
    have eD3 : H' Dd = some (.lst vs) := (s3.fix Dd (.inr rfl)).trans eD
    have rs3 := RDs.gr s3.gr _ _ rs
    have sw3 := s'.then_ s3
    unfold turnM at e3
    obtain ⟨en1, h3a, f1, f2⟩ := bind_okv e3
    obtain ⟨en1', ea, rfl, rfl⟩ : ∃ en1', asgT t (.d xs[i]) (Jr.wipe en own) = some en1' ∧ en1' = en1 ∧ h3a = h' := by
      cases ea : asgT t (.d xs[i]) (Jr.wipe en own) with
      | none => rw [ea] at f1; cases f1
      | some q => rw [ea] at f1; cases f1; exact ⟨_, rfl, rfl, rfl⟩
    refine g_ok ea rv (er'.wipe own) fun σ' er1 hw => ⟨by rw [hw own ht, wipe_wipe σ own fun _ h => h], ?_⟩
    refine ⟨addL L Dd, ρ', h3a, en1', hr3, er1, ?_⟩
    obtain ⟨k, h4, f3, f4⟩ := bind_okv f2
    rw [f3]
    intro ρ4 H4 b hr4 s4 eb
    cases (show k = b from eb)
    have fx4 : ∀ a, L a → H4 a = H1 a := fun a l => (s4.fix a (.inl l)).trans (fx3 a l)
    have eD4 : H4 Dd = some (.lst vs) := (s4.fix Dd (.inr rfl)).trans eD3
    have rs4 := RDs.gr s4.gr _ _ rs3
    have sw4 := sw3.then_ s4
    cases k with
    | false =>
      cases f4
      cases e5
      exact ⟨ρ4, _, acc, vs, _, hr4, sw4, fx4, eD4, rs4, by omega, rfl, e4⟩
    | true =>
      refine ⟨addL L Dd, ρ4, h4, en1', hr4, er1.step s4, ?_⟩
      obtain ⟨w, h5, g1, g2⟩ := bind_okv f4
      rw [g1]
      intro ρ5 H5 u hr5 s5 rw5
      have eD5 : H5 Dd = some (.lst vs) := (s5.fix Dd (.inr rfl)).trans eD4
      have fx5 : ∀ a, L a → H5 a = H1 a := fun a l => (s5.fix a (.inl l)).trans (fx4 a l)
      have rs5 := RDs.gr s5.gr _ _ rs4
      have sw5 := sw4.then_ s5
      cases w with
      | r n => cases g2
      | k kvs => cases g2
      | d w =>
        cases g2
        cases e5
        obtain ⟨hr6, g6⟩ := hr5.updL (D := Dd) (.inr rfl) (.lst (vs ++ [u]))
        refine ⟨vs, eD5, by rw [← rs5.length]; omega, ρ5, h3, acc ++ [w], vs ++ [u], ys3, hr6, ⟨fun a o e n => let ⟨e1, n1⟩ := sw5.gr a o e n; g6 a o e1 n1, sw5.pre⟩, fun a l => ?_, upd_same, (RDs.gr g6 _ _ rs5).append (.cons (RD.gr g6 _ _ rw5) .nil), by rw [List.length_append, List.length_cons, List.length_nil]; omega, by rw [List.append_assoc]; rfl, e4⟩
        rw [upd_ne (neD a l)]; exact fx5 a l
  · have ei : i = xs.length := by omega
    subst ei
    rw [List.drop_length] at eC'
    obtain ⟨u, h2, e6, e7⟩ := bind_okv (show M.bind (same dep) (fun _ => M.pure []) h' = _ from eC')
    obtain ⟨d', rfl⟩ := same_ok e6
    cases e7
    have stop := (it (addL L Dd) ρ' _ H2 hr' s' d').2
    obtain ⟨hr3, g3⟩ := hr'.unguard nLD
    refine .inl ⟨stop, ?_⟩
    have eH := upd_without eD
    obtain ⟨hr4, s4⟩ := hr3.new (o := .lst vs) without_same
    rw [eH] at hr4 s4
    have st : Stp L ρ1 h1 H1 ρ' _ (without H2 Dd) := ⟨fun a o e n => let ⟨e1, n1⟩ := s'.gr a o e n; g3 a o e1 n1, fun a l => by rw [without_ne (neD a l)]; exact fx a l, s'.pre⟩
    refine o1 ρ' H2 _ hr4 (st.trans s4) ⟨Dd, vs, without H2 Dd, rfl, eH.symm, without_same, hr3, s1.trans st, ?_, ?_⟩
    · rw [List.append_nil]; exact RDs.gr g3 _ _ rs
    · rw [List.append_nil]; omega
end Jr

set_option Elab.async false
set_option linter.all false
set_option maxRecDepth 100000
set_option maxHeartbeats 1000000
namespace Jr
open PySem PySem.Spec PyProof.Rows L2
/-! ### comprehensions as values, as a statement -/
section
variable {X : Cx} {C : Nat → Option Value} {W : WX}
theorem t_if1 {K : PySem.W.Frag} {evt : Env → M Bool} : ∀ σ H Q, tT C (fun en => tt (pD (.bool true))) K W0 σ H Q → tYes σ H Q := fun σ H Q ⟨L, ρ, h, en, hr, er, o⟩ => o ρ H true hr .refl rfl
structure PTt (X : Cx) (ifs : List Expr) (t : TT) : Prop where
  p : PTs X ifs t
theorem pts_imp {ifs : List Expr} {t t' : TT} (p : PTs X ifs t) (i : ∀ σ H Q, t' σ H Q → t σ H Q) : PTs X ifs t' := ⟨fun pins s σ H Q I h => p.run pins s σ H Q I (i σ H Q h)⟩
theorem f_cmp {elt tg iter : Expr} {ifs : List Expr} {scope : Scope} {own : List (Str × Nat)} {pos : Pos} {t : Tg} {evi : Env → M (Option (Nat × Cell) × List D)} {cnd : Env → M Bool} {ev : Env → M Vl}
    (hc : X.calm = true) (hN : X.N.Nodup) (hi : PI X tg iter (tI C evi X.K W)) (ok : BlkOk X.N X.env.scope scope own) (ht : tgIn t (own.map (·.2)) = true)
    (hg : ∀ (s : Shared) (H : Hp) (Cc : Addr) (cl : List (Str × Addr)) (fp : List Addr), PG (X.blk s H scope (compEnvC scope cl Cc X.env) fp) tg (gOf X.K t))
    (hf : ∀ (s : Shared) (H : Hp) (Cc : Addr) (cl : List (Str × Addr)) (fp : List Addr), PTs (X.blk s H scope (compEnvC scope cl Cc X.env) fp) ifs (tT C cnd X.K W0))
    (he : ∀ (s : Shared) (H : Hp) (Cc : Addr) (cl : List (Str × Addr)) (fp : List Addr), PE (X.blk s H scope (compEnvC scope cl Cc X.env) fp) elt (tE C ev X.K W0)) (hs : ∀ x, foldedSetIterable iter X.env x = pure x) :
    PE X (.ListComp elt [⟨tg, iter, ifs, 0⟩] scope pos) (tF C (fun en => M.bind (evi en) fun p => compL p.1 (turnM t (own.map (·.2)) en cnd ev) p.2) X.K W) :=
  pei (pe_lc hc hN hi ok hg hf he hs) (t_lc ht)
end
/-! ### statements -/
def OutS (K : PySem.W.Frag) (C : Nat → Option Value) (L : Addr → Prop) (ρ : List Addr) (h : Hh) (H : Hp) (W : WX) (r : Option (R SO × Hh)) (D : Ends) : Prop :=
  match r with
  | none => False
  | some (.ok (.next en), h') => ∀ ρ' H' σ', HR K L ρ' h' H' → Stp L ρ h H ρ' h' H' → ER (Pr L ρ' h') ρ' H' en σ' → D.nx σ' H'
  | some (.ok (.ret x), h') => ∀ ρ' H' v, HR K L ρ' h' H' → Stp L ρ h H ρ' h' H' → RV (Pr L ρ' h') ρ' H' x v → D.rt v H'
  | some (.exc c, h') => ∀ cv, C c = some cv → ∀ ρ' H' σ' d, HR K L ρ' h' H' → Stp L ρ h H ρ' h' H' → W cv d σ' H'
def tS (C : Nat → Option Value) (ev : Env → M SO) (K : PySem.W.Frag) (W : WX) : TS := fun D σ H => ∃ L ρ h en, HR K L ρ h H ∧ ER (Pr L ρ h) ρ H en σ ∧ OutS K C L ρ h H W (ev en h) D
theorem psi {X : Cx} {st : Stmt} {t t' : TS} (p : PS X st t) (i : ∀ D σ H, t' D σ H → t D σ H) : PS X st t' := ⟨fun pins s σ H D I h => p.run pins s σ H D I (i D σ H h)⟩
theorem pssi {X : Cx} {st : List Stmt} {t t' : TS} (p : PSs X st t) (i : ∀ D σ H, t' D σ H → t D σ H) : PSs X st t' := ⟨fun pins s σ H D I h => p.run pins s σ H D I (i D σ H h)⟩
section
variable {α τ : Type} {K : PySem.W.Frag} {C : Nat → Option Value} {L : Addr → Prop} {ρ ρ1 : List Addr} {h h1 : Hh} {H H1 : Hp} {W : WX}
theorem OutS.rebase {r : Option (R SO × Hh)} {D : Ends} (s : Stp L ρ h H ρ1 h1 H1) (o : OutS K C L ρ h H W r D) : OutS K C L ρ1 h1 H1 W r D := by
  match r, o with
  | some (.ok (.next en), h'), o => exact fun ρ' H' v a b c => o ρ' H' v a (s.trans b) c
  | some (.ok (.ret x), h'), o => exact fun ρ' H' v a b c => o ρ' H' v a (s.trans b) c
  | some (.exc c, h'), o => exact fun cv hc ρ' H' σ' d a b => o cv hc ρ' H' σ' d a (s.trans b)
/-- a statement that begins with a value -/
theorem OutS.split {rel : List Addr → Hh → Hp → α → τ → Prop} {m : M α} {f : α → M SO} {D : Ends} (σ : L2.St) (o : OutS K C L ρ h H W (M.bind m f h) D) :
    Out K C L ρ h H rel (fun c d H' => W c d σ H') (m h) (fun v H1 => ∃ ρ1 h1 x, HR K L ρ1 h1 H1 ∧ Stp L ρ h H ρ1 h1 H1 ∧ rel ρ1 h1 H1 x v ∧ OutS K C L ρ1 h1 H1 W (f x h1) D) := by
  unfold M.bind at o
  cases e : m h with
  | none => rw [e] at o; exact o
  | some p =>
    obtain ⟨r, h'⟩ := p
    rw [e] at o
    cases r with
    | ok x => exact fun ρ' H' v a b c => ⟨ρ', h', x, a, b, c, o.rebase b⟩
    | exc c => exact fun cv hc ρ' H' d a b => o cv hc ρ' H' σ d a b
theorem OutS.ofO {m : Option α} {f : α → M SO} {D : Ends} (o : OutS K C L ρ h H W (M.bind (Jr.ofO m) f h) D) : ∃ x, m = some x ∧ OutS K C L ρ h H W (f x h) D := by
  cases m with
  | none => exact False.elim o
  | some x => exact ⟨x, rfl, o⟩
theorem OutS.asD {x : Vl} {v : V} {f : D → M SO} {Dn : Ends} (rv : RV (Pr L ρ h) ρ H x v) (o : OutS K C L ρ h H W (M.bind (Jr.asD x) f h) Dn) :
    ∃ d, x = .d d ∧ RD (Pr L ρ h) H d v ∧ OutS K C L ρ h H W (f d h) Dn := by
  cases x with
  | d x => exact ⟨x, rfl, rv, o⟩
  | r n => exact False.elim o
  | k n => exact False.elim o
end
section
variable {X : Cx} {C : Nat → Option Value} {W : WX} {a b c e : Expr} {eva evb evc ev : Env → M Vl} {pos : Pos}
/-- an assignment's reading -/
theorem t_asg {t : Tg} : ∀ D σ H, tS C (fun en => M.bind (ev en) fun v => M.bind (ofO (asgT t v en)) fun en' => M.pure (.next en')) X.K W D σ H → tAsg (tE C ev X.K W) (gOf X.K t) D σ H := fun D σ H ⟨L, ρ, h, en, hr, er, o⟩ => by
  refine ⟨L, ρ, h, en, hr, er, (OutS.split (rel := relV L) σ o).mono fun v H1 ⟨ρ1, h1, x, hr1, s1, rv1, o1⟩ => ?_⟩
  obtain ⟨en', ea, o2⟩ := OutS.ofO o1
  exact g_ok ea rv1 (er.step s1) fun σ' er' _ => o2 ρ1 H1 σ' hr1 .refl er'
theorem s_asg {tg : Expr} {t : Tg} (he : PE X e (tE C ev X.K W)) (hg : PG X tg (gOf X.K t)) (hs : swapsWithSole [tg] e pos.line X.env = pure false) (hw : swappedStores [tg] e X.env = pure none) (h1 : (assignEach [tg] X.env).map (·.2) = [assign tg X.env]) :
    PS X (.Assign [tg] e pos) (tS C (fun en => M.bind (ev en) fun v => M.bind (ofO (asgT t v en)) fun en' => M.pure (.next en')) X.K W) :=
  psi (ps_asg he hg hs hw h1) t_asg
/-- name = [..], the list or a cell -/
theorem s_setLc {mk : List D → M Vl} {i : Nat} {y : Str} {py : Pos} {elt tg iter : Expr} {ifs : List Expr} {scope : Scope} {own : List (Str × Nat)} {pos spos : Pos} {t : Tg} {evi : Env → M (Option (Nat × Cell) × List D)} {cnd : Env → M Bool} {ev : Env → M Vl}
    (hc : X.calm = true) (hN : X.N.Nodup) (hy : X.N[i]? = some y) (hyl : X.env.scope.names.lookup y = some .local) (hsw : swapsWith (.ListComp elt [⟨tg, iter, ifs, 0⟩] scope pos) (some (.Name y py)) spos.line X.env = pure true)
    (hi : PI X tg iter (tI C evi X.K W)) (ok : BlkOk X.N X.env.scope scope own) (ht : tgIn t (own.map (·.2)) = true)
    (hg : ∀ (s : Shared) (H : Hp) (Cc : Addr) (cl : List (Str × Addr)) (fp : List Addr), PG (X.blk s H scope (compEnvC scope cl Cc X.env) fp) tg (gOf X.K t))
    (hf : ∀ (s : Shared) (H : Hp) (Cc : Addr) (cl : List (Str × Addr)) (fp : List Addr), PTs (X.blk s H scope (compEnvC scope cl Cc X.env) fp) ifs (tT C cnd X.K W0))
    (he : ∀ (s : Shared) (H : Hp) (Cc : Addr) (cl : List (Str × Addr)) (fp : List Addr), PE (X.blk s H scope (compEnvC scope cl Cc X.env) fp) elt (tE C ev X.K W0)) (hs : ∀ x, foldedSetIterable iter X.env x = pure x)
    (hmk : mk = (fun xs => pD (.list xs)) ∨ mk = fun xs => newC (.lst xs)) :
    PS X (.Assign [.Name y py] (.ListComp elt [⟨tg, iter, ifs, 0⟩] scope pos) spos) (tS C (fun en => M.bind (M.bind (M.bind (evi en) fun p => compL p.1 (turnM t (own.map (·.2)) en cnd ev) p.2) mk) fun v => M.bind (ofO (asgT (.nm i) v en)) fun en' => M.pure (.next en')) X.K W) := by
  refine psi (ps_setLc hc hN hy hyl hsw hi ok hg hf he hs) fun D σ H q => ?_
  have q1 := t_asg (X := X) (t := .nm i) D σ H q
  -- the value's reading is the comprehension's
  have key : ∀ Q, tE C (fun en => M.bind (M.bind (evi en) fun p => compL p.1 (turnM t (own.map (·.2)) en cnd ev) p.2) mk) X.K W σ H Q → tF C (fun en => M.bind (evi en) fun p => compL p.1 (turnM t (own.map (·.2)) en cnd ev) p.2) X.K W σ H Q := fun Q q => by
    rcases hmk with rfl | rfl
    · exact t_new σ H Q q
    · exact t_box σ H Q q
  exact t_lc ht σ H _ (key _ q1)
where
  t_new : ∀ {ev : Env → M (List D)} σ H Q, tE C (fun en => M.bind (ev en) fun xs => pD (.list xs)) X.K W σ H Q → tF C ev X.K W σ H Q := fun {ev} σ H Q ⟨L, ρ, h, en, hr, er, o⟩ => ⟨L, ρ, h, en, hr, er, by
    unfold M.bind at o
    dsimp only at o
    cases e : ev en h with
    | none => rw [e] at o; exact o
    | some q =>
      obtain ⟨r, h1⟩ := q
      rw [e] at o
      cases r with
      | exc c => exact o
      | ok xs =>
        intro ρ' H' v hr' s' ⟨p, vs, H1, ev, eH, np, hr1, s1, rs, z⟩
        subst ev eH
        obtain ⟨hr2, s2⟩ := hr1.new (o := .lst vs) np
        exact o ρ' _ _ hr' s' (RD.lst (hr1.np np) upd_same z (RDs.gr s2.gr _ _ rs))⟩
  t_box : ∀ {ev : Env → M (List D)} σ H Q, tE C (fun en => M.bind (ev en) fun xs => newC (.lst xs)) X.K W σ H Q → tF C ev X.K W σ H Q := fun {ev} σ H Q ⟨L, ρ, h, en, hr, er, o⟩ => ⟨L, ρ, h, en, hr, er, by
    unfold M.bind at o
    dsimp only at o
    cases e : ev en h with
    | none => rw [e] at o; exact o
    | some q =>
      obtain ⟨r, h1⟩ := q
      rw [e] at o
      cases r with
      | exc c => exact o
      | ok xs =>
        intro ρ' H' v hr' s' ⟨p, vs, H1, ev, eH, np, hr1, s1, rs, z⟩
        subst ev eH
        obtain ⟨hr2, s2⟩ := hr1.cellNew np z rs
        refine o (ρ' ++ [p]) _ _ hr2 (s1.trans s2) ⟨p, ?_, rfl⟩
        rw [← hr1.len, List.getElem?_append_right (Nat.le_refl _), Nat.sub_self]
        rfl⟩
theorem s_ex (he : PE X e (tE C ev X.K W)) (hs : swapsWith e none pos.line X.env = pure false) : PS X (.Expr e pos) (tS C (fun en => M.bind (ev en) fun _ => M.pure (.next en)) X.K W) :=
  psi (ps_expr he hs) fun D σ H ⟨L, ρ, h, en, hr, er, o⟩ => ⟨L, ρ, h, en, hr, er, (OutS.split (rel := relV L) σ o).mono fun v H1 ⟨ρ1, h1, x, hr1, s1, rv1, o1⟩ => o1 ρ1 H1 σ hr1 .refl (er.step s1)⟩
theorem s_ret (he : PE X e (tE C ev X.K W)) : PS X (.Return (some e) pos) (tS C (fun en => M.bind (ev en) fun v => M.pure (.ret v)) X.K W) :=
  psi (ps_ret he) fun D σ H ⟨L, ρ, h, en, hr, er, o⟩ => ⟨L, ρ, h, en, hr, er, (OutS.split (rel := relV L) σ o).mono fun v H1 ⟨ρ1, h1, x, hr1, s1, rv1, o1⟩ => o1 ρ1 H1 v hr1 .refl rv1⟩
theorem s_ite {evt : Env → M Bool} {ss tt : List Stmt} {eu evv : Env → M SO} (hc : PT X c (tT C evt X.K W)) (hs : PSs X ss (tS C eu X.K W)) (ht : PSs X tt (tS C evv X.K W)) :
    PS X (.If c ss tt pos) (tS C (fun en => M.bind (evt en) fun k => if k then eu en else evv en) X.K W) :=
  psi (ps_if hc hs ht) fun D σ H ⟨L, ρ, h, en, hr, er, o⟩ => ⟨L, ρ, h, en, hr, er, (OutS.split (rel := relB) σ o).mono fun v H1 ⟨ρ1, h1, x, hr1, s1, rv1, o1⟩ => by
    cases rv1
    cases v with
    | true => exact ⟨L, ρ1, h1, en, hr1, er.step s1, o1⟩
    | false => exact ⟨L, ρ1, h1, en, hr1, er.step s1, o1⟩⟩
theorem ss_nil : PSs X [] (tS C (fun en => M.pure (.next en)) X.K W) := pssi pss_nil fun D σ H ⟨L, ρ, h, en, hr, er, o⟩ => o ρ H σ hr .refl er
theorem t_seq {eu evv : Env → M SO} : ∀ D σ H, tS C (fun en => M.bind (eu en) fun
    | .next en' => evv en'
    | .ret v => M.pure (.ret v)) X.K W D σ H → tSeq (tS C eu X.K W) (tS C evv X.K W) D σ H := fun D σ H ⟨L, ρ, h, en, hr, er, o⟩ => ⟨L, ρ, h, en, hr, er, by
  unfold M.bind at o
  dsimp only at o
  cases e : eu en h with
  | none => rw [e] at o; exact o
  | some p =>
    obtain ⟨r, h1⟩ := p
    rw [e] at o
    cases r with
    | exc c => exact o
    | ok x =>
      cases x with
      | next en' => exact fun ρ' H' σ' hr' s' er' => ⟨L, ρ', h1, en', hr', er', o.rebase s'⟩
      | ret v => exact o⟩
theorem ss_cons {st : Stmt} {rest : List Stmt} {eu evv : Env → M SO} (h1 : PS X st (tS C eu X.K W)) (h2 : PSs X rest (tS C evv X.K W)) : PSs X (st :: rest) (tS C (fun en => M.bind (eu en) fun
    | .next en' => evv en'
    | .ret v => M.pure (.ret v)) X.K W) := pssi (pss_cons h1 h2) t_seq
/-! ### loops -/
theorem forL_cons {dep : Option (Nat × Cell)} {f : D → Env → M SO} {x : D} {xs : List D} {en : Env} : forL dep f (x :: xs) en = M.bind (same dep) fun _ => M.bind (f x en) fun
    | .next en' => forL dep f xs en'
    | .ret v => M.pure (.ret v) := rfl
theorem s_for {tg iter : Expr} {body : List Stmt} {t : Tg} {evi : Env → M (Option (Nat × Cell) × List D)} {evb : Env → M SO} (hp : PassesOwn (model X.prog X.w) X.A X.env X.xe) (hc : X.calm = true) (hi : PI X tg iter (tI C evi X.K W)) (hg : PG X tg (gOf X.K t)) (hb : PSs X body (tS C evb X.K W))
    (hs : ∀ x, foldedSetIterable iter X.env x = pure x) :
    PS X (.For tg iter body [] pos) (tS C (fun en => M.bind (evi en) fun p => forL p.1 (fun x en => M.bind (ofO (asgT t (.d x) en)) fun en1 => evb en1) p.2 en) X.K W) := by
  refine psi (ps_for hp hc hi hg hb hs) fun D σ H ⟨L, ρ, h, en, hr, er, o⟩ => ?_
  refine ⟨L, ρ, h, en, hr, er, (OutS.split (rel := relI X.K L) σ o).mono fun J H1 ⟨ρ1, h1, p, hr1, s1, ⟨it, dp, hz⟩, o1⟩ => ?_⟩
  obtain ⟨dep, xs⟩ := p
  dsimp only at it dp hz o1
  refine ⟨fun i m σ' H' => m = xs.length - i ∧ i ≤ xs.length ∧ ∃ ρ' h' en', HR X.K L ρ' h' H' ∧ Stp L ρ1 h1 H1 ρ' h' H' ∧ ER (Pr L ρ' h') ρ' H' en' σ' ∧ OutS X.K C L ρ' h' H' W (forL dep (fun x en => M.bind (ofO (asgT t (.d x) en)) fun en1 => evb en1) (xs.drop i) en' h') D,
    ⟨xs.length, by simp, Nat.zero_le _, ρ1, h1, en, hr1, .refl, er.step s1, o1⟩, ?_⟩
  rintro i m σ' H2 ⟨rfl, hi, ρ', h', en', hr', s', er', o'⟩
  have dsame : ∀ {k : Unit → M SO}, OutS X.K C L ρ' h' H2 W (M.bind (same dep) k h') D → depOK dep h' ∧ OutS X.K C L ρ' h' H2 W (k () h') D := fun {k} o => by
    unfold M.bind at o
    cases e : same dep h' with
    | none => rw [e] at o; exact False.elim o
    | some q =>
      obtain ⟨r, h2⟩ := q
      cases r with
      | exc c => exact (same_exc e).elim
      | ok u =>
        obtain ⟨d, rfl⟩ := same_ok e
        rw [e] at o
        exact ⟨d, o⟩
  by_cases hlt : i < xs.length
  · have ex : xs.drop i = xs[i] :: xs.drop (i + 1) := (List.getElem_cons_drop hlt).symm
    rw [ex, forL_cons] at o'
    obtain ⟨d', o2⟩ := dsame o'
    obtain ⟨go, yl⟩ := (it L ρ' h' H2 hr' s'.w d').1 i xs[i] (List.getElem?_eq_getElem hlt)
    refine .inr ⟨go, fun σ'' H'' => ∃ ρ' h' en', HR X.K L ρ' h' H'' ∧ Stp L ρ1 h1 H1 ρ' h' H'' ∧ ER (Pr L ρ' h') ρ' H'' en' σ'' ∧ OutS X.K C L ρ' h' H'' W (forL dep (fun x en => M.bind (ofO (asgT t (.d x) en)) fun en1 => evb en1) (xs.drop (i + 1)) en' h') D,
      fun σ'' H'' q => ⟨xs.length - (i + 1), by omega, rfl, hlt, q⟩, fun v H' yv => ?_⟩
    obtain ⟨hr3, s3, rv⟩ := yl v H' yv
    have o3 := o2.rebase s3
    have o4 : OutS X.K C L ρ' h' H' W (M.bind (ofO (asgT t (.d xs[i]) en')) (fun en1 => M.bind (evb en1) fun
      | .next en' => forL dep (fun x en => M.bind (ofO (asgT t (.d x) en)) fun en1 => evb en1) (xs.drop (i + 1)) en'
      | .ret v => M.pure (.ret v)) h') D := by
      have e : ∀ (q : Option Env) (g : SO → M SO), M.bind (M.bind (ofO q) fun en1 => evb en1) g = M.bind (ofO q) fun en1 => M.bind (evb en1) g := fun q g => by
        cases q <;> rfl
      rw [← e]
      exact o3
    obtain ⟨en1, ea, o5⟩ := OutS.ofO o4
    refine g_ok ea rv (er'.step s3) fun σ1 er1 _ => ⟨L, ρ', h', en1, hr3, er1, ?_⟩
    unfold M.bind at o5
    cases e : evb en1 h' with
    | none => rw [e] at o5; exact o5
    | some q =>
      obtain ⟨r, h4⟩ := q
      rw [e] at o5
      cases r with
      | exc c => exact o5
      | ok x =>
        cases x with
        | next en2 => exact fun ρ4 H4 σ4 hr4 s4 er4 => ⟨ρ4, h4, en2, hr4, (s'.trans s3).trans s4, er4, o5.rebase s4⟩
        | ret v => exact o5
  · have ei : i = xs.length := by omega
    subst ei
    rw [List.drop_length] at o'
    obtain ⟨d', o2⟩ := dsame o'
    exact .inl ⟨(it L ρ' h' H2 hr' s'.w d').2, o2 ρ' H2 σ' hr' .refl er'⟩
theorem s_whl {body : List Stmt} {evt : Env → M Bool} {evb : Env → M SO} {n : Nat} (hp : PassesOwn (model X.prog X.w) X.A X.env X.xe) (hc : PT X c (tT C evt X.K W)) (hb : PSs X body (tS C evb X.K W)) :
    PS X (.While c body [] pos) (tS C (fun en => whlL evt evb n en) X.K W) := by
  refine psi (ps_while hp hc hb) fun D σ H ⟨L, ρ, h, en, hr, er, o⟩ => ?_
  refine ⟨fun m σ' H' => ∃ L ρ' h' en', HR X.K L ρ' h' H' ∧ ER (Pr L ρ' h') ρ' H' en' σ' ∧ OutS X.K C L ρ' h' H' W (whlL evt evb m en' h') D, ⟨n, L, ρ, h, en, hr, er, o⟩, ?_⟩
  rintro m σ' H2 ⟨L, ρ', h', en', hr', er', o'⟩
  cases m with
  | zero => exact False.elim o'
  | succ m =>
    refine ⟨L, ρ', h', en', hr', er', (OutS.split (rel := relB) σ' (show OutS X.K C L ρ' h' H2 W (M.bind (evt en') _ h') D from o')).mono fun b H1 ⟨ρ1, h1, x, hr1, s1, rv1, o1⟩ => ?_⟩
    cases rv1
    cases b with
    | false => exact o1 ρ1 H1 σ' hr1 .refl (er'.step s1)
    | true =>
      refine ⟨fun σ'' H'' => ∃ L ρ' h' en', HR X.K L ρ' h' H'' ∧ ER (Pr L ρ' h') ρ' H'' en' σ'' ∧ OutS X.K C L ρ' h' H'' W (whlL evt evb m en' h') D, fun σ'' H'' q => ⟨m, Nat.lt_succ_self _, q⟩, L, ρ1, h1, en', hr1, er'.step s1, ?_⟩
      have o2 : OutS X.K C L ρ1 h1 H1 W (M.bind (evb en') _ h1) D := o1
      unfold M.bind at o2
      cases e : evb en' h1 with
      | none => rw [e] at o2; exact o2
      | some q =>
        obtain ⟨r, h4⟩ := q
        rw [e] at o2
        cases r with
        | exc c => exact o2
        | ok x =>
          cases x with
          | next en2 => exact fun ρ4 H4 σ4 hr4 s4 er4 => ⟨L, ρ4, h4, en2, hr4, er4, o2.rebase s4⟩
          | ret v => exact o2
end
end Jr

set_option Elab.async false
set_option linter.all false
set_option maxRecDepth 100000
set_option maxHeartbeats 1000000
namespace Jr
open PySem PySem.Spec PyProof.Rows L2
section
variable {X : Cx} {C : Nat → Option Value} {W : WX} {a b c e : Expr} {eva evb evc ev : Env → M Vl} {pos : Pos}
/-! ### a, b = x, y -/
theorem zip_set {P : Addr → Prop} {ρ : List Addr} {H : Hp} {i j : Nat} {x y : Vl} {v w : V} {en : Env} {σ : L2.St} (er : ER P ρ H en σ) (r1 : RV P ρ H x v) (r2 : RV P ρ H y w) :
    ER P ρ H (([i, j].zip [x, y]).foldl (fun en p => en.set p.1 (some p.2)) en) ((σ.set i (some v)).set j (some w)) := (er.set r1).set r2
theorem s_par {i j : Nat} {x y : Str} {evs : Env → M (List Vl)} {px py pt : Pos} {kt k2 pt2} (hc : X.calm = true) (hN : X.N.Nodup) (hi : X.N[i]? = some x) (hj : X.N[j]? = some y) (hij : i ≠ j)
    (hx : X.env.scope.names.lookup x = some .local) (hy : X.env.scope.names.lookup y = some .local) (ha : PA X [a, b] (tEs C evs X.K W))
    (hw : swappedStores [.Tuple [.Name x px, .Name y py] kt pt] (.Tuple [a, b] k2 pt2) X.env = pure (some [x, y])) :
    PS X (.Assign [.Tuple [.Name x px, .Name y py] kt pt] (.Tuple [a, b] k2 pt2) pos) (tS C (fun en => M.bind (evs en) fun vs => if vs.length = [i, j].length ∧ [i, j].all (· < en.length) then M.pure (.next (([i, j].zip vs).foldl (fun en p => en.set p.1 (some p.2)) en)) else fail) X.K W) := by
  refine psi (ps_par hc hN hi hj hij hx hy ha hw) fun D σ H ⟨L, ρ, h, en, hr, er, o⟩ => ?_
  refine ⟨L, ρ, h, en, hr, er, (OutS.split (rel := relVs L) σ o).mono fun vs H1 ⟨ρ1, h1, xs, hr1, s1, rv1, o1⟩ => ?_⟩
  by_cases q : xs.length = [i, j].length ∧ [i, j].all (· < en.length)
  · rw [if_pos q] at o1
    cases rv1 with
    | nil => exact absurd q.1 (by simp)
    | cons r1 rs =>
      cases rs with
      | nil => exact absurd q.1 (by simp)
      | cons r2 rt =>
        cases rt with
        | cons _ _ => exact absurd q.1 (by simp)
        | nil => exact ⟨_, _, rfl, o1 ρ1 H1 _ hr1 .refl (zip_set (er.step s1) r1 r2)⟩
  · rw [if_neg q] at o1; exact False.elim o1
theorem s_par3 {i j l : Nat} {x y z : Str} {evs : Env → M (List Vl)} {px py pz pt : Pos} {kt k2 pt2} (hc : X.calm = true) (hN : X.N.Nodup) (hi : X.N[i]? = some x) (hj : X.N[j]? = some y) (hl : X.N[l]? = some z) (hij : i ≠ j) (hil : i ≠ l) (hjl : j ≠ l)
    (hx : X.env.scope.names.lookup x = some .local) (hy : X.env.scope.names.lookup y = some .local) (hz : X.env.scope.names.lookup z = some .local) (ha : PA X [a, b, c] (tEs C evs X.K W))
    (hw : swappedStores [.Tuple [.Name x px, .Name y py, .Name z pz] kt pt] (.Tuple [a, b, c] k2 pt2) X.env = pure (some [x, y, z])) :
    PS X (.Assign [.Tuple [.Name x px, .Name y py, .Name z pz] kt pt] (.Tuple [a, b, c] k2 pt2) pos) (tS C (fun en => M.bind (evs en) fun vs => if vs.length = [i, j, l].length ∧ [i, j, l].all (· < en.length) then M.pure (.next (([i, j, l].zip vs).foldl (fun en p => en.set p.1 (some p.2)) en)) else fail) X.K W) := by
  refine psi (ps_par3 hc hN hi hj hl hij hil hjl hx hy hz ha hw) fun D σ H ⟨L, ρ, h, en, hr, er, o⟩ => ?_
  refine ⟨L, ρ, h, en, hr, er, (OutS.split (rel := relVs L) σ o).mono fun vs H1 ⟨ρ1, h1, xs, hr1, s1, rv1, o1⟩ => ?_⟩
  by_cases q : xs.length = [i, j, l].length ∧ [i, j, l].all (· < en.length)
  · rw [if_pos q] at o1
    cases rv1 with
    | nil => exact absurd q.1 (by simp)
    | cons r1 rs =>
      cases rs with
      | nil => exact absurd q.1 (by simp)
      | cons r2 rt =>
        cases rt with
        | nil => exact absurd q.1 (by simp)
        | cons r3 ru =>
          cases ru with
          | cons _ _ => exact absurd q.1 (by simp)
          | nil => exact ⟨_, _, _, rfl, o1 ρ1 H1 _ hr1 .refl ((((er.step s1).set r1).set r2).set r3)⟩
  · rw [if_neg q] at o1; exact False.elim o1
/-! ### x += n -/
theorem s_aug {i : Nat} {x : Str} {p : Pos} (hN : X.N.Nodup) (hi : X.N[i]? = some x) (hx : Loc X.env.scope x) (he : PE X e (tE C ev X.K W)) (hf : X.fn x = true ∨ X.env.scope.names.lookup x = some .local) :
    PS X (.AugAssign (.Name x p) .Add e pos) (tS C (augM i ev) X.K W) := by
  refine psi (ps_aug hN hi hx he ip_add hf) fun D σ H ⟨L, ρ, h, en, hr, er, o⟩ => ?_
  unfold augM at o
  cases e1 : en[i]? with
  | none => rw [e1] at o; exact False.elim o
  | some q =>
    rw [e1] at o
    cases q with
    | none => exact False.elim o
    | some v =>
      obtain ⟨u, e2, rv⟩ := er.at_ i v e1
      refine ⟨u, e2, L, ρ, h, en, hr, er, (OutS.split (rel := relV L) σ o).mono fun w H1 ⟨ρ1, h1, y, hr1, s1, rv1, o1⟩ => ?_⟩
      obtain ⟨dx, rfl, rx, o2⟩ := OutS.asD (rv.step s1) o1
      obtain ⟨dy, rfl, ry, o3⟩ := OutS.asD rv1 o2
      obtain ⟨z, ez, o4⟩ := OutS.ofO o3
      cases dx with
      | int i1 =>
        cases dy with
        | int i2 =>
          cases ez
          cases rx
          cases ry
          exact ⟨i1, i2, rfl, rfl, o4 ρ1 H1 _ hr1 .refl ((er.step s1).set (x := .d (.int (i1 + i2))) (RD.int _))⟩
        | _ => cases ez
      | _ => cases ez
/-! ### o[i] = e -/
theorem s_set {i o : Expr} {evo evi : Env → M Vl} {p : Pos} (he : PE X e (tE C ev X.K W)) (ho : PE X o (tE C evo X.K W)) (hi : PE X i (tE C evi X.K W))
    (hs : swapsWithSole [.Subscript o i p] e pos.line X.env = pure false) (hw : swappedStores [.Subscript o i p] e X.env = pure none) (h1 : (assignEach [.Subscript o i p] X.env).map (·.2) = [assign (.Subscript o i p) X.env])
    (ha : ∀ v, assign (.Subscript o i p) X.env v = (do
      let ov ← holding [v] (eval o X.env)
      let iv ← holding [v, ov] (eval i X.env)
      standAt p
      holding [v, ov, iv] (setItem ov iv v)
      release [v, ov, iv] [])) :
    PS X (.Assign [.Subscript o i p] e pos) (tS C (fun en => M.bind (ev en) fun u => M.bind (evo en) fun v => M.bind (evi en) fun w => M.bind (asD w) fun k => M.bind (asD u) fun y => M.bind (setM v k y) fun _ => M.pure (.next en)) X.K W) := by
  refine psi (ps_asg he (pg_sub ho hi set_list ha) hs hw h1) fun D σ H ⟨L, ρ, h, en, hr, er, o⟩ => ?_
  refine ⟨L, ρ, h, en, hr, er, (OutS.split (rel := relV L) σ o).mono fun u H1 ⟨ρ1, h1, x, hr1, s1, rv1, o1⟩ => ?_⟩
  refine ⟨L, ρ1, h1, en, hr1, er.step s1, (OutS.split (rel := relV L) σ o1).mono fun v H2 ⟨ρ2, h2, y, hr2, s2, rv2, o2⟩ => ?_⟩
  refine ⟨L, ρ2, h2, en, hr2, (er.step s1).step s2, (OutS.split (rel := relV L) σ o2).mono fun w H3 ⟨ρ3, h3, z, hr3, s3, rv3, o3⟩ => ?_⟩
  obtain ⟨dk, rfl, rk, o4⟩ := OutS.asD rv3 o3
  obtain ⟨dy, rfl, ry, o5⟩ := OutS.asD ((rv1.step s2).step s3) o4
  have rv := rv2.step s3
  cases y with
  | d _ => exact False.elim o5
  | k _ => exact False.elim o5
  | r n =>
    cases dk with
    | int i =>
      obtain ⟨p, e1, rfl⟩ := rv
      cases rk
      have e0 : setM (.r n) (.int i) dy h3 = (match h3[n]? with
        | some (.lst xs) => (match Jr.ixN xs.length i with
          | some j => some (R.ok (), h3.set n (.lst (xs.set j dy)))
          | none => none)
        | _ => none) := rfl
      unfold M.bind at o5
      rw [e0] at o5
      cases e2 : h3[n]? with
      | none => rw [e2] at o5; exact False.elim o5
      | some cc =>
        rw [e2] at o5
        cases cc with
        | lst xs =>
          dsimp only at o5
          cases e3 : Jr.ixN xs.length i with
          | none => rw [e3] at o5; exact False.elim o5
          | some j =>
            rw [e3] at o5
            dsimp only at o5
            obtain ⟨vs, e4, zz, cc⟩ := hr3.cell n p _ e1 e2
            obtain ⟨hr4, s4⟩ := hr3.cellSet e1 e2 rfl (by rw [List.length_set]; exact zz) (RDs.set ry j cc)
            exact ⟨p, vs, i, j, rfl, rfl, e4, by rw [← cc.length]; exact e3, o5 ρ3 _ σ hr4 s4 ((((er.step s1).step s2).step s3).step s4)⟩
        | _ => exact False.elim o5
    | _ => exact False.elim o5
/-! ### raise, try -/
theorem pmk_0 {Cc : Addr} {bmB : List Value} {B newId initId : String} {x : Str} {p : Pos} (F : ExcBaseFacts B newId initId bmB) (q : PySem.W.excIn X.K Cc bmB newId = true) (gC : X.mg x = some (.ref Cc))
    (kC : PySem.W.keepIn X.K (.ref Cc) = true) (r : Raises X (.ref Cc)) (hg : Gl X x) (hdb : (x == ("__debug__" : Str)) = false) : PMk X (.Call (.Name x p) [] [] pos) (fun _ H Q => Q (.ref Cc) none H) := by
  intro pins s σ H Q I h
  refine wpAny_Call_Name_kw (ld_glob I hg gC ?_ hdb)
  refine PySem.W.callWith_K0 I.kIn kC ?_
  show wpAny _ _ (call (.ref Cc) []) _ _ _
  obtain ⟨bm, N, nm, qn, bs, hdct, sn, sub, ab, col, dd, k0, k1, k2, k3, k5, mN, hC, hN, hni, T⟩ := exc_obj I.kIn q
  refine wpAny_call_exc_subT F T hC hN hni (fun h' e hm => ?_) (by show 0 ≤ sizeLine; exact Nat.zero_le _)
  exact mk_of I hm r h (I.hok.gone hm.new)
theorem s_rse {Cc : Addr} {bmB : List Value} {B newId initId : String} {x : Str} {p p2 : Pos} {n : Nat} (hc : X.calm = true) (tk : Takes X W) (F : ExcBaseFacts B newId initId bmB) (q : PySem.W.excIn X.K Cc bmB newId = true) (gC : X.mg x = some (.ref Cc))
    (kC : PySem.W.keepIn X.K (.ref Cc) = true) (r : Raises X (.ref Cc)) (hg : Gl X x) (hdb : (x == ("__debug__" : Str)) = false) (eC : C n = some (.ref Cc)) :
    PS X (.Raise (some (.Call (.Name x p) [] [] p2)) none pos) (tS C (fun _ => raise n) X.K W) :=
  psi (ps_raise hc tk (pmk_0 F q gC kC r hg hdb)) fun D σ H ⟨L, ρ, h, en, hr, er, o⟩ => o _ eC ρ H σ none hr .refl
def hdl (C : Nat → Option Value) (hs : List (Nat × Str)) : List (Value × (Addr → Value → Option Addr → TS)) := hs.map fun p => ((C p.1).getD .none, fun _ _ _ => tRet (tC (.str p.2)))
theorem s_try {body : List Stmt} {h₀ : ExceptHandler} {hds : List ExceptHandler} {hs : List (Nat × Str)} {evb : Env → M SO} (hst : X.stack = X.env :: X.outer) (hf : X.env.frame = some X.env.locals) (tk : Takes X W)
    (hb : ∀ (W' : WX) (pn : List (Addr × Obj)) (xe : Value → Shared → Prop), Takes (X.tr pn xe) W' → PassesOwn (model X.prog X.w) X.A X.env xe → PSs (X.tr pn xe) body (tS C evb X.K W'))
    (hh : HdsOk X (h₀ :: hds) (hdl C hs)) (hx : ∀ c v p, C c = some v → p ∈ hs → PySem.W.exmOne X.K v ((C p.1).getD .none) = some (p.1 == c)) (hok : ∀ p ∈ hs, okS p.2 = true) :
    PS X (.Try body (h₀ :: hds) [] [] pos) (tS C (fun en => tryM hs (evb en)) X.K W) := by
  refine psi (ps_try_many hst hf tk hb hh) fun D σ H ⟨L, ρ, h, en, hr, er, o⟩ => ⟨L, ρ, h, en, hr, er, ?_⟩
  unfold tryM at o
  dsimp only at o
  cases e : evb en h with
  | none => rw [e] at o; exact o
  | some p =>
    obtain ⟨r, h1⟩ := p
    rw [e] at o
    cases r with
    | ok x =>
      cases x with
      | next en' => exact o
      | ret v => exact o
    | exc c =>
      dsimp only at o
      intro cv hc ρ' H' σ' d hr' s'
      have main : ∀ (l : List (Nat × Str)), (∀ p ∈ l, p ∈ hs) → OutS X.K C L ρ h H W (match l.find? (fun p => p.1 == c) with
          | some p => some (.ok (.ret (.d (.str p.2))), h1)
          | none => some (.exc c, h1)) D → wMany X.K W D (hdl C l) cv d σ' H' := fun l => by
        induction l with
        | nil => intro _ o; exact o cv hc ρ' H' σ' d hr' s'
        | cons p l ih =>
          intro hl o
          have hp := hl p List.mem_cons_self
          refine ⟨p.1 == c, hx c cv p hc hp, fun eb a na => ?_, fun eb => ?_⟩
          · rw [List.find?_cons, eb] at o
            exact o ρ' H' (.str p.2) hr' s' (RD.str _ (hok p hp))
          · rw [List.find?_cons, eb] at o
            exact ih (fun q hq => hl q (List.mem_cons_of_mem _ hq)) o
      exact main hs (fun _ h => h) o
/-! ### a list is mine no more -/
theorem ss_frz {i : Nat} {rest : List Stmt} {evb : Env → M SO} (hb : PSs X rest (tS C evb X.K W)) : PSs X rest (tS C (fun en => M.bind (frzM i en) fun
    | .next en' => evb en'
    | .ret v => M.pure (.ret v)) X.K W) := pssi hb fun D σ H ⟨L, ρ, h, en, hr, er, o⟩ => by
  unfold M.bind frzM at o
  dsimp only at o
  cases e1 : en[i]? with
  | none => rw [e1] at o; exact False.elim o
  | some q =>
    rw [e1] at o
    cases q with
    | none => exact False.elim o
    | some v =>
      cases v with
      | d _ => exact False.elim o
      | k _ => exact False.elim o
      | r n =>
        dsimp only at o
        cases e2 : h[n]? with
        | none => rw [e2] at o; exact False.elim o
        | some c =>
          rw [e2] at o
          cases c with
          | lst xs =>
            obtain ⟨w, e3, p, e4, rfl⟩ := er.at_ i _ e1
            obtain ⟨vs, e5, z, c⟩ := hr.cell n p _ e4 e2
            obtain ⟨hr1, s1⟩ := hr.cellDead n
            have np : ¬ Pr L ρ (h.set n .dead) p := by
              rintro (l | ⟨j, c', f1, f2, f3⟩)
              · exact hr.dis n p _ e4 e2 rfl l
              · by_cases hj : n = j
                · subst hj
                  rw [List.getElem?_set] at f2
                  split at f2
                  · split at f2
                    · cases f2; cases f3
                    · cases f2
                  · rename_i q; exact q rfl
                · rw [List.getElem?_set_ne hj] at f2
                  exact hj (hr.nd n j p _ _ e4 f1 e2 f2 rfl f3)
            have er1 := er.step s1
            refine ⟨L, ρ, h.set n .dead, en.set i (some (.d (.list xs))), hr1, ⟨by rw [List.length_set]; exact er1.len, fun j x e => ?_⟩, o.rebase s1⟩
            by_cases hij : i = j
            · subst hij
              rw [List.getElem?_set] at e
              split at e
              · split at e
                · cases e
                  exact ⟨_, e3, RD.lst np e5 z (RDs.gr s1.gr _ _ c)⟩
                · cases e
              · rename_i q; exact absurd rfl q
            · rw [List.getElem?_set_ne hij] at e
              exact er1.at_ j x e
          | _ => exact False.elim o
end
/-! ### a def -/
theorem ok_def {P : Program} {w : World} {K : PySem.W.Frag} {mg : Str → Option Value} {base : Heap} {C : Nat → Option Value} {x qual : Str} {st : Stmt} {f : Addr} {fd : FuncData} {N ps : List Str} {k : Nat} {evb : Env → M SO}
    (F : Fun K x qual st f fd) (S : FnScope N ps (defScope st))
    (hbody : ∀ (X : Cx), X.prog = P → X.w = w → X.K = K → X.mg = mg → X.base = base → X.N = N → X.env.scope = defScope st → X.calm = true → (∀ y, X.fn y = true) → X.stack = X.env :: X.outer → X.env.frame = some X.env.locals → Room k X.A → PassesOwn (model X.prog X.w) X.A X.env X.xe → ∀ W, Takes X W → PSs X (defBody st) (tS C evb X.K W)) :
    FnOk P w K mg base (L2.CX P w) (k + 1) f fd ps (spM C K fun vs => if vs.length = ps.length then fun h => shut h.length (evb (vs.map some ++ List.replicate (N.length - ps.length) none)) h else fail) := by
  refine F.okX S (fun vs H Q E h => ?_) (fun cdv A outer s H vs Q E hr h => ?_)
  · obtain ⟨L, ρ, hh, xs, hr, rv, o⟩ := h
    rw [← rv.length]
    exact (Out.ite o).1
  · obtain ⟨L, ρ, hh, xs, hrr, rv, o⟩ := h
    obtain ⟨hl, o1⟩ := Out.ite o
    refine ⟨_, hbody _ rfl rfl rfl rfl rfl rfl rfl rfl (fun _ => rfl) rfl rfl hr (passes_of rfl) _ (takes_of rfl rfl rfl rfl), L, ρ, hh, xs.map some ++ List.replicate (N.length - ps.length) none, hrr, ⟨?_, fun i v e => ?_⟩, ?_⟩
    · unfold L2.start
      rw [List.length_append, List.length_append, List.length_map, List.length_map, List.length_replicate, List.length_replicate, rv.length, ← hl, rv.length]
    · have get : ∀ {xs : List Vl} {vs : List V} {i : Nat} {v : Vl}, RVs (Pr L ρ hh) ρ H xs vs → xs[i]? = some v → ∃ u, vs[i]? = some u ∧ RV (Pr L ρ hh) ρ H v u := fun {xs} => by
        induction xs with
        | nil => intro vs i v r e; cases e
        | cons x xs ih =>
          intro vs i v r e
          cases r with
          | cons a b =>
            cases i with
            | zero => cases e; exact ⟨_, rfl, a⟩
            | succ i =>
              obtain ⟨u, e1, r1⟩ := ih b (by simpa using e)
              exact ⟨u, by simpa using e1, r1⟩
      rcases Nat.lt_or_ge i xs.length with q | q
      · rw [List.getElem?_append_left (by simpa using q), List.getElem?_map] at e
        cases e1 : xs[i]? with
        | none => rw [e1] at e; cases e
        | some y =>
          rw [e1] at e
          cases e
          obtain ⟨u, e2, r⟩ := get rv e1
          refine ⟨u, ?_, r⟩
          unfold L2.start
          rw [List.getElem?_append_left (by rw [List.length_map, ← rv.length]; exact q), List.getElem?_map, e2]
          rfl
      · rw [List.getElem?_append_right (by simpa using q), List.getElem?_replicate] at e
        split at e <;> cases e
    · unfold shut at o1
      cases eb : evb (xs.map some ++ List.replicate (N.length - ps.length) none) hh with
      | none => rw [eb] at o1; exact o1
      | some p =>
        obtain ⟨r, h1⟩ := p
        rw [eb] at o1
        have tr : ∀ {ρ1 H1}, HR K L ρ1 h1 H1 → Stp L ρ hh H ρ1 h1 H1 → HR K L (ρ1.take hh.length) (h1.take hh.length) H1 ∧ Stp L ρ hh H (ρ1.take hh.length) (h1.take hh.length) H1 ∧ Gr (Pr L ρ1 h1) H1 (Pr L (ρ1.take hh.length) (h1.take hh.length)) H1 := fun hr1 s1 => hrr.trunc hr1 s1
        cases r with
        | exc c =>
          intro cv hcv ρ1 H1 σ1 d hr1 s1
          obtain ⟨hr2, s2, _⟩ := tr hr1 s1
          exact o1 cv hcv _ H1 d hr2 s2
        | ok q =>
          cases q with
          | next en =>
            intro ρ1 H1 σ1 hr1 s1 er1
            obtain ⟨hr2, s2, _⟩ := tr hr1 s1
            exact o1 _ H1 .non hr2 s2 RD.non
          | ret v =>
            intro ρ1 H1 u hr1 s1 rv1
            obtain ⟨hr2, s2, g2⟩ := tr hr1 s1
            cases v with
            | d v => exact o1 _ H1 u hr2 s2 (RD.gr g2 _ _ rv1)
            | k v =>
              obtain ⟨p, ws, np, e, e1, c⟩ := rv1
              exact o1 _ H1 u hr2 s2 ⟨p, ws, (g2 _ _ e1 np).2, e, e1, RKs.gr g2 _ _ c⟩
            | r n =>
              dsimp only at o1
              by_cases hn : n < hh.length
              · rw [if_pos hn] at o1
                obtain ⟨a, e1, e2⟩ := rv1
                exact o1 _ H1 u hr2 s2 ⟨a, by rw [List.getElem?_take, if_pos hn]; exact e1, e2⟩
              · rw [if_neg hn] at o1; exact False.elim o1
end Jr

set_option Elab.async false
set_option linter.all false
set_option maxRecDepth 100000
set_option maxHeartbeats 2000000
namespace Jr
open PySem PySem.Spec PyProof.Rows L2
/-! ### code against the row's own text -/
structure Tab where
  fn : Nat → Option Def
  pres : List Nat
  ex : List (Nat × Str)
def visB (sc : Scope) (x : Str) : Bool := match sc.names.lookup x with
  | some .local => true
  | some .cell => true
  | some .free => true
  | _ => false
def locB (sc : Scope) (x : Str) : Bool := match sc.names.lookup x with
  | some .local => true
  | some .cell => true
  | _ => false
def isLocal (sc : Scope) (x : Str) : Bool := match sc.names.lookup x with
  | some .local => true
  | _ => false
def gloB (sc : Scope) (x : Str) : Bool := match sc.names.lookup x with
  | some .globalImplicit => true
  | _ => false
def nmOk (x : Str) : Bool := decide (x ≠ Str.ofString "__debug__") && decide (x ≠ Str.ofString "__classdict__")
def notStar : Expr → Bool
  | .Starred .. => false
  | _ => true
def notSet : Expr → Bool
  | .Set .. => false
  | _ => true
def notSlice : Expr → Bool
  | .Slice .. => false
  | _ => true
def tOK : Expr → Bool
  | .IfExp .. => false
  | _ => true
def notComp : Expr → Bool
  | .ListComp .. => false
  | .SetComp .. => false
  | .DictComp .. => false
  | _ => true
def baseOk : Expr → Bool
  | .Name .. => true
  | .Constant .. => true
  | .Attribute .. => true
  | _ => false
def isTup : Expr → Bool
  | .Tuple .. => true
  | _ => false
/-- the built-ins' names -/
def bltName : Blt → String
  | .len => "len"
  | .abs => "abs"
  | .max1 => "max"
  | .max2 => "max"
  | .min1 => "min"
  | .min2 => "min"
  | .sum => "sum"
  | .all => "all"
  | .any => "any"
  | .int => "int"
  | .str => "str"
def names0 : List String := ["len", "abs", "max", "min", "sum", "all", "any", "int", "str", "isinstance", "tuple", "list", "bool", "range", "zip", "enumerate", "sorted", "set", "dict"]
def ownS (N : List Str) (own : List Nat) : List (Str × Nat) := own.map fun i => (N.getD i Str.empty, i)
section
variable (T : Tab) (N : List Str)
def mNm (sc : Scope) (i : Nat) (x : Str) : Bool := decide (N[i]? = some x) && locB sc x
def mNms (sc : Scope) : List Nat → List Expr → Bool
  | [], [] => true
  | i :: is, .Name x _ :: xs => mNm N sc i x && mNms sc is xs
  | _, _ => false
def mTg (sc : Scope) : Tg → Expr → Bool
  | .nm i, .Name x _ => mNm N sc i x
  | .tp is, .Tuple xs _ _ => mNms N sc is xs
  | _, _ => false
/-- a call of the built-in x -/
def isG (sc : Scope) (x : String) (y : Str) : Bool := decide (y = Str.ofString x) && gloB sc y
mutual
def mE (sc : Scope) : E → Expr → Bool
  | .var i, x => (match x with
    | .Name y _ => decide (N[i]? = some y) && visB sc y && nmOk y
    | _ => false)
  | .non, x => (match x with
    | .Constant .none _ _ => true
    | _ => false)
  | .bl b, x => (match x with
    | .Constant (.bool c) _ _ => b == c
    | _ => false)
  | .int i, x => (match x with
    | .Constant (.int j) _ _ => decide (i = j)
    | _ => false)
  | .str s, x => (match x with
    | .Constant (.str t) _ _ => decide (s = t)
    | _ => false)
  | .tup es, x => (match x with
    | .Tuple xs _ _ => mEs sc es xs
    | _ => false)
  | .op o a b, x => (match x with
    | .BinOp y p z _ => decide (opOf o = p) && mE sc a y && mE sc b z
    | _ => false)
  | .neg a, x => (match x with
    | .UnaryOp .USub y _ => mE sc a y
    | _ => false)
  | .nt a, x => (match x with
    | .UnaryOp .Not y _ => tOK y && mE sc a y
    | _ => false)
  | .and es, x => (match x with
    | .BoolOp .And (y :: ys) _ => mEs sc es (y :: ys) && (y :: ys).all tOK
    | _ => false)
  | .or es, x => (match x with
    | .BoolOp .Or (y :: ys) _ => mEs sc es (y :: ys) && (y :: ys).all tOK
    | _ => false)
  | .cmp o a b, x => (match x with
    | .Compare y [p] [z] _ => decide (cmpOf o = p) && notSet z && mE sc a y && mE sc b z
    | _ => false)
  | .chn o o' a b c, x => (match x with
    | .Compare y [p, q] [z, w] _ => decide (cmpOf o = p) && decide (cmpOf o' = q) && notSet w && mE sc a y && mE sc b z && mE sc c w
    | _ => false)
  | .ite c a b, x => (match x with
    | .IfExp y z w _ => tOK y && mE sc c y && mE sc a z && mE sc b w
    | _ => false)
  | .ix a b, x => (match x with
    | .Subscript y z _ => notSlice z && mE sc a y && mE sc b z
    | _ => false)
  | .slT a hi, x => (match x with
    | .Subscript y (.Slice none (some z) none _) _ => mE sc a y && mE sc hi z
    | _ => false)
  | .slF a lo, x => (match x with
    | .Subscript y (.Slice (some z) none none _) _ => mE sc a y && mE sc lo z
    | _ => false)
  | .slA a lo hi, x => (match x with
    | .Subscript y (.Slice (some z) (some w) none _) _ => mE sc a y && mE sc lo z && mE sc hi w
    | _ => false)
  | .rev a, x => (match x with
    | .Subscript y (.Slice none none (some (.UnaryOp .USub (.Constant (.int 1) _ _) _)) _) _ => mE sc a y
    | _ => false)
  | .call f es, x => (match x with
    | .Call (.Name y _) (z :: zs) [] _ => (match T.fn f with
      | some d => decide (d.name = y) && T.pres.contains f && gloB sc y && nmOk y && mEs sc es (z :: zs)
      | none => false)
    | _ => false)
  | .blt f es, x => (match x with
    | .Call (.Name y _) (z :: zs) [] _ => isG sc (bltName f) y && mEs sc es (z :: zs)
    | _ => false)
  | .isi a t, x => (match x with
    | .Call (.Name y _) [z, .Name w _] [] _ => isG sc "isinstance" y && isG sc (tyName t) w && notStar z && mE sc a z
    | _ => false)
  | .toT a, x => (match x with
    | .Call (.Name y _) [z] [] _ => isG sc "tuple" y && notStar z && mE sc a z
    | _ => false)
  | .app o a, x => (match x with
    | .Call (.Attribute y m p) [z] [] q => decide (m = Str.ofString "append") && decide (p.endLine = q.line) && baseOk y && notStar z && mE sc o y && mE sc a z
    | _ => false)
  | .pop o a, x => (match x with
    | .Call (.Attribute y m p) [z] [] q => decide (m = Str.ofString "pop") && decide (p.endLine = q.line) && baseOk y && notStar z && mE sc o y && mE sc a z
    | _ => false)
  | .popE o, x => (match x with
    | .Call (.Attribute y m p) [] [] q => decide (m = Str.ofString "pop") && decide (p.endLine = q.line) && baseOk y && mE sc o y
    | _ => false)
  | .cnt _ _, _ => false
  | .idx _ _, _ => false
  | .new a, x => mF sc a x
  | .box a, x => mF sc a x
def mF (sc : Scope) : F → Expr → Bool
  | .lst es, x => (match x with
    | .List xs _ => mEs sc es xs
    | _ => false)
  | .cat a b, x => (match x with
    | .BinOp y .Add z _ => mE sc a y && mE sc b z
    | _ => false)
  | .rep a b, x => (match x with
    | .BinOp y .Mult z _ => mE sc a y && mE sc b z
    | _ => false)
  | .slT a hi, x => (match x with
    | .Subscript y (.Slice none (some z) none _) _ => mE sc a y && mE sc hi z
    | _ => false)
  | .slF a lo, x => (match x with
    | .Subscript y (.Slice (some z) none none _) _ => mE sc a y && mE sc lo z
    | _ => false)
  | .rev a, x => (match x with
    | .Subscript y (.Slice none none (some (.UnaryOp .USub (.Constant (.int 1) _ _) _)) _) _ => mE sc a y
    | _ => false)
  | .toL a, x => (match x with
    | .Call (.Name y _) [z] [] _ => isG sc "list" y && notStar z && mE sc a z
    | _ => false)
  | .srt a, x => (match x with
    | .Call (.Name y _) [z] [] _ => isG sc "sorted" y && notStar z && mE sc a z
    | _ => false)
  | .cmp e t own it c, x => (match x with
    | .ListComp elt [⟨tg, iter, ifs, 0⟩] scope _ => blkC N sc scope (ownS N own) && tgIn t own && mTg N scope t tg && mI sc it tg iter && mE (relS scope sc) e elt && (match ifs with
      | [] => (match c with
        | .bl true => true
        | _ => false)
      | [z] => tOK z && mE (relS scope sc) c z
      | _ => false)
    | _ => false)
def mEs (sc : Scope) : Es → List Expr → Bool
  | .nil, [] => true
  | .cons e es, x :: xs => notStar x && mE sc e x && mEs sc es xs
  | _, _ => false
def mI (sc : Scope) : It → Expr → Expr → Bool
  | .ex e, _, x => notSet x && mE sc e x
  | .r1 a, _, x => (match x with
    | .Call (.Name y _) [z] [] _ => isG sc "range" y && notStar z && mE sc a z
    | _ => false)
  | .r2 a b, _, x => (match x with
    | .Call (.Name y _) [z, w] [] _ => isG sc "range" y && notStar z && notStar w && mE sc a z && mE sc b w
    | _ => false)
  | .z2 a b, tg, x => (match x with
    | .Call (.Name y _) [z, w] [] _ => isG sc "zip" y && notStar z && notStar w && isTup tg && mE sc a z && mE sc b w
    | _ => false)
  | .en a, tg, x => (match x with
    | .Call (.Name y _) [z] [] _ => isG sc "enumerate" y && notStar z && isTup tg && mE sc a z
    | _ => false)
end
end
/-! ### small facts of the text -/
theorem star1 {e : Expr} {es : List Expr} {env : PySem.Env} (h : notStar e = true) : starEach (e :: es) env = (false, eval e env) :: starEach es env := by
  cases e <;> first | rfl | (exact absurd h (by decide)) | (simp [notStar] at h)
theorem star_any {env : PySem.Env} {pos : Pos} : ∀ {es : List Expr}, es.all notStar = true → (backTo pos (starEach es env)).any (·.1) = false
  | [], _ => rfl
  | e :: es, h => by
    rw [List.all_cons, Bool.and_eq_true] at h
    rw [star1 h.1]
    show (false || (backTo pos (starEach es env)).any (·.1)) = false
    rw [star_any h.2]
    rfl
theorem noBehind {op : CmpOp} {e : Expr} (h : notSet e = true) : behindInMarks op e = false := by
  cases e <;> first | rfl | (simp [notSet] at h)
theorem noLast {o p : CmpOp} {b c : Expr} (h : notSet c = true) : lastMarks [o, p] [b, c] = false := by
  show behindInMarks p c = false
  exact noBehind h
theorem plainIx {e : Expr} (h : notSlice e = true) : PlainIx e := by
  cases e <;> first | exact fun _ _ => rfl | (simp [notSlice] at h)
theorem noFold {e : Expr} {env : PySem.Env} (h : notSet e = true) : ∀ x, foldedSetIterable e env x = pure x := by
  cases e <;> first | exact fun _ => rfl | (simp [notSet] at h)
theorem baseOk_eq {e : Expr} {m : Str} {env : PySem.Env} {t : Sem Value} (h : baseOk e = true) : attributeBase e m env t = t := by
  cases e <;> first | rfl | (simp [baseOk] at h)
theorem vis_of {sc : Scope} {x : Str} (h : visB sc x = true) : Vis sc x := by
  unfold visB at h
  unfold Vis
  split at h <;> first | (rename_i e; rw [e]; simp; done) | cases h
theorem loc_of {sc : Scope} {x : Str} (h : locB sc x = true) : L2.Loc sc x := by
  unfold locB at h
  unfold L2.Loc
  split at h <;> first | (rename_i e; rw [e]; simp; done) | cases h
theorem local_of {sc : Scope} {x : Str} (h : isLocal sc x = true) : sc.names.lookup x = some .local := by
  unfold isLocal at h
  split at h <;> first | (rename_i e; exact e) | cases h
theorem glo_of {X : Cx} {sc : Scope} {x : Str} (e : X.env.scope = sc) (h : gloB sc x = true) : Gl X x := by
  unfold gloB at h
  split at h <;> first | (rename_i q; show X.env.scope.names.lookup x = _; rw [e]; exact q) | cases h
theorem nm_of {x : Str} (h : nmOk x = true) : (x == ("__debug__" : Str)) = false ∧ (x == ("__classdict__" : Str)) = false := by
  unfold nmOk at h
  rw [Bool.and_eq_true, decide_eq_true_eq, decide_eq_true_eq] at h
  exact ⟨beq_eq_false_iff_ne.mpr h.1, beq_eq_false_iff_ne.mpr h.2⟩
theorem ba {a b : Bool} (h : (a && b) = true) : a = true ∧ b = true := Bool.and_eq_true_iff.mp h
/-! ### the context of the induction -/
structure ECx (C : Nat → Option Value) (T : Tab) (k : Nat) (cf : CF) (N : List Str) (sc : Scope) (X : Cx) (W : WX) : Prop where
  calm : X.calm = true
  n : X.N = N
  nd : N.Nodup
  hsc : X.env.scope = sc
  room : Room k X.A
  tk : Takes X W
  blt : ∀ x ∈ names0, X.mg (Str.ofString x) = none
  funs : ∀ f d, T.fn f = some d → f ∈ T.pres → ∃ a fd, X.mg d.name = some (.ref a) ∧ PySem.W.keepIn X.K (.ref a) = true ∧ Binds X.K fd (d.N.take d.np) [] ∧ FnOk X.prog X.w X.K X.mg X.base (L2.CX X.prog X.w) k a fd (d.N.take d.np) (spM C X.K (cf f))
theorem ECx.blk {C : Nat → Option Value} {T : Tab} {k : Nat} {cf : CF} {N : List Str} {sc : Scope} {X : Cx} {W : WX} (c : ECx C T k cf N sc X W) (scope : Scope) (s : Shared) (H : Hp) (Cc : Addr) (cl : List (Str × Addr)) (fp : List Addr) :
    ECx C T k cf N (relS scope sc) (X.blk s H scope (compEnvC scope cl Cc X.env) fp) W0 := by
  have es : (compEnvC scope cl Cc X.env).scope = relS scope sc := by
    rw [← c.hsc]
    rfl
  refine ⟨c.calm, c.n, c.nd, es, c.room, fun _ _ x => ?_, c.blt, c.funs⟩
  obtain ⟨_, _, _, _, _, _, _, _, _, _, _, _, _, _, _, _, z⟩ := x
  exact z.elim
/-- what a target's name asks -/
def TgOk (X : Cx) (i : Nat) (x : Str) : Prop := X.N[i]? = some x ∧ L2.Loc X.env.scope x ∧ (X.fn x = true ∨ X.env.scope.names.lookup x = some .local)
def TgsOk (X : Cx) : List Nat → List Expr → Prop
  | [], [] => True
  | i :: is, .Name x _ :: xs => TgOk X i x ∧ TgsOk X is xs
  | _, _ => False
theorem tgs_of {X : Cx} {N : List Str} {sc : Scope} (h : ∀ i x, mNm N sc i x = true → TgOk X i x) : ∀ is xs, mNms N sc is xs = true → TgsOk X is xs
  | [], [], _ => trivial
  | [], _ :: _, q => by simp [mNms] at q
  | i :: is, [], q => by simp [mNms] at q
  | i :: is, x :: xs, q => by
    cases x with
    | Name x p =>
      have q : (mNm N sc i x && mNms N sc is xs) = true := q
      exact ⟨h _ _ (ba q).1, tgs_of h is xs (ba q).2⟩
    | _ => simp [mNms] at q
theorem pgs_of {X : Cx} (nd : X.N.Nodup) : ∀ is xs, TgsOk X is xs → PGs X xs (gNms is) ∧ (assignEach xs X.env).length = is.length ∧ (assignEach xs X.env).findIdx? (·.1) = none
  | [], [], _ => ⟨pgs_nil, rfl, rfl⟩
  | [], _ :: _, q => q.elim
  | _ :: _, [], q => q.elim
  | i :: is, x :: xs, q => by
    cases x with
    | Name x p =>
      obtain ⟨⟨h1, h2, h3⟩, q2⟩ := (show TgOk X i x ∧ TgsOk X is xs from q)
      obtain ⟨p1, p2, p3⟩ := pgs_of nd is xs q2
      refine ⟨pgs_cons (pg_name nd h1 h2 h3) p1 rfl, ?_, ?_⟩
      · show (assignEach xs X.env).length + 1 = is.length + 1
        rw [p2]
      · show ((false, assign (.Name x p) X.env) :: assignEach xs X.env).findIdx? (·.1) = none
        rw [List.findIdx?_cons, if_neg (fun z => Bool.noConfusion z), p3]
        rfl
    | _ => exact (show False from q).elim
theorem pg_of {X : Cx} {N : List Str} {sc : Scope} {t : Tg} {tg : Expr} (hc : X.calm = true) (nd : X.N.Nodup) (h : ∀ i x, mNm N sc i x = true → TgOk X i x) (m : mTg N sc t tg = true) : PG X tg (gOf X.K t) := by
  cases t with
  | nm i =>
    cases tg with
    | Name x p =>
      obtain ⟨h1, h2, h3⟩ := h i x m
      exact pg_name nd h1 h2 h3
    | _ => simp [mTg] at m
  | tp is =>
    cases tg with
    | Tuple xs k p =>
      obtain ⟨p1, p2, p3⟩ := pgs_of nd is xs (tgs_of h is xs m)
      exact pg_tup hc p1 p2 p3
    | _ => simp [mTg] at m
theorem tg_blk {N : List Str} {scope sc : Scope} {X : Cx} (n : X.N = N) (hsc : X.env.scope = sc) (s : Shared) (H : Hp) (Cc : Addr) (cl : List (Str × Addr)) (fp : List Addr) (i : Nat) (x : Str) (m : mNm N scope i x = true) : TgOk (X.blk s H scope (compEnvC scope cl Cc X.env) fp) i x := by
  unfold mNm at m
  obtain ⟨h1, h2⟩ := ba m
  have h1 := of_decide_eq_true h1
  have es : (compEnvC scope cl Cc X.env).scope = relS scope sc := by
    rw [← hsc]
    rfl
  have keep : ∀ {k : NameKind}, k ≠ .free → scope.names.lookup x = some k → (relS scope sc).names.lookup x = some k := fun {k} hk e => lookup_relS_keep hk e
  refine ⟨by rw [← n] at h1; exact h1, ?_, ?_⟩
  · show L2.Loc (compEnvC scope cl Cc X.env).scope x
    rw [es]
    rcases loc_of h2 with l | l
    · exact .inl (keep (by decide) l)
    · exact .inr (keep (by decide) l)
  · show (scope.names.lookup x == some .cell) = true ∨ (compEnvC scope cl Cc X.env).scope.names.lookup x = some .local
    rw [es]
    rcases loc_of h2 with l | l
    · exact .inr (keep (by decide) l)
    · left; rw [l]; rfl
end Jr

set_option Elab.async false
set_option linter.all false
set_option maxRecDepth 100000
set_option maxHeartbeats 2000000
namespace Jr
open PySem PySem.Spec PyProof.Rows L2
theorem tt_not (m : M Vl) : tt (M.bind (tt m) fun b => pD (.bool !b)) = M.bind (tt m) fun b => M.pure (!b) := by
  funext h
  show M.bind (M.bind (tt m) fun b => pD (.bool !b)) _ h = _
  unfold M.bind
  cases e : tt m h with
  | none => rfl
  | some p =>
    obtain ⟨r, h1⟩ := p
    cases r <;> rfl
theorem tt_ok {v : Vl} {h : Hh} {d : D} {k : Bool} (e : Jr.rd v h = some (.ok d, h)) (t : truth d = some k) : tt (M.pure v) h = some (.ok k, h) := by
  show M.bind (Jr.rd v) (fun d => Jr.ofO (truth d)) h = _
  unfold M.bind
  rw [e]
  show Jr.ofO (truth d) h = _
  rw [t]
  rfl
theorem rd_cases (v : Vl) (h : Hh) : Jr.rd v h = none ∨ ∃ d, Jr.rd v h = some (.ok d, h) := by
  cases v with
  | d x => exact .inr ⟨x, rfl⟩
  | k _ => exact .inl rfl
  | r n =>
    show (h[n]?.bind rdC).map _ = none ∨ _
    cases e : h[n]?.bind rdC with
    | none => exact .inl rfl
    | some d => exact .inr ⟨d, by show (h[n]?.bind rdC).map _ = _; rw [e]; rfl⟩
theorem tt_andor (m rest : M Vl) (g : Bool → Bool) (q : Bool) (hg : ∀ k, g k = false → k = q) :
    tt (M.bind m fun v => M.bind (Jr.rd v) fun x => M.bind (ofO (truth x)) fun k => if g k then rest else M.pure v) = M.bind (tt m) fun k => if g k then tt rest else M.pure q := by
  funext h
  show M.bind (M.bind m _) _ h = M.bind (M.bind m _) _ h
  unfold M.bind
  cases e : m h with
  | none => rfl
  | some p =>
    obtain ⟨r, h1⟩ := p
    cases r with
    | exc c => rfl
    | ok v =>
      dsimp only
      rcases rd_cases v h1 with e1 | ⟨d, e1⟩
      · rw [e1]
      · rw [e1]
        dsimp only
        cases e2 : truth d with
        | none => rfl
        | some k =>
          dsimp only [ofO, M.pure]
          cases e3 : g k with
          | true => rfl
          | false =>
            have e4 := hg k e3
            subst e4
            exact tt_ok e1 e2
theorem tt_and (m rest : M Vl) : tt (M.bind m fun v => M.bind (Jr.rd v) fun x => M.bind (ofO (truth x)) fun k => if k then rest else M.pure v) = M.bind (tt m) fun k => if k then tt rest else M.pure false :=
  tt_andor m rest id false fun _ h => h
theorem tt_or (m rest : M Vl) : tt (M.bind m fun v => M.bind (Jr.rd v) fun x => M.bind (ofO (truth x)) fun k => if k then M.pure v else rest) = M.bind (tt m) fun k => if k then M.pure true else tt rest := by
  have := tt_andor m rest (!·) true fun k h => by cases k <;> first | rfl | cases h
  rw [show (fun v => M.bind (Jr.rd v) fun x => M.bind (ofO (truth x)) fun k => if k then M.pure v else rest) = fun v => M.bind (Jr.rd v) fun x => M.bind (ofO (truth x)) fun k => if (!k) = true then rest else M.pure v from by
    funext v; congr 1; funext x; congr 1; funext k; cases k <;> rfl, this]
  congr 1
  funext k
  cases k <;> rfl
section
variable {C : Nat → Option Value} {T : Tab} {k : Nat} {cf : CF} {N : List Str}
theorem ECx.g {sc : Scope} {X : Cx} {W : WX} (c : ECx C T k cf N sc X W) {x : String} {y : Str} (m : isG sc x y = true) (hx : x ∈ names0) : y = Str.ofString x ∧ Gl X (Str.ofString x) ∧ X.mg (Str.ofString x) = none := by
  obtain ⟨h1, h2⟩ := ba m
  have h1 := of_decide_eq_true h1
  subst h1
  exact ⟨rfl, glo_of c.hsc h2, c.blt x hx⟩
theorem mEs_star {T : Tab} {N : List Str} {sc : Scope} : ∀ (es : Es) (xs : List Expr), mEs T N sc es xs = true → xs.all notStar = true
  | .nil, [], _ => rfl
  | .nil, _ :: _, h => by simp [mEs] at h
  | .cons e es, [], h => by simp [mEs] at h
  | .cons e es, x :: xs, h => by
    unfold mEs at h
    obtain ⟨h, h2⟩ := ba h
    rw [List.all_cons, (ba h).1, mEs_star es xs h2]
    rfl
theorem c_blt {X : Cx} {W : WX} {es : List Expr} {e : Expr} {p pos : Pos} {sc : Scope} {evs : Env → M (List Vl)} (c : ECx C T k cf N sc X W) (f : Blt) {y : Str} (m : isG sc (bltName f) y = true) (ha : PA X (e :: es) (tEs C evs X.K W))
    (he : starEach (e :: es) X.env = (false, eval e X.env) :: starEach es X.env) (hpl : (backTo pos (starEach es X.env)).any (·.1) = false) :
    PE X (.Call (.Name y p) (e :: es) [] pos) (tE C (fun en => M.bind (evs en) fun vs => M.bind (Jr.rds vs) fun xs => pO (bltV f xs)) X.K W) := by
  obtain ⟨rfl, hg, hm⟩ := c.g m (by cases f <;> decide)
  refine pei ?_ t_blt
  cases f with
  | len => exact pe_callB cr_len hg hm rfl ha (by decide) (by decide) he hpl
  | abs => exact pe_callB cr_abs hg hm rfl ha (by decide) (by decide) he hpl
  | max1 => exact pe_callB (cr_max1 c.calm) hg hm rfl ha (by decide) (by decide) he hpl
  | max2 => exact pe_callB (cr_max2 c.calm) hg hm rfl ha (by decide) (by decide) he hpl
  | min1 => exact pe_callB (cr_min1 c.calm) hg hm rfl ha (by decide) (by decide) he hpl
  | min2 => exact pe_callB (cr_min2 c.calm) hg hm rfl ha (by decide) (by decide) he hpl
  | sum => exact pe_callB (cr_sum c.calm) hg hm rfl ha (by decide) (by decide) he hpl
  | all => exact pe_callB (cr_all c.calm) hg hm rfl ha (by decide) (by decide) he hpl
  | any => exact pe_callB (cr_any c.calm) hg hm rfl ha (by decide) (by decide) he hpl
  | int => exact pe_callTy cr_int hg hm rfl ha (by decide) (by decide) he hpl
  | str => exact pe_callTy cr_str hg hm rfl ha (by decide) (by decide) he hpl
/-- an expression's whole reading -/
def GE (C : Nat → Option Value) (cf : CF) (e : E) (X : Cx) (W : WX) (x : Expr) : Prop := PE X x (tE C (evE cf e) X.K W) ∧ (tOK x = true → PT X x (tT C (fun en => tt (evE cf e en)) X.K W))
def Plain (X : Cx) (x : Expr) : Prop := ∀ whole, isTrue x X.env whole = (do let v ← whole; standAt x.pos; holding [v] (truthy v))
def GF (C : Nat → Option Value) (cf : CF) (a : F) (X : Cx) (W : WX) (x : Expr) : Prop := PE X x (tF C (evF cf a) X.K W) ∧ Plain X x
def GEs (C : Nat → Option Value) (cf : CF) (es : Es) (X : Cx) (W : WX) (xs : List Expr) : Prop := PA X xs (tEs C (evEs cf es) X.K W) ∧ ∀ y ys, xs = y :: ys → ∀ pos,
  PE X (.BoolOp .And xs pos) (tE C (evAnd cf es) X.K W) ∧ PE X (.BoolOp .Or xs pos) (tE C (evOr cf es) X.K W) ∧
    (xs.all tOK = true → PW X (.BoolOp .And xs pos) (tT C (fun en => tt (evAnd cf es en)) X.K W) ∧ PW X (.BoolOp .Or xs pos) (tT C (fun en => tt (evOr cf es en)) X.K W))
def GI (C : Nat → Option Value) (cf : CF) (it : It) (X : Cx) (W : WX) (tg x : Expr) : Prop := PI X tg x (tI C (evI cf it) X.K W) ∧ ∀ y, foldedSetIterable x X.env y = pure y
theorem ge_p {e : E} {X : Cx} {W : WX} {x : Expr} (p : PE X x (tE C (evE cf e) X.K W)) (q : Plain X x) : GE C cf e X W x := ⟨p, fun _ => t_plain p q⟩
end
end Jr

set_option Elab.async false
set_option linter.all false
set_option maxRecDepth 100000
set_option maxHeartbeats 4000000
namespace Jr
open PySem PySem.Spec PyProof.Rows L2
section
variable {C : Nat → Option Value} {T : Tab} {k : Nat} {cf : CF} {N : List Str}
theorem own_back (N : List Str) (own : List Nat) : (ownS N own).map (·.2) = own := by
  unfold ownS
  rw [List.map_map]
  exact (List.map_congr_left fun _ _ => rfl).trans (List.map_id _)
theorem star2 {e e' : Expr} {env : PySem.Env} (h : notStar e = true) (h' : notStar e' = true) : starEach [e, e'] env = [(false, eval e env), (false, eval e' env)] := by
  rw [star1 h, star1 h']; rfl
theorem starN {e : Expr} {env : PySem.Env} (h : notStar e = true) : starEach [e] env = [(false, eval e env)] := by
  rw [star1 h]; rfl
theorem few1 {b : Expr} {env : PySem.Env} {pos : Pos} (h : notStar b = true) : ((backTo pos (starEach [b] env)).all (fun x => !x.1) && (backToKw pos (keywordEach [] env)).all (fun x => x.1.isSome)
      && decide ([b].length + ([] : List Keyword).length + (if ([] : List Keyword).isEmpty then 0 else 1) < 30)) = true := by
  rw [starN h]; rfl
mutual
theorem sE : ∀ (e : E) {sc : Scope} {X : Cx} {W : WX} {x : Expr}, ECx C T k cf N sc X W → mE T N sc e x = true → GE C cf e X W x
  | .var i, sc, X, W, x, c, m => by
    unfold mE at m
    split at m
    · obtain ⟨m, m3⟩ := ba m
      obtain ⟨m1, m2⟩ := ba m
      have m1 := of_decide_eq_true m1
      rw [← c.n] at m1
      exact ge_p (e_var m1 (by rw [c.hsc]; exact vis_of m2) (nm_of m3).1 (nm_of m3).2) fun _ => rfl
    · cases m
  | .non, sc, X, W, x, c, m => by
    unfold mE at m
    split at m
    · exact ge_p (e_const pe_non fun _ _ => .non) fun _ => rfl
    · cases m
  | .bl b, sc, X, W, x, c, m => by
    unfold mE at m
    split at m
    · have m := eq_of_beq m
      subst m
      exact ge_p (e_const pe_bl fun _ _ => .bool _) fun _ => rfl
    · cases m
  | .int i, sc, X, W, x, c, m => by
    unfold mE at m
    split at m
    · have m := of_decide_eq_true m
      subst m
      exact ge_p (e_const pe_int fun _ _ => .int _) fun _ => rfl
    · cases m
  | .str s, sc, X, W, x, c, m => by
    unfold mE at m
    split at m
    · have m := of_decide_eq_true m
      subst m
      exact ge_p e_str fun _ => rfl
    · cases m
  | .tup es, sc, X, W, x, c, m => by
    unfold mE at m
    split at m
    · exact ge_p (e_tup (sEs es c m).1) fun _ => rfl
    · cases m
  | .op o a b, sc, X, W, x, c, m => by
    unfold mE at m
    split at m
    · obtain ⟨m, m3⟩ := ba m
      obtain ⟨m1, m2⟩ := ba m
      have m1 := of_decide_eq_true m1
      subst m1
      exact ge_p (e_op (or_bin o) (sE a c m2).1 (sE b c m3).1) fun _ => rfl
    · cases m
  | .neg a, sc, X, W, x, c, m => by
    unfold mE at m
    split at m
    · exact ge_p (e_neg (sE a c m).1) fun _ => rfl
    · cases m
  | .nt a, sc, X, W, x, c, m => by
    unfold mE at m
    split at m
    · obtain ⟨m1, m2⟩ := ba m
      refine ⟨e_nt (sE a c m2).1, fun _ => ?_⟩
      have h := t_not (pos := by assumption) ((sE a c m2).2 m1)
      exact pti h fun σ H Q q => by
        simp only [evE, tt_not] at q
        exact q
    · cases m
  | .and es, sc, X, W, x, c, m => by
    unfold mE at m
    split at m
    · obtain ⟨m1, m2⟩ := ba m
      obtain ⟨h1, _, h3⟩ := (sEs es c m1).2 _ _ rfl (by assumption)
      exact ⟨h1, fun _ => (h3 m2).1.pt⟩
    · cases m
  | .or es, sc, X, W, x, c, m => by
    unfold mE at m
    split at m
    · obtain ⟨m1, m2⟩ := ba m
      obtain ⟨_, h1, h3⟩ := (sEs es c m1).2 _ _ rfl (by assumption)
      exact ⟨h1, fun _ => (h3 m2).2.pt⟩
    · cases m
  | .cmp o a b, sc, X, W, x, c, m => by
    unfold mE at m
    split at m
    · obtain ⟨m, m4⟩ := ba m
      obtain ⟨m, m3⟩ := ba m
      obtain ⟨m1, m2⟩ := ba m
      have m1 := of_decide_eq_true m1
      subst m1
      exact ⟨e_cmp (or_cmp c.room.units o) (sE a c m3).1 (sE b c m4).1 (noBehind m2), fun _ => t_cmp (or_cmp c.room.units o) (sE a c m3).1 (sE b c m4).1 (noBehind m2)⟩
    · cases m
  | .chn o o' a b d, sc, X, W, x, c, m => by
    unfold mE at m
    split at m
    · obtain ⟨m, m6⟩ := ba m
      obtain ⟨m, m5⟩ := ba m
      obtain ⟨m, m4⟩ := ba m
      obtain ⟨m, m3⟩ := ba m
      obtain ⟨m1, m2⟩ := ba m
      have m1 := of_decide_eq_true m1
      have m2 := of_decide_eq_true m2
      subst m1
      subst m2
      exact ⟨e_chain (or_cmp c.room.units o) (or_cmp c.room.units o') (sE a c m4).1 (sE b c m5).1 (sE d c m6).1 (noLast m3), fun _ => tt_chain (or_cmp c.room.units o) (or_cmp c.room.units o') (sE a c m4).1 (sE b c m5).1 (sE d c m6).1 (noLast m3)⟩
    · cases m
  | .ite d a b, sc, X, W, x, c, m => by
    unfold mE at m
    split at m
    · obtain ⟨m, m4⟩ := ba m
      obtain ⟨m, m3⟩ := ba m
      obtain ⟨m1, m2⟩ := ba m
      exact ⟨t_ite (evu := fun _ => fail) (evv := fun _ => fail) ((sE d c m2).2 m1) (sE a c m3).1 (sE b c m4).1, fun h => by cases h⟩
    · cases m
  | .ix a b, sc, X, W, x, c, m => by
    unfold mE at m
    split at m
    · obtain ⟨m, m3⟩ := ba m
      obtain ⟨m1, m2⟩ := ba m
      exact ge_p (e_ix (sE a c m2).1 (sE b c m3).1 (plainIx m1)) fun _ => rfl
    · cases m
  | .slT a hi, sc, X, W, x, c, m => by
    unfold mE at m
    split at m
    · obtain ⟨m1, m2⟩ := ba m
      exact ge_p (e_slT (sE a c m1).1 (sE hi c m2).1) fun _ => rfl
    · cases m
  | .slF a lo, sc, X, W, x, c, m => by
    unfold mE at m
    split at m
    · obtain ⟨m1, m2⟩ := ba m
      exact ge_p (e_slF (sE a c m1).1 (sE lo c m2).1) fun _ => rfl
    · cases m
  | .slA a lo hi, sc, X, W, x, c, m => by
    unfold mE at m
    split at m
    · obtain ⟨m, m3⟩ := ba m
      obtain ⟨m1, m2⟩ := ba m
      exact ge_p (e_slA (sE a c m1).1 (sE lo c m2).1 (sE hi c m3).1) fun _ => rfl
    · cases m
  | .rev a, sc, X, W, x, c, m => by
    unfold mE at m
    split at m
    · exact ge_p (e_rev (sE a c m).1) fun _ => rfl
    · cases m
  | .call f es, sc, X, W, x, c, m => by
    unfold mE at m
    split at m
    · split at m
      · rename_i d ed
        obtain ⟨m, m5⟩ := ba m
        obtain ⟨m, m4⟩ := ba m
        obtain ⟨m, m3⟩ := ba m
        obtain ⟨m1, m2⟩ := ba m
        have m1 := of_decide_eq_true m1
        subst m1
        obtain ⟨ad, fd, f1, f2, f3, f4⟩ := c.funs f d ed (by simpa using m2)
        have st := mEs_star _ _ m5
        rw [List.all_cons] at st
        exact ge_p (e_call f4 c.room (glo_of c.hsc m3) f1 f2 f3 c.tk (sEs es c m5).1 (nm_of m4).1 (star1 (ba st).1) (star_any (ba st).2)) fun _ => rfl
      · cases m
    · cases m
  | .blt f es, sc, X, W, x, c, m => by
    unfold mE at m
    split at m
    · obtain ⟨m1, m2⟩ := ba m
      have st := mEs_star _ _ m2
      rw [List.all_cons] at st
      exact ge_p (c_blt c f m1 (sEs es c m2).1 (star1 (ba st).1) (star_any (ba st).2)) fun _ => rfl
    · cases m
  | .isi a t, sc, X, W, x, c, m => by
    unfold mE at m
    split at m
    · obtain ⟨m, m4⟩ := ba m
      obtain ⟨m, m3⟩ := ba m
      obtain ⟨m1, m2⟩ := ba m
      obtain ⟨rfl, g1, g2⟩ := c.g m1 (by decide)
      obtain ⟨rfl, g3, g4⟩ := c.g m2 (by cases t <;> decide)
      exact ge_p (e_isi g1 g2 g3 g4 (sE a c m4).1 (star1 m3)) fun _ => rfl
    · cases m
  | .toT a, sc, X, W, x, c, m => by
    unfold mE at m
    split at m
    · obtain ⟨m, m4⟩ := ba m
      obtain ⟨m1, m2⟩ := ba m
      obtain ⟨rfl, g1, g2⟩ := c.g m1 (by decide)
      exact ge_p (e_toT g1 g2 (sE a c m4).1 (star1 m2)) fun _ => rfl
    · cases m
  | .app o a, sc, X, W, x, c, m => by
    unfold mE at m
    split at m
    · obtain ⟨m, m6⟩ := ba m
      obtain ⟨m, m5⟩ := ba m
      obtain ⟨m, m4⟩ := ba m
      obtain ⟨m, m3⟩ := ba m
      obtain ⟨m1, m2⟩ := ba m
      have m1 := of_decide_eq_true m1
      have m2 := of_decide_eq_true m2
      subst m1
      exact ge_p (e_app (sE o c m5).1 (sE a c m6).1 (baseOk_eq m3) (few1 m4) (by rw [m2]; exact beq_self_eq_true _) (star1 m4)) fun _ => rfl
    · cases m
  | .pop o a, sc, X, W, x, c, m => by
    unfold mE at m
    split at m
    · obtain ⟨m, m6⟩ := ba m
      obtain ⟨m, m5⟩ := ba m
      obtain ⟨m, m4⟩ := ba m
      obtain ⟨m, m3⟩ := ba m
      obtain ⟨m1, m2⟩ := ba m
      have m1 := of_decide_eq_true m1
      have m2 := of_decide_eq_true m2
      subst m1
      exact ge_p (e_pop (sE o c m5).1 (sE a c m6).1 (baseOk_eq m3) (few1 m4) (by rw [m2]; exact beq_self_eq_true _) (star1 m4)) fun _ => rfl
    · cases m
  | .popE o, sc, X, W, x, c, m => by
    unfold mE at m
    split at m
    · obtain ⟨m, m4⟩ := ba m
      obtain ⟨m, m3⟩ := ba m
      obtain ⟨m1, m2⟩ := ba m
      have m1 := of_decide_eq_true m1
      have m2 := of_decide_eq_true m2
      subst m1
      exact ge_p (e_popE (sE o c m4).1 (baseOk_eq m3) (by rw [m2]; exact beq_self_eq_true _)) fun _ => rfl
    · cases m
  | .cnt _ _, sc, X, W, x, c, m => by unfold mE at m; cases m
  | .idx _ _, sc, X, W, x, c, m => by unfold mE at m; cases m
  | .new a, sc, X, W, x, c, m => by
    unfold mE at m
    exact ge_p (e_new (sF a c m).1) (sF a c m).2
  | .box a, sc, X, W, x, c, m => by
    unfold mE at m
    exact ge_p (e_box (sF a c m).1) (sF a c m).2
theorem sF : ∀ (a : F) {sc : Scope} {X : Cx} {W : WX} {x : Expr}, ECx C T k cf N sc X W → mF T N sc a x = true → GF C cf a X W x
  | .lst es, sc, X, W, x, c, m => by
    unfold mF at m
    split at m
    · exact ⟨f_lst (sEs es c m).1, fun _ => rfl⟩
    · cases m
  | .cat a b, sc, X, W, x, c, m => by
    unfold mF at m
    split at m
    · obtain ⟨m1, m2⟩ := ba m
      exact ⟨f_cat (sE a c m1).1 (sE b c m2).1, fun _ => rfl⟩
    · cases m
  | .rep a b, sc, X, W, x, c, m => by
    unfold mF at m
    split at m
    · obtain ⟨m1, m2⟩ := ba m
      exact ⟨f_rep (sE a c m1).1 (sE b c m2).1, fun _ => rfl⟩
    · cases m
  | .slT a hi, sc, X, W, x, c, m => by
    unfold mF at m
    split at m
    · obtain ⟨m1, m2⟩ := ba m
      exact ⟨f_slT (sE a c m1).1 (sE hi c m2).1, fun _ => rfl⟩
    · cases m
  | .slF a lo, sc, X, W, x, c, m => by
    unfold mF at m
    split at m
    · obtain ⟨m1, m2⟩ := ba m
      exact ⟨f_slF (sE a c m1).1 (sE lo c m2).1, fun _ => rfl⟩
    · cases m
  | .rev a, sc, X, W, x, c, m => by
    unfold mF at m
    split at m
    · exact ⟨f_rev (sE a c m).1, fun _ => rfl⟩
    · cases m
  | .toL a, sc, X, W, x, c, m => by
    unfold mF at m
    split at m
    · obtain ⟨m, m4⟩ := ba m
      obtain ⟨m1, m2⟩ := ba m
      obtain ⟨rfl, g1, g2⟩ := c.g m1 (by decide)
      exact ⟨f_toL g1 g2 (sE a c m4).1 (star1 m2), fun _ => rfl⟩
    · cases m
  | .srt a, sc, X, W, x, c, m => by
    unfold mF at m
    split at m
    · obtain ⟨m, m4⟩ := ba m
      obtain ⟨m1, m2⟩ := ba m
      obtain ⟨rfl, g1, g2⟩ := c.g m1 (by decide)
      exact ⟨f_srt g1 g2 (sE a c m4).1 (star1 m2), fun _ => rfl⟩
    · cases m
  | .cmp e t own it d, sc, X, W, x, c, m => by
    unfold mF at m
    split at m
    · rename_i elt tg iter ifs scope pos
      obtain ⟨m, m6⟩ := ba m
      obtain ⟨m, m5⟩ := ba m
      obtain ⟨m, m4⟩ := ba m
      obtain ⟨m, m3⟩ := ba m
      obtain ⟨m1, m2⟩ := ba m
      have gi := sI it tg c m4
      have r := f_cmp (C := C) (W := W) (pos := pos) (own := ownS N own) (t := t) (evi := evI cf it) (cnd := fun en => tt (evE cf d en)) (ev := evE cf e) c.calm (by rw [c.n]; exact c.nd) gi.1 (by rw [c.n, c.hsc]; exact blkOk_by m1) (by rw [own_back]; exact m2)
        (fun s H Cc cl fp => pg_of c.calm (by show X.N.Nodup; rw [c.n]; exact c.nd) (fun i x mm => tg_blk c.n c.hsc s H Cc cl fp i x mm) m3)
        (ifs := ifs)
        (fun s H Cc cl fp => by
          have cb := c.blk scope s H Cc cl fp
          split at m6
          · split at m6
            · exact pts_imp pts_nil (t_if1 (evt := fun _ => fail))
            · cases m6
          · obtain ⟨n1, n2⟩ := ba m6
            exact pts_one ((sE d cb n2).2 n1)
          · cases m6)
        (fun s H Cc cl fp => (sE e (c.blk scope s H Cc cl fp) m5).1) gi.2
      rw [own_back] at r
      exact ⟨r, fun _ => rfl⟩
    · cases m
theorem sEs : ∀ (es : Es) {sc : Scope} {X : Cx} {W : WX} {xs : List Expr}, ECx C T k cf N sc X W → mEs T N sc es xs = true → GEs C cf es X W xs
  | .nil, sc, X, W, [], c, m => ⟨a_nil, fun y ys h => by cases h⟩
  | .nil, sc, X, W, _ :: _, c, m => by simp [mEs] at m
  | .cons e es, sc, X, W, [], c, m => by simp [mEs] at m
  | .cons e es, sc, X, W, x :: xs, c, m => by
    unfold mEs at m
    obtain ⟨m, m3⟩ := ba m
    obtain ⟨m1, m2⟩ := ba m
    have ge := sE e c m2
    have gs := sEs es c m3
    refine ⟨a_cons ge.1 gs.1 (star1 m1), fun y ys h pos => ?_⟩
    cases h
    match es, xs, m3, gs with
    | .nil, [], _, _ =>
      refine ⟨⟨ge.1.run⟩, ⟨ge.1.run⟩, fun h => ?_⟩
      rw [List.all_cons] at h
      exact ⟨pw_and1 (ge.2 (ba h).1), pw_or1 (ge.2 (ba h).1)⟩
    | .nil, _ :: _, m3, _ => simp [mEs] at m3
    | .cons _ _, [], m3, _ => simp [mEs] at m3
    | .cons e' es', x' :: xs', _, gs =>
      obtain ⟨h1, h2, h3⟩ := gs.2 _ _ rfl pos
      refine ⟨e_and ge.1 h1, e_or ge.1 h2, fun h => ?_⟩
      rw [List.all_cons] at h
      obtain ⟨q1, q2⟩ := ba h
      obtain ⟨h4, h5⟩ := h3 q2
      refine ⟨pwi (t_and (ge.2 q1) h4) fun σ H Q q => ?_, pwi (t_or (ge.2 q1) h5) fun σ H Q q => ?_⟩
      · simp only [evAnd, tt_and] at q
        exact q
      · simp only [evOr, tt_or] at q
        exact q
theorem sI : ∀ (it : It) (tg : Expr) {sc : Scope} {X : Cx} {W : WX} {x : Expr}, ECx C T k cf N sc X W → mI T N sc it tg x = true → GI C cf it X W tg x
  | .ex e, tg, sc, X, W, x, c, m => by
    unfold mI at m
    obtain ⟨m1, m2⟩ := ba m
    exact ⟨i_ex (sE e c m2).1, noFold m1⟩
  | .r1 a, tg, sc, X, W, x, c, m => by
    unfold mI at m
    split at m
    · obtain ⟨m, m3⟩ := ba m
      obtain ⟨m1, m2⟩ := ba m
      obtain ⟨rfl, g1, g2⟩ := c.g m1 (by decide)
      exact ⟨i_r1 g1 g2 (sE a c m3).1 (starN m2), fun _ => rfl⟩
    · cases m
  | .r2 a b, tg, sc, X, W, x, c, m => by
    unfold mI at m
    split at m
    · obtain ⟨m, m5⟩ := ba m
      obtain ⟨m, m4⟩ := ba m
      obtain ⟨m, m3⟩ := ba m
      obtain ⟨m1, m2⟩ := ba m
      obtain ⟨rfl, g1, g2⟩ := c.g m1 (by decide)
      exact ⟨i_r2 g1 g2 (sE a c m4).1 (sE b c m5).1 (star2 m2 m3) (starN m3), fun _ => rfl⟩
    · cases m
  | .z2 a b, tg, sc, X, W, x, c, m => by
    unfold mI at m
    split at m
    · obtain ⟨m, m5⟩ := ba m
      obtain ⟨m, m4⟩ := ba m
      obtain ⟨m, mt⟩ := ba m
      obtain ⟨m, m3⟩ := ba m
      obtain ⟨m1, m2⟩ := ba m
      obtain ⟨rfl, g1, g2⟩ := c.g m1 (by decide)
      cases tg with
      | Tuple xs kk pp => exact ⟨i_z2 g1 g2 (sE a c m4).1 (sE b c m5).1 (star1 m2) (starN m3), fun _ => rfl⟩
      | _ => cases mt
    · cases m
  | .en a, tg, sc, X, W, x, c, m => by
    unfold mI at m
    split at m
    · obtain ⟨m, m3⟩ := ba m
      obtain ⟨m, mt⟩ := ba m
      obtain ⟨m1, m2⟩ := ba m
      obtain ⟨rfl, g1, g2⟩ := c.g m1 (by decide)
      cases tg with
      | Tuple xs kk pp => exact ⟨i_en g1 g2 (sE a c m3).1 (starN m2), fun _ => rfl⟩
      | _ => cases mt
    · cases m
end
end
end Jr

set_option Elab.async false
set_option linter.all false
set_option maxRecDepth 100000
set_option maxHeartbeats 4000000
namespace Jr
open PySem PySem.Spec PyProof.Rows L2
/-! ### statements against the text -/
def fkB (sc : Scope) : Bool := match sc.kind with
  | .function => true
  | _ => false
def notSwapKind : Expr → Bool
  | .SetComp .. => false
  | .DictComp .. => false
  | _ => true
/-- a comprehension whose list is stored with its variables' exchange -/
def swB (sc : Scope) (tg e : Expr) : Bool := match e with
  | .ListComp _ _ s p => (match tg with
    | .Name t q => isLocal sc t && (q.line == p.line) && !(s.names.any fun (n, k) => n == t && (k == .local || k == .cell))
    | _ => false)
  | _ => false
def isFrz : S → Bool
  | .frz _ => true
  | _ => false
def isCmp : E → Bool
  | .new (.cmp ..) => true
  | .box (.cmp ..) => true
  | _ => false
def mPar (N : List Str) (sc : Scope) (is : List Nat) (xs vs : List Expr) : Bool := match is, xs, vs with
  | [i, j], [.Name x p, .Name y q], [_, _] => decide (N[i]? = some x) && decide (N[j]? = some y) && isLocal sc x && isLocal sc y && (p.line == q.line) && decide (i ≠ j) && decide (x ≠ y)
  | [i, j, l], [.Name x p, .Name y q, .Name z r], [_, _, _] => decide (N[i]? = some x) && decide (N[j]? = some y) && decide (N[l]? = some z) && isLocal sc x && isLocal sc y && isLocal sc z && (p.line == q.line) && (p.line == r.line) && decide (i ≠ j) && decide (i ≠ l) && decide (j ≠ l) && decide (x ≠ y) && decide (x ≠ z) && decide (y ≠ z)
  | _, _, _ => false
def mHds (T : Tab) (sc : Scope) : List (Nat × Str) → List ExceptHandler → Bool
  | [], [] => true
  | (c, s) :: hs, .ExceptHandler (some (.Name x _)) none [.Return (some (.Constant (.str t) _ _)) _] _ :: hds => T.ex.contains (c, x) && gloB sc x && nmOk x && decide (s = t) && okS s && mHds T sc hs hds
  | _, _ => false
section
variable (T : Tab) (N : List Str)
mutual
def mS (sc : Scope) : S → Stmt → Bool
  | .asg t e, st => (match st with
    | .Assign [tg] x p => mTg N sc t tg && mE T N sc e x && notSwapKind x && (match swB sc tg x with
      | true => (match t, tg, e, x with
        | .nm i, .Name y _, .new (.cmp ..), .ListComp _ [⟨_, _, _, 0⟩] _ _ => isLocal sc y
        | .nm i, .Name y _, .box (.cmp ..), .ListComp _ [⟨_, _, _, 0⟩] _ _ => isLocal sc y
        | _, _, _, _ => false)
      | false => (match tg with
        | .Name .. => true
        | _ => !isTup x))
    | _ => false)
  | .par is es, st => (match st with
    | .Assign [.Tuple xs _ _] (.Tuple vs _ _) _ => mPar N sc is xs vs && mEs T N sc es vs && !(vs.all (foldedForSure 8)) && !(vs.all (constantsAlone 8))
    | _ => false)
  | .aug i e, st => (match st with
    | .AugAssign (.Name x _) .Add y _ => mNm N sc i x && mE T N sc e y
    | _ => false)
  | .set o i e, st => (match st with
    | .Assign [.Subscript y z _] x _ => notSlice z && notSwapKind x && mE T N sc o y && mE T N sc i z && mE T N sc e x
    | _ => false)
  | .ex e, st => (match st with
    | .Expr x _ => notComp x && mE T N sc e x
    | _ => false)
  | .ite c a b, st => (match st with
    | .If x ss ts _ => tOK x && mE T N sc c x && mB sc a ss && mB sc b ts
    | _ => false)
  | .for_ t it b, st => (match st with
    | .For tg x ss [] _ => mTg N sc t tg && mI T N sc it tg x && mB sc b ss
    | _ => false)
  | .whl c b, st => (match st with
    | .While x ss [] _ => tOK x && mE T N sc c x && mB sc b ss
    | _ => false)
  | .ret e, st => (match st with
    | .Return (some x) _ => mE T N sc e x
    | _ => false)
  | .rse c, st => (match st with
    | .Raise (some (.Call (.Name x _) [] [] _)) none _ => T.ex.contains (c, x) && gloB sc x && nmOk x
    | _ => false)
  | .try_ b hs, st => (match st with
    | .Try ss (h :: hds) [] [] _ => mB sc b ss && mHds T sc hs (h :: hds)
    | _ => false)
  | .frz _, _ => false
def mB (sc : Scope) : B → List Stmt → Bool
  | .nil, sts => sts.isEmpty
  | .cons s b, sts => (match s with
    | .frz _ => mB sc b sts
    | _ => (match sts with
      | st :: rest => mS sc s st && mB sc b rest
      | [] => false))
end
end
/-! ### the text's own conditions -/
theorem bk_of {X : Cx} {sc : Scope} (e : X.env.scope = sc) (h : fkB sc = true) : X.env.blockKind = .function := by
  unfold fkB at h
  unfold Env.blockKind
  rw [e]
  split at h
  · rename_i q; rw [q]; rfl
  · cases h
theorem kind_of {X : Cx} {sc : Scope} (e : X.env.scope = sc) (t : Str) : (X.env.kindOf t == some .local) = isLocal sc t := by
  unfold Env.kindOf isLocal
  rw [e]
  split
  · rename_i q; rw [q]; rfl
  · rename_i q
    cases l : sc.names.lookup t with
    | none => rfl
    | some k => cases k <;> first | rfl | exact absurd l q
theorem sw_of {X : Cx} {sc : Scope} {tg e : Expr} {line : Nat} (es : X.env.scope = sc) (h : fkB sc = true) (n : notSwapKind e = true) : swapsWithSole [tg] e line X.env = pure (swB sc tg e) := by
  show swapsWith e (some tg) line X.env = _
  cases e with
  | ListComp elt gens s p =>
    cases tg with
    | Name t q =>
      show (pure (X.env.blockKind == .function && X.env.kindOf t == some .local && q.line == p.line && !(s.names.any fun (n, k) => n == t && (k == .local || k == .cell))) : Sem Bool) = _
      rw [bk_of es h, kind_of es t]
      rfl
    | _ => rfl
  | SetComp => cases n
  | DictComp => cases n
  | _ => rfl
theorem sw_of' {X : Cx} {sc : Scope} {tg e : Expr} {line : Nat} (es : X.env.scope = sc) (h : fkB sc = true) (n : notSwapKind e = true) : swapsWith e (some tg) line X.env = pure (swB sc tg e) := sw_of (tg := tg) (line := line) es h n
theorem ss_name {x : Str} {p : Pos} {e : Expr} {env : PySem.Env} : swappedStores [.Name x p] e env = pure none := by
  cases e <;> rfl
theorem ss_sub {o i : Expr} {p : Pos} {e : Expr} {env : PySem.Env} : swappedStores [.Subscript o i p] e env = pure none := by
  cases e <;> rfl
theorem ss_tup {xs : List Expr} {k : Nat} {p : Pos} {e : Expr} {env : PySem.Env} (h : (!isTup e) = true) : swappedStores [.Tuple xs k p] e env = pure none := by
  cases e <;> first | rfl | cases h
theorem noStar_any {vs : List Expr} (h : vs.all notStar = true) : (vs.any fun | .Starred .. => true | _ => false) = false := by
  induction vs with
  | nil => rfl
  | cons v vs ih =>
    rw [List.all_cons] at h
    rw [List.any_cons, ih (ba h).2]
    cases v <;> first | rfl | (exact absurd (ba h).1 (by simp [notStar]))
end Jr

set_option Elab.async false
set_option linter.all false
set_option maxRecDepth 100000
set_option maxHeartbeats 4000000
namespace Jr
open PySem PySem.Spec PyProof.Rows L2
theorem er2 {x y : Str} (h : x ≠ y) : [x, y].eraseDups.length = 2 := by
  have h1 : (y == x) = false := beq_eq_false_iff_ne.mpr (Ne.symm h)
  simp [List.eraseDups_cons, List.filter, h1]
theorem er3 {x y z : Str} (h : x ≠ y) (h2 : x ≠ z) (h3 : y ≠ z) : [x, y, z].eraseDups.length = 3 := by
  have h1 : (y == x) = false := beq_eq_false_iff_ne.mpr (Ne.symm h)
  have h2 : (z == x) = false := beq_eq_false_iff_ne.mpr (Ne.symm h2)
  have h3 : (z == y) = false := beq_eq_false_iff_ne.mpr (Ne.symm h3)
  simp [List.eraseDups_cons, List.filter, h1, h2, h3]
def nmF (env : PySem.Env) (line : Nat) : Expr → Option Str := fun
    | .Name id pos => if env.kindOf id == some .local && pos.line == line then some id else none
    | _ => none
theorem nmF_ok {env : PySem.Env} {x : Str} {p : Pos} {line : Nat} (k : (env.kindOf x == some .local) = true) (l : p.line = line) : nmF env line (.Name x p) = some x := by
  show (if env.kindOf x == some .local && p.line == line then some x else none) = _
  rw [k, l, beq_self_eq_true]
  rfl
theorem swapped_by {env : PySem.Env} {ts vs : List Expr} {names : List Str} {k k2 : Nat} {pt pt2 : Pos} (hl : (!(ts.length == 2 || ts.length == 3) || vs.length != ts.length || env.blockKind != .function) = false) (hs : vs.all notStar = true)
    (hn : ts.filterMap (nmF env ((ts.head?.map (·.pos.line)).getD 0)) = names) (h2 : names.length = ts.length) (h3 : names.eraseDups.length = names.length) (f1 : vs.all (foldedForSure 8) = false) (f2 : vs.all (constantsAlone 8) = false) :
    swappedStores [.Tuple ts k pt] (.Tuple vs k2 pt2) env = pure (some names) := by
  subst hn
  unfold swappedStores
  dsimp only
  rw [if_neg (by rw [hl]; exact Bool.false_ne_true)]
  refine (if_neg fun q => Bool.false_ne_true ((noStar_any hs).symm.trans q)).trans ?_
  refine (if_neg (show ¬ (((ts.filterMap (nmF env ((ts.head?.map (·.pos.line)).getD 0))).length != ts.length || (ts.filterMap (nmF env ((ts.head?.map (·.pos.line)).getD 0))).eraseDups.length != (ts.filterMap (nmF env ((ts.head?.map (·.pos.line)).getD 0))).length) = true) from by rw [h2, h3, h2]; simp)).trans ?_
  rw [if_neg (by rw [f1]; exact Bool.false_ne_true), if_neg (by rw [f2]; exact Bool.false_ne_true)]
  rfl
theorem fm2 {env : PySem.Env} {x y : Str} {p q : Pos} (kx : (env.kindOf x == some .local) = true) (ky : (env.kindOf y == some .local) = true) (l : p.line = q.line) :
    ([.Name x p, .Name y q] : List Expr).filterMap (nmF env ((([.Name x p, .Name y q] : List Expr).head?.map (·.pos.line)).getD 0)) = [x, y] := by
  have e : (([.Name x p, .Name y q] : List Expr).head?.map (·.pos.line)).getD 0 = p.line := rfl
  rw [e, List.filterMap_cons_some (nmF_ok kx rfl), List.filterMap_cons_some (nmF_ok ky l.symm)]
  rfl
theorem fm3 {env : PySem.Env} {x y z : Str} {p q r : Pos} (kx : (env.kindOf x == some .local) = true) (ky : (env.kindOf y == some .local) = true) (kz : (env.kindOf z == some .local) = true) (l : p.line = q.line) (l2 : p.line = r.line) :
    ([.Name x p, .Name y q, .Name z r] : List Expr).filterMap (nmF env ((([.Name x p, .Name y q, .Name z r] : List Expr).head?.map (·.pos.line)).getD 0)) = [x, y, z] := by
  have e : (([.Name x p, .Name y q, .Name z r] : List Expr).head?.map (·.pos.line)).getD 0 = p.line := rfl
  rw [e, List.filterMap_cons_some (nmF_ok kx rfl), List.filterMap_cons_some (nmF_ok ky l.symm), List.filterMap_cons_some (nmF_ok kz l2.symm)]
  rfl
end Jr

set_option Elab.async false
set_option linter.all false
set_option maxRecDepth 100000
set_option maxHeartbeats 4000000
namespace Jr
open PySem PySem.Spec PyProof.Rows L2
structure ExT (C : Nat → Option Value) (ex : List (Nat × Str)) (K : PySem.W.Frag) (mg : Str → Option Value) : Prop where
  at_ : ∀ n x, (n, x) ∈ ex → ∃ (Cc : Addr) (B newId initId : String) (bmB : List Value), ExcBaseFacts B newId initId bmB ∧ PySem.W.excIn K Cc bmB newId = true ∧ mg x = some (.ref Cc) ∧ PySem.W.keepIn K (.ref Cc) = true ∧
    PySem.W.subIn K (.ref Cc) (.type "BaseException") = some true ∧ PySem.W.typeIn K (.ref Cc) = some (.type "type") ∧ C n = some (.ref Cc)
  exm : ∀ c v n x, C c = some v → (n, x) ∈ ex → PySem.W.exmOne K v ((C n).getD .none) = some (n == c)
structure SCx (C : Nat → Option Value) (T : Tab) (k : Nat) (cf : CF) (N : List Str) (sc : Scope) (X : Cx) (W : WX) : Prop where
  e : ECx C T k cf N sc X W
  fk : fkB sc = true
  fn : ∀ y, X.fn y = true
  stk : X.stack = X.env :: X.outer
  frm : X.env.frame = some X.env.locals
  pow : PassesOwn (model X.prog X.w) X.A X.env X.xe
  ex : ExT C T.ex X.K X.mg
section
variable {C : Nat → Option Value} {T : Tab} {k : Nat} {cf : CF} {N : List Str}
theorem SCx.tr {sc : Scope} {X : Cx} {W W' : WX} (c : SCx C T k cf N sc X W) {pn : List (Addr × Obj)} {xe : Value → Shared → Prop} (tk : Takes (X.tr pn xe) W') (p : PassesOwn (model X.prog X.w) X.A X.env xe) : SCx C T k cf N sc (X.tr pn xe) W' :=
  ⟨⟨c.e.calm, c.e.n, c.e.nd, c.e.hsc, c.e.room, tk, c.e.blt, c.e.funs⟩, c.fk, c.fn, c.stk, c.frm, p, c.ex⟩
theorem SCx.tg {sc : Scope} {X : Cx} {W : WX} (c : SCx C T k cf N sc X W) {i : Nat} {x : Str} (m : mNm N sc i x = true) : TgOk X i x := by
  unfold mNm at m
  obtain ⟨m1, m2⟩ := ba m
  exact ⟨by rw [c.e.n]; exact of_decide_eq_true m1, by rw [c.e.hsc]; exact loc_of m2, .inl (c.fn x)⟩
theorem SCx.pg {sc : Scope} {X : Cx} {W : WX} (c : SCx C T k cf N sc X W) {t : Tg} {tg : Expr} (m : mTg N sc t tg = true) : PG X tg (gOf X.K t) := pg_of c.e.calm (by rw [c.e.n]; exact c.e.nd) (fun i x h => c.tg h) m
/-- a comprehension's parts -/
theorem cmp_of {e d : E} {t : Tg} {own : List Nat} {it : It} {sc : Scope} {X : Cx} {W : WX} {elt tg iter : Expr} {ifs : List Expr} {scope : Scope} {pos : Pos} (c : ECx C T k cf N sc X W) (m : mF T N sc (.cmp e t own it d) (.ListComp elt [⟨tg, iter, ifs, 0⟩] scope pos) = true) :
    GI C cf it X W tg iter ∧ BlkOk X.N X.env.scope scope (ownS N own) ∧ tgIn t ((ownS N own).map (·.2)) = true ∧ (∀ (s : Shared) (H : Hp) (Cc : Addr) (cl : List (Str × Addr)) (fp : List Addr), PG (X.blk s H scope (compEnvC scope cl Cc X.env) fp) tg (gOf X.K t)) ∧
    (∀ (s : Shared) (H : Hp) (Cc : Addr) (cl : List (Str × Addr)) (fp : List Addr), PTs (X.blk s H scope (compEnvC scope cl Cc X.env) fp) ifs (tT C (fun en => tt (evE cf d en)) X.K W0)) ∧
    (∀ (s : Shared) (H : Hp) (Cc : Addr) (cl : List (Str × Addr)) (fp : List Addr), PE (X.blk s H scope (compEnvC scope cl Cc X.env) fp) elt (tE C (evE cf e) X.K W0)) := by
  unfold mF at m
  obtain ⟨m, m6⟩ := ba m
  obtain ⟨m, m5⟩ := ba m
  obtain ⟨m, m4⟩ := ba m
  obtain ⟨m, m3⟩ := ba m
  obtain ⟨m1, m2⟩ := ba m
  refine ⟨sI it tg c m4, by rw [c.n, c.hsc]; exact blkOk_by m1, by rw [own_back]; exact m2, fun s H Cc cl fp => pg_of c.calm (by show X.N.Nodup; rw [c.n]; exact c.nd) (fun i x mm => tg_blk c.n c.hsc s H Cc cl fp i x mm) m3, fun s H Cc cl fp => ?_,
    fun s H Cc cl fp => (sE e (c.blk scope s H Cc cl fp) m5).1⟩
  have cb := c.blk scope s H Cc cl fp
  split at m6
  · split at m6
    · exact pts_imp pts_nil (t_if1 (evt := fun _ => fail))
    · cases m6
  · obtain ⟨n1, n2⟩ := ba m6
    exact pts_one ((sE d cb n2).2 n1)
  · cases m6
theorem assign_sub {y z : Expr} {p : Pos} {env : PySem.Env} (h : notSlice z = true) : ∀ v, assign (.Subscript y z p) env v = (do
      let ov ← holding [v] (eval y env)
      let iv ← holding [v, ov] (eval z env)
      standAt p
      holding [v, ov, iv] (setItem ov iv v)
      release [v, ov, iv] []) := by
  cases z <;> first | exact fun _ => rfl | cases h
theorem noSw {x : Expr} {line : Nat} {env : PySem.Env} (h : notComp x = true) : swapsWith x none line env = pure false := by
  cases x <;> first | rfl | cases h
theorem each1 {tg : Expr} {env : PySem.Env} (h : match tg with
    | .Name .. => True
    | .Tuple .. => True
    | .Subscript .. => True
    | _ => False) : (assignEach [tg] env).map (·.2) = [assign tg env] := by
  cases tg <;> first | rfl | exact h.elim
theorem hds_of {sc : Scope} {X : Cx} {W : WX} (c : SCx C T k cf N sc X W) : ∀ (hs : List (Nat × Str)) (hds : List ExceptHandler), mHds T sc hs hds = true → HdsOk X hds (hdl C hs) ∧ (∀ p ∈ hs, okS p.2 = true) ∧ ∀ p ∈ hs, ∃ x, (p.1, x) ∈ T.ex
  | [], [], _ => ⟨.nil, (by simp), (by simp)⟩
  | [], _ :: _, h => by simp [mHds] at h
  | p :: hs, hds, h => by
    obtain ⟨n, s⟩ := p
    unfold mHds at h
    split at h
    · rename_i e; cases e
    · rename_i e0
      cases e0
      obtain ⟨h, h6⟩ := ba h
      obtain ⟨h, h5⟩ := ba h
      obtain ⟨h, h4⟩ := ba h
      obtain ⟨h, h3⟩ := ba h
      obtain ⟨h1, h2⟩ := ba h
      have h4 := of_decide_eq_true h4
      subst h4
      have mem := List.contains_iff_mem.mp h1
      obtain ⟨Cc, B, newId, initId, bmB, F, q, gC, kC, sb, ty, eC⟩ := c.ex.at_ _ _ mem
      obtain ⟨i1, i2, i3⟩ := hds_of c hs _ h6
      refine ⟨HdsOk.cons ⟨glo_of c.e.hsc h2, (nm_of h3).1, .inl ?_⟩ (fun a oe cls d pn _ _ => ?_) i1, ?_, ?_⟩
      · show X.mg _ = some ((C _).getD .none)
        rw [eC]; exact gC
      · exact pssi (pss_cons (ps_ret pe_str) pss_nil) fun D σ H h => h
      · intro p hp
        rcases List.mem_cons.mp hp with rfl | hp
        · exact h5
        · exact i2 p hp
      · intro p hp
        rcases List.mem_cons.mp hp with rfl | hp
        · exact ⟨_, mem⟩
        · exact i3 p hp
    · cases h
mutual
theorem sS : ∀ (s : S) {sc : Scope} {X : Cx} {W : WX} {st : Stmt} (n : Nat), SCx C T k cf N sc X W → mS T N sc s st = true → PS X st (tS C (evS cf n s) X.K W)
  | .asg t e, sc, X, W, st, n, c, m => by
    unfold mS at m
    split at m
    · rename_i tg x p
      obtain ⟨m, m4⟩ := ba m
      obtain ⟨m, m3⟩ := ba m
      obtain ⟨m1, m2⟩ := ba m
      have sw := sw_of (tg := tg) (line := p.line) c.e.hsc c.fk m3
      split at m4
      · rename_i e1
        rw [e1] at sw
        split at m4
        · obtain ⟨hy, _⟩ := ba m1
          have hy := of_decide_eq_true hy
          unfold mE at m2
          obtain ⟨gi, ok, ht, hg, hf, he⟩ := cmp_of c.e m2
          have r := s_setLc (C := C) (W := W) (pos := by assumption) (spos := p) (mk := fun xs => pD (.list xs)) c.e.calm (by rw [c.e.n]; exact c.e.nd) (by rw [c.e.n]; exact hy) (by rw [c.e.hsc]; exact local_of m4) ((sw_of' c.e.hsc c.fk m3).trans (congrArg pure e1)) gi.1 ok ht hg hf he gi.2 (.inl rfl)
          rw [own_back] at r
          exact r
        · obtain ⟨hy, _⟩ := ba m1
          have hy := of_decide_eq_true hy
          unfold mE at m2
          obtain ⟨gi, ok, ht, hg, hf, he⟩ := cmp_of c.e m2
          have r := s_setLc (C := C) (W := W) (pos := by assumption) (spos := p) (mk := fun xs => newC (.lst xs)) c.e.calm (by rw [c.e.n]; exact c.e.nd) (by rw [c.e.n]; exact hy) (by rw [c.e.hsc]; exact local_of m4) ((sw_of' c.e.hsc c.fk m3).trans (congrArg pure e1)) gi.1 ok ht hg hf he gi.2 (.inr rfl)
          rw [own_back] at r
          exact r
        · cases m4
      · rename_i e1
        rw [e1] at sw
        split at m4
        · exact s_asg (sE e c.e m2).1 (c.pg m1) sw ss_name rfl
        · cases t with
          | nm i => cases tg <;> first | (simp [mTg] at m1; done) | exact s_asg (sE e c.e m2).1 (c.pg m1) sw ss_name rfl
          | tp is => cases tg <;> first | (simp [mTg] at m1; done) | exact s_asg (sE e c.e m2).1 (c.pg m1) sw (ss_tup m4) rfl
    · cases m
  | .par is es, sc, X, W, st, n, c, m => by
    unfold mS at m
    split at m
    · rename_i xs k1 p1 vs k2 p2 p3
      obtain ⟨m, m4⟩ := ba m
      obtain ⟨m, m3⟩ := ba m
      obtain ⟨m1, m2⟩ := ba m
      have m3 : vs.all (foldedForSure 8) = false := by simpa using m3
      have m4 : vs.all (constantsAlone 8) = false := by simpa using m4
      have st := mEs_star _ _ m2
      have bk := bk_of c.e.hsc c.fk
      unfold mPar at m1
      split at m1
      · obtain ⟨m1, d7⟩ := ba m1
        obtain ⟨m1, d6⟩ := ba m1
        obtain ⟨m1, d5⟩ := ba m1
        obtain ⟨m1, d4⟩ := ba m1
        obtain ⟨m1, d3⟩ := ba m1
        obtain ⟨d1, d2⟩ := ba m1
        have d5 := eq_of_beq d5
        have d7 := of_decide_eq_true d7
        exact s_par c.e.calm (by rw [c.e.n]; exact c.e.nd) (by rw [c.e.n]; exact of_decide_eq_true d1) (by rw [c.e.n]; exact of_decide_eq_true d2) (of_decide_eq_true d6) (by rw [c.e.hsc]; exact local_of d3) (by rw [c.e.hsc]; exact local_of d4) (sEs es c.e m2).1
          (swapped_by (by rw [bk]; rfl) st (fm2 ((kind_of c.e.hsc _).trans d3) ((kind_of c.e.hsc _).trans d4) d5) rfl (er2 d7) m3 m4)
      · obtain ⟨m1, d14⟩ := ba m1
        obtain ⟨m1, d13⟩ := ba m1
        obtain ⟨m1, d12⟩ := ba m1
        obtain ⟨m1, d11⟩ := ba m1
        obtain ⟨m1, d10⟩ := ba m1
        obtain ⟨m1, d9⟩ := ba m1
        obtain ⟨m1, d8⟩ := ba m1
        obtain ⟨m1, d7⟩ := ba m1
        obtain ⟨m1, d6⟩ := ba m1
        obtain ⟨m1, d5⟩ := ba m1
        obtain ⟨m1, d4⟩ := ba m1
        obtain ⟨m1, d3⟩ := ba m1
        obtain ⟨d1, d2⟩ := ba m1
        have d7 := eq_of_beq d7
        have d8 := eq_of_beq d8
        exact s_par3 c.e.calm (by rw [c.e.n]; exact c.e.nd) (by rw [c.e.n]; exact of_decide_eq_true d1) (by rw [c.e.n]; exact of_decide_eq_true d2) (by rw [c.e.n]; exact of_decide_eq_true d3) (of_decide_eq_true d9) (of_decide_eq_true d10) (of_decide_eq_true d11) (by rw [c.e.hsc]; exact local_of d4) (by rw [c.e.hsc]; exact local_of d5) (by rw [c.e.hsc]; exact local_of d6) (sEs es c.e m2).1
          (swapped_by (by rw [bk]; rfl) st (fm3 ((kind_of c.e.hsc _).trans d4) ((kind_of c.e.hsc _).trans d5) ((kind_of c.e.hsc _).trans d6) d7 d8) rfl (er3 (of_decide_eq_true d12) (of_decide_eq_true d13) (of_decide_eq_true d14)) m3 m4)
      · cases m1
    · cases m
  | .aug i e, sc, X, W, st, n, c, m => by
    unfold mS at m
    split at m
    · obtain ⟨m1, m2⟩ := ba m
      obtain ⟨t1, t2, t3⟩ := c.tg m1
      exact s_aug (by rw [c.e.n]; exact c.e.nd) t1 t2 (sE e c.e m2).1 t3
    · cases m
  | .set o i e, sc, X, W, st, n, c, m => by
    unfold mS at m
    split at m
    · obtain ⟨m, m5⟩ := ba m
      obtain ⟨m, m4⟩ := ba m
      obtain ⟨m, m3⟩ := ba m
      obtain ⟨m1, m2⟩ := ba m
      refine s_set (sE e c.e m5).1 (sE o c.e m3).1 (sE i c.e m4).1 ?_ ss_sub rfl (assign_sub m1)
      rw [sw_of c.e.hsc c.fk m2]
      congr 1
      unfold swB
      split <;> rfl
    · cases m
  | .ex e, sc, X, W, st, n, c, m => by
    unfold mS at m
    split at m
    · obtain ⟨m1, m2⟩ := ba m
      exact s_ex (sE e c.e m2).1 (noSw m1)
    · cases m
  | .ite d a b, sc, X, W, st, n, c, m => by
    unfold mS at m
    split at m
    · obtain ⟨m, m4⟩ := ba m
      obtain ⟨m, m3⟩ := ba m
      obtain ⟨m1, m2⟩ := ba m
      exact s_ite ((sE d c.e m2).2 m1) (sB a n c m3) (sB b n c m4)
    · cases m
  | .for_ t it b, sc, X, W, st, n, c, m => by
    unfold mS at m
    split at m
    · obtain ⟨m, m3⟩ := ba m
      obtain ⟨m1, m2⟩ := ba m
      have gi := sI it _ c.e m2
      exact s_for c.pow c.e.calm gi.1 (c.pg m1) (sB b n c m3) gi.2
    · cases m
  | .whl d b, sc, X, W, st, n, c, m => by
    unfold mS at m
    split at m
    · obtain ⟨m, m3⟩ := ba m
      obtain ⟨m1, m2⟩ := ba m
      exact s_whl c.pow ((sE d c.e m2).2 m1) (sB b n c m3)
    · cases m
  | .ret e, sc, X, W, st, n, c, m => by
    unfold mS at m
    split at m
    · exact s_ret (sE e c.e m).1
    · cases m
  | .rse i, sc, X, W, st, n, c, m => by
    unfold mS at m
    split at m
    · obtain ⟨m, m3⟩ := ba m
      obtain ⟨m1, m2⟩ := ba m
      obtain ⟨Cc, B, newId, initId, bmB, F, q, gC, kC, sb, ty, eC⟩ := c.ex.at_ _ _ (List.contains_iff_mem.mp m1)
      exact s_rse c.e.calm c.e.tk F q gC kC (raises_own sb ty) (glo_of c.e.hsc m2) (nm_of m3).1 eC
    · cases m
  | .try_ b hs, sc, X, W, st, n, c, m => by
    unfold mS at m
    split at m
    · obtain ⟨m1, m2⟩ := ba m
      obtain ⟨h1, h2, h3⟩ := hds_of c _ _ m2
      exact s_try c.stk c.frm c.e.tk (fun W' pn xe tk pp => sB b n (c.tr tk pp) m1) h1 (fun i v p e hp => (h3 p hp).elim fun x hx => c.ex.exm i v p.1 x e hx) h2
    · cases m
  | .frz i, sc, X, W, st, n, c, m => by unfold mS at m; cases m
theorem sB : ∀ (b : B) {sc : Scope} {X : Cx} {W : WX} {sts : List Stmt} (n : Nat), SCx C T k cf N sc X W → mB T N sc b sts = true → PSs X sts (tS C (evB cf n b) X.K W)
  | .nil, sc, X, W, sts, n, c, m => by
    unfold mB at m
    cases sts with
    | nil => exact ss_nil
    | cons _ _ => cases m
  | .cons s b, sc, X, W, sts, n, c, m => by
    unfold mB at m
    split at m
    · exact ss_frz (sB b n c m)
    · split at m
      · obtain ⟨m1, m2⟩ := ba m
        exact ss_cons (sS s n c m1) (sB b n c m2)
      · cases m
end
end
end Jr

set_option Elab.async false
set_option linter.all false
set_option maxRecDepth 100000
set_option maxHeartbeats 4000000
namespace Jr
open PySem PySem.Spec PyProof.Rows L2
/-- what the text must be for the table -/
def mDef (T : Tab) (d : Def) (st : Stmt) : Bool := mB T d.N (defScope st) d.body (defBody st) && fkB (defScope st) && decide (d.np ≤ d.N.length)
/-- a def of the table in the frozen ground -/
structure DefAt (K : PySem.W.Frag) (mg : Str → Option Value) (T : Tab) (d : Def) : Prop where
  ex : ∃ (fa : Addr) (fd : FuncData) (qual : Str) (st : Stmt), Fun K d.name qual st fa fd ∧ FnScope d.N (d.N.take d.np) (defScope st) ∧ Binds K fd (d.N.take d.np) [] ∧ mg d.name = some (.ref fa) ∧ mDef T d st = true
theorem level_step {P : Program} {w : World} {K : PySem.W.Frag} {mg : Str → Option Value} {base : Heap} {C : Nat → Option Value} {T : Tab} (n : Nat) (hb : ∀ x ∈ names0, mg (Str.ofString x) = none) (ex : ExT C T.ex K mg) {k f : Nat} {d : Def} {qual : Str} {st : Stmt} {fa : Addr} {fd : FuncData}
    (e : T.fn f = some d) (F : Fun K d.name qual st fa fd) (S : FnScope d.N (d.N.take d.np) (defScope st)) (m : mDef T d st = true)
    (hs : ∀ f d, T.fn f = some d → f ∈ T.pres → ∃ a fd, mg d.name = some (.ref a) ∧ PySem.W.keepIn K (.ref a) = true ∧ Binds K fd (d.N.take d.np) [] ∧ FnOk P w K mg base (L2.CX P w) k a fd (d.N.take d.np) (spM C K (callF T.fn n k f))) :
    FnOk P w K mg base (L2.CX P w) (k + 1) fa fd (d.N.take d.np) (spM C K (callF T.fn n (k + 1) f)) := by
  unfold mDef at m
  obtain ⟨m, m3⟩ := ba m
  obtain ⟨m1, m2⟩ := ba m
  have m3 := of_decide_eq_true m3
  have r := ok_def (P := P) (w := w) (K := K) (mg := mg) (base := base) (C := C) (k := k) (evb := evB (callF T.fn n k) n d.body) F S fun X h1 h2 h3 h4 h5 h6 h7 h8 h9 h10 h11 h12 h13 W h14 => by
    subst h1 h2 h3 h4 h5
    exact sB d.body n ⟨⟨h8, h6, S.nd, h7, h12, h14, hb, hs⟩, m2, h9, h10, h11, h13, ex⟩ m1
  have hl : (d.N.take d.np).length = d.np := by rw [List.length_take]; omega
  rw [hl] at r
  have e2 : callF T.fn n (k + 1) f = fun (vs : List Vl) => if vs.length = d.np then fun h => shut h.length (evB (callF T.fn n k) n d.body (vs.map some ++ List.replicate (d.N.length - d.np) none)) h else fail := by
    funext vs
    show (match T.fn f with
      | some d => if vs.length = d.np then fun (h : Hh) => shut h.length (evB (callF T.fn n k) n d.body (vs.map some ++ List.replicate (d.N.length - d.np) none)) h else fail
      | none => fail) = _
    rw [e]
  rw [e2]
  exact r
theorem level {P : Program} {w : World} {K : PySem.W.Frag} {mg : Str → Option Value} {base : Heap} {C : Nat → Option Value} {T : Tab} (n : Nat) (hd : ∀ f d, T.fn f = some d → f ∈ T.pres → DefAt K mg T d) (hb : ∀ x ∈ names0, mg (Str.ofString x) = none) (ex : ExT C T.ex K mg) :
    ∀ k f d, T.fn f = some d → f ∈ T.pres → ∃ a fd, mg d.name = some (.ref a) ∧ PySem.W.keepIn K (.ref a) = true ∧ Binds K fd (d.N.take d.np) [] ∧ FnOk P w K mg base (L2.CX P w) k a fd (d.N.take d.np) (spM C K (callF T.fn n k f))
  | 0, f, d, e, p => by
    obtain ⟨fa, fd, qual, st, F, S, B, g, m⟩ := (hd f d e p).ex
    refine ⟨fa, fd, g, F.kp, B, ⟨fun vs H Q E h => ?_, fun A outer s H args us vs Q E hr he hb hv h => ?_⟩⟩
    · obtain ⟨L, ρ, h, xs, _, _, o⟩ := h
      exact False.elim o
    · obtain ⟨L, ρ, h, xs, _, _, o⟩ := h
      exact False.elim o
  | k + 1, f, d, e, p => by
    obtain ⟨fa, fd, qual, st, F, S, B, g, m⟩ := (hd f d e p).ex
    exact ⟨fa, fd, g, F.kp, B, level_step n hb ex e F S m fun f' d' e' p' => level n hd hb ex k f' d' e' p'⟩
end Jr

set_option Elab.async false
set_option linter.all false
set_option maxRecDepth 100000
set_option maxHeartbeats 4000000
namespace Jr
open PySem PySem.Spec PyProof.Rows L2
theorem lookup_mem : ∀ (l : List (Str × Value)), (l.map (·.1)).Nodup → ∀ p ∈ l, l.lookup p.1 = some p.2
  | [], _, p, h => by cases h
  | q :: l, nd, p, h => by
    rw [List.map_cons, List.nodup_cons] at nd
    obtain ⟨q1, q2⟩ := q
    rcases List.mem_cons.mp h with rfl | h
    · show (match q1 == q1 with | true => some q2 | false => l.lookup q1) = some q2
      rw [beq_self_eq_true]
    · have ne : (p.1 == q1) = false := beq_eq_false_iff_ne.mpr fun e => nd.1 (List.mem_map.mpr ⟨p, h, e⟩)
      show (match p.1 == q1 with | true => some q2 | false => l.lookup p.1) = some p.2
      rw [ne]
      exact lookup_mem l nd.2 p h
theorem names_zip {ns : List Str} {us : List Value} (nd : ns.Nodup) (hl : us.length = ns.length) : (ns.filterMap fun n => ((ns.zip us).lookup n).map (n, ·)) = ns.zip us ∧ (ns.filter fun n => ((ns.zip us).lookup n).isNone) = [] := by
  have e : (ns.zip us).map Prod.fst = ns := List.map_fst_zip (by omega)
  have lk : ∀ p ∈ ns.zip us, (ns.zip us).lookup p.1 = some p.2 := lookup_mem _ (by rw [show (ns.zip us).map (·.1) = ns from e]; exact nd)
  constructor
  · have key : ∀ l : List (Str × Value), (∀ p ∈ l, (ns.zip us).lookup p.1 = some p.2) → ((l.map Prod.fst).filterMap fun n => ((ns.zip us).lookup n).map (n, ·)) = l := by
      intro l
      induction l with
      | nil => intro _; rfl
      | cons p l ih =>
        intro h
        rw [List.map_cons, List.filterMap_cons_some (b := p) (by rw [h p List.mem_cons_self]; rfl), ih fun q hq => h q (List.mem_cons_of_mem _ hq)]
    have := key _ lk
    rw [e] at this
    exact this
  · rw [List.filter_eq_nil_iff]
    intro n hn
    rw [← e] at hn
    obtain ⟨p, hp, rfl⟩ := List.mem_map.mp hn
    rw [lk p hp]
    simp
theorem bind_plain {x qual : Str} {body : List Stmt} {scope : Scope} {kV doc pm : Value} {an : Option Addr} {cdv ct : Value} {as : List Arg} {us : List Value} (hl : us.length = as.length) (nd : (as.map (·.arg)).Nodup) :
    bindArgs (PySem.W.fnOf x qual ⟨[], as, none, [], [], none, []⟩ body scope .none kV doc pm an cdv ct) ⟨us, []⟩ = pure ((as.map (·.arg)).zip us) := by
  obtain ⟨h1, h2⟩ := names_zip (us := us) nd (by rw [List.length_map]; exact hl)
  unfold bindArgs
  dsimp only [PySem.W.fnOf, List.map_nil, List.nil_append]
  generalize hns : as.map (·.arg) = ns at h1 h2 nd ⊢
  have hl : us.length = ns.length := by rw [← hns, List.length_map]; exact hl
  have s0 : (seqItems? Value.none : Sem (Option (Array Value))) = pure none := rfl
  simp only [s0, List.map_nil, List.nil_append, List.append_nil, List.forIn_nil, pure_bind, Option.getD_none, List.length_nil, Nat.zero_sub, List.drop_nil, Nat.sub_zero, List.take_length, List.zip_nil_right, h2, h1, hl, List.isEmpty_nil, Bool.not_true, Bool.false_eq_true, if_false, gt_iff_lt, Nat.lt_irrefl, decide_false, Bool.false_and, List.drop_length]
end Jr

set_option Elab.async false
set_option linter.all false
set_option maxRecDepth 100000
set_option maxHeartbeats 4000000
namespace Jr
open PySem PySem.Spec PyProof.Rows L2
/-! ### a law's table, its facts -/
/-- the table's rows: number, code, text -/
structure Tb where
  rows : List (Nat × Def × Stmt)
  ex : List (Nat × Str)
def Tb.tab (t : Tb) : Tab := ⟨fun f => (t.rows.lookup f).map (·.1), t.rows.map (·.1), t.ex⟩
def dOf (d : Def) (st : Stmt) : He.DefD := ⟨(d.name, none), d.name, d.name, defArgs st, defBody st, defScope st, [], []⟩
def Tb.fn (t : Tb) : List He.DefD := t.rows.map fun r => dOf r.2.1 r.2.2
def Tb.fa (t : Tb) : List He.Fa := (t.rows.map fun r => .glo r.2.1.name) ++ (names0.map fun x => .free (Str.ofString x)) ++ (t.ex.map fun p => .glo p.2) ++ (t.ex.map fun p => .exc p.2) ++ (t.ex.flatMap fun p => t.ex.map fun q => .exm p.2 q.2 (q.1 == p.1))
def scB (d : Def) (sc : Scope) : Bool := fkB sc && !sc.isCoroutine && !sc.isGenerator && decide d.N.Nodup && ((d.N.take d.np).all fun x => locB sc x) && (sc.names.all fun y => decide (y.2 ≠ .free))
def argB (d : Def) (a : Arguments) : Bool := match a with
  | ⟨[], as, none, [], [], none, []⟩ => decide (as.map (·.arg) = d.N.take d.np)
  | _ => false
def Tb.good (t : Tb) : Bool := (t.rows.all fun r => mDef t.tab r.2.1 r.2.2 && scB r.2.1 (defScope r.2.2) && argB r.2.1 (defArgs r.2.2)) && decide (t.ex.map (·.1)).Nodup
theorem lookup_in {β : Type} : ∀ {l : List (Nat × β)} {f : Nat} {y : β}, l.lookup f = some y → (f, y) ∈ l
  | [], f, y, h => by cases h
  | (g, z) :: l, f, y, h => by
    have h2 : (match f == g with | true => some z | false => l.lookup f) = some y := h
    cases q : f == g with
    | true =>
      rw [q] at h2
      cases h2
      rw [eq_of_beq q]
      exact List.mem_cons_self
    | false =>
      rw [q] at h2
      exact List.mem_cons_of_mem _ (lookup_in h2)
theorem lookup_nd {β : Type} : ∀ {l : List (Nat × β)} {f : Nat} {y : β}, (l.map (·.1)).Nodup → (f, y) ∈ l → l.lookup f = some y
  | [], f, y, _, h => by cases h
  | (g, z) :: l, f, y, nd, h => by
    rw [List.map_cons, List.nodup_cons] at nd
    show (match f == g with | true => some z | false => l.lookup f) = some y
    rcases List.mem_cons.mp h with e | h
    · cases e
      rw [beq_self_eq_true]
    · have ne : (f == g) = false := beq_eq_false_iff_ne.mpr fun e => nd.1 (List.mem_map.mpr ⟨_, h, e⟩)
      rw [ne]
      exact lookup_nd nd.2 h
theorem fnScope_of {d : Def} {sc : Scope} (h : scB d sc = true) (hl : d.np ≤ d.N.length) : FnScope d.N (d.N.take d.np) sc := by
  unfold scB at h
  obtain ⟨h, h6⟩ := ba h
  obtain ⟨h, h5⟩ := ba h
  obtain ⟨h, h4⟩ := ba h
  obtain ⟨h, h3⟩ := ba h
  obtain ⟨h1, h2⟩ := ba h
  refine ⟨?_, by simpa using h2, by simpa using h3, of_decide_eq_true h4, ?_, fun x hx => ?_, fun y hy => ?_⟩
  · unfold fkB at h1
    split at h1
    · rename_i q; exact q
    · cases h1
  · rw [List.length_take, Nat.min_eq_left hl]
  · exact loc_of (List.all_eq_true.mp h5 x hx)
  · exact of_decide_eq_true (List.all_eq_true.mp h6 y hy)
theorem binds_of {K : PySem.W.Frag} {d : Def} {st : Stmt} {f : Addr} {fd : FuncData} {kws : List (Str × V)} (F : FunD K d.name d.name (defArgs st) (defBody st) (defScope st) [] kws f fd) (h : argB d (defArgs st) = true) (nd : d.N.Nodup) :
    (∀ (s : Shared) (us : List Value), us.length = (d.N.take d.np).length → BindsTo s fd ⟨us, []⟩ ((d.N.take d.np).zip us)) ∧ Binds K fd (d.N.take d.np) [] := by
  have key : ∀ (kV doc pm : Value) (an : Option Addr) (cdv ct : Value) (us : List Value), us.length = (d.N.take d.np).length → bindArgs (PySem.W.fnOf d.name d.name (defArgs st) (defBody st) (defScope st) .none kV doc pm an cdv ct) ⟨us, []⟩ = pure ((d.N.take d.np).zip us) := by
    intro kV doc pm an cdv ct us hl
    unfold argB at h
    split at h
    · rename_i as e
      have h := of_decide_eq_true h
      rw [e]
      rw [← h] at hl ⊢
      exact bind_plain (by rw [hl, List.length_map]) (by rw [h]; exact (List.take_sublist _ _).nodup nd)
    · cases h
  exact ⟨fun s us hl => FunD.bindsA F key s us hl, FunD.bindsN F key⟩
section
variable {t : Tb} {K : PySem.W.Frag} {mg : Str → Option Value} {h : Heap}
theorem Tb.def_at (g : t.good = true) (KX : K.In h) (G : h.Ns mainGlobals mg) (c : He.SaysD t.fa t.fn K) {f : Nat} {d : Def} {st : Stmt} (m : (f, d, st) ∈ t.rows) :
    ∃ fd, FunD K d.name d.name (defArgs st) (defBody st) (defScope st) [] [] (He.ga K d.name) fd ∧ FnScope d.N (d.N.take d.np) (defScope st) ∧ ((∀ (s : Shared) (us : List Value), us.length = (d.N.take d.np).length → BindsTo s fd ⟨us, []⟩ ((d.N.take d.np).zip us)) ∧ Binds K fd (d.N.take d.np) []) ∧ mg d.name = some (.ref (He.ga K d.name)) ∧ mDef t.tab d st = true := by
  obtain ⟨g1, _⟩ := ba g
  obtain ⟨g2, g5⟩ := ba (List.all_eq_true.mp g1 _ m)
  obtain ⟨g3, g4⟩ := ba g2
  have hl : d.np ≤ d.N.length := of_decide_eq_true (ba g3).2
  have S := fnScope_of g4 hl
  obtain ⟨fd, F⟩ := c.defs (d := dOf d st) (List.mem_map.mpr ⟨_, m, rfl⟩)
  have F : FunD K d.name d.name (defArgs st) (defBody st) (defScope st) [] [] (He.ga K d.name) fd := F
  refine ⟨fd, F, S, binds_of F g5 S.nd, He.glo_ok KX G (c.facts ?_), g3⟩
  unfold Tb.fa
  simp only [List.mem_append, List.mem_map]
  exact .inl (.inl (.inl (.inl ⟨_, m, rfl⟩)))
theorem Tb.defs (g : t.good = true) (KX : K.In h) (G : h.Ns mainGlobals mg) (c : He.SaysD t.fa t.fn K) : ∀ f d, t.tab.fn f = some d → f ∈ t.tab.pres → DefAt K mg t.tab d := fun f d e _ => by
  have e : (t.rows.lookup f).map (·.1) = some d := e
  cases q : t.rows.lookup f with
  | none => rw [q] at e; cases e
  | some r =>
    rw [q] at e
    cases e
    obtain ⟨d, st⟩ := r
    obtain ⟨fd, F, S, b, gm, md⟩ := t.def_at g KX G c (lookup_in q)
    exact ⟨⟨_, fd, d.name, st, He5.fun_of F, S, b.2, gm, md⟩⟩
theorem Tb.frees (KX : K.In h) (G : h.Ns mainGlobals mg) (c : He.SaysD t.fa t.fn K) : ∀ x ∈ names0, mg (Str.ofString x) = none := fun x hx => He.free_ok KX G (c.facts (by
  unfold Tb.fa
  simp only [List.mem_append, List.mem_map]
  exact .inl (.inl (.inl (.inr ⟨x, hx, rfl⟩)))))
def Tb.cls (t : Tb) (K : PySem.W.Frag) : Nat → Option Value := fun n => (t.ex.lookup n).map fun x => .ref (He.ga K x)
theorem Tb.exs (g : t.good = true) (KX : K.In h) (G : h.Ns mainGlobals mg) (c : He.SaysD t.fa t.fn K) : ExT (t.cls K) t.tab.ex K mg := by
  have nd := of_decide_eq_true (ba g).2
  refine ⟨fun n x m => ?_, fun i v n x e m => ?_⟩
  · have c1 : (He.Fa.exc x).ok K = true := c.facts (by
      unfold Tb.fa
      simp only [List.mem_append, List.mem_map]
      exact .inl (.inr ⟨(n, x), m, rfl⟩))
    have c2 : (He.Fa.glo x).ok K = true := c.facts (by
      unfold Tb.fa
      simp only [List.mem_append, List.mem_map]
      exact .inl (.inl (.inr ⟨(n, x), m, rfl⟩)))
    obtain ⟨c3, c4⟩ := ba c1
    obtain ⟨c5, c6⟩ := ba c4
    obtain ⟨c7, c8⟩ := ba c6
    refine ⟨He.ga K x, "ValueError", "ValueError.__new__", _, He.veBase, PySem.F.excBase_ValueError, c3, He.glo_ok KX G c2, c5, of_decide_eq_true c7, of_decide_eq_true c8, ?_⟩
    unfold Tb.cls
    rw [lookup_nd nd m]
    rfl
  · unfold Tb.cls at e ⊢
    cases q : t.ex.lookup i with
    | none => rw [q] at e; cases e
    | some y =>
      rw [q] at e
      cases e
      rw [lookup_nd nd m]
      have c1 : (He.Fa.exm y x (n == i)).ok K = true := c.facts (by
        unfold Tb.fa
        simp only [List.mem_append, List.mem_map, List.mem_flatMap]
        exact .inr ⟨(i, y), lookup_in q, (n, x), m, rfl⟩)
      exact of_decide_eq_true c1
end
end Jr

set_option Elab.async false
set_option linter.all false
set_option maxRecDepth 100000
set_option maxHeartbeats 4000000
namespace Jr
open PySem PySem.Spec PyProof.Rows L2
theorem rds_ints {P : Addr → Prop} {H : Hp} : ∀ ns : List Int, RDs P H (ns.map D.int) (ns.map V.int)
  | [] => .nil
  | _ :: ns => .cons (.int _) (rds_ints ns)
/-- the law's promise from its pure meaning -/
theorem sp_law {K : PySem.W.Frag} {C : Nat → Option Value} {g : List Vl → M Vl} {H : Hp} {a : Addr} {ns : List Int} {h' : Hh} (hl : ns.length ≤ sizeLine) (hO : Only H) (hS : SqL K H a (ns.map V.int)) (e : g [.r 0] [.ro (ns.map D.int)] = some (.ok (.d (.bool true)), h')) :
    spM C K g [.ref a] H (fun v _ => v = .bl true) fun _ _ _ => False := by
  have np : ∀ {p : Addr}, ¬ Pr (fun _ => False) [a] [Cell.ro (ns.map D.int)] p := by
    rintro p (z | ⟨i, c, _, e2, e3⟩)
    · exact z
    · cases i with
      | zero => cases e2; cases e3
      | succ i => cases e2
  refine ⟨fun _ => False, [a], [.ro (ns.map D.int)], [.r 0], ⟨rfl, ?_, fun _ _ _ _ _ _ z => z, fun _ z => z.elim, ?_⟩, .cons ⟨a, rfl, rfl⟩ .nil, ?_⟩
  · intro i j b ci cj e1 e2 e3 e4 l1 l2
    cases i with
    | zero => cases e3; cases l1
    | succ i => cases e3
  · intro i b c e1 e2
    cases i with
    | zero =>
      cases e1
      cases e2
      refine ⟨ns.map V.int, ?_, by rw [List.length_map]; exact hl, rds_ints ns⟩
      rcases hS with r | k
      · refine .inl ⟨np, ?_⟩
        rcases hO a with z | ⟨o, xs, z⟩
        · rcases r with r | ⟨o, r⟩ <;> (rw [z] at r; cases r)
        · rcases r with r | ⟨o', r⟩
          · rw [z] at r; cases r
          · exact ⟨o', r⟩
      · exact .inr k
    | succ i => cases e2
  · rw [e]
    intro ρ' H' v hr s r
    cases r
    rfl
/-- a law's end, with what its call may let out told by the world -/
theorem walk_w {l : PySem.W.OpenLaw} {n k : Nat} {q : Program} {loose : List Str} {XP : (Str → Option Value) → Heap → Prop} {YP : World → Heap → Prop} {d : DefRec} {CX : World → CXT} {x : Str}
    (hn : l.most = some n) (hn2 : n ≤ sizeLine) (hdf : d.params.defaults = []) (hr : Room k callerA)
    (F : ∀ (w : World) (mg : Str → Option Value) (fa : Addr) (h : Heap), YP w h → h.Ns mainGlobals mg → mg d.name = some (.ref fa) →
      ∃ (K : PySem.W.Frag) (fd : FuncData) (sp : Sp), K.In h ∧ (∀ (s : Shared) (u : Value), BindsTo s fd ⟨[u], []⟩ [(x, u)]) ∧
        (∀ (H : Hp) (a : Addr) (ns : List Int), ns.length ≤ n → Only H → SqL K H a (ns.map V.int) → sp [.ref a] H (fun v _ => v = .bl true) fun _ _ _ => False) ∧
        ∀ base : Heap, K.In base → base.Ns mainGlobals mg → FnOk l.prog w K mg base (CX w) k fa fd [x] sp)
    (hCX : ∀ (w : World) (H : Hp) (s : Shared) (e : Value) (s' : Shared), CX w [] H s (fun _ _ _ => False) e s' → False) :
    PySem.W.WalkO q loose XP YP l.row.toRowW d [] (fun f vs => PySem.call f vs) := by
  refine Att.attach_call hn hdf fun wo st0 st1 gl bl at0 ob1 x1 x2 x3 la items nums gd sy _ _ _ eqf lst rel few bare => ?_
  have got := F wo gl at0 st1.heap sy gd.T.g eqf
  obtain ⟨K, fd, sp, KX, bnd, spk, keep⟩ := got
  refine law_call KX gd.T.g gd.T.b gd.T.builtins gd.T.nolimit bare lst rel (Nat.le_trans few hn2) hr keep bnd (fun H only seq => ?_) fun H e s' => ?_
  · exact spk H la nums few only seq
  · exact hCX wo H st1 e s'
theorem law_end {l : PySem.W.OpenLaw} {q : Program} {loose : List Str} {XP : (Str → Option Value) → Heap → Prop} {d0 : DefRec} {t : Tb} {lawId n k : Nat} {dl : Def} {stl : Stmt} {x : Str}
    (hn : l.most = some 63) (hdf : d0.params.defaults = []) (hr : Room (k + 1) callerA) (g : t.good = true) (ml : t.rows.lookup lawId = some (dl, stl)) (nm : d0.name = dl.name) (hp : dl.N.take dl.np = [x])
    (main : ∀ ns : List Int, ns.length ≤ 63 → ∃ h', callF t.tab.fn n (k + 1) lawId [.r 0] [.ro (ns.map D.int)] = some (.ok (.d (.bool true)), h')) :
    PySem.W.WalkO q loose XP (He.hookD 4 t.fa t.fn).says l.row.toRowW d0 [] (fun f vs => PySem.call f vs) := by
  refine walk_w (l := l) (n := 63) (k := k + 1) (x := x) (CX := fun w => L2.CX l.prog w) hn (by decide) hdf hr ?_ ?_
  · intro w mg fa h Y G hmg0
    obtain ⟨K, KX, c⟩ := Y
    obtain ⟨fd, F, S, b, gm, md⟩ := t.def_at g KX G c (lookup_in ml)
    rw [nm] at hmg0
    have e := hmg0.symm.trans gm
    cases e
    refine ⟨K, fd, spM (t.cls K) K (callF t.tab.fn n (k + 1) lawId), KX, fun s u => ?_, fun H a ns hl hO hS => ?_, fun base _ _ => ?_⟩
    · have := b.1 s [u] (by rw [hp]; rfl)
      rw [hp] at this
      exact this
    · obtain ⟨h', e⟩ := main ns hl
      exact sp_law (Nat.le_trans hl (by decide)) hO hS e
    · have ef : t.tab.fn lawId = some dl := by
        show (t.rows.lookup lawId).map (·.1) = _
        rw [ml]
        rfl
      have st := level_step (P := l.prog) (w := w) (base := base) (k := k) n (t.frees KX G c) (t.exs g KX G c) ef (He5.fun_of F) S md fun f' d' e' p' => level n (t.defs g KX G c) (t.frees KX G c) (t.exs g KX G c) k f' d' e' p'
      rw [hp] at st
      exact st
  · rintro w H s e s' ⟨a, B, H', cls, d, _, _, _, _, _, _, _, z⟩
    exact z
end Jr

set_option linter.all false
set_option maxRecDepth 100000
namespace Jr
open PySem
abbrev q (x : String) : Str := Str.ofString x
/-- 37 -/
def d__law_all : Def := ⟨q "_law_all", 1, [q "_law_entries_here", q "_law_rows", q "_law_entry", q "_law_longer", q "_law_row"], .cons (.asg (.nm 1) (.new (.lst (.cons (.tup (.nil)) (.nil))))) (.cons (.for_ (.nm 2) (.ex (.var 0)) (.cons (.ite (.cmp .is (.var 2) (.non)) (.cons (.asg (.nm 3) (.new (.lst (.nil)))) (.cons (.for_ (.nm 4) (.ex (.var 1)) (.cons (.asg (.nm 3) (.new (.cat (.var 3) (.new (.lst (.cons (.op .add (.var 4) (.tup (.cons (.int 0) (.nil)))) (.cons (.op .add (.var 4) (.tup (.cons (.int 1) (.nil)))) (.nil)))))))) (.nil))) (.cons (.asg (.nm 1) (.var 3)) (.nil)))) (.cons (.asg (.nm 1) (.new (.cmp (.op .add (.var 4) (.tup (.cons (.var 2) (.nil)))) (.nm 4) [4] (.ex (.var 1)) (.bl true)))) (.nil))) (.nil))) (.cons (.ret (.var 1)) (.nil)))⟩
/-- 88 -/
def d__law_answers : Def := ⟨q "_law_answers", 1, [q "_law_many", q "_law_rows", q "_law_step", q "_law_longer", q "_law_row"], .cons (.asg (.nm 1) (.new (.lst (.cons (.tup (.nil)) (.nil))))) (.cons (.for_ (.nm 2) (.r1 (.var 0)) (.cons (.asg (.nm 3) (.new (.lst (.nil)))) (.cons (.for_ (.nm 4) (.ex (.var 1)) (.cons (.asg (.nm 3) (.new (.cat (.var 3) (.new (.lst (.cons (.op .add (.var 4) (.tup (.cons (.int 0) (.nil)))) (.cons (.op .add (.var 4) (.tup (.cons (.int 1) (.nil)))) (.nil)))))))) (.nil))) (.cons (.asg (.nm 1) (.var 3)) (.nil))))) (.cons (.ret (.var 1)) (.nil)))⟩
/-- 56 -/
def d__law_below : Def := ⟨q "_law_below", 2, [q "_law_one", q "_law_other"], .cons (.ret (.cmp .lt (.op .mul (.ix (.var 0) (.int 0)) (.ix (.var 1) (.int 1))) (.op .mul (.ix (.var 1) (.int 0)) (.ix (.var 0) (.int 1))))) (.nil)⟩
/-- 2 -/
def d__law_bent : Def := ⟨q "_law_bent", 3, [q "_law_script", q "_law_state", q "_law_thing", q "_law_at", q "_law_some"], .cons (.ite (.or (.cons (.nt (.isi (.var 2) .tuple)) (.cons (.nt (.var 2)) (.cons (.cmp .eq (.call 8 (.cons (.var 0) (.cons (.var 1) (.cons (.int 4) (.nil))))) (.int 0)) (.nil))))) (.cons (.asg (.nm 4) (.new (.lst (.cons (.non) (.cons (.bl true) (.cons (.bl false) (.cons (.int 0) (.cons (.int 1) (.cons (.neg (.int 1)) (.cons (.int 3) (.cons (.int 10) (.cons (.str (q "a")) (.cons (.str (q "b")) (.cons (.str (q "")) (.cons (.str (q "A")) (.cons (.str (q "abcd")) (.cons (.tup (.nil)) (.cons (.new (.lst (.nil))) (.nil))))))))))))))))))) (.cons (.asg (.nm 4) (.new (.cat (.var 4) (.new (.lst (.cons (.tup (.cons (.str (q "a")) (.nil))) (.cons (.tup (.cons (.str (q "b")) (.cons (.str (q "a")) (.nil)))) (.cons (.tup (.cons (.int 1) (.cons (.int 0) (.nil)))) (.cons (.tup (.cons (.str (q "gain")) (.cons (.int 2) (.nil)))) (.nil)))))))))) (.cons (.ite (.isi (.var 2) .tuple) (.cons (.asg (.nm 4) (.new (.cat (.var 4) (.new (.lst (.cons (.new (.toL (.var 2))) (.cons (.slT (.var 2) (.neg (.int 1))) (.cons (.op .add (.var 2) (.slF (.var 2) (.neg (.int 1)))) (.cons (.slF (.var 2) (.int 1)) (.cons (.rev (.var 2)) (.cons (.op .add (.var 2) (.tup (.cons (.non) (.nil)))) (.nil)))))))))))) (.nil)) (.nil)) (.cons (.ite (.isi (.var 2) .int) (.cons (.asg (.nm 4) (.new (.cat (.var 4) (.new (.rep (.new (.lst (.cons (.op .add (.var 2) (.int 1)) (.cons (.op .sub (.var 2) (.int 1)) (.cons (.nt (.var 2)) (.cons (.tup (.cons (.var 2) (.nil))) (.cons (.blt .str (.cons (.var 2) (.nil))) (.nil)))))))) (.int 2)))))) (.nil)) (.nil)) (.cons (.ret (.call 7 (.cons (.var 0) (.cons (.var 1) (.cons (.var 4) (.nil)))))) (.nil)))))) (.nil)) (.cons (.asg (.nm 3) (.call 8 (.cons (.var 0) (.cons (.var 1) (.cons (.blt .len (.cons (.var 2) (.nil))) (.nil)))))) (.cons (.ret (.op .add (.op .add (.slT (.var 2) (.var 3)) (.tup (.cons (.call 2 (.cons (.var 0) (.cons (.var 1) (.cons (.ix (.var 2) (.var 3)) (.nil))))) (.nil)))) (.slF (.var 2) (.op .add (.var 3) (.int 1))))) (.nil)))⟩
/-- 17 -/
def d__law_collection : Def := ⟨q "_law_collection", 3, [q "_law_script", q "_law_state", q "_law_most", q "_law_names"], .cons (.asg (.nm 3) (.call 15 (.cons (.var 0) (.cons (.var 1) (.cons (.new (.lst (.cons (.str (q "a")) (.cons (.str (q "b")) (.cons (.str (q "c")) (.cons (.str (q "d")) (.cons (.str (q "e")) (.cons (.str (q "f")) (.cons (.str (q "gg")) (.cons (.str (q "hh")) (.nil))))))))))) (.nil)))))) (.cons (.ret (.toT (.new (.srt (.new (.slT (.var 3) (.op .add (.int 1) (.call 8 (.cons (.var 0) (.cons (.var 1) (.cons (.var 2) (.nil)))))))))))) (.nil))⟩
/-- 180 -/
def d__law_compare_or : Def := ⟨q "_law_compare_or", 5, [q "_law_collection_here", q "_law_entries_here", q "_law_one", q "_law_other", q "_law_measure_here"], .cons (.try_ (.cons (.ret (.call 74 (.cons (.var 0) (.cons (.var 1) (.cons (.var 2) (.cons (.var 3) (.cons (.var 4) (.nil)))))))) (.nil)) [(12, q "InvalidCollection"), (20, q "InvalidJudgements"), (40, q "InvalidRanking"), (41, q "InvalidMeasure")]) (.nil)⟩
/-- 30 -/
def d__law_completions_or : Def := ⟨q "_law_completions_or", 2, [q "_law_collection_here", q "_law_entries_here"], .cons (.try_ (.cons (.ret (.call 33 (.cons (.var 0) (.cons (.var 1) (.nil))))) (.nil)) [(12, q "InvalidCollection"), (20, q "InvalidJudgements")]) (.nil)⟩
/-- 8 -/
def d__law_draw : Def := ⟨q "_law_draw", 3, [q "_law_script", q "_law_state", q "_law_many", q "_law_k", q "_law_cell", q "_law_digits", q "_law_number", q "_law_more"], .cons (.ite (.nt (.var 1)) (.cons (.ex (.app (.var 1) (.blt .max1 (.cons (.new (.cat (.new (.cmp (.blt .abs (.cons (.var 4) (.nil))) (.nm 4) [4] (.ex (.var 0)) (.bl true))) (.new (.lst (.cons (.int 0) (.nil)))))) (.nil))))) (.nil)) (.nil)) (.cons (.ex (.app (.var 1) (.int 0))) (.cons (.asg (.nm 3) (.blt .len (.cons (.var 1) (.nil)))) (.cons (.asg (.nm 4) (.ite (.var 0) (.ix (.var 0) (.op .mod (.var 3) (.blt .len (.cons (.var 0) (.nil))))) (.int 0))) (.cons (.asg (.nm 5) (.op .mod (.ix (.var 1) (.int 0)) (.int 65536))) (.cons (.set (.var 1) (.int 0) (.op .fdiv (.ix (.var 1) (.int 0)) (.int 65536))) (.cons (.asg (.nm 6) (.op .mod (.op .add (.op .add (.var 4) (.op .mul (.int 40503) (.var 5))) (.op .mul (.int 104729) (.var 3))) (.int 4294967291))) (.cons (.asg (.nm 6) (.op .mod (.op .mul (.op .mod (.op .mul (.var 6) (.var 6)) (.int 4294967279)) (.int 48271)) (.int 4294967291))) (.cons (.asg (.nm 7) (.op .mod (.op .mul (.op .mod (.op .mul (.var 6) (.var 6)) (.int 4294967279)) (.int 69621)) (.int 4294967291))) (.cons (.ret (.op .mod (.op .add (.op .mul (.op .fdiv (.var 6) (.int 64)) (.int 67108864)) (.op .fdiv (.var 7) (.int 64))) (.var 2))) (.nil))))))))))⟩
/-- 36 -/
def d__law_entries : Def := ⟨q "_law_entries", 3, [q "_law_script", q "_law_state", q "_law_collection_here", q "_law_some", q "_law_one"], .cons (.asg (.nm 3) (.call 7 (.cons (.var 0) (.cons (.var 1) (.cons (.new (.lst (.cons (.new (.lst (.cons (.non) (.cons (.non) (.cons (.int 0) (.cons (.int 1) (.nil))))))) (.cons (.new (.lst (.cons (.non) (.cons (.int 0) (.cons (.int 1) (.nil)))))) (.cons (.new (.lst (.cons (.non) (.nil)))) (.nil)))))) (.nil)))))) (.cons (.ret (.toT (.new (.cmp (.call 7 (.cons (.var 0) (.cons (.var 1) (.cons (.var 3) (.nil))))) (.nm 4) [4] (.ex (.var 2)) (.bl true))))) (.nil))⟩
/-- 183 -/
def d__law_fewest_questions_or : Def := ⟨q "_law_fewest_questions_or", 5, [q "_law_collection_here", q "_law_entries_here", q "_law_one", q "_law_other", q "_law_measure_here"], .cons (.try_ (.cons (.ret (.call 100 (.cons (.var 0) (.cons (.var 1) (.cons (.var 2) (.cons (.var 3) (.cons (.var 4) (.nil)))))))) (.nil)) [(12, q "InvalidCollection"), (20, q "InvalidJudgements"), (40, q "InvalidRanking"), (41, q "InvalidMeasure")]) (.nil)⟩
/-- 185 -/
def d__law_format_ranking_or : Def := ⟨q "_law_format_ranking_or", 2, [q "_law_collection_here", q "_law_ranking_here"], .cons (.try_ (.cons (.ret (.call 166 (.cons (.var 0) (.cons (.var 1) (.nil))))) (.nil)) [(12, q "InvalidCollection"), (40, q "InvalidRanking")]) (.nil)⟩
/-- 49 -/
def d__law_fraction : Def := ⟨q "_law_fraction", 2, [q "_law_top", q "_law_bottom", q "_law_one", q "_law_other"], .cons (.ite (.cmp .eq (.var 1) (.int 0)) (.cons (.ret (.tup (.cons (.int 0) (.cons (.int 1) (.nil))))) (.nil)) (.nil)) (.cons (.par [2, 3] (.cons (.var 0) (.cons (.var 1) (.nil)))) (.cons (.whl (.var 3) (.cons (.par [2, 3] (.cons (.var 3) (.cons (.op .mod (.var 2) (.var 3)) (.nil)))) (.nil))) (.cons (.ret (.tup (.cons (.op .fdiv (.var 0) (.var 2)) (.cons (.op .fdiv (.var 1) (.var 2)) (.nil))))) (.nil))))⟩
/-- 51 -/
def d__law_full : Def := ⟨q "_law_full", 3, [q "_law_script", q "_law_state", q "_law_collection_here", q "_law_one"], .cons (.ret (.toT (.new (.cmp (.call 8 (.cons (.var 0) (.cons (.var 1) (.cons (.int 2) (.nil))))) (.nm 3) [3] (.ex (.var 2)) (.bl true))))) (.nil)⟩
/-- 178 -/
def d__law_greatest_or : Def := ⟨q "_law_greatest_or", 4, [q "_law_collection_here", q "_law_entries_here", q "_law_ranking_here", q "_law_measure_here"], .cons (.try_ (.cons (.ret (.call 63 (.cons (.var 0) (.cons (.var 1) (.cons (.var 2) (.cons (.var 3) (.nil))))))) (.nil)) [(12, q "InvalidCollection"), (20, q "InvalidJudgements"), (40, q "InvalidRanking"), (41, q "InvalidMeasure")]) (.nil)⟩
/-- 156 -/
def d__law_joined_or : Def := ⟨q "_law_joined_or", 3, [q "_law_collection_here", q "_law_one", q "_law_other"], .cons (.try_ (.cons (.ret (.call 159 (.cons (.var 0) (.cons (.var 1) (.cons (.var 2) (.nil)))))) (.nil)) [(12, q "InvalidCollection"), (20, q "InvalidJudgements"), (153, q "Conflict")]) (.nil)⟩
/-- 179 -/
def d__law_least_or : Def := ⟨q "_law_least_or", 4, [q "_law_collection_here", q "_law_entries_here", q "_law_ranking_here", q "_law_measure_here"], .cons (.try_ (.cons (.ret (.call 62 (.cons (.var 0) (.cons (.var 1) (.cons (.var 2) (.cons (.var 3) (.nil))))))) (.nil)) [(12, q "InvalidCollection"), (20, q "InvalidJudgements"), (40, q "InvalidRanking"), (41, q "InvalidMeasure")]) (.nil)⟩
/-- 145 -/
def d__law_left_to_judge_or : Def := ⟨q "_law_left_to_judge_or", 4, [q "_law_collection_here", q "_law_entries_here", q "_law_rows", q "_law_depth"], .cons (.try_ (.cons (.ret (.call 149 (.cons (.var 0) (.cons (.var 1) (.cons (.var 2) (.cons (.var 3) (.nil))))))) (.nil)) [(12, q "InvalidCollection"), (20, q "InvalidJudgements"), (79, q "InvalidRankings"), (138, q "InvalidDepth")]) (.nil)⟩
/-- 158 -/
def d__law_majority_or : Def := ⟨q "_law_majority_or", 2, [q "_law_collection_here", q "_law_people"], .cons (.try_ (.cons (.ret (.call 161 (.cons (.var 0) (.cons (.var 1) (.nil))))) (.nil)) [(12, q "InvalidCollection"), (154, q "InvalidJudges")]) (.nil)⟩
/-- 1 -/
def d__law_measure : Def := ⟨q "_law_measure", 2, [q "_law_script", q "_law_state", q "_law_kind"], .cons (.asg (.nm 2) (.call 7 (.cons (.var 0) (.cons (.var 1) (.cons (.new (.lst (.cons (.str (q "average")) (.cons (.str (q "average")) (.cons (.str (q "reciprocal")) (.cons (.str (q "precision")) (.cons (.str (q "recall")) (.cons (.str (q "gain")) (.cons (.str (q "share")) (.nil)))))))))) (.nil)))))) (.cons (.ret (.ite (.cmp .in_ (.var 2) (.tup (.cons (.str (q "average")) (.cons (.str (q "reciprocal")) (.nil))))) (.tup (.cons (.var 2) (.nil))) (.tup (.cons (.var 2) (.cons (.op .add (.int 1) (.call 8 (.cons (.var 0) (.cons (.var 1) (.cons (.int 5) (.nil)))))) (.nil)))))) (.nil))⟩
/-- 122 -/
def d__law_odds : Def := ⟨q "_law_odds", 3, [q "_law_script", q "_law_state", q "_law_collection_here", q "_law_found", q "_law_one", q "_law_bottom", q "_law_top", q "_law_left", q "_law_other"], .cons (.asg (.nm 3) (.box (.lst (.nil)))) (.cons (.for_ (.nm 4) (.ex (.var 2)) (.cons (.asg (.nm 5) (.call 7 (.cons (.var 0) (.cons (.var 1) (.cons (.new (.lst (.cons (.int 1) (.cons (.int 2) (.cons (.int 3) (.cons (.int 4) (.cons (.int 10) (.cons (.int 20) (.nil))))))))) (.nil)))))) (.cons (.par [6, 7] (.cons (.call 8 (.cons (.var 0) (.cons (.var 1) (.cons (.op .add (.var 5) (.int 1)) (.nil))))) (.cons (.var 5) (.nil)))) (.cons (.par [4, 8] (.cons (.var 6) (.cons (.var 5) (.nil)))) (.cons (.whl (.var 8) (.cons (.par [4, 8] (.cons (.var 8) (.cons (.op .mod (.var 4) (.var 8)) (.nil)))) (.nil))) (.cons (.ex (.app (.var 3) (.tup (.cons (.op .fdiv (.var 6) (.var 4)) (.cons (.op .fdiv (.var 7) (.var 4)) (.nil)))))) (.nil))))))) (.cons (.frz 3) (.cons (.ret (.toT (.var 3))) (.nil))))⟩
/-- 175 -/
def d__law_orders : Def := ⟨q "_law_orders", 1, [q "_law_collection_here", q "_law_rows", q "_law_step", q "_law_longer", q "_law_row", q "_law_one"], .cons (.asg (.nm 1) (.new (.lst (.cons (.tup (.nil)) (.nil))))) (.cons (.for_ (.nm 2) (.ex (.var 0)) (.cons (.asg (.nm 3) (.new (.lst (.nil)))) (.cons (.for_ (.nm 4) (.ex (.var 1)) (.cons (.asg (.nm 3) (.new (.cat (.var 3) (.new (.cmp (.op .add (.var 4) (.tup (.cons (.var 5) (.nil)))) (.nm 5) [5] (.ex (.var 0)) (.cmp .notIn (.var 5) (.var 4))))))) (.nil))) (.cons (.asg (.nm 1) (.var 3)) (.nil))))) (.cons (.ret (.var 1)) (.nil)))⟩
/-- 7 -/
def d__law_pick : Def := ⟨q "_law_pick", 3, [q "_law_script", q "_law_state", q "_law_some"], .cons (.ret (.ix (.var 2) (.call 8 (.cons (.var 0) (.cons (.var 1) (.cons (.blt .len (.cons (.var 2) (.nil))) (.nil))))))) (.nil)⟩
/-- 133 -/
def d__law_plus : Def := ⟨q "_law_plus", 2, [q "_law_one", q "_law_other"], .cons (.ret (.call 49 (.cons (.op .add (.op .mul (.ix (.var 0) (.int 0)) (.ix (.var 1) (.int 1))) (.op .mul (.ix (.var 1) (.int 0)) (.ix (.var 0) (.int 1)))) (.cons (.op .mul (.ix (.var 0) (.int 1)) (.ix (.var 1) (.int 1))) (.nil))))) (.nil)⟩
/-- 143 -/
def d__law_pool_or : Def := ⟨q "_law_pool_or", 3, [q "_law_collection_here", q "_law_rows", q "_law_depth"], .cons (.try_ (.cons (.ret (.call 147 (.cons (.var 0) (.cons (.var 1) (.cons (.var 2) (.nil)))))) (.nil)) [(12, q "InvalidCollection"), (79, q "InvalidRankings"), (138, q "InvalidDepth")]) (.nil)⟩
/-- 18 -/
def d__law_ranking : Def := ⟨q "_law_ranking", 3, [q "_law_script", q "_law_state", q "_law_collection_here", q "_law_rows", q "_law_many"], .cons (.asg (.nm 3) (.call 15 (.cons (.var 0) (.cons (.var 1) (.cons (.var 2) (.nil)))))) (.cons (.asg (.nm 4) (.call 7 (.cons (.var 0) (.cons (.var 1) (.cons (.new (.lst (.cons (.blt .len (.cons (.var 3) (.nil))) (.cons (.blt .len (.cons (.var 3) (.nil))) (.cons (.call 8 (.cons (.var 0) (.cons (.var 1) (.cons (.op .add (.blt .len (.cons (.var 3) (.nil))) (.int 1)) (.nil))))) (.nil)))))) (.nil)))))) (.cons (.ret (.toT (.new (.slT (.var 3) (.var 4))))) (.nil)))⟩
/-- 184 -/
def d__law_regret_or : Def := ⟨q "_law_regret_or", 4, [q "_law_collection_here", q "_law_entries_here", q "_law_ranking_here", q "_law_measure_here"], .cons (.try_ (.cons (.ret (.call 116 (.cons (.var 0) (.cons (.var 1) (.cons (.var 2) (.cons (.var 3) (.nil))))))) (.nil)) [(12, q "InvalidCollection"), (20, q "InvalidJudgements"), (40, q "InvalidRanking"), (41, q "InvalidMeasure")]) (.nil)⟩
/-- 92 -/
def d__law_rest : Def := ⟨q "_law_rest", 2, [q "_law_collection_here", q "_law_entries_here", q "_law_one", q "_law_entry"], .cons (.ret (.toT (.new (.cmp (.var 2) (.tp [2, 3]) [2, 3] (.z2 (.var 0) (.var 1)) (.cmp .is (.var 3) (.non)))))) (.nil)⟩
/-- 28 -/
def d__law_same : Def := ⟨q "_law_same", 2, [q "_law_got", q "_law_due", q "_law_one", q "_law_other"], .cons (.ite (.cmp .is (.var 1) (.non)) (.cons (.ret (.cmp .is (.var 0) (.non))) (.nil)) (.nil)) (.cons (.ite (.isi (.var 1) .bool) (.cons (.ret (.and (.cons (.isi (.var 0) .bool) (.cons (.cmp .eq (.var 0) (.var 1)) (.nil))))) (.nil)) (.nil)) (.cons (.ite (.isi (.var 1) .tuple) (.cons (.ite (.or (.cons (.nt (.isi (.var 0) .tuple)) (.cons (.cmp .ne (.blt .len (.cons (.var 0) (.nil))) (.blt .len (.cons (.var 1) (.nil)))) (.nil)))) (.cons (.ret (.bl false)) (.nil)) (.nil)) (.cons (.ret (.blt .all (.cons (.new (.cmp (.call 28 (.cons (.var 2) (.cons (.var 3) (.nil)))) (.tp [2, 3]) [2, 3] (.z2 (.var 0) (.var 1)) (.bl true))) (.nil)))) (.nil))) (.nil)) (.cons (.ite (.isi (.var 1) .str) (.cons (.ret (.and (.cons (.isi (.var 0) .str) (.cons (.cmp .eq (.var 0) (.var 1)) (.nil))))) (.nil)) (.nil)) (.cons (.ret (.and (.cons (.isi (.var 0) .int) (.cons (.nt (.isi (.var 0) .bool)) (.cons (.cmp .eq (.var 0) (.var 1)) (.nil)))))) (.nil)))))⟩
/-- 94 -/
def d__law_settles : Def := ⟨q "_law_settles", 4, [q "_law_collection_here", q "_law_signs_here", q "_law_entries_here", q "_law_some", q "_law_answers_here"], .cons (.for_ (.nm 4) (.ex (.call 88 (.cons (.blt .len (.cons (.var 3) (.nil))) (.nil)))) (.cons (.ite (.nt (.call 89 (.cons (.var 1) (.cons (.call 90 (.cons (.var 0) (.cons (.var 2) (.cons (.var 3) (.cons (.var 4) (.nil)))))) (.nil))))) (.cons (.ret (.bl false)) (.nil)) (.nil)) (.nil))) (.cons (.ret (.bl true)) (.nil))⟩
/-- 181 -/
def d__law_settling_sets_or : Def := ⟨q "_law_settling_sets_or", 5, [q "_law_collection_here", q "_law_entries_here", q "_law_one", q "_law_other", q "_law_measure_here"], .cons (.try_ (.cons (.ret (.call 97 (.cons (.var 0) (.cons (.var 1) (.cons (.var 2) (.cons (.var 3) (.cons (.var 4) (.nil)))))))) (.nil)) [(12, q "InvalidCollection"), (20, q "InvalidJudgements"), (40, q "InvalidRanking"), (41, q "InvalidMeasure")]) (.nil)⟩
/-- 15 -/
def d__law_shuffled : Def := ⟨q "_law_shuffled", 3, [q "_law_script", q "_law_state", q "_law_things", q "_law_rest", q "_law_found"], .cons (.par [3, 4] (.cons (.box (.toL (.var 2))) (.cons (.box (.lst (.nil))) (.nil)))) (.cons (.whl (.var 3) (.cons (.ex (.app (.var 4) (.pop (.var 3) (.call 8 (.cons (.var 0) (.cons (.var 1) (.cons (.blt .len (.cons (.var 3) (.nil))) (.nil)))))))) (.nil))) (.cons (.frz 4) (.cons (.ret (.var 4)) (.nil))))⟩
/-- 182 -/
def d__law_sure_order_or : Def := ⟨q "_law_sure_order_or", 4, [q "_law_collection_here", q "_law_entries_here", q "_law_rows", q "_law_measure_here"], .cons (.try_ (.cons (.ret (.call 81 (.cons (.var 0) (.cons (.var 1) (.cons (.var 2) (.cons (.var 3) (.nil))))))) (.nil)) [(12, q "InvalidCollection"), (20, q "InvalidJudgements"), (79, q "InvalidRankings"), (41, q "InvalidMeasure")]) (.nil)⟩
/-- 29 -/
def d__law_with_judgement_or : Def := ⟨q "_law_with_judgement_or", 4, [q "_law_collection_here", q "_law_entries_here", q "_law_document", q "_law_entry"], .cons (.try_ (.cons (.ret (.call 32 (.cons (.var 0) (.cons (.var 1) (.cons (.var 2) (.cons (.var 3) (.nil))))))) (.nil)) [(12, q "InvalidCollection"), (20, q "InvalidJudgements"), (24, q "InvalidDocument"), (26, q "InvalidEntry")]) (.nil)⟩
/-- 43 -/
def d_added : Def := ⟨q "added", 2, [q "one", q "other"], .cons (.ret (.call 42 (.cons (.op .add (.op .mul (.ix (.var 0) (.int 0)) (.ix (.var 1) (.int 1))) (.op .mul (.ix (.var 1) (.int 0)) (.ix (.var 0) (.int 1)))) (.cons (.op .mul (.ix (.var 0) (.int 1)) (.ix (.var 1) (.int 1))) (.nil))))) (.nil)⟩
/-- 160 -/
def d_agreement : Def := ⟨q "agreement", 3, [q "collection", q "one", q "other", q "rows", q "document", q "left", q "right"], .cons (.ex (.call 150 (.cons (.var 0) (.cons (.var 1) (.cons (.var 2) (.nil)))))) (.cons (.asg (.nm 3) (.call 151 (.cons (.var 0) (.cons (.var 1) (.cons (.var 2) (.nil)))))) (.cons (.ite (.nt (.var 3)) (.cons (.ret (.non)) (.nil)) (.nil)) (.cons (.ret (.call 42 (.cons (.blt .len (.cons (.new (.cmp (.int 1) (.tp [4, 5, 6]) [4, 5, 6] (.ex (.var 3)) (.cmp .eq (.var 5) (.var 6)))) (.nil))) (.cons (.blt .len (.cons (.var 3) (.nil))) (.nil))))) (.nil))))⟩
/-- 121 -/
def d_are_chances : Def := ⟨q "are_chances", 2, [q "collection", q "candidate"], .cons (.ex (.call 13 (.cons (.var 0) (.nil)))) (.cons (.ret (.call 120 (.cons (.var 0) (.cons (.var 1) (.nil))))) (.nil))⟩
/-- 35 -/
def d_are_judgements : Def := ⟨q "are_judgements", 2, [q "collection", q "candidate"], .cons (.ex (.call 13 (.cons (.var 0) (.nil)))) (.cons (.ret (.call 19 (.cons (.var 0) (.cons (.var 1) (.nil))))) (.nil))⟩
/-- 120 -/
def d_are_valid_chances : Def := ⟨q "are_valid_chances", 2, [q "collection", q "candidate", q "one"], .cons (.ite (.or (.cons (.nt (.isi (.var 1) .tuple)) (.cons (.cmp .ne (.blt .len (.cons (.var 1) (.nil))) (.blt .len (.cons (.var 0) (.nil)))) (.nil)))) (.cons (.ret (.bl false)) (.nil)) (.nil)) (.cons (.ret (.blt .all (.cons (.new (.cmp (.call 119 (.cons (.var 2) (.nil))) (.nm 2) [2] (.ex (.var 1)) (.bl true))) (.nil)))) (.nil))⟩
/-- 19 -/
def d_are_valid_judgements : Def := ⟨q "are_valid_judgements", 2, [q "collection", q "candidate", q "entry"], .cons (.ite (.or (.cons (.nt (.isi (.var 1) .tuple)) (.cons (.cmp .ne (.blt .len (.cons (.var 1) (.nil))) (.blt .len (.cons (.var 0) (.nil)))) (.nil)))) (.cons (.ret (.bl false)) (.nil)) (.nil)) (.cons (.ret (.blt .all (.cons (.new (.cmp (.or (.cons (.cmp .is (.var 2) (.non)) (.cons (.call 6 (.cons (.var 2) (.cons (.int 0) (.cons (.int 1) (.nil))))) (.nil)))) (.nm 2) [2] (.ex (.var 1)) (.bl true))) (.nil)))) (.nil))⟩
/-- 68 -/
def d_assumed : Def := ⟨q "assumed", 2, [q "collection", q "judgements", q "entry"], .cons (.ex (.call 21 (.cons (.var 0) (.cons (.var 1) (.nil))))) (.cons (.ret (.toT (.new (.cmp (.ite (.cmp .is (.var 2) (.non)) (.int 0) (.var 2)) (.nm 2) [2] (.ex (.var 1)) (.bl true))))) (.nil))⟩
/-- 210 -/
def d_average_of : Def := ⟨q "average_of", 2, [q "hits", q "relevant", q "total", q "found", q "spot", q "hit"], .cons (.par [2, 3] (.cons (.tup (.cons (.int 0) (.cons (.int 1) (.nil)))) (.cons (.int 0) (.nil)))) (.cons (.for_ (.tp [4, 5]) (.en (.var 0)) (.cons (.aug 3 (.var 5)) (.cons (.asg (.nm 2) (.call 43 (.cons (.var 2) (.cons (.tup (.cons (.op .mul (.var 5) (.var 3)) (.cons (.op .add (.var 4) (.int 1)) (.nil)))) (.nil))))) (.nil)))) (.cons (.ret (.call 42 (.cons (.ix (.var 2) (.int 0)) (.cons (.op .mul (.ix (.var 2) (.int 1)) (.var 1)) (.nil))))) (.nil)))⟩
/-- 107 -/
def d_best_ranking : Def := ⟨q "best_ranking", 2, [q "collection", q "judgements"], .cons (.ex (.call 21 (.cons (.var 0) (.cons (.var 1) (.nil))))) (.cons (.ex (.call 47 (.cons (.var 1) (.nil)))) (.cons (.ret (.call 54 (.cons (.var 0) (.cons (.var 1) (.nil))))) (.nil)))⟩
/-- 103 -/
def d_best_value : Def := ⟨q "best_value", 3, [q "collection", q "completion", q "measure"], .cons (.ret (.call 48 (.cons (.var 0) (.cons (.var 1) (.cons (.call 54 (.cons (.var 0) (.cons (.var 1) (.nil)))) (.cons (.var 2) (.nil))))))) (.nil)⟩
/-- 130 -/
def d_chance_better : Def := ⟨q "chance_better", 6, [q "collection", q "judgements", q "chances", q "one", q "other", q "measure"], .cons (.ret (.call 128 (.cons (.var 0) (.cons (.var 1) (.cons (.var 2) (.cons (.var 3) (.cons (.var 4) (.cons (.var 5) (.cons (.int 1) (.nil)))))))))) (.nil)⟩
/-- 131 -/
def d_chance_equal : Def := ⟨q "chance_equal", 6, [q "collection", q "judgements", q "chances", q "one", q "other", q "measure"], .cons (.ret (.call 128 (.cons (.var 0) (.cons (.var 1) (.cons (.var 2) (.cons (.var 3) (.cons (.var 4) (.cons (.var 5) (.cons (.int 0) (.nil)))))))))) (.nil)⟩
/-- 128 -/
def d_chance_of_sign : Def := ⟨q "chance_of_sign", 7, [q "collection", q "judgements", q "chances", q "one", q "other", q "measure", q "sign", q "total", q "row", q "weight"], .cons (.ex (.call 125 (.cons (.var 0) (.cons (.var 1) (.cons (.var 2) (.nil)))))) (.cons (.ex (.call 45 (.cons (.var 0) (.cons (.var 3) (.nil))))) (.cons (.ex (.call 45 (.cons (.var 0) (.cons (.var 4) (.nil))))) (.cons (.ex (.call 46 (.cons (.var 5) (.nil)))) (.cons (.asg (.nm 7) (.tup (.cons (.int 0) (.cons (.int 1) (.nil))))) (.cons (.for_ (.tp [8, 9]) (.ex (.call 126 (.cons (.var 1) (.cons (.var 2) (.nil))))) (.cons (.ite (.cmp .eq (.call 72 (.cons (.var 0) (.cons (.var 8) (.cons (.var 3) (.cons (.var 4) (.cons (.var 5) (.nil))))))) (.var 6)) (.cons (.asg (.nm 7) (.call 43 (.cons (.var 7) (.cons (.var 9) (.nil))))) (.nil)) (.nil)) (.nil))) (.cons (.ret (.var 7)) (.nil)))))))⟩
/-- 60 -/
def d_checked_values : Def := ⟨q "checked_values", 4, [q "collection", q "judgements", q "ranking", q "measure"], .cons (.ex (.call 21 (.cons (.var 0) (.cons (.var 1) (.nil))))) (.cons (.ex (.call 45 (.cons (.var 0) (.cons (.var 2) (.nil))))) (.cons (.ex (.call 46 (.cons (.var 3) (.nil)))) (.cons (.ret (.call 58 (.cons (.var 0) (.cons (.var 1) (.cons (.var 2) (.cons (.var 3) (.nil))))))) (.nil))))⟩
/-- 74 -/
def d_compare : Def := ⟨q "compare", 5, [q "collection", q "judgements", q "one", q "other", q "measure"], .cons (.ex (.call 70 (.cons (.var 0) (.cons (.var 1) (.cons (.var 2) (.cons (.var 3) (.cons (.var 4) (.nil)))))))) (.cons (.ret (.call 71 (.cons (.var 0) (.cons (.var 1) (.cons (.var 2) (.cons (.var 3) (.cons (.var 4) (.nil)))))))) (.nil))⟩
/-- 76 -/
def d_completion_against : Def := ⟨q "completion_against", 5, [q "collection", q "judgements", q "one", q "other", q "measure"], .cons (.ex (.call 70 (.cons (.var 0) (.cons (.var 1) (.cons (.var 2) (.cons (.var 3) (.cons (.var 4) (.nil)))))))) (.cons (.ret (.call 73 (.cons (.var 0) (.cons (.var 1) (.cons (.var 2) (.cons (.var 3) (.cons (.var 4) (.nil)))))))) (.nil))⟩
/-- 33 -/
def d_completions : Def := ⟨q "completions", 2, [q "collection", q "judgements"], .cons (.ex (.call 21 (.cons (.var 0) (.cons (.var 1) (.nil))))) (.cons (.ret (.call 22 (.cons (.var 1) (.nil)))) (.nil))⟩
/-- 139 -/
def d_count_in : Def := ⟨q "count_in", 3, [q "rankings", q "depth", q "document", q "ranking"], .cons (.ret (.blt .len (.cons (.new (.cmp (.int 1) (.nm 3) [3] (.ex (.var 0)) (.cmp .in_ (.var 2) (.slT (.var 3) (.var 1))))) (.nil)))) (.nil)⟩
/-- 152 -/
def d_differences : Def := ⟨q "differences", 3, [q "collection", q "one", q "other", q "document", q "left", q "right"], .cons (.ex (.call 150 (.cons (.var 0) (.cons (.var 1) (.cons (.var 2) (.nil)))))) (.cons (.ret (.new (.cmp (.var 3) (.tp [3, 4, 5]) [3, 4, 5] (.ex (.call 151 (.cons (.var 0) (.cons (.var 1) (.cons (.var 2) (.nil)))))) (.cmp .ne (.var 4) (.var 5))))) (.nil))⟩
/-- 91 -/
def d_does_settle : Def := ⟨q "does_settle", 6, [q "collection", q "judgements", q "one", q "other", q "measure", q "documents", q "rest"], .cons (.ex (.call 70 (.cons (.var 0) (.cons (.var 1) (.cons (.var 2) (.cons (.var 3) (.cons (.var 4) (.nil)))))))) (.cons (.asg (.nm 6) (.call 23 (.cons (.var 0) (.cons (.var 1) (.nil))))) (.cons (.ite (.or (.cons (.nt (.isi (.var 5) .tuple)) (.cons (.nt (.blt .all (.cons (.new (.cmp (.and (.cons (.isi (.var 2) .str) (.cons (.cmp .in_ (.var 2) (.var 6)) (.nil)))) (.nm 2) [2] (.ex (.var 5)) (.bl true))) (.nil)))) (.nil)))) (.cons (.rse 85) (.nil)) (.nil)) (.cons (.ite (.nt (.call 9 (.cons (.var 5) (.nil)))) (.cons (.rse 85) (.nil)) (.nil)) (.cons (.ret (.call 86 (.cons (.var 0) (.cons (.call 87 (.cons (.var 0) (.cons (.var 1) (.cons (.var 2) (.cons (.var 3) (.cons (.var 4) (.nil))))))) (.cons (.var 1) (.cons (.var 5) (.nil))))))) (.nil)))))⟩
/-- 129 -/
def d_expected : Def := ⟨q "expected", 5, [q "collection", q "judgements", q "chances", q "ranking", q "measure", q "total", q "row", q "weight"], .cons (.ex (.call 125 (.cons (.var 0) (.cons (.var 1) (.cons (.var 2) (.nil)))))) (.cons (.ex (.call 45 (.cons (.var 0) (.cons (.var 3) (.nil))))) (.cons (.ex (.call 46 (.cons (.var 4) (.nil)))) (.cons (.asg (.nm 5) (.tup (.cons (.int 0) (.cons (.int 1) (.nil))))) (.cons (.for_ (.tp [6, 7]) (.ex (.call 126 (.cons (.var 1) (.cons (.var 2) (.nil))))) (.cons (.asg (.nm 5) (.call 43 (.cons (.var 5) (.cons (.call 127 (.cons (.var 7) (.cons (.call 48 (.cons (.var 0) (.cons (.var 6) (.cons (.var 3) (.cons (.var 4) (.nil)))))) (.nil)))) (.nil))))) (.nil))) (.cons (.ret (.var 5)) (.nil))))))⟩
/-- 73 -/
def d_first_against : Def := ⟨q "first_against", 5, [q "collection", q "judgements", q "one", q "other", q "measure", q "row"], .cons (.for_ (.nm 5) (.ex (.call 22 (.cons (.var 1) (.nil)))) (.cons (.ite (.cmp .lt (.call 72 (.cons (.var 0) (.cons (.var 5) (.cons (.var 2) (.cons (.var 3) (.cons (.var 4) (.nil))))))) (.int 0)) (.cons (.ret (.var 5)) (.nil)) (.nil)) (.nil))) (.cons (.ret (.non)) (.nil))⟩
/-- 165 -/
def d_format_judgements : Def := ⟨q "format_judgements", 2, [q "collection", q "judgements"], .cons (.ex (.call 21 (.cons (.var 0) (.cons (.var 1) (.nil))))) (.cons (.ret (.call 164 (.cons (.var 0) (.cons (.var 1) (.nil))))) (.nil))⟩
/-- 209 -/
def d_gain_of : Def := ⟨q "gain_of", 1, [q "hits", q "total", q "spot", q "hit"], .cons (.asg (.nm 1) (.tup (.cons (.int 0) (.cons (.int 1) (.nil))))) (.cons (.for_ (.tp [2, 3]) (.en (.var 0)) (.cons (.asg (.nm 1) (.call 43 (.cons (.var 1) (.cons (.tup (.cons (.var 3) (.cons (.op .add (.var 2) (.int 1)) (.nil)))) (.nil))))) (.nil))) (.cons (.ret (.var 1)) (.nil)))⟩
/-- 63 -/
def d_greatest : Def := ⟨q "greatest", 4, [q "collection", q "judgements", q "ranking", q "measure"], .cons (.ret (.ix (.call 61 (.cons (.call 60 (.cons (.var 0) (.cons (.var 1) (.cons (.var 2) (.cons (.var 3) (.nil)))))) (.nil))) (.int 1))) (.nil)⟩
/-- 65 -/
def d_greatest_completion : Def := ⟨q "greatest_completion", 4, [q "collection", q "judgements", q "ranking", q "measure"], .cons (.ret (.ix (.call 61 (.cons (.call 60 (.cons (.var 0) (.cons (.var 1) (.cons (.var 2) (.cons (.var 3) (.nil)))))) (.nil))) (.int 0))) (.nil)⟩
/-- 61 -/
def d_highest : Def := ⟨q "highest", 1, [q "rows", q "best", q "row"], .cons (.asg (.nm 1) (.ix (.var 0) (.int 0))) (.cons (.for_ (.nm 2) (.ex (.var 0)) (.cons (.ite (.call 57 (.cons (.ix (.var 1) (.int 1)) (.cons (.ix (.var 2) (.int 1)) (.nil)))) (.cons (.asg (.nm 1) (.var 2)) (.nil)) (.nil)) (.nil))) (.cons (.ret (.var 1)) (.nil)))⟩
/-- 9 -/
def d_is_ascending : Def := ⟨q "is_ascending", 1, [q "row", q "one", q "other"], .cons (.ret (.blt .all (.cons (.new (.cmp (.cmp .lt (.var 1) (.var 2)) (.tp [1, 2]) [1, 2] (.z2 (.var 0) (.slF (.var 0) (.int 1))) (.bl true))) (.nil)))) (.nil)⟩
/-- 57 -/
def d_is_below : Def := ⟨q "is_below", 2, [q "one", q "other"], .cons (.ret (.cmp .lt (.op .mul (.ix (.var 0) (.int 0)) (.ix (.var 1) (.int 1))) (.op .mul (.ix (.var 1) (.int 0)) (.ix (.var 0) (.int 1))))) (.nil)⟩
/-- 106 -/
def d_is_best : Def := ⟨q "is_best", 4, [q "collection", q "judgements", q "ranking", q "measure"], .cons (.ex (.call 21 (.cons (.var 0) (.cons (.var 1) (.nil))))) (.cons (.ex (.call 45 (.cons (.var 0) (.cons (.var 2) (.nil))))) (.cons (.ex (.call 46 (.cons (.var 3) (.nil)))) (.cons (.ex (.call 47 (.cons (.var 1) (.nil)))) (.cons (.ret (.cmp .eq (.call 48 (.cons (.var 0) (.cons (.var 1) (.cons (.var 2) (.cons (.var 3) (.nil)))))) (.call 103 (.cons (.var 0) (.cons (.var 1) (.cons (.var 3) (.nil))))))) (.nil)))))⟩
/-- 119 -/
def d_is_chance : Def := ⟨q "is_chance", 1, [q "candidate"], .cons (.ite (.or (.cons (.nt (.isi (.var 0) .tuple)) (.cons (.cmp .ne (.blt .len (.cons (.var 0) (.nil))) (.int 2)) (.cons (.nt (.call 6 (.cons (.ix (.var 0) (.int 1)) (.cons (.int 1) (.cons (.int 20) (.nil)))))) (.nil))))) (.cons (.ret (.bl false)) (.nil)) (.nil)) (.cons (.ret (.and (.cons (.call 6 (.cons (.ix (.var 0) (.int 0)) (.cons (.int 0) (.cons (.ix (.var 0) (.int 1)) (.nil))))) (.cons (.cmp .eq (.call 42 (.cons (.ix (.var 0) (.int 0)) (.cons (.ix (.var 0) (.int 1)) (.nil)))) (.var 0)) (.nil))))) (.nil))⟩
/-- 11 -/
def d_is_collection : Def := ⟨q "is_collection", 1, [q "candidate", q "one"], .cons (.ite (.or (.cons (.nt (.isi (.var 0) .tuple)) (.cons (.nt (.chn .le .le (.int 1) (.blt .len (.cons (.var 0) (.nil))) (.int 7))) (.nil)))) (.cons (.ret (.bl false)) (.nil)) (.nil)) (.cons (.ret (.and (.cons (.blt .all (.cons (.new (.cmp (.call 10 (.cons (.var 1) (.nil))) (.nm 1) [1] (.ex (.var 0)) (.bl true))) (.nil))) (.cons (.call 9 (.cons (.var 0) (.nil))) (.nil))))) (.nil))⟩
/-- 10 -/
def d_is_document : Def := ⟨q "is_document", 1, [q "candidate", q "sign"], .cons (.ite (.or (.cons (.nt (.isi (.var 0) .str)) (.cons (.nt (.chn .le .le (.int 1) (.blt .len (.cons (.var 0) (.nil))) (.int 3))) (.nil)))) (.cons (.ret (.bl false)) (.nil)) (.nil)) (.cons (.ret (.blt .all (.cons (.new (.cmp (.chn .le .le (.str (q "a")) (.var 1) (.str (q "z"))) (.nm 1) [1] (.ex (.var 0)) (.bl true))) (.nil)))) (.nil))⟩
/-- 6 -/
def d_is_integer : Def := ⟨q "is_integer", 3, [q "candidate", q "least", q "most"], .cons (.ret (.and (.cons (.isi (.var 0) .int) (.cons (.nt (.isi (.var 0) .bool)) (.cons (.chn .le .le (.var 1) (.var 0) (.var 2)) (.nil)))))) (.nil)⟩
/-- 148 -/
def d_is_judged : Def := ⟨q "is_judged", 4, [q "collection", q "judgements", q "rankings", q "depth"], .cons (.ret (.cmp .eq (.call 142 (.cons (.var 0) (.cons (.var 1) (.cons (.var 2) (.cons (.var 3) (.nil)))))) (.new (.lst (.nil))))) (.nil)⟩
/-- 3 -/
def d_is_measure : Def := ⟨q "is_measure", 1, [q "candidate"], .cons (.ite (.or (.cons (.nt (.isi (.var 0) .tuple)) (.cons (.nt (.var 0)) (.cons (.nt (.isi (.ix (.var 0) (.int 0)) .str)) (.nil))))) (.cons (.ret (.bl false)) (.nil)) (.nil)) (.cons (.ite (.cmp .eq (.blt .len (.cons (.var 0) (.nil))) (.int 1)) (.cons (.ret (.cmp .in_ (.ix (.var 0) (.int 0)) (.tup (.cons (.str (q "reciprocal")) (.cons (.str (q "average")) (.nil)))))) (.nil)) (.nil)) (.cons (.ite (.or (.cons (.cmp .ne (.blt .len (.cons (.var 0) (.nil))) (.int 2)) (.cons (.cmp .notIn (.ix (.var 0) (.int 0)) (.tup (.cons (.str (q "precision")) (.cons (.str (q "recall")) (.cons (.str (q "gain")) (.cons (.str (q "share")) (.nil))))))) (.nil)))) (.cons (.ret (.bl false)) (.nil)) (.nil)) (.cons (.ret (.call 6 (.cons (.ix (.var 0) (.int 1)) (.cons (.int 1) (.cons (.int 7) (.nil)))))) (.nil))))⟩
/-- 75 -/
def d_is_never_worse : Def := ⟨q "is_never_worse", 5, [q "collection", q "judgements", q "one", q "other", q "measure"], .cons (.ex (.call 70 (.cons (.var 0) (.cons (.var 1) (.cons (.var 2) (.cons (.var 3) (.cons (.var 4) (.nil)))))))) (.cons (.ret (.cmp .is (.call 73 (.cons (.var 0) (.cons (.var 1) (.cons (.var 2) (.cons (.var 3) (.cons (.var 4) (.nil))))))) (.non))) (.nil))⟩
/-- 16 -/
def d_is_ranking : Def := ⟨q "is_ranking", 2, [q "collection", q "candidate"], .cons (.ex (.call 13 (.cons (.var 0) (.nil)))) (.cons (.ret (.call 14 (.cons (.var 0) (.cons (.var 1) (.nil))))) (.nil))⟩
/-- 159 -/
def d_joined : Def := ⟨q "joined", 3, [q "collection", q "one", q "other", q "left", q "right"], .cons (.ite (.call 152 (.cons (.var 0) (.cons (.var 1) (.cons (.var 2) (.nil))))) (.cons (.rse 153) (.nil)) (.nil)) (.cons (.ret (.toT (.new (.cmp (.ite (.cmp .is (.var 3) (.non)) (.var 4) (.var 3)) (.tp [3, 4]) [3, 4] (.z2 (.var 1) (.var 2)) (.bl true))))) (.nil))⟩
/-- 62 -/
def d_least : Def := ⟨q "least", 4, [q "collection", q "judgements", q "ranking", q "measure"], .cons (.ret (.ix (.call 59 (.cons (.call 60 (.cons (.var 0) (.cons (.var 1) (.cons (.var 2) (.cons (.var 3) (.nil)))))) (.nil))) (.int 1))) (.nil)⟩
/-- 64 -/
def d_least_completion : Def := ⟨q "least_completion", 4, [q "collection", q "judgements", q "ranking", q "measure"], .cons (.ret (.ix (.call 59 (.cons (.call 60 (.cons (.var 0) (.cons (.var 1) (.cons (.var 2) (.cons (.var 3) (.nil)))))) (.nil))) (.int 0))) (.nil)⟩
/-- 117 -/
def d_least_regret : Def := ⟨q "least_regret", 3, [q "collection", q "judgements", q "measure", q "best", q "found", q "ranking", q "own"], .cons (.ex (.call 21 (.cons (.var 0) (.cons (.var 1) (.nil))))) (.cons (.ex (.call 46 (.cons (.var 2) (.nil)))) (.cons (.ite (.cmp .gt (.blt .len (.cons (.var 0) (.nil))) (.int 5)) (.cons (.rse 114) (.nil)) (.nil)) (.cons (.par [3, 4] (.cons (.tup (.cons (.int 2) (.cons (.int 1) (.nil)))) (.cons (.non) (.nil)))) (.cons (.for_ (.nm 5) (.ex (.call 115 (.cons (.var 0) (.nil)))) (.cons (.asg (.nm 6) (.call 113 (.cons (.var 0) (.cons (.var 1) (.cons (.var 5) (.cons (.var 2) (.nil))))))) (.cons (.ite (.call 57 (.cons (.var 6) (.cons (.var 3) (.nil)))) (.cons (.par [3, 4] (.cons (.var 6) (.cons (.var 5) (.nil)))) (.nil)) (.nil)) (.nil)))) (.cons (.ret (.var 4)) (.nil))))))⟩
/-- 112 -/
def d_less : Def := ⟨q "less", 2, [q "one", q "other"], .cons (.ret (.call 43 (.cons (.var 0) (.cons (.tup (.cons (.neg (.ix (.var 1) (.int 0))) (.cons (.ix (.var 1) (.int 1)) (.nil)))) (.nil))))) (.nil)⟩
/-- 59 -/
def d_lowest : Def := ⟨q "lowest", 1, [q "rows", q "best", q "row"], .cons (.asg (.nm 1) (.ix (.var 0) (.int 0))) (.cons (.for_ (.nm 2) (.ex (.var 0)) (.cons (.ite (.call 57 (.cons (.ix (.var 2) (.int 1)) (.cons (.ix (.var 1) (.int 1)) (.nil)))) (.cons (.asg (.nm 1) (.var 2)) (.nil)) (.nil)) (.nil))) (.cons (.ret (.var 1)) (.nil)))⟩
/-- 42 -/
def d_lowest_terms : Def := ⟨q "lowest_terms", 2, [q "top", q "bottom", q "one", q "other"], .cons (.ite (.cmp .eq (.var 1) (.int 0)) (.cons (.ret (.tup (.cons (.int 0) (.cons (.int 1) (.nil))))) (.nil)) (.nil)) (.cons (.par [2, 3] (.cons (.blt .abs (.cons (.var 0) (.nil))) (.cons (.var 1) (.nil)))) (.cons (.whl (.var 3) (.cons (.par [2, 3] (.cons (.var 3) (.cons (.op .mod (.var 2) (.var 3)) (.nil)))) (.nil))) (.cons (.ret (.tup (.cons (.op .fdiv (.var 0) (.var 2)) (.cons (.op .fdiv (.var 1) (.var 2)) (.nil))))) (.nil))))⟩
/-- 231 -/
def d_mark_of : Def := ⟨q "mark_of", 1, [q "entry"], .cons (.ret (.ite (.cmp .is (.var 0) (.non)) (.str (q "?")) (.ix (.str (q "-+")) (.var 0)))) (.nil)⟩
/-- 173 -/
def d_naive_average : Def := ⟨q "naive_average", 3, [q "collection", q "judgements", q "ranking", q "good", q "top", q "bottom", q "rank", q "found", q "document", q "entry"], .cons (.ex (.call 21 (.cons (.var 0) (.cons (.var 1) (.nil))))) (.cons (.ex (.call 45 (.cons (.var 0) (.cons (.var 2) (.nil))))) (.cons (.ex (.call 47 (.cons (.var 1) (.nil)))) (.cons (.asg (.nm 3) (.new (.cmp (.var 8) (.tp [8, 9]) [8, 9] (.z2 (.var 0) (.var 1)) (.cmp .eq (.var 9) (.int 1))))) (.cons (.par [4, 5] (.cons (.int 0) (.cons (.int 1) (.nil)))) (.cons (.for_ (.nm 6) (.r2 (.int 1) (.op .add (.blt .len (.cons (.var 2) (.nil))) (.int 1))) (.cons (.ite (.cmp .in_ (.ix (.var 2) (.op .sub (.var 6) (.int 1))) (.var 3)) (.cons (.asg (.nm 7) (.blt .len (.cons (.new (.cmp (.int 1) (.nm 8) [8] (.ex (.slT (.var 2) (.var 6))) (.cmp .in_ (.var 8) (.var 3)))) (.nil)))) (.cons (.par [4, 5] (.cons (.op .add (.op .mul (.var 4) (.var 6)) (.op .mul (.var 7) (.var 5))) (.cons (.op .mul (.var 5) (.var 6)) (.nil)))) (.nil))) (.nil)) (.nil))) (.cons (.ret (.call 42 (.cons (.var 4) (.cons (.op .mul (.var 5) (.blt .len (.cons (.var 3) (.nil)))) (.nil))))) (.nil)))))))⟩
/-- 174 -/
def d_naive_best_value : Def := ⟨q "naive_best_value", 3, [q "collection", q "judgements", q "measure", q "best", q "ranking", q "own"], .cons (.ex (.call 21 (.cons (.var 0) (.cons (.var 1) (.nil))))) (.cons (.ex (.call 46 (.cons (.var 2) (.nil)))) (.cons (.ex (.call 47 (.cons (.var 1) (.nil)))) (.cons (.ite (.cmp .gt (.blt .len (.cons (.var 0) (.nil))) (.int 5)) (.cons (.rse 114) (.nil)) (.nil)) (.cons (.asg (.nm 3) (.tup (.cons (.int 0) (.cons (.int 1) (.nil))))) (.cons (.for_ (.nm 4) (.ex (.call 115 (.cons (.var 0) (.nil)))) (.cons (.asg (.nm 5) (.call 48 (.cons (.var 0) (.cons (.var 1) (.cons (.var 4) (.cons (.var 2) (.nil))))))) (.cons (.ite (.call 57 (.cons (.var 3) (.cons (.var 5) (.nil)))) (.cons (.asg (.nm 3) (.var 5)) (.nil)) (.nil)) (.nil)))) (.cons (.ret (.var 3)) (.nil)))))))⟩
/-- 23 -/
def d_open_documents : Def := ⟨q "open_documents", 2, [q "collection", q "judgements", q "document", q "entry"], .cons (.ret (.toT (.new (.cmp (.var 2) (.tp [2, 3]) [2, 3] (.z2 (.var 0) (.var 1)) (.cmp .is (.var 3) (.non)))))) (.nil)⟩
/-- 142 -/
def d_open_in_pool : Def := ⟨q "open_in_pool", 4, [q "collection", q "judgements", q "rankings", q "depth", q "rest", q "document"], .cons (.ex (.call 21 (.cons (.var 0) (.cons (.var 1) (.nil))))) (.cons (.ex (.call 80 (.cons (.var 0) (.cons (.var 2) (.nil))))) (.cons (.ex (.call 140 (.cons (.var 3) (.nil)))) (.cons (.asg (.nm 4) (.call 23 (.cons (.var 0) (.cons (.var 1) (.nil))))) (.cons (.ret (.new (.cmp (.var 5) (.nm 5) [5] (.ex (.call 141 (.cons (.var 0) (.cons (.var 2) (.cons (.var 3) (.nil)))))) (.cmp .in_ (.var 5) (.var 4))))) (.nil)))))⟩
/-- 147 -/
def d_pool : Def := ⟨q "pool", 3, [q "collection", q "rankings", q "depth"], .cons (.ex (.call 13 (.cons (.var 0) (.nil)))) (.cons (.ex (.call 80 (.cons (.var 0) (.cons (.var 1) (.nil))))) (.cons (.ex (.call 140 (.cons (.var 2) (.nil)))) (.cons (.ret (.call 141 (.cons (.var 0) (.cons (.var 1) (.cons (.var 2) (.nil)))))) (.nil))))⟩
/-- 141 -/
def d_pool_of : Def := ⟨q "pool_of", 3, [q "collection", q "rankings", q "depth", q "document"], .cons (.ret (.toT (.new (.cmp (.var 3) (.nm 3) [3] (.ex (.var 0)) (.cmp .gt (.call 139 (.cons (.var 1) (.cons (.var 2) (.cons (.var 3) (.nil))))) (.int 0)))))) (.nil)⟩
/-- 66 -/
def d_possible_values : Def := ⟨q "possible_values", 4, [q "collection", q "judgements", q "ranking", q "measure", q "rows", q "rest", q "found", q "low", q "row"], .cons (.asg (.nm 4) (.call 60 (.cons (.var 0) (.cons (.var 1) (.cons (.var 2) (.cons (.var 3) (.nil))))))) (.cons (.par [5, 6] (.cons (.new (.cmp (.var 8) (.nm 8) [8] (.ex (.var 4)) (.bl true))) (.cons (.box (.lst (.nil))) (.nil)))) (.cons (.whl (.var 5) (.cons (.asg (.nm 7) (.ix (.call 59 (.cons (.var 5) (.nil))) (.int 1))) (.cons (.ex (.app (.var 6) (.var 7))) (.cons (.asg (.nm 5) (.new (.cmp (.var 8) (.nm 8) [8] (.ex (.var 5)) (.cmp .ne (.ix (.var 8) (.int 1)) (.var 7))))) (.nil))))) (.cons (.frz 6) (.cons (.ret (.var 6)) (.nil)))))⟩
/-- 116 -/
def d_regret : Def := ⟨q "regret", 4, [q "collection", q "judgements", q "ranking", q "measure"], .cons (.ex (.call 21 (.cons (.var 0) (.cons (.var 1) (.nil))))) (.cons (.ex (.call 45 (.cons (.var 0) (.cons (.var 2) (.nil))))) (.cons (.ex (.call 46 (.cons (.var 3) (.nil)))) (.cons (.ret (.call 113 (.cons (.var 0) (.cons (.var 1) (.cons (.var 2) (.cons (.var 3) (.nil))))))) (.nil))))⟩
/-- 113 -/
def d_regret_of : Def := ⟨q "regret_of", 4, [q "collection", q "judgements", q "ranking", q "measure", q "found", q "row", q "lost"], .cons (.asg (.nm 4) (.tup (.cons (.int 0) (.cons (.int 1) (.nil))))) (.cons (.for_ (.nm 5) (.ex (.call 22 (.cons (.var 1) (.nil)))) (.cons (.asg (.nm 6) (.call 112 (.cons (.call 103 (.cons (.var 0) (.cons (.var 5) (.cons (.var 3) (.nil))))) (.cons (.call 48 (.cons (.var 0) (.cons (.var 5) (.cons (.var 2) (.cons (.var 3) (.nil)))))) (.nil))))) (.cons (.ite (.call 57 (.cons (.var 4) (.cons (.var 6) (.nil)))) (.cons (.asg (.nm 4) (.var 6)) (.nil)) (.nil)) (.nil)))) (.cons (.ret (.var 4)) (.nil)))⟩
/-- 125 -/
def d_require_chances : Def := ⟨q "require_chances", 3, [q "collection", q "judgements", q "chances"], .cons (.ex (.call 21 (.cons (.var 0) (.cons (.var 1) (.nil))))) (.cons (.ite (.nt (.call 120 (.cons (.var 0) (.cons (.var 2) (.nil))))) (.cons (.rse 124) (.nil)) (.nil)) (.nil))⟩
/-- 13 -/
def d_require_collection : Def := ⟨q "require_collection", 1, [q "collection"], .cons (.ite (.nt (.call 11 (.cons (.var 0) (.nil)))) (.cons (.rse 12) (.nil)) (.nil)) (.nil)⟩
/-- 47 -/
def d_require_complete : Def := ⟨q "require_complete", 1, [q "judgements"], .cons (.ite (.cmp .in_ (.non) (.var 0)) (.cons (.rse 44) (.nil)) (.nil)) (.nil)⟩
/-- 140 -/
def d_require_depth : Def := ⟨q "require_depth", 1, [q "depth"], .cons (.ite (.nt (.call 6 (.cons (.var 0) (.cons (.int 1) (.cons (.int 7) (.nil)))))) (.cons (.rse 138) (.nil)) (.nil)) (.nil)⟩
/-- 25 -/
def d_require_document : Def := ⟨q "require_document", 2, [q "collection", q "document"], .cons (.ite (.or (.cons (.nt (.isi (.var 1) .str)) (.cons (.cmp .notIn (.var 1) (.var 0)) (.nil)))) (.cons (.rse 24) (.nil)) (.nil)) (.nil)⟩
/-- 21 -/
def d_require_judgements : Def := ⟨q "require_judgements", 2, [q "collection", q "judgements"], .cons (.ex (.call 13 (.cons (.var 0) (.nil)))) (.cons (.ite (.nt (.call 19 (.cons (.var 0) (.cons (.var 1) (.nil))))) (.cons (.rse 20) (.nil)) (.nil)) (.nil))⟩
/-- 46 -/
def d_require_measure : Def := ⟨q "require_measure", 1, [q "measure"], .cons (.ite (.nt (.call 3 (.cons (.var 0) (.nil)))) (.cons (.rse 41) (.nil)) (.nil)) (.nil)⟩
/-- 150 -/
def d_require_pair : Def := ⟨q "require_pair", 3, [q "collection", q "one", q "other"], .cons (.ex (.call 13 (.cons (.var 0) (.nil)))) (.cons (.ite (.or (.cons (.nt (.call 19 (.cons (.var 0) (.cons (.var 1) (.nil))))) (.cons (.nt (.call 19 (.cons (.var 0) (.cons (.var 2) (.nil))))) (.nil)))) (.cons (.rse 20) (.nil)) (.nil)) (.nil))⟩
/-- 45 -/
def d_require_ranking : Def := ⟨q "require_ranking", 2, [q "collection", q "ranking"], .cons (.ite (.nt (.call 14 (.cons (.var 0) (.cons (.var 1) (.nil))))) (.cons (.rse 40) (.nil)) (.nil)) (.nil)⟩
/-- 80 -/
def d_require_rankings : Def := ⟨q "require_rankings", 2, [q "collection", q "rankings", q "one"], .cons (.ite (.or (.cons (.nt (.isi (.var 1) .list)) (.cons (.nt (.chn .le .le (.int 1) (.blt .len (.cons (.var 1) (.nil))) (.int 5))) (.nil)))) (.cons (.rse 79) (.nil)) (.nil)) (.cons (.ite (.nt (.blt .all (.cons (.new (.cmp (.call 14 (.cons (.var 0) (.cons (.var 2) (.nil)))) (.nm 2) [2] (.ex (.var 1)) (.bl true))) (.nil)))) (.cons (.rse 79) (.nil)) (.nil)) (.nil))⟩
/-- 70 -/
def d_require_two : Def := ⟨q "require_two", 5, [q "collection", q "judgements", q "one", q "other", q "measure"], .cons (.ex (.call 21 (.cons (.var 0) (.cons (.var 1) (.nil))))) (.cons (.ex (.call 45 (.cons (.var 0) (.cons (.var 2) (.nil))))) (.cons (.ex (.call 45 (.cons (.var 0) (.cons (.var 3) (.nil))))) (.cons (.ex (.call 46 (.cons (.var 4) (.nil)))) (.nil))))⟩
/-- 86 -/
def d_settles : Def := ⟨q "settles", 4, [q "collection", q "signs", q "judgements", q "documents", q "row"], .cons (.ret (.blt .all (.cons (.new (.cmp (.call 84 (.cons (.var 1) (.cons (.var 4) (.nil)))) (.nm 4) [4] (.ex (.call 83 (.cons (.var 0) (.cons (.var 2) (.cons (.var 3) (.nil)))))) (.bl true))) (.nil)))) (.nil)⟩
/-- 72 -/
def d_sign_of : Def := ⟨q "sign_of", 5, [q "collection", q "completion", q "one", q "other", q "measure", q "left", q "right"], .cons (.par [5, 6] (.cons (.call 48 (.cons (.var 0) (.cons (.var 1) (.cons (.var 2) (.cons (.var 4) (.nil)))))) (.cons (.call 48 (.cons (.var 0) (.cons (.var 1) (.cons (.var 3) (.cons (.var 4) (.nil)))))) (.nil)))) (.cons (.ret (.op .sub (.blt .int (.cons (.call 57 (.cons (.var 6) (.cons (.var 5) (.nil)))) (.nil))) (.blt .int (.cons (.call 57 (.cons (.var 5) (.cons (.var 6) (.nil)))) (.nil))))) (.nil))⟩
/-- 81 -/
def d_sure_order : Def := ⟨q "sure_order", 4, [q "collection", q "judgements", q "rankings", q "measure", q "found", q "spot", q "one", q "place", q "other"], .cons (.ex (.call 21 (.cons (.var 0) (.cons (.var 1) (.nil))))) (.cons (.ex (.call 80 (.cons (.var 0) (.cons (.var 2) (.nil))))) (.cons (.ex (.call 46 (.cons (.var 3) (.nil)))) (.cons (.asg (.nm 4) (.box (.lst (.nil)))) (.cons (.for_ (.tp [5, 6]) (.en (.var 2)) (.cons (.for_ (.tp [7, 8]) (.en (.var 2)) (.cons (.ite (.and (.cons (.cmp .ne (.var 5) (.var 7)) (.cons (.cmp .is (.call 73 (.cons (.var 0) (.cons (.var 1) (.cons (.var 6) (.cons (.var 8) (.cons (.var 3) (.nil))))))) (.non)) (.nil)))) (.cons (.ex (.app (.var 4) (.tup (.cons (.var 5) (.cons (.var 7) (.nil)))))) (.nil)) (.nil)) (.nil))) (.nil))) (.cons (.frz 4) (.cons (.ret (.var 4)) (.nil)))))))⟩
/-- 105 -/
def d_swapped : Def := ⟨q "swapped", 3, [q "collection", q "ranking", q "rank"], .cons (.ex (.call 13 (.cons (.var 0) (.nil)))) (.cons (.ex (.call 45 (.cons (.var 0) (.cons (.var 1) (.nil))))) (.cons (.ite (.nt (.call 6 (.cons (.var 2) (.cons (.int 1) (.cons (.op .sub (.blt .len (.cons (.var 1) (.nil))) (.int 1)) (.nil)))))) (.cons (.rse 104) (.nil)) (.nil)) (.cons (.ret (.op .add (.op .add (.slT (.var 1) (.op .sub (.var 2) (.int 1))) (.tup (.cons (.ix (.var 1) (.var 2)) (.cons (.ix (.var 1) (.op .sub (.var 2) (.int 1))) (.nil))))) (.slF (.var 1) (.op .add (.var 2) (.int 1))))) (.nil))))⟩
/-- 127 -/
def d_times : Def := ⟨q "times", 2, [q "one", q "other"], .cons (.ret (.call 42 (.cons (.op .mul (.ix (.var 0) (.int 0)) (.ix (.var 1) (.int 0))) (.cons (.op .mul (.ix (.var 0) (.int 1)) (.ix (.var 1) (.int 1))) (.nil))))) (.nil)⟩
/-- 34 -/
def d_unjudged : Def := ⟨q "unjudged", 2, [q "collection", q "judgements"], .cons (.ex (.call 21 (.cons (.var 0) (.cons (.var 1) (.nil))))) (.cons (.ret (.call 23 (.cons (.var 0) (.cons (.var 1) (.nil))))) (.nil))⟩
/-- 50 -/
def d_value : Def := ⟨q "value", 4, [q "collection", q "judgements", q "ranking", q "measure"], .cons (.ex (.call 21 (.cons (.var 0) (.cons (.var 1) (.nil))))) (.cons (.ex (.call 45 (.cons (.var 0) (.cons (.var 2) (.nil))))) (.cons (.ex (.call 46 (.cons (.var 3) (.nil)))) (.cons (.ex (.call 47 (.cons (.var 1) (.nil)))) (.cons (.ret (.call 48 (.cons (.var 0) (.cons (.var 1) (.cons (.var 2) (.cons (.var 3) (.nil))))))) (.nil)))))⟩
/-- 58 -/
def d_values_of : Def := ⟨q "values_of", 4, [q "collection", q "judgements", q "ranking", q "measure", q "one"], .cons (.ret (.new (.cmp (.tup (.cons (.var 4) (.cons (.call 48 (.cons (.var 0) (.cons (.var 4) (.cons (.var 2) (.cons (.var 3) (.nil)))))) (.nil)))) (.nm 4) [4] (.ex (.call 22 (.cons (.var 1) (.nil)))) (.bl true)))) (.nil)⟩
/-- 32 -/
def d_with_judgement : Def := ⟨q "with_judgement", 4, [q "collection", q "judgements", q "document", q "entry"], .cons (.ex (.call 21 (.cons (.var 0) (.cons (.var 1) (.nil))))) (.cons (.ex (.call 25 (.cons (.var 0) (.cons (.var 2) (.nil))))) (.cons (.ite (.and (.cons (.cmp .isNot (.var 3) (.non)) (.cons (.nt (.call 6 (.cons (.var 3) (.cons (.int 0) (.cons (.int 1) (.nil)))))) (.nil)))) (.cons (.rse 26) (.nil)) (.nil)) (.cons (.ret (.call 27 (.cons (.var 0) (.cons (.var 1) (.cons (.var 2) (.cons (.var 3) (.nil))))))) (.nil))))⟩
end Jr

set_option Elab.async false
set_option linter.all false
set_option maxRecDepth 100000
set_option maxHeartbeats 4000000
namespace Jr.k18
open PySem PySem.Spec PyProof.Rows L2
abbrev prog := PySem.Challenge.pw_judgedranks_k18_chances_recognized
abbrev row := PySem.Challenge.rw_judgedranks_k18_chances_recognized
def top (i : Nat) : Stmt := prog.main.body.getD i (.Pass ⟨0, 0, 0, 0⟩)
def d_law : Def := ⟨q "law", 1, [q "_law_script", q "_law_state", q "_law_k", q "_law_collection_here", q "_law_odds_here", q "_law_things", q "_law_some", q "_law_one", q "_law_thing", q "_law_good"], .cons (.asg (.nm 1) (.box (.lst (.nil)))) (.cons (.for_ (.nm 2) (.r1 (.int 8)) (.cons (.asg (.nm 3) (.call 17 (.cons (.var 0) (.cons (.var 1) (.cons (.int 7) (.nil)))))) (.cons (.asg (.nm 4) (.call 122 (.cons (.var 0) (.cons (.var 1) (.cons (.var 3) (.nil)))))) (.cons (.asg (.nm 5) (.box (.lst (.cons (.var 4) (.cons (.slF (.var 4) (.int 1)) (.cons (.op .add (.var 4) (.tup (.cons (.tup (.cons (.int 1) (.cons (.int 2) (.nil)))) (.nil)))) (.cons (.new (.toL (.var 4))) (.cons (.non) (.cons (.call 2 (.cons (.var 0) (.cons (.var 1) (.cons (.var 4) (.nil))))) (.nil)))))))))) (.cons (.asg (.nm 6) (.new (.lst (.cons (.tup (.cons (.int 0) (.cons (.int 1) (.nil)))) (.cons (.tup (.cons (.int 1) (.cons (.int 1) (.nil)))) (.cons (.tup (.cons (.int 0) (.cons (.int 2) (.nil)))) (.cons (.tup (.cons (.int 2) (.cons (.int 4) (.nil)))) (.cons (.tup (.cons (.int 3) (.cons (.int 2) (.nil)))) (.cons (.tup (.cons (.int 1) (.cons (.int 20) (.nil)))) (.cons (.tup (.cons (.int 1) (.cons (.int 21) (.nil)))) (.cons (.tup (.cons (.neg (.int 1)) (.cons (.int 2) (.nil)))) (.cons (.tup (.cons (.int 1) (.cons (.int 0) (.nil)))) (.nil))))))))))))) (.cons (.for_ (.nm 7) (.ex (.new (.cat (.var 6) (.new (.lst (.cons (.tup (.cons (.bl true) (.cons (.int 2) (.nil)))) (.cons (.tup (.cons (.int 1) (.cons (.bl true) (.nil)))) (.cons (.new (.lst (.cons (.int 1) (.cons (.int 2) (.nil))))) (.nil))))))))) (.cons (.ex (.app (.var 5) (.op .add (.tup (.cons (.var 7) (.nil))) (.slF (.var 4) (.int 1))))) (.nil))) (.cons (.for_ (.nm 7) (.ex (.new (.lst (.cons (.non) (.cons (.int 0) (.cons (.tup (.cons (.int 1) (.nil))) (.cons (.tup (.cons (.int 1) (.cons (.int 2) (.cons (.int 3) (.nil))))) (.cons (.str (q "12")) (.cons (.tup (.cons (.int 1) (.cons (.neg (.int 2)) (.nil)))) (.cons (.tup (.cons (.int 0) (.cons (.int 0) (.nil)))) (.nil))))))))))) (.cons (.ex (.app (.var 5) (.op .add (.slT (.var 4) (.neg (.int 1))) (.tup (.cons (.var 7) (.nil)))))) (.nil))) (.cons (.for_ (.nm 8) (.ex (.var 5)) (.cons (.asg (.nm 9) (.and (.cons (.isi (.var 8) .tuple) (.cons (.cmp .eq (.blt .len (.cons (.var 8) (.nil))) (.blt .len (.cons (.var 3) (.nil)))) (.nil))))) (.cons (.ite (.cmp .ne (.call 121 (.cons (.var 3) (.cons (.var 8) (.nil)))) (.and (.cons (.var 9) (.cons (.cmp .eq (.new (.cmp (.var 7) (.nm 7) [7] (.ex (.var 8)) (.nt (.call 4 (.cons (.var 7) (.nil)))))) (.new (.lst (.nil)))) (.nil))))) (.cons (.ret (.bl false)) (.nil)) (.nil)) (.nil)))) (.cons (.ite (.cmp .ne (.call 123 (.cons (.tup (.nil)) (.cons (.tup (.nil)) (.nil)))) (.str (q "InvalidCollection"))) (.cons (.ret (.bl false)) (.nil)) (.nil)) (.cons (.ite (.cmp .ne (.call 123 (.cons (.op .mul (.var 3) (.int 2)) (.cons (.var 4) (.nil)))) (.str (q "InvalidCollection"))) (.cons (.ret (.bl false)) (.nil)) (.nil)) (.nil))))))))))) (.cons (.ret (.bl true)) (.nil)))⟩
def d__law_right : Def := ⟨q "_law_right", 1, [q "_law_thing", q "_law_one", q "_law_other"], .cons (.ite (.or (.cons (.nt (.isi (.var 0) .tuple)) (.cons (.cmp .ne (.blt .len (.cons (.var 0) (.nil))) (.int 2)) (.nil)))) (.cons (.ret (.bl false)) (.nil)) (.nil)) (.cons (.ite (.new (.cmp (.var 1) (.nm 1) [1] (.ex (.var 0)) (.or (.cons (.nt (.isi (.var 1) .int)) (.cons (.isi (.var 1) .bool) (.nil)))))) (.cons (.ret (.bl false)) (.nil)) (.nil)) (.cons (.ite (.or (.cons (.nt (.chn .le .le (.int 1) (.ix (.var 0) (.int 1)) (.int 20))) (.cons (.nt (.chn .le .le (.int 0) (.ix (.var 0) (.int 0)) (.ix (.var 0) (.int 1)))) (.nil)))) (.cons (.ret (.bl false)) (.nil)) (.nil)) (.cons (.asg (.tp [1, 2]) (.var 0)) (.cons (.whl (.var 2) (.cons (.par [1, 2] (.cons (.var 2) (.cons (.op .mod (.var 1) (.var 2)) (.nil)))) (.nil))) (.cons (.ret (.cmp .eq (.var 1) (.int 1))) (.nil))))))⟩
def d__law_are_chances_or : Def := ⟨q "_law_are_chances_or", 2, [q "_law_collection_here", q "_law_thing"], .cons (.try_ (.cons (.ret (.call 121 (.cons (.var 0) (.cons (.var 1) (.nil))))) (.nil)) [(12, q "InvalidCollection")]) (.nil)⟩
def tb : Tb := ⟨[(5, d_law, top 24), (121, d_are_chances, top 14), (13, d_require_collection, top 8), (11, d_is_collection, top 7), (10, d_is_document, top 6), (9, d_is_ascending, top 5), (120, d_are_valid_chances, top 13), (119, d_is_chance, top 12), (42, d_lowest_terms, top 10), (6, d_is_integer, top 4), (4, d__law_right, top 22), (122, d__law_odds, top 21), (7, d__law_pick, top 17), (8, d__law_draw, top 16), (17, d__law_collection, top 20), (15, d__law_shuffled, top 18), (2, d__law_bent, top 19), (123, d__law_are_chances_or, top 23)], [(12, q "InvalidCollection")]⟩
theorem good : tb.good = true := by decide +kernel
/-! ### the head -/
abbrev R : PySem.W.OpenRow := PySem.W.OpenLaw.row row
abbrev hk : PySem.W.Hook := He.hookD 4 tb.fa tb.fn
def ob (s : PySem.W.SharedT) : He.AlD := He.obsDG 4 tb.fa tb.fn (HandSHeadRun.getT s)
theorem ob_eq (s : PySem.W.SharedT) : ob s = hk.obs s.abs := He.obsDG_eq (HandSHeadRun.getT_eq s)
abbrev loose : List Str := [q "RankingError", q "InvalidCollection", q "is_integer", q "is_ascending", q "is_document", q "is_collection", q "require_collection", q "lowest_terms", q "is_chance", q "are_valid_chances", q "are_chances", q "_law_draw", q "_law_pick", q "_law_shuffled", q "_law_bent", q "_law_collection", q "_law_odds", q "_law_right", q "_law_are_chances_or"]
open PySem.W in
theorem run (w : World) : HandSHeadRun.RunEq R (PySem.W.view R.prog [24]) hk ob 4000 loose w := by
  intro os
  kernel_rfl
theorem holds_of {k n : Nat} (hr : Room (k + 1) callerA) (main : ∀ ns : List Int, ns.length ≤ 63 → ∃ h', callF tb.tab.fn n (k + 1) 5 [.r 0] [.ro (ns.map D.int)] = some (.ok (.d (.bool true)), h')) : row.Holds := by
  w_on; o_law
  refine HandSHeadRun.head_any (r := R) (q := PySem.W.view R.prog [24]) (H := hk) (ob := ob) (M := 4000) (loose := loose) (d := HandSHeadRun.topDef R.prog 24) (kwd := []) ob_eq
    (by kernel_rfl) (fun s => by kernel_rfl) run (by kernel_rfl) (by kernel_rfl) (by kernel_rfl) (by rfl) (by first | assumption | decide +kernel) (by decide +kernel) ⟨rfl, rfl, rfl, rfl, rfl, by decide +kernel⟩ ?hw ?hc
  case hw => w_witness2
  case hc => exact law_end (t := tb) (lawId := 5) (n := n) (k := k) (x := q "_law_script") rfl (by kernel_rfl) hr good rfl (by kernel_rfl) rfl main
end Jr.k18

set_option Elab.async false
set_option linter.all false
set_option maxRecDepth 100000
set_option maxHeartbeats 2000000
namespace Jr
open PySem
/-! ### what a pure program does, from behind -/
variable {α β : Type}
def W (m : M α) (h : Hh) (Q : α → Hh → Prop) (E : Nat → Hh → Prop) : Prop := match m h with
  | some (.ok a, h') => Q a h'
  | some (.exc c, h') => E c h'
  | none => False
section
variable {h : Hh} {Q : α → Hh → Prop} {E : Nat → Hh → Prop}
theorem W.eq {m : M α} {a : α} {h' : Hh} (e : m h = some (.ok a, h')) : W m h Q E ↔ Q a h' := by unfold W; rw [e]
theorem W.eqE {m : M α} {c : Nat} {h' : Hh} (e : m h = some (.exc c, h')) : W m h Q E ↔ E c h' := by unfold W; rw [e]
theorem W.mono {m : M α} {Q' : α → Hh → Prop} {E' : Nat → Hh → Prop} (w : W m h Q E) (q : ∀ a h', Q a h' → Q' a h') (e : ∀ c h', E c h' → E' c h') : W m h Q' E' := by
  unfold W at *
  split at w
  · exact q _ _ w
  · exact e _ _ w
  · exact w
theorem W.imp {m : M α} {Q' : α → Hh → Prop} (w : W m h Q E) (q : ∀ a h', Q a h' → Q' a h') : W m h Q' E := w.mono q fun _ _ h => h
theorem W.of {m : M α} (w : W m h Q fun _ _ => False) : ∃ a h', m h = some (.ok a, h') ∧ Q a h' := by
  unfold W at w
  split at w
  · exact ⟨_, _, by assumption, w⟩
  · exact w.elim
  · exact w.elim
@[simp] theorem W_bind {m : M β} {f : β → M α} : W (M.bind m f) h Q E ↔ W m h (fun a h1 => W (f a) h1 Q E) E := by
  unfold W M.bind
  cases m h with
  | none => exact Iff.rfl
  | some p =>
    obtain ⟨r, h1⟩ := p
    cases r <;> exact Iff.rfl
@[simp] theorem W_pure {a : α} : W (M.pure a) h Q E ↔ Q a h := Iff.rfl
@[simp] theorem W_fail : W (fail : M α) h Q E ↔ False := Iff.rfl
@[simp] theorem W_raise {c : Nat} : W (raise c : M α) h Q E ↔ E c h := Iff.rfl
@[simp] theorem W_ofO_some {a : α} : W (ofO (some a)) h Q E ↔ Q a h := Iff.rfl
@[simp] theorem W_ofO_none : W (ofO (none : Option α)) h Q E ↔ False := Iff.rfl
theorem W_ofO {o : Option α} : W (ofO o) h Q E ↔ ∃ a, o = some a ∧ Q a h := by
  cases o with
  | none => simp
  | some a => simp
@[simp] theorem W_ite {c : Prop} [Decidable c] {m n : M α} : W (if c then m else n) h Q E ↔ if c then W m h Q E else W n h Q E := by
  by_cases q : c <;> simp [q]
end
section
variable {h : Hh} {E : Nat → Hh → Prop}
@[simp] theorem W_rd_d {x : D} {Q : D → Hh → Prop} : W (rd (.d x)) h Q E ↔ Q x h := Iff.rfl
theorem W_rd_r {n : Nat} {x : D} {Q : D → Hh → Prop} (e : h[n]?.bind rdC = some x) : W (rd (.r n)) h Q E ↔ Q x h := W.eq (by show (h[n]?.bind rdC).map _ = _; rw [e]; rfl)
@[simp] theorem W_asD {x : D} {Q : D → Hh → Prop} : W (asD (.d x)) h Q E ↔ Q x h := Iff.rfl
@[simp] theorem W_pD {x : D} {Q : Vl → Hh → Prop} : W (pD x) h Q E ↔ Q (.d x) h := Iff.rfl
@[simp] theorem W_pO {x : D} {Q : Vl → Hh → Prop} : W (pO (some x)) h Q E ↔ Q (.d x) h := Iff.rfl
theorem W_varM {i : Nat} {en : Env} {v : Vl} {Q : Vl → Hh → Prop} (e : en[i]? = some (some v)) : W (varM i en) h Q E ↔ Q v h := W.eq (by unfold varM; rw [e]; rfl)
@[simp] theorem W_varM' {i : Nat} {en : Env} {Q : Vl → Hh → Prop} : W (varM i en) h Q E ↔ match en[i]? with
  | some (some v) => Q v h
  | _ => False := by
  unfold varM
  generalize en[i]? = o
  rcases o with _ | _ | v
  · exact W_fail
  · exact W_fail
  · exact W_pure
@[simp] theorem W_strM {x : Str} {Q : Vl → Hh → Prop} : W (strM x) h Q E ↔ okS x = true ∧ Q (.d (.str x)) h := by
  unfold strM
  by_cases q : okS x = true <;> simp [q]
@[simp] theorem W_rdL_d {xs : List D} {Q : List D → Hh → Prop} : W (rdL (.d (.list xs))) h Q E ↔ Q xs h := Iff.rfl
theorem W_rdL_r {n : Nat} {xs : List D} {Q : List D → Hh → Prop} (e : h[n]? = some (.lst xs)) : W (rdL (.r n)) h Q E ↔ Q xs h := W.eq (by unfold rdL; dsimp only; rw [e])
@[simp] theorem W_dd {m : M Vl} {Q : D → Hh → Prop} : W (dd m) h Q E ↔ W m h (fun v h1 => W (rd v) h1 Q E) E := W_bind
@[simp] theorem W_tt {m : M Vl} {Q : Bool → Hh → Prop} : W (tt m) h Q E ↔ W m h (fun v h1 => W (rd v) h1 (fun d h2 => W (ofO (truth d)) h2 Q E) E) E := by
  unfold tt
  rw [W_bind]
  simp only [W_bind]
@[simp] theorem W_rd2 {m n : M Vl} {f : D → D → M β} {Q : β → Hh → Prop} : W (rd2 m n f) h Q E ↔ W m h (fun v h1 => W n h1 (fun w h2 => W (rd v) h2 (fun a h3 => W (rd w) h3 (fun b h4 => W (f a b) h4 Q E) E) E) E) E := by
  unfold rd2
  simp only [W_bind]
@[simp] theorem W_rds_nil {Q : List D → Hh → Prop} : W (rds []) h Q E ↔ Q [] h := Iff.rfl
@[simp] theorem W_rds_cons {v : Vl} {vs : List Vl} {Q : List D → Hh → Prop} : W (rds (v :: vs)) h Q E ↔ W (rd v) h (fun x h1 => W (rds vs) h1 (fun xs h2 => Q (x :: xs) h2) E) E := by
  show W (M.bind (rd v) fun x => M.bind (rds vs) fun xs => M.pure (x :: xs)) h Q E ↔ _
  simp only [W_bind, W_pure]
@[simp] theorem W_asDs_nil {Q : List D → Hh → Prop} : W (asDs []) h Q E ↔ Q [] h := Iff.rfl
@[simp] theorem W_asDs_cons {v : Vl} {vs : List Vl} {Q : List D → Hh → Prop} : W (asDs (v :: vs)) h Q E ↔ W (asD v) h (fun x h1 => W (asDs vs) h1 (fun xs h2 => Q (x :: xs) h2) E) E := by
  show W (M.bind (asD v) fun x => M.bind (asDs vs) fun xs => M.pure (x :: xs)) h Q E ↔ _
  simp only [W_bind, W_pure]
@[simp] theorem W_prt {m : M Vl} {Q : Int → Hh → Prop} : W (prt m) h Q E ↔ W m h (fun v h1 => W (asD v) h1 (fun d h2 => W (ofO (asI d)) h2 Q E) E) E := by
  unfold prt
  simp only [W_bind]
@[simp] theorem W_newC {c : Cell} {Q : Vl → Hh → Prop} : W (newC c) h Q E ↔ Q (.r h.length) (h ++ [c]) := Iff.rfl
/-- a def's end -/
def endQ (n : Nat) (Q : Vl → Hh → Prop) : SO → Hh → Prop
  | .ret (.d v), h1 => Q (.d v) (h1.take n)
  | .ret (.k v), h1 => Q (.k v) (h1.take n)
  | .ret (.r i), h1 => i < n ∧ Q (.r i) (h1.take n)
  | .next _, h1 => Q (.d .none) (h1.take n)
theorem W_shut {n : Nat} {m : M SO} {Q : Vl → Hh → Prop} : W (shut n m) h Q E ↔ W m h (endQ n Q) fun c h1 => E c (h1.take n) := by
  unfold W shut
  cases m h with
  | none => exact Iff.rfl
  | some p =>
    obtain ⟨r, h1⟩ := p
    cases r with
    | exc c => exact Iff.rfl
    | ok so =>
      cases so with
      | next en => exact Iff.rfl
      | ret v =>
        cases v with
        | d x => exact Iff.rfl
        | k x => exact Iff.rfl
        | r i =>
          dsimp only [endQ]
          by_cases q : i < n <;> simp [q]
@[simp] theorem endQ_d {n : Nat} {Q : Vl → Hh → Prop} {v : D} {h1 : Hh} : endQ n Q (.ret (.d v)) h1 ↔ Q (.d v) (h1.take n) := Iff.rfl
@[simp] theorem endQ_next {n : Nat} {Q : Vl → Hh → Prop} {en : Env} {h1 : Hh} : endQ n Q (.next en) h1 ↔ Q (.d .none) (h1.take n) := Iff.rfl
/-- a call -/
theorem W_call {Φ : Nat → Option Def} {N k f : Nat} {d : Def} {vs : List Vl} {Q : Vl → Hh → Prop} (e : Φ f = some d) (l : vs.length = d.np) :
    W (callF Φ N (k + 1) f vs) h Q E ↔ W (evB (callF Φ N k) N d.body (vs.map some ++ List.replicate (d.N.length - d.np) none)) h (endQ h.length Q) fun c h1 => E c (h1.take h.length) := by
  have e2 : callF Φ N (k + 1) f vs = fun (h : Hh) => shut h.length (evB (callF Φ N k) N d.body (vs.map some ++ List.replicate (d.N.length - d.np) none)) h := by
    show (match Φ f with
      | some d => if vs.length = d.np then fun (h : Hh) => shut h.length (evB (callF Φ N k) N d.body (vs.map some ++ List.replicate (d.N.length - d.np) none)) h else fail
      | none => fail) = _
    rw [e]
    dsimp only
    rw [if_pos l]
  rw [e2]
  exact W_shut (h := h)
/-- the step behind a statement -/
def seqQ (cf : CF) (N : Nat) (b : B) (Q : SO → Hh → Prop) (E : Nat → Hh → Prop) : SO → Hh → Prop
  | .next en, h => W (evB cf N b en) h Q E
  | .ret v, h => Q (.ret v) h
@[simp] theorem W_B_nil {cf : CF} {N : Nat} {en : Env} {Q : SO → Hh → Prop} : W (evB cf N .nil en) h Q E ↔ Q (.next en) h := Iff.rfl
@[simp] theorem W_B_cons {cf : CF} {N : Nat} {s : S} {b : B} {en : Env} {Q : SO → Hh → Prop} : W (evB cf N (.cons s b) en) h Q E ↔ W (evS cf N s en) h (seqQ cf N b Q E) E := by
  show W (M.bind (evS cf N s en) fun
    | .next en' => evB cf N b en'
    | .ret v => M.pure (.ret v)) h Q E ↔ _
  rw [W_bind]
  constructor <;> (intro w; refine w.imp fun so h1 q => ?_; cases so <;> exact q)
@[simp] theorem seqQ_next {cf : CF} {N : Nat} {b : B} {en : Env} {Q : SO → Hh → Prop} : seqQ cf N b Q E (.next en) h ↔ W (evB cf N b en) h Q E := Iff.rfl
@[simp] theorem seqQ_ret {cf : CF} {N : Nat} {b : B} {v : Vl} {Q : SO → Hh → Prop} : seqQ cf N b Q E (.ret v) h ↔ Q (.ret v) h := Iff.rfl
end
/-! ### iterating -/
def depOk : Option (Nat × Cell) → Hh → Prop
  | none, _ => True
  | some (n, c), h => h[n]? = some c
@[simp] theorem depOk_none {h : Hh} : depOk none h := trivial
section
variable {h : Hh} {E : Nat → Hh → Prop}
theorem same_of {dep : Option (Nat × Cell)} (d : depOk dep h) : same dep h = some (.ok (), h) := by
  cases dep with
  | none => rfl
  | some p =>
    obtain ⟨n, c⟩ := p
    unfold same
    exact if_pos d
theorem W_same {dep : Option (Nat × Cell)} {Q : Unit → Hh → Prop} (d : depOk dep h) : W (same dep) h Q E ↔ Q () h := W.eq (same_of d)
@[simp] theorem W_depOf_d {x : D} {Q : Option (Nat × Cell) → Hh → Prop} : W (depOf (.d x)) h Q E ↔ Q none h := Iff.rfl
theorem W_depOf_r {n : Nat} {c : Cell} {Q : Option (Nat × Cell) → Hh → Prop} (e : h[n]? = some c) : W (depOf (.r n)) h Q E ↔ Q (some (n, c)) h := W.eq (by unfold depOf; dsimp only; rw [e]; rfl)
/-- from a reading to an equation -/
theorem W.toEq {α : Type} {m : M α} {a : α} {h' : Hh} (w : W m h (fun b h1 => b = a ∧ h1 = h') fun _ _ => False) : m h = some (.ok a, h') := by
  obtain ⟨b, h1, e, rfl, rfl⟩ := w.of
  exact e
/-- a comprehension that leaves the heap alone -/
theorem comp_eq {dep : Option (Nat × Cell)} {f : D → M (Option D)} {g : D → Option D} (d : depOk dep h) : ∀ {xs : List D}, (∀ x ∈ xs, f x h = some (.ok (g x), h)) → compL dep f xs h = some (.ok (xs.filterMap g), h)
  | [], _ => by
    show M.bind (same dep) (fun _ => M.pure []) h = _
    unfold M.bind
    rw [same_of d]
    rfl
  | x :: xs, hf => by
    show M.bind (same dep) (fun _ => M.bind (noExc (f x)) fun y => M.bind (compL dep f xs) fun ys => M.pure (match y with
      | some y => y :: ys
      | none => ys)) h = _
    unfold M.bind
    rw [same_of d]
    dsimp only
    unfold noExc
    rw [hf x List.mem_cons_self]
    dsimp only
    rw [comp_eq d fun y hy => hf y (List.mem_cons_of_mem _ hy)]
    dsimp only [M.pure]
    cases e : g x with
    | none => rw [List.filterMap_cons_none e]
    | some y => rw [List.filterMap_cons_some e]
theorem W_comp {dep : Option (Nat × Cell)} {f : D → M (Option D)} {g : D → Option D} {xs : List D} {Q : List D → Hh → Prop} (d : depOk dep h) (hf : ∀ x ∈ xs, W (f x) h (fun b h1 => b = g x ∧ h1 = h) fun _ _ => False) : W (compL dep f xs) h Q E ↔ Q (xs.filterMap g) h :=
  W.eq (comp_eq d fun x hx => (hf x hx).toEq)
/-- a comprehension with an invariant: what was made, what is left -/
theorem W_compI {dep : Option (Nat × Cell)} {f : D → M (Option D)} (I : List D → List D → Hh → Prop) : ∀ {xs : List D} {h : Hh} (acc : List D), I acc xs h →
    (∀ acc x xs h, I acc (x :: xs) h → depOk dep h ∧ W (f x) h (fun y h1 => I (acc ++ y.toList) xs h1) fun _ _ => False) → (∀ acc h, I acc [] h → depOk dep h) → W (compL dep f xs) h (fun ys h1 => I (acc ++ ys) [] h1) E
  | [], h, acc, i, hs, he => by
    show W (M.bind (same dep) (fun _ => M.pure [])) h _ E
    rw [W_bind, W_same (he _ _ i), W_pure, List.append_nil]
    exact i
  | x :: xs, h, acc, i, hs, he => by
    obtain ⟨d, w⟩ := hs _ _ _ _ i
    obtain ⟨y, h1, e, i1⟩ := w.of
    show W (M.bind (same dep) (fun _ => M.bind (noExc (f x)) fun y => M.bind (compL dep f xs) fun ys => M.pure (match y with
      | some y => y :: ys
      | none => ys))) h _ E
    rw [W_bind, W_same d, W_bind, W.eq (m := noExc (f x)) (a := y) (h' := h1) (by unfold noExc; rw [e]), W_bind]
    refine (W_compI I (acc ++ y.toList) i1 hs he).imp fun ys h2 i2 => ?_
    rw [W_pure]
    cases y with
    | none => simpa using i2
    | some y => simpa using i2
theorem W_forL {dep : Option (Nat × Cell)} {f : D → Env → M SO} {Q : SO → Hh → Prop} (I : List D → Env → Hh → Prop) : ∀ {xs : List D} {en : Env} {h : Hh}, I xs en h →
    (∀ x xs en h, I (x :: xs) en h → depOk dep h ∧ W (f x en) h (fun so h1 => match so with
      | .next en1 => I xs en1 h1
      | .ret v => Q (.ret v) h1) E) → (∀ en h, I [] en h → depOk dep h ∧ Q (.next en) h) → W (forL dep f xs en) h Q E
  | [], en, h, i, _, he => by
    obtain ⟨d, q⟩ := he _ _ i
    show W (M.bind (same dep) (fun _ => M.pure (SO.next en))) h _ E
    rw [W_bind, W_same d, W_pure]
    exact q
  | x :: xs, en, h, i, hs, he => by
    obtain ⟨d, w⟩ := hs _ _ _ _ i
    show W (M.bind (same dep) (fun _ => M.bind (f x en) fun
      | .next en' => forL dep f xs en'
      | .ret v => M.pure (.ret v))) h _ E
    rw [W_bind, W_same d, W_bind]
    refine w.imp fun so h1 q => ?_
    cases so with
    | next en1 => exact W_forL I q hs he
    | ret v => exact q
theorem W_whl {c : Env → M Bool} {f : Env → M SO} {Q : SO → Hh → Prop} (I : Nat → Env → Hh → Prop) (hs : ∀ m en h, I m en h → W (c en) h (fun b h1 => if b = true then W (f en) h1 (fun so h2 => match so with
      | .next en1 => ∃ m1, m1 < m ∧ I m1 en1 h2
      | .ret v => Q (.ret v) h2) E else Q (.next en) h1) E) : ∀ {n m : Nat} {en : Env} {h : Hh}, I m en h → m < n → W (whlL c f n en) h Q E
  | 0, _, _, _, _, l => by omega
  | n + 1, m, en, h, i, l => by
    show W (M.bind (c en) fun b => if b then M.bind (f en) fun
      | .next en' => whlL c f n en'
      | .ret v => M.pure (.ret v)
      else M.pure (.next en)) h Q E
    rw [W_bind]
    refine (hs _ _ _ i).imp fun b h1 q => ?_
    cases b with
    | false => simpa using q
    | true =>
      rw [if_pos rfl] at q
      rw [if_pos rfl, W_bind]
      refine q.imp fun so h2 q2 => ?_
      cases so with
      | next en1 =>
        obtain ⟨m1, l1, i1⟩ := q2
        exact W_whl I hs i1 (by omega)
      | ret v => exact q2
end
/-! ### indices -/
theorem ixN_nat {n i : Nat} (h : i < n) : ixN n (i : Int) = some i := by
  unfold ixN L2.ixN
  rw [if_pos (by omega), if_pos (by omega)]
  rfl
theorem ixV_lst {xs : List D} {i : Nat} {y : D} (e : xs[i]? = some y) : ixV (.list xs) (.int (i : Int)) = some y := by
  have h : i < xs.length := by
    rcases Nat.lt_or_ge i xs.length with q | q
    · exact q
    · rw [List.getElem?_eq_none q] at e; cases e
  unfold ixV
  dsimp only
  rw [ixN_nat h]
  exact e
theorem ixV_tup {xs : List D} {i : Nat} {y : D} (e : xs[i]? = some y) : ixV (.tuple xs) (.int (i : Int)) = some y := ixV_lst (xs := xs) e
@[simp] theorem ixV_t0 {x : D} {xs : List D} : ixV (.tuple (x :: xs)) (.int 0) = some x := ixV_tup (i := 0) rfl
@[simp] theorem ixV_l0 {x : D} {xs : List D} : ixV (.list (x :: xs)) (.int 0) = some x := ixV_lst (i := 0) rfl
@[simp] theorem ixV_t1 {x y : D} {xs : List D} : ixV (.tuple (x :: y :: xs)) (.int 1) = some y := ixV_tup (i := 1) rfl
@[simp] theorem ixV_l1 {x y : D} {xs : List D} : ixV (.list (x :: y :: xs)) (.int 1) = some y := ixV_lst (i := 1) rfl
/-! ### equality, depth -/
@[simp] theorem eqv_none_none : eqv .none .none = true := by simp [eqv]
@[simp] theorem eqv_none_bool {b : Bool} : eqv .none (.bool b) = false := by simp [eqv]
@[simp] theorem eqv_none_int {b : Int} : eqv .none (.int b) = false := by simp [eqv]
@[simp] theorem eqv_none_str {b : Str} : eqv .none (.str b) = false := by simp [eqv]
@[simp] theorem eqv_none_list {b : List D} : eqv .none (.list b) = false := by simp [eqv]
@[simp] theorem eqv_none_tuple {b : List D} : eqv .none (.tuple b) = false := by simp [eqv]
@[simp] theorem eqv_bool_none {a : Bool} : eqv (.bool a) .none = false := by simp [eqv]
theorem beq_str (a b : Str) : (a == b) = decide (a = b) := by
  by_cases h : a = b
  · subst h; simp
  · rw [decide_eq_false h]; exact beq_eq_false_iff_ne.mpr h
theorem beq_dec {α : Type} [DecidableEq α] (a b : α) : (a == b) = decide (a = b) := rfl
@[simp] theorem eqv_bool_bool {a : Bool} {b : Bool} : eqv (.bool a) (.bool b) = decide (a = b) := by simp [eqv, Bool.beq_eq_decide_eq]
@[simp] theorem eqv_bool_int {a : Bool} {b : Int} : eqv (.bool a) (.int b) = ((if a then 1 else 0) == b) := by simp [eqv]
@[simp] theorem eqv_bool_str {a : Bool} {b : Str} : eqv (.bool a) (.str b) = false := by simp [eqv]
@[simp] theorem eqv_bool_list {a : Bool} {b : List D} : eqv (.bool a) (.list b) = false := by simp [eqv]
@[simp] theorem eqv_bool_tuple {a : Bool} {b : List D} : eqv (.bool a) (.tuple b) = false := by simp [eqv]
@[simp] theorem eqv_int_none {a : Int} : eqv (.int a) .none = false := by simp [eqv]
@[simp] theorem eqv_int_bool {a : Int} {b : Bool} : eqv (.int a) (.bool b) = (a == (if b then 1 else 0)) := by simp [eqv]
@[simp] theorem eqv_int_int {a : Int} {b : Int} : eqv (.int a) (.int b) = decide (a = b) := by simp [eqv]; exact beq_dec a b
@[simp] theorem eqv_int_str {a : Int} {b : Str} : eqv (.int a) (.str b) = false := by simp [eqv]
@[simp] theorem eqv_int_list {a : Int} {b : List D} : eqv (.int a) (.list b) = false := by simp [eqv]
@[simp] theorem eqv_int_tuple {a : Int} {b : List D} : eqv (.int a) (.tuple b) = false := by simp [eqv]
@[simp] theorem eqv_str_none {a : Str} : eqv (.str a) .none = false := by simp [eqv]
@[simp] theorem eqv_str_bool {a : Str} {b : Bool} : eqv (.str a) (.bool b) = false := by simp [eqv]
@[simp] theorem eqv_str_int {a : Str} {b : Int} : eqv (.str a) (.int b) = false := by simp [eqv]
@[simp] theorem eqv_str_str {a : Str} {b : Str} : eqv (.str a) (.str b) = decide (a = b) := by simp [eqv, beq_str]
@[simp] theorem eqv_str_list {a : Str} {b : List D} : eqv (.str a) (.list b) = false := by simp [eqv]
@[simp] theorem eqv_str_tuple {a : Str} {b : List D} : eqv (.str a) (.tuple b) = false := by simp [eqv]
@[simp] theorem eqv_list_none {a : List D} : eqv (.list a) .none = false := by simp [eqv]
@[simp] theorem eqv_list_bool {a : List D} {b : Bool} : eqv (.list a) (.bool b) = false := by simp [eqv]
@[simp] theorem eqv_list_int {a : List D} {b : Int} : eqv (.list a) (.int b) = false := by simp [eqv]
@[simp] theorem eqv_list_str {a : List D} {b : Str} : eqv (.list a) (.str b) = false := by simp [eqv]
@[simp] theorem eqv_list_list {a : List D} {b : List D} : eqv (.list a) (.list b) = eqvs a b := by simp [eqv]
@[simp] theorem eqv_list_tuple {a : List D} {b : List D} : eqv (.list a) (.tuple b) = false := by simp [eqv]
@[simp] theorem eqv_tuple_none {a : List D} : eqv (.tuple a) .none = false := by simp [eqv]
@[simp] theorem eqv_tuple_bool {a : List D} {b : Bool} : eqv (.tuple a) (.bool b) = false := by simp [eqv]
@[simp] theorem eqv_tuple_int {a : List D} {b : Int} : eqv (.tuple a) (.int b) = false := by simp [eqv]
@[simp] theorem eqv_tuple_str {a : List D} {b : Str} : eqv (.tuple a) (.str b) = false := by simp [eqv]
@[simp] theorem eqv_tuple_list {a : List D} {b : List D} : eqv (.tuple a) (.list b) = false := by simp [eqv]
@[simp] theorem eqv_tuple_tuple {a : List D} {b : List D} : eqv (.tuple a) (.tuple b) = eqvs a b := by simp [eqv]
@[simp] theorem eqvs_nil : eqvs [] [] = true := by simp [eqvs]
@[simp] theorem eqvs_nc {x : D} {xs : List D} : eqvs [] (x :: xs) = false := by simp [eqvs]
@[simp] theorem eqvs_cn {x : D} {xs : List D} : eqvs (x :: xs) [] = false := by simp [eqvs]
@[simp] theorem eqvs_cc {x y : D} {xs ys : List D} : eqvs (x :: xs) (y :: ys) = (eqv x y && eqvs xs ys) := by simp [eqvs]
@[simp] theorem dep_none : dep .none = 0 := by simp [dep]
@[simp] theorem dep_bool {a : Bool} : dep (.bool a) = 0 := by simp [dep]
@[simp] theorem dep_int {a : Int} : dep (.int a) = 0 := by simp [dep]
@[simp] theorem dep_str {a : Str} : dep (.str a) = 0 := by simp [dep]
@[simp] theorem dep_list {a : List D} : dep (.list a) = deps a + 1 := by simp [dep]
@[simp] theorem dep_tuple {a : List D} : dep (.tuple a) = deps a + 1 := by simp [dep]
@[simp] theorem deps_nil : deps [] = 0 := by simp [deps]
@[simp] theorem deps_cons {x : D} {xs : List D} : deps (x :: xs) = max (dep x) (deps xs) := by simp [deps]
/-! ### the readings, one by one -/
section
variable (cf : CF) (N : Nat) (en : Env)
/-- a comprehension's turns, by its code -/
noncomputable def compE (e : E) (t : Tg) (own : List Nat) (c : E) (en : Env) (dep : Option (Nat × Cell)) (xs : List D) : M (List D) := compL dep (turnM t own en (fun en => tt (evE cf c en)) fun en => evE cf e en) xs
noncomputable def forE (t : Tg) (b : B) (dep : Option (Nat × Cell)) (xs : List D) (en : Env) : M SO := forL dep (fun x en => M.bind (ofO (asgT t (.d x) en)) fun en1 => evB cf N b en1) xs en
noncomputable def whlE (c : E) (b : B) (en : Env) : M SO := whlL (fun en => tt (evE cf c en)) (fun en => evB cf N b en) N en
@[simp] theorem evE_var {i} : evE cf (.var i) en = varM i en := rfl
@[simp] theorem evE_non : evE cf .non en = pD .none := rfl
@[simp] theorem evE_bl {b} : evE cf (.bl b) en = pD (.bool b) := rfl
@[simp] theorem evE_int {i} : evE cf (.int i) en = pD (.int i) := rfl
@[simp] theorem evE_str {x} : evE cf (.str x) en = strM x := rfl
@[simp] theorem evE_tup {es} : evE cf (.tup es) en = M.bind (evEs cf es en) fun vs => M.bind (asDs vs) fun xs => if xs.length ≤ sizeLine then pD (.tuple xs) else fail := rfl
@[simp] theorem evE_op {o a b} : evE cf (.op o a b) en = rd2 (evE cf a en) (evE cf b en) fun x y => pO (binV o x y) := rfl
@[simp] theorem evE_neg {a} : evE cf (.neg a) en = M.bind (dd (evE cf a en)) fun x => pO (negV x) := rfl
@[simp] theorem evE_nt {a} : evE cf (.nt a) en = M.bind (tt (evE cf a en)) fun b => pD (.bool !b) := rfl
@[simp] theorem evE_and {es} : evE cf (.and es) en = evAnd cf es en := rfl
@[simp] theorem evE_or {es} : evE cf (.or es) en = evOr cf es en := rfl
@[simp] theorem evE_cmp {o a b} : evE cf (.cmp o a b) en = rd2 (evE cf a en) (evE cf b en) fun x y => pO ((cmpV o x y).map .bool) := rfl
@[simp] theorem evE_chn {o o2 a b c} : evE cf (.chn o o2 a b c) en = M.bind (evE cf a en) fun va => M.bind (evE cf b en) fun vb => M.bind (asD va) fun x => M.bind (asD vb) fun y => M.bind (ofO (cmpV o x y)) fun k =>
      if k then M.bind (evE cf c en) fun vc => M.bind (asD vc) fun z => pO ((cmpV o2 y z).map .bool) else pD (.bool false) := rfl
@[simp] theorem evE_ite {c a b} : evE cf (.ite c a b) en = M.bind (tt (evE cf c en)) fun k => if k then evE cf a en else evE cf b en := rfl
@[simp] theorem evE_ix {a b} : evE cf (.ix a b) en = rd2 (evE cf a en) (evE cf b en) fun x y => pO (ixV x y) := rfl
@[simp] theorem evE_slT {a hi} : evE cf (.slT a hi) en = M.bind (evE cf a en) fun v => M.bind (prt (evE cf hi en)) fun u => M.bind (rd v) fun x => pO (sliceV x none (some u)) := rfl
@[simp] theorem evE_slF {a lo} : evE cf (.slF a lo) en = M.bind (evE cf a en) fun v => M.bind (prt (evE cf lo en)) fun l => M.bind (rd v) fun x => pO (sliceV x (some l) none) := rfl
@[simp] theorem evE_slA {a lo hi} : evE cf (.slA a lo hi) en = M.bind (evE cf a en) fun v => M.bind (prt (evE cf lo en)) fun l => M.bind (prt (evE cf hi en)) fun u => M.bind (rd v) fun x => pO (sliceV x (some l) (some u)) := rfl
@[simp] theorem evE_rev {a} : evE cf (.rev a) en = M.bind (dd (evE cf a en)) fun x => pO ((asT x).map fun xs => .tuple xs.reverse) := rfl
@[simp] theorem evE_call {f es} : evE cf (.call f es) en = M.bind (evEs cf es en) fun vs => cf f vs := rfl
@[simp] theorem evE_blt {f es} : evE cf (.blt f es) en = M.bind (evEs cf es en) fun vs => M.bind (rds vs) fun xs => pO (bltV f xs) := rfl
@[simp] theorem evE_isi {a t} : evE cf (.isi a t) en = M.bind (dd (evE cf a en)) fun x => pD (.bool (isTy x t)) := rfl
@[simp] theorem evE_toT {a} : evE cf (.toT a) en = M.bind (dd (evE cf a en)) fun x => pO ((asSeq x).map .tuple) := rfl
@[simp] theorem evE_app {o a} : evE cf (.app o a) en = M.bind (evE cf o en) fun v => M.bind (rdL v) fun _ => M.bind (evE cf a en) fun w => M.bind (asD w) fun y => appM v y := rfl
@[simp] theorem evE_pop {o a} : evE cf (.pop o a) en = M.bind (evE cf o en) fun v => M.bind (rdL v) fun _ => M.bind (evE cf a en) fun w => M.bind (asD w) fun y => popM v y := rfl
@[simp] theorem evE_popE {o} : evE cf (.popE o) en = M.bind (evE cf o en) fun v => M.bind (rdL v) fun _ => popEM v := rfl
@[simp] theorem evE_new {a} : evE cf (.new a) en = M.bind (evF cf a en) fun xs => pD (.list xs) := rfl
@[simp] theorem evE_box {a} : evE cf (.box a) en = M.bind (evF cf a en) fun xs => newC (.lst xs) := rfl
@[simp] theorem evF_lst {es} : evF cf (.lst es) en = M.bind (evEs cf es en) fun vs => M.bind (asDs vs) fun xs => if xs.length ≤ sizeLine then M.pure xs else fail := rfl
@[simp] theorem evF_cat {a b} : evF cf (.cat a b) en = M.bind (evE cf a en) fun v => M.bind (evE cf b en) fun w => M.bind (rdL v) fun xs => M.bind (rdL w) fun ys => if xs.length + ys.length ≤ sizeLine then M.pure (xs ++ ys) else fail := rfl
@[simp] theorem evF_rep {a b} : evF cf (.rep a b) en = M.bind (evE cf a en) fun v => M.bind (evE cf b en) fun w => M.bind (rdL v) fun xs => M.bind (asD w) fun y => ofO (repL xs y) := rfl
@[simp] theorem evF_slT {a hi} : evF cf (.slT a hi) en = M.bind (evE cf a en) fun v => M.bind (prt (evE cf hi en)) fun u => M.bind (rd v) fun x => ofO (sliceL x none (some u)) := rfl
@[simp] theorem evF_slF {a lo} : evF cf (.slF a lo) en = M.bind (evE cf a en) fun v => M.bind (prt (evE cf lo en)) fun l => M.bind (rd v) fun x => ofO (sliceL x (some l) none) := rfl
@[simp] theorem evF_rev {a} : evF cf (.rev a) en = M.bind (dd (evE cf a en)) fun x => ofO ((asL x).map List.reverse) := rfl
@[simp] theorem evF_toL {a} : evF cf (.toL a) en = M.bind (dd (evE cf a en)) fun x => ofO (asSeq x) := rfl
@[simp] theorem evF_srt {a} : evF cf (.srt a) en = M.bind (dd (evE cf a en)) fun x => ofO ((asL x).bind sortV) := rfl
@[simp] theorem evF_cmp {e t own it c} : evF cf (.cmp e t own it c) en = M.bind (evI cf it en) fun p => compE cf e t own c en p.1 p.2 := rfl
@[simp] theorem evEs_nil : evEs cf .nil en = M.pure [] := rfl
@[simp] theorem evEs_cons {e es} : evEs cf (.cons e es) en = M.bind (evE cf e en) fun v => M.bind (evEs cf es en) fun vs => M.pure (v :: vs) := rfl
@[simp] theorem evAnd_one {e} : evAnd cf (.cons e .nil) en = evE cf e en := rfl
@[simp] theorem evAnd_cons {e e2 es} : evAnd cf (.cons e (.cons e2 es)) en = M.bind (evE cf e en) fun v => M.bind (rd v) fun x => M.bind (ofO (truth x)) fun k => if k then evAnd cf (.cons e2 es) en else M.pure v := rfl
@[simp] theorem evOr_one {e} : evOr cf (.cons e .nil) en = evE cf e en := rfl
@[simp] theorem evOr_cons {e e2 es} : evOr cf (.cons e (.cons e2 es)) en = M.bind (evE cf e en) fun v => M.bind (rd v) fun x => M.bind (ofO (truth x)) fun k => if k then M.pure v else evOr cf (.cons e2 es) en := rfl
@[simp] theorem evI_ex {e} : evI cf (.ex e) en = M.bind (evE cf e en) fun v => M.bind (depOf v) fun dp => M.bind (rd v) fun x => M.bind (ofO (itemsV x)) fun xs => M.pure (dp, xs) := rfl
@[simp] theorem evI_r1 {a} : evI cf (.r1 a) en = M.bind (dd (evE cf a en)) fun x => M.bind (ofO ((asI x).bind fun j => rng 0 j)) fun xs => M.pure (none, xs) := rfl
@[simp] theorem evI_r2 {a b} : evI cf (.r2 a b) en = rd2 (evE cf a en) (evE cf b en) fun x y => M.bind (ofO ((asI x).bind fun i => (asI y).bind fun j => rng i j)) fun xs => M.pure (none, xs) := rfl
@[simp] theorem evI_z2 {a b} : evI cf (.z2 a b) en = M.bind (evE cf a en) fun v => M.bind (evE cf b en) fun w => M.bind (asD v) fun x => M.bind (asD w) fun y => M.bind (ofO (zip2V x y)) fun xs => M.pure (none, xs) := rfl
@[simp] theorem evI_en {a} : evI cf (.en a) en = M.bind (evE cf a en) fun v => M.bind (asD v) fun x => M.bind (ofO ((asL x).map (enumD 0))) fun xs => M.pure (none, xs) := rfl
@[simp] theorem evS_asg {t e} : evS cf N (.asg t e) en = M.bind (evE cf e en) fun v => M.bind (ofO (asgT t v en)) fun en2 => M.pure (.next en2) := rfl
@[simp] theorem evS_par {is es} : evS cf N (.par is es) en = M.bind (evEs cf es en) fun vs => if vs.length = is.length ∧ is.all (· < en.length) then M.pure (.next ((is.zip vs).foldl (fun en p => en.set p.1 (some p.2)) en)) else fail := rfl
@[simp] theorem evS_aug {i e} : evS cf N (.aug i e) en = augM i (fun en => evE cf e en) en := rfl
@[simp] theorem evS_set {o i e} : evS cf N (.set o i e) en = M.bind (evE cf e en) fun u => M.bind (evE cf o en) fun v => M.bind (evE cf i en) fun w => M.bind (asD w) fun k => M.bind (asD u) fun y => M.bind (setM v k y) fun _ => M.pure (.next en) := rfl
@[simp] theorem evS_ex {e} : evS cf N (.ex e) en = M.bind (evE cf e en) fun _ => M.pure (.next en) := rfl
@[simp] theorem evS_ite {c a b} : evS cf N (.ite c a b) en = M.bind (tt (evE cf c en)) fun k => if k then evB cf N a en else evB cf N b en := rfl
@[simp] theorem evS_for {t it b} : evS cf N (.for_ t it b) en = M.bind (evI cf it en) fun p => forE cf N t b p.1 p.2 en := rfl
@[simp] theorem evS_whl {c b} : evS cf N (.whl c b) en = whlE cf N c b en := rfl
@[simp] theorem evS_ret {e} : evS cf N (.ret e) en = M.bind (evE cf e en) fun v => M.pure (.ret v) := rfl
@[simp] theorem evS_rse {c} : evS cf N (.rse c) en = raise c := rfl
@[simp] theorem evS_try {b hs} : evS cf N (.try_ b hs) en = tryM hs (evB cf N b en) := rfl
@[simp] theorem evS_frz {i} : evS cf N (.frz i) en = frzM i en := rfl
end
/-! ### operations -/
@[simp] theorem binV_add : binV .add = addV := rfl
@[simp] theorem binV_sub : binV .sub = subV := rfl
@[simp] theorem binV_mul : binV .mul = mulV := rfl
@[simp] theorem binV_fdiv : binV .fdiv = fdivV := rfl
@[simp] theorem binV_mod : binV .mod = modV := rfl
@[simp] theorem add_ii {a b : Int} : addV (.int a) (.int b) = some (.int (a + b)) := rfl
@[simp] theorem add_bi {a : Bool} {b : Int} : addV (.bool a) (.int b) = some (.int (b2 a + b)) := rfl
@[simp] theorem sub_ii {a b : Int} : subV (.int a) (.int b) = some (.int (a - b)) := rfl
@[simp] theorem sub_bi {a : Bool} {b : Int} : subV (.bool a) (.int b) = some (.int (b2 a - b)) := rfl
@[simp] theorem neg_i {a : Int} : negV (.int a) = some (.int (-a)) := rfl
theorem log2_lt {a : Int} {n : Nat} (h : a.natAbs < 2 ^ n) (hn : 0 < n) : a.natAbs.log2 < n := by
  rcases Nat.eq_zero_or_pos a.natAbs with z | p
  · rw [z]; simpa using hn
  · exact (Nat.log2_lt (by omega)).mpr h
theorem mul_ii {a b : Int} (h : a.natAbs < 2 ^ 400000) (h2 : b.natAbs < 2 ^ 400000) : mulV (.int a) (.int b) = some (.int (a * b)) := by
  have h3 := log2_lt h (by decide)
  have h4 := log2_lt h2 (by decide)
  unfold mulV
  dsimp only
  rw [if_pos (by omega)]
theorem fdiv_ii {a b : Int} (h : 0 < b) (h2 : b.natAbs < 2 ^ 8000) : fdivV (.int a) (.int b) = some (.int (a / b)) := by
  have h3 := log2_lt h2 (by decide)
  unfold fdivV
  dsimp only
  rw [if_pos ⟨h, by omega⟩]
theorem mod_ii {a b : Int} (h : 0 < b) : modV (.int a) (.int b) = some (.int (a % b)) := by
  unfold modV
  dsimp only
  rw [if_pos h]
@[simp] theorem cmpV_eq {x y : D} : cmpV .eq x y = eqV x y := by cases y <;> rfl
@[simp] theorem cmpV_lt {x y : D} : cmpV .lt x y = ltV x y := by cases y <;> rfl
@[simp] theorem cmpV_le {x y : D} : cmpV .le x y = leV x y := by cases y <;> rfl
@[simp] theorem cmpV_in_ {x y : D} : cmpV .in_ x y = inV x y := by cases y <;> rfl
@[simp] theorem cmpV_ne {x y : D} : cmpV .ne x y = (eqV x y).map (!·) := by cases y <;> rfl
@[simp] theorem cmpV_notIn {x y : D} : cmpV .notIn x y = (inV x y).map (!·) := by cases y <;> rfl
@[simp] theorem cmpV_gt {x y : D} : cmpV .gt x y = ltV y x := by cases y <;> rfl
@[simp] theorem cmpV_ge {x y : D} : cmpV .ge x y = leV y x := by cases y <;> rfl
@[simp] theorem cmpV_is {x : D} : cmpV .is x .none = some (isNone x) := by cases x <;> rfl
@[simp] theorem cmpV_isNot {x : D} : cmpV .isNot x .none = some (!isNone x) := by cases x <;> rfl
@[simp] theorem lt_ii {a b : Int} : ltV (.int a) (.int b) = some (decide (a < b)) := rfl
@[simp] theorem le_ii {a b : Int} : leV (.int a) (.int b) = some (decide (a ≤ b)) := rfl
@[simp] theorem truth_none : truth .none = some false := rfl
@[simp] theorem truth_bool {b : Bool} : truth (.bool b) = some b := rfl
@[simp] theorem truth_int {i : Int} : truth (.int i) = some (decide (i ≠ 0)) := by
  show some (i != 0) = _
  by_cases h : i = 0 <;> simp [h]
@[simp] theorem truth_list {xs : List D} : truth (.list xs) = some (!xs.isEmpty) := rfl
@[simp] theorem truth_tuple {xs : List D} : truth (.tuple xs) = some (!xs.isEmpty) := rfl
@[simp] theorem isTy_none_int : isTy .none .int = false := rfl
@[simp] theorem isTy_none_bool : isTy .none .bool = false := rfl
@[simp] theorem isTy_none_str : isTy .none .str = false := rfl
@[simp] theorem isTy_none_tuple : isTy .none .tuple = false := rfl
@[simp] theorem isTy_none_list : isTy .none .list = false := rfl
@[simp] theorem isTy_bool_int {a : Bool} : isTy (.bool a) .int = true := rfl
@[simp] theorem isTy_bool_bool {a : Bool} : isTy (.bool a) .bool = true := rfl
@[simp] theorem isTy_bool_str {a : Bool} : isTy (.bool a) .str = false := rfl
@[simp] theorem isTy_bool_tuple {a : Bool} : isTy (.bool a) .tuple = false := rfl
@[simp] theorem isTy_bool_list {a : Bool} : isTy (.bool a) .list = false := rfl
@[simp] theorem isTy_int_int {a : Int} : isTy (.int a) .int = true := rfl
@[simp] theorem isTy_int_bool {a : Int} : isTy (.int a) .bool = false := rfl
@[simp] theorem isTy_int_str {a : Int} : isTy (.int a) .str = false := rfl
@[simp] theorem isTy_int_tuple {a : Int} : isTy (.int a) .tuple = false := rfl
@[simp] theorem isTy_int_list {a : Int} : isTy (.int a) .list = false := rfl
@[simp] theorem isTy_str_int {a : Str} : isTy (.str a) .int = false := rfl
@[simp] theorem isTy_str_bool {a : Str} : isTy (.str a) .bool = false := rfl
@[simp] theorem isTy_str_str {a : Str} : isTy (.str a) .str = true := rfl
@[simp] theorem isTy_str_tuple {a : Str} : isTy (.str a) .tuple = false := rfl
@[simp] theorem isTy_str_list {a : Str} : isTy (.str a) .list = false := rfl
@[simp] theorem isTy_list_int {a : List D} : isTy (.list a) .int = false := rfl
@[simp] theorem isTy_list_bool {a : List D} : isTy (.list a) .bool = false := rfl
@[simp] theorem isTy_list_str {a : List D} : isTy (.list a) .str = false := rfl
@[simp] theorem isTy_list_tuple {a : List D} : isTy (.list a) .tuple = false := rfl
@[simp] theorem isTy_list_list {a : List D} : isTy (.list a) .list = true := rfl
@[simp] theorem isTy_tuple_int {a : List D} : isTy (.tuple a) .int = false := rfl
@[simp] theorem isTy_tuple_bool {a : List D} : isTy (.tuple a) .bool = false := rfl
@[simp] theorem isTy_tuple_str {a : List D} : isTy (.tuple a) .str = false := rfl
@[simp] theorem isTy_tuple_tuple {a : List D} : isTy (.tuple a) .tuple = true := rfl
@[simp] theorem isTy_tuple_list {a : List D} : isTy (.tuple a) .list = false := rfl
@[simp] theorem isNone_bool {a : Bool} : isNone (.bool a) = false := rfl
@[simp] theorem isNone_int {a : Int} : isNone (.int a) = false := rfl
@[simp] theorem isNone_str {a : Str} : isNone (.str a) = false := rfl
@[simp] theorem isNone_list {a : List D} : isNone (.list a) = false := rfl
@[simp] theorem isNone_tuple {a : List D} : isNone (.tuple a) = false := rfl
@[simp] theorem isNone_none : isNone .none = true := rfl
@[simp] theorem asI_int {i : Int} : asI (.int i) = some i := rfl
@[simp] theorem asSeq_list {a : List D} : asSeq (.list a) = some a := rfl
@[simp] theorem asSeq_tuple {a : List D} : asSeq (.tuple a) = some a := rfl
@[simp] theorem asL_list {a : List D} : asL (.list a) = some a := rfl
@[simp] theorem asT_tuple {a : List D} : asT (.tuple a) = some a := rfl
@[simp] theorem items_list {a : List D} : itemsV (.list a) = some a := rfl
@[simp] theorem items_tuple {a : List D} : itemsV (.tuple a) = some a := rfl
@[simp] theorem len_list {a : List D} : bltV .len [.list a] = some (.int a.length) := rfl
@[simp] theorem len_tuple {a : List D} : bltV .len [.tuple a] = some (.int a.length) := rfl
@[simp] theorem slV_tuple {a : List D} {lo hi : Option Int} : sliceV (.tuple a) lo hi = some (.tuple (cut a lo hi)) := rfl
@[simp] theorem slL_list {a : List D} {lo hi : Option Int} : sliceL (.list a) lo hi = some (cut a lo hi) := rfl
@[simp] theorem asgT_nm {i : Nat} {v : Vl} {en : Env} : asgT (.nm i) v en = if i < en.length then some (en.set i (some v)) else none := rfl
@[simp] theorem asgT_tp {is : List Nat} {xs : List D} {en : Env} : asgT (.tp is) (.d (.tuple xs)) en = if xs.length = is.length then some ((is.zip xs).foldl (fun en p => en.set p.1 (some (.d p.2))) en) else none := rfl
@[simp] theorem wipe_nil {en : Env} : wipe en [] = en := rfl
@[simp] theorem wipe_cons {en : Env} {v : Nat} {vs : List Nat} : wipe en (v :: vs) = (wipe en vs).set v none := rfl
@[simp] theorem inV_tuple {x : D} {ys : List D} : inV x (.tuple ys) = if min (deps ys) (dep x) ≤ 60 then some (ys.any fun z => eqv z x) else none := rfl
@[simp] theorem inV_list {x : D} {ys : List D} : inV x (.list ys) = if min (deps ys) (dep x) ≤ 60 then some (ys.any fun z => eqv z x) else none := rfl
@[simp] theorem eqV_def {x y : D} : eqV x y = if min (dep x) (dep y) ≤ 60 then some (eqv x y) else none := rfl
section
variable {h : Hh} {E : Nat → Hh → Prop}
theorem W_compE {cf : CF} {e c : Jr.E} {t : Tg} {own : List Nat} {en : Env} {dep : Option (Nat × Cell)} {xs : List D} {Q : List D → Hh → Prop} (g : D → Option D) (d : depOk dep h)
    (hf : ∀ x ∈ xs, W (turnM t own en (fun en => tt (evE cf c en)) (fun en => evE cf e en) x) h (fun b h1 => b = g x ∧ h1 = h) fun _ _ => False) : W (compE cf e t own c en dep xs) h Q E ↔ Q (xs.filterMap g) h := W_comp d hf
/-- with a condition and an element that look only -/
theorem W_turn {cf : CF} {e c : Jr.E} {t : Tg} {own : List Nat} {en : Env} {x : D} {Q : Option D → Hh → Prop} : W (turnM t own en (fun en => tt (evE cf c en)) (fun en => evE cf e en) x) h Q E ↔
    W (ofO (asgT t (.d x) (wipe en own))) h (fun en1 h => W (tt (evE cf c en1)) h (fun k h => if k = true then W (evE cf e en1) h (fun v h => W (asD v) h (fun y h => Q (some y) h) E) E else Q none h) E) E := by
  unfold turnM
  simp only [W_bind, W_ite, W_pure]
end
/-! ### cells -/
section
variable {h : Hh} {E : Nat → Hh → Prop}
@[simp] theorem rdC_ro {xs : List D} : rdC (.ro xs) = some (.list xs) := rfl
@[simp] theorem rdC_lst {xs : List D} : rdC (.lst xs) = some (.list xs) := rfl
@[simp] theorem rdC_dead : rdC .dead = none := rfl
@[simp] theorem W_rdr {n : Nat} {Q : D → Hh → Prop} : W (rd (.r n)) h Q E ↔ ∃ d, h[n]?.bind rdC = some d ∧ Q d h := by
  cases e : h[n]?.bind rdC with
  | none =>
    have : rd (.r n) h = none := by show (h[n]?.bind rdC).map _ = none; rw [e]; rfl
    unfold W
    rw [this]
    simp
  | some d => rw [W_rd_r e]; simp
@[simp] theorem W_rdLr {n : Nat} {Q : List D → Hh → Prop} : W (rdL (.r n)) h Q E ↔ ∃ xs, h[n]? = some (.lst xs) ∧ Q xs h := by
  unfold W rdL
  dsimp only
  cases e : h[n]? with
  | none => simp
  | some c => cases c <;> simp
@[simp] theorem W_depr {n : Nat} {Q : Option (Nat × Cell) → Hh → Prop} : W (depOf (.r n)) h Q E ↔ ∃ c, h[n]? = some c ∧ Q (some (n, c)) h := by
  unfold W depOf
  dsimp only
  cases e : h[n]? with
  | none => simp
  | some c => simp
@[simp] theorem W_appM {n : Nat} {y : D} {Q : Vl → Hh → Prop} : W (appM (.r n) y) h Q E ↔ ∃ xs, h[n]? = some (.lst xs) ∧ xs.length < sizeLine ∧ Q (.d .none) (h.set n (.lst (xs ++ [y]))) := by
  unfold W appM
  dsimp only
  cases e : h[n]? with
  | none => simp
  | some c =>
    cases c with
    | lst xs => by_cases q : xs.length < sizeLine <;> simp [q]
    | _ => simp
@[simp] theorem W_setM {n : Nat} {i : Int} {y : D} {Q : Unit → Hh → Prop} : W (setM (.r n) (.int i) y) h Q E ↔ ∃ xs j, h[n]? = some (.lst xs) ∧ ixN xs.length i = some j ∧ Q () (h.set n (.lst (xs.set j y))) := by
  unfold W setM
  dsimp only
  cases e : h[n]? with
  | none => simp
  | some c =>
    cases c with
    | lst xs => cases q : ixN xs.length i <;> simp [q]
    | _ => simp
end
@[simp] theorem take_set1 {h : Hh} {n : Nat} {c : Cell} : List.take h.length (h.set n c) = h.set n c := List.take_of_length_le (by rw [List.length_set]; exact Nat.le_refl _)
end Jr

set_option Elab.async false
set_option linter.all false
set_option maxRecDepth 100000
set_option maxHeartbeats 2000000
namespace Jr
open PySem
def isIntIn (x : D) (a b : Int) : Bool := match x with
  | .int i => decide (a ≤ i) && decide (i ≤ b)
  | _ => false
def inStrs (x : Str) (l : List String) : Bool := l.any fun y => decide (Str.ofString y = x)
theorem cut_first {y : D} {ys : List D} : cut (y :: ys) none (some 1) = [y] := by
  have e1 : sIx (y :: ys).length 0 none = 0 := rfl
  have e2 : sIx (y :: ys).length (y :: ys).length (some 1) = 1 := by
    unfold sIx HT.sIx
    simp
  unfold cut
  rw [e1, e2]
  rfl
section
variable {Φ : Nat → Option Def} {N k : Nat} {h : Hh} {E : Nat → Hh → Prop}
theorem W_is_integer (e : Φ 6 = some d_is_integer) {x : D} {a b : Int} {Q : Vl → Hh → Prop} :
    W (callF Φ N (k + 1) 6 [.d x, .d (.int a), .d (.int b)]) h Q E ↔ Q (.d (.bool (isIntIn x a b))) h := by
  rw [W_call e rfl]
  cases x with
  | int i => by_cases q : a ≤ i <;> simp [d_is_integer, isIntIn, q]
  | _ => simp [d_is_integer, isIntIn]
end
theorem cut_take {α : Type} {xs : List α} {j : Nat} : cut xs none (some (j : Int)) = xs.take j := by
  unfold cut sIx
  rw [HT.sIx_none, HT.sIx_nat, List.drop_zero, Nat.sub_zero]
  rcases Nat.le_total j xs.length with h | h
  · rw [Nat.min_eq_left h]
  · rw [Nat.min_eq_right h, List.take_of_length_le (Nat.le_refl _), List.take_of_length_le h]
theorem cut_drop {α : Type} {xs : List α} {j : Nat} : cut xs (some (j : Int)) none = xs.drop j := by
  unfold cut sIx
  rw [HT.sIx_none, HT.sIx_nat]
  rcases Nat.le_total j xs.length with h | h
  · rw [Nat.min_eq_left h, List.take_of_length_le (by rw [List.length_drop]; omega)]
  · rw [Nat.min_eq_right h, List.drop_eq_nil_of_le (Nat.le_refl _), List.drop_eq_nil_of_le h]
    simp
theorem mul_b {a b : Int} (h1 : -1267650600228229401496703205376 < a) (h2 : a < 1267650600228229401496703205376) (h3 : -1267650600228229401496703205376 < b) (h4 : b < 1267650600228229401496703205376) : mulV (.int a) (.int b) = some (.int (a * b)) := by
  have e : (1267650600228229401496703205376 : Nat) = 2 ^ 100 := by decide
  have h5 := log2_lt (a := a) (n := 100) (by rw [← e]; omega) (by decide)
  have h6 := log2_lt (a := b) (n := 100) (by rw [← e]; omega) (by decide)
  unfold mulV
  dsimp only
  rw [if_pos (by omega)]
theorem fdiv_b {a b : Int} (h : 0 < b) (h2 : b < 1267650600228229401496703205376) : fdivV (.int a) (.int b) = some (.int (a / b)) := by
  have e : (1267650600228229401496703205376 : Nat) = 2 ^ 100 := by decide
  have h6 := log2_lt (a := b) (n := 100) (by rw [← e]; omega) (by decide)
  unfold fdivV
  dsimp only
  rw [if_pos ⟨h, by omega⟩]
def St (ns : List Int) (b : Nat) (h : Hh) : Prop := h[0]? = some (.ro (ns.map D.int)) ∧ ∃ st : List Int, h[1]? = some (.lst (st.map D.int)) ∧ st.length ≤ b
theorem St.cases {ns : List Int} {b : Nat} {h : Hh} (s : St ns b h) : ∃ (st : List Int) (t : Hh), h = .ro (ns.map D.int) :: .lst (st.map D.int) :: t ∧ st.length ≤ b := by
  obtain ⟨h0, st, h1, hl⟩ := s
  match h, h0, h1 with
  | [], h0, _ => cases h0
  | [_], _, h1 => cases h1
  | a :: c :: t, h0, h1 =>
    cases h0
    cases h1
    exact ⟨st, t, rfl, hl⟩
theorem St.mk_ {ns : List Int} {b : Nat} {st : List Int} {t : Hh} (hl : st.length ≤ b) : St ns b (.ro (ns.map D.int) :: .lst (st.map D.int) :: t) := ⟨rfl, st, rfl, hl⟩
theorem allI_map : ∀ l : List Int, allI (l.map D.int) = some l
  | [] => rfl
  | x :: l => by
    show (asI (.int x)).bind (fun i => (allI (l.map D.int)).map (i :: ·)) = _
    rw [allI_map l]
    rfl
theorem max_ints (l : List Int) (x : Int) : ∃ v, bltV .max1 [.list (l.map D.int ++ [.int x])] = some (.int v) := by
  have e : l.map D.int ++ [D.int x] = (l ++ [x]).map D.int := by simp
  unfold bltV
  dsimp only
  rw [e, allI_map]
  cases h : l ++ [x] with
  | nil => simp at h
  | cons a r => exact ⟨_, rfl⟩
section
variable {Φ : Nat → Option Def} {N k : Nat} {h : Hh} {E : Nat → Hh → Prop}
def fabs : D → Option D
  | .int i => some (.int (if i < 0 then -i else i))
  | _ => none
theorem fm_abs (ns : List Int) : (ns.map D.int).filterMap fabs = (ns.map fun i => if i < 0 then -i else i).map D.int := by
  induction ns with
  | nil => rfl
  | cons a l ih =>
    show D.int (if a < 0 then -a else a) :: (l.map D.int).filterMap fabs = _
    rw [ih]
    rfl
theorem W_abs {cf : CF} {en : Env} {i : Nat} (hi : i < en.length) {c0 : Cell} {t : Hh} {ns : List Int} {Q : List D → Hh → Prop} : W (compE cf (.blt .abs (.cons (.var i) .nil)) (.nm i) [i] (.bl true) en (some (0, c0)) (ns.map D.int)) (c0 :: t) Q E ↔ Q ((ns.map fun i => if i < 0 then -i else i).map D.int) (c0 :: t) := by
  rw [← fm_abs]
  refine W_compE fabs rfl fun x hx => ?_
  obtain ⟨j, _, rfl⟩ := List.mem_map.mp hx
  rw [W_turn]
  simp [fabs, bltV, hi]
theorem ix_mod {ns : List Int} (h : ns ≠ []) (j : Int) : ∃ c, ixV (.list (ns.map D.int)) (.int (j % (ns.length : Int))) = some (.int c) := by
  have hp : 0 < ns.length := List.length_pos_iff.mpr h
  obtain ⟨i, hi⟩ : ∃ i : Nat, j % (ns.length : Int) = (i : Int) := ⟨(j % (ns.length : Int)).toNat, (Int.toNat_of_nonneg (Int.emod_nonneg _ (by omega))).symm⟩
  have lt : i < ns.length := by
    have := Int.emod_lt_of_pos j (show (0 : Int) < ns.length by omega)
    omega
  refine ⟨ns[i], ?_⟩
  rw [hi]
  exact ixV_lst (by rw [List.getElem?_map, List.getElem?_eq_getElem lt]; rfl)
theorem W_draw (e : Φ 8 = some d__law_draw) {ns : List Int} {b : Nat} {m : Int} (s : St ns b h) (hb : b ≤ 1000000) (hm : 0 < m) (hns : ns.length ≤ 63) {Q : Vl → Hh → Prop}
    (q : ∀ r c, 0 ≤ r → r < m → St ns (b + 2) (h.set 1 c) → Q (.d (.int r)) (h.set 1 c)) : W (callF Φ N (k + 1) 8 [.r 0, .r 1, .d (.int m)]) h Q E := by
  obtain ⟨st, t, rfl, hl⟩ := s.cases
  rw [W_call e rfl]
  simp only [d__law_draw]
  rw [W_B_cons]
  refine W.imp (Q := fun so h1 => so = SO.next [some (.r 0), some (.r 1), some (.d (.int m)), none, none, none, none, none] ∧ ∃ v w, h1 = .ro (ns.map D.int) :: .lst ((v :: w).map D.int) :: t ∧ w.length ≤ b) ?_ ?_
  · cases st with
    | nil =>
      obtain ⟨v, hv⟩ := max_ints (ns.map fun i => if i < 0 then -i else i) 0
      rw [List.map_map] at hv
      simp [sizeLine, W_abs, hv]
      exact ⟨by omega, v, [], ⟨rfl, rfl⟩, by simp⟩
    | cons v w => 
      simp at hl ⊢
      exact ⟨v, w, ⟨rfl, rfl⟩, by omega⟩
  · rintro so h1 ⟨rfl, v, w, rfl, hw⟩
    have fin : ∀ r v', 0 ≤ r → r < m → Q (.d (.int r)) (Cell.ro (List.map D.int ns) :: Cell.lst (D.int v' :: (List.map D.int w ++ [D.int 0])) :: t) := fun r v' h0 h1 => by
      have e1 : D.int v' :: (List.map D.int w ++ [D.int 0]) = (v' :: (w ++ [0])).map D.int := by simp
      have := q r (.lst ((v' :: (w ++ [0])).map D.int)) h0 h1 (.mk_ (by simp; omega))
      rw [e1]
      exact this
    have h0 : ∀ x : Int, 0 ≤ x % m ∧ x % m < m := fun x => ⟨Int.emod_nonneg _ (by omega), Int.emod_lt_of_pos _ hm⟩
    show W (evB _ _ _ _) _ _ _
    -- append, k
    rw [W_B_cons]
    refine W.imp (Q := fun so h1 => so = SO.next [some (.r 0), some (.r 1), some (.d (.int m)), none, none, none, none, none] ∧ h1 = .ro (ns.map D.int) :: .lst (D.int v :: (w.map D.int ++ [D.int 0])) :: t) ?_ ?_
    · simp [sizeLine]; omega
    rintro so h1 ⟨rfl, rfl⟩
    show W (evB _ _ _ _) _ _ _
    rw [W_B_cons]
    refine W.imp (Q := fun so h1 => so = SO.next [some (.r 0), some (.r 1), some (.d (.int m)), some (.d (.int (w.length + 2))), none, none, none, none] ∧ h1 = .ro (ns.map D.int) :: .lst (D.int v :: (w.map D.int ++ [D.int 0])) :: t) ?_ ?_
    · simp; omega
    rintro so h1 ⟨rfl, rfl⟩
    show W (evB _ _ _ _) _ _ _
    rw [W_B_cons]
    refine W.imp (Q := fun so h1 => ∃ c : Int, so = SO.next [some (.r 0), some (.r 1), some (.d (.int m)), some (.d (.int (w.length + 2))), some (.d (.int c)), none, none, none] ∧ h1 = .ro (ns.map D.int) :: .lst (D.int v :: (w.map D.int ++ [D.int 0])) :: t) ?_ ?_
    · by_cases hne : ns = []
      · simp [hne]
      · obtain ⟨c, hc⟩ := ix_mod hne (w.length + 2)
        have hp : (0 : Int) < ns.length := by
          have := List.length_pos_iff.mpr hne
          omega
        simp [hne, mod_ii hp, hc]
    rintro so h1 ⟨c, rfl, rfl⟩
    show W (evB _ _ _ _) _ _ _
    rw [W_B_cons]
    refine W.imp (Q := fun so h1 => ∃ g : Int, 0 ≤ g ∧ g < 65536 ∧ so = SO.next [some (.r 0), some (.r 1), some (.d (.int m)), some (.d (.int (w.length + 2))), some (.d (.int c)), some (.d (.int g)), none, none] ∧ h1 = .ro (ns.map D.int) :: .lst (D.int v :: (w.map D.int ++ [D.int 0])) :: t) ?_ ?_
    · simp [mod_ii]; omega
    rintro so h1 ⟨g, g0, g1, rfl, rfl⟩
    show W (evB _ _ _ _) _ _ _
    rw [W_B_cons]
    refine W.imp (Q := fun so h1 => ∃ v' : Int, so = SO.next [some (.r 0), some (.r 1), some (.d (.int m)), some (.d (.int (w.length + 2))), some (.d (.int c)), some (.d (.int g)), none, none] ∧ h1 = .ro (ns.map D.int) :: .lst (D.int v' :: (w.map D.int ++ [D.int 0])) :: t) ?_ ?_
    · simp
      repeat (simp (disch := omega) only [mul_b, mod_ii, fdiv_b]; try simp)
      refine ⟨0, ?_, _, rfl⟩
      unfold ixN L2.ixN
      rw [if_pos (by omega), if_pos (by omega)]
      rfl
    rintro so h1 ⟨v', rfl, rfl⟩
    show W (evB _ _ _ _) _ _ _
    rw [W_B_cons]
    refine W.imp (Q := fun so h1 => ∃ n : Int, 0 ≤ n ∧ n < 4294967291 ∧ so = SO.next [some (.r 0), some (.r 1), some (.d (.int m)), some (.d (.int (w.length + 2))), some (.d (.int c)), some (.d (.int g)), some (.d (.int n)), none] ∧ h1 = .ro (ns.map D.int) :: .lst (D.int v' :: (w.map D.int ++ [D.int 0])) :: t) ?_ ?_
    · simp
      repeat (simp (disch := omega) only [mul_b, mod_ii, fdiv_b]; try simp)
      omega
    rintro so h1 ⟨n, n0, n1, rfl, rfl⟩
    show W (evB _ _ _ _) _ _ _
    rw [W_B_cons]
    refine W.imp (Q := fun so h1 => ∃ n : Int, 0 ≤ n ∧ n < 4294967291 ∧ so = SO.next [some (.r 0), some (.r 1), some (.d (.int m)), some (.d (.int (w.length + 2))), some (.d (.int c)), some (.d (.int g)), some (.d (.int n)), none] ∧ h1 = .ro (ns.map D.int) :: .lst (D.int v' :: (w.map D.int ++ [D.int 0])) :: t) ?_ ?_
    · simp
      repeat (simp (disch := omega) only [mul_b, mod_ii, fdiv_b]; try simp)
      omega
    rintro so h1 ⟨n, n0, n1, rfl, rfl⟩
    show W (evB _ _ _ _) _ _ _
    rw [W_B_cons]
    refine W.imp (Q := fun so h1 => ∃ p : Int, 0 ≤ p ∧ p < 4294967291 ∧ so = SO.next [some (.r 0), some (.r 1), some (.d (.int m)), some (.d (.int (w.length + 2))), some (.d (.int c)), some (.d (.int g)), some (.d (.int n)), some (.d (.int p))] ∧ h1 = .ro (ns.map D.int) :: .lst (D.int v' :: (w.map D.int ++ [D.int 0])) :: t) ?_ ?_
    · simp
      repeat (simp (disch := omega) only [mul_b, mod_ii, fdiv_b]; try simp)
      omega
    rintro so h1 ⟨p, p0, p1, rfl, rfl⟩
    show W (evB _ _ _ _) _ _ _
    simp
    repeat (simp (disch := omega) only [mul_b, mod_ii, fdiv_b]; try simp)
    exact fin _ _ (h0 _).1 (h0 _).2
end
/-! ### how large a value is -/
mutual
def sz : D → Nat
  | .int i => i.natAbs
  | .list xs => max xs.length (szs xs)
  | .tuple xs => max xs.length (szs xs)
  | _ => 0
def szs : List D → Nat
  | [] => 0
  | x :: xs => max (sz x) (szs xs)
end
@[simp] theorem sz_none : sz .none = 0 := by simp [sz]
@[simp] theorem sz_bool {b : Bool} : sz (.bool b) = 0 := by simp [sz]
@[simp] theorem sz_str {b : Str} : sz (.str b) = 0 := by simp [sz]
@[simp] theorem sz_int {i : Int} : sz (.int i) = i.natAbs := by simp [sz]
@[simp] theorem sz_list {xs : List D} : sz (.list xs) = max xs.length (szs xs) := by simp [sz]
@[simp] theorem sz_tuple {xs : List D} : sz (.tuple xs) = max xs.length (szs xs) := by simp [sz]
@[simp] theorem szs_nil : szs [] = 0 := by simp [szs]
@[simp] theorem szs_cons {x : D} {xs : List D} : szs (x :: xs) = max (sz x) (szs xs) := by simp [szs]
theorem szs_le {M : Nat} : ∀ {xs : List D}, szs xs ≤ M ↔ ∀ x ∈ xs, sz x ≤ M
  | [] => by simp
  | x :: xs => by rw [szs_cons, Nat.max_le, szs_le (xs := xs)]; simp
theorem deps_le {n : Nat} : ∀ {xs : List D}, deps xs ≤ n ↔ ∀ x ∈ xs, dep x ≤ n
  | [] => by simp
  | x :: xs => by rw [deps_cons, Nat.max_le, deps_le (xs := xs)]; simp
/-- small enough: numbers and lengths up to M, n deep -/
def Sm (M n : Nat) (d : D) : Prop := sz d ≤ M ∧ dep d ≤ n
theorem Sm.tuple {M n : Nat} {xs : List D} (hl : xs.length ≤ M) (h : ∀ x ∈ xs, Sm M n x) : Sm M (n + 1) (.tuple xs) := by
  refine ⟨?_, ?_⟩
  · rw [sz_tuple]
    exact Nat.max_le.mpr ⟨hl, szs_le.mpr fun x hx => (h x hx).1⟩
  · rw [dep_tuple]
    exact Nat.succ_le_succ (deps_le.mpr fun x hx => (h x hx).2)
theorem Sm.list {M n : Nat} {xs : List D} (hl : xs.length ≤ M) (h : ∀ x ∈ xs, Sm M n x) : Sm M (n + 1) (.list xs) := by
  refine ⟨?_, ?_⟩
  · rw [sz_list]
    exact Nat.max_le.mpr ⟨hl, szs_le.mpr fun x hx => (h x hx).1⟩
  · rw [dep_list]
    exact Nat.succ_le_succ (deps_le.mpr fun x hx => (h x hx).2)
theorem Sm.of_tuple {M n : Nat} {xs : List D} (h : Sm M n (.tuple xs)) : xs.length ≤ M ∧ 0 < n ∧ ∀ x ∈ xs, Sm M (n - 1) x := by
  obtain ⟨h1, h2⟩ := h
  rw [sz_tuple, Nat.max_le] at h1
  rw [dep_tuple] at h2
  exact ⟨h1.1, by omega, fun x hx => ⟨szs_le.mp h1.2 x hx, deps_le.mp (by omega) x hx⟩⟩
theorem Sm.mono {M M' n n' : Nat} {d : D} (h : Sm M n d) (hm : M ≤ M') (hn : n ≤ n') : Sm M' n' d := ⟨Nat.le_trans h.1 hm, Nat.le_trans h.2 hn⟩
theorem cut_mem {xs : List D} {lo hi : Option Int} {x : D} (h : x ∈ cut xs lo hi) : x ∈ xs := List.mem_of_mem_drop (List.mem_of_mem_take h)
theorem cut_len' (xs : List D) (lo hi : Option Int) : (cut xs lo hi).length ≤ xs.length := by
  unfold cut
  rw [List.length_take, List.length_drop]
  omega
section
variable {Φ : Nat → Option Def} {N k : Nat} {h : Hh} {E : Nat → Hh → Prop} {ns : List Int} {b : Nat}
theorem W_pick (e8 : Φ 8 = some d__law_draw) (e7 : Φ 7 = some d__law_pick) (s : St ns b h) (hb : b ≤ 1000000) (hns : ns.length ≤ 63) {xs : List D} (hx : xs ≠ []) {Q : Vl → Hh → Prop}
    (q : ∀ y c, y ∈ xs → St ns (b + 2) (h.set 1 c) → Q (.d y) (h.set 1 c)) : W (callF Φ N (k + 2) 7 [.r 0, .r 1, .d (.list xs)]) h Q E := by
  rw [W_call e7 rfl]
  simp [d__law_pick]
  have hp := List.length_pos_iff.mpr hx
  refine W_draw e8 s hb (by omega) hns fun r c r0 r1 s' => ?_
  obtain ⟨i, rfl⟩ : ∃ i : Nat, r = i := ⟨r.toNat, by omega⟩
  have lt : i < xs.length := by omega
  rw [W_rd_d, ixV_lst (List.getElem?_eq_getElem lt)]
  simp
  exact q _ c (List.getElem_mem lt) s'
end
/-- a list that grows, beside the state -/
def Th (ns : List Int) (b j n : Nat) (h : Hh) : Prop := St ns b h ∧ 2 ≤ j ∧ ∃ xs, h[j]? = some (.lst xs) ∧ xs.length ≤ n
theorem St.set_ {ns : List Int} {b j : Nat} {h : Hh} {c : Cell} (s : St ns b h) (hj : 2 ≤ j) : St ns b (h.set j c) := by
  obtain ⟨z1, st, z2, z3⟩ := s
  exact ⟨by rw [List.getElem?_set_ne (by omega)]; exact z1, st, by rw [List.getElem?_set_ne (by omega)]; exact z2, z3⟩
theorem St.app_ {ns : List Int} {b : Nat} {h : Hh} {c : Cell} (s : St ns b h) : St ns b (h ++ [c]) ∧ 2 ≤ h.length := by
  obtain ⟨z1, st, z2, z3⟩ := s
  have l : 1 < h.length := by
    rcases Nat.lt_or_ge 1 h.length with q | q
    · exact q
    · rw [List.getElem?_eq_none q] at z2; cases z2
  exact ⟨⟨by rw [List.getElem?_append_left (by omega)]; exact z1, st, by rw [List.getElem?_append_left (by omega)]; exact z2, z3⟩, l⟩
theorem Th.add {ns : List Int} {b j n : Nat} {h : Hh} {xs ys : List D} (t : Th ns b j n h) (e : h[j]? = some (.lst xs)) (hl : ys.length ≤ n + 1) : Th ns b j (n + 1) (h.set j (.lst ys)) := by
  obtain ⟨s, j2, _⟩ := t
  have lt : j < h.length := by
    rcases Nat.lt_or_ge j h.length with q | q
    · exact q
    · rw [List.getElem?_eq_none q] at e; cases e
  exact ⟨s.set_ j2, j2, ys, by rw [List.getElem?_set_self lt], hl⟩
theorem Th.new {ns : List Int} {b n : Nat} {h : Hh} {ys : List D} (s : St ns b h) (hl : ys.length ≤ n) : Th ns b h.length n (h ++ [.lst ys]) :=
  ⟨s.app_.1, (s.app_ (c := .dead)).2, ys, by simp, hl⟩
theorem Th.draw {ns : List Int} {b b' j n : Nat} {h : Hh} {c : Cell} (t : Th ns b j n h) (s : St ns b' (h.set 1 c)) : Th ns b' j n (h.set 1 c) := by
  obtain ⟨_, j2, xs, e, hl⟩ := t
  exact ⟨s, j2, xs, by rw [List.getElem?_set_ne (by omega)]; exact e, hl⟩
theorem Th.mono {ns : List Int} {b b' j n n' : Nat} {h : Hh} (t : Th ns b j n h) (hb : b ≤ b') (hn : n ≤ n') : Th ns b' j n' h := by
  obtain ⟨⟨z1, st, z2, z3⟩, j2, xs, e, hl⟩ := t
  exact ⟨⟨z1, st, z2, by omega⟩, j2, xs, e, by omega⟩
theorem W_frz {i n : Nat} {en : Env} {h : Hh} {xs : List D} {Q : SO → Hh → Prop} {E : Nat → Hh → Prop} (e : en[i]? = some (some (.r n))) (e2 : h[n]? = some (.lst xs)) : W (frzM i en) h Q E ↔ Q (.next (en.set i (some (.d (.list xs))))) (h.set n .dead) :=
  W.eq (by unfold frzM; rw [e]; dsimp only; rw [e2])
end Jr

set_option Elab.async false
set_option linter.all false
set_option maxRecDepth 100000
set_option maxHeartbeats 2000000
namespace Jr
open PySem
theorem cut_tail {α : Type} {xs : List α} : cut xs (some 1) none = xs.tail := (cut_drop (j := 1)).trans (by simp)
theorem seq_nat {i n : Nat} (h : i < n) : seqIndex? (i : Int) n = some i := by
  have n0 : ¬ ((i : Int) < 0) := by omega
  have n1 : (i : Int) < n := by omega
  unfold seqIndex?
  simp [n0, h]
section
variable {h : Hh} {E : Nat → Hh → Prop}
theorem W_pop {n i : Nat} {y : D} {xs : List D} {Q : Vl → Hh → Prop} (e : h[n]? = some (.lst xs)) (hi : xs[i]? = some y) (sm : xs.length ≤ 100000000) : W (popM (.r n) (.int (i : Int))) h Q E ↔ Q (.d y) (h.set n (.lst (xs.eraseIdx i))) := by
  have lt : i < xs.length := by
    rcases Nat.lt_or_ge i xs.length with q | q
    · exact q
    · rw [List.getElem?_eq_none q] at hi; cases hi
  refine W.eq ?_
  unfold popM
  dsimp only
  rw [e]
  dsimp only
  rw [if_pos (by omega), seq_nat lt]
  dsimp only
  rw [hi]
end
section
variable {Φ : Nat → Option Def} {N k : Nat} {h : Hh} {E : Nat → Hh → Prop} {ns : List Int} {b : Nat}
theorem St.more {b' : Nat} (s : St ns b h) (hb : b ≤ b') : St ns b' h := by
  obtain ⟨z1, st, z2, z3⟩ := s
  exact ⟨z1, st, z2, by omega⟩
theorem St.len (s : St ns b h) : 2 ≤ h.length := (s.app_ (c := .dead)).2
theorem St.up {t : Hh} (s : St ns b h) : St ns b (h ++ t) := by
  have l := s.len
  obtain ⟨z1, st, z2, z3⟩ := s
  exact ⟨by rw [List.getElem?_append_left (by omega)]; exact z1, st, by rw [List.getElem?_append_left (by omega)]; exact z2, z3⟩
theorem St.down {t : Hh} (s : St ns b (h ++ t)) (l : 2 ≤ h.length) : St ns b h := by
  obtain ⟨z1, st, z2, z3⟩ := s
  exact ⟨by rw [List.getElem?_append_left (by omega)] at z1; exact z1, st, by rw [List.getElem?_append_left (by omega)] at z2; exact z2, z3⟩
theorem set_app {t : Hh} {c : Cell} (l : 2 ≤ h.length) : (h ++ t).set 1 c = h.set 1 c ++ t := List.set_append_left _ _ (by omega)
theorem perm_erase {α : Type} : ∀ {xs : List α} {i : Nat} {y : α}, xs[i]? = some y → (y :: xs.eraseIdx i).Perm xs
  | [], i, y, e => by simp at e
  | x :: xs, 0, y, e => by simp at e; subst e; simp
  | x :: xs, i + 1, y, e => by
    have := perm_erase (xs := xs) (i := i) (y := y) (by simpa using e)
    rw [List.eraseIdx_cons_succ]
    exact (List.Perm.swap _ _ _).trans (this.cons x)
theorem W_shuffled (e8 : Φ 8 = some d__law_draw) (e : Φ 15 = some d__law_shuffled) (s : St ns b h) {x : D} {xs : List D} (hx : asSeq x = some xs) (hl : xs.length ≤ 1000) (hb : b ≤ 900000) (hns : ns.length ≤ 63) (hN : 1000 < N) {Q : Vl → Hh → Prop}
    (q : ∀ ys c, ys.Perm xs → St ns (b + 2 * xs.length) (h.set 1 c) → Q (.d (.list ys)) (h.set 1 c)) : W (callF Φ N (k + 2) 15 [.r 0, .r 1, .d x]) h Q E := by
  have l2 := s.len
  rw [W_call e rfl]
  simp only [d__law_shuffled]
  rw [W_B_cons]
  refine W.imp (Q := fun so h1 => so = .next [some (.r 0), some (.r 1), some (.d x), some (.r h.length), some (.r (h.length + 1))] ∧ h1 = h ++ [.lst xs, .lst []]) ?_ ?_
  · simp [hx, sizeLine]
  rintro so h1 ⟨rfl, rfl⟩
  show W (evB _ _ _ _) _ _ _
  rw [W_B_cons]
  obtain ⟨c0, hc0⟩ : ∃ c0, h = h.set 1 c0 := ⟨h[1]'(by omega), by simp⟩
  refine W.imp (Q := fun so h1 => so = .next [some (.r 0), some (.r 1), some (.d x), some (.r h.length), some (.r (h.length + 1))] ∧ ∃ ys c, ys.Perm xs ∧ St ns (b + 2 * xs.length) (h.set 1 c) ∧ h1 = h.set 1 c ++ [.lst [], .lst ys]) ?_ ?_
  · rw [evS_whl]
    unfold whlE
    refine W_whl (fun m en h1 => en = [some (.r 0), some (.r 1), some (.d x), some (.r h.length), some (.r (h.length + 1))] ∧ ∃ rest found c, (found ++ rest).Perm xs ∧ St ns (b + 2 * found.length) (h.set 1 c) ∧ m = rest.length ∧ h1 = h.set 1 c ++ [.lst rest, .lst found]) ?_ (m := xs.length) ?_ (by omega)
    · rintro m en h1 ⟨rfl, rest, found, c, pm, s1, rfl, rfl⟩
      have pl := pm.length_eq
      rw [List.length_append] at pl
      have e1 : (h.set 1 c ++ [Cell.lst rest, Cell.lst found])[h.length]? = some (.lst rest) := by rw [List.getElem?_append_right (by simp)]; simp
      have e2 : (h.set 1 c ++ [Cell.lst rest, Cell.lst found])[h.length + 1]? = some (.lst found) := by rw [List.getElem?_append_right (by simp)]; simp
      simp [e1]
      cases rest with
      | nil =>
        simp
        exact ⟨found, by simpa using pm, c, s1.more (by simp at pl; omega), rfl⟩
      | cons r rest =>
        simp [e1, e2]
        simp at pl
        refine W_draw e8 (s1.up (t := [.lst (r :: rest), .lst found])) (by omega) (by omega) hns fun j c1 j0 j1 s2 => ?_
        rw [set_app (by simpa using l2), List.set_set] at s2 ⊢
        obtain ⟨i, rfl⟩ : ∃ i : Nat, j = i := ⟨j.toNat, by omega⟩
        have lt : i < (r :: rest).length := by simp; omega
        have e3 : (h.set 1 c1 ++ [Cell.lst (r :: rest), Cell.lst found])[h.length]? = some (.lst (r :: rest)) := by rw [List.getElem?_append_right (by simp)]; simp
        have e4 : (h.set 1 c1 ++ [Cell.lst (r :: rest), Cell.lst found]).set h.length (.lst ((r :: rest).eraseIdx i)) = h.set 1 c1 ++ [Cell.lst ((r :: rest).eraseIdx i), Cell.lst found] := by
          rw [List.set_append_right _ _ (by simp)]; simp
        rw [W_asD, W_pop e3 (List.getElem?_eq_getElem lt) (by simp; omega), e4]
        have e5 : (h.set 1 c1 ++ [Cell.lst ((r :: rest).eraseIdx i), Cell.lst found])[h.length + 1]? = some (.lst found) := by rw [List.getElem?_append_right (by simp)]; simp
        have e6 : ∀ z, (h.set 1 c1 ++ [Cell.lst ((r :: rest).eraseIdx i), Cell.lst found]).set (h.length + 1) z = h.set 1 c1 ++ [Cell.lst ((r :: rest).eraseIdx i), z] := fun z => by
          rw [List.set_append_right _ _ (by simp)]; simp
        rw [W_asD]
        refine ⟨found, e5, by unfold sizeLine; omega, ?_⟩
        rw [e6]
        have el : ((r :: rest).eraseIdx i).length = rest.length := by rw [List.length_eraseIdx_of_lt lt]; simp
        refine ⟨rest.length, by omega, (r :: rest).eraseIdx i, found ++ [(r :: rest)[i]], ?_, c1, ?_, el.symm, rfl⟩
        · rw [List.append_assoc]
          exact ((perm_erase (List.getElem?_eq_getElem lt)).append_left found).trans pm
        · exact (s2.down (by simpa using l2)).more (by simp; omega)
    · exact ⟨rfl, xs, [], c0, by simp, by rw [← hc0]; simpa using s, rfl, by rw [← hc0]⟩
  rintro so h1 ⟨rfl, ys, c, pm, s1, rfl⟩
  show W (evB _ _ _ _) _ _ _
  have e2 : (h.set 1 c ++ [Cell.lst [], Cell.lst ys])[h.length + 1]? = some (.lst ys) := by rw [List.getElem?_append_right (by simp)]; simp
  rw [W_B_cons, evS_frz, W_frz rfl e2, seqQ_next]
  simp
  exact q ys c pm s1
end
end Jr

set_option Elab.async false
set_option linter.all false
set_option maxRecDepth 100000
set_option maxHeartbeats 2000000
namespace Jr
open PySem
/-! ### drawn collections -/
def names8 : List Str := [q "a", q "b", q "c", q "d", q "e", q "f", q "gg", q "hh"]
theorem names8_nodup : names8.Nodup := by decide
def sLt (a b : Str) : Prop := a.cps.toList < b.cps.toList
structure Coll (m : Nat) (l : List Str) : Prop where
  sub : ∀ x ∈ l, x ∈ names8
  asc : l.Pairwise sLt
  pos : 1 ≤ l.length
  le : l.length ≤ m
  le8 : l.length ≤ 8
def unS : D → Str
  | .str x => x
  | _ => Str.empty
theorem perm_strs {ys : List D} {l : List Str} (h : ys.Perm (l.map D.str)) : ∃ zs : List Str, ys = zs.map D.str ∧ zs.Perm l := by
  refine ⟨ys.map unS, ?_, ?_⟩
  · have : ∀ y ∈ ys, ∃ z, y = D.str z := fun y hy => by
      obtain ⟨z, _, rfl⟩ := List.mem_map.mp (h.mem_iff.mp hy)
      exact ⟨z, rfl⟩
    rw [List.map_map]
    conv => lhs; rw [← List.map_id ys]
    refine List.map_congr_left fun y hy => ?_
    obtain ⟨z, rfl⟩ := this y hy
    rfl
  · have := h.map unS
    rw [List.map_map] at this
    have e : l.map (unS ∘ D.str) = l := by
      conv => rhs; rw [← List.map_id l]
      rfl
    rwa [e] at this
theorem allS_map : ∀ l : List Str, allS (l.map D.str) = some l
  | [] => rfl
  | x :: l => by
    show (asS (.str x)).bind (fun i => (allS (l.map D.str)).map (i :: ·)) = _
    rw [allS_map l]
    rfl
theorem sortV_strs {l : List Str} (hp : 0 < l.length) (h : l.length < 64) : sortV (l.map D.str) = some ((l.mergeSort sLe).map D.str) := by
  cases l with
  | nil => simp at hp
  | cons x l =>
    have e : allI ((x :: l).map D.str) = none := rfl
    unfold sortV
    rw [e]
    dsimp only
    rw [allS_map, Option.bind_some, if_pos h]
theorem sLt_of {a b : Str} (h : sLe a b = true) (n : a ≠ b) : sLt a b := by
  refine Classical.byContradiction fun c => n (sLe_anti h ?_)
  unfold sLe
  simp only [Bool.not_eq_true', decide_eq_false_iff_not]
  exact c
theorem sorted_strict {l : List Str} (nd : l.Nodup) : (l.mergeSort sLe).Pairwise sLt := by
  have h1 := sorted_pw (sLe_sorted l)
  have h2 : (l.mergeSort sLe).Nodup := (List.mergeSort_perm l sLe).nodup_iff.mpr nd
  exact (h1.and h2).imp fun ⟨x, y⟩ => sLt_of x y
section
variable {Φ : Nat → Option Def} {N k : Nat} {h : Hh} {E : Nat → Hh → Prop} {ns : List Int} {b : Nat}
theorem W_collection (e8 : Φ 8 = some d__law_draw) (e15 : Φ 15 = some d__law_shuffled) (e : Φ 17 = some d__law_collection) (s : St ns b h) {m : Nat} (hm : 0 < m) (hb : b ≤ 800000) (hns : ns.length ≤ 63) (hN : 1000 < N) {Q : Vl → Hh → Prop}
    (q : ∀ l c, Coll m l → St ns (b + 18) (h.set 1 c) → Q (.d (.tuple (l.map D.str))) (h.set 1 c)) : W (callF Φ N (k + 3) 17 [.r 0, .r 1, .d (.int m)]) h Q E := by
  rw [W_call e rfl]
  simp only [d__law_collection]
  rw [W_B_cons]
  refine W.imp (Q := fun so h1 => ∃ (zs : List Str) (c : Cell), zs.Perm names8 ∧ so = .next [some (.r 0), some (.r 1), some (.d (.int m)), some (.d (.list (zs.map D.str)))] ∧ St ns (b + 16) (h.set 1 c) ∧ h1 = h.set 1 c) ?_ ?_
  · simp [ok_string, sizeLine]
    refine W_shuffled e8 e15 s (xs := names8.map D.str) rfl (by simp [names8]) (by omega) hns hN fun ys c pm s1 => ?_
    obtain ⟨zs, rfl, pm2⟩ := perm_strs pm
    simp
    exact ⟨zs, pm2, rfl, c, s1, rfl⟩
  rintro so h1 ⟨zs, c, pm, rfl, s1, rfl⟩
  show W (evB _ _ _ _) _ _ _
  simp
  refine W_draw e8 (m := (m : Int)) s1 (by omega) (by omega) hns fun r c2 r0 r1 s2 => ?_
  rw [List.set_set] at s2 ⊢
  obtain ⟨i, rfl⟩ : ∃ i : Nat, r = i := ⟨r.toNat, by omega⟩
  have pl := pm.length_eq
  have p8 : names8.length = 8 := rfl
  have ec : cut (zs.map D.str) none (some (1 + (i : Int))) = (zs.take (i + 1)).map D.str := by
    rw [show 1 + (i : Int) = ((i + 1 : Nat) : Int) from by omega, cut_take, List.map_take]
  have lt : (zs.take (i + 1)).length = min (i + 1) 8 := by rw [List.length_take]; omega
  simp [ec]
  have es : sortV (List.map D.str (List.take (i + 1) zs)) = some (((zs.take (i + 1)).mergeSort sLe).map D.str) := sortV_strs (by omega) (by omega)
  rw [List.map_take] at es
  simp [es]
  refine q _ c2 ⟨fun x hx => ?_, sorted_strict (((List.take_sublist _ _).nodup (pm.nodup_iff.mpr names8_nodup))), ?_, ?_, ?_⟩ s2
  · exact pm.mem_iff.mp (List.mem_of_mem_take ((List.mergeSort_perm _ _).mem_iff.mp hx))
  all_goals rw [List.length_mergeSort, lt]; omega
end
end Jr

set_option Elab.async false
set_option linter.all false
set_option maxRecDepth 100000
set_option maxHeartbeats 2000000
namespace Jr
open PySem
section
variable {h : Hh} {X : Nat → Hh → Prop}
theorem W_map {cf : CF} {e c : Jr.E} {t : Tg} {own : List Nat} {en : Env} {dep : Option (Nat × Cell)} {xs : List D} {Q : List D → Hh → Prop} (f : D → D) (d : depOk dep h)
    (hf : ∀ x ∈ xs, W (turnM t own en (fun en => tt (evE cf c en)) (fun en => evE cf e en) x) h (fun b h1 => b = some (f x) ∧ h1 = h) fun _ _ => False) : W (compE cf e t own c en dep xs) h Q X ↔ Q (xs.map f) h := by
  rw [W_compE (fun x => some (f x)) d hf, List.filterMap_eq_map']
end
theorem allB_map {α : Type} (f : α → Bool) : ∀ xs : List α, allB (xs.map fun x => .bool (f x)) = some (xs.map f)
  | [] => rfl
  | x :: l => by
    show (asB (.bool (f x))).bind (fun i => (allB (l.map fun x => .bool (f x))).map (i :: ·)) = _
    rw [allB_map f l]
    rfl
theorem all_map {α : Type} (f : α → Bool) (xs : List α) : bltV .all [.list (xs.map fun x => .bool (f x))] = some (.bool (xs.all f)) := by
  unfold bltV
  dsimp only
  rw [allB_map]
  simp [List.all_map, Function.comp_def]
theorem any_map {α : Type} (f : α → Bool) (xs : List α) : bltV .any [.list (xs.map fun x => .bool (f x))] = some (.bool (xs.any f)) := by
  unfold bltV
  dsimp only
  rw [allB_map]
  simp [List.any_map, Function.comp_def]
/-! ### documents, collections -/
def okc (c : Nat) : Bool := decide (97 ≤ c) && decide (c ≤ 122)
def isDoc : D → Bool
  | .str s => decide (1 ≤ s.length) && decide (s.length ≤ 3) && s.cps.toList.all okc
  | _ => false
def ltS : D → D → Bool
  | .str a, .str b => decide (a.cps.toList < b.cps.toList)
  | _, _ => false
def ascD (xs : List D) : Bool := (zipD xs (xs.tail)).all fun p => match p with
  | .tuple [a, b] => ltS a b
  | _ => false
def isColl : D → Bool
  | .tuple xs => decide (1 ≤ xs.length) && decide (xs.length ≤ 7) && xs.all isDoc && ascD xs
  | _ => false
def sgn : D → Bool
  | .str z => match z.cps.toList with
    | [c] => okc c
    | _ => false
  | _ => false
theorem isDoc_str {x : D} (h : isDoc x = true) : ∃ s, x = .str s := by
  cases x with
  | str s => exact ⟨s, rfl⟩
  | _ => cases h
theorem qa : (q "a").cps.toList = [97] := by decide
theorem qz : (q "z").cps.toList = [122] := by decide
theorem leV_a (c : Nat) : leV (.str (q "a")) (.str ⟨#[c]⟩) = some (decide (97 ≤ c)) := by
  show some (!decide ([c] < (q "a").cps.toList)) = _
  rw [qa]
  have n1 : ([c] < [97]) ↔ c < 97 := by rw [List.cons_lt_cons_iff]; simp
  by_cases a1 : c < 97
  · have b1 : ¬ 97 ≤ c := by omega
    rw [decide_eq_true (n1.mpr a1), decide_eq_false b1]; rfl
  · have b1 : 97 ≤ c := by omega
    rw [decide_eq_false (fun z => a1 (n1.mp z)), decide_eq_true b1]; rfl
theorem leV_z (c : Nat) : leV (.str ⟨#[c]⟩) (.str (q "z")) = some (decide (c ≤ 122)) := by
  show some (!decide ((q "z").cps.toList < [c])) = _
  rw [qz]
  have n1 : ([122] < [c]) ↔ 122 < c := by rw [List.cons_lt_cons_iff]; simp
  by_cases a1 : 122 < c
  · have b1 : ¬ c ≤ 122 := by omega
    rw [decide_eq_true (n1.mpr a1), decide_eq_false b1]; rfl
  · have b1 : c ≤ 122 := by omega
    rw [decide_eq_false (fun z => a1 (n1.mp z)), decide_eq_true b1]; rfl
section
variable {Φ : Nat → Option Def} {N k : Nat} {h : Hh} {E : Nat → Hh → Prop}
theorem W_is_document (e : Φ 10 = some d_is_document) {x : D} (hs : ∀ s, x = .str s → s.length ≤ 16777216) {Q : Vl → Hh → Prop} : W (callF Φ N (k + 1) 10 [.d x]) h Q E ↔ Q (.d (.bool (isDoc x))) h := by
  rw [W_call e rfl]
  cases x with
  | str s =>
    have hl := hs s rfl
    have e1 : bltV .len [.str s] = some (.int s.length) := if_pos hl
    by_cases h1 : 1 ≤ s.length
    · by_cases h3 : s.length ≤ 3
      · have e2 : itemsV (.str s) = some (s.cps.toList.map fun c => .str ⟨#[c]⟩) := if_pos (show s.cps.size ≤ sizeLine from hl)
        have h1' : (1 : Int) ≤ s.length := by omega
        have h3' : (s.length : Int) ≤ 3 := by omega
        have hm : ∀ {Q : List D → Hh → Prop} {E : Nat → Hh → Prop}, W (compE (callF Φ N k) (Jr.E.chn COp.le COp.le (Jr.E.str (q "a")) (Jr.E.var 1) (Jr.E.str (q "z"))) (Tg.nm 1) [1] (Jr.E.bl true) [some (Vl.d (D.str s)), none] none (s.cps.toList.map fun c => .str ⟨#[c]⟩)) h Q E ↔ Q ((s.cps.toList.map fun c => D.str ⟨#[c]⟩).map fun x => .bool (sgn x)) h := by
          intro Q E
          refine W_map (fun x => .bool (sgn x)) depOk_none fun x hx => ?_
          obtain ⟨c, _, rfl⟩ := List.mem_map.mp hx
          rw [W_turn]
          by_cases a1 : 97 ≤ c <;> simp [ok_string, leV_a, leV_z, sgn, okc, a1]
        simp [d_is_document, isDoc, e1, h1, h3, h1', h3', e2, hm]
        rw [show ((fun x => D.bool (sgn x)) ∘ fun c => D.str ⟨#[c]⟩) = fun c : Nat => D.bool (okc c) from rfl, all_map]
        simp
      · have h1' : (1 : Int) ≤ s.length := by omega
        have h3' : ¬ (s.length : Int) ≤ 3 := by omega
        simp [d_is_document, isDoc, e1, h1, h3, h1', h3']
    · have h1' : ¬ (1 : Int) ≤ s.length := by omega
      simp [d_is_document, isDoc, e1, h1, h1']
  | _ => simp [d_is_document, isDoc]
theorem W_is_ascending (e : Φ 9 = some d_is_ascending) {xs : List D} (hs : ∀ x ∈ xs, ∃ s, x = .str s) {Q : Vl → Hh → Prop} : W (callF Φ N (k + 1) 9 [.d (.tuple xs)]) h Q E ↔ Q (.d (.bool (ascD xs))) h := by
  rw [W_call e rfl]
  have hm : ∀ {Q : List D → Hh → Prop} {E : Nat → Hh → Prop}, W (compE (callF Φ N k) (Jr.E.cmp COp.lt (Jr.E.var 1) (Jr.E.var 2)) (Tg.tp [1, 2]) [1, 2] (Jr.E.bl true) [some (Vl.d (D.tuple xs)), none, none] none (zipD xs (xs.tail))) h Q E ↔ Q ((zipD xs (xs.tail)).map fun p => .bool (match p with
    | .tuple [a, b] => ltS a b
    | _ => false)) h := by
    intro Q E
    refine W_map _ depOk_none fun x hx => ?_
    obtain ⟨i, hi⟩ := List.mem_iff_getElem?.mp hx
    obtain ⟨y, z, e1, e2, rfl⟩ := zipD_get _ _ _ _ hi
    obtain ⟨a, rfl⟩ := hs y (List.mem_of_getElem? e1)
    obtain ⟨b, rfl⟩ := hs z (List.mem_of_mem_tail (List.mem_of_getElem? e2))
    rw [W_turn]
    simp [ltV, ltS]
  simp [d_is_ascending, cut_tail, zip2V, hm]
  rw [all_map]
  simp [ascD]
theorem W_is_collection (e9 : Φ 9 = some d_is_ascending) (e10 : Φ 10 = some d_is_document) (e : Φ 11 = some d_is_collection) {x : D} (hs : ∀ xs, x = .tuple xs → ∀ s, .str s ∈ xs → s.length ≤ 16777216) {Q : Vl → Hh → Prop} :
    W (callF Φ N (k + 2) 11 [.d x]) h Q E ↔ Q (.d (.bool (isColl x))) h := by
  rw [W_call e rfl]
  cases x with
  | tuple xs =>
    by_cases h1 : 1 ≤ xs.length
    · have h1' : (1 : Int) ≤ xs.length := by omega
      by_cases h7 : xs.length ≤ 7
      · have h7' : (xs.length : Int) ≤ 7 := by omega
        have hm : ∀ {Q : List D → Hh → Prop} {E : Nat → Hh → Prop}, W (compE (callF Φ N (k + 1)) (Jr.E.call 10 (Es.cons (Jr.E.var 1) Es.nil)) (Tg.nm 1) [1] (Jr.E.bl true) [some (Vl.d (D.tuple xs)), none] none xs) h Q E ↔ Q (xs.map fun x => .bool (isDoc x)) h := by
          intro Q E
          refine W_map (fun x => .bool (isDoc x)) depOk_none fun x hx => ?_
          rw [W_turn]
          have := fun Q E => W_is_document (N := N) (k := k) (h := h) (E := E) e10 (x := x) (fun s es => hs xs rfl s (es ▸ hx)) (Q := Q)
          simp [this]
        simp [d_is_collection, h1', h7', hm]
        rw [all_map]
        cases ha : xs.all isDoc with
        | false => simp [isColl, ha]
        | true =>
          have hd : ∀ x ∈ xs, ∃ s, x = .str s := fun x hx => isDoc_str (List.all_eq_true.mp ha x hx)
          simp [isColl, ha, h1, h7, W_is_ascending e9 hd]
      · have h7' : ¬ (xs.length : Int) ≤ 7 := by omega
        simp [d_is_collection, isColl, h1', h7', h7]
    · have h1' : ¬ (1 : Int) ≤ xs.length := by omega
      simp [d_is_collection, isColl, h1', h1]
  | _ => simp [d_is_collection, isColl]
theorem W_require_collection (e9 : Φ 9 = some d_is_ascending) (e10 : Φ 10 = some d_is_document) (e11 : Φ 11 = some d_is_collection) (e : Φ 13 = some d_require_collection) {x : D} (hs : ∀ xs, x = .tuple xs → ∀ s, .str s ∈ xs → s.length ≤ 16777216) {Q : Vl → Hh → Prop} :
    W (callF Φ N (k + 3) 13 [.d x]) h Q E ↔ if isColl x = true then Q (.d .none) h else E 12 h := by
  rw [W_call e rfl]
  have := fun Q E => W_is_collection (N := N) (k := k) (h := h) (E := E) e9 e10 e11 hs (Q := Q)
  cases hc : isColl x <;> simp [d_require_collection, this, hc]
end
end Jr

set_option Elab.async false
set_option linter.all false
set_option maxRecDepth 100000
set_option maxHeartbeats 2000000
namespace Jr
open PySem
/-! ### fractions -/
def low (t b : Int) : Int × Int := if b = 0 then (0, 1) else (t / (Nat.gcd t.natAbs b.natAbs : Int), b / (Nat.gcd t.natAbs b.natAbs : Int))
def fr (p : Int × Int) : D := .tuple [.int p.1, .int p.2]
section
variable {Φ : Nat → Option Def} {N k : Nat} {h : Hh} {E : Nat → Hh → Prop}
theorem W_lowest_terms (e : Φ 42 = some d_lowest_terms) {t b : Int} (hb : 0 ≤ b) (hN : b < N) (hb2 : b < 1267650600228229401496703205376) (ht : t.natAbs < 1267650600228229401496703205376) {Q : Vl → Hh → Prop} (q : Q (.d (fr (low t b))) h) : W (callF Φ N (k + 1) 42 [.d (.int t), .d (.int b)]) h Q E := by
  rw [W_call e rfl]
  simp only [d_lowest_terms]
  rw [W_B_cons]
  by_cases b0 : b = 0
  · subst b0
    simp [sizeLine]
    simpa [low, fr] using q
  refine W.imp (Q := fun so h1 => so = .next [some (.d (.int t)), some (.d (.int b)), none, none] ∧ h1 = h) (by simp [b0]) ?_
  rintro so h1 ⟨rfl, rfl⟩
  show W (evB _ _ _ _) _ _ _
  rw [W_B_cons]
  refine W.imp (Q := fun so h2 => so = .next [some (.d (.int t)), some (.d (.int b)), some (.d (.int t.natAbs)), some (.d (.int b.natAbs))] ∧ h2 = h1) ?_ ?_
  · simp [bltV]
    split <;> omega
  rintro so h2 ⟨rfl, rfl⟩
  show W (evB _ _ _ _) _ _ _
  rw [W_B_cons]
  have g0 : 0 < Nat.gcd t.natAbs b.natAbs := Nat.gcd_pos_of_pos_right _ (by omega)
  refine W.imp (Q := fun so h3 => so = .next [some (.d (.int t)), some (.d (.int b)), some (.d (.int (Nat.gcd t.natAbs b.natAbs : Nat))), some (.d (.int 0))] ∧ h3 = h2) ?_ ?_
  · rw [evS_whl]
    unfold whlE
    refine W_whl (fun m en h3 => ∃ u v : Nat, en = [some (.d (.int t)), some (.d (.int b)), some (.d (.int u)), some (.d (.int v))] ∧ Nat.gcd u v = Nat.gcd t.natAbs b.natAbs ∧ m = v ∧ h3 = h2) ?_ (m := b.natAbs) ⟨_, _, rfl, rfl, rfl, rfl⟩ (by omega)
    rintro m en h3 ⟨u, v, rfl, hg, rfl, rfl⟩
    by_cases v0 : m = 0
    · subst v0
      simp
      rw [Nat.gcd_zero_right] at hg
      rw [hg]
    · simp [v0]
      rw [mod_ii (by omega)]
      simp
      refine ⟨u % m, Nat.mod_lt _ (by omega), m, ⟨rfl, by simp⟩, ?_⟩
      rw [← hg, Nat.gcd_comm u m, Nat.gcd_rec m u, Nat.gcd_comm]
  rintro so h3 ⟨rfl, rfl⟩
  have gl : Nat.gcd t.natAbs b.natAbs ≤ b.natAbs := Nat.gcd_le_right _ (by omega)
  show W (evB _ _ _ _) _ _ _
  simp
  rw [fdiv_b (by omega) (by omega), fdiv_b (by omega) (by omega)]
  simp [sizeLine]
  simpa [low, fr, b0] using q
end
end Jr

set_option Elab.async false
set_option linter.all false
set_option maxRecDepth 100000
set_option maxHeartbeats 2000000
namespace Jr
open PySem
/-! ### chances -/
def isChance : D → Bool
  | .tuple [.int a, .int b] => decide (1 ≤ b) && decide (b ≤ 20) && decide (0 ≤ a) && decide (a ≤ b) && decide (Nat.gcd a.natAbs b.natAbs = 1)
  | _ => false
theorem low_eq {a b : Int} (hb : 1 ≤ b) (ha : 0 ≤ a) : eqv (fr (low a b)) (.tuple [.int a, .int b]) = decide (Nat.gcd a.natAbs b.natAbs = 1) := by
  have b0 : ¬ b = 0 := by omega
  have g0 : 0 < Nat.gcd a.natAbs b.natAbs := Nat.gcd_pos_of_pos_right _ (by omega)
  simp [fr, low, b0]
  by_cases g : Nat.gcd a.natAbs b.natAbs = 1
  · simp [g]
  · simp only [g, decide_false, Bool.and_eq_false_imp, decide_eq_true_eq, decide_eq_false_iff_not]
    intro _ hbb
    have h2 : (2 : Int) ≤ (Nat.gcd a.natAbs b.natAbs : Nat) := by omega
    have : b / (Nat.gcd a.natAbs b.natAbs : Int) < b := Int.ediv_lt_self_of_pos_of_ne_one (by omega) (by omega)
    omega
theorem W_try {hs : List (Nat × Str)} {x : M SO} {h : Hh} {Q : SO → Hh → Prop} {E : Nat → Hh → Prop} : W (tryM hs x) h Q E ↔ W x h Q fun c h1 => match hs.find? (fun p => p.1 == c) with
    | some p => Q (.ret (.d (.str p.2))) h1
    | none => E c h1 := by
  unfold W tryM
  cases x h with
  | none => exact Iff.rfl
  | some p =>
    obtain ⟨r, h1⟩ := p
    cases r with
    | ok a => exact Iff.rfl
    | exc c =>
      dsimp only
      cases hs.find? (fun p => p.1 == c) <;> exact Iff.rfl
section
variable {Φ : Nat → Option Def} {N k : Nat} {h : Hh} {E : Nat → Hh → Prop}
theorem W_is_chance (e6 : Φ 6 = some d_is_integer) (e42 : Φ 42 = some d_lowest_terms) (e : Φ 119 = some d_is_chance) (hN : 1000 < N) {x : D} {Q : Vl → Hh → Prop} (q : Q (.d (.bool (isChance x))) h) : W (callF Φ N (k + 2) 119 [.d x]) h Q E := by
  rw [W_call e rfl]
  rcases x with _ | _ | _ | _ | _ | xs
  case tuple =>
    rcases xs with _ | ⟨y, _ | ⟨z, _ | ⟨w, ws⟩⟩⟩
    · simpa [d_is_chance, isChance] using q
    · simpa [d_is_chance, isChance] using q
    · simp [d_is_chance, W_is_integer e6]
      cases hz : isIntIn z 1 20 with
      | false =>
        simp
        have : isChance (.tuple [y, z]) = false := by
          rcases z with _ | _ | z | _ | _ | _ <;> rcases y with _ | _ | y | _ | _ | _ <;> simp [isChance, isIntIn] at hz ⊢
          intro z1 z2
          exact absurd z2 (by have := hz z1; omega)
        rwa [this] at q
      | true =>
        rcases z with _ | _ | z | _ | _ | _ <;> simp [isIntIn] at hz
        simp [W_is_integer e6]
        cases hy : isIntIn y 0 z with
        | false =>
          simp
          have : isChance (.tuple [y, .int z]) = false := by
            rcases y with _ | _ | y | _ | _ | _ <;> simp [isChance, isIntIn] at hy ⊢
            intro z1 z2 z3 z4
            exact absurd z4 (by have := hy z3; omega)
          rwa [this] at q
        | true =>
          rcases y with _ | _ | y | _ | _ | _ <;> simp [isIntIn] at hy
          simp
          refine W_lowest_terms e42 (by omega) (by omega) (by omega) (by omega) ?_
          simp [fr]
          have e1 := low_eq (a := y) (b := z) (by omega) (by omega)
          have e2 : isChance (.tuple [.int y, .int z]) = decide (Nat.gcd y.natAbs z.natAbs = 1) := by simp [isChance, hz, hy]
          rw [e2, ← e1] at q
          simpa [fr] using q
    · have n2 : ¬ ((ws.length : Int) + 1 + 1 + 1 = 2) := by omega
      simpa [d_is_chance, isChance, n2] using q
  all_goals simpa [d_is_chance, isChance] using q
def validCh (n : Nat) : D → Bool
  | .tuple xs => decide (xs.length = n) && xs.all isChance
  | _ => false
theorem W_valid_chances (e6 : Φ 6 = some d_is_integer) (e42 : Φ 42 = some d_lowest_terms) (e119 : Φ 119 = some d_is_chance) (e : Φ 120 = some d_are_valid_chances) (hN : 1000 < N) {x : D} {cs : List D} {Q : Vl → Hh → Prop} : W (callF Φ N (k + 3) 120 [.d (.tuple cs), .d x]) h Q E ↔ Q (.d (.bool (validCh cs.length x))) h := by
  rw [W_call e rfl]
  rcases x with _ | _ | _ | _ | _ | xs
  case tuple =>
    by_cases hl : xs.length = cs.length
    · have hl' : (xs.length : Int) = cs.length := by omega
      have hm : ∀ {Q : List D → Hh → Prop} {E : Nat → Hh → Prop}, W (compE (callF Φ N (k + 2)) (Jr.E.call 119 (Es.cons (Jr.E.var 2) Es.nil)) (Tg.nm 2) [2] (Jr.E.bl true) [some (Vl.d (D.tuple cs)), some (Vl.d (D.tuple xs)), none] none xs) h Q E ↔ Q (xs.map fun x => .bool (isChance x)) h := by
        intro Q E
        refine W_map (fun x => .bool (isChance x)) depOk_none fun x hx => ?_
        rw [W_turn]
        simp
        refine W_is_chance e6 e42 e119 hN ?_
        simp
      simp [d_are_valid_chances, validCh, hl, hm]
      rw [all_map]
      simp
    · have hl' : ¬ (xs.length : Int) = cs.length := by omega
      simp [d_are_valid_chances, validCh, hl, hl']
  all_goals simp [d_are_valid_chances, validCh]
theorem W_are_chances (e6 : Φ 6 = some d_is_integer) (e42 : Φ 42 = some d_lowest_terms) (e119 : Φ 119 = some d_is_chance) (e120 : Φ 120 = some d_are_valid_chances) (e9 : Φ 9 = some d_is_ascending) (e10 : Φ 10 = some d_is_document) (e11 : Φ 11 = some d_is_collection) (e13 : Φ 13 = some d_require_collection)
    (e : Φ 121 = some d_are_chances) (hN : 1000 < N) {x : D} {cs : List D} (hs : ∀ s, .str s ∈ cs → s.length ≤ 16777216) {Q : Vl → Hh → Prop} : W (callF Φ N (k + 4) 121 [.d (.tuple cs), .d x]) h Q E ↔ if isColl (.tuple cs) = true then Q (.d (.bool (validCh cs.length x))) h else E 12 h := by
  rw [W_call e rfl]
  have := fun Q E => W_require_collection (N := N) (k := k) (h := h) (E := E) e9 e10 e11 e13 (x := .tuple cs) (fun xs ex s hx => by cases ex; exact hs s hx) (Q := Q)
  cases hc : isColl (.tuple cs) <;> simp [d_are_chances, this, hc, W_valid_chances e6 e42 e119 e120 hN]
def bad1 : D → Bool
  | .int _ => false
  | _ => true
theorem W_comp18 {en : Env} (hi : 1 < en.length) {cf : CF} {xs : List D} {Q : List D → Hh → Prop} : W (compE cf (Jr.E.var 1) (Tg.nm 1) [1] (Jr.E.or (Es.cons (Jr.E.nt (Jr.E.isi (Jr.E.var 1) Ty.int)) (Es.cons (Jr.E.isi (Jr.E.var 1) Ty.bool) Es.nil))) en none xs) h Q E ↔ Q (xs.filter bad1) h := by
  rw [W_compE (fun x => if bad1 x = true then some x else none) depOk_none, show xs.filterMap (fun x => if bad1 x = true then some x else none) = xs.filter bad1 from by
    induction xs with
    | nil => rfl
    | cons y ys ih => rw [List.filterMap_cons, List.filter_cons, ih]; cases bad1 y <;> rfl]
  intro x hx
  rw [W_turn]
  rcases x with _ | _ | _ | _ | _ | _ <;> simp [hi, bad1]
theorem W_right18 (e : Φ 4 = some k18.d__law_right) (hN : 1000 < N) {x : D} {Q : Vl → Hh → Prop} (q : Q (.d (.bool (isChance x))) h) : W (callF Φ N (k + 1) 4 [.d x]) h Q E := by
  rw [W_call e rfl]
  rcases x with _ | _ | _ | _ | _ | xs
  case tuple =>
    rcases xs with _ | ⟨y, _ | ⟨z, _ | ⟨w, ws⟩⟩⟩
    · simpa [k18.d__law_right, isChance] using q
    · simpa [k18.d__law_right, isChance] using q
    · have hc := fun cf Q E => W_comp18 (h := h) (E := E) (en := [some (.d (.tuple [y, z])), none, none]) (by simp) (cf := cf) (xs := [y, z]) (Q := Q)
      rcases y with _ | _ | y | _ | _ | _
      case int =>
        rcases z with _ | _ | z | _ | _ | _
        case int =>
          by_cases z1 : 1 ≤ z
          · by_cases z2 : z ≤ 20
            · by_cases y1 : 0 ≤ y
              · by_cases y2 : y ≤ z
                · have e2 : isChance (.tuple [.int y, .int z]) = decide (Nat.gcd y.natAbs z.natAbs = 1) := by simp [isChance, z1, z2, y1, y2]
                  rw [e2] at q
                  simp only [k18.d__law_right]
                  rw [W_B_cons]
                  refine W.imp (Q := fun so h1 => so = .next [some (.d (.tuple [.int y, .int z])), none, none] ∧ h1 = h) (by simp) ?_
                  rintro so h1 ⟨rfl, rfl⟩
                  show W (evB _ _ _ _) _ _ _
                  rw [W_B_cons]
                  refine W.imp (Q := fun so h2 => so = .next [some (.d (.tuple [.int y, .int z])), none, none] ∧ h2 = h1) (by simp [hc, bad1]) ?_
                  rintro so h2 ⟨rfl, rfl⟩
                  show W (evB _ _ _ _) _ _ _
                  rw [W_B_cons]
                  refine W.imp (Q := fun so h3 => so = .next [some (.d (.tuple [.int y, .int z])), none, none] ∧ h3 = h2) (by simp [z1, z2, y1, y2]) ?_
                  rintro so h3 ⟨rfl, rfl⟩
                  show W (evB _ _ _ _) _ _ _
                  rw [W_B_cons]
                  refine W.imp (Q := fun so h4 => so = .next [some (.d (.tuple [.int y, .int z])), some (.d (.int y.natAbs)), some (.d (.int z.natAbs))] ∧ h4 = h3) (by simp; omega) ?_
                  rintro so h4 ⟨rfl, rfl⟩
                  show W (evB _ _ _ _) _ _ _
                  rw [W_B_cons]
                  refine W.imp (Q := fun so h5 => so = .next [some (.d (.tuple [.int y, .int z])), some (.d (.int (Nat.gcd y.natAbs z.natAbs : Nat))), some (.d (.int 0))] ∧ h5 = h4) ?_ ?_
                  · rw [evS_whl]
                    unfold whlE
                    refine W_whl (fun m en h3 => ∃ u v : Nat, en = [some (.d (.tuple [.int y, .int z])), some (.d (.int u)), some (.d (.int v))] ∧ Nat.gcd u v = Nat.gcd y.natAbs z.natAbs ∧ m = v ∧ h3 = h4) ?_ (m := z.natAbs) ⟨_, _, rfl, rfl, rfl, rfl⟩ (by omega)
                    rintro m en h3 ⟨u, v, rfl, hg, rfl, rfl⟩
                    by_cases v0 : m = 0
                    · subst v0
                      simp
                      rw [Nat.gcd_zero_right] at hg
                      rw [hg]
                    · simp [v0]
                      rw [mod_ii (by omega)]
                      simp
                      refine ⟨u % m, Nat.mod_lt _ (by omega), m, ⟨rfl, by simp⟩, ?_⟩
                      rw [← hg, Nat.gcd_comm u m, Nat.gcd_rec m u, Nat.gcd_comm]
                  rintro so h5 ⟨rfl, rfl⟩
                  rw [seqQ_next]
                  have c1 : ((Nat.gcd y.natAbs z.natAbs : Nat) : Int) = 1 ↔ Nat.gcd y.natAbs z.natAbs = 1 := by omega
                  simpa [c1] using q
                · simpa [k18.d__law_right, isChance, hc, bad1, z1, z2, y1, y2] using q
              · simpa [k18.d__law_right, isChance, hc, bad1, z1, z2, y1] using q
            · simpa [k18.d__law_right, isChance, hc, bad1, z1, z2] using q
          · simpa [k18.d__law_right, isChance, hc, bad1, z1] using q
        all_goals simpa [k18.d__law_right, isChance, hc, bad1] using q
      all_goals simpa [k18.d__law_right, isChance, hc, bad1] using q
    · have n2 : ¬ ((ws.length : Int) + 1 + 1 + 1 = 2) := by omega
      simpa [k18.d__law_right, isChance, n2] using q
  all_goals simpa [k18.d__law_right, isChance] using q
end
end Jr

set_option Elab.async false
set_option linter.all false
set_option maxRecDepth 100000
set_option maxHeartbeats 2000000
namespace Jr
open PySem
section
variable {Φ : Nat → Option Def} {N k : Nat} {h : Hh} {E : Nat → Hh → Prop} {ns : List Int} {b : Nat}
theorem add_tt {xs ys : List D} (h : xs.length + ys.length ≤ 16777216) : addV (.tuple xs) (.tuple ys) = some (.tuple (xs ++ ys)) := by
  unfold addV
  dsimp only
  rw [if_pos (by unfold sizeLine; omega)]
theorem str_i {i : Int} (h : i.natAbs ≤ 1267650600228229401496703205375) : ∃ s, bltV .str [.int i] = some (.str s) := by
  have e : (1267650600228229401496703205376 : Nat) = 2 ^ 100 := by decide
  have h6 := log2_lt (a := i) (n := 100) (by rw [← e]; omega) (by decide)
  unfold bltV
  dsimp only
  rw [if_pos (by omega)]
  exact ⟨_, rfl⟩
@[simp] theorem str_b {b : Bool} : bltV .str [.bool b] = some (.str (if b then "True" else "False")) := rfl
theorem rep2 {xs : List D} (h : xs.length ≤ 1000000) : repL xs (.int 2) = some (xs ++ xs) := by
  have e : reps xs 2 = xs ++ xs := by
    show (List.replicate 2 xs).flatten = _
    simp [List.replicate]
  unfold repL
  dsimp only
  rw [if_pos (by unfold sizeLine; refine ⟨by decide, by decide, ?_⟩; simp; omega), e]
theorem Sm.sub {M n : Nat} {xs ys : List D} (h : Sm M n (.tuple xs)) (hl : ys.length ≤ xs.length) (hs : ∀ y ∈ ys, y ∈ xs) : Sm M n (.tuple ys) := by
  obtain ⟨h1, h2, h3⟩ := h.of_tuple
  have := Sm.tuple (M := M) (n := n - 1) (xs := ys) (by omega) fun y hy => h3 y (hs y hy)
  rwa [show n - 1 + 1 = n from by omega] at this
theorem Sm.more {M n : Nat} {xs ys : List D} (h : Sm M n (.tuple xs)) (hl : ys.length ≤ xs.length + 1) (hs : ∀ y ∈ ys, y ∈ xs ∨ y = .none) : Sm (M + 1) n (.tuple ys) := by
  obtain ⟨h1, h2, h3⟩ := h.of_tuple
  have := Sm.tuple (M := M + 1) (n := n - 1) (xs := ys) (by omega) fun y hy => by
    rcases hs y hy with q | rfl
    · exact (h3 y q).mono (by omega) (Nat.le_refl _)
    · exact ⟨by simp, by simp⟩
  rwa [show n - 1 + 1 = n from by omega] at this
theorem cut_last (xs : List D) : (cut xs (some (-1)) none).length ≤ 1 := by
  unfold cut
  rw [List.length_take]
  unfold sIx HT.sIx
  split <;> simp at * <;> omega
def thenB : S → B
  | .ite _ a _ => a
  | _ => .nil
def nthS : B → Nat → S
  | .cons s _, 0 => s
  | .cons _ b, n + 1 => nthS b n
  | .nil, _ => .frz 0
theorem bent_in (e8 : Φ 8 = some d__law_draw) (e7 : Φ 7 = some d__law_pick) (s : St ns b h) (hb : b ≤ 1000000) (hns : ns.length ≤ 63) {M n : Nat} (hM : 15 ≤ M) (hM2 : M ≤ 1000000) {x : D} (sm : Sm M n x) {Q : SO → Hh → Prop}
    (q : ∀ y c, Sm (M + 1) (max n 1 + 1) y → St ns (b + 2) (h.set 1 c) → Q (.ret (.d y)) (h.set 1 c)) :
    W (evB (callF Φ N (k + 2)) N (thenB (nthS d__law_bent.body 0)) [some (.r 0), some (.r 1), some (.d x), none, none]) h Q E := by
  show W (evB _ _ (thenB (nthS d__law_bent.body 0)) _) _ _ _
  simp only [d__law_bent, nthS, thenB]
  have fin : ∀ xs : List D, xs ≠ [] → (∀ y ∈ xs, Sm (M + 1) (max n 1 + 1) y) → W (callF Φ N (k + 2) 7 [.r 0, .r 1, .d (.list xs)]) h (fun a h1 => Q (SO.ret a) h1) E := fun xs ne hall => W_pick e8 e7 s hb hns ne fun y c hy s' => q y c (hall y hy) s'
  rcases x with _ | bb | i | _ | ys | xs
  case int =>
    obtain ⟨z, hz⟩ := str_i (i := i) (by have := sm.1; simp at this; omega)
    have s1 : i.natAbs ≤ M := by have := sm.1; simpa using this
    simp [sizeLine, ok_string]
    simp [hz, rep2]
    refine fin _ (by simp) ?_
    simp [Sm]
    omega
  case bool =>
    simp [sizeLine, ok_string, rep2]
    refine fin _ (by simp) ?_
    cases bb <;> simp [Sm, b2] <;> omega
  case tuple =>
    have hl := sm.of_tuple.1
    have hc := cut_last xs
    simp [sizeLine, ok_string]
    rw [add_tt (by omega), W_pO, add_tt (by simp; omega)]
    simp
    refine fin _ (by simp) ?_
    have m1 : Sm (M + 1) (max n 1 + 1) (D.list xs) := ⟨by have := sm.1; simp at this ⊢; omega, by have := sm.2; simp at this ⊢; omega⟩
    have m2 : Sm (M + 1) (max n 1 + 1) (D.tuple (cut xs none (some (-1)))) := (sm.sub (cut_len' _ _ _) fun y hy => cut_mem hy).mono (by omega) (by omega)
    have m3 : Sm (M + 1) (max n 1 + 1) (D.tuple (xs ++ cut xs (some (-1)) none)) := (sm.more (by simp; omega) fun y hy => by
      rcases List.mem_append.mp hy with q | q
      · exact .inl q
      · exact .inl (cut_mem q)).mono (by omega) (by omega)
    have m4 : Sm (M + 1) (max n 1 + 1) (D.tuple (cut xs (some 1) none)) := (sm.sub (cut_len' _ _ _) fun y hy => cut_mem hy).mono (by omega) (by omega)
    have m5 : Sm (M + 1) (max n 1 + 1) (D.tuple xs.reverse) := (sm.sub (by simp) fun y hy => by simpa using hy).mono (by omega) (by omega)
    have m6 : Sm (M + 1) (max n 1 + 1) (D.tuple (xs ++ [D.none])) := (sm.more (by simp) fun y hy => by simpa using hy).mono (by omega) (by omega)
    have consts : ∀ y ∈ [D.none, D.bool true, D.bool false, D.int 0, D.int 1, D.int (-1), D.int 3, D.int 10, D.str (Jr.q "a"), D.str (Jr.q "b"), D.str (Jr.q ""), D.str (Jr.q "A"), D.str (Jr.q "abcd"), D.tuple [], D.list [], D.tuple [D.str (Jr.q "a")], D.tuple [D.str (Jr.q "b"), D.str (Jr.q "a")], D.tuple [D.int 1, D.int 0], D.tuple [D.str (Jr.q "gain"), D.int 2]], Sm (M + 1) (max n 1 + 1) y := by
      simp [Sm]
      omega
    intro y hy
    rcases List.mem_append.mp (show y ∈ [D.none, D.bool true, D.bool false, D.int 0, D.int 1, D.int (-1), D.int 3, D.int 10, D.str (Jr.q "a"), D.str (Jr.q "b"), D.str (Jr.q ""), D.str (Jr.q "A"), D.str (Jr.q "abcd"), D.tuple [], D.list [], D.tuple [D.str (Jr.q "a")], D.tuple [D.str (Jr.q "b"), D.str (Jr.q "a")], D.tuple [D.int 1, D.int 0], D.tuple [D.str (Jr.q "gain"), D.int 2]] ++ [D.list xs, D.tuple (cut xs none (some (-1))), D.tuple (xs ++ cut xs (some (-1)) none), D.tuple (cut xs (some 1) none), D.tuple xs.reverse, D.tuple (xs ++ [D.none])] from hy) with c | c
    · exact consts y c
    · simp only [List.mem_cons, List.not_mem_nil, or_false] at c
      rcases c with rfl | rfl | rfl | rfl | rfl | rfl <;> assumption
  all_goals
    simp [sizeLine, ok_string]
    refine fin _ (by simp) ?_
    simp [Sm]
    omega
end
def condS : S → E
  | .ite c _ _ => c
  | _ => .non
def tailB : B → B
  | .cons _ b => b
  | .nil => .nil
theorem W_S_ite {cf : CF} {N : Nat} {c : Jr.E} {a b : B} {en : Env} {h : Hh} {Q : SO → Hh → Prop} {X : Nat → Hh → Prop} : W (evS cf N (.ite c a b) en) h Q X ↔ W (tt (evE cf c en)) h (fun k h1 => if k = true then W (evB cf N a en) h1 Q X else W (evB cf N b en) h1 Q X) X := by
  rw [evS_ite, W_bind]
  simp only [W_ite]
section
variable {Φ : Nat → Option Def} {N : Nat} {ns : List Int}
theorem bent_body : d__law_bent.body = .cons (.ite (condS (nthS d__law_bent.body 0)) (thenB (nthS d__law_bent.body 0)) .nil) (tailB d__law_bent.body) := rfl
theorem W_bent (e8 : Φ 8 = some d__law_draw) (e7 : Φ 7 = some d__law_pick) (e2 : Φ 2 = some d__law_bent) (hns : ns.length ≤ 63) : ∀ (n : Nat) {k b M : Nat} {h : Hh} {x : D} {E : Nat → Hh → Prop} {Q : Vl → Hh → Prop}, St ns b h → b + 4 * n ≤ 900000 → 15 ≤ M → M ≤ 1000000 → Sm M n x →
    (∀ y c, Sm (M + 1) (n + 2) y → St ns (b + 4 * (n + 1)) (h.set 1 c) → Q (.d y) (h.set 1 c)) → W (callF Φ N (k + n + 3) 2 [.r 0, .r 1, .d x]) h Q E := by
  intro n
  induction n with
  | zero => 
    intro k b M h x E Q s hb hM hM2 sm q
    rw [W_call e2 rfl, bent_body, W_B_cons, W_S_ite]
    have inn := bent_in (k := k) (E := fun c h1 => E c (h1.take h.length)) (N := N) e8 e7 s (by omega) hns hM hM2 sm (Q := seqQ (callF Φ N (k + 0 + 2)) N (tailB d__law_bent.body) (endQ h.length Q) fun c h1 => E c (h1.take h.length)) fun y c h1 h2 => by
      rw [seqQ_ret, endQ_d, List.take_of_length_le (by simp)]
      refine q y c (h1.mono (Nat.le_refl _) (by omega)) ?_
      obtain ⟨z1, st, z2, z3⟩ := h2
      exact ⟨z1, st, z2, by omega⟩
    rcases x with _ | bb | i | _ | ys | xs
    case tuple => exact absurd sm.of_tuple.2.1 (by omega)
    all_goals
      revert inn
      generalize thenB (nthS d__law_bent.body 0) = BB
      intro inn
      simp [condS, nthS, d__law_bent, -W_B_cons]
      exact inn
  | succ n ih => 
    intro k b M h x E Q s hb hM hM2 sm q
    rw [W_call e2 rfl, bent_body, W_B_cons, W_S_ite]
    have inn := fun (h' : Hh) (b' : Nat) (s' : St ns b' h') (hb' : b' + 2 ≤ b + 4 * (n + 1 + 1)) (hl' : h'.length = h.length) (q' : ∀ c, h'.set 1 c = h.set 1 c) => bent_in (k := k + n + 1) (E := fun c h1 => E c (h1.take h.length)) (h := h') (b := b') (N := N) e8 e7 s' (by omega) hns hM hM2 sm (Q := seqQ (callF Φ N (k + (n + 1) + 2)) N (tailB d__law_bent.body) (endQ h.length Q) fun c h1 => E c (h1.take h.length)) fun y c h1 h2 => by
      rw [seqQ_ret, endQ_d, List.take_of_length_le (by simp [hl']), q']
      rw [q'] at h2
      refine q y c (h1.mono (Nat.le_refl _) (by omega)) ?_
      obtain ⟨z1, st, z2, z3⟩ := h2
      exact ⟨z1, st, z2, by omega⟩
    revert inn
    generalize thenB (nthS d__law_bent.body 0) = BB
    intro inn
    rcases x with _ | bb | i | _ | ys | xs
    case tuple =>
      rcases xs with _ | ⟨x, xs⟩
      · simp [condS, nthS, d__law_bent, -W_B_cons]
        exact inn h b s (by omega) rfl fun _ => rfl
      · simp [condS, nthS, d__law_bent, -W_B_cons]
        refine W_draw e8 s (by omega) (by decide) hns fun r c r0 r1 s1 => ?_
        simp
        by_cases hr : r = 0
        · rw [if_pos hr]
          exact inn _ _ s1 (by omega) (by simp) fun c => by simp
        · rw [if_neg hr]
          simp [tailB]
          refine W_draw e8 s1 (by omega) (by omega) hns fun r c r0 r1 s1 => ?_
          obtain ⟨j, rfl⟩ : ∃ j : Nat, r = j := ⟨r.toNat, by omega⟩
          have lt : j < (x :: xs).length := by simp; omega
          simp
          rw [ixV_tup (List.getElem?_eq_getElem lt)]
          simp
          obtain ⟨l1, l2, l3⟩ := sm.of_tuple
          rw [List.set_set] at s1
          refine ih (k := k) (M := M) (b := b + 2 + 2) (h := h.set 1 _) s1 (by omega) hM hM2 (l3 _ (List.getElem_mem lt)) fun y c sy s2 => ?_
          have lc : (cut (x :: xs) none (some (j : Int))).length ≤ j := by rw [cut_take, List.length_take]; omega
          have ld : (cut (x :: xs) (some ((j : Int) + 1)) none).length + j + 1 ≤ (x :: xs).length := by
            rw [show (j : Int) + 1 = ((j + 1 : Nat) : Int) from by omega, cut_drop, List.length_drop]; omega
          have lm : (x :: xs).length ≤ M := l1
          simp [sizeLine]
          rw [add_tt (by simp; omega)]
          simp [sizeLine]
          rw [add_tt (by simp; omega)]
          simp
          refine q _ c ?_ ?_
          · refine Sm.tuple (n := n + 2) (by simp; simp at ld lm; omega) fun z hz => ?_
            simp only [List.mem_append, List.mem_cons, List.not_mem_nil, or_false] at hz
            rcases hz with hz | rfl | hz
            · exact (l3 _ (cut_mem hz)).mono (by omega) (by omega)
            · exact sy
            · exact (l3 _ (cut_mem hz)).mono (by omega) (by omega)
          · rw [List.set_set] at s2
            obtain ⟨z1, st, z2, z3⟩ := s2
            exact ⟨z1, st, z2, by omega⟩
    all_goals
      simp [condS, nthS, d__law_bent, -W_B_cons]
      exact inn h b s (by omega) rfl fun _ => rfl
end
end Jr

set_option Elab.async false
set_option linter.all false
set_option maxRecDepth 100000
set_option maxHeartbeats 2000000
namespace Jr
open PySem
section
variable {Φ : Nat → Option Def} {N k : Nat} {h : Hh} {E : Nat → Hh → Prop} {ns : List Int} {b : Nat}
theorem W_odds (e8 : Φ 8 = some d__law_draw) (e7 : Φ 7 = some d__law_pick) (e : Φ 122 = some d__law_odds) (s : St ns b h) (hb : b ≤ 800000) (hns : ns.length ≤ 63) (hN : 1000 < N) {xs : List D} (hl : xs.length ≤ 8) {Q : Vl → Hh → Prop}
    (q : ∀ ys c, ys.length = xs.length → (∀ y ∈ ys, Sm 20 1 y) → St ns (b + 4 * xs.length) (h.set 1 c) → Q (.d (.tuple ys)) (h.set 1 c)) : W (callF Φ N (k + 3) 122 [.r 0, .r 1, .d (.tuple xs)]) h Q E := by
  have l2 := s.len
  obtain ⟨c0, hc0⟩ : ∃ c0, h = h.set 1 c0 := ⟨h[1]'(by omega), by simp⟩
  rw [W_call e rfl]
  simp only [d__law_odds]
  rw [W_B_cons]
  refine W.imp (Q := fun so h1 => so = .next [some (.r 0), some (.r 1), some (.d (.tuple xs)), some (.r h.length), none, none, none, none, none] ∧ h1 = h ++ [.lst []]) (by simp [sizeLine]) ?_
  rintro so h1 ⟨rfl, rfl⟩
  show W (evB _ _ _ _) _ _ _
  rw [W_B_cons]
  refine W.imp (Q := fun so h1 => ∃ (ys : List D) (c : Cell) (a4 a5 a6 a7 a8 : Option Vl), so = .next [some (.r 0), some (.r 1), some (.d (.tuple xs)), some (.r h.length), a4, a5, a6, a7, a8] ∧ ys.length = xs.length ∧ (∀ y ∈ ys, Sm 20 1 y) ∧ St ns (b + 4 * xs.length) (h.set 1 c) ∧ h1 = h.set 1 c ++ [.lst ys]) ?_ ?_
  · rw [evS_for, evI_ex]
    simp only [W_bind, evE_var, W_varM', List.getElem?_cons_succ, List.getElem?_cons_zero, W_depOf_d, W_rd_d, items_tuple, W_ofO_some, W_pure]
    unfold forE
    refine W_forL (fun zs en h1 => ∃ (ys : List D) (c : Cell) (a4 a5 a6 a7 a8 : Option Vl), en = [some (.r 0), some (.r 1), some (.d (.tuple xs)), some (.r h.length), a4, a5, a6, a7, a8] ∧ ys.length + zs.length = xs.length ∧ (∀ y ∈ ys, Sm 20 1 y) ∧ St ns (b + 4 * ys.length) (h.set 1 c) ∧ h1 = h.set 1 c ++ [.lst ys]) ?_ ?_ ?_
    · exact ⟨[], c0, _, _, _, _, _, rfl, by simp, by simp, by rw [← hc0]; simpa using s, by rw [← hc0]⟩
    · rintro z zs en h1 ⟨ys, c, a4, a5, a6, a7, a8, rfl, hlen, hsm, s1, rfl⟩
      refine ⟨trivial, ?_⟩
      simp at hlen
      simp [-W_B_cons]
      rw [W_B_cons]
      refine W.imp (Q := fun so h1 => ∃ (bt : Int) (c : Cell), 1 ≤ bt ∧ bt ≤ 20 ∧ so = .next [some (.r 0), some (.r 1), some (.d (.tuple xs)), some (.r h.length), some (.d z), some (.d (.int bt)), a6, a7, a8] ∧ St ns (b + 4 * ys.length + 2) (h.set 1 c) ∧ h1 = h.set 1 c ++ [.lst ys]) ?_ ?_
      · simp [sizeLine]
        refine W_pick e8 e7 (s1.up (t := [.lst ys])) (by omega) hns (by simp) fun y c1 hy s2 => ?_
        rw [set_app (by simpa using l2), List.set_set] at s2 ⊢
        have s3 := s2.down (by simpa using l2)
        simp only [List.mem_cons, List.not_mem_nil, or_false] at hy
        rcases hy with rfl | rfl | rfl | rfl | rfl | rfl
        all_goals exact ⟨_, by decide, by decide, rfl, c1, s3, rfl⟩
      rintro so h1 ⟨bt, c, b1, b2, rfl, s1, rfl⟩
      show W (evB _ _ _ _) _ _ _
      rw [W_B_cons]
      refine W.imp (Q := fun so h1 => ∃ (tp : Int) (c : Cell), 0 ≤ tp ∧ tp ≤ bt ∧ so = .next [some (.r 0), some (.r 1), some (.d (.tuple xs)), some (.r h.length), some (.d z), some (.d (.int bt)), some (.d (.int tp)), some (.d (.int bt)), a8] ∧ St ns (b + 4 * ys.length + 4) (h.set 1 c) ∧ h1 = h.set 1 c ++ [.lst ys]) ?_ ?_
      · simp
        refine W_draw e8 (m := bt + 1) (s1.up (t := [.lst ys])) (by omega) (by omega) hns fun r c1 r0 r1 s2 => ?_
        rw [set_app (by simpa using l2), List.set_set] at s2 ⊢
        have s3 := s2.down (by simpa using l2)
        exact ⟨r, r0, by omega, rfl, c1, s3, rfl⟩
      rintro so h1 ⟨tp, c, t1, t2, rfl, s1, rfl⟩
      show W (evB _ _ _ _) _ _ _
      rw [W_B_cons]
      refine W.imp (Q := fun so h3 => so = .next [some (.r 0), some (.r 1), some (.d (.tuple xs)), some (.r h.length), some (.d (.int tp.natAbs)), some (.d (.int bt)), some (.d (.int tp)), some (.d (.int bt)), some (.d (.int bt.natAbs))] ∧ h3 = h.set 1 c ++ [.lst ys]) (by simp; omega) ?_
      rintro so h1 ⟨rfl, rfl⟩
      show W (evB _ _ _ _) _ _ _
      rw [W_B_cons]
      refine W.imp (Q := fun so h3 => so = .next [some (.r 0), some (.r 1), some (.d (.tuple xs)), some (.r h.length), some (.d (.int (Nat.gcd tp.natAbs bt.natAbs : Nat))), some (.d (.int bt)), some (.d (.int tp)), some (.d (.int bt)), some (.d (.int 0))] ∧ h3 = h.set 1 c ++ [.lst ys]) ?_ ?_
      · rw [evS_whl]
        unfold whlE
        refine W_whl (fun m en h3 => ∃ u v : Nat, en = [some (.r 0), some (.r 1), some (.d (.tuple xs)), some (.r h.length), some (.d (.int u)), some (.d (.int bt)), some (.d (.int tp)), some (.d (.int bt)), some (.d (.int v))] ∧ Nat.gcd u v = Nat.gcd tp.natAbs bt.natAbs ∧ m = v ∧ h3 = h.set 1 c ++ [.lst ys]) ?_ (m := bt.natAbs) ⟨_, _, rfl, rfl, rfl, rfl⟩ (by omega)
        rintro m en h3 ⟨u, v, rfl, hg, rfl, rfl⟩
        by_cases v0 : m = 0
        · subst v0
          simp
          rw [Nat.gcd_zero_right] at hg
          rw [hg]
        · simp [v0]
          rw [mod_ii (by omega)]
          simp
          refine ⟨u % m, Nat.mod_lt _ (by omega), m, ⟨rfl, by simp⟩, ?_⟩
          rw [← hg, Nat.gcd_comm u m, Nat.gcd_rec m u, Nat.gcd_comm]
      rintro so h1 ⟨rfl, rfl⟩
      have g0 : 0 < Nat.gcd tp.natAbs bt.natAbs := Nat.gcd_pos_of_pos_right _ (by omega)
      have g1 : Nat.gcd tp.natAbs bt.natAbs ≤ bt.natAbs := Nat.gcd_le_right _ (by omega)
      generalize Nat.gcd tp.natAbs bt.natAbs = g at g0 g1 ⊢
      rw [seqQ_next]
      have e2 : (h.set 1 c ++ [Cell.lst ys])[h.length]? = some (.lst ys) := by rw [List.getElem?_append_right (by simp)]; simp
      have e6 : ∀ z, (h.set 1 c ++ [Cell.lst ys]).set h.length z = h.set 1 c ++ [z] := fun z => by
        rw [List.set_append_right _ _ (by simp)]; simp
      simp [e2]
      rw [fdiv_b (by omega) (by omega), fdiv_b (by omega) (by omega)]
      simp [sizeLine, e2, e6]
      have d1 : tp / (g : Int) ≤ tp := Int.ediv_le_self _ t1
      have d2 : bt / (g : Int) ≤ bt := Int.ediv_le_self _ (by omega)
      have d3 : 0 ≤ tp / (g : Int) := Int.ediv_nonneg t1 (by omega)
      have d4 : 0 ≤ bt / (g : Int) := Int.ediv_nonneg (by omega) (by omega)
      refine ⟨by omega, ys ++ [.tuple [.int (tp / (g : Int)), .int (bt / (g : Int))]], ?_⟩
      refine ⟨by simp; omega, fun y hy => ?_, c, s1.more (by simp; omega), rfl, rfl⟩
      rcases List.mem_append.mp hy with hy | hy
      · exact hsm y hy
      · simp only [List.mem_cons, List.not_mem_nil, or_false] at hy
        subst hy
        simp [Sm]
        omega
    · rintro en h1 ⟨ys, c, a4, a5, a6, a7, a8, rfl, hlen, hsm, s1, rfl⟩
      refine ⟨trivial, ys, c, a4, a5, a6, a7, a8, rfl, by simpa using hlen, hsm, ?_, rfl⟩
      simp at hlen
      rw [← hlen]
      exact s1
  rintro so h1 ⟨ys, c, a4, a5, a6, a7, a8, rfl, hlen, hsm, s1, rfl⟩
  have e2 : (h.set 1 c ++ [Cell.lst ys])[h.length]? = some (.lst ys) := by rw [List.getElem?_append_right (by simp)]; simp
  rw [seqQ_next, W_B_cons, evS_frz, W_frz rfl e2, seqQ_next]
  simp
  exact q ys c hlen hsm s1
end
namespace k18
theorem f8 : tb.tab.fn 8 = some d__law_draw := rfl
theorem f7 : tb.tab.fn 7 = some d__law_pick := rfl
theorem f2 : tb.tab.fn 2 = some d__law_bent := rfl
theorem f15 : tb.tab.fn 15 = some d__law_shuffled := rfl
theorem f17 : tb.tab.fn 17 = some d__law_collection := rfl
theorem f122 : tb.tab.fn 122 = some d__law_odds := rfl
theorem f121 : tb.tab.fn 121 = some d_are_chances := rfl
theorem f120 : tb.tab.fn 120 = some d_are_valid_chances := rfl
theorem f119 : tb.tab.fn 119 = some d_is_chance := rfl
theorem f42 : tb.tab.fn 42 = some d_lowest_terms := rfl
theorem f6 : tb.tab.fn 6 = some d_is_integer := rfl
theorem f9 : tb.tab.fn 9 = some d_is_ascending := rfl
theorem f10 : tb.tab.fn 10 = some d_is_document := rfl
theorem f11 : tb.tab.fn 11 = some d_is_collection := rfl
theorem f13 : tb.tab.fn 13 = some d_require_collection := rfl
theorem f4 : tb.tab.fn 4 = some d__law_right := rfl
theorem f123 : tb.tab.fn 123 = some d__law_are_chances_or := rfl
theorem f5 : tb.tab.fn 5 = some d_law := rfl
section
variable {N k : Nat} {h : Hh} {E : Nat → Hh → Prop}
theorem chances {x : D} {cs : List D} (hN : 1000 < N) (hs : ∀ s, .str s ∈ cs → s.length ≤ 16777216) {Q : Vl → Hh → Prop} : W (callF tb.tab.fn N (k + 4) 121 [.d (.tuple cs), .d x]) h Q E ↔ if isColl (.tuple cs) = true then Q (.d (.bool (validCh cs.length x))) h else E 12 h :=
  W_are_chances f6 f42 f119 f120 f9 f10 f11 f13 f121 hN hs
theorem chances_or {x : D} {cs : List D} (hN : 1000 < N) (hs : ∀ s, .str s ∈ cs → s.length ≤ 16777216) (hc : isColl (.tuple cs) = false) {Q : Vl → Hh → Prop} : W (callF tb.tab.fn N (k + 5) 123 [.d (.tuple cs), .d x]) h Q E ↔ Q (.d (.str (q "InvalidCollection"))) h := by
  rw [W_call f123 rfl]
  have := fun Q E => chances (k := k) (h := h) (E := E) (x := x) hN hs (Q := Q)
  simp [d__law_are_chances_or, W_try, this, hc]
/-- the law's own check of all of them -/
theorem rights {en : Env} (hi : 7 < en.length) (hN : 1000 < N) {xs : List D} {Q : List D → Hh → Prop} : W (compE (callF tb.tab.fn N (k + 1)) (Jr.E.var 7) (Tg.nm 7) [7] (Jr.E.nt (Jr.E.call 4 (Es.cons (Jr.E.var 7) Es.nil))) en none xs) h Q E ↔ Q (xs.filter fun x => !isChance x) h := by
  rw [W_compE (fun x => if (!isChance x) = true then some x else none) depOk_none, show xs.filterMap (fun x => if (!isChance x) = true then some x else none) = xs.filter (fun x => !isChance x) from by
    induction xs with
    | nil => rfl
    | cons y ys ih => rw [List.filterMap_cons, List.filter_cons, ih]; cases isChance y <;> rfl]
  intro x hx
  rw [W_turn]
  simp [hi]
  refine W_right18 f4 hN ?_
  cases isChance x <;> simp [hi]
end
theorem sLt_trans {a b c : Str} (h1 : sLt a b) (h2 : sLt b c) : sLt a c := List.lt_trans h1 h2
theorem sLt_irrefl {a : Str} (h : sLt a a) : False := List.lt_irrefl _ h
theorem asc_iff : ∀ l : List Str, ascD (l.map D.str) = true ↔ l.Pairwise sLt
  | [] => by simp [ascD, zipD]
  | [x] => by simp [ascD, zipD]
  | x :: y :: r => by
    have e : ascD ((x :: y :: r).map D.str) = (ltS (.str x) (.str y) && ascD ((y :: r).map D.str)) := rfl
    have ih := asc_iff (y :: r)
    rw [e, Bool.and_eq_true, ih]
    have e2 : ltS (.str x) (.str y) = true ↔ sLt x y := by
      show decide (x.cps.toList < y.cps.toList) = true ↔ _
      rw [decide_eq_true_eq]
      exact Iff.rfl
    rw [e2]
    constructor
    · rintro ⟨h1, h2⟩
      refine List.pairwise_cons.mpr ⟨fun z hz => ?_, h2⟩
      rcases List.mem_cons.mp hz with rfl | hz
      · exact h1
      · exact sLt_trans h1 ((List.pairwise_cons.mp h2).1 z hz)
    · intro h
      obtain ⟨h1, h2⟩ := List.pairwise_cons.mp h
      exact ⟨h1 y List.mem_cons_self, h2⟩
theorem doc8 : ∀ x ∈ names8, isDoc (.str x) = true := by decide
theorem coll_ok {l : List Str} (c : Coll 7 l) : isColl (.tuple (l.map D.str)) = true := by
  have h1 := c.pos
  have h2 := c.le
  have h3 : (l.map D.str).all isDoc = true := List.all_eq_true.mpr fun x hx => by
    obtain ⟨z, hz, rfl⟩ := List.mem_map.mp hx
    exact doc8 z (c.sub z hz)
  have h4 := (asc_iff l).mpr c.asc
  simp only [isColl, List.length_map, h1, h2, h3, h4, decide_true, Bool.and_self]
theorem coll_twice {l : List Str} (c : Coll 7 l) : isColl (.tuple (l.map D.str ++ l.map D.str)) = false := by
  have h : ascD (l.map D.str ++ l.map D.str) = false := by
    cases e : ascD (l.map D.str ++ l.map D.str) with
    | false => rfl
    | true =>
      rw [← List.map_append, asc_iff] at e
      have hp := c.pos
      cases l with
      | nil => simp at hp
      | cons x r => exact (sLt_irrefl ((List.pairwise_append.mp e).2.2 x List.mem_cons_self x List.mem_cons_self)).elim
  simp [isColl, h]
end k18
end Jr

set_option Elab.async false
set_option linter.all false
set_option maxRecDepth 100000
set_option maxHeartbeats 2000000
namespace Jr
open PySem
namespace k18
theorem mul_tt {a : List D} (h : a.length ≤ 1000) : mulV (.tuple a) (.int 2) = some (.tuple (a ++ a)) := by
  have e : reps a 2 = a ++ a := by
    show (List.replicate 2 a).flatten = _
    simp [List.replicate]
  unfold mulV
  dsimp only
  rw [if_pos ⟨by decide, by decide, h⟩, e]
theorem cut_all (xs : List D) (lo hi : Option Int) : (cut xs lo hi).length ≤ xs.length := cut_len' xs lo hi
def rg8 : List D := rangeD 0 8
theorem small {l : List Str} (c : Coll 7 l) : ∀ s, D.str s ∈ l.map D.str → s.length ≤ 16777216 := fun s hs => by
  obtain ⟨z, hz, e⟩ := List.mem_map.mp hs
  cases e
  have : ∀ x ∈ names8, x.length ≤ 16777216 := by decide
  exact this _ (c.sub _ hz)
theorem law_pure {ns : List Int} (hns : ns.length ≤ 63) {N : Nat} (hN : 1000 < N) : W (callF tb.tab.fn N (20 + 1) 5 [.r 0]) [.ro (ns.map D.int)] (fun v _ => v = .d (.bool true)) fun _ _ => False := by
  rw [W_call f5 rfl]
  simp only [d_law]
  rw [W_B_cons]
  refine W.imp (Q := fun so h1 => so = .next [some (.r 0), some (.r 1), none, none, none, none, none, none, none, none] ∧ St ns 0 h1) ?_ ?_
  · simp [sizeLine]
    exact .mk_ (st := []) (t := []) (by simp)
  rintro so h1 ⟨rfl, s⟩
  show W (evB _ _ _ _) _ _ _
  rw [W_B_cons]
  refine W.imp (Q := fun so h1 => ∃ a2 a3 a4 a5 a6 a7 a8 a9, so = .next [some (.r 0), some (.r 1), a2, a3, a4, a5, a6, a7, a8, a9]) ?_ ?_
  · rw [evS_for, evI_r1]
    simp only [W_bind, W_dd, evE_int, W_pD, W_rd_d, asI_int, Option.bind_some, show rng 0 8 = some rg8 from rfl, W_ofO_some, W_pure]
    unfold forE
    refine W_forL (fun xs en h => ∃ a2 a3 a4 a5 a6 a7 a8 a9, en = [some (.r 0), some (.r 1), a2, a3, a4, a5, a6, a7, a8, a9] ∧ St ns (1000 - 100 * xs.length) h ∧ xs.length ≤ 8) ?_ ?_ ?_
    · exact ⟨_, _, _, _, _, _, _, _, rfl, s.more (by omega), by simp [rg8, rangeD]⟩
    · rintro x xs en h ⟨a2, a3, a4, a5, a6, a7, a8, a9, rfl, s, hl⟩
      refine ⟨trivial, ?_⟩
      simp at hl
      simp [-W_B_cons]
      -- the collection
      rw [W_B_cons]
      refine W.imp (Q := fun so h1 => ∃ l, Coll 7 l ∧ so = .next [some (.r 0), some (.r 1), some (.d x), some (.d (.tuple (l.map D.str))), a4, a5, a6, a7, a8, a9] ∧ St ns (1000 - 100 * (xs.length + 1) + 18) h1) ?_ ?_
      · simp
        exact W_collection (m := 7) f8 f15 f17 s (by omega) (by omega) hns hN fun l c cl s1 => ⟨l, cl, by simp, s1⟩
      rintro so h1 ⟨l, cl, rfl, s⟩
      show W (evB _ _ _ _) _ _ _
      -- the odds
      rw [W_B_cons]
      have ll : (l.map D.str).length ≤ 7 := by rw [List.length_map]; exact cl.le
      refine W.imp (Q := fun so h1 => ∃ od : List D, od.length ≤ 7 ∧ (∀ y ∈ od, Sm 20 1 y) ∧ so = .next [some (.r 0), some (.r 1), some (.d x), some (.d (.tuple (l.map D.str))), some (.d (.tuple od)), a5, a6, a7, a8, a9] ∧ St ns (1000 - 100 * (xs.length + 1) + 46) h1) ?_ ?_
      · simp
        refine W_odds f8 f7 f122 s (by omega) hns hN (xs := l.map D.str) (by omega) fun ys c h1 h2 s1 => ?_
        simp
        exact ⟨ys, by omega, h2, rfl, s1.more (by omega)⟩
      rintro so h1 ⟨od, ol, osm, rfl, s⟩
      show W (evB _ _ _ _) _ _ _
      have odS : Sm 20 2 (.tuple od) := Sm.tuple (by omega) osm
      -- things
      rw [W_B_cons]
      refine W.imp (Q := fun so h1 => ∃ j, so = .next [some (.r 0), some (.r 1), some (.d x), some (.d (.tuple (l.map D.str))), some (.d (.tuple od)), some (.r j), a6, a7, a8, a9] ∧ Th ns (1000 - 100 * (xs.length + 1) + 58) j 6 h1) ?_ ?_
      · simp [sizeLine]
        rw [add_tt (by simp; omega)]
        simp
        refine W_bent f8 f7 f2 hns 2 (M := 20) s (by omega) (by omega) (by omega) odS fun y c sy s1 => ?_
        simp
        rw [show List.length h1 = (List.set h1 1 c).length from by simp]
        exact (Th.new s1 (Nat.le_refl _)).mono (by omega) (Nat.le_of_eq rfl)
      rintro so h1 ⟨j, rfl, t⟩
      show W (evB _ _ _ _) _ _ _
      rw [W_B_cons]
      refine W.imp (Q := fun so h1 => ∃ so6, so = .next [some (.r 0), some (.r 1), some (.d x), some (.d (.tuple (l.map D.str))), some (.d (.tuple od)), some (.r j), some (.d (.list so6)), a7, a8, a9] ∧ so6.length = 9 ∧ Th ns (1000 - 100 * (xs.length + 1) + 58) j 6 h1) ?_ ?_
      · simp [sizeLine]
        exact t
      rintro so h1 ⟨so6, rfl, h6, t⟩
      show W (evB _ _ _ _) _ _ _
      rw [W_B_cons]
      refine W.imp (Q := fun so h1 => ∃ a7, so = .next [some (.r 0), some (.r 1), some (.d x), some (.d (.tuple (l.map D.str))), some (.d (.tuple od)), some (.r j), some (.d (.list so6)), a7, a8, a9] ∧ Th ns (1000 - 100 * (xs.length + 1) + 58) j 18 h1) ?_ ?_
      · simp [sizeLine]
        refine ⟨by omega, ?_⟩
        unfold forE
        refine W_forL (fun ys en h => ∃ a7, en = [some (.r 0), some (.r 1), some (.d x), some (.d (.tuple (l.map D.str))), some (.d (.tuple od)), some (.r j), some (.d (.list so6)), a7, a8, a9] ∧ Th ns (1000 - 100 * (xs.length + 1) + 58) j (18 - ys.length) h ∧ ys.length ≤ 12) ?_ ?_ ?_
        · exact ⟨a7, rfl, t.mono (by omega) (by simp [h6]), by simp [h6]⟩
        · rintro y ys en h ⟨a7, rfl, t, hl2⟩
          refine ⟨trivial, ?_⟩
          obtain ⟨s, j2, us, e, hl3⟩ := id t
          simp at hl2 hl3
          simp [e, sizeLine]
          have hc := cut_all od (some 1) none
          rw [cut_tail] at hc
          rw [add_tt (by simp [cut_tail]; omega)]
          simp [e, sizeLine]
          refine ⟨by omega, ?_, by omega⟩
          exact (t.add e (by simp; omega)).mono (by omega) (by simp; omega)
        · rintro en h ⟨a7, rfl, t, _⟩
          exact ⟨trivial, ⟨a7, rfl⟩, t⟩
      rintro so h1 ⟨a7, rfl, t⟩
      show W (evB _ _ _ _) _ _ _
      rw [W_B_cons]
      refine W.imp (Q := fun so h1 => ∃ a7, so = .next [some (.r 0), some (.r 1), some (.d x), some (.d (.tuple (l.map D.str))), some (.d (.tuple od)), some (.r j), some (.d (.list so6)), a7, a8, a9] ∧ Th ns (1000 - 100 * (xs.length + 1) + 58) j 25 h1) ?_ ?_
      · simp [sizeLine, ok_string]
        unfold forE
        refine W_forL (fun ys en h => ∃ a7, en = [some (.r 0), some (.r 1), some (.d x), some (.d (.tuple (l.map D.str))), some (.d (.tuple od)), some (.r j), some (.d (.list so6)), a7, a8, a9] ∧ Th ns (1000 - 100 * (xs.length + 1) + 58) j (25 - ys.length) h ∧ ys.length ≤ 7) ?_ ?_ ?_
        · exact ⟨a7, rfl, t.mono (by omega) (by simp), by simp⟩
        · rintro y ys en h ⟨a7, rfl, t, hl2⟩
          refine ⟨trivial, ?_⟩
          obtain ⟨s, j2, us, e, hl3⟩ := id t
          simp at hl2 hl3
          simp [e, sizeLine]
          have hc := cut_all od none (some (-1))
          rw [add_tt (by simp; omega)]
          simp [e, sizeLine]
          refine ⟨by omega, ?_, by omega⟩
          exact (t.add e (by simp; omega)).mono (by omega) (by simp; omega)
        · rintro en h ⟨a7, rfl, t, _⟩
          exact ⟨trivial, ⟨a7, rfl⟩, t⟩
      rintro so h1 ⟨a7, rfl, t⟩
      show W (evB _ _ _ _) _ _ _
      rw [W_B_cons]
      obtain ⟨s, j2, us, e, hl3⟩ := id t
      refine W.imp (Q := fun so h2 => ∃ a7 a8 a9, so = .next [some (.r 0), some (.r 1), some (.d x), some (.d (.tuple (l.map D.str))), some (.d (.tuple od)), some (.r j), some (.d (.list so6)), a7, a8, a9] ∧ h2 = h1) ?_ ?_
      · simp [e]
        unfold forE
        refine W_forL (fun ys en h => ∃ a7 a8 a9, en = [some (.r 0), some (.r 1), some (.d x), some (.d (.tuple (l.map D.str))), some (.d (.tuple od)), some (.r j), some (.d (.list so6)), a7, a8, a9] ∧ h = h1) ?_ ?_ ?_
        · exact ⟨a7, a8, a9, rfl, rfl⟩
        · rintro y ys en h ⟨a7, a8, a9, rfl, rfl⟩
          refine ⟨e, ?_⟩
          have hc := fun Q E => chances (k := 16) (h := h) (E := E) (x := y) hN (small cl) (Q := Q)
          have ck := coll_ok cl
          have rr := fun en (hi : 7 < List.length en) ys Q E => rights (k := 19) (h := h) (E := E) (en := en) hi hN (xs := ys) (Q := Q)
          rcases y with _ | _ | _ | _ | _ | ys'
          case tuple =>
            by_cases hlen : ys'.length = l.length
            · have hlen' : (ys'.length : Int) = l.length := by omega
              cases ha : ys'.all isChance with
              | true =>
                have hf : ys'.filter (fun x => !isChance x) = [] := by
                  rw [List.filter_eq_nil_iff]
                  intro z hz
                  simp [List.all_eq_true.mp ha z hz]
                simp [hc, ck, rr, validCh, hlen, hlen', ha, hf, sizeLine]
              | false =>
                cases hf : ys'.filter (fun x => !isChance x) with
                | nil =>
                  rw [List.filter_eq_nil_iff] at hf
                  have : ys'.all isChance = true := List.all_eq_true.mpr fun z hz => by simpa using hf z hz
                  rw [this] at ha
                  cases ha
                | cons z zs => simp [hc, ck, rr, validCh, hlen, hlen', ha, hf, sizeLine]
            · have hlen' : ¬ (ys'.length : Int) = l.length := by omega
              simp [hc, ck, validCh, hlen, hlen']
          all_goals simp [hc, ck, validCh]
        · rintro en h ⟨a7, a8, a9, rfl, rfl⟩
          exact ⟨e, ⟨a7, a8, a9, rfl⟩, rfl⟩
      rintro so h2 ⟨a7, a8, a9, rfl, rfl⟩
      show W (evB _ _ _ _) _ _ _
      have ce := fun Q E => chances_or (k := 15) (h := h2) (E := E) (x := .tuple []) (cs := []) hN (by simp) (by decide) (Q := Q)
      have cd := fun Q E => chances_or (k := 15) (h := h2) (E := E) (x := .tuple od) (cs := l.map D.str ++ l.map D.str) hN (fun s hs => small cl s (by simpa using hs)) (coll_twice cl) (Q := Q)
      simp [sizeLine, ce, ok_string]
      rw [mul_tt (by omega)]
      simp [cd, ok_string]
      exact ⟨s.more (by omega), by omega⟩
    · rintro en h ⟨a2, a3, a4, a5, a6, a7, a8, a9, rfl, s, hl⟩
      exact ⟨trivial, a2, a3, a4, a5, a6, a7, a8, a9, rfl⟩
  rintro so h1 ⟨a2, a3, a4, a5, a6, a7, a8, a9, rfl⟩
  rw [seqQ_next]
  simp
end k18
end Jr

set_option Elab.async false
open PySem PySem.W PyProof.Rows
theorem PySem.Challenge.cw_judgedranks_k18_chances_recognized_holds : PySem.Challenge.rw_judgedranks_k18_chances_recognized.Holds := by
  refine Jr.k18.holds_of (k := 20) (n := 1001) ⟨rfl, by decide, by decide⟩ fun ns hns => ?_
  obtain ⟨v, h', e, rfl⟩ := (Jr.k18.law_pure hns (N := 1001) (by decide)).of
  exact ⟨h', e⟩

