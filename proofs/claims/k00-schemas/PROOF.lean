import PyProof.Rows.All
import Wide.All
import OpenK.AllK
import Wide.FinOn
import HandS.ForMost
import HandS.ForExc
import HandS.Defaults
import HandS.Walk
import HandS.Zip
import HandS.Style
import HandS.TupAny
import HandS.Text
import HandS.Wide
import HandS.IsInst
import HandS.TupMul
import KE.LtData
import KE.SortData
import KE.DataCmp
import KE.GoesEnum
import HandS.Lambda
import HandS.ExcIs
import KE.KRevSl
import HandS.TryMany
import HandS.SetFor
import HandS.Strs
import KE.KStateDown
import HandS.Codes
import HandS.Head0
import HandS.Head1
import HandS.Head2
import HandS.HeadEnd
import HandS.HeadHook1
import HandS.HeadHook2
import HandS.EndTab
import PySem.Challenge.RW_snapshothall_k00_whole_schemas_and_state
set_option Elab.async false
set_option linter.all false
set_option maxRecDepth 100000
/-! Ev0: a small language, its values, its evaluation: plain Lean, no machine in sight. -/
namespace Ev
open PySem

/-- values: mutable things stand in a store, told by their places -/
inductive D where
  | non
  | bl (b : Bool)
  | int (i : Int)
  | str (s : Str)
  | tup (xs : List D)
  | lst (xs : List D)
  | dct (ks vs : List D)
  | ref (l : Nat)
  | fn (f : Nat)
  deriving Inhabited

/-- what stands at a place of the store -/
inductive Cell where
  | dead
  | lst (xs : List D)
  | dct (ks vs : List D)
  deriving Inhabited

abbrev Store := List Cell

inductive Res (α : Type) where
  | ok (a : α) (st : Store)
  | exc (c : Nat) (st : Store)
  | bad

abbrev M (α : Type) := Store → Res α
namespace M
def ret {α : Type} (a : α) : M α := fun st => .ok a st
def bad {α : Type} : M α := fun _ => .bad
def thn {α β : Type} (x : M α) (f : α → M β) : M β := fun st =>
  match x st with
  | .ok a st' => f a st'
  | .exc c st' => .exc c st'
  | .bad => .bad
/-- an error may not come out -/
def calm {α : Type} (x : M α) : M α := fun st =>
  match x st with
  | .ok a st' => .ok a st'
  | _ => .bad
def ofO {α : Type} : Option α → M α
  | some a => ret a
  | none => bad
end M
open M

/-! ### plain data -/
mutual
def D.toPy : D → Option PyData
  | .non => some .none
  | .bl b => some (.bool b)
  | .int i => some (.int i)
  | .str s => some (.str s)
  | .tup xs => (D.toPys xs).map .tuple
  | .lst xs => (D.toPys xs).map .list
  | .dct _ _ => none
  | .ref _ => none
  | .fn _ => none
def D.toPys : List D → Option (List PyData)
  | [] => some []
  | x :: xs => match D.toPy x, D.toPys xs with
    | some y, some ys => some (y :: ys)
    | _, _ => none
end
mutual
/-- no places of the store within -/
def D.plain : D → Bool
  | .tup xs => D.plains xs
  | .lst xs => D.plains xs
  | .dct ks vs => D.plains ks && D.plains vs
  | .ref _ => false
  | _ => true
def D.plains : List D → Bool
  | [] => true
  | x :: xs => D.plain x && D.plains xs
end

/-- a mutable list, dict read as it stands -/
def view (st : Store) : D → D
  | .ref l => match st[l]? with
    | some (.lst xs) => .lst xs
    | some (.dct ks vs) => .dct ks vs
    | _ => .ref l
  | d => d

/-! ### operations on values -/
def okSize (n : Nat) : Bool := decide (n ≤ 10000000)
def smallI (i : Int) : Bool := decide (-(2 ^ 64) < i ∧ i < 2 ^ 64)
def eqD (a b : D) : Option Bool := match a, b with
  | .int i, .int j => some (decide (i = j))
  | .str i, .str j => some (decide (i = j))
  | .bl i, .bl j => some (decide (i = j))
  | .non, .non => some true
  | a, b => match a.toPy, b.toPy with
    | some x, some y => if SeqAt.shaped x && SeqAt.shaped y then some (PyData.eqv x y) else none
    | _, _ => none
def inL (x : D) (ys : List D) : Option Bool := match x.toPy, D.toPys ys with
  | some d, some ds => if SeqAt.shaped d && PyData.canLayAll0 ds then some (ds.any fun z => PyData.eqv z d) else none
  | _, _ => none
def ltD (a b : D) : Option Bool := match a, b with
  | .int i, .int j => some (decide (i < j))
  | .str i, .str j => some (decide (i.cps.toList < j.cps.toList))
  | .tup _, .tup _ => match a.toPy, b.toPy with
    | some x, some y => if PySem.W.alike x y && decide (x.depth ≤ 60) then some (PySem.W.dataLt x y) else none
    | _, _ => none
  | _, _ => none
def leD (a b : D) : Option Bool := match a, b with
  | .int i, .int j => some (decide (i ≤ j))
  | .str i, .str j => some (!decide (j.cps.toList < i.cps.toList))
  | _, _ => none
def binD (op : Operator) (a b : D) : Option D := match op, a, b with
  | .Add, .int i, .int j => some (.int (i + j))
  | .Add, .str i, .str j => if okSize (i.length + j.length) then some (.str (i ++ j)) else none
  | .Add, .tup xs, .tup ys => if okSize (xs.length + ys.length) then some (.tup (xs ++ ys)) else none
  | .Add, .lst xs, .lst ys => if okSize (xs.length + ys.length) then some (.lst (xs ++ ys)) else none
  | .Sub, .int i, .int j => some (.int (i - j))
  | .Mult, .int i, .int j => if smallI i || smallI j then some (.int (i * j)) else none
  | .Mult, .tup xs, .int k => if !xs.isEmpty && decide (2 ≤ k ∧ k ≤ 1000) && decide (xs.length ≤ 1000) then some (.tup (List.replicate k.toNat xs).flatten) else none
  | .FloorDiv, .int i, .int j => if decide (0 < j ∧ j < 1073741824) then some (.int (i / j)) else none
  | .Mod, .int i, .int j => if decide (0 < j) then some (.int (i % j)) else none
  | .Pow, .int i, .int j => if decide (0 ≤ j ∧ j ≤ 1000000) && decide (i.natAbs < 2 ^ 64) then some (.int (i ^ j.toNat)) else none
  | _, _, _ => none
/-- two lists, one behind the other -/
def catD : D → D → Option (List D)
  | .lst xs, .lst ys => if okSize (xs.length + ys.length) then some (xs ++ ys) else none
  | _, _ => none
def ixAt {α : Type} (xs : List α) (i : Int) : Option α :=
  if 0 ≤ i then xs[i.toNat]? else if -(xs.length : Int) ≤ i then xs[(i + xs.length).toNat]? else none
def idxD (a b : D) : Option D := match a, b with
  | .tup xs, .int i => ixAt xs i
  | .lst xs, .int i => ixAt xs i
  | _, _ => none
/-- the bounds of a slice -/
def cutAt (n d : Nat) : Option Int → Nat
  | none => d
  | some v => if v < 0 then (v + (n : Int)).toNat else min v.toNat n
def cutL {α : Type} (xs : List α) (lo hi : Option Int) : List α :=
  (xs.drop (cutAt xs.length 0 lo)).take (cutAt xs.length xs.length hi - cutAt xs.length 0 lo)
def slcD (a : D) (lo hi : Option Int) : Option D := match a with
  | .tup xs => some (.tup (cutL xs lo hi))
  | .lst xs => some (.lst (cutL xs lo hi))
  | _ => none
/-- read from its end -/
def revD : D → Option D
  | .tup xs => some (.tup xs.reverse)
  | .lst xs => some (.lst xs.reverse)
  | _ => none
def isNon : D → Bool
  | .non => true
  | _ => false
/-- one text within another -/
def inS (a : D) (j : Str) : Option Bool := match a with
  | .str i => some (!(Builtin.Str.occurrences j i 0 j.length 1).isEmpty)
  | _ => none
def cmpD (op : CmpOp) (a b : D) : Option Bool := match op with
  | .Eq => eqD a b
  | .NotEq => (eqD a b).map (!·)
  | .Lt => ltD a b
  | .Gt => ltD b a
  | .LtE => leD a b
  | .GtE => leD b a
  | .Is => match a, b with
    | a, .non => some (isNon a)
    | .bl j, .bl k => some (decide (j = k))
    | .non, .bl _ => some false
    | _, _ => none
  | .IsNot => match a, b with
    | a, .non => some (!isNon a)
    | .bl j, .bl k => some (!decide (j = k))
    | .non, .bl _ => some true
    | _, _ => none
  | .In => match b with
    | .lst ys => inL a ys
    | .tup ys => inL a ys
    | .str j => inS a j
    | _ => none
  | .NotIn => match b with
    | .lst ys => (inL a ys).map (!·)
    | .tup ys => (inL a ys).map (!·)
    | .str j => (inS a j).map (!·)
    | _ => none

/-! ### the language -/
inductive Ty where
  | int | bool | str | tuple | list | none
  deriving DecidableEq, Inhabited
def Ty.has : Ty → D → Bool
  | .int, .int _ => true
  | .int, .bl _ => true
  | .bool, .bl _ => true
  | .str, .str _ => true
  | .tuple, .tup _ => true
  | .list, .lst _ => true
  | _, _ => false
def Ty.name : Ty → String
  | .int => "int" | .bool => "bool" | .str => "str" | .tuple => "tuple" | .list => "list" | .none => "NoneType"

inductive Blt where
  | len | abs | int | sum | max | any | all | repr
  | isi (t : Ty)
  | tuple
  deriving DecidableEq, Inhabited
/-- targets of loops -/
inductive Tg where
  | name (i : Nat)
  | two (a b : Tg)
  | three (a b c : Tg)
  deriving Inhabited

mutual
inductive E where
  | var (i : Nat)
  | const (d : D)
  | gc (x : Str) (d : D)
  | gf (f : Nat)
  | tup (es : Es)
  | bin (op : Operator) (a b : E)
  | neg (a : E)
  | not (a : E)
  | and (a b : E)
  | or (a b : E)
  | ite (c a b : E)
  | cmp (op : CmpOp) (a b : E)
  | cmp2 (op op' : CmpOp) (a b c : E)
  | idx (a b : E)
  | slc (a : E) (lo hi : O)
  | call (f : Nat) (es : Es)
  | blt (b : Blt) (a : E)
  | new (n : N)
  | newm (n : N)
  | frz (a : E)
  | pop (a : E)
  | rev (a : E)
  | word (x : Str) (hs : List (Nat × D)) (d : D) (e : E)
  | mm (mx : Bool) (a b : E)
  | srt (a : E)
/-- a part of a slice, a test of a comprehension: perhaps none -/
inductive O where
  | no
  | is (e : E)
inductive Es where
  | nil
  | cons (e : E) (es : Es)
inductive N where
  | lst (es : Es)
  | comp (own : List Nat) (elt : E) (tg : Tg) (it : It) (c : O)
  | comp2 (own own1 : List Nat) (elt : E) (tg : Tg) (it : It) (c : O) (tg1 : Tg) (it1 : It) (c1 : O)
  | listOf (a : E)
  | rep (n : N) (k : E)
  | cat (a b : E)
inductive It where
  | val (a : E)
  | rng1 (a : E)
  | rng2 (a b : E)
  | enum (a : E)
  | zip (a b : E)
end
inductive T where
  | name (i : Nat)
  | tg (t : Tg)
  | idx (o i : E)
mutual
inductive S where
  | expr (e : E)
  | asg (t : T) (e : E)
  | par (ts : List Nat) (es : Es)
  | augn (op : Operator) (i : Nat) (e : E)
  | app (o e : E)
  | ret (e : E)
  | retN
  | pass
  | brk
  | iff (c : E) (a b : Ss)
  | for (t : Tg) (it : It) (b : Ss)
  | whl (c : E) (b : Ss)
  | raise (c : Nat) (m : Str)
  | freeze (i : Nat)
  | augl (i : Nat) (e : E)
  | tryA (i : Nat) (b : Ss) (hall : Nat) (cs : List (Nat × D)) (d : D)
inductive Ss where
  | nil
  | cons (s : S) (ss : Ss)
end

structure Fn where
  name : Str
  ps : List Str
  slots : List Str
  body : Ss

/-! ### evaluation -/
structure Cfg where
  call : Nat → List D → M D
  base : Nat
  fuel : Nat
  exm : Nat → Nat → Option Bool

abbrev Env := List (Option D)
def getE (ρ : Env) (i : Nat) : M D := match ρ[i]? with
  | some (some d) => ret d
  | _ => bad
def wipeE (ρ : Env) : List Nat → Env
  | [] => ρ
  | v :: vs => (wipeE ρ vs).set v none
mutual
def setTg : Tg → D → Env → Option Env
  | .name i, d, ρ => some (ρ.set i (some d))
  | .two a b, .tup [x, y], ρ => match setTg a x ρ with
    | some ρ => setTg b y ρ
    | none => none
  | .three a b c, .tup [x, y, z], ρ => match setTg a x ρ with
    | some ρ => match setTg b y ρ with
      | some ρ => setTg c z ρ
      | none => none
    | none => none
  | _, _, _ => none
end
/-- a value's type -/
def tyD : D → String
  | .non => "NoneType" | .bl _ => "bool" | .int _ => "int" | .str _ => "str" | .tup _ => "tuple" | .lst _ => "list" | _ => ""
def asB : D → M Bool
  | .bl b => ret b
  | _ => bad
def asI : D → M (Option Int)
  | .int i => ret (some i)
  | _ => bad
def allB : List D → Option (List Bool)
  | [] => some []
  | .bl b :: r => (allB r).map (b :: ·)
  | _ => none
def allI : List D → Option (List Int)
  | [] => some []
  | .int b :: r => (allI r).map (b :: ·)
  | _ => none
/-- the greatest -/
def maxI : Int → List Int → Int
  | m, [] => m
  | m, x :: xs => maxI (if x > m then x else m) xs
/-- the greater, the less of two -/
def mm2 : Bool → Int → Int → Int
  | true, i, j => if j > i then j else i
  | false, i, j => if j < i then j else i
def bltD (b : Blt) (d : D) : Option D := match b, d with
  | .len, .lst xs => some (.int xs.length)
  | .len, .tup xs => some (.int xs.length)
  | .len, .str z => if okSize z.length then some (.int z.length) else none
  | .abs, .int i => some (.int (if i < 0 then -i else i))
  | .int, .int i => some (.int i)
  | .int, .bl k => some (.int (if k then 1 else 0))
  | .sum, .lst xs => (allI xs).map fun l => .int l.sum
  | .max, .lst xs => match allI xs with
    | some (i :: l) => some (.int (maxI i l))
    | _ => none
  | .any, .lst xs => (allB xs).map fun l => .bl (l.any id)
  | .all, .lst xs => (allB xs).map fun l => .bl (l.all id)
  | .isi _, .ref _ => none
  | .isi t, d => if decide (tyD d ≠ "") && decide (t ≠ .none) then some (.bl (t.has d)) else none
  | .tuple, .lst xs => some (.tup xs)
  | .tuple, .tup xs => some (.tup xs)
  | .repr, d => match d.toPy with
    | some x => if x.showable && decide (x.depth ≤ 60) && okSize x.shown.length then some (.str x.shown) else none
    | none => none
  | _, _ => none
/-! a list of ints, in order, each once -/
def insU (x : Int) : List Int → List Int
  | [] => [x]
  | y :: ys => if x < y then x :: y :: ys else if x = y then y :: ys else y :: insU x ys
def sortU : List Int → List Int
  | [] => []
  | x :: xs => insU x (sortU xs)
/-- in order, each once -/
def srtD : D → Option D
  | .lst xs => match allI xs with
    | some l => if decide (l.length < 64) then some (.lst ((sortU l).map .int)) else none
    | none => none
  | _ => none
/-- a new mutable thing -/
def alloc (c : Cell) : M D := fun st => .ok (.ref st.length) (st ++ [c])
/-- a list of results, one turn behind the other -/
def loopC {α : Type} (f : D → M (List α)) : List D → M (List α)
  | [] => ret []
  | x :: xs => thn (f x) fun ys => thn (loopC f xs) fun zs => ret (ys ++ zs)
def pairUp : List D → List D → List D
  | x :: xs, y :: ys => .tup [x, y] :: pairUp xs ys
  | _, _ => []
def numUp : Nat → List D → List D
  | _, [] => []
  | n, x :: xs => .tup [.int n, x] :: numUp (n + 1) xs
def rngUp (lo : Int) : Nat → List D
  | 0 => []
  | n + 1 => .int lo :: rngUp (lo + 1) n
def seqOf : D → Option (List D)
  | .lst xs => some xs
  | .tup xs => some xs
  | _ => none
def zipD : D → D → Option (List D)
  | .lst xs, .lst ys => some (pairUp xs ys)
  | .tup xs, .tup ys => some (pairUp xs ys)
  | _, _ => none
/-- what a loop walks -/
def walkD : D → Option (List D)
  | .lst xs => some xs
  | .tup xs => some xs
  | .str z => some (z.cps.toList.map fun c => .str ⟨#[c]⟩)
  | _ => none
def okRng (i : Int) : Bool := decide (-(2 ^ 62) ≤ i ∧ i < 2 ^ 62)

/-- the last of a mutable list, taken -/
def popD (x : D) : M D := fun st => match x with
  | .ref l => match st[l]? with
    | some (.lst xs) => match xs.getLast? with
      | some d => .ok d (st.set l (.lst xs.dropLast))
      | none => .bad
    | _ => .bad
  | _ => .bad
def repL (xs : List D) (d : D) : M (List D) := match d with
  | .int k => if decide (0 ≤ k) && okSize k.toNat && okSize (k.toNat * xs.length) then ret (List.replicate k.toNat xs).flatten else bad
  | _ => bad
/-- which clause takes an error -/
def catchW (exm : Nat → Nat → Option Bool) (c : Nat) : List (Nat × D) → Option D
  | [] => none
  | (k, d) :: r => match exm c k with
    | some true => some d
    | some false => catchW exm c r
    | none => none
/-- which error a run raises, told by a constant -/
def wordM (exm : Nat → Nat → Option Bool) (hs : List (Nat × D)) (d : D) (x : M D) : M D := fun st => match x st with
  | .ok _ st' => .ok d (st'.take st.length)
  | .exc c st' => match catchW exm c hs with
    | some d' => .ok d' (st'.take st.length)
    | none => .bad
  | .bad => .bad
mutual
def evE (C : Cfg) (ρ : Env) : E → M D
  | .var i => getE ρ i
  | .const d => ret d
  | .gc _ d => ret d
  | .gf f => ret (.fn f)
  | .tup es => thn (evEs C ρ es) fun xs => if okSize xs.length then ret (.tup xs) else bad
  | .bin op a b => thn (evE C ρ a) fun x => thn (evE C ρ b) fun y => fun st => ofO (binD op (view st x) (view st y)) st
  | .neg a => thn (evE C ρ a) fun x => match x with
    | .int i => ret (.int (-i))
    | _ => bad
  | .not a => thn (thn (evE C ρ a) asB) fun b => ret (.bl (!b))
  | .and a b => thn (thn (evE C ρ a) asB) fun k => if k then thn (thn (evE C ρ b) asB) fun j => ret (.bl j) else ret (.bl false)
  | .or a b => thn (thn (evE C ρ a) asB) fun k => if k then ret (.bl true) else thn (thn (evE C ρ b) asB) fun j => ret (.bl j)
  | .ite c a b => thn (thn (evE C ρ c) asB) fun k => if k then evE C ρ a else evE C ρ b
  | .cmp op a b => thn (evE C ρ a) fun x => thn (evE C ρ b) fun y => fun st => ofO ((cmpD op (view st x) (view st y)).map .bl) st
  | .cmp2 op op' a b c => thn (evE C ρ a) fun x => thn (evE C ρ b) fun y => fun st => thn (ofO (cmpD op (view st x) (view st y))) (fun k => if k then
      thn (evE C ρ c) fun z => fun st => ofO ((cmpD op' (view st y) (view st z)).map .bl) st else ret (.bl false)) st
  | .idx a b => thn (evE C ρ a) fun x => thn (evE C ρ b) fun y => fun st => ofO (idxD (view st x) y) st
  | .slc a lo hi => thn (evE C ρ a) fun x => thn (evO C ρ lo) fun l => thn (evO C ρ hi) fun h => fun st => ofO (slcD (view st x) l h) st
  | .call f es => thn (evEs C ρ es) fun xs => C.call f xs
  | .blt b a => thn (evE C ρ a) fun x => fun st => ofO (bltD b (view st x)) st
  | .new n => thn (evN C ρ n) fun xs => ret (.lst xs)
  | .newm n => thn (evN C ρ n) fun xs => alloc (.lst xs)
  | .frz a => thn (evE C ρ a) fun x => fun st => match x with
    | .ref l => match st[l]? with
      | some (.lst xs) => .ok (.lst xs) (st.set l .dead)
      | some (.dct ks vs) => .ok (.dct ks vs) (st.set l .dead)
      | _ => .bad
    | _ => .bad
  | .pop a => thn (evE C ρ a) popD
  | .rev a => thn (evE C ρ a) fun x => fun st => ofO (revD (view st x)) st
  | .word _ hs d e => wordM C.exm hs d (evE C ρ e)
  | .mm mx a b => thn (evE C ρ a) fun x => thn (evE C ρ b) fun y => match x, y with
    | .int i, .int j => ret (.int (mm2 mx i j))
    | _, _ => bad
  | .srt a => thn (evE C ρ a) fun x => fun st => ofO (srtD (view st x)) st
/-- a part of a slice -/
def evO (C : Cfg) (ρ : Env) : O → M (Option Int)
  | .no => ret none
  | .is e => thn (evE C ρ e) asI
/-- a test -/
def evC (C : Cfg) (ρ : Env) : O → M Bool
  | .no => ret true
  | .is e => thn (evE C ρ e) asB
def evEs (C : Cfg) (ρ : Env) : Es → M (List D)
  | .nil => ret []
  | .cons e es => thn (evE C ρ e) fun x => thn (evEs C ρ es) fun xs => ret (x :: xs)
def evN (C : Cfg) (ρ : Env) : N → M (List D)
  | .lst es => thn (evEs C ρ es) fun xs => if okSize xs.length then ret xs else bad
  | .comp own elt tg it c => thn (evIt C ρ it) fun xs => calm (thn (loopC (fun x => match setTg tg x (wipeE ρ own) with
      | some σ => thn (evC C σ c) fun k => if k then thn (evE C σ elt) fun y => ret [y] else ret []
      | none => bad) xs) fun ys => if okSize ys.length then ret ys else bad)
  | .comp2 own own1 elt tg it c tg1 it1 c1 => thn (evIt C ρ it) fun xs => calm (thn (loopC (fun x => match setTg tg x (wipeE ρ own) with
      | some σ => thn (evC C σ c) fun k => if k then thn (evIt C σ it1) fun zs => loopC (fun z => match setTg tg1 z (wipeE σ own1) with
          | some τ => thn (evC C τ c1) fun k => if k then thn (evE C τ elt) fun y => ret [y] else ret []
          | none => bad) zs else ret []
      | none => bad) xs) fun ys => if okSize ys.length then ret ys else bad)
  | .listOf a => thn (evE C ρ a) fun x => fun st => ofO (seqOf (view st x)) st
  | .rep n k => thn (evN C ρ n) fun xs => thn (evE C ρ k) (repL xs)
  | .cat a b => thn (evE C ρ a) fun x => thn (evE C ρ b) fun y => fun st => ofO (catD (view st x) (view st y)) st
def evIt (C : Cfg) (ρ : Env) : It → M (List D)
  | .val a => thn (evE C ρ a) fun x => ofO (walkD x)
  | .rng1 a => thn (evE C ρ a) fun x => match x with
    | .int i => if okRng i then ret (rngUp 0 i.toNat) else bad
    | _ => bad
  | .rng2 a b => thn (evE C ρ a) fun x => thn (evE C ρ b) fun y => match x, y with
    | .int i, .int j => if okRng i && okRng j then ret (rngUp i (j - i).toNat) else bad
    | _, _ => bad
  | .enum a => thn (evE C ρ a) fun x => thn (ofO (seqOf x)) fun xs => ret (numUp 0 xs)
  | .zip a b => thn (evE C ρ a) fun x => thn (evE C ρ b) fun y => ofO (zipD x y)
end

inductive Flow where
  | next (ρ : Env)
  | ret (d : D)
  | brk (ρ : Env)
def forL (f : D → Env → M Flow) : List D → Env → M Flow
  | [], ρ => M.ret (.next ρ)
  | x :: xs, ρ => thn (f x ρ) fun fl => match fl with
    | .next ρ => forL f xs ρ
    | .ret d => M.ret (.ret d)
    | .brk ρ => M.ret (.next ρ)
def whlL (c : Env → M Bool) (f : Env → M Flow) : Nat → Env → M Flow
  | 0, _ => bad
  | n + 1, ρ => thn (c ρ) fun k => if k then thn (f ρ) fun fl => match fl with
    | .next ρ => whlL c f n ρ
    | .ret d => M.ret (.ret d)
    | .brk ρ => M.ret (.next ρ) else M.ret (.next ρ)
/-- a list's place is written: what stood below a frame's base takes plain data alone -/
def setCell (C : Cfg) (l : Nat) (c : Cell) (d : D) : M Unit := fun st =>
  if decide (C.base ≤ l) || d.plain then .ok () (st.set l c) else .bad
def setIx (C : Cfg) (o i d : D) : M Unit := match o, i with
  | .ref l, .int k => fun st => match st[l]? with
    | some (.lst xs) => if decide (0 ≤ k ∧ k < xs.length) then setCell C l (.lst (xs.set k.toNat d)) d st else .bad
    | _ => .bad
  | _, _ => bad
def putT (C : Cfg) (ρ : Env) (d : D) : T → M Env
  | .name i => M.ret (ρ.set i (some d))
  | .tg t => ofO (setTg t d ρ)
  | .idx o i => thn (evE C ρ o) fun x => thn (evE C ρ i) fun y => thn (setIx C x y d) fun _ => M.ret ρ
def setMany (ρ : Env) : List Nat → List D → Option Env
  | [], [] => some ρ
  | i :: is, d :: ds => setMany (ρ.set i (some d)) is ds
  | _, _ => none
/-- a mutable list stands here -/
def lstAt (o : D) : M Unit := fun st => match o with
  | .ref l => match st[l]? with
    | some (.lst _) => .ok () st
    | _ => .bad
  | _ => .bad
def appD (C : Cfg) (o d : D) : M Unit := match o with
  | .ref l => fun st => match st[l]? with
    | some (.lst xs) => if okSize (xs.length + 1) then setCell C l (.lst (xs ++ [d])) d st else .bad
    | _ => .bad
  | _ => bad
/-- a mutable list, lengthened by another -/
def extD (C : Cfg) (x y : D) : M Unit := fun st => match x, y with
  | .ref l, .ref k => match st[l]?, st[k]? with
    | some (.lst xs), some (.lst ys) => if okSize (xs.length + ys.length) && (decide (C.base ≤ l) || D.plains ys) then .ok () (st.set l (.lst (xs ++ ys))) else .bad
    | _, _ => .bad
  | _, _ => .bad
/-- which of the tests takes an error -/
def catchD (exm : Nat → Nat → Option Bool) (c : Nat) : List (Nat × D) → D → Option D
  | [], d => some d
  | (k, d') :: r, d => match exm c k with
    | some true => some d'
    | some false => catchD exm c r d
    | none => none
mutual
def exS (C : Cfg) (ρ : Env) : S → M Flow
  | .expr e => thn (evE C ρ e) fun _ => M.ret (.next ρ)
  | .asg t e => thn (evE C ρ e) fun d => thn (putT C ρ d t) fun ρ => M.ret (.next ρ)
  | .par ts es => thn (evEs C ρ es) fun ds => match setMany ρ ts ds with
    | some ρ => M.ret (.next ρ)
    | none => bad
  | .augn op i e => thn (getE ρ i) fun x => thn (evE C ρ e) fun y => match x, y with
    | .int _, .int _ => thn (ofO (binD op x y)) fun z => M.ret (.next (ρ.set i (some z)))
    | _, _ => bad
  | .app o e => thn (evE C ρ o) fun x => thn (lstAt x) fun _ => thn (evE C ρ e) fun y => thn (appD C x y) fun _ => M.ret (.next ρ)
  | .ret e => thn (evE C ρ e) fun d => M.ret (.ret d)
  | .retN => M.ret (.ret .non)
  | .pass => M.ret (.next ρ)
  | .brk => M.ret (.brk ρ)
  | .iff c a b => thn (thn (evE C ρ c) asB) fun k => if k then exSs C ρ a else exSs C ρ b
  | .for t it b => thn (evIt C ρ it) fun xs => forL (fun x ρ => match setTg t x ρ with
    | some ρ => exSs C ρ b
    | none => bad) xs ρ
  | .whl c b => whlL (fun ρ => thn (evE C ρ c) asB) (fun ρ => exSs C ρ b) C.fuel ρ
  | .raise c _ => fun st => .exc c st
  | .freeze i => thn (getE ρ i) fun x => fun st => match x with
    | .ref l => match st[l]? with
      | some (.lst xs) => .ok (.next (ρ.set i (some (.lst xs)))) (st.set l .dead)
      | some (.dct ks vs) => .ok (.next (ρ.set i (some (.dct ks vs)))) (st.set l .dead)
      | _ => .bad
    | _ => .bad
  | .augl i e => thn (getE ρ i) fun x => thn (evE C ρ e) fun y => thn (extD C x y) fun _ => M.ret (.next (ρ.set i (some x)))
  | .tryA _ b hall cs d => fun st => match exSs C ρ b st with
    | .exc c st' => (match C.exm c hall with
      | some true => (match catchD C.exm c cs d with
        | some d' => .ok (.ret d') st'
        | none => .bad)
      | some false => .exc c st'
      | none => .bad)
    | r => r
def exSs (C : Cfg) (ρ : Env) : Ss → M Flow
  | .nil => M.ret (.next ρ)
  | .cons s ss => thn (exS C ρ s) fun fl => match fl with
    | .next ρ => exSs C ρ ss
    | fl => M.ret fl
end

def Cell.plain : Cell → Bool
  | .dead => true
  | .lst xs => D.plains xs
  | .dct ks vs => D.plains ks && D.plains vs
/-- a frame is left: what it made is let go, but a result -/
def leave (n : Nat) (d : D) : M D := fun st =>
  if st.length = n then .ok d st else
  if d.plain then .ok d (st.take n) else
  match d with
  | .ref l => if l < n then .ok d (st.take n) else match st[l]? with
    | some c => if c.plain then .ok (.ref n) (st.take n ++ [c]) else .bad
    | none => .bad
  | _ => .bad
def runF (call : Nat → List D → M D) (fuel : Nat) (exm : Nat → Nat → Option Bool) (F : Fn) (args : List D) : M D := fun st =>
  if args.length = F.ps.length then
    match exSs ⟨call, st.length, fuel, exm⟩ (args.map some ++ List.replicate (F.slots.length - args.length) none) F.body st with
    | .ok (.ret d) st' => leave st.length d st'
    | .ok (.next _) st' => leave st.length .non st'
    | .ok (.brk _) _ => .bad
    | .exc c st' => .exc c (st'.take st.length)
    | .bad => .bad
  else .bad
abbrev Prog := List (Nat × Fn)
def Prog.find : Prog → Nat → Option Fn
  | [], _ => none
  | (m, F) :: r, n => if m = n then some F else Prog.find r n
def callN (P : Prog) (fuel : Nat) (exm : Nat → Nat → Option Bool) : Nat → Nat → List D → M D
  | 0, _, _ => bad
  | n + 1, f, args => match P.find f with
    | some F => runF (callN P fuel exm n) fuel exm F args
    | none => bad
end Ev
set_option linter.all false
set_option maxRecDepth 100000
/-! Ev1: how values of the small language lie in the abstract heap. -/
namespace Ev
open PySem PySem.Spec PyProof.Rows L2

/-- error classes by their numbers, and the tables of code objects -/
structure Ecl where
  on : Nat → Addr → Prop
  tb : List (Addr × Str)
instance : CoeFun Ecl fun _ => Nat → Addr → Prop := ⟨Ecl.on⟩
/-- what is fixed: the written part, the addresses of functions and of error classes -/
structure Gd where
  K : PySem.W.Frag
  fa : Nat → Addr → Prop
  ec : Ecl
  /-- lists that are being made: nobody else has them -/
  ex : List Addr

/-- live places -/
def Lv (G : Gd) (m : List Addr) (st : Store) (a : Addr) : Prop := (∃ (l : Nat) (xs : List D), st[l]? = some (.lst xs) ∧ m[l]? = some a) ∨ a ∈ G.ex
/-- no table of code objects -/
def NT (o : HO) : Prop := ∀ ps, o ≠ .tbl ps
/-- what never changes -/
def Fz (H : Hp) (L : Addr → Prop) (a : Addr) : Prop := (∃ o, H a = some o ∧ NT o) ∧ ¬ L a
theorem Fz.there {H : Hp} {L : Addr → Prop} {a : Addr} (h : Fz H L a) : ∃ o, H a = some o := let ⟨⟨o, e, _⟩, _⟩ := h; ⟨o, e⟩
theorem nt_lst (xs : List V) : NT (.lst xs) := fun ps => by simp
theorem nt_tup (xs : List V) : NT (.tup xs) := fun ps => by simp
def SqLF (K : PySem.W.Frag) (H : Hp) (L : Addr → Prop) (a : Addr) (xs : List V) : Prop := (Fz H L a ∧ SqL K H a xs) ∨ ∀ H', SqL K H' a xs
def SqTF (K : PySem.W.Frag) (H : Hp) (L : Addr → Prop) (a : Addr) (xs : List V) : Prop := (Fz H L a ∧ SqT K H a xs) ∨ ∀ H', SqT K H' a xs
theorem SqLF.now {K : PySem.W.Frag} {H : Hp} {L : Addr → Prop} {a : Addr} {xs : List V} (h : SqLF K H L a xs) : SqL K H a xs := h.elim (·.2) (· H)
theorem SqTF.now {K : PySem.W.Frag} {H : Hp} {L : Addr → Prop} {a : Addr} {xs : List V} (h : SqTF K H L a xs) : SqT K H a xs := h.elim (·.2) (· H)

mutual
inductive Rp (G : Gd) (H : Hp) (m : List Addr) (L : Addr → Prop) : V → D → Prop
  | non : Rp G H m L .non .non
  | bl (b : Bool) : Rp G H m L (.bl b) (.bl b)
  | int (i : Int) : Rp G H m L (.int i) (.int i)
  | str (s : Str) : Rp G H m L (.str s) (.str s)
  | tup {a : Addr} {xs : List V} {ds : List D} : SqTF G.K H L a xs → RpAll G H m L xs ds → Rp G H m L (.ref a) (.tup ds)
  | lst {a : Addr} {xs : List V} {ds : List D} : SqLF G.K H L a xs → RpAll G H m L xs ds → Rp G H m L (.ref a) (.lst ds)
  | ref {a : Addr} {l : Nat} : m[l]? = some a → Rp G H m L (.ref a) (.ref l)
  | fn {a : Addr} {f : Nat} : G.fa f a → Rp G H m L (.ref a) (.fn f)
inductive RpAll (G : Gd) (H : Hp) (m : List Addr) (L : Addr → Prop) : List V → List D → Prop
  | nil : RpAll G H m L [] []
  | cons {v : V} {vs : List V} {d : D} {ds : List D} : Rp G H m L v d → RpAll G H m L vs ds → RpAll G H m L (v :: vs) (d :: ds)
end

mutual
/-- refs below n -/
def D.low (n : Nat) : D → Bool
  | .tup xs => D.lows n xs
  | .lst xs => D.lows n xs
  | .dct ks vs => D.lows n ks && D.lows n vs
  | .ref l => decide (l < n)
  | _ => true
def D.lows (n : Nat) : List D → Bool
  | [] => true
  | x :: xs => D.low n x && D.lows n xs
end
def Cell.low (n : Nat) : Cell → Bool
  | .dead => true
  | .lst xs => D.lows n xs
  | .dct ks vs => D.lows n ks && D.lows n vs
mutual
theorem D.low_plain (n : Nat) : ∀ d : D, d.plain = true → d.low n = true
  | .non, _ => rfl
  | .bl _, _ => rfl
  | .int _, _ => rfl
  | .str _, _ => rfl
  | .tup xs, h => by rw [D.low]; exact D.lows_plain n xs (by simpa [D.plain] using h)
  | .lst xs, h => by rw [D.low]; exact D.lows_plain n xs (by simpa [D.plain] using h)
  | .dct ks vs, h => by
    have h' : D.plains ks = true ∧ D.plains vs = true := by simpa [D.plain] using h
    rw [D.low, D.lows_plain n ks h'.1, D.lows_plain n vs h'.2]; rfl
  | .ref _, h => by simp [D.plain] at h
  | .fn _, _ => rfl
theorem D.lows_plain (n : Nat) : ∀ xs : List D, D.plains xs = true → D.lows n xs = true
  | [], _ => rfl
  | x :: xs, h => by
    have h' : D.plain x = true ∧ D.plains xs = true := by simpa [D.plains] using h
    rw [D.lows, D.low_plain n x h'.1, D.lows_plain n xs h'.2]; rfl
end
theorem D.lows_append (n : Nat) : ∀ xs ys : List D, D.lows n (xs ++ ys) = (D.lows n xs && D.lows n ys)
  | [], ys => by simp [D.lows]
  | x :: xs, ys => by simp [D.lows, D.lows_append n xs ys, Bool.and_assoc]
theorem D.lows_set (n : Nat) (d : D) (hd : d.low n = true) : ∀ (xs : List D) (i : Nat), D.lows n xs = true → D.lows n (xs.set i d) = true
  | [], _, h => h
  | x :: xs, 0, h => by
    have h' : D.low n x = true ∧ D.lows n xs = true := by simpa [D.lows] using h
    simp [D.lows, hd, h'.2]
  | x :: xs, i + 1, h => by
    have h' : D.low n x = true ∧ D.lows n xs = true := by simpa [D.lows] using h
    simp [D.lows, h'.1, D.lows_set n d hd xs i h'.2]

section
variable {G : Gd} {H H' : Hp} {m m' : List Addr} {L L' : Addr → Prop}
mutual
theorem Rp.mono (hk : ∀ a, Fz H L a → H' a = H a ∧ ¬ L' a) (hm : ∀ (l : Nat) (a : Addr), m[l]? = some a → m'[l]? = some a) : ∀ {v : V} {d : D}, Rp G H m L v d → Rp G H' m' L' v d
  | _, _, .non => .non
  | _, _, .bl b => .bl b
  | _, _, .int i => .int i
  | _, _, .str s => .str s
  | _, _, .tup h hs => .tup (h.elim (fun ⟨f, q⟩ => .inl ⟨⟨by rw [(hk _ f).1]; exact f.1, (hk _ f).2⟩, by
      have e := (hk _ f).1
      rcases q with q | q
      · exact .inl (by unfold Rd at q ⊢; rw [e]; exact q)
      · exact .inr q⟩) .inr) (RpAll.mono hk hm hs)
  | _, _, .lst h hs => .lst (h.elim (fun ⟨f, q⟩ => .inl ⟨⟨by rw [(hk _ f).1]; exact f.1, (hk _ f).2⟩, by
      have e := (hk _ f).1
      rcases q with q | q
      · exact .inl (by unfold Rd at q ⊢; rw [e]; exact q)
      · exact .inr q⟩) .inr) (RpAll.mono hk hm hs)
  | _, _, .ref h => .ref (hm _ _ h)
  | _, _, .fn h => .fn h
theorem RpAll.mono (hk : ∀ a, Fz H L a → H' a = H a ∧ ¬ L' a) (hm : ∀ (l : Nat) (a : Addr), m[l]? = some a → m'[l]? = some a) : ∀ {vs : List V} {ds : List D}, RpAll G H m L vs ds → RpAll G H' m' L' vs ds
  | _, _, .nil => .nil
  | _, _, .cons h hs => .cons (Rp.mono hk hm h) (RpAll.mono hk hm hs)
end
mutual
/-- places below n: of a shorter map -/
theorem Rp.cut {n : Nat} : ∀ {v : V} {d : D}, d.low n = true → Rp G H m L v d → Rp G H (m.take n) L v d
  | _, _, _, .non => .non
  | _, _, _, .bl b => .bl b
  | _, _, _, .int i => .int i
  | _, _, _, .str s => .str s
  | _, _, hb, .tup h hs => .tup h (RpAll.cut (by simpa [D.low] using hb) hs)
  | _, _, hb, .lst h hs => .lst h (RpAll.cut (by simpa [D.low] using hb) hs)
  | _, _, hb, .ref h => .ref (by
      have hb' := of_decide_eq_true (show decide _ = true from hb)
      rw [List.getElem?_take, if_pos hb']; exact h)
  | _, _, _, .fn h => .fn h
theorem RpAll.cut {n : Nat} : ∀ {vs : List V} {ds : List D}, D.lows n ds = true → RpAll G H m L vs ds → RpAll G H (m.take n) L vs ds
  | _, _, _, .nil => .nil
  | _, _, hb, .cons h hs => by
    have hb' := Bool.and_eq_true_iff.mp (show (D.low n _ && D.lows n _) = true from hb)
    exact .cons (Rp.cut hb'.1 h) (RpAll.cut hb'.2 hs)
end
mutual
theorem Rp.low : ∀ {v : V} {d : D}, Rp G H m L v d → d.low m.length = true
  | _, _, .non => rfl
  | _, _, .bl b => rfl
  | _, _, .int i => rfl
  | _, _, .str s => rfl
  | _, _, .tup h hs => by rw [D.low]; exact RpAll.low hs
  | _, _, .lst h hs => by rw [D.low]; exact RpAll.low hs
  | _, _, .ref h => decide_eq_true (List.getElem?_eq_some_iff.mp h).1
  | _, _, .fn h => rfl
theorem RpAll.low : ∀ {vs : List V} {ds : List D}, RpAll G H m L vs ds → D.lows m.length ds = true
  | _, _, .nil => rfl
  | _, _, .cons h hs => by rw [D.lows, Rp.low h, RpAll.low hs]; rfl
end
theorem RpAll.length : ∀ {vs : List V} {ds : List D}, RpAll G H m L vs ds → vs.length = ds.length
  | _, _, .nil => rfl
  | _, _, .cons _ hs => by simp [RpAll.length hs]
theorem RpAll.append : ∀ {vs ws : List V} {ds es : List D}, RpAll G H m L vs ds → RpAll G H m L ws es → RpAll G H m L (vs ++ ws) (ds ++ es)
  | _, _, _, _, .nil, h => h
  | _, _, _, _, .cons h hs, h' => .cons h (RpAll.append hs h')
theorem RpAll.get : ∀ {vs : List V} {ds : List D} {i : Nat} {d : D}, RpAll G H m L vs ds → ds[i]? = some d → ∃ v, vs[i]? = some v ∧ Rp G H m L v d
  | _, _, _, _, .nil, e => by simp at e
  | _, _, 0, _, .cons h _, e => by simp at e; subst e; exact ⟨_, rfl, h⟩
  | _, _, i + 1, d, .cons _ hs, e => by
    obtain ⟨v, h1, h2⟩ := RpAll.get (i := i) (d := d) hs (by simpa using e)
    exact ⟨v, by simpa using h1, h2⟩
theorem RpAll.set {v : V} {d : D} (h : Rp G H m L v d) : ∀ {vs : List V} {ds : List D} (i : Nat), RpAll G H m L vs ds → RpAll G H m L (vs.set i v) (ds.set i d)
  | _, _, _, .nil => .nil
  | _, _, 0, .cons _ hs => .cons h hs
  | _, _, i + 1, .cons h' hs => .cons h' (RpAll.set h i hs)
theorem RpAll.take : ∀ {vs : List V} {ds : List D} (n : Nat), RpAll G H m L vs ds → RpAll G H m L (vs.take n) (ds.take n)
  | _, _, 0, _ => by simp; exact .nil
  | _, _, _ + 1, .nil => .nil
  | _, _, n + 1, .cons h hs => .cons h (RpAll.take n hs)
theorem RpAll.drop : ∀ {vs : List V} {ds : List D} (n : Nat), RpAll G H m L vs ds → RpAll G H m L (vs.drop n) (ds.drop n)
  | _, _, 0, h => h
  | _, _, _ + 1, .nil => .nil
  | _, _, n + 1, .cons _ hs => RpAll.drop n hs
end

/-- what a cell holds -/
def CellR (G : Gd) (H : Hp) (m : List Addr) (L : Addr → Prop) (a : Addr) : Cell → Prop
  | .dead => True
  | .lst ds => ∃ xs, H a = some (.lst xs) ∧ RpAll G H m L xs ds
  | .dct _ _ => False
structure Sim (G : Gd) (H : Hp) (m : List Addr) (st : Store) : Prop where
  len : m.length = st.length
  nd : m.Nodup
  dom : ∀ a ∈ m, ∃ o, H a = some o
  cell : ∀ (l : Nat) (c : Cell) (a : Addr), st[l]? = some c → m[l]? = some a → CellR G H m (Lv G m st) a c
  res : ∀ a ∈ G.ex, (∃ o, H a = some o) ∧ a ∉ m
  nt : ∀ a, a ∈ m ∨ a ∈ G.ex → ∃ xs, H a = some (.lst xs)
  tab : LamX.Tabs G.ec.tb H
/-- tables stay tables, where all but lists stay -/
theorem tabs_of {T : List (Addr × Str)} {H H' : Hp} (t : LamX.Tabs T H) (e : ∀ b o, H b = some o → (∀ xs, o ≠ .lst xs) → H' b = some o) : LamX.Tabs T H' := fun p hp => by
  obtain ⟨ps, h1, h2, h3⟩ := t p hp
  refine ⟨ps, e _ _ h1 (fun xs => by simp), h2, fun pos cv hc => ?_⟩
  obtain ⟨c, e1, e2⟩ := h3 pos cv hc
  exact ⟨c, e1, e _ _ e2 fun xs z => by
    unfold LamX.CodeO at z
    cases z⟩
theorem tabs_new {T : List (Addr × Str)} {H : Hp} {p : Addr} {o : HO} (t : LamX.Tabs T H) (hp : H p = none) : LamX.Tabs T (upd H p o) := tabs_of t fun b u e _ => by
  have n : b ≠ p := fun z => by rw [z, hp] at e; cases e
  rw [upd_ne n]; exact e
theorem tabs_wr {T : List (Addr × Str)} {H : Hp} {p : Addr} {o : HO} {xs : List V} (t : LamX.Tabs T H) (hp : H p = some (.lst xs)) : LamX.Tabs T (upd H p o) := tabs_of t fun b u e n => by
  have n : b ≠ p := fun z => by rw [z, hp] at e; cases e; exact n xs rfl
  rw [upd_ne n]; exact e
structure Ext (G : Gd) (b : Nat) (H : Hp) (m : List Addr) (st : Store) (H' : Hp) (m' : List Addr) (st' : Store) : Prop where
  keep : ∀ a, Fz H (Lv G m st) a → H' a = H a ∧ ¬ Lv G m' st' a
  pre : ∀ (l : Nat) (a : Addr), m[l]? = some a → m'[l]? = some a
  res : ∀ a ∈ G.ex, H' a = H a
  low : ∀ (l n : Nat) (c c' : Cell), l < b → st[l]? = some c → st'[l]? = some c' → c.low n = true → c'.low n = true
structure EnvR (G : Gd) (H : Hp) (m : List Addr) (st : Store) (σ : List (Option V)) (ρ : Env) : Prop where
  len : σ.length = ρ.length
  at_ : ∀ (i : Nat) (d : D), ρ[i]? = some (some d) → ∃ v, σ[i]? = some (some v) ∧ Rp G H m (Lv G m st) v d

section
variable {G : Gd} {b : Nat} {H H' H'' : Hp} {m m' m'' : List Addr} {st st' st'' : Store} {σ : List (Option V)} {ρ : Env}
theorem Rp.ext {v : V} {d : D} (e : Ext G b H m st H' m' st') (h : Rp G H m (Lv G m st) v d) : Rp G H' m' (Lv G m' st') v d := h.mono e.keep e.pre
theorem RpAll.ext {vs : List V} {ds : List D} (e : Ext G b H m st H' m' st') (h : RpAll G H m (Lv G m st) vs ds) : RpAll G H' m' (Lv G m' st') vs ds := h.mono e.keep e.pre
theorem EnvR.ext (e : Ext G b H m st H' m' st') (h : EnvR G H m st σ ρ) : EnvR G H' m' st' σ ρ :=
  ⟨h.len, fun i d q => let ⟨v, h1, h2⟩ := h.at_ i d q; ⟨v, h1, h2.ext e⟩⟩
theorem Ext.refl : Ext G b H m st H m st := ⟨fun _ f => ⟨rfl, f.2⟩, fun _ _ h => h, fun _ _ => rfl, fun l n c c' _ h1 h2 h3 => by rw [h1] at h2; cases h2; exact h3⟩
theorem Fz.ext {a : Addr} (e : Ext G b H m st H' m' st') (f : Fz H (Lv G m st) a) : Fz H' (Lv G m' st') a := ⟨by rw [(e.keep a f).1]; exact f.1, (e.keep a f).2⟩
theorem Ext.trans (hl : st.length ≤ st'.length) (e : Ext G b H m st H' m' st') (e' : Ext G b H' m' st' H'' m'' st'') : Ext G b H m st H'' m'' st'' :=
  ⟨fun a f => ⟨((e'.keep a (f.ext e)).1).trans (e.keep a f).1, (e'.keep a (f.ext e)).2⟩, fun l a h => e'.pre l a (e.pre l a h), fun a h => (e'.res a h).trans (e.res a h), fun l n c c'' hb h1 h2 h3 => by
    have hl' : l < st'.length := Nat.lt_of_lt_of_le (List.getElem?_eq_some_iff.mp h1).1 hl
    exact e'.low l n st'[l] c'' hb (List.getElem?_eq_getElem hl') h2 (e.low l n c _ hb h1 (List.getElem?_eq_getElem hl') h3)⟩
theorem Ext.length (s : Sim G H m st) (s' : Sim G H' m' st') (e : Ext G b H m st H' m' st') : st.length ≤ st'.length := by
  rw [← s.len, ← s'.len]
  cases q : m.length with
  | zero => exact Nat.zero_le _
  | succ k =>
    have hk : k < m.length := by omega
    have h := e.pre k m[k] (List.getElem?_eq_getElem hk)
    exact (List.getElem?_eq_some_iff.mp h).1
theorem Ext.base {b' : Nat} (hb : b' ≤ b) (e : Ext G b H m st H' m' st') : Ext G b' H m st H' m' st' := ⟨e.keep, e.pre, e.res, fun l n c c' h => e.low l n c c' (Nat.lt_of_lt_of_le h hb)⟩
theorem Sim.live_dom (s : Sim G H m st) {a : Addr} (h : Lv G m st a) : ∃ o, H a = some o := by
  rcases h with ⟨l, ds, h1, h2⟩ | h
  · obtain ⟨xs, h3, _⟩ := s.cell l _ a h1 h2
    exact ⟨_, h3⟩
  · exact (s.res a h).1
theorem Sim.addr (s : Sim G H m st) {l : Nat} {c : Cell} (h : st[l]? = some c) : ∃ a, m[l]? = some a := by
  have : l < m.length := by rw [s.len]; exact (List.getElem?_eq_some_iff.mp h).1
  exact ⟨m[l], List.getElem?_eq_getElem this⟩

/-- a new object, frozen -/
theorem Sim.new (s : Sim G H m st) {p : Addr} (hp : H p = none) (o : HO) (ho : NT o := by intro ps; simp) : Sim G (upd H p o) m st ∧ Ext G b H m st (upd H p o) m st ∧ Fz (upd H p o) (Lv G m st) p := by
  have ne : ∀ a, (∃ u, H a = some u) → a ≠ p := fun a ⟨u, h⟩ => ne_of_none h hp
  have nl : ¬ Lv G m st p := fun h => by
    obtain ⟨xs, e⟩ := s.live_dom h
    rw [hp] at e; cases e
  have E : Ext G b H m st (upd H p o) m st := ⟨fun a f => ⟨upd_ne (ne a f.there), f.2⟩, fun _ _ h => h, fun a h => upd_ne (ne a (s.res a h).1), fun l n c c' _ h1 h2 h3 => by rw [h1] at h2; cases h2; exact h3⟩
  refine ⟨⟨s.len, s.nd, fun a h => ?_, fun l c a h1 h2 => ?_, fun a h => ⟨by rw [upd_ne (ne a (s.res a h).1)]; exact (s.res a h).1, (s.res a h).2⟩, fun a h => by
    rw [upd_ne (ne a (h.elim (s.dom a) fun h => (s.res a h).1))]; exact s.nt a h, tabs_new s.tab hp⟩, E, ⟨⟨o, upd_same, ho⟩, nl⟩⟩
  · rw [upd_ne (ne a (s.dom a h))]; exact s.dom a h
  · have h := s.cell l c a h1 h2
    cases c with
    | dead => trivial
    | lst ds =>
      obtain ⟨xs, e, r⟩ := h
      exact ⟨xs, by rw [upd_ne (ne a ⟨_, e⟩)]; exact e, r.ext E⟩
    | dct _ _ => exact h
theorem nodup_snoc {α : Type} {l : List α} {x : α} (h : l.Nodup) (hx : x ∉ l) : (l ++ [x]).Nodup := by
  rw [List.nodup_append]
  exact ⟨h, by simp, fun a ha c hc e => by simp at hc; subst hc; subst e; exact hx ha⟩
/-- a new mutable list -/
theorem Sim.alloc (s : Sim G H m st) {p : Addr} (hp : H p = none) {xs : List V} {ds : List D} (r : RpAll G H m (Lv G m st) xs ds) :
    Sim G (upd H p (.lst xs)) (m ++ [p]) (st ++ [.lst ds]) ∧ Ext G b H m st (upd H p (.lst xs)) (m ++ [p]) (st ++ [.lst ds]) := by
  have ne : ∀ a, (∃ u, H a = some u) → a ≠ p := fun a ⟨u, h⟩ => ne_of_none h hp
  have lv : ∀ a, Lv G (m ++ [p]) (st ++ [.lst ds]) a → Lv G m st a ∨ a = p := fun a h => by
    rcases h with ⟨l, zs, h1, h2⟩ | h
    case inr => exact .inl (.inr h)
    by_cases hl : l < st.length
    · exact .inl <| .inl ⟨l, zs, by rw [List.getElem?_append_left hl] at h1; exact h1, by rw [List.getElem?_append_left (by rw [s.len]; exact hl)] at h2; exact h2⟩
    · right
      have hl' : m.length ≤ l := by rw [s.len]; omega
      rw [List.getElem?_append_right hl'] at h2
      cases q : l - m.length with
      | zero => rw [q] at h2; simp at h2; exact h2.symm
      | succ k => rw [q] at h2; simp at h2
  have E : Ext G b H m st (upd H p (.lst xs)) (m ++ [p]) (st ++ [.lst ds]) := by
    refine ⟨fun a f => ⟨upd_ne (ne a f.there), fun h => (lv a h).elim f.2 fun e => ne a f.there e⟩, fun l a h => ?_, fun a h => upd_ne (ne a (s.res a h).1), fun l n c c' _ h1 h2 h3 => ?_⟩
    · rw [List.getElem?_append_left (List.getElem?_eq_some_iff.mp h).1]; exact h
    · rw [List.getElem?_append_left (List.getElem?_eq_some_iff.mp h1).1, h1] at h2; cases h2; exact h3
  refine ⟨⟨by simp [s.len], nodup_snoc s.nd fun h => ?_, fun a h => ?_, fun l c a h1 h2 => ?_, fun a h => ⟨by rw [upd_ne (ne a (s.res a h).1)]; exact (s.res a h).1, fun q => (List.mem_append.mp q).elim (s.res a h).2 fun q => ne a (s.res a h).1 (by simpa using q)⟩, fun a h => ?_, tabs_new s.tab hp⟩, E⟩
  · obtain ⟨o, e⟩ := s.dom p h
    rw [hp] at e; cases e
  · rcases List.mem_append.mp h with h | h
    · rw [upd_ne (ne a (s.dom a h))]; exact s.dom a h
    · simp at h; subst h; exact ⟨_, upd_same⟩
  · by_cases hl : l < st.length
    · rw [List.getElem?_append_left hl] at h1
      rw [List.getElem?_append_left (by rw [s.len]; exact hl)] at h2
      have h := s.cell l c a h1 h2
      cases c with
      | dead => trivial
      | lst zs =>
        obtain ⟨ys, e, r'⟩ := h
        exact ⟨ys, by rw [upd_ne (ne a ⟨_, e⟩)]; exact e, r'.ext E⟩
      | dct _ _ => exact h
    · have hl' : m.length ≤ l := by rw [s.len]; omega
      rw [List.getElem?_append_right (by omega)] at h1
      rw [List.getElem?_append_right hl'] at h2
      rw [s.len] at h2
      cases q : l - st.length with
      | zero =>
        rw [q] at h1 h2
        simp at h1 h2
        subst h1; subst h2
        exact ⟨xs, upd_same, r.ext E⟩
      | succ k => rw [q] at h1; simp at h1
  · by_cases e : a = p
    · rw [e, upd_same]; exact ⟨_, rfl⟩
    · rw [upd_ne e]
      refine s.nt a (h.imp (fun h => ?_) id)
      rcases List.mem_append.mp h with h | h
      · exact h
      · exact absurd (by simpa using h) e
/-- a mutable list is written -/
theorem Sim.write (s : Sim G H m st) {l : Nat} {a : Addr} {ds es : List D} {ys : List V} (h1 : st[l]? = some (.lst ds)) (h2 : m[l]? = some a) (r : RpAll G H m (Lv G m st) ys es)
    (hb : l < b → ∀ n, D.lows n ds = true → D.lows n es = true) :
    Sim G (upd H a (.lst ys)) m (st.set l (.lst es)) ∧ Ext G b H m st (upd H a (.lst ys)) m (st.set l (.lst es)) := by
  have hl : l < st.length := (List.getElem?_eq_some_iff.mp h1).1
  have lv : ∀ c, Lv G m (st.set l (.lst es)) c → Lv G m st c := fun c h => by
    rcases h with ⟨k, zs, g1, g2⟩ | h
    case inr => exact .inr h
    by_cases e : k = l
    · subst e; exact .inl ⟨k, ds, h1, g2⟩
    · rw [List.getElem?_set_ne (Ne.symm e)] at g1; exact .inl ⟨k, zs, g1, g2⟩
  have vl : Lv G m st a := .inl ⟨l, ds, h1, h2⟩
  have am : a ∈ m := List.mem_of_getElem? h2
  have E : Ext G b H m st (upd H a (.lst ys)) m (st.set l (.lst es)) := by
    refine ⟨fun c f => ⟨upd_ne fun e => f.2 (e ▸ vl), fun h => f.2 (lv c h)⟩, fun _ _ h => h, fun c h => upd_ne fun e => (s.res c h).2 (e ▸ am), fun k n c c' hk g1 g2 g3 => ?_⟩
    by_cases e : k = l
    · subst e
      rw [List.getElem?_set_self hl] at g2
      cases g2
      rw [h1] at g1; cases g1
      exact hb hk n g3
    · rw [List.getElem?_set_ne (Ne.symm e), g1] at g2; cases g2; exact g3
  refine ⟨⟨by rw [List.length_set]; exact s.len, s.nd, fun c h => ?_, fun k c a' g1 g2 => ?_, fun c h => ⟨by
    have nc : c ≠ a := fun e => (s.res c h).2 (by rw [e]; exact am)
    rw [upd_ne nc]; exact (s.res c h).1, (s.res c h).2⟩, fun c h => by
    by_cases e : c = a
    · rw [e, upd_same]; exact ⟨_, rfl⟩
    · rw [upd_ne e]; exact s.nt c h, by
    obtain ⟨xs, e, _⟩ := s.cell l _ a h1 h2
    exact tabs_wr s.tab e⟩, E⟩
  · by_cases e : c = a
    · subst e; exact ⟨_, upd_same⟩
    · rw [upd_ne e]; exact s.dom c h
  · by_cases e : k = l
    · subst e
      rw [List.getElem?_set_self hl] at g1
      cases g1
      rw [h2] at g2; cases g2
      exact ⟨ys, upd_same, r.ext E⟩
    · rw [List.getElem?_set_ne (Ne.symm e)] at g1
      have h := s.cell k c a' g1 g2
      have na : a' ≠ a := fun q => by
        subst q
        obtain ⟨i1, e1⟩ := List.getElem?_eq_some_iff.mp g2
        obtain ⟨i2, e2⟩ := List.getElem?_eq_some_iff.mp h2
        exact e ((List.getElem_inj s.nd).mp (e1.trans e2.symm))
      cases c with
      | dead => trivial
      | lst zs =>
        obtain ⟨ws, e', r'⟩ := h
        exact ⟨ws, by rw [upd_ne na]; exact e', r'.ext E⟩
      | dct _ _ => exact h
/-- a mutable list is frozen -/
theorem Sim.freeze (s : Sim G H m st) {l : Nat} {a : Addr} {ds : List D} (h1 : st[l]? = some (.lst ds)) (h2 : m[l]? = some a) :
    Sim G H m (st.set l .dead) ∧ Ext G b H m st H m (st.set l .dead) ∧ Rp G H m (Lv G m (st.set l .dead)) (.ref a) (.lst ds) := by
  have hl : l < st.length := (List.getElem?_eq_some_iff.mp h1).1
  have lv : ∀ c, Lv G m (st.set l .dead) c → Lv G m st c ∧ c ≠ a := fun c h => by
    rcases h with ⟨k, zs, g1, g2⟩ | h
    case inr => exact ⟨.inr h, fun e => (s.res c h).2 (e ▸ List.mem_of_getElem? h2)⟩
    by_cases e : k = l
    · subst e; rw [List.getElem?_set_self hl] at g1; cases g1
    · rw [List.getElem?_set_ne (Ne.symm e)] at g1
      refine ⟨.inl ⟨k, zs, g1, g2⟩, fun q => ?_⟩
      subst q
      obtain ⟨i1, e1⟩ := List.getElem?_eq_some_iff.mp g2
      obtain ⟨i2, e2⟩ := List.getElem?_eq_some_iff.mp h2
      exact e ((List.getElem_inj s.nd).mp (e1.trans e2.symm))
  have E : Ext G b H m st H m (st.set l .dead) := by
    refine ⟨fun c f => ⟨rfl, fun h => f.2 (lv c h).1⟩, fun _ _ h => h, fun _ _ => rfl, fun k n c c' hk g1 g2 g3 => ?_⟩
    by_cases e : k = l
    · subst e; rw [List.getElem?_set_self hl] at g2; cases g2; rfl
    · rw [List.getElem?_set_ne (Ne.symm e), g1] at g2; cases g2; exact g3
  obtain ⟨xs, ex, r⟩ := s.cell l _ a h1 h2
  refine ⟨⟨by rw [List.length_set]; exact s.len, s.nd, s.dom, fun k c a' g1 g2 => ?_, s.res, s.nt, s.tab⟩, E, .lst (.inl ⟨⟨⟨_, ex, nt_lst _⟩, fun h => (lv a h).2 rfl⟩, SqL.of ex⟩) (r.ext E)⟩
  by_cases e : k = l
  · subst e; rw [List.getElem?_set_self hl] at g1; cases g1; trivial
  · rw [List.getElem?_set_ne (Ne.symm e)] at g1
    have h := s.cell k c a' g1 g2
    cases c with
    | dead => trivial
    | lst zs =>
      obtain ⟨ws, e', r'⟩ := h
      exact ⟨ws, e', r'.ext E⟩
    | dct _ _ => exact h
end
end Ev
set_option linter.all false
set_option maxRecDepth 100000
/-! Ev2: operations on values keep what the small language says. -/
namespace Ev
open PySem PySem.Spec PyProof.Rows L2

/-- what must hold behind a run of the small language -/
def After (G : Gd) (b : Nat) (H : Hp) (m : List Addr) (st : Store) (W : Nat → Hp → Prop) {α : Type} (R : Hp → List Addr → Store → α → Prop) : Res α → Prop
  | .ok d st' => ∀ H' m', Sim G H' m' st' → Ext G b H m st H' m' st' → R H' m' st' d
  | .exc c st' => ∀ H' m', Sim G H' m' st' → Ext G b H m st H' m' st' → W c H'
  | .bad => False
section
variable {G : Gd} {b : Nat} {H H' : Hp} {m m' : List Addr} {st st' : Store} {W : Nat → Hp → Prop} {α β : Type} {R : Hp → List Addr → Store → β → Prop}
theorem After.mono {R' : Hp → List Addr → Store → β → Prop} {W' : Nat → Hp → Prop} {r : Res β} (h : After G b H m st W R r) (hr : ∀ H' m' st' d, Sim G H' m' st' → Ext G b H m st H' m' st' → R H' m' st' d → R' H' m' st' d) (hw : ∀ c H', W c H' → W' c H') : After G b H m st W' R' r := by
  cases r with
  | ok d st' => exact fun H' m' s e => hr H' m' st' d s e (h H' m' s e)
  | exc c st' => exact fun H' m' s e => hw _ _ (h H' m' s e)
  | bad => exact h
/-- from a later state -/
theorem After.from {r : Res β} (s : Sim G H m st) (s' : Sim G H' m' st') (e : Ext G b H m st H' m' st') (h : After G b H m st W R r) : After G b H' m' st' W R r := by
  cases r with
  | ok d st'' => exact fun H'' m'' s'' e' => h H'' m'' s'' (e.trans (e.length s s') e')
  | exc c st'' => exact fun H'' m'' s'' e' => h H'' m'' s'' (e.trans (e.length s s') e')
  | bad => exact h
theorem After.thn {x : M α} {f : α → M β} (s : Sim G H m st) (h : After G b H m st W R (M.thn x f st)) :
    After G b H m st W (fun H' m' st' a => After G b H' m' st' W R (f a st')) (x st) := by
  have e : M.thn x f st = (match x st with | .ok a st' => f a st' | .exc c st' => .exc c st' | .bad => .bad) := rfl
  rw [e] at h
  cases q : x st with
  | ok a st' => rw [q] at h; exact fun H' m' s' e => h.from s s' e
  | exc c st' => rw [q] at h; exact h
  | bad => rw [q] at h; exact h
end

/-- an expression's reading by the small language -/
def tE (G : Gd) (b : Nat) (W : WX) (f : Env → M D) : TE := fun σ H Q => ∃ ρ m st, EnvR G H m st σ ρ ∧ Sim G H m st ∧
  After G b H m st (fun c H' => ∀ a, G.ec c a → W (.ref a) none σ H') (fun H' m' st' d => ∀ v, Rp G H' m' (Lv G m' st') v d → Q v H') (f ρ st)
/-- a test's -/
def tB (G : Gd) (b : Nat) (W : WX) (f : Env → M Bool) : TT := fun σ H Q => ∃ ρ m st, EnvR G H m st σ ρ ∧ Sim G H m st ∧
  After G b H m st (fun c H' => ∀ a, G.ec c a → W (.ref a) none σ H') (fun H' m' st' k => Q k H') (f ρ st)
/-- arguments' -/
def tEs (G : Gd) (b : Nat) (W : WX) (f : Env → M (List D)) : TA := fun σ H Q => ∃ ρ m st, EnvR G H m st σ ρ ∧ Sim G H m st ∧
  After G b H m st (fun c H' => ∀ a, G.ec c a → W (.ref a) none σ H') (fun H' m' st' ds => ∀ vs, RpAll G H' m' (Lv G m' st') vs ds → Q vs H') (f ρ st)
/-- what stands behind a first part -/
def Then (G : Gd) (b : Nat) (W : WX) (σ : L2.St) {α β : Type} (R : Hp → List Addr → Store → β → Prop) (rel : Hp → List Addr → Store → α → Prop) (g : Env → α → M β) (H : Hp) : Prop :=
  ∃ ρ m st d, EnvR G H m st σ ρ ∧ Sim G H m st ∧ rel H m st d ∧ After G b H m st (fun c H' => ∀ a, G.ec c a → W (.ref a) none σ H') R (g ρ d st)
section
variable {G : Gd} {b : Nat} {W : WX} {σ : L2.St} {H : Hp}
theorem After.first {α β : Type} {R : Hp → List Addr → Store → β → Prop} {f : Env → M α} {g : Env → α → M β} {ρ : Env} {m : List Addr} {st : Store} (rel : Hp → List Addr → Store → α → Prop) (er : EnvR G H m st σ ρ) (s : Sim G H m st)
    (h : After G b H m st (fun c H' => ∀ a, G.ec c a → W (.ref a) none σ H') R (M.thn (f ρ) (g ρ) st)) :
    After G b H m st (fun c H' => ∀ a, G.ec c a → W (.ref a) none σ H') (fun H' m' st' d => rel H' m' st' d → Then G b W σ R rel g H') (f ρ st) :=
  (h.thn s).mono (fun H' m' st' d s' e h r => ⟨ρ, m', st', d, er.ext e, s', r, h⟩) fun _ _ h => h
/-- first an expression -/
theorem tE.first {β : Type} {R : Hp → List Addr → Store → β → Prop} {f : Env → M D} {g : Env → D → M β} {ρ : Env} {m : List Addr} {st : Store} (er : EnvR G H m st σ ρ) (s : Sim G H m st)
    (h : After G b H m st (fun c H' => ∀ a, G.ec c a → W (.ref a) none σ H') R (M.thn (f ρ) (g ρ) st)) :
    tE G b W f σ H (fun v H' => Then G b W σ R (fun H m st d => Rp G H m (Lv G m st) v d) g H') :=
  ⟨ρ, m, st, er, s, (h.thn s).mono (fun H' m' st' d s' e h v r => ⟨ρ, m', st', d, er.ext e, s', r, h⟩) fun _ _ h => h⟩
theorem tB.first {β : Type} {R : Hp → List Addr → Store → β → Prop} {f : Env → M Bool} {g : Env → Bool → M β} {ρ : Env} {m : List Addr} {st : Store} (er : EnvR G H m st σ ρ) (s : Sim G H m st)
    (h : After G b H m st (fun c H' => ∀ a, G.ec c a → W (.ref a) none σ H') R (M.thn (f ρ) (g ρ) st)) :
    tB G b W f σ H (fun k H' => Then G b W σ R (fun H m st d => d = k) g H') :=
  ⟨ρ, m, st, er, s, (h.thn s).mono (fun H' m' st' d s' e h => ⟨ρ, m', st', d, er.ext e, s', rfl, h⟩) fun _ _ h => h⟩
theorem tEs.first {β : Type} {R : Hp → List Addr → Store → β → Prop} {f : Env → M (List D)} {g : Env → List D → M β} {ρ : Env} {m : List Addr} {st : Store} (er : EnvR G H m st σ ρ) (s : Sim G H m st)
    (h : After G b H m st (fun c H' => ∀ a, G.ec c a → W (.ref a) none σ H') R (M.thn (f ρ) (g ρ) st)) :
    tEs G b W f σ H (fun vs H' => Then G b W σ R (fun H m st d => RpAll G H m (Lv G m st) vs d) g H') :=
  ⟨ρ, m, st, er, s, (h.thn s).mono (fun H' m' st' d s' e h v r => ⟨ρ, m', st', d, er.ext e, s', r, h⟩) fun _ _ h => h⟩
end

/-! ### reading -/
/-- a value that may be read as d -/
def Rv (G : Gd) (H : Hp) (m : List Addr) (L : Addr → Prop) (v : V) : D → Prop
  | .lst ds => ∃ a xs, v = .ref a ∧ SqL G.K H a xs ∧ RpAll G H m L xs ds
  | d => Rp G H m L v d
section
variable {G : Gd} {b : Nat} {H : Hp} {m : List Addr} {L : Addr → Prop} {st : Store} {v w : V} {d : D}
theorem Rp.rv (h : Rp G H m L v d) : Rv G H m L v d := by
  cases d with
  | lst ds =>
    cases h with
    | lst g hs => exact ⟨_, _, rfl, g.now, hs⟩
  | _ => exact h
theorem view_lst {l : Nat} {ds : List D} (h : st[l]? = some (.lst ds)) : view st (.ref l) = .lst ds := by simp [view, h]
theorem view_dead {l : Nat} (h : st[l]? = some .dead) : view st (.ref l) = .ref l := by simp [view, h]
theorem view_none {l : Nat} (h : st[l]? = none) : view st (.ref l) = .ref l := by simp [view, h]
theorem view_ok (s : Sim G H m st) (h : Rp G H m (Lv G m st) v d) : Rv G H m (Lv G m st) v (view st d) := by
  cases d with
  | ref l =>
    cases h with
    | ref hm =>
      cases q : st[l]? with
      | none => rw [view_none q]; exact Rp.ref hm
      | some c =>
        cases c with
        | dead => rw [view_dead q]; exact Rp.ref hm
        | lst ds =>
          obtain ⟨xs, e, r⟩ := s.cell l _ _ q hm
          rw [view_lst q]
          exact ⟨_, xs, rfl, SqL.of e, r⟩
        | dct ks vs => exact (s.cell l _ _ q hm).elim
  | _ => exact h.rv
theorem Rv.tup {ds : List D} (h : Rv G H m L v (.tup ds)) : ∃ a xs, v = .ref a ∧ SqT G.K H a xs ∧ RpAll G H m L xs ds := by
  have h' : Rp G H m L v (.tup ds) := h
  cases h' with
  | tup g hs => exact ⟨_, _, rfl, g.now, hs⟩
theorem Rv.int {i : Int} (h : Rv G H m L v (.int i)) : v = .int i := by
  have h' : Rp G H m L v (.int i) := h
  cases h'; rfl
theorem Rv.str {i : Str} (h : Rv G H m L v (.str i)) : v = .str i := by
  have h' : Rp G H m L v (.str i) := h
  cases h'; rfl
theorem Rv.bl {i : Bool} (h : Rv G H m L v (.bl i)) : v = .bl i := by
  have h' : Rp G H m L v (.bl i) := h
  cases h'; rfl
theorem Rv.non (h : Rv G H m L v .non) : v = .non := by
  have h' : Rp G H m L v .non := h
  cases h'; rfl
mutual
theorem Rp.dp : ∀ {v : V} {d : D} {p : PyData}, Rp G H m L v d → d.toPy = some p → Dp G.K H v p
  | _, _, _, .non, e => by cases e; exact .non
  | _, _, _, .bl b, e => by cases e; exact .bl b
  | _, _, _, .int i, e => by cases e; exact .int i
  | _, _, _, .str s, e => by cases e; exact .str s
  | _, _, _, .tup h hs, e => by
    obtain ⟨ps, e1, e2⟩ := Option.map_eq_some_iff.mp (show (D.toPys _).map PyData.tuple = some _ from e)
    subst e2
    exact .tup h.now (RpAll.dp hs e1)
  | _, _, _, .lst h hs, e => by
    obtain ⟨ps, e1, e2⟩ := Option.map_eq_some_iff.mp (show (D.toPys _).map PyData.list = some _ from e)
    subst e2
    exact .lst h.now (RpAll.dp hs e1)
  | _, _, _, .ref _, e => by cases e
  | _, _, _, .fn _, e => by cases e
theorem RpAll.dp : ∀ {vs : List V} {ds : List D} {ps : List PyData}, RpAll G H m L vs ds → D.toPys ds = some ps → DpAll G.K H vs ps
  | _, _, _, .nil, e => by cases e; exact .nil
  | _, d :: ds, _, .cons h hs, e => by
    have e' : (match d.toPy, D.toPys ds with | some y, some ys => some (y :: ys) | _, _ => none) = some _ := e
    cases q : d.toPy with
    | none => rw [q] at e'; cases e'
    | some y =>
      cases q2 : D.toPys ds with
      | none => rw [q, q2] at e'; cases e'
      | some ys =>
        rw [q, q2] at e'
        cases e'
        exact .cons (Rp.dp h q) (RpAll.dp hs q2)
end
theorem Rv.dp {p : PyData} (h : Rv G H m L v d) (e : d.toPy = some p) : Dp G.K H v p := by
  cases d with
  | lst ds =>
    obtain ⟨a, xs, rfl, hs, r⟩ := h
    obtain ⟨ps, e1, e2⟩ := Option.map_eq_some_iff.mp (show (D.toPys _).map PyData.list = some _ from e)
    subst e2
    exact .lst hs (RpAll.dp r e1)
  | _ => exact Rp.dp h e
end
theorem okSize_le {n : Nat} (h : okSize n = true) : n ≤ sizeLine := by
  have := of_decide_eq_true (show decide _ = true from h)
  rw [sizeLine_eq]; omega
theorem okSize_lt {n : Nat} (h : okSize n = true) : n < sizeLine := by
  have := of_decide_eq_true (show decide _ = true from h)
  rw [sizeLine_eq]; omega

/-- a result of an operation: any value, frozen, the heap grown -/
def Res2 (G : Gd) (b : Nat) (H : Hp) (m : List Addr) (st : Store) (d : D) (Q : VK) : Prop :=
  ∀ H' v, Sim G H' m st → Ext G b H m st H' m st → Rp G H' m (Lv G m st) v d → Q v H'
section
variable {X : Cx} {G : Gd} {b : Nat} {pins : List (Addr × Obj)} {s : Shared} {σ : L2.St} {H : Hp} {m : List Addr} {st : Store} {x y : V} {v u : Value} {Q : VK}
theorem Res2.same {d : D} {w : V} (S : Sim G H m st) (q : Res2 G b H m st d Q) (r : Rp G H m (Lv G m st) w d) : Q w H := q H w S .refl r
theorem Res2.newT {ds : List D} {xs : List V} {p : Addr} (S : Sim G H m st) (q : Res2 G b H m st (.tup ds) Q) (hp : H p = none) (r : RpAll G H m (Lv G m st) xs ds) : Q (.ref p) (upd H p (.tup xs)) := by
  obtain ⟨S', E, F⟩ := S.new (b := b) hp (.tup xs)
  exact q _ _ S' E (.tup (.inl ⟨F, SqT.of upd_same⟩) (r.ext E))
theorem Res2.newL {ds : List D} {xs : List V} {p : Addr} (S : Sim G H m st) (q : Res2 G b H m st (.lst ds) Q) (hp : H p = none) (r : RpAll G H m (Lv G m st) xs ds) : Q (.ref p) (upd H p (.lst xs)) := by
  obtain ⟨S', E, F⟩ := S.new (b := b) hp (.lst xs)
  exact q _ _ S' E (.lst (.inl ⟨F, SqL.of upd_same⟩) (r.ext E))
/-- list + list, any that may be read -/
theorem RpAll.rep {H : Hp} {m : List Addr} {L : Addr → Prop} {vs : List V} {ds : List D} (h : RpAll G H m L vs ds) : ∀ k : Nat, RpAll G H m L (List.replicate k vs).flatten (List.replicate k ds).flatten
  | 0 => .nil
  | k + 1 => by
    rw [List.replicate_succ, List.replicate_succ, List.flatten_cons, List.flatten_cons]
    exact h.append (h.rep k)
theorem catL (I : Inv X pins σ H s) {a c : Addr} {xs ys : List V} (ha : SqL X.K H a xs) (hc : SqL X.K H c ys) (hz : xs.length + ys.length ≤ sizeLine) (q : ∀ p, H p = none → Q (.ref p) (upd H p (.lst (xs ++ ys)))) :
    wpAny (model X.prog X.w) X.A (binaryOp .Add (.ref a) (.ref c)) (EP X pins σ Q) X.xe s := by
  obtain ⟨its, r, p1, _⟩ := I.list ha
  obtain ⟨its2, r2, p2, _⟩ := I.list hc
  have l1 := r.length
  have l2 := r2.length
  obtain ⟨⟨cls, dd, data, sl⟩, ho, h1, n, h2⟩ := p1.isList
  obtain ⟨⟨cls2, dd2, data2, sl2⟩, ho2, h3, n2, h4⟩ := p2.isList
  simp only at h1 h2 h3 h4
  subst h1 h2 h3 h4
  have hsz : its.toArray.size + its2.toArray.size ≤ sizeLine := by
    rw [List.size_toArray, List.size_toArray]
    omega
  have ea : its.toArray ++ its2.toArray = (its ++ its2).toArray := by simp
  refine concat_meets ⟨_, ho, rfl⟩ ⟨_, ho2, rfl⟩ noFill_list_add seq_list_add PySem.F.slot_list_add PySem.F.entry_list_add (PySem.F.args_list_add_2 _ _)
    (list_addW a c its.toArray its2.toArray n n2 dd dd2 sl sl2 hsz) ⟨ho, ho2, ?_⟩
  rw [ea]
  exact ⟨.ref _, _, I.lnew (t' := s.toks) (r.append r2) (by rw [List.length_append]; exact hz), rfl, q _ I.fresh⟩

theorem bin_ok {op : Operator} {d e f : D} (hf : binD op d e = some f) (hK : X.K = G.K) (S : Sim G H m st) (rx : Rv G H m (Lv G m st) x d) (ry : Rv G H m (Lv G m st) y e)
    (q : Res2 G b H m st f Q) (I : Inv X pins σ H s) (hx : RelV x v) (hy : RelV y u) : wpAny (model X.prog X.w) X.A (binaryOp op v u) (EP X pins σ Q) X.xe s := by
  unfold binD at hf
  split at hf
  · cases hf
    rw [rx.int] at hx; rw [ry.int] at hy
    exact op_add pins s σ H _ _ v u Q I hx hy ⟨_, _, rfl, rfl, q.same S (.int _)⟩
  · split at hf
    · rename_i hz
      cases hf
      rw [rx.str] at hx; rw [ry.str] at hy
      exact op_add_str pins s σ H _ _ v u Q I hx hy ⟨_, _, rfl, rfl, okSize_le hz, q.same S (.str _)⟩
    · cases hf
  · split at hf
    · rename_i hz
      cases hf
      obtain ⟨a, xs, rfl, ha, r1⟩ := rx.tup
      obtain ⟨c, ys, rfl, hc, r2⟩ := ry.tup
      rw [← hK] at ha hc
      refine op_catA pins s σ H _ _ v u Q I hx hy ⟨a, c, xs, ys, rfl, rfl, ha, hc, by rw [r1.length, r2.length]; exact okSize_le hz, fun e => ?_, fun _ e => ?_, fun _ _ p hp => q.newT S hp (r1.append r2)⟩
      · subst e
        cases r1
        exact q.same S ry
      · subst e
        cases r2
        rw [List.append_nil] at q
        exact q.same S rx
    · cases hf
  · split at hf
    · rename_i hz
      cases hf
      obtain ⟨a, xs, rfl, ha, r1⟩ := rx
      obtain ⟨c, ys, rfl, hc, r2⟩ := ry
      cases hx
      cases hy
      rw [← hK] at ha hc
      exact catL I ha hc (by rw [r1.length, r2.length]; exact okSize_le hz) fun p hp => q.newL S hp (r1.append r2)
    · cases hf
  · cases hf
    rw [rx.int] at hx; rw [ry.int] at hy
    exact op_sub pins s σ H _ _ v u Q I hx hy ⟨_, _, rfl, rfl, q.same S (.int _)⟩
  · split at hf
    · rename_i hz
      cases hf
      rw [rx.int] at hx; rw [ry.int] at hy
      refine op_mul pins s σ H _ _ v u Q I hx hy ⟨_, _, rfl, rfl, ?_, q.same S (.int _)⟩
      rcases (Bool.or_eq_true _ _).mp hz with z | z
      · exact .inl (of_decide_eq_true z)
      · exact .inr (of_decide_eq_true z)
    · cases hf
  · split at hf
    · rename_i hz
      cases hf
      obtain ⟨hz, z3⟩ := Bool.and_eq_true_iff.mp hz
      obtain ⟨z1, z2⟩ := Bool.and_eq_true_iff.mp hz
      have z2 := of_decide_eq_true z2
      obtain ⟨a, xs, rfl, ha, r1⟩ := rx.tup
      rw [ry.int] at hy
      rw [← hK] at ha
      have hl := r1.length
      have h3 := of_decide_eq_true z3
      refine op_repT pins s σ H _ _ v u Q I hx hy ⟨a, _, xs, rfl, rfl, ha, fun e => ?_, z2.1, z2.2, by rw [hl]; exact h3, fun p hp => q.newT S hp (r1.rep _)⟩
      rw [e] at hl
      rw [List.length_eq_zero_iff.mp hl.symm] at z1
      cases z1
    · cases hf
  · split at hf
    · rename_i hz
      cases hf
      rw [rx.int] at hx; rw [ry.int] at hy
      exact op_fdiv pins s σ H _ _ v u Q I hx hy ⟨_, _, rfl, rfl, (show CDiv _ _ from of_decide_eq_true (p := 0 < _ ∧ _ < 1073741824) hz), q.same S (.int _)⟩
    · cases hf
  · split at hf
    · rename_i hz
      cases hf
      rw [rx.int] at hx; rw [ry.int] at hy
      exact op_mod pins s σ H _ _ v u Q I hx hy ⟨_, _, rfl, rfl, of_decide_eq_true hz, q.same S (.int _)⟩
    · cases hf
  · split at hf
    · rename_i hz
      cases hf
      rw [rx.int] at hx; rw [ry.int] at hy
      have z := Bool.and_eq_true_iff.mp hz
      have z1 := of_decide_eq_true z.1
      exact op_pow pins s σ H _ _ v u Q I hx hy ⟨_, _, rfl, rfl, ⟨z1.1, z1.2, of_decide_eq_true z.2⟩, q.same S (.int _)⟩
    · cases hf
  · cases hf
end
end Ev
set_option linter.all false
set_option maxRecDepth 100000
/-! Ev3: comparisons, items, slices, built-in functions. -/
namespace Ev
open PySem PySem.Spec PyProof.Rows L2
section
variable {X : Cx} {G : Gd} {b : Nat} {pins : List (Addr × Obj)} {s : Shared} {σ : L2.St} {H : Hp} {m : List Addr} {st : Store} {x y : V} {v u : Value} {Q : VK} {d e : D}
theorem room_small {n : Nat} {A : Around} (hu : A.units + 64 < cLine) {p q : PyData} (h : p.depth ≤ 60) : A.units + min p.depth q.depth < cLine := by
  have : min p.depth q.depth ≤ p.depth := Nat.min_le_left _ _
  omega
theorem eq_okb {k : Bool} (hk : eqD d e = some k) (hu : X.A.units + 64 < cLine) (hK : X.K = G.K) (rx : Rv G H m (Lv G m st) x d) (ry : Rv G H m (Lv G m st) y e)
    (I : Inv X pins σ H s) (hx : RelV x v) (hy : RelV y u) (neg : Bool) (q : Q (.bl (if neg then !k else k)) H) : wpAny (model X.prog X.w) X.A (compareOp (if neg then .NotEq else .Eq) v u) (EP X pins σ Q) X.xe s := by
  have scal_ : ∀ (w z : V), scal w z = true → x = w → y = z → k = decide (w = z) → wpAny (model X.prog X.w) X.A (compareOp (if neg then .NotEq else .Eq) v u) (EP X pins σ Q) X.xe s := by
    intro w z h1 h2 h3 h4
    subst h2 h3 h4
    cases neg with
    | false => exact op_eq pins s σ H _ _ v u Q I hx hy ⟨h1, q⟩
    | true => exact op_ne pins s σ H _ _ v u Q I hx hy ⟨h1, q⟩
  have gen : ∀ p r : PyData, d.toPy = some p → e.toPy = some r → SeqAt.shaped p = true → SeqAt.shaped r = true → k = PyData.eqv p r → wpAny (model X.prog X.w) X.A (compareOp (if neg then .NotEq else .Eq) v u) (EP X pins σ Q) X.xe s := by
    intro p r h1 h2 h3 h4 h5
    subst h5
    have d1 := rx.dp h1
    have d2 := ry.dp h2
    rw [← hK] at d1 d2
    cases neg with
    | false => exact op_eqD hu pins s σ H _ _ v u Q I hx hy ⟨p, r, d1, d2, h3, h4, q⟩
    | true => exact op_neD hu pins s σ H _ _ v u Q I hx hy ⟨p, r, d1, d2, h3, h4, q⟩
  unfold eqD at hk
  split at hk
  · cases hk
    exact scal_ _ _ rfl rx.int ry.int (by simp)
  · cases hk
    exact scal_ _ _ rfl rx.str ry.str (by simp)
  · cases hk
    exact scal_ _ _ rfl rx.bl ry.bl (by simp)
  · cases hk
    exact gen .none .none rfl rfl (by decide) (by decide) (by simp [PyData.eqv])
  · split at hk
    · rename_i p r h1 h2
      split at hk
      · rename_i h3
        cases hk
        have z := Bool.and_eq_true_iff.mp h3
        exact gen p r h1 h2 z.1 z.2 rfl
      · cases hk
    · cases hk
theorem in_okb {ys : List D} {k : Bool} (hk : inL d ys = some k) (hu : X.A.units + 66 < cLine) (hK : X.K = G.K) (rx : Rv G H m (Lv G m st) x d) (ry : Rv G H m (Lv G m st) y (.lst ys) ∨ Rv G H m (Lv G m st) y (.tup ys))
    (I : Inv X pins σ H s) (hx : RelV x v) (hy : RelV y u) (neg : Bool) (q : Q (.bl (if neg then !k else k)) H) : wpAny (model X.prog X.w) X.A (compareOp (if neg then .NotIn else .In) v u) (EP X pins σ Q) X.xe s := by
  unfold inL at hk
  split at hk
  · rename_i p ps h1 h2
    split at hk
    · rename_i h3
      cases hk
      have z := Bool.and_eq_true_iff.mp h3
      have d1 := rx.dp h1
      rw [← hK] at d1
      obtain ⟨as, r1⟩ := Dp.reads I p x v d1 hx
      have hd := SeqAt.depth_of_shaped z.1
      have hroom : X.A.units + 1 + min (PyData.depthAll ps) p.depth < cLine := by
        have : min (PyData.depthAll ps) p.depth ≤ p.depth := Nat.min_le_right _ _
        omega
      rcases ry with ry | ry
      · have d2 := ry.dp (p := .list ps) (by simp [D.toPy, h2])
        rw [← hK] at d2
        obtain ⟨bs, r2⟩ := Dp.reads I _ y u d2 hy
        cases neg with
        | false => exact SeqAt.in_list_reads r2 r1 z.2 (SeqAt.canLay_of_shaped z.1) hroom ⟨.bl _, H, I, rfl, q⟩
        | true => exact SeqAt.notIn_list_reads r2 r1 z.2 (SeqAt.canLay_of_shaped z.1) hroom ⟨.bl _, H, I, rfl, q⟩
      · have d2 := ry.dp (p := .tuple ps) (by simp [D.toPy, h2])
        rw [← hK] at d2
        obtain ⟨bs, r2⟩ := Dp.reads I _ y u d2 hy
        cases neg with
        | false => exact SeqAt.in_tuple_reads r2 r1 z.2 (SeqAt.canLay_of_shaped z.1) hroom ⟨.bl _, H, I, rfl, q⟩
        | true => exact SeqAt.notIn_tuple_reads r2 r1 z.2 (SeqAt.canLay_of_shaped z.1) hroom ⟨.bl _, H, I, rfl, q⟩
    · cases hk
  · cases hk
theorem lt_ok {k : Bool} (hk : ltD d e = some k) (hu : X.A.units + 64 < cLine) (hK : X.K = G.K) (rx : Rv G H m (Lv G m st) x d) (ry : Rv G H m (Lv G m st) y e)
    (I : Inv X pins σ H s) (hx : RelV x v) (hy : RelV y u) (q : Q (.bl k) H) : wpAny (model X.prog X.w) X.A (compareOp .Lt v u) (EP X pins σ Q) X.xe s := by
  unfold ltD at hk
  split at hk
  · cases hk
    rw [rx.int] at hx; rw [ry.int] at hy
    exact op_lt pins s σ H _ _ v u Q I hx hy ⟨_, _, rfl, rfl, q⟩
  · cases hk
    rw [rx.str] at hx; rw [ry.str] at hy
    exact op_lt_str pins s σ H _ _ v u Q I hx hy ⟨_, _, rfl, rfl, q⟩
  · split at hk
    · rename_i p r h1 h2
      split at hk
      · rename_i h3
        cases hk
        have z := Bool.and_eq_true_iff.mp h3
        have d1 := rx.dp h1
        have d2 := ry.dp h2
        rw [← hK] at d1 d2
        obtain ⟨as, r1⟩ := Dp.reads I _ x v d1 hx
        obtain ⟨bs, r2⟩ := Dp.reads I _ y u d2 hy
        refine PySem.W.lt_data r1 r2 z.1 (fun e => ?_) (room_small (n := 0) hu (of_decide_eq_true z.2)) ⟨.bl _, H, I, rfl, q⟩
        subst e
        obtain ⟨_, _, e2⟩ := Option.map_eq_some_iff.mp (show (D.toPys _).map PyData.tuple = some _ from h1)
        cases e2
      · cases hk
    · cases hk
  · cases hk
theorem gt_ok {k : Bool} (hk : ltD e d = some k) (hu : X.A.units + 64 < cLine) (hK : X.K = G.K) (rx : Rv G H m (Lv G m st) x d) (ry : Rv G H m (Lv G m st) y e)
    (I : Inv X pins σ H s) (hx : RelV x v) (hy : RelV y u) (q : Q (.bl k) H) : wpAny (model X.prog X.w) X.A (compareOp .Gt v u) (EP X pins σ Q) X.xe s := by
  unfold ltD at hk
  split at hk
  · cases hk
    rw [rx.int] at hx; rw [ry.int] at hy
    exact op_gt pins s σ H _ _ v u Q I hx hy ⟨_, _, rfl, rfl, q⟩
  · cases hk
    rw [rx.str] at hx; rw [ry.str] at hy
    obtain ⟨t, rfl⟩ := hx
    obtain ⟨t', rfl⟩ := hy
    exact PySem.P.gt_str (fin_bl I q rfl)
  · split at hk
    · rename_i p r h1 h2
      split at hk
      · rename_i h3
        cases hk
        have z := Bool.and_eq_true_iff.mp h3
        have d1 := rx.dp h2
        have d2 := ry.dp h1
        rw [← hK] at d1 d2
        obtain ⟨as, r1⟩ := Dp.reads I _ x v d1 hx
        obtain ⟨bs, r2⟩ := Dp.reads I _ y u d2 hy
        refine PySem.W.gt_data r1 r2 (by rw [PySem.W.alike_comm]; exact z.1) (fun e => ?_) ?_ ⟨.bl _, H, I, rfl, q⟩
        · subst e
          obtain ⟨_, _, e2⟩ := Option.map_eq_some_iff.mp (show (D.toPys _).map PyData.tuple = some _ from h2)
          cases e2
        · rw [Nat.min_comm]
          exact room_small (n := 0) hu (of_decide_eq_true z.2)
      · cases hk
    · cases hk
  · cases hk
theorem le_ok {k : Bool} (hk : leD d e = some k) (rx : Rv G H m (Lv G m st) x d) (ry : Rv G H m (Lv G m st) y e)
    (I : Inv X pins σ H s) (hx : RelV x v) (hy : RelV y u) (q : Q (.bl k) H) : wpAny (model X.prog X.w) X.A (compareOp .LtE v u) (EP X pins σ Q) X.xe s := by
  unfold leD at hk
  split at hk
  · cases hk
    rw [rx.int] at hx; rw [ry.int] at hy
    exact op_le pins s σ H _ _ v u Q I hx hy ⟨_, _, rfl, rfl, q⟩
  · cases hk
    rw [rx.str] at hx; rw [ry.str] at hy
    exact op_le_str pins s σ H _ _ v u Q I hx hy ⟨_, _, rfl, rfl, q⟩
  · cases hk
theorem ge_ok {k : Bool} (hk : leD e d = some k) (rx : Rv G H m (Lv G m st) x d) (ry : Rv G H m (Lv G m st) y e)
    (I : Inv X pins σ H s) (hx : RelV x v) (hy : RelV y u) (q : Q (.bl k) H) : wpAny (model X.prog X.w) X.A (compareOp .GtE v u) (EP X pins σ Q) X.xe s := by
  unfold leD at hk
  split at hk
  · cases hk
    rw [rx.int] at hx; rw [ry.int] at hy
    exact op_ge pins s σ H _ _ v u Q I hx hy ⟨_, _, rfl, rfl, q⟩
  · cases hk
    rw [rx.str] at hx; rw [ry.str] at hy
    obtain ⟨t, rfl⟩ := hx
    obtain ⟨t', rfl⟩ := hy
    exact PySem.P.ge_str (fin_bl I q rfl)
  · cases hk
theorem Rv.none_iff (rx : Rv G H m (Lv G m st) x d) : decide (x = .non) = isNon d := by
  cases d with
  | non => simp [rx.non, isNon]
  | lst ds => obtain ⟨a, xs, rfl, _⟩ := rx; rfl
  | _ => have rx' : Rp G H m (Lv G m st) x _ := rx; cases rx' <;> rfl
theorem cmp_ok {op : CmpOp} {k : Bool} (hk : cmpD op d e = some k) (hu : X.A.units + 66 < cLine) (hK : X.K = G.K) (rx : Rv G H m (Lv G m st) x d) (ry : Rv G H m (Lv G m st) y e)
    (I : Inv X pins σ H s) (hx : RelV x v) (hy : RelV y u) (q : Q (.bl k) H) : wpAny (model X.prog X.w) X.A (compareOp op v u) (EP X pins σ Q) X.xe s := by
  cases op with
  | Eq => exact eq_okb (by simpa only [cmpD] using hk) (by omega) hK rx ry I hx hy false q
  | NotEq =>
    obtain ⟨j, h1, h2⟩ := Option.map_eq_some_iff.mp (by simpa only [cmpD] using hk)
    exact eq_okb h1 (by omega) hK rx ry I hx hy true (by rw [← h2] at q; exact q)
  | Lt => exact lt_ok (by simpa only [cmpD] using hk) (by omega) hK rx ry I hx hy q
  | Gt => exact gt_ok (by simpa only [cmpD] using hk) (by omega) hK rx ry I hx hy q
  | LtE => exact le_ok (by simpa only [cmpD] using hk) rx ry I hx hy q
  | GtE => exact ge_ok (by simpa only [cmpD] using hk) rx ry I hx hy q
  | Is =>
    simp only [cmpD] at hk
    split at hk
    · cases hk
      rw [← rx.none_iff] at q
      exact op_isN pins s σ H _ _ v u Q I hx hy ⟨ry.non, q⟩
    · cases hk
      rw [ry.bl] at hy
      rw [rx.bl] at hx
      exact op_isBl pins s σ H _ _ v u Q I hx hy ⟨_, _, rfl, rfl, q⟩
    · cases hk
      rw [ry.bl] at hy
      rw [rx.non] at hx
      cases (show v = Value.none from hx)
      cases (show u = Value.bool _ from hy)
      exact wpAny_is_other rfl (fun z => by cases z) ⟨.bl false, H, I, rfl, q⟩
    · cases hk
  | IsNot =>
    simp only [cmpD] at hk
    split at hk
    · cases hk
      rw [← rx.none_iff] at q
      exact op_notN pins s σ H _ _ v u Q I hx hy ⟨ry.non, q⟩
    · cases hk
      rw [ry.bl] at hy
      rw [rx.bl] at hx
      exact op_notBl pins s σ H _ _ v u Q I hx hy ⟨_, _, rfl, rfl, q⟩
    · cases hk
      rw [ry.bl] at hy
      rw [rx.non] at hx
      cases (show v = Value.none from hx)
      cases (show u = Value.bool _ from hy)
      exact wpAny_isNot_other rfl (fun z => by cases z) ⟨.bl true, H, I, rfl, q⟩
    · cases hk
  | In =>
    simp only [cmpD] at hk
    split at hk
    · exact in_okb hk hu hK rx (.inl ry) I hx hy false q
    · exact in_okb hk hu hK rx (.inr ry) I hx hy false q
    · unfold inS at hk
      split at hk
      · cases hk
        have e1 := rx.str
        have e2 := ry.str
        subst e1; subst e2
        exact op_in_str pins s σ H _ _ v u Q I hx hy ⟨_, _, rfl, rfl, q⟩
      · cases hk
    · cases hk
  | NotIn =>
    simp only [cmpD] at hk
    split at hk
    · obtain ⟨j, h1, h2⟩ := Option.map_eq_some_iff.mp hk
      exact in_okb h1 hu hK rx (.inl ry) I hx hy true (by rw [← h2] at q; exact q)
    · obtain ⟨j, h1, h2⟩ := Option.map_eq_some_iff.mp hk
      exact in_okb h1 hu hK rx (.inr ry) I hx hy true (by rw [← h2] at q; exact q)
    · obtain ⟨j, h1, h2⟩ := Option.map_eq_some_iff.mp hk
      unfold inS at h1
      split at h1
      · cases h1
        have e1 := rx.str
        have e2 := ry.str
        subst e1; subst e2
        exact op_notin_str pins s σ H _ _ v u Q I hx hy ⟨_, _, rfl, rfl, by rw [← h2] at q; exact q⟩
      · cases h1
    · cases hk

/-! ### items, slices -/
theorem ixAt_of {vs : List V} {ds : List D} {i : Int} {L : Addr → Prop} (r : RpAll G H m L vs ds) (h : ixAt ds i = some d) : ∃ w, atI vs i = some w ∧ Rp G H m L w d := by
  have hl := r.length
  unfold ixAt at h
  unfold atI ixN
  split at h
  · rename_i h0
    obtain ⟨w, h1, h2⟩ := r.get h
    have : i < (vs.length : Int) := by have := (List.getElem?_eq_some_iff.mp h1).1; omega
    exact ⟨w, by rw [if_pos h0, if_pos this]; exact h1, h2⟩
  · rename_i h0
    split at h
    · rename_i h1
      obtain ⟨w, h2, h3⟩ := r.get h
      refine ⟨w, ?_, h3⟩
      rw [if_neg h0, if_pos (by omega)]
      rw [← hl] at h2
      exact h2
    · cases h
theorem idx_ok {f : D} (hf : idxD d e = some f) (hK : X.K = G.K) (S : Sim G H m st) (rx : Rv G H m (Lv G m st) x d) (ry : Rp G H m (Lv G m st) y e) : ∃ w, Rp G H m (Lv G m st) w f ∧ ∀ Q : VK, Q w H → rIx X.K x y H Q := by
  unfold idxD at hf
  split at hf
  · obtain ⟨a, xs, rfl, ha, r1⟩ := rx.tup
    cases ry
    obtain ⟨w, h1, h2⟩ := ixAt_of r1 hf
    rw [← hK] at ha
    exact ⟨w, h2, fun Q q => .inr (.inl ⟨a, xs, _, w, rfl, rfl, ha, h1, q⟩)⟩
  · obtain ⟨a, xs, rfl, ha, r1⟩ := rx
    cases ry
    obtain ⟨w, h1, h2⟩ := ixAt_of r1 hf
    rw [← hK] at ha
    exact ⟨w, h2, fun Q q => .inl ⟨a, xs, _, w, rfl, rfl, ha, h1, q⟩⟩
  · cases hf
theorem cut_of {vs : List V} {ds : List D} {lo hi : Option Int} {L : Addr → Prop} (r : RpAll G H m L vs ds) : RpAll G H m L (cutV vs lo hi) (cutL ds lo hi) := by
  unfold cutV cutL
  rw [r.length]
  exact (r.drop _).take _
def rSlD (K : PySem.W.Frag) : V → Option Int → Option Int → Hp → VK → Prop := fun x lo hi H Q => rSlL K x lo hi H Q ∨ rSlA K x lo hi H Q
theorem sl_D : SlR X (rSlD X.K) := sl_list.or sl_tupA
theorem slc_ok {lo hi : Option Int} {f : D} (hf : slcD d lo hi = some f) (hK : X.K = G.K) (S : Sim G H m st) (rx : Rv G H m (Lv G m st) x d) (q : Res2 G b H m st f Q) : rSlD X.K x lo hi H Q := by
  unfold slcD at hf
  split at hf
  · cases hf
    have rx0 := rx
    obtain ⟨a, xs, rfl, ha, r1⟩ := rx.tup
    rw [← hK] at ha
    refine .inr ⟨a, xs, rfl, ha, fun ⟨h1, h2⟩ => q.same S ?_, fun _ p hp => q.newT S hp (cut_of r1)⟩
    have e : ∀ zs : List D, zs.length = xs.length → cutL zs lo hi = zs := fun zs hz => by
      show (List.drop (HT.sIx _ 0 lo) _).take (HT.sIx _ _ hi - HT.sIx _ 0 lo) = _
      rw [hz, h1, h2, ← hz]
      simp
    rw [e _ r1.length.symm]
    exact rx0
  · cases hf
    obtain ⟨a, xs, rfl, ha, r1⟩ := rx
    rw [← hK] at ha
    exact .inl ⟨a, xs, rfl, ha, fun p hp => q.newL S hp (cut_of r1)⟩
  · cases hf

/-! ### built-in functions -/
theorem allI_of {L : Addr → Prop} : ∀ {ds : List D} {vs : List V} {is : List Int}, allI ds = some is → RpAll G H m L vs ds → vs = is.map V.int
  | [], _, _, e, .nil => by cases e; rfl
  | .int i :: ds, _, _, e, .cons r rs => by
    obtain ⟨js, h1, h2⟩ := Option.map_eq_some_iff.mp (show (allI ds).map (i :: ·) = some _ from e)
    subst h2
    cases r
    rw [allI_of h1 rs]; rfl
  | .non :: _, _, _, e, _ => by cases e
  | .bl _ :: _, _, _, e, _ => by cases e
  | .str _ :: _, _, _, e, _ => by cases e
  | .tup _ :: _, _, _, e, _ => by cases e
  | .lst _ :: _, _, _, e, _ => by cases e
  | .dct _ _ :: _, _, _, e, _ => by cases e
  | .ref _ :: _, _, _, e, _ => by cases e
  | .fn _ :: _, _, _, e, _ => by cases e
theorem allB_of {L : Addr → Prop} : ∀ {ds : List D} {vs : List V} {is : List Bool}, allB ds = some is → RpAll G H m L vs ds → vs = is.map V.bl
  | [], _, _, e, .nil => by cases e; rfl
  | .bl i :: ds, _, _, e, .cons r rs => by
    obtain ⟨js, h1, h2⟩ := Option.map_eq_some_iff.mp (show (allB ds).map (i :: ·) = some _ from e)
    subst h2
    cases r
    rw [allB_of h1 rs]; rfl
  | .non :: _, _, _, e, _ => by cases e
  | .int _ :: _, _, _, e, _ => by cases e
  | .str _ :: _, _, _, e, _ => by cases e
  | .tup _ :: _, _, _, e, _ => by cases e
  | .lst _ :: _, _, _, e, _ => by cases e
  | .dct _ _ :: _, _, _, e, _ => by cases e
  | .ref _ :: _, _, _, e, _ => by cases e
  | .fn _ :: _, _, _, e, _ => by cases e
theorem ty_of (hK : X.K = G.K) (rx : Rv G H m (Lv G m st) x d) (h : ∀ l, d ≠ .ref l) (h2 : ∀ f, d ≠ .fn f) : TyX X.K H x (.type (tyD d)) := by
  cases d with
  | non => rw [rx.non]; exact .base .non
  | bl k => rw [rx.bl]; exact .base (.bl k)
  | int k => rw [rx.int]; exact .base (.int k)
  | str k => rw [rx.str]; exact .base (.str k)
  | tup ds =>
    obtain ⟨a, xs, rfl, ha, r1⟩ := rx.tup
    rw [← hK] at ha
    rcases ha with (h | ⟨o, h⟩) | ⟨o, its, n, h1, h2, _⟩
    · exact .base (.tup h)
    · exact .fTuple h
    · exact .kTuple h1 h2
  | lst ds =>
    obtain ⟨a, xs, rfl, ha, r1⟩ := rx
    rw [← hK] at ha
    rcases ha with (h | ⟨o, h⟩) | ⟨o, its, n, h1, h2, _⟩
    · exact .base (.lst h)
    · exact .base (.frz h)
    · exact .kList h1 h2
  | dct ks vs => have rx' : Rp G H m (Lv G m st) x (.dct ks vs) := rx; cases rx'
  | ref l => exact absurd rfl (h l)
  | fn l => exact absurd rfl (h2 l)
theorem kit_D {K : PySem.W.Frag} (t : Ty) (ht : t ≠ .none) (hd : tyD d ≠ "") : PySem.W.kitOne K (.type (tyD d)) (.type t.name) = some (t.has d) := by
  have k : ∀ z : String, tyD d = z → kitB z t.name = some (t.has d) → PySem.W.kitOne K (.type (tyD d)) (.type t.name) = some (t.has d) := fun z e h => kit_ty (by rw [e]; exact h)
  cases d with
  | non => exact k "NoneType" rfl (by cases t <;> first | exact absurd rfl ht | (show _ = some false; decide +kernel))
  | bl _ => exact k "bool" rfl (by cases t <;> first | exact absurd rfl ht | (show _ = some false; decide +kernel) | (show _ = some true; decide +kernel))
  | int _ => exact k "int" rfl (by cases t <;> first | exact absurd rfl ht | (show _ = some false; decide +kernel) | (show _ = some true; decide +kernel))
  | str _ => exact k "str" rfl (by cases t <;> first | exact absurd rfl ht | (show _ = some false; decide +kernel) | (show _ = some true; decide +kernel))
  | tup _ => exact k "tuple" rfl (by cases t <;> first | exact absurd rfl ht | (show _ = some false; decide +kernel) | (show _ = some true; decide +kernel))
  | lst _ => exact k "list" rfl (by cases t <;> first | exact absurd rfl ht | (show _ = some false; decide +kernel) | (show _ = some true; decide +kernel))
  | _ => exact absurd rfl hd

/-- the built-in of a name -/
def bltV : Blt → Value
  | .len => .builtin "len" | .abs => .builtin "abs" | .int => .type "int" | .sum => .builtin "sum" | .max => .builtin "max" | .any => .builtin "any" | .all => .builtin "all" | .repr => .builtin "repr"
  | .isi _ => .builtin "isinstance" | .tuple => .type "tuple"
/-- what stands behind the first argument -/
def bltMore : Blt → List V
  | .isi t => [.ty t.name]
  | _ => []
mutual
theorem toPy_nod : ∀ (d : D) (p : PyData), d.toPy = some p → p.hasDict = false
  | .non, _, e => by cases e; rfl
  | .bl _, _, e => by cases e; rfl
  | .int _, _, e => by cases e; rfl
  | .str _, _, e => by cases e; rfl
  | .tup xs, _, e => by
    obtain ⟨ps, e1, e2⟩ := Option.map_eq_some_iff.mp (show (D.toPys xs).map PyData.tuple = some _ from e)
    subst e2
    rw [PyData.hasDict]; exact toPys_nod xs ps e1
  | .lst xs, _, e => by
    obtain ⟨ps, e1, e2⟩ := Option.map_eq_some_iff.mp (show (D.toPys xs).map PyData.list = some _ from e)
    subst e2
    rw [PyData.hasDict]; exact toPys_nod xs ps e1
  | .dct _ _, _, e => by cases e
  | .ref _, _, e => by cases e
  | .fn _, _, e => by cases e
theorem toPys_nod : ∀ (ds : List D) (ps : List PyData), D.toPys ds = some ps → PyData.hasDictAll ps = false
  | [], _, e => by cases e; rfl
  | d :: ds, _, e => by
    have e' : (match d.toPy, D.toPys ds with | some y, some ys => some (y :: ys) | _, _ => none) = some _ := e
    cases q : d.toPy with
    | none => rw [q] at e'; cases e'
    | some y =>
      cases q2 : D.toPys ds with
      | none => rw [q, q2] at e'; cases e'
      | some ys =>
        rw [q, q2] at e'
        cases e'
        rw [PyData.hasDictAll, toPy_nod d y q, toPys_nod ds ys q2]; rfl
end
theorem repr_ok (hu : X.A.units + 66 < cLine) (hg : X.A.guards = some []) (hK : X.K = G.K) {p : PyData} (hp : d.toPy = some p) (hs : p.showable = true) (hd : p.depth ≤ 60) (hz : okSize p.shown.length = true)
    (rx : Rv G H m (Lv G m st) x d) (I : Inv X pins σ H s) (hx : RelV x v) (q : Q (.str p.shown) H) : wpAny (model X.prog X.w) X.A (call (.builtin "repr") [v]) (EP X pins σ Q) X.xe s := by
  have hdp := rx.dp hp
  rw [← hK] at hdp
  obtain ⟨as, r⟩ := Dp.reads I p x v hdp hx
  have nod := toPy_nod d _ hp
  cases r with
  | none => exact PySem.P.repr_of_none ⟨.str _, H, I.tok _, ⟨_, rfl⟩, q⟩
  | bool k =>
    exact PySem.P.repr_of_bool ⟨.str _, H, I.tok _, ⟨s.toks, rfl⟩, q⟩
  | int i t =>
    exact PySem.P.repr_of_int (of_decide_eq_true (show decide _ = true from hs)) ⟨.str _, H, I.tok _, ⟨_, rfl⟩, q⟩
  | str y t => exact PySem.P.repr_of_str ⟨.str _, H, I.tok _, ⟨_, rfl⟩, q⟩ (okSize_le hz)
  | @list a o vs n xs as h1 h2 h3 h4 =>
    exact repr_of_reads' (.list h1 h2 h3 h4) hs (fun e => by rw [nod] at e; cases e) hg (by omega) (fun _ _ e => e) (fun h' u tk hk => ⟨.str _, H, I.kept hk, ⟨_, rfl⟩, q⟩) (okSize_le hz)
  | @tuple a o vs n xs as h1 h2 h3 h4 =>
    exact repr_of_reads' (.tuple h1 h2 h3 h4) hs (fun e => by rw [nod] at e; cases e) hg (by omega) (fun _ _ e => e) (fun h' u tk hk => ⟨.str _, H, I.kept hk, ⟨_, rfl⟩, q⟩) (okSize_le hz)
  | dict h1 h2 h3 h4 h5 => cases hdp
theorem maxI_of : ∀ (l : List Int) (i m : Int), m ∈ i :: l → (∀ y, y ∈ i :: l → y ≤ m) → m = maxI i l
  | [], i, m, h1, _ => by rw [show maxI i [] = i from rfl]; simpa using h1
  | x :: xs, i, m, h1, h2 => by
    have e : maxI i (x :: xs) = maxI (if x > i then x else i) xs := rfl
    rw [e]
    have a1 := h2 i List.mem_cons_self
    have a2 := h2 x (List.mem_cons_of_mem _ List.mem_cons_self)
    refine maxI_of xs _ m ?_ fun y hy => ?_
    · rcases List.mem_cons.mp h1 with e | h1
      · by_cases hx : x > i
        · omega
        · rw [if_neg hx, e]; exact List.mem_cons_self
      · rcases List.mem_cons.mp h1 with e | h1
        · by_cases hx : x > i
          · rw [if_pos hx, e]; exact List.mem_cons_self
          · rw [if_neg hx]
            have : m = i := by omega
            rw [this]; exact List.mem_cons_self
        · exact List.mem_cons_of_mem _ h1
    · rcases List.mem_cons.mp hy with e | hy
      · rw [e]; split <;> assumption
      · exact h2 y (List.mem_cons_of_mem _ (List.mem_cons_of_mem _ hy))
theorem blt_ok {bl : Blt} {f : D} (hf : bltD bl d = some f) (hu : X.A.units + 66 < cLine) (hg : bl = .repr → X.A.guards = some []) (hc : X.calm = true) (hK : X.K = G.K) (S : Sim G H m st) (rx : Rv G H m (Lv G m st) x d)
    (q : Res2 G b H m st f Q) (I : Inv X pins σ H s) {us : List Value} (hx : Vals (x :: bltMore bl) us) : wpAny (model X.prog X.w) X.A (call (bltV bl) us) (EP X pins σ Q) X.xe s := by
  unfold bltD at hf
  split at hf
  · cases hf
    obtain ⟨a, xs, rfl, ha, r1⟩ := rx
    rw [← hK] at ha
    exact call_len_seq pins s σ H _ us Q I hx ⟨a, xs, rfl, .inl ha, by rw [r1.length]; exact q.same S (.int _)⟩
  · cases hf
    obtain ⟨a, xs, rfl, ha, r1⟩ := rx.tup
    rw [← hK] at ha
    exact call_len_seq pins s σ H _ us Q I hx ⟨a, xs, rfl, .inr ha, by rw [r1.length]; exact q.same S (.int _)⟩
  · split at hf
    · rename_i hz
      cases hf
      rw [rx.str] at hx
      exact call_len_str pins s σ H _ us Q I hx ⟨_, rfl, okSize_le hz, q.same S (.int _)⟩
    · cases hf
  · cases hf
    rw [rx.int] at hx
    exact call_abs pins s σ H _ us Q I hx ⟨_, rfl, q.same S (.int _)⟩
  · cases hf
    rw [rx.int] at hx
    exact call_int1 pins s σ H _ us Q I hx (.inl ⟨_, rfl, q.same S (.int _)⟩)
  · cases hf
    rw [rx.bl] at hx
    exact call_int1 pins s σ H _ us Q I hx (.inr ⟨_, rfl, q.same S (.int _)⟩)
  · obtain ⟨l, h1, h2⟩ := Option.map_eq_some_iff.mp hf
    subst h2
    obtain ⟨a, xs, rfl, ha, r1⟩ := rx
    rw [allI_of h1 r1, ← hK] at ha
    exact cr_sum hc pins s σ H _ us Q I hx ⟨a, l, rfl, ha, q.same S (.int _)⟩
  · split at hf
    · rename_i i l h1
      cases hf
      obtain ⟨a, xs, rfl, ha, r1⟩ := rx
      rw [allI_of h1 r1, ← hK] at ha
      refine cr_max hc pins s σ H _ us Q I hx ⟨a, i :: l, rfl, ha, Nat.succ_pos _, fun m hm1 hm2 => ?_⟩
      rw [maxI_of l i m hm1 hm2]
      exact q.same S (.int _)
    · cases hf
  · obtain ⟨l, h1, h2⟩ := Option.map_eq_some_iff.mp hf
    subst h2
    obtain ⟨a, xs, rfl, ha, r1⟩ := rx
    rw [allB_of h1 r1, ← hK] at ha
    exact cr_any hc pins s σ H _ us Q I hx ⟨a, l, rfl, ha, q.same S (.bl _)⟩
  · obtain ⟨l, h1, h2⟩ := Option.map_eq_some_iff.mp hf
    subst h2
    obtain ⟨a, xs, rfl, ha, r1⟩ := rx
    rw [allB_of h1 r1, ← hK] at ha
    exact cr_all hc pins s σ H _ us Q I hx ⟨a, l, rfl, ha, q.same S (.bl _)⟩
  · cases hf
  · split at hf
    · rename_i ht
      cases hf
      have hz := Bool.and_eq_true_iff.mp ht
      have h1 := of_decide_eq_true hz.1
      have h2 := of_decide_eq_true hz.2
      have hT := ty_of hK rx (fun l e => h1 (by rw [e]; rfl)) (fun l e => h1 (by rw [e]; rfl))
      exact call_isi pins s σ H _ us Q I hx ⟨x, _, _, _, _, rfl, .ty _, hT, kit_D _ h2 h1, q.same S (.bl _)⟩
    · cases hf
  · cases hf
    obtain ⟨a, xs, rfl, ha, r1⟩ := rx
    rw [← hK] at ha
    exact call_tuple_of pins s σ H _ us Q I hx ⟨a, xs, rfl, .inl ⟨ha, fun p hp => q.newT S hp r1⟩⟩
  · cases hf
    have rx0 := rx
    obtain ⟨a, xs, rfl, ha, r1⟩ := rx.tup
    rw [← hK] at ha
    exact call_tuple_of pins s σ H _ us Q I hx ⟨a, xs, rfl, .inr ⟨ha, q.same S rx0⟩⟩
  · split at hf
    · rename_i p hp
      split at hf
      · rename_i hz
        cases hf
        have h1 := Bool.and_eq_true_iff.mp hz
        have h2 := Bool.and_eq_true_iff.mp h1.1
        obtain ⟨u, rfl, ru⟩ := vals1 hx
        exact repr_ok hu (hg rfl) hK hp h2.1 (of_decide_eq_true h2.2) h1.2 rx I ru (q.same S (.str _))
      · cases hf
    · cases hf
  · cases hf
end
end Ev
set_option linter.all false
set_option maxRecDepth 100000
/-! Ev4: expressions of the text read as the small language says, construct by construct. -/
namespace Ev
open PySem PySem.Spec PyProof.Rows L2

theorem thn_assoc {α β γ : Type} (x : M α) (f : α → M β) (g : β → M γ) : M.thn (M.thn x f) g = M.thn x (fun a => M.thn (f a) g) := by
  funext st
  simp only [M.thn]
  cases x st <;> rfl
theorem thn_ret {α β : Type} (a : α) (f : α → M β) : M.thn (M.ret a) f = f a := rfl
section
variable {G : Gd} {b : Nat} {W : WX} {σ : L2.St} {H : Hp} {m : List Addr} {st : Store} {ρ : Env}
/-- the wish about errors at some slots -/
abbrev We (G : Gd) (W : WX) (σ : L2.St) : Nat → Hp → Prop := fun c H' => ∀ a, G.ec c a → W (.ref a) none σ H'
theorem tE.go {β : Type} {R : Hp → List Addr → Store → β → Prop} {f : Env → M D} {g : D → M β} (er : EnvR G H m st σ ρ) (S : Sim G H m st) (h : After G b H m st (We G W σ) R (M.thn (f ρ) g st)) :
    tE G b W f σ H (fun v H' => ∃ m' st' d, Sim G H' m' st' ∧ Ext G b H m st H' m' st' ∧ Rp G H' m' (Lv G m' st') v d ∧ After G b H' m' st' (We G W σ) R (g d st')) :=
  ⟨ρ, m, st, er, S, (h.thn S).mono (fun H' m' st' d s' e h v r => ⟨m', st', d, s', e, r, h⟩) fun _ _ h => h⟩
theorem tB.go {β : Type} {R : Hp → List Addr → Store → β → Prop} {f : Env → M Bool} {g : Bool → M β} (er : EnvR G H m st σ ρ) (S : Sim G H m st) (h : After G b H m st (We G W σ) R (M.thn (f ρ) g st)) :
    tB G b W f σ H (fun k H' => ∃ m' st', Sim G H' m' st' ∧ Ext G b H m st H' m' st' ∧ After G b H' m' st' (We G W σ) R (g k st')) :=
  ⟨ρ, m, st, er, S, (h.thn S).mono (fun H' m' st' d s' e h => ⟨m', st', s', e, h⟩) fun _ _ h => h⟩
theorem tEs.go {β : Type} {R : Hp → List Addr → Store → β → Prop} {f : Env → M (List D)} {g : List D → M β} (er : EnvR G H m st σ ρ) (S : Sim G H m st) (h : After G b H m st (We G W σ) R (M.thn (f ρ) g st)) :
    tEs G b W f σ H (fun vs H' => ∃ m' st' ds, Sim G H' m' st' ∧ Ext G b H m st H' m' st' ∧ RpAll G H' m' (Lv G m' st') vs ds ∧ After G b H' m' st' (We G W σ) R (g ds st')) :=
  ⟨ρ, m, st, er, S, (h.thn S).mono (fun H' m' st' d s' e h v r => ⟨m', st', d, s', e, r, h⟩) fun _ _ h => h⟩
theorem tE.mono {f : Env → M D} {Q Q' : VK} (h : tE G b W f σ H Q) (q : ∀ v H', Q v H' → Q' v H') : tE G b W f σ H Q' := by
  obtain ⟨ρ, m, st, er, S, h⟩ := h
  exact ⟨ρ, m, st, er, S, h.mono (fun H' m' st' d _ _ h v r => q _ _ (h v r)) fun _ _ h => h⟩
theorem After.ret {β : Type} {R : Hp → List Addr → Store → β → Prop} {Wσ : Nat → Hp → Prop} {d : β} (S : Sim G H m st) (h : After G b H m st Wσ R (M.ret d st)) : R H m st d := h H m S .refl
theorem After.ofO {β : Type} {R : Hp → List Addr → Store → β → Prop} {Wσ : Nat → Hp → Prop} {o : Option β} (h : After G b H m st Wσ R (M.ofO o st)) : ∃ d, o = some d ∧ After G b H m st Wσ R (M.ret d st) := by
  cases o with
  | none => exact h.elim
  | some d => exact ⟨d, rfl, h⟩
theorem After.if_ {β : Type} {R : Hp → List Addr → Store → β → Prop} {Wσ : Nat → Hp → Prop} {k : Bool} {x : M β} (h : After G b H m st Wσ R ((if k then x else M.bad) st)) : k = true ∧ After G b H m st Wσ R (x st) := by
  cases k with
  | true => exact ⟨rfl, h⟩
  | false => exact h.elim
end

section
variable {X : Cx} {G : Gd} {b : Nat} {W : WX} {pins : List (Addr × Obj)} {s : Shared} {σ : L2.St} {H : Hp} {m : List Addr} {st : Store} {ρ : Env} {f g : Env → M D} {e e' e2 : Expr} {pos : Pos}
theorem ofE {t t' : TE} (h : PE X e t) (i : ∀ σ H Q, t' σ H Q → t σ H Q) : PE X e t' := ⟨fun pins s σ H Q I q => h.run pins s σ H Q I (i σ H Q q)⟩
theorem ofT {t t' : TT} (h : PT X e t) (i : ∀ σ H Q, t' σ H Q → t σ H Q) : PT X e t' := ⟨fun pins s σ H Q I q => h.run pins s σ H Q I (i σ H Q q)⟩
theorem ofW {t t' : TT} (h : PW X e t) (i : ∀ σ H Q, t' σ H Q → t σ H Q) : PW X e t' := ⟨fun wh pins s σ H Q I q => h.run wh pins s σ H Q I (i σ H Q q)⟩
theorem ofA {es : List Expr} {t t' : TA} (h : PA X es t) (i : ∀ σ H Q, t' σ H Q → t σ H Q) : PA X es t' := ⟨fun pos pins s σ H Q I q => h.run pos pins s σ H Q I (i σ H Q q)⟩

theorem se_var {i : Nat} {x : Str} (hN : X.N[i]? = some x) (hv : Vis X.env.scope x) (hd : (x == ("__debug__" : Str)) = false) (hcd : (x == ("__classdict__" : Str)) = false) : PE X (.Name x pos) (tE G b W fun ρ => getE ρ i) := by
  refine ofE (pe_var hN hv hd hcd) fun σ H Q h => ?_
  obtain ⟨ρ, m, st, er, S, h⟩ := h
  replace h : After G b H m st (We G W σ) (fun H' m' st' d => ∀ v, Rp G H' m' (Lv G m' st') v d → Q v H') (getE ρ i st) := h
  cases q : ρ[i]? with
  | none => simp only [getE, q] at h; exact h.elim
  | some o =>
    cases o with
    | none => simp only [getE, q] at h; exact h.elim
    | some d =>
      simp only [getE, q] at h
      obtain ⟨v, e, r⟩ := er.at_ i d q
      exact ⟨v, e, h.ret S v r⟩
theorem se_const {t : TE} {d : D} {v : V} (h : PE X e (tC v)) (r : ∀ G H m L, Rp G H m L v d) : PE X e (tE G b W fun _ => M.ret d) := by
  refine ofE h fun σ H Q h => ?_
  obtain ⟨ρ, m, st, er, S, h⟩ := h
  exact h.ret S v (r _ _ _ _)
/-- two expressions, then something of their values -/
theorem two {α : Type} {R : Hp → List Addr → Store → α → Prop} {k : D → D → M α} (ha : PE X e (tE G b W f)) (hb : PE X e' (tE G b W g)) (I : Inv X pins σ H s) (er : EnvR G H m st σ ρ) (S : Sim G H m st)
    (h : After G b H m st (We G W σ) R (M.thn (f ρ) (fun x => M.thn (g ρ) (k x)) st)) {β : Type} {Q' : β → Shared → Prop} {F : Value → Value → Sem β}
    (hf : ∀ v u s2 x y H2 m2 st2 dx dy, Inv X pins σ H2 s2 → RelV x v → RelV y u → Sim G H2 m2 st2 → EnvR G H2 m2 st2 σ ρ → Rp G H2 m2 (Lv G m2 st2) x dx → Rp G H2 m2 (Lv G m2 st2) y dy → After G b H2 m2 st2 (We G W σ) R (k dx dy st2) →
      wpAny (model X.prog X.w) X.A (F v u) Q' X.xe s2) :
    wpAny (model X.prog X.w) X.A (eval e X.env) (fun v s₁ => wpAny (model X.prog X.w) X.A (eval e' X.env) (fun u s₂ => wpAny (model X.prog X.w) X.A (F v u) Q' X.xe s₂) X.xe s₁) X.xe s := by
  refine bin ha hb I (R := fun x y H2 => ∃ m2 st2 dx dy, Sim G H2 m2 st2 ∧ EnvR G H2 m2 st2 σ ρ ∧ Rp G H2 m2 (Lv G m2 st2) x dx ∧ Rp G H2 m2 (Lv G m2 st2) y dy ∧ After G b H2 m2 st2 (We G W σ) R (k dx dy st2)) ?_ ?_
  · refine (tE.go er S h).mono fun x H1 q => ?_
    obtain ⟨m1, st1, dx, S1, E1, rx, h1⟩ := q
    refine (tE.go (er.ext E1) S1 h1).mono fun y H2 q => ?_
    obtain ⟨m2, st2, dy, S2, E2, ry, h2⟩ := q
    exact ⟨m2, st2, dx, dy, S2, (er.ext E1).ext E2, rx.ext E2, ry, h2⟩
  · rintro v u s2 x y H2 I2 rx ry ⟨m2, st2, dx, dy, S2, er2, r1, r2, h2⟩
    exact hf v u s2 x y H2 m2 st2 dx dy I2 rx ry S2 er2 r1 r2 h2
theorem se_bin {op : Operator} (hK : X.K = G.K) (ha : PE X e (tE G b W f)) (hb : PE X e' (tE G b W g)) :
    PE X (.BinOp e op e' pos) (tE G b W fun ρ => M.thn (f ρ) fun x => M.thn (g ρ) fun y => fun st => M.ofO (binD op (view st x) (view st y)) st) := by
  refine ⟨fun pins s σ H Q I h => ?_⟩
  obtain ⟨ρ, m, st, er, S, h⟩ := h
  refine wpAny_BinOp (two ha hb I er S h fun v u s2 x y H2 m2 st2 dx dy I2 rx ry S2 er2 r1 r2 h2 => ?_)
  obtain ⟨d, hd, h3⟩ := h2.ofO
  exact bin_ok hd hK S2 (view_ok S2 r1) (view_ok S2 r2) (fun H' v S' E' r => h3 H' m2 S' E' v r) I2 rx ry
theorem se_cmpC {op : CmpOp} (hK : X.K = G.K) (hu : X.A.units + 66 < cLine) (ha : PE X e (tE G b W f)) (hb : PE X e' (tE G b W g)) (pins s σ H) (Q : VK) (I : Inv X pins σ H s)
    (h : tE G b W (fun ρ => M.thn (f ρ) fun x => M.thn (g ρ) fun y => fun st => M.ofO ((cmpD op (view st x) (view st y)).map .bl) st) σ H Q) :
    wpAny (model X.prog X.w) X.A (eval e X.env) (fun v s₁ => wpAny (model X.prog X.w) X.A (eval e' X.env) (fun u s₂ => wpAny (model X.prog X.w) X.A (compareOp op v u) (fun w s₃ => ∃ k H', w = .bool k ∧ Inv X pins σ H' s₃ ∧ Q (.bl k) H') X.xe s₂) X.xe s₁) X.xe s := by
  obtain ⟨ρ, m, st, er, S, h⟩ := h
  refine two ha hb I er S h fun v u s2 x y H2 m2 st2 dx dy I2 rx ry S2 er2 r1 r2 h2 => ?_
  obtain ⟨d, hd, h3⟩ := h2.ofO
  obtain ⟨k, hk, rfl⟩ := Option.map_eq_some_iff.mp hd
  refine thn (cmp_ok (Q := fun v H' => v = .bl k ∧ Q (.bl k) H') hk hu hK (view_ok S2 r1) (view_ok S2 r2) I2 rx ry ⟨rfl, h3.ret S2 _ (.bl k)⟩) fun w s3 hw => ?_
  obtain ⟨v', H', I', r', e1, q⟩ := hw
  subst e1
  exact ⟨k, H', r', I', q⟩
theorem se_cmp {op : CmpOp} (hK : X.K = G.K) (hu : X.A.units + 66 < cLine) (ha : PE X e (tE G b W f)) (hb : PE X e' (tE G b W g)) (hm : behindInMarks op e' = false) :
    PE X (.Compare e [op] [e'] pos) (tE G b W fun ρ => M.thn (f ρ) fun x => M.thn (g ρ) fun y => fun st => M.ofO ((cmpD op (view st x) (view st y)).map .bl) st) := by
  refine ⟨fun pins s σ H Q I h => wpAny_Compare1 ?_ hm⟩
  refine thn (se_cmpC hK hu ha hb pins s σ H Q I h) fun v s1 h1 => thn h1 fun u s2 h2 => thn h2 fun w s3 h3 => ?_
  obtain ⟨k, H', rfl, I', q⟩ := h3
  exact ⟨.bl k, H', I', rfl, q⟩
/-- an expression asked for a truth -/
theorem tB.asE {fb : Env → M D} {Q : Bool → Hp → Prop} (h : Ev.tB G b W (fun ρ => M.thn (fb ρ) asB) σ H Q) : tE G b W fb σ H (fun x H1 => ∃ c, x = .bl c ∧ Q c H1) := by
  obtain ⟨ρ, m, st, er, S, h⟩ := h
  refine (tE.go er S h).mono fun x H1 q => ?_
  obtain ⟨m1, st1, dx, S1, E1, rx, h1⟩ := q
  cases dx with
  | bl k =>
    cases rx
    exact ⟨k, rfl, h1.ret S1⟩
  | _ => exact h1.elim
theorem st_cmp {op : CmpOp} (hK : X.K = G.K) (hu : X.A.units + 66 < cLine) (ha : PE X e (tE G b W f)) (hb : PE X e' (tE G b W g)) (hm : behindInMarks op e' = false) :
    PT X (.Compare e [op] [e'] pos) (Ev.tB G b W fun ρ => M.thn (M.thn (f ρ) fun x => M.thn (g ρ) fun y => fun st => M.ofO ((cmpD op (view st x) (view st y)).map .bl) st) asB) := by
  refine ⟨fun pins s σ H Q I h => ?_⟩
  have h' := tB.asE h
  refine wpAny_isTrue_Compare1 ?_ hm
  refine thn (se_cmpC hK hu ha hb pins s σ H _ I h') fun v s1 h1 => thn h1 fun u s2 h2 => thn h2 fun w s3 h3 => ?_
  obtain ⟨k, H', rfl, I', c, e1, q⟩ := h3
  cases e1
  exact wpAny_truthy_bool ⟨H', I', q⟩
theorem st_val {fb : Env → M D} (h : PE X e (tE G b W fb)) (he : ∀ whole, isTrue e X.env whole = (do let v ← whole; standAt e.pos; holding [v] (truthy v))) : PT X e (Ev.tB G b W fun ρ => M.thn (fb ρ) asB) :=
  ofT (pt_val h he) fun σ H Q q => tB.asE q
theorem se_not {t : Env → M Bool} {fb : Env → M D} (h : PE X e (tE G b W fb)) : PE X (.UnaryOp .Not e pos) (tE G b W fun ρ => M.thn (M.thn (fb ρ) asB) fun k => M.ret (.bl (!k))) := by
  refine ofE (pe_not h) fun σ H Q q => ?_
  obtain ⟨ρ, m, st, er, S, h⟩ := q
  have h1 := tB.asE (tB.go (f := fun ρ => M.thn (fb ρ) asB) er S h)
  refine h1.mono fun x H1 q => ?_
  obtain ⟨c, rfl, m1, st1, S1, E1, h2⟩ := q
  exact ⟨c, rfl, h2.ret S1 _ (.bl _)⟩
theorem st_not {fb : Env → M D} (h : PT X e (Ev.tB G b W fun ρ => M.thn (fb ρ) asB)) : PT X (.UnaryOp .Not e pos) (Ev.tB G b W fun ρ => M.thn (M.thn (M.thn (fb ρ) asB) fun k => M.ret (.bl (!k))) asB) := by
  refine ofT (pt_not h) fun σ H Q q => ?_
  obtain ⟨ρ, m, st, er, S, h⟩ := q
  have h0 : After G b H m st (We G W σ) (fun H' m' st' k => Q k H') (M.thn (M.thn (fb ρ) asB) (fun k => M.ret (!k)) st) := by
    have h' := h
    simp only [thn_assoc] at h' ⊢
    exact h'
  obtain ⟨ρ', m', st', er', S', h'⟩ := tB.go (f := fun ρ => M.thn (fb ρ) asB) er S h0
  refine ⟨ρ', m', st', er', S', h'.mono (fun H1 m1 st1 k _ _ q => ?_) fun _ _ h => h⟩
  obtain ⟨m2, st2, S2, E2, h2⟩ := q
  exact h2.ret S2
end
end Ev
set_option linter.all false
set_option maxRecDepth 100000
/-! Ev5: truths, chains, items, displays, calls of built-ins. -/
namespace Ev
open PySem PySem.Spec PyProof.Rows L2
section
variable {X : Cx} {G : Gd} {b : Nat} {W : WX} {pins : List (Addr × Obj)} {s : Shared} {σ : L2.St} {H : Hp} {m : List Addr} {st : Store} {ρ : Env} {f g k : Env → M D} {e e' e2 : Expr} {pos : Pos} {es : List Expr}
abbrev bE (f : Env → M D) (ρ : Env) : M Bool := M.thn (f ρ) asB
abbrev andE (f g : Env → M D) (ρ : Env) : M D := M.thn (bE f ρ) fun k => if k then M.thn (bE g ρ) fun j => M.ret (.bl j) else M.ret (.bl false)
abbrev orE (f g : Env → M D) (ρ : Env) : M D := M.thn (bE f ρ) fun k => if k then M.ret (.bl true) else M.thn (bE g ρ) fun j => M.ret (.bl j)
theorem After.unB {R : Hp → List Addr → Store → D → Prop} {Wσ : Nat → Hp → Prop} {x : M D} (h : After G b H m st Wσ R (M.thn (M.thn x asB) (fun j => M.ret (.bl j)) st)) : After G b H m st Wσ R (x st) := by
  simp only [M.thn] at h
  cases q : x st with
  | ok d st' =>
    rw [q] at h
    cases d with
    | bl j => exact h
    | _ => exact h.elim
  | exc c st' => rw [q] at h; exact h
  | bad => rw [q] at h; exact h
theorem andB (f g : Env → M D) (ρ : Env) : M.thn (andE f g ρ) asB = M.thn (bE f ρ) fun k => if k then bE g ρ else M.ret false := by
  rw [andE, thn_assoc]
  congr 1
  funext k
  cases k with
  | true =>
    simp only [if_true, thn_assoc, thn_ret]
    congr 1
    funext d
    cases d <;> rfl
  | false => rfl
theorem orB (f g : Env → M D) (ρ : Env) : M.thn (orE f g ρ) asB = M.thn (bE f ρ) fun k => if k then M.ret true else bE g ρ := by
  rw [orE, thn_assoc]
  congr 1
  funext k
  cases k with
  | false =>
    simp only [Bool.false_eq_true, if_false, thn_assoc, thn_ret]
    congr 1
    funext d
    cases d <;> rfl
  | true => rfl
theorem se_and (ha : PE X e (tE G b W f)) (hb : PE X (.BoolOp .And (e' :: es) pos) (tE G b W g)) : PE X (.BoolOp .And (e :: e' :: es) pos) (tE G b W (andE f g)) := by
  refine ofE (pe_and ha hb) fun σ H Q q => ?_
  obtain ⟨ρ, m, st, er, S, h⟩ := q
  refine (tB.asE (tB.go (f := bE f) er S h)).mono fun x H1 q => ?_
  obtain ⟨c, rfl, m1, st1, S1, E1, h2⟩ := q
  refine ⟨c, rfl, ?_⟩
  cases c with
  | true =>
    rw [if_pos rfl]
    exact ⟨ρ, m1, st1, er.ext E1, S1, h2.unB⟩
  | false =>
    rw [if_neg Bool.false_ne_true]
    exact h2.ret S1 _ (.bl _)
theorem se_or (ha : PE X e (tE G b W f)) (hb : PE X (.BoolOp .Or (e' :: es) pos) (tE G b W g)) : PE X (.BoolOp .Or (e :: e' :: es) pos) (tE G b W (orE f g)) := by
  refine ofE (pe_or ha hb) fun σ H Q q => ?_
  obtain ⟨ρ, m, st, er, S, h⟩ := q
  refine (tB.asE (tB.go (f := bE f) er S h)).mono fun x H1 q => ?_
  obtain ⟨c, rfl, m1, st1, S1, E1, h2⟩ := q
  refine ⟨c, rfl, ?_⟩
  cases c with
  | false =>
    rw [if_neg Bool.false_ne_true]
    exact ⟨ρ, m1, st1, er.ext E1, S1, h2.unB⟩
  | true =>
    rw [if_pos rfl]
    exact h2.ret S1 _ (.bl _)
theorem sw_and (ha : PT X e (Ev.tB G b W (bE f))) (hb : PW X (.BoolOp .And (e' :: es) pos) (Ev.tB G b W (bE g))) : PW X (.BoolOp .And (e :: e' :: es) pos) (Ev.tB G b W (bE (andE f g))) := by
  refine ofW (pw_and ha hb) fun σ H Q q => ?_
  obtain ⟨ρ, m, st, er, S, h⟩ := q
  have h0 : After G b H m st (We G W σ) (fun H' m' st' k => Q k H') (M.thn (andE f g ρ) asB st) := h
  rw [andB] at h0
  obtain ⟨ρ', m', st', er', S', h'⟩ := tB.go (f := bE f) er S h0
  refine ⟨ρ', m', st', er', S', h'.mono (fun H1 m1 st1 k _ _ q => ?_) fun _ _ h => h⟩
  obtain ⟨m2, st2, S2, E2, h2⟩ := q
  cases k with
  | true => rw [if_pos rfl]; exact ⟨ρ, m2, st2, er.ext E2, S2, h2⟩
  | false => rw [if_neg Bool.false_ne_true]; exact h2.ret S2
theorem sw_or (ha : PT X e (Ev.tB G b W (bE f))) (hb : PW X (.BoolOp .Or (e' :: es) pos) (Ev.tB G b W (bE g))) : PW X (.BoolOp .Or (e :: e' :: es) pos) (Ev.tB G b W (bE (orE f g))) := by
  refine ofW (pw_or ha hb) fun σ H Q q => ?_
  obtain ⟨ρ, m, st, er, S, h⟩ := q
  have h0 : After G b H m st (We G W σ) (fun H' m' st' k => Q k H') (M.thn (orE f g ρ) asB st) := h
  rw [orB] at h0
  obtain ⟨ρ', m', st', er', S', h'⟩ := tB.go (f := bE f) er S h0
  refine ⟨ρ', m', st', er', S', h'.mono (fun H1 m1 st1 k _ _ q => ?_) fun _ _ h => h⟩
  obtain ⟨m2, st2, S2, E2, h2⟩ := q
  cases k with
  | false => rw [if_neg Bool.false_ne_true]; exact ⟨ρ, m2, st2, er.ext E2, S2, h2⟩
  | true => rw [if_pos rfl]; exact h2.ret S2
theorem se_ite {t : Env → M D} (hc : PT X e2 (Ev.tB G b W (bE t))) (ha : PE X e (tE G b W f)) (hb : PE X e' (tE G b W g)) : PE X (.IfExp e2 e e' pos) (tE G b W fun ρ => M.thn (bE t ρ) fun k => if k then f ρ else g ρ) := by
  refine ofE (pe_ifExp hc ha hb) fun σ H Q q => ?_
  obtain ⟨ρ, m, st, er, S, h⟩ := q
  obtain ⟨ρ', m', st', er', S', h'⟩ := tB.go (f := bE t) er S h
  refine ⟨ρ', m', st', er', S', h'.mono (fun H1 m1 st1 k _ _ q => ?_) fun _ _ h => h⟩
  obtain ⟨m2, st2, S2, E2, h2⟩ := q
  cases k with
  | true => rw [if_pos rfl]; exact ⟨ρ, m2, st2, er.ext E2, S2, h2⟩
  | false => rw [if_neg Bool.false_ne_true]; exact ⟨ρ, m2, st2, er.ext E2, S2, h2⟩
theorem st_ite {t : Env → M D} (hc : PT X e2 (Ev.tB G b W (bE t))) (ha : PT X e (Ev.tB G b W (bE f))) (hb : PT X e' (Ev.tB G b W (bE g))) :
    PT X (.IfExp e2 e e' pos) (Ev.tB G b W (bE fun ρ => M.thn (bE t ρ) fun k => if k then f ρ else g ρ)) := by
  refine ⟨fun pins s σ H Q I q => ?_⟩
  obtain ⟨ρ, m, st, er, S, h⟩ := q
  have h0 : After G b H m st (We G W σ) (fun H' m' st' k => Q k H') (M.thn (M.thn (bE t ρ) fun k => if k then f ρ else g ρ) asB st) := h
  rw [thn_assoc] at h0
  have hd : wpAny (model X.prog X.w) X.A (do if ← PySem.isTrue e2 X.env (eval e2 X.env) then PySem.isTrue e X.env (eval e X.env) else PySem.isTrue e' X.env (eval e' X.env)) (TP X pins σ Q) X.xe s := by
    refine wpAny_bind (thn (hc.run pins s σ H _ I (tB.go (f := bE t) er S h0)) fun k s1 hk => ?_)
    obtain ⟨H1, I1, m2, st2, S2, E2, h2⟩ := hk
    cases k with
    | true => exact ha.run pins s1 σ H1 Q I1 ⟨ρ, m2, st2, er.ext E2, S2, h2⟩
    | false => exact hb.run pins s1 σ H1 Q I1 ⟨ρ, m2, st2, er.ext E2, S2, h2⟩
  simpa only [PySem.isTrue] using hd
theorem se_neg (ha : PE X e (tE G b W f)) : PE X (.UnaryOp .USub e pos) (tE G b W fun ρ => M.thn (f ρ) fun x => match x with | .int i => M.ret (.int (-i)) | _ => M.bad) := by
  refine ofE (pe_un un_neg ha) fun σ H Q q => ?_
  obtain ⟨ρ, m, st, er, S, h⟩ := q
  refine (tE.go er S h).mono fun x H1 q => ?_
  obtain ⟨m1, st1, dx, S1, E1, rx, h2⟩ := q
  cases dx with
  | int i => cases rx; exact ⟨i, rfl, h2.ret S1 _ (.int _)⟩
  | _ => exact h2.elim
theorem se_idx (hK : X.K = G.K) (ha : PE X e (tE G b W f)) (hb : PE X e' (tE G b W g)) (hp : PlainIx e') :
    PE X (.Subscript e e' pos) (tE G b W fun ρ => M.thn (f ρ) fun x => M.thn (g ρ) fun y => fun st => M.ofO (idxD (view st x) y) st) := by
  refine ofE (pe_ix ix_seq ha hb hp) fun σ H Q q => ?_
  obtain ⟨ρ, m, st, er, S, h⟩ := q
  refine (tE.go er S h).mono fun x H1 q => ?_
  obtain ⟨m1, st1, dx, S1, E1, rx, h1⟩ := q
  refine (tE.go (er.ext E1) S1 h1).mono fun y H2 q => ?_
  obtain ⟨m2, st2, dy, S2, E2, ry, h2⟩ := q
  obtain ⟨d, hd, h3⟩ := h2.ofO
  obtain ⟨w, hw, hq⟩ := idx_ok hd hK S2 (view_ok S2 (rx.ext E2)) ry
  exact hq Q (h3.ret S2 w hw)
/-- a part of a slice -/
def tOp_ (G : Gd) (b : Nat) (W : WX) (f : Env → M (Option Int)) : TO := fun σ H Q => ∃ ρ m st, EnvR G H m st σ ρ ∧ Sim G H m st ∧ After G b H m st (We G W σ) (fun H' m' st' k => Q k H') (f ρ st)
theorem tOp_.go {β : Type} {R : Hp → List Addr → Store → β → Prop} {f : Env → M (Option Int)} {g : Option Int → M β} (er : EnvR G H m st σ ρ) (S : Sim G H m st) (h : After G b H m st (We G W σ) R (M.thn (f ρ) g st)) :
    tOp_ G b W f σ H (fun k H' => ∃ m' st', Sim G H' m' st' ∧ Ext G b H m st H' m' st' ∧ After G b H' m' st' (We G W σ) R (g k st')) :=
  ⟨ρ, m, st, er, S, (h.thn S).mono (fun H' m' st' d s' e h => ⟨m', st', s', e, h⟩) fun _ _ h => h⟩
theorem tOp_.mono {f : Env → M (Option Int)} {Q Q' : Option Int → Hp → Prop} (h : tOp_ G b W f σ H Q) (q : ∀ k H', Q k H' → Q' k H') : tOp_ G b W f σ H Q' := by
  obtain ⟨ρ, m, st, er, S, h⟩ := h
  exact ⟨ρ, m, st, er, S, h.mono (fun H' m' st' d _ _ h => q _ _ h) fun _ _ h => h⟩
theorem so_none : PO X none (tOp_ G b W fun _ => M.ret none) := ⟨fun pins s σ H Q I h => by
  obtain ⟨ρ, m, st, er, S, h⟩ := h
  exact po_none.run pins s σ H Q I (h.ret S)⟩
theorem so_some (ha : PE X e (tE G b W f)) : PO X (some e) (tOp_ G b W fun ρ => M.thn (f ρ) asI) := ⟨fun pins s σ H Q I h => by
  obtain ⟨ρ, m, st, er, S, h⟩ := h
  refine (po_some ha).run pins s σ H Q I ((tE.go er S h).mono fun x H1 q => ?_)
  obtain ⟨m1, st1, dx, S1, E1, rx, h2⟩ := q
  cases dx with
  | int i => cases rx; exact ⟨i, rfl, h2.ret S1⟩
  | _ => exact h2.elim⟩
theorem se_slc {lo hi : Option Expr} {fl fh : Env → M (Option Int)} {p2 : Pos} (hK : X.K = G.K) (ha : PE X e (tE G b W f)) (hl : PO X lo (tOp_ G b W fl)) (hh : PO X hi (tOp_ G b W fh)) :
    PE X (.Subscript e (.Slice lo hi none p2) pos) (tE G b W fun ρ => M.thn (f ρ) fun x => M.thn (fl ρ) fun l => M.thn (fh ρ) fun h => fun st => M.ofO (slcD (view st x) l h) st) := by
  refine ofE (pe_slice sl_D ha hl hh) fun σ H Q q => ?_
  obtain ⟨ρ, m, st, er, S, h⟩ := q
  refine (tE.go er S h).mono fun x H1 q => ?_
  obtain ⟨m1, st1, dx, S1, E1, rx, h1⟩ := q
  refine (tOp_.go (er.ext E1) S1 h1).mono fun l H2 q => ?_
  obtain ⟨m2, st2, S2, E2, h2⟩ := q
  refine (tOp_.go ((er.ext E1).ext E2) S2 h2).mono fun u H3 q => ?_
  obtain ⟨m3, st3, S3, E3, h3⟩ := q
  obtain ⟨d, hd, h4⟩ := h3.ofO
  exact slc_ok hd hK S3 (view_ok S3 ((rx.ext E2).ext E3)) fun H' v S' E' r => h4 H' m3 S' E' v r
/-! ### arguments, displays -/
theorem sa_nil : PA X [] (tEs G b W fun _ => M.ret []) := ofA pa_nil fun σ H Q q => by
  obtain ⟨ρ, m, st, er, S, h⟩ := q
  exact h.ret S [] .nil
theorem sa_cons {fs : Env → M (List D)} (ha : PE X e (tE G b W f)) (hr : PA X es (tEs G b W fs)) (hs : starEach (e :: es) X.env = (false, eval e X.env) :: starEach es X.env) :
    PA X (e :: es) (tEs G b W fun ρ => M.thn (f ρ) fun x => M.thn (fs ρ) fun xs => M.ret (x :: xs)) := by
  refine ofA (pa_cons ha hr hs) fun σ H Q q => ?_
  obtain ⟨ρ, m, st, er, S, h⟩ := q
  refine (tE.go er S h).mono fun x H1 q => ?_
  obtain ⟨m1, st1, dx, S1, E1, rx, h1⟩ := q
  obtain ⟨ρ', m', st', er', S', h'⟩ := tEs.go (er.ext E1) S1 h1
  refine ⟨ρ', m', st', er', S', h'.mono (fun H2 m2 st2 ds _ _ q vs r => ?_) fun _ _ h => h⟩
  obtain ⟨m3, st3, ds', S3, E3, r3, h3⟩ := q vs r
  exact h3.ret S3 _ (.cons (rx.ext E3) r3)
theorem tEs.mono {f : Env → M (List D)} {Q Q' : List V → Hp → Prop} (h : tEs G b W f σ H Q) (q : ∀ v H', Q v H' → Q' v H') : tEs G b W f σ H Q' := by
  obtain ⟨ρ, m, st, er, S, h⟩ := h
  exact ⟨ρ, m, st, er, S, h.mono (fun H' m' st' d _ _ h v r => q _ _ (h v r)) fun _ _ h => h⟩
theorem se_tup {fs : Env → M (List D)} {x1 : Nat} (ha : PA X es (tEs G b W fs)) : PE X (.Tuple es x1 pos) (tE G b W fun ρ => M.thn (fs ρ) fun xs => if okSize xs.length then M.ret (.tup xs) else M.bad) := by
  refine ofE (pe_tup ha) fun σ H Q q => ?_
  obtain ⟨ρ, m, st, er, S, h⟩ := q
  refine (tEs.go er S h).mono fun vs H1 q => ?_
  obtain ⟨m1, st1, ds, S1, E1, r, h1⟩ := q
  obtain ⟨hz, h2⟩ := h1.if_
  refine ⟨by rw [r.length]; exact okSize_le hz, fun p hp => ?_⟩
  exact Res2.newT (b := b) S1 (fun H' v S' E' r' => h2 H' m1 S' E' v r') hp r
/-- a list just made, at a place of its own -/
def tN (G : Gd) (b : Nat) (W : WX) (f : Env → M (List D)) : TE := fun σ H Q => ∃ ρ m st, EnvR G H m st σ ρ ∧ Sim G H m st ∧
  After G b H m st (We G W σ) (fun H' m' st' ds => ∀ p vs, H' p = none → RpAll G H' m' (Lv G m' st') vs ds → Q (.ref p) (upd H' p (.lst vs))) (f ρ st)
theorem tN.new {fs : Env → M (List D)} {Q : VK} (h : tE G b W (fun ρ => M.thn (fs ρ) fun xs => M.ret (.lst xs)) σ H Q) : tN G b W fs σ H Q := by
  obtain ⟨ρ, m, st, er, S, h⟩ := h
  refine ⟨ρ, m, st, er, S, (h.thn S).mono (fun H' m' st' ds S' E' q p vs hp r => ?_) fun _ _ h => h⟩
  exact Res2.newL (b := b) S' (fun H'' v S'' E'' r' => q H'' m' S'' E'' v r') hp r
theorem tN.newm {fs : Env → M (List D)} {Q : VK} (h : tE G b W (fun ρ => M.thn (fs ρ) fun xs => alloc (.lst xs)) σ H Q) : tN G b W fs σ H Q := by
  obtain ⟨ρ, m, st, er, S, h⟩ := h
  refine ⟨ρ, m, st, er, S, (h.thn S).mono (fun H' m' st' ds S' E' q p vs hp r => ?_) fun _ _ h => h⟩
  obtain ⟨S2, E2⟩ := S'.alloc (b := b) hp r
  refine q _ _ S2 E2 _ (.ref ?_)
  rw [← S'.len]
  simp
theorem sn_lst {fs : Env → M (List D)} (ha : PA X es (tEs G b W fs)) : PE X (.List es pos) (tN G b W fun ρ => M.thn (fs ρ) fun xs => if okSize xs.length then M.ret xs else M.bad) := by
  refine ofE (pe_lst ha) fun σ H Q q => ?_
  obtain ⟨ρ, m, st, er, S, h⟩ := q
  refine (tEs.go er S h).mono fun vs H1 q => ?_
  obtain ⟨m1, st1, ds, S1, E1, r, h1⟩ := q
  obtain ⟨hz, h2⟩ := h1.if_
  exact ⟨by rw [r.length]; exact okSize_le hz, fun p hp => h2.ret S1 p vs hp r⟩
end
end Ev
set_option linter.all false
set_option maxRecDepth 100000
/-! Ev6: chains, built-ins by name, defs of the program called. -/
namespace Ev
open PySem PySem.Spec PyProof.Rows L2
section
variable {X : Cx} {G : Gd} {b : Nat} {W : WX} {pins : List (Addr × Obj)} {s : Shared} {σ : L2.St} {H : Hp} {m : List Addr} {st : Store} {ρ : Env} {f g k : Env → M D} {e e' e2 : Expr} {pos p : Pos} {es : List Expr}
/-- a comparison by values -/
def rC (G : Gd) (op : CmpOp) : R2 := fun x y H Q => ∃ m st d e k, Rv G H m (Lv G m st) x d ∧ Rv G H m (Lv G m st) y e ∧ cmpD op d e = some k ∧ Q (.bl k) H
theorem op_C {op : CmpOp} (hK : X.K = G.K) (hu : X.A.units + 66 < cLine) : OpR X (compareOp op) (rC G op) := by
  intro pins s σ H x y v u Q I rx ry h
  obtain ⟨m, st, d, e, k, r1, r2, hk, q⟩ := h
  exact cmp_ok hk hu hK r1 r2 I rx ry q
abbrev chE (op op' : CmpOp) (f g k : Env → M D) (ρ : Env) : M D := M.thn (f ρ) fun x => M.thn (g ρ) fun y => fun st => M.thn (M.ofO (cmpD op (view st x) (view st y))) (fun c => if c then
  M.thn (k ρ) fun z => fun st => M.ofO ((cmpD op' (view st y) (view st z)).map .bl) st else M.ret (.bl false)) st
theorem ch_read {op op' : CmpOp} {Q : VK} (hK : X.K = G.K) (h : tE G b W (chE op op' f g k) σ H Q) : tChain (rC G op) (rC G op') (tE G b W f) (tE G b W g) (tE G b W k) σ H Q := by
  obtain ⟨ρ, m, st, er, S, h⟩ := h
  refine (tE.go er S h).mono fun x H1 q => ?_
  obtain ⟨m1, st1, dx, S1, E1, rx, h1⟩ := q
  refine (tE.go (er.ext E1) S1 h1).mono fun y H2 q => ?_
  obtain ⟨m2, st2, dy, S2, E2, ry, h2⟩ := q
  have h3 := h2.thn S2
  obtain ⟨c, hc, h4⟩ := h3.ofO
  refine ⟨m2, st2, _, _, c, view_ok S2 (rx.ext E2), view_ok S2 ry, hc, c, rfl, ?_⟩
  have h5 := h4.ret S2
  cases c with
  | true =>
    rw [if_pos rfl]
    refine (tE.go ((er.ext E1).ext E2) S2 h5).mono fun z H3 q => ?_
    obtain ⟨m3, st3, dz, S3, E3, rz, h6⟩ := q
    obtain ⟨d, hd, h7⟩ := h6.ofO
    obtain ⟨j, hj, rfl⟩ := Option.map_eq_some_iff.mp hd
    exact ⟨m3, st3, _, _, j, view_ok S3 (ry.ext E3), view_ok S3 rz, hj, h7.ret S3 _ (.bl j)⟩
  | false =>
    rw [if_neg Bool.false_ne_true]
    exact h5.ret S2 _ (.bl false)
theorem se_ch {op op' : CmpOp} (hK : X.K = G.K) (hu : X.A.units + 66 < cLine) (ha : PE X e (tE G b W f)) (hb : PE X e' (tE G b W g)) (hc : PE X e2 (tE G b W k)) (hm : lastMarks [op, op'] [e', e2] = false) :
    PE X (.Compare e [op, op'] [e', e2] pos) (tE G b W (chE op op' f g k)) := ofE (pe_chain (op_C hK hu) (op_C hK hu) ha hb hc hm) fun σ H Q q => ch_read hK q
theorem st_ch {op op' : CmpOp} (hK : X.K = G.K) (hu : X.A.units + 66 < cLine) (ha : PE X e (tE G b W f)) (hb : PE X e' (tE G b W g)) (hc : PE X e2 (tE G b W k)) (hm : lastMarks [op, op'] [e', e2] = false) :
    PT X (.Compare e [op, op'] [e', e2] pos) (Ev.tB G b W (bE (chE op op' f g k))) := ofT (pt_chain (op_C hK hu) (op_C hK hu) ha hb hc hm) fun σ H Q q => by
  exact ch_read hK (tB.asE q)
theorem se_frz (ha : PE X e (tE G b W f)) : PE X e (tE G b W fun ρ => M.thn (f ρ) fun x => fun st => match x with
    | .ref l => match st[l]? with
      | some (.lst xs) => .ok (.lst xs) (st.set l .dead)
      | some (.dct ks vs) => .ok (.dct ks vs) (st.set l .dead)
      | _ => .bad
    | _ => .bad) := by
  refine ofE ha fun σ H Q q => ?_
  obtain ⟨ρ, m, st, er, S, h⟩ := q
  refine (tE.go er S h).mono fun x H1 q => ?_
  obtain ⟨m1, st1, dx, S1, E1, rx, h1⟩ := q
  cases dx with
  | ref l =>
    cases rx with
    | ref hm =>
      cases q : st1[l]? with
      | none => simp only [q] at h1; exact h1.elim
      | some c =>
        cases c with
        | dead => simp only [q] at h1; exact h1.elim
        | lst ds =>
          simp only [q] at h1
          obtain ⟨S2, E2, r2⟩ := S1.freeze (b := b) q hm
          exact h1 _ _ S2 E2 _ r2
        | dct ks vs => exact (S1.cell l _ _ q hm).elim
  | _ => exact h1.elim

/-! ### built-ins -/
def bltN : Blt → Str
  | .len => "len" | .abs => "abs" | .int => "int" | .sum => "sum" | .max => "max" | .any => "any" | .all => "all" | .repr => "repr" | .isi _ => "isinstance" | .tuple => "tuple"
theorem bltN_boot (bl : Blt) : bootBuiltins (bltN bl) = some (bltV bl) := by
  cases bl <;> first | (show bootBuiltins _ = some _; decide +kernel) | exact (show bootBuiltins "isinstance" = some (.builtin "isinstance") by decide +kernel)
theorem bltN_ok (bl : Blt) : bltN bl ≠ "__name__" ∧ (bltN bl == ("__debug__" : Str)) = false := by
  cases bl <;> (constructor <;> (show _; simp only [bltN]; decide +kernel))
theorem tyN_boot (t : Ty) (ht : t ≠ .none) : bootBuiltins (Str.ofString t.name) = some (.type t.name) := by
  cases t <;> first | exact absurd rfl ht | (show bootBuiltins _ = some _; simp only [Ty.name]; decide +kernel)
theorem tyN_ok (t : Ty) : Str.ofString t.name ≠ "__name__" ∧ (Str.ofString t.name == ("__debug__" : Str)) = false := by
  cases t <;> (constructor <;> (simp only [Ty.name]; decide +kernel))
/-- the written arguments of a built-in -/
inductive BltArgs : Blt → Expr → List Expr → Prop
  | one {bl : Blt} {e : Expr} : bltMore bl = [] → BltArgs bl e [e]
  | isi {t : Ty} {e : Expr} {p : Pos} : t ≠ .none → BltArgs (.isi t) e [e, .Name (Str.ofString t.name) p]
theorem se_blt {bl : Blt} (hK : X.K = G.K) (hu : X.A.units + 66 < cLine) (hg : bl = .repr → X.A.guards = some []) (hc : X.calm = true) (ha : PE X e (tE G b W f)) (hs : ∀ es, starEach (e :: es) X.env = (false, eval e X.env) :: starEach es X.env)
    (h1 : Gl X (bltN bl)) (h2 : X.mg (bltN bl) = none) (hes : BltArgs bl e es) (h3 : ∀ t, bl = .isi t → Gl X (Str.ofString t.name) ∧ X.mg (Str.ofString t.name) = none) :
    PE X (.Call (.Name (bltN bl) p) es [] pos) (tE G b W fun ρ => M.thn (f ρ) fun x => fun st => M.ofO (bltD bl (view st x)) st) := by
  refine ⟨fun pins s σ H Q I h => ?_⟩
  obtain ⟨ρ, m, st, er, S, h⟩ := h
  have hst : ∃ rest, es = e :: rest ∧ (backTo pos (starEach rest X.env)).any (·.1) = false := by
    cases hes with
    | one _ => exact ⟨[], rfl, rfl⟩
    | isi _ => exact ⟨_, rfl, rfl⟩
  have args : ∃ ta : TA, PA X es ta ∧ ∀ (Q : List V → Hp → Prop), tE G b W f σ H (fun x H1 => Q (x :: bltMore bl) H1) → ta σ H Q := by
    cases hes with
    | one hm => exact ⟨_, pa_cons ha pa_nil (hs _), fun Q q => q.mono fun x H1 q => by rw [hm] at q; exact q⟩
    | @isi t _ p' ht =>
      have hT := h3 t rfl
      have pT : PE X (.Name (Str.ofString t.name) p') (tC (.ty t.name)) := pe_bltn hT.1 hT.2 (tyN_boot t ht) rfl (tyN_ok t).1 (tyN_ok t).2
      exact ⟨_, pa_cons ha (pa_cons pT pa_nil rfl) (hs _), fun Q q => q⟩
  obtain ⟨ta, hta, hread⟩ := args
  obtain ⟨rest, he, hpl⟩ := hst
  have run : wpAny (model X.prog X.w) X.A (spliced (backTo pos (starEach es X.env))) (fun us s1 => wpAny (model X.prog X.w) X.A (call (bltV bl) us) (EP X pins σ Q) X.xe s1) X.xe s := by
    have q0 : ta σ H (fun vs H1 => ∃ x, vs = x :: bltMore bl ∧ ∃ m' st' d, Sim G H1 m' st' ∧ Ext G b H m st H1 m' st' ∧ Rp G H1 m' (Lv G m' st') x d ∧
        After G b H1 m' st' (We G W σ) (fun H' m' st' d => ∀ v, Rp G H' m' (Lv G m' st') v d → Q v H') (M.ofO (bltD bl (view st' d)) st')) :=
      hread _ ((tE.go er S h).mono fun x H1 q => ⟨x, rfl, q⟩)
    refine thn (hta.run pos pins s σ H _ I q0) fun us s1 hh => ?_
    obtain ⟨vs, H1, I1, r, x, rfl, m1, st1, d, S1, E1, rx, h2⟩ := hh
    obtain ⟨o, ho, h3⟩ := h2.ofO
    exact blt_ok ho hu hg hc hK S1 (view_ok S1 rx) (fun H' v S' E' r => h3 H' m1 S' E' v r) I1 r
  refine wpAny_Call_Name_kw (ld_blt I h1 h2 (bltN_boot bl) ?_ (bltN_ok bl).1 (bltN_ok bl).2)
  subst he
  have builtin : ∀ id, bltV bl = .builtin id → wpAny (model X.prog X.w) X.A (callWith pos (bltV bl) [] (backTo pos (starEach (e :: rest) X.env)) (backToKw pos (keywordEach [] X.env))) (EP X pins σ Q) X.xe s := fun id q => by
    rw [q] at run ⊢
    exact PyProof.Rows.callWith_builtin1 run (hs _) hpl
  have typ : ∀ T, bltV bl = .type T → wpAny (model X.prog X.w) X.A (callWith pos (bltV bl) [] (backTo pos (starEach (e :: rest) X.env)) (backToKw pos (keywordEach [] X.env))) (EP X pins σ Q) X.xe s := fun T q => by
    rw [q] at run ⊢
    exact PyProof.Rows.callWith_type1 run (hs _) hpl
  cases bl with
  | int => exact typ _ rfl
  | tuple => exact typ _ rfl
  | len => exact builtin _ rfl
  | abs => exact builtin _ rfl
  | sum => exact builtin _ rfl
  | max => exact builtin _ rfl
  | any => exact builtin _ rfl
  | all => exact builtin _ rfl
  | repr => exact builtin _ rfl
  | isi t => exact builtin _ rfl
end
end Ev
set_option linter.all false
set_option maxRecDepth 100000
/-! Ev7: a def of the program: called, run, left. -/
namespace Ev
open PySem PySem.Spec PyProof.Rows L2
section
variable {G : Gd} {b : Nat} {H H' : Hp} {m m' : List Addr} {st st' : Store}
theorem Ext.any (e : Ext G st.length H m st H' m' st') : Ext G b H m st H' m' st' :=
  ⟨e.keep, e.pre, e.res, fun l n c c' _ h1 h2 h3 => e.low l n c c' (List.getElem?_eq_some_iff.mp h1).1 h1 h2 h3⟩
theorem After.any {α : Type} {R : Hp → List Addr → Store → α → Prop} {W : Nat → Hp → Prop} {r : Res α} (h : After G b H m st W R r) : After G st.length H m st W R r := by
  cases r with
  | ok d st' => exact fun H' m' s e => h H' m' s e.any
  | exc c st' => exact fun H' m' s e => h H' m' s e.any
  | bad => exact h
theorem Cell.low_of (S : Sim G H m st) {l : Nat} {c : Cell} (h : st[l]? = some c) : c.low st.length = true := by
  obtain ⟨a, ha⟩ := S.addr h
  have r := S.cell l c a h ha
  cases c with
  | dead => rfl
  | lst ds =>
    obtain ⟨xs, _, r⟩ := r
    have := r.low
    rw [S.len] at this
    exact this
  | dct _ _ => exact r.elim
theorem take_get {α : Type} {l : List α} {n i : Nat} {x : α} (h : (l.take n)[i]? = some x) : i < n ∧ l[i]? = some x := by
  rw [List.getElem?_take] at h
  split at h
  · exact ⟨by assumption, h⟩
  · cases h
/-- what a frame made is let go -/
theorem Sim.cut (S : Sim G H m st) (S' : Sim G H' m' st') (E : Ext G st.length H m st H' m' st') :
    Sim G H' (m'.take st.length) (st'.take st.length) ∧ Ext G st.length H m st H' (m'.take st.length) (st'.take st.length) ∧ ∀ {v : V} {d : D}, d.low st.length = true → Rp G H' m' (Lv G m' st') v d → Rp G H' (m'.take st.length) (Lv G (m'.take st.length) (st'.take st.length)) v d := by
  have lv : ∀ a, Lv G (m'.take st.length) (st'.take st.length) a → Lv G m' st' a := fun a h => by
    rcases h with ⟨l, xs, h1, h2⟩ | h
    · exact .inl ⟨l, xs, (take_get h1).2, (take_get h2).2⟩
    · exact .inr h
  have hlen := E.length S S'
  have hm : m'.length = st'.length := S'.len
  refine ⟨⟨by simp [hm], ?_, fun a h => S'.dom a (List.mem_of_mem_take h), fun l c a h1 h2 => ?_, fun a h => ⟨(S'.res a h).1, fun q => (S'.res a h).2 (List.mem_of_mem_take q)⟩, fun a h => S'.nt a (h.imp List.mem_of_mem_take id), S'.tab⟩, ⟨fun a f => ⟨(E.keep a f).1, fun q => (E.keep a f).2 (lv a q)⟩, fun l a h => ?_, E.res, fun l n c c' hl h1 h2 h3 => E.low l n c c' hl h1 (take_get h2).2 h3⟩,
    fun {v d} hd r => (r.cut hd).mono (fun a f => ⟨rfl, fun q => f.2 (lv a q)⟩) fun _ _ h => h⟩
  · exact S'.nd.sublist (List.take_sublist _ _)
  · obtain ⟨hl, h1'⟩ := take_get h1
    obtain ⟨_, h2'⟩ := take_get h2
    have r := S'.cell l c a h1' h2'
    cases c with
    | dead => trivial
    | lst ds =>
      obtain ⟨xs, e, r⟩ := r
      have hlow : D.lows st.length ds = true := E.low l st.length st[l] (.lst ds) hl (List.getElem?_eq_getElem hl) h1' (Cell.low_of S (List.getElem?_eq_getElem hl))
      exact ⟨xs, e, (r.cut hlow).mono (fun a f => ⟨rfl, fun q => f.2 (lv a q)⟩) fun _ _ h => h⟩
    | dct _ _ => exact r
  · have hl : l < st.length := by rw [← S.len]; exact (List.getElem?_eq_some_iff.mp h).1
    rw [List.getElem?_take, if_pos hl]
    exact E.pre l a h
/-- .. but one thing, which is handed out -/
theorem Sim.cutMove (S : Sim G H m st) (S' : Sim G H' m' st') (E : Ext G st.length H m st H' m' st') {l : Nat} {c : Cell} {a : Addr} (hl : st.length ≤ l) (h1 : st'[l]? = some c) (h2 : m'[l]? = some a) (hc : c.plain = true) :
    Sim G H' (m'.take st.length ++ [a]) (st'.take st.length ++ [c]) ∧ Ext G st.length H m st H' (m'.take st.length ++ [a]) (st'.take st.length ++ [c]) ∧
      Rp G H' (m'.take st.length ++ [a]) (Lv G (m'.take st.length ++ [a]) (st'.take st.length ++ [c])) (.ref a) (.ref st.length) := by
  obtain ⟨S2, E2, _⟩ := S.cut S' E
  have hlen := E.length S S'
  have hml : (m'.take st.length).length = st.length := by rw [List.length_take, S'.len]; omega
  have hsl : (st'.take st.length).length = st.length := by rw [List.length_take]; omega
  have na : a ∉ m'.take st.length := fun q => by
    obtain ⟨i, hi⟩ := List.getElem?_of_mem q
    obtain ⟨hi1, hi2⟩ := take_get hi
    obtain ⟨i1, e1⟩ := List.getElem?_eq_some_iff.mp hi2
    obtain ⟨i2, e2⟩ := List.getElem?_eq_some_iff.mp h2
    have := (List.getElem_inj S'.nd).mp (e1.trans e2.symm)
    omega
  have lv : ∀ p, Lv G (m'.take st.length ++ [a]) (st'.take st.length ++ [c]) p → Lv G m' st' p := fun p h => by
    rcases h with ⟨k, xs, g1, g2⟩ | h
    · left
      by_cases hk : k < st.length
      · rw [List.getElem?_append_left (by rw [hsl]; exact hk)] at g1
        rw [List.getElem?_append_left (by rw [hml]; exact hk)] at g2
        exact ⟨k, xs, (take_get g1).2, (take_get g2).2⟩
      · rw [List.getElem?_append_right (by rw [hsl]; omega), hsl] at g1
        rw [List.getElem?_append_right (by rw [hml]; omega), hml] at g2
        cases q : k - st.length with
        | zero =>
          rw [q] at g1 g2
          simp at g1 g2
          subst g1; subst g2
          exact ⟨l, xs, h1, h2⟩
        | succ j => rw [q] at g1; simp at g1
    · exact .inr h
  have mono : ∀ {vs : List V} {ds : List D}, D.lows st.length ds = true → RpAll G H' m' (Lv G m' st') vs ds → RpAll G H' (m'.take st.length ++ [a]) (Lv G (m'.take st.length ++ [a]) (st'.take st.length ++ [c])) vs ds := fun {vs ds} hd r =>
    (r.cut hd).mono (fun p f => ⟨rfl, fun q => f.2 (lv p q)⟩) fun i p h => by rw [List.getElem?_append_left (List.getElem?_eq_some_iff.mp h).1]; exact h
  have hlt : l < st'.length := (List.getElem?_eq_some_iff.mp h1).1
  refine ⟨⟨by simp [hml, hsl], nodup_snoc S2.nd na, fun p h => ?_, fun k c' p g1 g2 => ?_, fun p h => ⟨(S'.res p h).1, fun q => ?_⟩, fun p h => S'.nt p (h.imp (fun h => (List.mem_append.mp h).elim List.mem_of_mem_take fun z => by simp at z; subst z; exact List.mem_of_getElem? h2) id), S'.tab⟩, ⟨fun p f => ⟨(E.keep p f).1, fun q => (E.keep p f).2 (lv p q)⟩, fun k p h => ?_, E.res, fun k n c1 c2 hk g1 g2 g3 => ?_⟩, .ref ?_⟩
  · rcases List.mem_append.mp h with h | h
    · exact S2.dom p h
    · simp at h; subst h; exact S'.dom _ (List.mem_of_getElem? h2)
  · by_cases hk : k < st.length
    · rw [List.getElem?_append_left (by rw [hsl]; exact hk)] at g1
      rw [List.getElem?_append_left (by rw [hml]; exact hk)] at g2
      have r := S'.cell k c' p (take_get g1).2 (take_get g2).2
      cases c' with
      | dead => trivial
      | lst ds =>
        obtain ⟨xs, e, r⟩ := r
        exact ⟨xs, e, mono (E.low k st.length st[k] (.lst ds) hk (List.getElem?_eq_getElem hk) (take_get g1).2 (Cell.low_of S (List.getElem?_eq_getElem hk))) r⟩
      | dct _ _ => exact r
    · rw [List.getElem?_append_right (by rw [hsl]; omega), hsl] at g1
      rw [List.getElem?_append_right (by rw [hml]; omega), hml] at g2
      cases q : k - st.length with
      | zero =>
        rw [q] at g1 g2
        simp at g1 g2
        subst g1; subst g2
        have r := S'.cell l c a h1 h2
        cases c with
        | dead => trivial
        | lst ds =>
          obtain ⟨xs, e, r⟩ := r
          exact ⟨xs, e, mono (D.lows_plain _ _ hc) r⟩
        | dct _ _ => exact r
      | succ j => rw [q] at g1; simp at g1
  · rcases List.mem_append.mp q with q | q
    · exact (S'.res p h).2 (List.mem_of_mem_take q)
    · simp at q; subst q; exact (S'.res _ h).2 (List.mem_of_getElem? h2)
  · have hk : k < st.length := by rw [← S.len]; exact (List.getElem?_eq_some_iff.mp h).1
    rw [List.getElem?_append_left (by rw [hml]; exact hk), List.getElem?_take, if_pos hk]
    exact E.pre k p h
  · have hk' : k < st.length := (List.getElem?_eq_some_iff.mp g1).1
    rw [List.getElem?_append_left (by rw [hsl]; exact hk')] at g2
    exact E.low k n c1 c2 hk g1 (take_get g2).2 g3
  · have e : (m'.take st.length)[st.length]? = none := List.getElem?_eq_none_iff.mpr (by rw [hml]; exact Nat.le_refl _)
    rw [List.getElem?_append_right (by rw [hml]; exact Nat.le_refl _), hml]
    simp
/-- a frame is left -/
theorem leave_ok {W : Nat → Hp → Prop} {R : Hp → List Addr → Store → D → Prop} {d : D} (S : Sim G H m st) (h : After G st.length H m st W R (leave st.length d st')) (S' : Sim G H' m' st') (E : Ext G st.length H m st H' m' st') {v : V} (r : Rp G H' m' (Lv G m' st') v d) :
    ∃ m2 st2 d2, R H' m2 st2 d2 ∧ Rp G H' m2 (Lv G m2 st2) v d2 := by
  obtain ⟨S2, E2, C2⟩ := S.cut S' E
  unfold leave at h
  split at h
  · exact ⟨m', st', d, h H' m' S' E, r⟩
  · split at h
    · rename_i hp
      exact ⟨_, _, d, h H' _ S2 E2, C2 (D.low_plain _ _ hp) r⟩
    · split at h
      · rename_i l
        split at h
        · rename_i hl
          exact ⟨_, _, _, h H' _ S2 E2, C2 (decide_eq_true hl) r⟩
        · rename_i hl
          split at h
          · rename_i c hc
            split at h
            · rename_i hp
              cases r with
              | ref ha =>
                obtain ⟨S3, E3, r3⟩ := S.cutMove S' E (by omega) hc ha hp
                exact ⟨_, _, _, h H' _ S3 E3, r3⟩
            · exact h.elim
          · exact h.elim
      · exact h.elim
end

/-- a def's run, by the small language -/
def RunG (Pr : Program) (w : World) (K : PySem.W.Frag) (mg : Str → Option Value) (base : Heap) (fa : Nat → Addr → Prop) (ec : Ecl) (gq : Bool) (call : List D → M D) (k : Nat) (a : Addr) (fd : FuncData) (ps : List Str) : Prop :=
  ∀ (A : Around) (outer : List PySem.Env) (s : Shared) (H : Hp) (us : List Value) (vs : List V) (Q : VK) (E : XK) (ex : List Addr) (ds : List D) (m : List Addr) (st : Store),
    Room k A → (gq = true → A.guards = some []) → Env0 Pr w K mg base A outer s H → BindsTo s fd ⟨us, []⟩ (ps.zip us) → Vals vs us → us.length = ps.length →
    Sim ⟨K, fa, ec, ex⟩ H m st → RpAll ⟨K, fa, ec, ex⟩ H m (Lv ⟨K, fa, ec, ex⟩ m st) vs ds →
    After ⟨K, fa, ec, ex⟩ st.length H m st (fun c H' => ∀ a, ec c a → E (.ref a) none H') (fun H' m' st' d => ∀ v, Rp ⟨K, fa, ec, ex⟩ H' m' (Lv ⟨K, fa, ec, ex⟩ m' st') v d → Q v H') (call ds st) →
    codeAny (model Pr w) A (.call (.ref a) ⟨us, []⟩) (CR (L2.CX Pr w) outer Pr w H s Q E) s
/-- a def as it stands, and how it runs -/
structure CallG (Pr : Program) (w : World) (K : PySem.W.Frag) (mg : Str → Option Value) (base : Heap) (fa : Nat → Addr → Prop) (ec : Ecl) (gq : Bool) (call : Nat → List D → M D) (k : Nat) (f : Nat) (F : Fn) : Prop where
  there : ∃ (a : Addr) (fd : FuncData), mg F.name = some (.ref a) ∧ fa f a ∧ PySem.W.keepIn K (.ref a) = true ∧ Binds K fd F.ps [] ∧ RunG Pr w K mg base fa ec gq (call f) k a fd F.ps
  len : ∀ ds st, call f ds st ≠ .bad → ds.length = F.ps.length
section
variable {X : Cx} {fa : Nat → Addr → Prop} {ec : Ecl} {ex : List Addr} {b k : Nat} {gq : Bool} {W : WX} {call : Nat → List D → M D} {f : Nat} {F : Fn} {fs : Ev.Env → M (List D)} {es : List Expr} {p pos : Pos}
theorem run_call {pins : List (Addr × Obj)} {s : Shared} {σ : L2.St} {H : Hp} {m : List Addr} {st : Store} {Q : VK} {a : Addr} {fd : FuncData} {us : List Value} {vs : List V} {ds : List D} (run : RunG X.prog X.w X.K X.mg X.base fa ec gq (call f) k a fd F.ps) (bi : Binds X.K fd F.ps [])
    (len : ∀ ds st, call f ds st ≠ .bad → ds.length = F.ps.length) (hr : Room k X.A) (hg : gq = true → X.A.guards = some []) (tk : Takes X W) (I : Inv X pins σ H s) (r : Vals vs us) (S : Sim ⟨X.K, fa, ec, ex⟩ H m st) (rp : RpAll ⟨X.K, fa, ec, ex⟩ H m (Lv ⟨X.K, fa, ec, ex⟩ m st) vs ds)
    (h : After ⟨X.K, fa, ec, ex⟩ b H m st (We ⟨X.K, fa, ec, ex⟩ W σ) (fun H' m' st' d => ∀ v, Rp ⟨X.K, fa, ec, ex⟩ H' m' (Lv ⟨X.K, fa, ec, ex⟩ m' st') v d → Q v H') (call f ds st)) :
    wpAny (model X.prog X.w) X.A (PySem.call (.ref a) us) (EP X pins σ Q) X.xe s := by
  have hne : call f ds st ≠ .bad := fun q => by rw [q] at h; exact h
  have hl : us.length = F.ps.length := by rw [← r.length, rp.length]; exact len ds st hne
  have hb := bi s us I.kIn (by rw [List.append_nil]; exact hl)
  rw [List.append_nil] at hb
  refine wpAny_call (codeAny_mono (run X.A X.stack s H us vs Q (fun cls d H' => W cls d σ H') ex ds m st hr hg I.env0 hb r hl S rp h.any) fun r' s' hq => ?_)
  cases r' with
  | error e => exact tk e s' (XE.of_call I (fun _ _ _ h => h) hq)
  | ok fl =>
    cases fl with
    | ret u => exact I.after hq
    | next => exact hq.elim
    | brk => exact hq.elim
    | cont => exact hq.elim
theorem se_call (C : CallG X.prog X.w X.K X.mg X.base fa ec gq call k f F) (hr : Room k X.A) (hg : gq = true → X.A.guards = some []) (tk : Takes X W) (hgl : Gl X F.name) (hdb : (F.name == ("__debug__" : Str)) = false) {e : Expr}
    (ha : PA X (e :: es) (tEs ⟨X.K, fa, ec, ex⟩ b W fs)) (hst : starEach (e :: es) X.env = (false, eval e X.env) :: starEach es X.env) (hst2 : (backTo pos (starEach es X.env)).any (·.1) = false) :
    PE X (.Call (.Name F.name p) (e :: es) [] pos) (tE ⟨X.K, fa, ec, ex⟩ b W fun ρ => M.thn (fs ρ) fun xs => call f xs) := by
  refine ⟨fun pins s σ H Q I h => ?_⟩
  obtain ⟨ρ, m, st, er, S, h⟩ := h
  obtain ⟨a, fd, h1, h2, h3, h4, run⟩ := C.there
  refine wpAny_Call_Name_kw (ld_glob I hgl h1 ?_ hdb)
  refine PySem.W.callWith_K (h₀ := X.base) I.ok.mod.kin h3 (thn (ha.run pos pins s σ H _ I (tEs.go er S h)) fun us s1 hh => ?_) hst hst2
  obtain ⟨vs, H1, I1, r, m1, st1, ds, S1, E1, rp, h5⟩ := hh
  exact ⟨I1.kIn, run_call run h4 C.len hr hg tk I1 r S1 rp h5⟩
theorem se_call0 (C : CallG X.prog X.w X.K X.mg X.base fa ec gq call k f F) (hr : Room k X.A) (hg : gq = true → X.A.guards = some []) (tk : Takes X W) (hgl : Gl X F.name) (hdb : (F.name == ("__debug__" : Str)) = false) :
    PE X (.Call (.Name F.name p) [] [] pos) (tE ⟨X.K, fa, ec, ex⟩ b W fun ρ => call f []) := by
  refine ⟨fun pins s σ H Q I h => ?_⟩
  obtain ⟨ρ, m, st, er, S, h⟩ := h
  obtain ⟨a, fd, h1, h2, h3, h4, run⟩ := C.there
  refine wpAny_Call_Name_kw (ld_glob I hgl h1 ?_ hdb)
  exact PySem.W.callWith_K0 I.kIn h3 (run_call (us := []) run h4 C.len hr hg tk I .nil S .nil h)
end
end Ev
set_option linter.all false
set_option maxRecDepth 100000
/-! Ev8: what loops and comprehensions walk. -/
namespace PySem
set_option maxHeartbeats 1000000 in
theorem ev_meets_enum {v : Value} {o : Obj} {H : Heap → Prop} (B : Begins v o H) :
    Meets (Builtin.«enumerate.__new__» ⟨[.type "enumerate", v], []⟩) (fun _ R s => H s.heap ∧
      R (.ok (.ret (.ref (s.heap.push o).objs.size))) { s with heap := (s.heap.push o).push { cls := .type "enumerate", data := .fields #[.none, .bool false, .ref s.heap.objs.size, rawInt 0, .none, .none] } }) :=
  .of_wp fun prog w A R s h => by
    obtain ⟨hp, gn, dr, tk, os⟩ := s
    obtain ⟨h1, h2⟩ := h
    have hsub := sub_enumerate
    have begins : ∀ {A' : Around} {E : Value → Shared → Prop} {Q : Value → Shared → Prop}, Q (.ref hp.objs.size) ⟨hp.push o, gn, dr, tk, os⟩ → wpAny (model prog w) A' (pyIter v) Q E ⟨hp, gn, dr, tk, os⟩ :=
      fun q => B.iter prog w _ _ ⟨hp, gn, dr, tk, os⟩ _ h1 q
    wp_walk using begins
    refine wpAny_stack_any fun _ => wpAny_pure ?_
    split
    · rename_i c _ _ _ _ _
      cases (c == Value.type "enumerate")
      · wp_walk using begins
        exact ⟨_, rfl, h2⟩
      · wp_walk using begins
        exact ⟨_, rfl, h2⟩
    · wp_walk using begins
      exact ⟨_, rfl, h2⟩
theorem ev_call_enum {prog : Program} {w : World} {A : Around} {E : Value → Shared → Prop} {s : Shared} {v : Value} {o : Obj} {H : Heap → Prop} {Q : Value → Shared → Prop} (B : Begins v o H) (h1 : H s.heap)
    (h : ∀ h', IsEnum h' (s.heap.objs.size + 1) s.heap.objs.size 0 .none → h'.get? s.heap.objs.size = some o → (∀ b o, s.heap.get? b = some o → h'.get? b = some o) → Q (.ref (s.heap.objs.size + 1)) { s with heap := h' }) :
    wpAny (model prog w) A (call (.type "enumerate") [v]) Q E s := by
  refine callType_new F.called_enumerate (by decide) (F.typeCall_enumerate_1 _) (F.newCall_enumerate_1 _) (fun obj => F.args_object_init_2 obj _) F.entry_enumerate_new (ev_meets_enum B) ⟨h1, ?_⟩
  have sz : (s.heap.push o).objs.size = s.heap.objs.size + 1 := Heap.size_push ..
  have at2 := Heap.get?_push_size (s.heap.push o) (o := { cls := .type "enumerate", data := .fields #[.none, .bool false, .ref s.heap.objs.size, rawInt 0, .none, .none] }) rfl
  rw [sz] at at2
  show _ ∧ _
  rw [sz]
  exact ⟨⟨_, at2, rfl⟩, h _ at2 (Heap.get?_push_of_some _ (Heap.get?_push_size _ B.free)) fun b o' x => Heap.get?_push_of_some _ (Heap.get?_push_of_some _ x)⟩
end PySem
namespace Ev
open PySem PySem.Spec PyProof.Rows L2

/-- a tuple walked, each item in a new pair with its number -/
def IteT (K : PySem.W.Frag) (a : Addr) : L2.It :=
  ⟨fun i H => ∃ (xs : List V) (x : V), SqT K H a xs ∧ xs[i]? = some x, fun i H v H' => ∃ T x, v = .ref T ∧ H T = none ∧ H' = upd H T (.tup [.int (i : Nat), x]) ∧ ∀ xs, SqT K H a xs → xs[i]? = some x, fun i H => ∃ xs : List V, SqT K H a xs ∧ xs.length = i⟩
theorem turn_enumT {P : Program} {w : World} {K : PySem.W.Frag} {elts : List Expr} {kk : Nat} {tpos : Pos} (a e it : Addr) :
    Turn P w K (.Tuple elts kk tpos) (IteT K a) [e, it] e (fun i h => (∃ old, IsEnum h e it ((i : Nat) : Int) old) ∧ h.IsTupleIter it a i ∧ e ≠ it ∧ a ≠ it ∧ e ≠ a) where
  mem := by simp
  obj := fun i h st c hc => by
    obtain ⟨⟨old, he⟩, ⟨o, ho, _, hd⟩, _⟩ := st
    rcases (show c = e ∨ c = it by simpa using hc) with rfl | rfl
    · exact ⟨_, he, fun v q => nomatch q⟩
    · exact ⟨o, ho, fun v q => by rw [hd] at q; cases q⟩
  keep := fun i h h' ⟨⟨old, he⟩, hi, ne⟩ k => ⟨⟨old, k e (by simp) _ he⟩, hi.at fun o q => k it (by simp) o q, ne⟩
  item := by
    intro X hP hw hK hc i pins s σ H E I hf st hg
    subst hP hw hK
    obtain ⟨⟨old, he⟩, hit, ne, nai, nea⟩ := st
    obtain ⟨xs, x, hq, hx⟩ := hg
    obtain ⟨its, rv, tup, hz⟩ := I.tuple hq
    obtain ⟨u, hu, ru⟩ := rv.get hx
    have hel : e < s.heap.objs.size := Heap.lt_size he
    have hil : it < s.heap.objs.size := by obtain ⟨_, q, _⟩ := hit; exact Heap.lt_size q
    have hlt : i < its.toArray.size := by rw [List.size_toArray]; exact (List.getElem?_eq_some_iff.mp hu).1
    refine wpAny_pyNext_enum_itemC (Draws.tuple (A := X.A.in1) (I.ok.hd hc) it a nai its.toArray) he ⟨hit, tup⟩ hlt ne (by simp [ne, nea]) fun y h' tk hy ho st' hT hsz hk => ?_
    have ey : y = u := by
      have q : its[i]? = some y := by simpa using hy
      rw [hu] at q
      exact (Option.some.inj q).symm
    subst ey
    refine ⟨_, rfl, wpAny_letOwnedTupleGo_enum (s := { s with heap := h', toks := tk + 1 }) ho fun h'' he' sb => ?_⟩
    have hT2 : h''.get? s.heap.objs.size = some { cls := .type "tuple", data := .seq #[.int i tk, y] } := (sb.2 _ (Nat.ne_of_gt hel)).trans hT
    have I1 : Inv X pins σ (upd H s.heap.objs.size (.tup [.int (i : Nat), x])) { s with heap := h'', toks := tk + 1 } :=
      I.turnedNew (ch := [e, it]) (fun c ob hb q => (sb.2 c (fun z => hb (by simp [z]))).trans (hk c ob (fun z => hb (by simp [z])) (fun z => hb (by simp [z])) q)) hf (Nat.le_refl _)
        ⟨by show 2 ≤ sizeLine; decide, [.int i tk, y], .cons ⟨_, rfl⟩ (.cons ru .nil), ⟨_, hT2, rfl, _, rfl⟩⟩
    refine ⟨.ref s.heap.objs.size, _, I1, rfl, ⟨_, x, rfl, I.hok.fresh (Nat.le_refl _), rfl, fun ys hy => by rw [I.tuple_inj hy hq]; exact hx⟩, ⟨⟨y, ?_⟩, st'.1.at fun o q => (sb.2 it (Ne.symm ne)).trans q, ne, nai, nea⟩, fun c hcm => ?_⟩
    · have e1 : ((i + 1 : Nat) : Int) = (i : Int) + 1 := by omega
      rw [e1]; exact he'
    · have hcl : c < s.heap.objs.size := by
        rcases (show c = e ∨ c = it by simpa using hcm) with z | z
        · rw [z]; exact hel
        · rw [z]; exact hil
      rw [upd_ne (Nat.ne_of_lt hcl)]
      exact (hf c hcm).1
  done := by
    intro X hP hw hK hc i pins s σ H E I hf st hg
    subst hP hw hK
    obtain ⟨⟨old, he⟩, hit, ne, nai, nea⟩ := st
    obtain ⟨xs, hq, hx⟩ := hg
    obtain ⟨its, rv, tup, hz⟩ := I.tuple hq
    obtain ⟨f0, f1, f2, f3, f4, f5⟩ := hf it (by simp)
    have hl := rv.length
    have en : its.toArray.size = i := by rw [List.size_toArray]; omega
    have D := Draws.tuple (prog := X.prog) (w := X.w) (A := X.A.in1) (I.ok.hd hc) it a nai its.toArray
    refine wpAny_pyNext_enum_endD D he (by rw [en]; exact ⟨hit, tup⟩) fun h' eb => ⟨rfl, I.turned (t' := s.toks) (fun b o hb q => eb b o hb q) f0 f1 f3 f4 f5⟩
  self := fun A i s Q E st h => let ⟨⟨_, he⟩, _⟩ := st; wpAny_pyIter_enum he h
theorem walk_enumT {K : PySem.W.Frag} {a : Addr} {xs : List V} : Walk (IteT K a) xs.length (fun H => SqT K H a xs) (YPair (fun i => some (.int (i : Nat))) (fun i => xs[i]?)) := by
  refine ⟨fun i _ hi q => ⟨xs, xs[i], q, by simp [hi]⟩, fun _ q => ⟨xs, q, rfl⟩, fun i H v H' _ q y => ?_⟩
  obtain ⟨T, x, h1, h2, h3, h4⟩ := y
  exact ⟨T, .int (i : Nat), x, h1, h2, h3, rfl, h4 xs q⟩
theorem walk_zipT {K : PySem.W.Frag} {a b : Addr} {xs ys : List V} {n : Nat} (hn : n = min xs.length ys.length) : Walk (RZ.ItzT K a b) n (fun H => SqT K H a xs ∧ SqT K H b ys) (YPair (fun i => xs[i]?) (fun i => ys[i]?)) := by
  subst hn
  refine ⟨fun i _ hi q => ?_, fun _ q => ⟨xs, ys, q.1, q.2, by omega⟩, fun i H v H' _ q y => ?_⟩
  · have h1 : i < xs.length := by omega
    have h2 : i < ys.length := by omega
    exact ⟨xs, ys, xs[i], ys[i], q.1, q.2, by simp [h1], by simp [h2]⟩
  · obtain ⟨T, x, z, h1, h2, h3, h4, h5⟩ := y
    exact ⟨T, x, z, h1, h2, h3, h4 xs q.1, h5 ys q.2⟩
section
variable {X : Cx} {e e2 : Expr} {ta : TA} {p pos tpos : Pos} {elts : List Expr} {kk : Nat}
def iEnumA (K : PySem.W.Frag) (ta : TA) : TI := fun σ H R => ta σ H fun vs H1 => ∃ a xs, vs = [.ref a] ∧ ((SqL K H1 a xs ∧ R (Ite K a) H1) ∨ (SqT K H1 a xs ∧ R (IteT K a) H1))
theorem pi_enumA (hg : Gl X "enumerate") (hm : X.mg "enumerate" = none) (ha : PA X [e] ta) (hs : starEach [e] X.env = [(false, eval e X.env)]) :
    PI X (.Tuple elts kk tpos) (.Call (.Name "enumerate" p) [e] [] pos) (iEnumA X.K ta) := by
  refine ⟨fun pins s σ H R I h => ?_⟩
  refine Call_ (ld_blt I hg hm boot_enumerate (PyProof.Rows.callWith_type1 (thn (ha.run pos pins s σ H _ I h) fun us s1 ⟨vs, H1, I1, r1, q1⟩ => ?_) hs rfl))
  obtain ⟨a, xs, ex, q1⟩ := q1
  subst ex
  cases r1 with
  | cons r rr =>
    cases rr
    cases r
    have fresh2 : ∀ b ∈ [s1.heap.objs.size + 1, s1.heap.objs.size], FpOk X pins H1 b := fun b hb => by
      have e' : b = s1.heap.objs.size + 1 ∨ b = s1.heap.objs.size := by simpa using hb
      have hle : s1.heap.objs.size ≤ b := by
        rcases e' with z | z
        · rw [z]; exact Nat.le_add_right _ _
        · rw [z]; exact Nat.le_refl _
      exact I1.fpOk hle (I1.hok.fresh hle)
    rcases q1 with ⟨hq, q⟩ | ⟨hq, q⟩
    · obtain ⟨its, rv, p', hz⟩ := I1.list hq
      refine call_enumerate_list p'.isList fun h' he hit hsz hk => wpAny_pyIter_enum he ?_
      exact ⟨s1.heap.objs.size + 1, [s1.heap.objs.size + 1, s1.heap.objs.size], _, _, H1, rfl, I1.kept (t' := s1.toks) hk, turn_enum a (s1.heap.objs.size + 1) s1.heap.objs.size, ⟨⟨.none, he⟩, hit, Nat.succ_ne_self _⟩, fresh2, q⟩
    · obtain ⟨its, rv, p', hz⟩ := I1.tuple hq
      obtain ⟨o1, ho1, _⟩ := id p'
      have la := Heap.lt_size ho1
      refine ev_call_enum (begins_tuple a its.toArray) (show s1.heap.IsTuple a its.toArray from p') fun h' he hit hk => wpAny_pyIter_enum he ?_
      exact ⟨s1.heap.objs.size + 1, [s1.heap.objs.size + 1, s1.heap.objs.size], _, _, H1, rfl, I1.kept (t' := s1.toks) hk, turn_enumT a (s1.heap.objs.size + 1) s1.heap.objs.size, ⟨⟨.none, he⟩, ⟨_, hit, rfl, rfl⟩, Nat.succ_ne_self _, Nat.ne_of_lt la, Nat.ne_of_gt (Nat.lt_succ_of_lt la)⟩, fresh2, q⟩
/-- a list or a tuple walked -/
def iSeq (K : PySem.W.Frag) (tl : TE) : TI := fun σ H R => tl σ H fun x H1 => (∃ z, x = .str z ∧ R (Its z) H1) ∨ ∃ a xs, x = .ref a ∧ ((SqL K H1 a xs ∧ R (Itl K a) H1) ∨ (SqT K H1 a xs ∧ R (Itt K a) H1))
theorem pi_seq {tg : Expr} {tl : TE} (hl : PE X e tl) : PI X tg e (iSeq X.K tl) := by
  refine ⟨fun pins s σ H R I h => ?_⟩
  refine thn (hl.run pins s σ H _ I h) fun v s1 ⟨x, H1, I1, r1, q1⟩ => ?_
  rcases q1 with ⟨z, ex, q⟩ | ⟨a, xs, ex, q1⟩
  · subst ex
    obtain ⟨t, rfl⟩ := r1
    cases ha : z.cps.all (· < 128)
    · exact wpAny_pyIter_wide ha (pi_one (tk := s1.toks) I1 _ (turn_str _ z t "str_iterator" (.inr rfl)) ⟨_, Heap.get?_push_size _ rfl, rfl, rfl⟩ q)
    · exact wpAny_pyIter_ascii ha (pi_one (tk := s1.toks) I1 _ (turn_str _ z t "str_ascii_iterator" (.inl rfl)) ⟨_, Heap.get?_push_size _ rfl, rfl, rfl⟩ q)
  subst ex
  cases r1
  have fresh1 : ∀ b ∈ [s1.heap.objs.size], FpOk X pins H1 b := fun b hb => by
    have e : b = s1.heap.objs.size := by simpa using hb
    subst e
    exact I1.fpOk (Nat.le_refl _) (I1.hok.fresh (Nat.le_refl _))
  rcases q1 with ⟨hq, q⟩ | ⟨hq, q⟩
  · obtain ⟨its, rv, p, hz⟩ := I1.list hq
    refine wpAny_pyIter_list p.isList ?_
    exact ⟨s1.heap.objs.size, [s1.heap.objs.size], _, _, H1, rfl, I1.kept (t' := s1.toks) fun b o e => Heap.get?_push_of_some _ e, turn_list a _, ⟨_, Heap.get?_push_size _ rfl, rfl, rfl⟩, fresh1, q⟩
  · obtain ⟨its, rv, p, hz⟩ := I1.tuple hq
    refine wpAny_pyIter_tuple (show s1.heap.IsTuple a its.toArray from p) ?_
    exact ⟨s1.heap.objs.size, [s1.heap.objs.size], _, _, H1, rfl, I1.kept (t' := s1.toks) fun b o e => Heap.get?_push_of_some _ e, turn_tuple a _, ⟨_, Heap.get?_push_size _ rfl, rfl, rfl⟩, fresh1, q⟩
end
end Ev
set_option linter.all false
set_option maxRecDepth 100000
/-! Ev9: what a loop walks, by the small language. -/
namespace Ev
open PySem PySem.Spec PyProof.Rows L2

abbrev Gd.rs (G : Gd) (ex : List Addr) : Gd := { G with ex := ex }
section
variable {G : Gd} {H H' : Hp} {m m' : List Addr} {st st' : Store} {L L' : Addr → Prop} {ex : List Addr}
mutual
theorem Rp.exch (ex : List Addr) : ∀ {v : V} {d : D}, Rp G H m L v d → Rp (G.rs ex) H m L v d
  | _, _, .non => .non
  | _, _, .bl b => .bl b
  | _, _, .int i => .int i
  | _, _, .str s => .str s
  | _, _, .tup h hs => .tup h (RpAll.exch ex hs)
  | _, _, .lst h hs => .lst h (RpAll.exch ex hs)
  | _, _, .ref h => .ref h
  | _, _, .fn h => .fn h
theorem RpAll.exch (ex : List Addr) : ∀ {vs : List V} {ds : List D}, RpAll G H m L vs ds → RpAll (G.rs ex) H m L vs ds
  | _, _, .nil => .nil
  | _, _, .cons h hs => .cons (Rp.exch ex h) (RpAll.exch ex hs)
end
/-- later, perhaps with other lists under way -/
structure Since (G : Gd) (H : Hp) (m : List Addr) (st : Store) (ex : List Addr) (H' : Hp) (m' : List Addr) (st' : Store) : Prop where
  keep : ∀ a, Fz H (Lv G m st) a → H' a = H a ∧ ¬ Lv (G.rs ex) m' st' a
  pre : ∀ (l : Nat) (a : Addr), m[l]? = some a → m'[l]? = some a
theorem Rp.since {v : V} {d : D} (e : Since G H m st ex H' m' st') (h : Rp G H m (Lv G m st) v d) : Rp (G.rs ex) H' m' (Lv (G.rs ex) m' st') v d := (h.mono e.keep e.pre).exch ex
theorem RpAll.since {vs : List V} {ds : List D} (e : Since G H m st ex H' m' st') (h : RpAll G H m (Lv G m st) vs ds) : RpAll (G.rs ex) H' m' (Lv (G.rs ex) m' st') vs ds := (h.mono e.keep e.pre).exch ex
theorem EnvR.since {σ : List (Option V)} {ρ : Env} (e : Since G H m st ex H' m' st') (h : EnvR G H m st σ ρ) : EnvR (G.rs ex) H' m' st' σ ρ :=
  ⟨h.len, fun i d q => let ⟨v, h1, h2⟩ := h.at_ i d q; ⟨v, h1, h2.since e⟩⟩
theorem Since.of {b : Nat} (e : Ext G b H m st H' m' st') : Since G H m st G.ex H' m' st' := ⟨e.keep, e.pre⟩
theorem Since.trans {b : Nat} {H'' : Hp} {m'' : List Addr} {st'' : Store} (e : Since G H m st ex H' m' st') (e' : Ext (G.rs ex) b H' m' st' H'' m'' st'') : Since G H m st ex H'' m'' st'' :=
  ⟨fun a f => by
    have f' : Fz H' (Lv (G.rs ex) m' st') a := ⟨by rw [(e.keep a f).1]; exact f.1, (e.keep a f).2⟩
    exact ⟨((e'.keep a f').1).trans (e.keep a f).1, (e'.keep a f').2⟩, fun l a h => e'.pre l a (e.pre l a h)⟩
theorem SqLF.mono {K : PySem.W.Frag} {a : Addr} {xs : List V} (hk : ∀ a, Fz H L a → H' a = H a ∧ ¬ L' a) (h : SqLF K H L a xs) : SqLF K H' L' a xs :=
  h.elim (fun ⟨f, q⟩ => .inl ⟨⟨by rw [(hk _ f).1]; exact f.1, (hk _ f).2⟩, by
      have e := (hk _ f).1
      rcases q with q | q
      · exact .inl (by unfold Rd at q ⊢; rw [e]; exact q)
      · exact .inr q⟩) .inr
theorem SqTF.mono {K : PySem.W.Frag} {a : Addr} {xs : List V} (hk : ∀ a, Fz H L a → H' a = H a ∧ ¬ L' a) (h : SqTF K H L a xs) : SqTF K H' L' a xs :=
  h.elim (fun ⟨f, q⟩ => .inl ⟨⟨by rw [(hk _ f).1]; exact f.1, (hk _ f).2⟩, by
      have e := (hk _ f).1
      rcases q with q | q
      · exact .inl (by unfold Rd at q ⊢; rw [e]; exact q)
      · exact .inr q⟩) .inr
/-- what J gives from here on is ds -/
structure Yields (G : Gd) (H : Hp) (m : List Addr) (st : Store) (J : L2.It) (ds : List D) : Prop where
  out : ∃ (Gp : Hp → Prop) (Y : Nat → Hp → V → Hp → Prop), Walk J ds.length Gp Y ∧ ∀ ex H' m' st', Since G H m st ex H' m' st' → Sim (G.rs ex) H' m' st' → Gp H' ∧ ∀ i x H'', i < ds.length → Y i H' x H'' →
    ∃ d, ds[i]? = some d ∧ Sim (G.rs ex) H'' m' st' ∧ (∀ b, Ext (G.rs ex) b H' m' st' H'' m' st') ∧ Rp (G.rs ex) H'' m' (Lv (G.rs ex) m' st') x d
theorem RpAll.getV : ∀ {vs : List V} {ds : List D} {i : Nat} {v : V}, RpAll G H m L vs ds → vs[i]? = some v → ∃ d, ds[i]? = some d ∧ Rp G H m L v d
  | _, _, _, _, .nil, e => by simp at e
  | _, _, 0, _, .cons h _, e => by simp at e; subst e; exact ⟨_, rfl, h⟩
  | _, _, i + 1, d, .cons _ hs, e => by
    obtain ⟨v, h1, h2⟩ := RpAll.getV (i := i) (v := d) hs (by simpa using e)
    exact ⟨v, by simpa using h1, h2⟩
theorem yl_list {a : Addr} {xs : List V} {ds : List D} (hq : SqLF G.K H (Lv G m st) a xs) (r : RpAll G H m (Lv G m st) xs ds) : Yields G H m st (Itl G.K a) ds := by
  refine ⟨_, _, by rw [← r.length]; exact walk_list (xs := xs), fun ex H' m' st' e S => ⟨(hq.mono e.keep).now, fun i x H'' hi y => ?_⟩⟩
  obtain ⟨rfl, hx⟩ := y
  obtain ⟨d, hd, hr⟩ := (r.since e).getV hx
  exact ⟨d, hd, S, fun b => .refl, hr⟩
theorem yl_tup {a : Addr} {xs : List V} {ds : List D} (hq : SqTF G.K H (Lv G m st) a xs) (r : RpAll G H m (Lv G m st) xs ds) : Yields G H m st (Itt G.K a) ds := by
  refine ⟨_, _, by rw [← r.length]; exact walk_tup (xs := xs), fun ex H' m' st' e S => ⟨(hq.mono e.keep).now, fun i x H'' hi y => ?_⟩⟩
  obtain ⟨rfl, hx⟩ := y
  obtain ⟨d, hd, hr⟩ := (r.since e).getV hx
  exact ⟨d, hd, S, fun b => .refl, hr⟩
theorem yl_str {z : Str} : Yields G H m st (Its z) (z.cps.toList.map fun c => .str ⟨#[c]⟩) := by
  refine ⟨_, _, by rw [List.length_map, Array.length_toList]; exact walk_str, fun ex H' m' st' e S => ⟨trivial, fun i x H'' hi y => ?_⟩⟩
  obtain ⟨rfl, c, hc, rfl⟩ := y
  exact ⟨.str ⟨#[c]⟩, by rw [List.getElem?_map, Array.getElem?_toList, hc]; rfl, S, fun b => .refl, .str _⟩
theorem rngUp_length : ∀ (n : Nat) (lo : Int), (rngUp lo n).length = n
  | 0, _ => rfl
  | n + 1, lo => by rw [rngUp, List.length_cons, rngUp_length n]
theorem rngUp_get : ∀ (n : Nat) (lo : Int) (i : Nat), i < n → (rngUp lo n)[i]? = some (.int (lo + i))
  | 0, _, _, h => absurd h (Nat.not_lt_zero _)
  | n + 1, lo, 0, _ => by simp [rngUp]
  | n + 1, lo, i + 1, h => by
    rw [rngUp, List.getElem?_cons_succ, rngUp_get n (lo + 1) i (by omega)]
    congr 2
    have : ((i + 1 : Nat) : Int) = (i : Int) + 1 := by omega
    omega
theorem yl_rng {lo : Int} {n : Nat} : Yields G H m st (Itr lo n) (rngUp lo n) := by
  refine ⟨_, _, by rw [rngUp_length]; exact walk_range, fun ex H' m' st' e S => ⟨trivial, fun i x H'' hi y => ?_⟩⟩
  obtain ⟨rfl, rfl⟩ := y
  rw [rngUp_length] at hi
  exact ⟨_, rngUp_get n lo i hi, S, fun b => .refl, .int _⟩
theorem numUp_length : ∀ (ds : List D) (k : Nat), (numUp k ds).length = ds.length
  | [], _ => rfl
  | _ :: ds, k => by rw [numUp, List.length_cons, numUp_length ds, List.length_cons]
theorem numUp_get : ∀ (ds : List D) (k i : Nat) (d : D), ds[i]? = some d → (numUp k ds)[i]? = some (.tup [.int (k + i : Nat), d])
  | [], _, _, _, h => by simp at h
  | x :: ds, k, 0, d, h => by simp at h; subst h; rfl
  | x :: ds, k, i + 1, d, h => by
    rw [numUp, List.getElem?_cons_succ, numUp_get ds (k + 1) i d (by simpa using h)]
    have : k + 1 + i = k + (i + 1) := by omega
    rw [this]
theorem pairUp_length : ∀ (ds es : List D), (pairUp ds es).length = min ds.length es.length
  | [], _ => by simp [pairUp]
  | _ :: _, [] => by simp [pairUp]
  | _ :: ds, _ :: es => by rw [pairUp, List.length_cons, pairUp_length ds es, List.length_cons, List.length_cons]; omega
theorem pairUp_get : ∀ (ds es : List D) (i : Nat) (d e : D), ds[i]? = some d → es[i]? = some e → (pairUp ds es)[i]? = some (.tup [d, e])
  | [], _, _, _, _, h, _ => by simp at h
  | _ :: _, [], _, _, _, _, h => by simp at h
  | x :: ds, y :: es, 0, d, e, h, g => by simp at h g; subst h; subst g; rfl
  | x :: ds, y :: es, i + 1, d, e, h, g => by rw [pairUp, List.getElem?_cons_succ]; exact pairUp_get ds es i d e (by simpa using h) (by simpa using g)
/-- a new pair -/
theorem pair_new {T : Addr} {x y : V} {d e : D} (S : Sim G H m st) (hT : H T = none) (rx : Rp G H m (Lv G m st) x d) (ry : Rp G H m (Lv G m st) y e) :
    Sim G (upd H T (.tup [x, y])) m st ∧ (∀ b, Ext G b H m st (upd H T (.tup [x, y])) m st) ∧ Rp G (upd H T (.tup [x, y])) m (Lv G m st) (.ref T) (.tup [d, e]) := by
  obtain ⟨S1, E1, F1⟩ := S.new (b := 0) hT (.tup [x, y])
  refine ⟨S1, fun b => (S.new (b := b) hT (.tup [x, y])).2.1, .tup (.inl ⟨F1, SqT.of upd_same⟩) (.cons (rx.ext E1) (.cons (ry.ext E1) .nil))⟩
theorem yl_enum {a : Addr} {xs : List V} {ds : List D} (hq : SqLF G.K H (Lv G m st) a xs) (r : RpAll G H m (Lv G m st) xs ds) : Yields G H m st (Ite G.K a) (numUp 0 ds) := by
  refine ⟨_, _, by rw [numUp_length, ← r.length]; exact walk_enum (xs := xs), fun ex H' m' st' e S => ⟨(hq.mono e.keep).now, fun i x H'' hi y => ?_⟩⟩
  obtain ⟨T, u, w, rfl, hT, rfl, hu, hw⟩ := y
  cases hu
  obtain ⟨d, hd, hr⟩ := (r.since e).getV hw
  obtain ⟨S2, E2, R2⟩ := pair_new S hT (.int (i : Nat)) hr
  refine ⟨_, numUp_get ds 0 i d hd, S2, E2, ?_⟩
  rw [Nat.zero_add]; exact R2
theorem yl_enumT {a : Addr} {xs : List V} {ds : List D} (hq : SqTF G.K H (Lv G m st) a xs) (r : RpAll G H m (Lv G m st) xs ds) : Yields G H m st (IteT G.K a) (numUp 0 ds) := by
  refine ⟨_, _, by rw [numUp_length, ← r.length]; exact walk_enumT (xs := xs), fun ex H' m' st' e S => ⟨(hq.mono e.keep).now, fun i x H'' hi y => ?_⟩⟩
  obtain ⟨T, u, w, rfl, hT, rfl, hu, hw⟩ := y
  cases hu
  obtain ⟨d, hd, hr⟩ := (r.since e).getV hw
  obtain ⟨S2, E2, R2⟩ := pair_new S hT (.int (i : Nat)) hr
  refine ⟨_, numUp_get ds 0 i d hd, S2, E2, ?_⟩
  rw [Nat.zero_add]; exact R2
theorem yl_zip {a c : Addr} {xs ys : List V} {ds es : List D} (hq : SqLF G.K H (Lv G m st) a xs) (r : RpAll G H m (Lv G m st) xs ds) (hq2 : SqLF G.K H (Lv G m st) c ys) (r2 : RpAll G H m (Lv G m st) ys es) : Yields G H m st (Itz G.K a c) (pairUp ds es) := by
  refine ⟨_, _, walk_zip (xs := xs) (ys := ys) (by rw [pairUp_length, r.length, r2.length]), fun ex H' m' st' e S => ⟨⟨(hq.mono e.keep).now, (hq2.mono e.keep).now⟩, fun i x H'' hi y => ?_⟩⟩
  obtain ⟨T, u, w, rfl, hT, rfl, hu, hw⟩ := y
  obtain ⟨d, hd, hr⟩ := (r.since e).getV hu
  obtain ⟨d2, hd2, hr2⟩ := (r2.since e).getV hw
  obtain ⟨S2, E2, R2⟩ := pair_new S hT hr hr2
  exact ⟨_, pairUp_get ds es i d d2 hd hd2, S2, E2, R2⟩
theorem yl_zipT {a c : Addr} {xs ys : List V} {ds es : List D} (hq : SqTF G.K H (Lv G m st) a xs) (r : RpAll G H m (Lv G m st) xs ds) (hq2 : SqTF G.K H (Lv G m st) c ys) (r2 : RpAll G H m (Lv G m st) ys es) : Yields G H m st (RZ.ItzT G.K a c) (pairUp ds es) := by
  refine ⟨_, _, walk_zipT (xs := xs) (ys := ys) (by rw [pairUp_length, r.length, r2.length]), fun ex H' m' st' e S => ⟨⟨(hq.mono e.keep).now, (hq2.mono e.keep).now⟩, fun i x H'' hi y => ?_⟩⟩
  obtain ⟨T, u, w, rfl, hT, rfl, hu, hw⟩ := y
  obtain ⟨d, hd, hr⟩ := (r.since e).getV hu
  obtain ⟨d2, hd2, hr2⟩ := (r2.since e).getV hw
  obtain ⟨S2, E2, R2⟩ := pair_new S hT hr hr2
  exact ⟨_, pairUp_get ds es i d d2 hd hd2, S2, E2, R2⟩
end
/-- a source of items -/
def tI (G : Gd) (b : Nat) (W : WX) (f : Env → M (List D)) : TI := fun σ H R => ∃ ρ m st, EnvR G H m st σ ρ ∧ Sim G H m st ∧ After G b H m st (We G W σ) (fun H' m' st' ds => ∀ J, Yields G H' m' st' J ds → R J H') (f ρ st)
section
variable {X : Cx} {G : Gd} {b : Nat} {W : WX} {σ : L2.St} {H : Hp} {m : List Addr} {st : Store} {ρ : Env} {f g : Env → M D} {e e' tg : Expr} {pos p tpos : Pos} {es elts : List Expr} {kk : Nat}
theorem tI.go {β : Type} {R : Hp → List Addr → Store → β → Prop} {f : Env → M (List D)} {g : List D → M β} (er : EnvR G H m st σ ρ) (S : Sim G H m st) (h : After G b H m st (We G W σ) R (M.thn (f ρ) g st)) :
    tI G b W f σ H (fun J H' => ∃ m' st' ds, Sim G H' m' st' ∧ Ext G b H m st H' m' st' ∧ Yields G H' m' st' J ds ∧ After G b H' m' st' (We G W σ) R (g ds st')) :=
  ⟨ρ, m, st, er, S, (h.thn S).mono (fun H' m' st' d s' e h v r => ⟨m', st', d, s', e, r, h⟩) fun _ _ h => h⟩
theorem ofI {t t' : TI} (h : PI X tg e t) (i : ∀ σ H R, t' σ H R → t σ H R) : PI X tg e t' := ⟨fun pins s σ H Q I q => h.run pins s σ H Q I (i σ H Q q)⟩
theorem si_val (hK : X.K = G.K) (ha : PE X e (tE G b W f)) : PI X tg e (tI G b W fun ρ => M.thn (f ρ) fun x => M.ofO (walkD x)) := by
  refine ofI (pi_seq ha) fun σ H R q => ?_
  obtain ⟨ρ, m, st, er, S, h⟩ := q
  refine (tE.go er S h).mono fun x H1 q => ?_
  obtain ⟨m1, st1, dx, S1, E1, rx, h1⟩ := q
  obtain ⟨ds, hd, h2⟩ := h1.ofO
  rw [hK]
  cases dx with
  | lst xs =>
    cases hd
    cases rx with
    | lst hq r => exact .inr ⟨_, _, rfl, .inl ⟨hq.now, h2.ret S1 _ (yl_list hq r)⟩⟩
  | tup xs =>
    cases hd
    cases rx with
    | tup hq r => exact .inr ⟨_, _, rfl, .inr ⟨hq.now, h2.ret S1 _ (yl_tup hq r)⟩⟩
  | str z =>
    cases hd
    cases rx
    exact .inl ⟨z, rfl, h2.ret S1 _ yl_str⟩
  | _ => cases hd
theorem okRng_of {i : Int} (h : okRng i = true) : -(2 ^ 62) ≤ i ∧ i < 2 ^ 62 := of_decide_eq_true h
theorem si_rng1 (hg : Gl X "range") (hm : X.mg "range" = none) (ha : PE X e (tE G b W f)) (hs : starEach [e] X.env = [(false, eval e X.env)]) :
    PI X tg (.Call (.Name "range" p) [e] [] pos) (tI G b W fun ρ => M.thn (f ρ) fun x => match x with
      | .int i => if okRng i then M.ret (rngUp 0 i.toNat) else M.bad
      | _ => M.bad) := by
  refine ofI (pi_range1 hg hm (pa_cons ha pa_nil (by rw [hs]; rfl)) hs) fun σ H R q => ?_
  obtain ⟨ρ, m, st, er, S, h⟩ := q
  refine (tE.go er S h).mono fun x H1 q => ?_
  obtain ⟨m1, st1, dx, S1, E1, rx, h1⟩ := q
  cases dx with
  | int i =>
    cases rx
    obtain ⟨hz, h3⟩ := h1.if_
    exact ⟨i, rfl, (okRng_of hz).1, (okRng_of hz).2, h3.ret S1 _ yl_rng⟩
  | _ => exact h1.elim
theorem si_rng2 (hg : Gl X "range") (hm : X.mg "range" = none) (ha : PE X e (tE G b W f)) (hb : PE X e' (tE G b W g)) (hs : starEach [e, e'] X.env = [(false, eval e X.env), (false, eval e' X.env)]) (hs2 : starEach [e'] X.env = [(false, eval e' X.env)]) :
    PI X tg (.Call (.Name "range" p) [e, e'] [] pos) (tI G b W fun ρ => M.thn (f ρ) fun x => M.thn (g ρ) fun y => match x, y with
      | .int i, .int j => if okRng i && okRng j then M.ret (rngUp i (j - i).toNat) else M.bad
      | _, _ => M.bad) := by
  refine ofI (pi_range2 hg hm (pa_cons ha (pa_cons hb pa_nil (by rw [hs2]; rfl)) (by rw [hs, hs2])) hs hs2) fun σ H R q => ?_
  obtain ⟨ρ, m, st, er, S, h⟩ := q
  refine (tE.go er S h).mono fun x H1 q => ?_
  obtain ⟨m1, st1, dx, S1, E1, rx, h1⟩ := q
  refine (tE.go (er.ext E1) S1 h1).mono fun y H2 q => ?_
  obtain ⟨m2, st2, dy, S2, E2, ry, h2⟩ := q
  cases dx with
  | int i =>
    cases dy with
    | int j =>
      cases rx; cases ry
      obtain ⟨hz, h3⟩ := h2.if_
      obtain ⟨z1, z2⟩ := Bool.and_eq_true_iff.mp hz
      exact ⟨i, j, rfl, ⟨(okRng_of z1).1, (okRng_of z1).2, (okRng_of z2).1, (okRng_of z2).2⟩, h3.ret S2 _ yl_rng⟩
    | _ => exact h2.elim
  | _ => exact h2.elim
theorem si_enum (hK : X.K = G.K) (hg : Gl X "enumerate") (hm : X.mg "enumerate" = none) (ha : PE X e (tE G b W f)) (hs : starEach [e] X.env = [(false, eval e X.env)]) :
    PI X (.Tuple elts kk tpos) (.Call (.Name "enumerate" p) [e] [] pos) (tI G b W fun ρ => M.thn (f ρ) fun x => M.thn (M.ofO (seqOf x)) fun xs => M.ret (numUp 0 xs)) := by
  refine ofI (pi_enumA hg hm (pa_cons ha pa_nil (by rw [hs]; rfl)) hs) fun σ H R q => ?_
  obtain ⟨ρ, m, st, er, S, h⟩ := q
  refine (tE.go er S h).mono fun x H1 q => ?_
  obtain ⟨m1, st1, dx, S1, E1, rx, h1⟩ := q
  have h1' := h1.thn S1
  obtain ⟨ds, hd, h2⟩ := h1'.ofO
  have h3 := h2.ret S1
  rw [hK]
  cases dx with
  | lst xs =>
    cases hd
    cases rx with
    | lst hq r => exact ⟨_, _, rfl, .inl ⟨hq.now, h3.ret S1 _ (yl_enum hq r)⟩⟩
  | tup xs =>
    cases hd
    cases rx with
    | tup hq r => exact ⟨_, _, rfl, .inr ⟨hq.now, h3.ret S1 _ (yl_enumT hq r)⟩⟩
  | _ => cases hd
theorem si_zip (hK : X.K = G.K) (hg : Gl X "zip") (hm : X.mg "zip" = none) (ha : PE X e (tE G b W f)) (hb : PE X e' (tE G b W g)) (hs : starEach [e, e'] X.env = (false, eval e X.env) :: starEach [e'] X.env) (hs2 : starEach [e'] X.env = [(false, eval e' X.env)]) :
    PI X (.Tuple elts kk tpos) (.Call (.Name "zip" p) [e, e'] [] pos) (tI G b W fun ρ => M.thn (f ρ) fun x => M.thn (g ρ) fun y => M.ofO (zipD x y)) := by
  refine ofI (RZ.pi_zipA hg hm (pa_cons ha (pa_cons hb pa_nil (by rw [hs2]; rfl)) hs) hs (by rw [hs2]; rfl)) fun σ H R q => ?_
  obtain ⟨ρ, m, st, er, S, h⟩ := q
  refine (tE.go er S h).mono fun x H1 q => ?_
  obtain ⟨m1, st1, dx, S1, E1, rx, h1⟩ := q
  refine (tE.go (er.ext E1) S1 h1).mono fun y H2 q => ?_
  obtain ⟨m2, st2, dy, S2, E2, ry, h2⟩ := q
  obtain ⟨ds, hd, h3⟩ := h2.ofO
  have rx := rx.ext E2
  rw [hK]
  cases dx with
  | lst xs =>
    cases dy with
    | lst ys =>
      cases hd
      cases rx with
      | lst hq r =>
        cases ry with
        | lst hq2 r2 => exact ⟨_, _, _, _, rfl, .inl ⟨hq.now, hq2.now, h3.ret S2 _ (yl_zip hq r hq2 r2)⟩⟩
    | _ => cases hd
  | tup xs =>
    cases dy with
    | tup ys =>
      cases hd
      cases rx with
      | tup hq r =>
        cases ry with
        | tup hq2 r2 => exact ⟨_, _, _, _, rfl, .inr ⟨hq.now, hq2.now, h3.ret S2 _ (yl_zipT hq r hq2 r2)⟩⟩
    | _ => cases hd
  | _ => cases hd
end
end Ev
set_option linter.all false
set_option maxRecDepth 100000
/-! Ev10: targets, list comprehensions. -/
namespace Ev
open PySem PySem.Spec PyProof.Rows L2

def Tg.vars : Tg → List Nat
  | .name i => [i]
  | .two a b => a.vars ++ b.vars
  | .three a b c => a.vars ++ b.vars ++ c.vars
theorem wipe_set {σ : L2.St} {i : Nat} {x : Option V} : ∀ {vs : List Nat}, i ∈ vs → wipe (σ.set i x) vs = wipe σ vs
  | [], h => absurd h (by simp)
  | v :: vs, h => by
    unfold wipe
    by_cases hi : i ∈ vs
    · rw [wipe_set hi]
    · have e : i = v := (List.mem_cons.mp h).resolve_right hi
      subst e
      apply List.ext_getElem?
      intro j
      by_cases hj : i = j
      · subst hj
        by_cases hl : i < σ.length
        · rw [List.getElem?_set_self (by rw [wipe_length, List.length_set]; exact hl), List.getElem?_set_self (by rw [wipe_length]; exact hl)]
        · rw [List.getElem?_eq_none (by rw [List.length_set, wipe_length, List.length_set]; omega), List.getElem?_eq_none (by rw [List.length_set, wipe_length]; omega)]
      · rw [List.getElem?_set_ne hj, List.getElem?_set_ne hj]
        by_cases hjv : j ∈ vs
        · have z : ∀ (τ : L2.St), τ.length = σ.length → (wipe τ vs)[j]? = if j < σ.length then some none else none := fun τ hτ => by
            clear h hi
            induction vs with
            | nil => simp at hjv
            | cons w ws ih =>
              unfold wipe
              by_cases hw : w = j
              · subst hw
                by_cases hl : w < σ.length
                · rw [List.getElem?_set_self (by rw [wipe_length, hτ]; exact hl), if_pos hl]
                · rw [List.getElem?_eq_none (by rw [List.length_set, wipe_length, hτ]; omega), if_neg hl]
              · rw [List.getElem?_set_ne hw]
                exact ih ((List.mem_cons.mp hjv).resolve_left (Ne.symm hw))
          rw [z _ (List.length_set ..), z _ rfl]
        · rw [wipe_out hjv, wipe_out hjv, List.getElem?_set_ne hj]
theorem wipe_wipe (σ : L2.St) (us : List Nat) : ∀ vs : List Nat, (∀ i ∈ us, i ∈ vs) → wipe (wipe σ us) vs = wipe σ vs := by
  induction us with
  | nil => intro vs _; rfl
  | cons u us ih =>
    intro vs h
    show wipe ((wipe σ us).set u none) vs = _
    rw [wipe_set (h u List.mem_cons_self)]
    exact ih vs fun i hi => h i (List.mem_cons_of_mem _ hi)
section
variable {G : Gd} {H : Hp} {m : List Addr} {st : Store} {σ : List (Option V)} {ρ : Env}
theorem EnvR.set {i : Nat} {v : V} {d : D} (er : EnvR G H m st σ ρ) (r : Rp G H m (Lv G m st) v d) : EnvR G H m st (σ.set i (some v)) (ρ.set i (some d)) := by
  refine ⟨by rw [List.length_set, List.length_set]; exact er.len, fun j e q => ?_⟩
  by_cases hj : i = j
  · subst hj
    by_cases hl : i < ρ.length
    · rw [List.getElem?_set_self hl] at q
      cases q
      exact ⟨v, List.getElem?_set_self (by rw [er.len]; exact hl), r⟩
    · rw [List.getElem?_eq_none (by rw [List.length_set]; omega)] at q; cases q
  · rw [List.getElem?_set_ne hj] at q
    rw [List.getElem?_set_ne hj]
    exact er.at_ j e q
theorem EnvR.unset {i : Nat} (er : EnvR G H m st σ ρ) : EnvR G H m st (σ.set i none) (ρ.set i none) := by
  refine ⟨by rw [List.length_set, List.length_set]; exact er.len, fun j e q => ?_⟩
  by_cases hj : i = j
  · subst hj
    by_cases hl : i < ρ.length
    · rw [List.getElem?_set_self hl] at q; cases q
    · rw [List.getElem?_eq_none (by rw [List.length_set]; omega)] at q; cases q
  · rw [List.getElem?_set_ne hj] at q
    rw [List.getElem?_set_ne hj]
    exact er.at_ j e q
theorem EnvR.wipe (er : EnvR G H m st σ ρ) : ∀ vs : List Nat, EnvR G H m st (L2.wipe σ vs) (wipeE ρ vs)
  | [] => er
  | v :: vs => (er.wipe vs).unset
end

theorem setTg_two {a b : Tg} {d : D} {ρ ρ' : Env} (h : setTg (.two a b) d ρ = some ρ') : ∃ x y ρ1, d = .tup [x, y] ∧ setTg a x ρ = some ρ1 ∧ setTg b y ρ1 = some ρ' := by
  match d, h with
  | .tup [x, y], h =>
    unfold setTg at h
    cases q : setTg a x ρ with
    | none => simp only [q] at h; cases h
    | some ρ1 => simp only [q] at h; exact ⟨x, y, ρ1, rfl, q, h⟩
  | .non, h => unfold setTg at h; cases h
  | .bl _, h => unfold setTg at h; cases h
  | .int _, h => unfold setTg at h; cases h
  | .str _, h => unfold setTg at h; cases h
  | .lst _, h => unfold setTg at h; cases h
  | .dct _ _, h => unfold setTg at h; cases h
  | .ref _, h => unfold setTg at h; cases h
  | .fn _, h => unfold setTg at h; cases h
  | .tup [], h => unfold setTg at h; cases h
  | .tup [_], h => unfold setTg at h; cases h
  | .tup (_ :: _ :: _ :: _), h => unfold setTg at h; cases h
theorem setTg_three {a b c : Tg} {d : D} {ρ ρ' : Env} (h : setTg (.three a b c) d ρ = some ρ') : ∃ x y z ρ1 ρ2, d = .tup [x, y, z] ∧ setTg a x ρ = some ρ1 ∧ setTg b y ρ1 = some ρ2 ∧ setTg c z ρ2 = some ρ' := by
  match d, h with
  | .tup [x, y, z], h =>
    unfold setTg at h
    cases q : setTg a x ρ with
    | none => simp only [q] at h; cases h
    | some ρ1 =>
      simp only [q] at h
      cases q2 : setTg b y ρ1 with
      | none => simp only [q2] at h; cases h
      | some ρ2 => simp only [q2] at h; exact ⟨x, y, z, ρ1, ρ2, rfl, q, q2, h⟩
  | .non, h => unfold setTg at h; cases h
  | .bl _, h => unfold setTg at h; cases h
  | .int _, h => unfold setTg at h; cases h
  | .str _, h => unfold setTg at h; cases h
  | .lst _, h => unfold setTg at h; cases h
  | .dct _ _, h => unfold setTg at h; cases h
  | .ref _, h => unfold setTg at h; cases h
  | .fn _, h => unfold setTg at h; cases h
  | .tup [], h => unfold setTg at h; cases h
  | .tup [_], h => unfold setTg at h; cases h
  | .tup [_, _], h => unfold setTg at h; cases h
  | .tup (_ :: _ :: _ :: _ :: _), h => unfold setTg at h; cases h
/-- a target is stored -/
def gS (G : Gd) (tg : Tg) : TG := fun v σ H Q => ∃ ρ m st d ρ', EnvR G H m st σ ρ ∧ Sim G H m st ∧ Rp G H m (Lv G m st) v d ∧ setTg tg d ρ = some ρ' ∧
  ∀ σ', EnvR G H m st σ' ρ' → (∀ vs, (∀ i ∈ tg.vars, i ∈ vs) → wipe σ' vs = wipe σ vs) → Q σ' H
section
variable {X : Cx} {G : Gd} {pos : Pos} {e e' e2 : Expr} {ta tb tc : Tg} {kk : Nat}
theorem ofG {t t' : TG} (h : PG X e t) (i : ∀ v σ H Q, t' v σ H Q → t v σ H Q) : PG X e t' := ⟨fun pins s σ H v u Q I r q => h.run pins s σ H v u Q I r (i v σ H Q q)⟩
theorem sg_name {i : Nat} {x : Str} (hN : X.N.Nodup) (hi : X.N[i]? = some x) (hx : Loc X.env.scope x) (hf : X.fn x = true ∨ X.env.scope.names.lookup x = some .local) : PG X (.Name x pos) (gS G (.name i)) := by
  refine ofG (pg_name hN hi hx hf) fun v σ H Q h => ?_
  obtain ⟨ρ, m, st, d, ρ', er, S, r, hs, q⟩ := h
  have e : ρ.set i (some d) = ρ' := Option.some.inj hs
  subst e
  exact q _ (er.set r) fun vs hv => wipe_set (hv i (by simp [Tg.vars]))
theorem sg_two (hK : X.K = G.K) (hc : X.calm = true) (ha : PG X e (gS G ta)) (hb : PG X e' (gS G tb)) (h1 : assignEach [e, e'] X.env = [(false, assign e X.env), (false, assign e' X.env)]) (h2 : assignEach [e'] X.env = [(false, assign e' X.env)]) :
    PG X (.Tuple [e, e'] kk pos) (gS G (.two ta tb)) := by
  have h0 : assignEach [] X.env = [] := rfl
  refine ofG (pg_tup (n := 2) hc (pgs_cons ha (pgs_cons hb pgs_nil (by rw [h2, h0]; rfl)) (by rw [h1, h2]; rfl)) (by rw [h1]; rfl) (by rw [h1]; rfl)) fun v σ H Q h => ?_
  obtain ⟨ρ, m, st, d, ρ', er, S, r, hs, q⟩ := h
  obtain ⟨x, y, ρ1, rfl, hs1, hs⟩ := setTg_two hs
  cases r with
  | tup hq rr =>
    cases rr with
    | cons rx rr =>
      cases rr with
      | cons ry rr =>
        cases rr
        rw [hK]
        refine ⟨_, _, rfl, hq.now, rfl, _, _, rfl, ρ, m, st, _, ρ1, er, S, rx, hs1, fun σ1 er1 w1 => ?_⟩
        refine ⟨_, _, rfl, ρ1, m, st, _, ρ', er1, S, ry, hs, fun σ2 er2 w2 => ⟨rfl, q σ2 er2 fun vs hv => ?_⟩⟩
        rw [w2 vs fun i hi => hv i (by simp [Tg.vars, hi]), w1 vs fun i hi => hv i (by simp [Tg.vars, hi])]
theorem sg_three (hK : X.K = G.K) (hc : X.calm = true) (ha : PG X e (gS G ta)) (hb : PG X e' (gS G tb)) (hd : PG X e2 (gS G tc)) (h1 : assignEach [e, e', e2] X.env = [(false, assign e X.env), (false, assign e' X.env), (false, assign e2 X.env)])
    (h2 : assignEach [e', e2] X.env = [(false, assign e' X.env), (false, assign e2 X.env)]) (h3 : assignEach [e2] X.env = [(false, assign e2 X.env)]) :
    PG X (.Tuple [e, e', e2] kk pos) (gS G (.three ta tb tc)) := by
  have h0 : assignEach [] X.env = [] := rfl
  refine ofG (pg_tup (n := 3) hc (pgs_cons ha (pgs_cons hb (pgs_cons hd pgs_nil (by rw [h3, h0]; rfl)) (by rw [h2, h3]; rfl)) (by rw [h1, h2]; rfl)) (by rw [h1]; rfl) (by rw [h1]; rfl)) fun v σ H Q h => ?_
  obtain ⟨ρ, m, st, d, ρ', er, S, r, hs, q⟩ := h
  obtain ⟨x, y, z, ρ1, ρ2, rfl, hs1, hs2, hs⟩ := setTg_three hs
  cases r with
  | tup hq rr =>
    cases rr with
    | cons rx rr =>
      cases rr with
      | cons ry rr =>
        cases rr with
        | cons rz rr =>
          cases rr
          rw [hK]
          refine ⟨_, _, rfl, hq.now, rfl, _, _, rfl, ρ, m, st, _, ρ1, er, S, rx, hs1, fun σ1 er1 w1 => ?_⟩
          refine ⟨_, _, rfl, ρ1, m, st, _, ρ2, er1, S, ry, hs2, fun σ2 er2 w2 => ?_⟩
          refine ⟨_, _, rfl, ρ2, m, st, _, ρ', er2, S, rz, hs, fun σ3 er3 w3 => ⟨rfl, q σ3 er3 fun vs hv => ?_⟩⟩
          rw [w3 vs fun i hi => hv i (by simp [Tg.vars, hi]), w2 vs fun i hi => hv i (by simp [Tg.vars, hi]), w1 vs fun i hi => hv i (by simp [Tg.vars, hi])]
end

/-! ### a list under way -/
section
variable {G : Gd} {b : Nat} {H H' : Hp} {m m' : List Addr} {st st' : Store} {ex : List Addr} {Dd : Addr}
structure Ext2 (G : Gd) (ex : List Addr) (b : Nat) (H : Hp) (m : List Addr) (st : Store) (H' : Hp) (m' : List Addr) (st' : Store) : Prop where
  sc : Since G H m st ex H' m' st'
  res : ∀ a ∈ G.ex, H' a = H a
  low : ∀ (l n : Nat) (c c' : Cell), l < b → st[l]? = some c → st'[l]? = some c' → c.low n = true → c'.low n = true
  len : st.length ≤ st'.length
theorem Sim.reserve {xs : List V} (S : Sim G H m st) (hD : H Dd = none) : Sim (G.rs (Dd :: G.ex)) (upd H Dd (.lst xs)) m st ∧ Ext2 G (Dd :: G.ex) b H m st (upd H Dd (.lst xs)) m st := by
  obtain ⟨S1, E1, F1⟩ := S.new (b := b) hD (.lst xs)
  have sc : Since G H m st (Dd :: G.ex) (upd H Dd (.lst xs)) m st := ⟨fun a f => ⟨(E1.keep a f).1, fun q => by
    rcases q with q | q
    · exact f.2 (.inl q)
    · rcases List.mem_cons.mp q with q | q
      · obtain ⟨o, e⟩ := f.there
        rw [q, hD] at e; cases e
      · exact f.2 (.inr q)⟩, fun _ _ h => h⟩
  refine ⟨⟨S.len, S.nd, S1.dom, fun l c a h1 h2 => ?_, fun a h => ?_, fun a h => ?_, tabs_new S.tab hD⟩, ⟨sc, E1.res, E1.low, Nat.le_refl _⟩⟩
  · have r := S.cell l c a h1 h2
    cases c with
    | dead => trivial
    | lst ds =>
      obtain ⟨ys, e, r⟩ := r
      have na : a ≠ Dd := ne_of_none e hD
      exact ⟨ys, by rw [upd_ne na]; exact e, r.since sc⟩
    | dct _ _ => exact r
  · rcases List.mem_cons.mp h with h | h
    · rw [h]
      exact ⟨⟨_, upd_same⟩, fun q => by
        obtain ⟨o, e⟩ := S.dom _ q
        rw [hD] at e; cases e⟩
    · exact S1.res a h
  · rcases h with h | h
    · exact S1.nt a (.inl h)
    · rcases List.mem_cons.mp h with h | h
      · rw [h]; exact ⟨_, upd_same⟩
      · exact S1.nt a (.inr h)
/-- the heap without a place -/
def era (H : Hp) (p : Addr) : Hp := fun a => if a = p then none else H a
theorem era_same {H : Hp} {p : Addr} : era H p p = none := if_pos rfl
theorem era_ne {H : Hp} {p a : Addr} (h : a ≠ p) : era H p a = H a := if_neg h
theorem upd_era {H : Hp} {p : Addr} {o : HO} (h : H p = some o) : upd (era H p) p o = H := by
  funext a
  by_cases e : a = p
  · rw [e, upd_same, h]
  · rw [upd_ne e, era_ne e]
theorem Sim.release {vs : List V} {ds : List D} (hD : H Dd = none) (hex : ∀ a ∈ G.ex, a ≠ Dd) (S' : Sim (G.rs (Dd :: G.ex)) H' m' st') (E : Ext2 G (Dd :: G.ex) b H m st H' m' st') (r : RpAll (G.rs (Dd :: G.ex)) H' m' (Lv (G.rs (Dd :: G.ex)) m' st') vs ds) :
    Sim G (era H' Dd) m' st' ∧ Ext G b H m st (era H' Dd) m' st' ∧ RpAll G (era H' Dd) m' (Lv G m' st') vs ds := by
  have mono : ∀ {ws : List V} {es : List D}, RpAll (G.rs (Dd :: G.ex)) H' m' (Lv (G.rs (Dd :: G.ex)) m' st') ws es → RpAll G (era H' Dd) m' (Lv G m' st') ws es := fun {ws es} q =>
    (q.mono (H' := era H' Dd) (m' := m') (L' := Lv G m' st') (fun a f => ⟨era_ne fun e => f.2 (.inr (by rw [e]; exact List.mem_cons_self)), fun q => f.2 (q.elim .inl fun z => .inr (List.mem_cons_of_mem _ z))⟩) fun _ _ h => h).exch G.ex
  have dn : Dd ∉ m' := (S'.res Dd List.mem_cons_self).2
  have tb : LamX.Tabs G.ec.tb (era H' Dd) := by
    obtain ⟨xs, e⟩ := S'.nt Dd (.inr List.mem_cons_self)
    refine tabs_of S'.tab fun b u e2 n => ?_
    have nb : b ≠ Dd := fun z => by rw [z, e] at e2; cases e2; exact n xs rfl
    rw [era_ne nb]; exact e2
  refine ⟨⟨S'.len, S'.nd, fun a h => ?_, fun l c a h1 h2 => ?_, fun a h => ?_, fun a h => ?_, tb⟩, ⟨fun a f => ?_, E.sc.pre, fun a h => ?_, E.low⟩, mono r⟩
  · rw [era_ne (p := Dd) (a := a) fun e => dn (by rw [← e]; exact h)]; exact S'.dom a h
  · have q := S'.cell l c a h1 h2
    cases c with
    | dead => trivial
    | lst es =>
      obtain ⟨ys, e, q⟩ := q
      exact ⟨ys, by rw [era_ne (p := Dd) (a := a) fun e => dn (by rw [← e]; exact List.mem_of_getElem? h2)]; exact e, mono q⟩
    | dct _ _ => exact q
  · have := S'.res a (List.mem_cons_of_mem _ h)
    rw [era_ne (hex a h)]; exact this
  · rcases h with h | h
    · rw [era_ne (p := Dd) (a := a) fun e => dn (by rw [← e]; exact h)]; exact S'.nt a (.inl h)
    · rw [era_ne (hex a h)]; exact S'.nt a (.inr (List.mem_cons_of_mem _ h))
  · have na : a ≠ Dd := fun e => by
      obtain ⟨o, q⟩ := f.there
      rw [e, hD] at q; cases q
    exact ⟨by rw [era_ne na]; exact (E.sc.keep a f).1, fun q => (E.sc.keep a f).2 (q.elim .inl fun z => .inr (List.mem_cons_of_mem _ z))⟩
  · rw [era_ne (hex a h)]; exact E.res a h
/-- a list under way is written -/
theorem Sim.put {xs ys : List V} (S : Sim G H m st) (hD : Dd ∈ G.ex) (h : H Dd = some (.lst xs)) : Sim G (upd H Dd (.lst ys)) m st ∧ ∀ a, Fz H (Lv G m st) a → upd H Dd (.lst ys) a = H a ∧ ¬ Lv G m st a := by
  have ld : Lv G m st Dd := .inr hD
  have hk : ∀ a, Fz H (Lv G m st) a → upd H Dd (.lst ys) a = H a ∧ ¬ Lv G m st a := fun a f => ⟨upd_ne fun e => f.2 (by rw [e]; exact ld), f.2⟩
  have dn : Dd ∉ m := (S.res Dd hD).2
  refine ⟨⟨S.len, S.nd, fun a q => ?_, fun l c a h1 h2 => ?_, fun a q => ?_, fun a q => ?_, tabs_wr S.tab h⟩, hk⟩
  · rw [upd_ne (a := Dd) (b := a) fun e => dn (by rw [← e]; exact q)]; exact S.dom a q
  · have q := S.cell l c a h1 h2
    cases c with
    | dead => trivial
    | lst es =>
      obtain ⟨zs, e, q⟩ := q
      exact ⟨zs, by rw [upd_ne (a := Dd) (b := a) fun e => dn (by rw [← e]; exact List.mem_of_getElem? h2)]; exact e, q.mono hk fun _ _ h => h⟩
    | dct _ _ => exact q
  · by_cases e : a = Dd
    · rw [e]; exact ⟨⟨_, upd_same⟩, dn⟩
    · rw [upd_ne e]; exact S.res a q
  · by_cases e : a = Dd
    · rw [e]; exact ⟨_, upd_same⟩
    · rw [upd_ne e]; exact S.nt a q
/-- a wish that lasts -/
structure Closed (G : Gd) (Dd : Addr) (b : Nat) (B : Hp → List Addr → Store → Prop) : Prop where
  ext : ∀ {H m st H' m' st'}, B H m st → Sim G H m st → Sim G H' m' st' → Ext G b H m st H' m' st' → B H' m' st'
  wr : ∀ {H m st xs} (ys : List V), B H m st → Sim G H m st → H Dd = some (.lst xs) → B (upd H Dd (.lst ys)) m st
theorem Closed.and {B C : Hp → List Addr → Store → Prop} (h : Closed G Dd b B) (h' : Closed G Dd b C) : Closed G Dd b fun H m st => B H m st ∧ C H m st :=
  ⟨fun q s s' e => ⟨h.ext q.1 s s' e, h'.ext q.2 s s' e⟩, fun ys q s e => ⟨h.wr ys q.1 s e, h'.wr ys q.2 s e⟩⟩
theorem Closed.env {σ : L2.St} {ρ : Env} (hD : Dd ∈ G.ex) : Closed G Dd b fun H m st => EnvR G H m st σ ρ :=
  ⟨fun q _ _ e => q.ext e, fun ys q s e => ⟨q.len, fun i d h => let ⟨v, h1, h2⟩ := q.at_ i d h; ⟨v, h1, h2.mono (s.put hD e).2 fun _ _ h => h⟩⟩⟩
theorem Closed.since {H0 : Hp} {m0 : List Addr} {st0 : Store} (hD : Dd ∈ G.ex) : Closed G Dd b fun H m st => Since G H0 m0 st0 G.ex H m st :=
  ⟨fun q _ _ e => q.trans e, fun {H m st xs} ys q s e => ⟨fun a f => by
    have f' : Fz H (Lv G m st) a := ⟨by rw [(q.keep a f).1]; exact f.1, (q.keep a f).2⟩
    exact ⟨((s.put hD e).2 a f').1.trans (q.keep a f).1, (q.keep a f).2⟩, q.pre⟩⟩
theorem Closed.ext2 {H0 : Hp} {m0 : List Addr} {st0 : Store} (hn : H0 Dd = none) (hne : ∀ a ∈ G.ex, a ≠ Dd) : Closed (G.rs (Dd :: G.ex)) Dd b fun H m st => Ext2 G (Dd :: G.ex) b H0 m0 st0 H m st :=
  ⟨fun {H m st H' m' st'} q s s' e => ⟨q.sc.trans e, fun a h => (e.res a (List.mem_cons_of_mem _ h)).trans (q.res a h), fun l n c c'' hb h1 h2 h3 => by
      have hl' : l < st.length := Nat.lt_of_lt_of_le (List.getElem?_eq_some_iff.mp h1).1 q.len
      exact e.low l n st[l] c'' hb (List.getElem?_eq_getElem hl') h2 (q.low l n c _ hb h1 (List.getElem?_eq_getElem hl') h3), Nat.le_trans q.len (e.length s s')⟩,
    fun ys q s e => ⟨⟨fun a f => ⟨by
      have na : a ≠ Dd := fun z => by
        obtain ⟨o, w⟩ := f.there
        rw [z, hn] at w; cases w
      rw [upd_ne na]; exact (q.sc.keep a f).1, (q.sc.keep a f).2⟩, q.sc.pre⟩, fun a h => by rw [upd_ne (hne a h)]; exact q.res a h, q.low, q.len⟩⟩
/-- the end of a run, wherever it stands, as long as B holds -/
def Fin (G : Gd) (B : Hp → List Addr → Store → Prop) {β : Type} (R : Hp → List Addr → Store → β → Prop) : Res β → Prop
  | .ok d st' => ∀ H' m', Sim G H' m' st' → B H' m' st' → R H' m' st' d
  | _ => False
section
variable {β α : Type} {B C : Hp → List Addr → Store → Prop} {R : Hp → List Addr → Store → β → Prop} {Wσ : Nat → Hp → Prop}
theorem Fin.thn {x : M α} {f : α → M β} (cB : Closed G Dd b B) (hB : B H m st) (S : Sim G H m st) (h : Fin G B R (M.thn x f st)) : After G b H m st Wσ (fun H' m' st' a => B H' m' st' ∧ Fin G B R (f a st')) (x st) := by
  have e : M.thn x f st = (match x st with | .ok a st' => f a st' | .exc c st' => .exc c st' | .bad => .bad) := rfl
  rw [e] at h
  cases q : x st with
  | ok a st' => rw [q] at h; exact fun H' m' s' e => ⟨cB.ext hB S s' e, h⟩
  | exc c st' => rw [q] at h; exact h.elim
  | bad => rw [q] at h; exact h.elim
/-- a list under way, and what is to come -/
def Cur (G : Gd) (Dd : Addr) (B C : Hp → List Addr → Store → Prop) (R : Hp → List Addr → Store → β → Prop) (k : List D → M β) (H : Hp) : Prop :=
  ∃ m st acc accD, B H m st ∧ C H m st ∧ Sim G H m st ∧ H Dd = some (.lst acc) ∧ RpAll G H m (Lv G m st) acc accD ∧ Fin G B R (k accD st)
def Bound (G : Gd) (B : Hp → List Addr → Store → Prop) (R : Hp → List Addr → Store → β → Prop) (k : List D → M β) : Prop := ∀ a st, Fin G B R (k a st) → a.length ≤ 10000000
theorem Bound.loop {k : List D → M β} {x : M (List D)} (h : Bound G B R k) : Bound G B R fun a => M.thn x fun ys => k (a ++ ys) := fun a st q => by
  simp only [M.thn] at q
  cases z : x st with
  | ok ys st' =>
    rw [z] at q
    have := h _ _ q
    rw [List.length_append] at this
    omega
  | exc c st' => rw [z] at q; exact q.elim
  | bad => rw [z] at q; exact q.elim
theorem loop_lc {J : L2.It} {ds : List D} {f : D → M (List D)} {k : List D → M β} {Body : V → Hp → (Hp → Prop) → Prop} {Qd : Hp → Prop} {Hs H0 : Hp} {m0 : List Addr} {st0 : Store} {G0 : Gd} {ex : List Addr} (hG : G0.rs ex = G) (cB : Closed G Dd b B) (cC : Closed G Dd b C)
    (hD : Dd ∈ G.ex) (Yl : Yields G0 H0 m0 st0 J ds) (hC : ∀ H m st, B H m st → C H m st → Since G0 H0 m0 st0 ex H m st) (bk : Bound G B R k)
    (h0 : Cur G Dd B C R (fun a => M.thn (loopC f ds) fun ys => k (a ++ ys)) Hs)
    (hs : ∀ x d k' H m st acc accD, Bound G B R k' → B H m st → C H m st → Sim G H m st → H Dd = some (.lst acc) → RpAll G H m (Lv G m st) acc accD → Rp G H m (Lv G m st) x d → Fin G B R (M.thn (f d) (fun ys => k' (accD ++ ys)) st) → Body x H (Cur G Dd B C R k'))
    (hd : ∀ H, Cur G Dd B C R k H → Qd H) :
    ∃ W : Nat → Nat → Hp → Prop, (∃ m, W 0 m Hs) ∧ ∀ i m H, W i m H → (J.stop i H ∧ Qd H) ∨ (J.go i H ∧ ∃ Nx : Hp → Prop, (∀ H', Nx H' → ∃ m', m' < m ∧ W (i + 1) m' H') ∧ ∀ x H', J.yld i H x H' → Body x H' Nx) := by
  obtain ⟨Gp, Y, w, hw⟩ := Yl.out
  refine ⟨fun i n H => n = ds.length - i ∧ i ≤ ds.length ∧ Cur G Dd B C R (fun a => M.thn (loopC f (ds.drop i)) fun ys => k (a ++ ys)) H, ⟨ds.length, by simp, Nat.zero_le _, h0⟩, ?_⟩
  rintro i n H ⟨rfl, hi, m, st, acc, accD, hB, hCc, S, hd1, ra, fin⟩
  subst hG
  have q := hw ex H m st (hC H m st hB hCc) S
  by_cases hlt : i < ds.length
  · refine .inr ⟨w.goes i H hlt q.1, _, fun H' p' => ⟨ds.length - (i + 1), by omega, rfl, hlt, p'⟩, fun x H' y => ?_⟩
    obtain ⟨d, hdi, S', E', rx⟩ := q.2 i x H' hlt (w.yields i H x H' hlt q.1 y)
    have hdr : ds.drop i = d :: ds.drop (i + 1) := by
      rw [List.drop_eq_getElem_cons hlt]
      congr 1
      rw [List.getElem?_eq_getElem hlt] at hdi
      exact Option.some.inj hdi
    have hB' := cB.ext hB S S' (E' b)
    have hC' := cC.ext hCc S S' (E' b)
    refine hs x d _ H' m st acc accD (bk.loop (x := loopC f (ds.drop (i + 1)))) hB' hC' S' (((E' b).res Dd hD).trans hd1) (ra.ext (E' b)) rx ?_
    have e : M.thn (f d) (fun ys => M.thn (loopC f (ds.drop (i + 1))) fun zs => k ((accD ++ ys) ++ zs)) = M.thn (loopC f (ds.drop i)) (fun ys => k (accD ++ ys)) := by
      rw [hdr, loopC, thn_assoc]
      congr 1
      funext ys
      rw [thn_assoc]
      congr 1
      funext zs
      rw [thn_ret, List.append_assoc]
    rw [e]
    exact fin
  · have e : i = ds.length := by omega
    subst e
    refine .inl ⟨w.stops H q.1, hd H ⟨m, st, acc, accD, hB, hCc, S, hd1, ra, ?_⟩⟩
    have e : M.thn (loopC f (ds.drop ds.length)) (fun ys => k (accD ++ ys)) = k accD := by
      rw [List.drop_length, loopC, thn_ret, List.append_nil]
    rw [← e]
    exact fin
/-- the errors that no one waits for -/
abbrev WF : WX := fun _ _ _ _ => False
/-- one turn of the last clause -/
theorem turn_lc {tg : Tg} {cf : Env → M Bool} {ef : Env → M D} {vs : List Nat} {σp : L2.St} {ρb : Env} {k' : List D → M β} {x : V} {d : D} {acc : List V} {accD : List D} (cB : Closed G Dd b B) (cC : Closed G Dd b C) (hD : Dd ∈ G.ex) (hv : ∀ i ∈ tg.vars, i ∈ vs)
    (hE : ∀ H m st, C H m st → EnvR G H m st (wipe σp vs) ρb) (bk : Bound G B R k') (hB : B H m st) (hC : C H m st) (S : Sim G H m st) (hd1 : H Dd = some (.lst acc)) (ra : RpAll G H m (Lv G m st) acc accD) (rx : Rp G H m (Lv G m st) x d)
    (fin : Fin G B R (M.thn (match setTg tg d ρb with | some ρ => M.thn (cf ρ) fun k => if k then M.thn (ef ρ) fun y => M.ret [y] else M.ret [] | none => M.bad) (fun ys => k' (accD ++ ys)) st)) :
    gS G tg x (wipe σp vs) H fun σ2 H2 => wipe σ2 vs = wipe σp vs ∧ Ev.tB G b WF cf σ2 H2 fun c H3 =>
      if c = true then tE G b WF ef σ2 H3 fun y H4 => ∃ acc, H4 Dd = some (.lst acc) ∧ acc.length < sizeLine ∧ Cur G Dd B C R k' (upd H4 Dd (.lst (acc ++ [y]))) else Cur G Dd B C R k' H3 := by
  cases hs : setTg tg d ρb with
  | none => rw [hs] at fin; exact fin.elim
  | some ρ' =>
    rw [hs] at fin
    refine ⟨ρb, m, st, d, ρ', hE H m st hC, S, rx, hs, fun σ' er' hw => ⟨by rw [hw vs hv]; exact wipe_wipe σp vs vs fun _ h => h, ?_⟩⟩
    have fin : Fin G B R (M.thn (M.thn (cf ρ') fun k => if k then M.thn (ef ρ') fun y => M.ret [y] else M.ret []) (fun ys => k' (accD ++ ys)) st) := fin
    rw [thn_assoc] at fin
    refine ⟨ρ', m, st, er', S, (Fin.thn cB hB S fin).mono (fun H1 m1 st1 c S1 E1 q => ?_) fun _ _ (h : False) => h.elim⟩
    obtain ⟨hB1, fin⟩ := q
    have hC1 := cC.ext hC S S1 E1
    cases c with
    | true =>
      have fin : Fin G B R (M.thn (M.thn (ef ρ') fun y => M.ret [y]) (fun ys => k' (accD ++ ys)) st1) := fin
      rw [thn_assoc] at fin
      rw [if_pos rfl]
      refine ⟨ρ', m1, st1, er'.ext E1, S1, (Fin.thn cB hB1 S1 fin).mono (fun H2 m2 st2 y S2 E2 q v r => ?_) fun _ _ (h : False) => h.elim⟩
      obtain ⟨hB2, fin⟩ := q
      have fin : Fin G B R (k' (accD ++ [y]) st2) := fin
      have hC2 := cC.ext hC1 S1 S2 E2
      have hd2 : H2 Dd = some (.lst acc) := ((E2.res Dd hD).trans (E1.res Dd hD)).trans hd1
      have ra2 := (ra.ext E1).ext E2
      obtain ⟨S3, hk⟩ := S2.put (ys := acc ++ [v]) hD hd2
      have hb := bk _ _ fin
      refine ⟨acc, hd2, ?_, m2, st2, acc ++ [v], accD ++ [y], cB.wr _ hB2 S2 hd2, cC.wr _ hC2 S2 hd2, S3, upd_same, (ra2.append (.cons r .nil)).mono hk fun _ _ h => h, fin⟩
      rw [List.length_append] at hb
      have h9 : (10000000 : Nat) ≤ sizeLine := okSize_le (by decide)
      rw [ra2.length]
      simp at hb
      omega
    | false =>
      have fin : Fin G B R (k' (accD ++ []) st1) := fin
      rw [List.append_nil] at fin
      rw [if_neg Bool.false_ne_true]
      exact ⟨m1, st1, acc, accD, hB1, hC1, S1, (E1.res Dd hD).trans hd1, ra.ext E1, fin⟩
end
end
end Ev
set_option linter.all false
set_option maxRecDepth 100000
/-! Ev11: list comprehensions, one clause and two. -/
namespace Ev
open PySem PySem.Spec PyProof.Rows L2

def gSx (G : Gd) (tg : Tg) : TG := fun v σ H Q => ∃ ex, gS (G.rs ex) tg v σ H Q
def tBx (G : Gd) (b : Nat) (W : WX) (f : Env → M Bool) : TT := fun σ H Q => ∃ ex, Ev.tB (G.rs ex) b W f σ H Q
def tEx (G : Gd) (b : Nat) (W : WX) (f : Env → M D) : TE := fun σ H Q => ∃ ex, tE (G.rs ex) b W f σ H Q
def tIx (G : Gd) (b : Nat) (W : WX) (f : Env → M (List D)) : TI := fun σ H R => ∃ ex, tI (G.rs ex) b W f σ H R
abbrev turnF (own : List Nat) (tg : Tg) (cf : Env → M Bool) (ef : Env → M D) (ρ : Env) : D → M (List D) := fun x => match setTg tg x (wipeE ρ own) with
  | some σ => M.thn (cf σ) fun k => if k then M.thn (ef σ) fun y => M.ret [y] else M.ret []
  | none => M.bad
abbrev compF (own : List Nat) (tg : Tg) (itf : Env → M (List D)) (cf : Env → M Bool) (ef : Env → M D) (ρ : Env) : M (List D) :=
  M.thn (itf ρ) fun xs => M.calm (M.thn (loopC (turnF own tg cf ef ρ) xs) fun ys => if okSize ys.length then M.ret ys else M.bad)
abbrev turnF2 (own own1 : List Nat) (tg tg1 : Tg) (cf : Env → M Bool) (itf1 : Env → M (List D)) (cf1 : Env → M Bool) (ef : Env → M D) (ρ : Env) : D → M (List D) := fun x => match setTg tg x (wipeE ρ own) with
  | some σ => M.thn (cf σ) fun k => if k then M.thn (itf1 σ) fun zs => loopC (turnF own1 tg1 cf1 ef σ) zs else M.ret []
  | none => M.bad
abbrev compF2 (own own1 : List Nat) (tg tg1 : Tg) (itf : Env → M (List D)) (cf : Env → M Bool) (itf1 : Env → M (List D)) (cf1 : Env → M Bool) (ef : Env → M D) (ρ : Env) : M (List D) :=
  M.thn (itf ρ) fun xs => M.calm (M.thn (loopC (turnF2 own own1 tg tg1 cf itf1 cf1 ef ρ) xs) fun ys => if okSize ys.length then M.ret ys else M.bad)
theorem TB.mono {G : Gd} {b : Nat} {W : WX} {σ : L2.St} {H : Hp} {f : Env → M Bool} {Q Q' : Bool → Hp → Prop} (h : Ev.tB G b W f σ H Q) (q : ∀ c H', Q c H' → Q' c H') : Ev.tB G b W f σ H Q' := by
  obtain ⟨ρ, m, st, er, S, h⟩ := h
  exact ⟨ρ, m, st, er, S, h.mono (fun H' m' st' d _ _ h => q _ _ h) fun _ _ h => h⟩
theorem tI.mono {G : Gd} {b : Nat} {W : WX} {σ : L2.St} {H : Hp} {f : Env → M (List D)} {Q Q' : L2.It → Hp → Prop} (h : tI G b W f σ H Q) (q : ∀ c H', Q c H' → Q' c H') : tI G b W f σ H Q' := by
  obtain ⟨ρ, m, st, er, S, h⟩ := h
  exact ⟨ρ, m, st, er, S, h.mono (fun H' m' st' d _ _ h J y => q _ _ (h J y)) fun _ _ h => h⟩
theorem gS.mono {G : Gd} {σ : L2.St} {H : Hp} {tg : Tg} {v : V} {Q Q' : L2.St → Hp → Prop} (h : gS G tg v σ H Q) (q : ∀ c H', Q c H' → Q' c H') : gS G tg v σ H Q' := by
  obtain ⟨ρ, m, st, d, ρ', er, S, r, hs, h⟩ := h
  exact ⟨ρ, m, st, d, ρ', er, S, r, hs, fun σ' e w => q _ _ (h σ' e w)⟩
section
variable {G : Gd} {b : Nat} {W : WX} {σ : L2.St} {H : Hp} {Q : VK} {own own1 : List Nat} {tg tg1 : Tg} {itf itf1 : Env → M (List D)} {cf cf1 : Env → M Bool} {ef : Env → M D}
abbrev capF : List D → M (List D) := fun ys => if okSize ys.length then M.ret ys else M.bad
/-- the frame of both -/
theorem lc_frame {f : Env → D → M (List D)} {Body : Addr → V → Hp → (Hp → Prop) → Prop} (h : tN G b W (fun ρ => M.thn (itf ρ) fun xs => M.calm (M.thn (loopC (f ρ) xs) capF)) σ H Q)
    (hbody : ∀ (ρ : Env) (Dd : Addr) (B C : Hp → List Addr → Store → Prop) (R : Hp → List Addr → Store → List D → Prop), Closed (G.rs (Dd :: G.ex)) Dd b B → Closed (G.rs (Dd :: G.ex)) Dd b C → (∀ H m st, C H m st → EnvR (G.rs (Dd :: G.ex)) H m st (wipe σ own) (wipeE ρ own)) →
      ∀ x d k' H m st acc accD, Bound (G.rs (Dd :: G.ex)) B R k' → B H m st → C H m st → Sim (G.rs (Dd :: G.ex)) H m st → H Dd = some (.lst acc) → RpAll (G.rs (Dd :: G.ex)) H m (Lv (G.rs (Dd :: G.ex)) m st) acc accD → Rp (G.rs (Dd :: G.ex)) H m (Lv (G.rs (Dd :: G.ex)) m st) x d →
        Fin (G.rs (Dd :: G.ex)) B R (M.thn (f ρ d) (fun ys => k' (accD ++ ys)) st) → Body Dd x H (Cur (G.rs (Dd :: G.ex)) Dd B C R k')) :
    tI G b W itf σ H (fun J H1 => ∀ Dd, H1 Dd = none → ∃ Wm : Nat → Nat → Hp → Prop, (∃ m, Wm 0 m (upd H1 Dd (.lst []))) ∧ ∀ i m H, Wm i m H → (J.stop i H ∧ Q (.ref Dd) H) ∨ (J.go i H ∧ ∃ Nx : Hp → Prop, (∀ H', Nx H' → ∃ m', m' < m ∧ Wm (i + 1) m' H') ∧ ∀ x H', J.yld i H x H' → Body Dd x H' Nx)) := by
  obtain ⟨ρ, m, st, er, S, h⟩ := h
  refine (tI.go er S h).mono fun J H1 q => ?_
  obtain ⟨m1, st1, ds, S1, E1, Yl, h1⟩ := q
  intro Dd hD
  have hex : ∀ a ∈ G.ex, a ≠ Dd := fun a ha => by
    obtain ⟨⟨o, q⟩, _⟩ := S1.res a ha
    exact ne_of_none q hD
  obtain ⟨S2, E2⟩ := S1.reserve (b := b) (xs := []) hD
  refine loop_lc (G := G.rs (Dd :: G.ex)) (f := f ρ) (Dd := Dd) (b := b) (B := fun H m st => Ext2 G (Dd :: G.ex) b H1 m1 st1 H m st) (C := fun H m st => EnvR (G.rs (Dd :: G.ex)) H m st (wipe σ own) (wipeE ρ own)) (k := capF)
    (R := fun H' m' st' d => ∀ vs, H' Dd = some (.lst vs) → RpAll (G.rs (Dd :: G.ex)) H' m' (Lv (G.rs (Dd :: G.ex)) m' st') vs d → Q (.ref Dd) H') rfl (Closed.ext2 hD hex) (Closed.env List.mem_cons_self) List.mem_cons_self Yl (fun H m st hB _ => hB.sc) ?_ ?_ ?_ ?_
  · intro a st' q
    by_cases z : okSize a.length = true
    · exact of_decide_eq_true z
    · have q : Fin _ _ _ ((if okSize a.length = true then M.ret a else M.bad) st') := q
      rw [if_neg z] at q
      exact q.elim
  · refine ⟨m1, st1, [], [], E2, ((er.ext E1).since E2.sc).wipe own, S2, upd_same, .nil, ?_⟩
    show Fin _ _ _ (M.thn (loopC (f ρ) ds) (fun ys => capF ([] ++ ys)) st1)
    have e : (fun ys => capF ([] ++ ys)) = capF := by funext ys; rfl
    rw [e]
    simp only [M.calm] at h1
    cases q : M.thn (loopC (f ρ) ds) capF st1 with
    | ok ds' st' =>
      rw [q] at h1
      intro H' m' S' B' vs hv r
      obtain ⟨S3, E3, r3⟩ := S'.release hD hex B' r
      have q3 := h1 (era H' Dd) m' S3 E3 Dd vs era_same r3
      rw [upd_era hv] at q3
      exact q3
    | exc c st' => rw [q] at h1; exact h1.elim
    | bad => rw [q] at h1; exact h1.elim
  · intro x d k' H m st acc accD bk hB hC S hd ra rx fin
    exact hbody ρ Dd _ _ _ (Closed.ext2 hD hex) (Closed.env List.mem_cons_self) (fun _ _ _ h => h) x d k' H m st acc accD bk hB hC S hd ra rx fin
  · rintro H ⟨m, st, acc, accD, hB, hC, S, hd, ra, fin⟩
    have q : Fin _ _ _ ((if okSize accD.length = true then M.ret accD else M.bad) st) := fin
    by_cases z : okSize accD.length = true
    · rw [if_pos z] at q
      exact q H m S hB acc hd ra
    · rw [if_neg z] at q
      exact q.elim
theorem lc_read (hv : ∀ i ∈ tg.vars, i ∈ own) (h : tN G b W (compF own tg itf cf ef) σ H Q) : tLc (tI G b W itf) (gSx G tg) (tBx G b WF cf) (tEx G b WF ef) own σ H Q := by
  refine lc_frame (own := own) (f := fun ρ => turnF own tg cf ef ρ) (Body := fun Dd x H' Nx => gSx G tg x (wipe σ own) H' fun σ2 H2 => wipe σ2 own = wipe σ own ∧ tBx G b WF cf σ2 H2 fun c H3 =>
    if c = true then tEx G b WF ef σ2 H3 fun y H4 => ∃ acc, H4 Dd = some (.lst acc) ∧ acc.length < sizeLine ∧ Nx (upd H4 Dd (.lst (acc ++ [y]))) else Nx H3) h fun ρ Dd B C R cB cC hE x d k' H m st acc accD bk hB hC S hd ra rx fin => ?_
  have q := turn_lc cB cC List.mem_cons_self hv hE bk hB hC S hd ra rx fin
  refine ⟨_, q.mono fun σ2 H2 ⟨e, q⟩ => ⟨e, _, TB.mono q fun c H3 q => ?_⟩⟩
  cases c with
  | true => rw [if_pos rfl] at q ⊢; exact ⟨_, q⟩
  | false => rw [if_neg Bool.false_ne_true] at q ⊢; exact q
theorem lc_read2 (hv : ∀ i ∈ tg.vars, i ∈ own) (hv1 : ∀ i ∈ tg1.vars, i ∈ own1) (h : tN G b W (compF2 own own1 tg tg1 itf cf itf1 cf1 ef) σ H Q) :
    tLc2 (tI G b W itf) (gSx G tg) (tBx G b WF cf) (tIx G b WF itf1) (gSx G tg1) (tBx G b WF cf1) (tEx G b WF ef) own own1 σ H Q := by
  refine lc_frame (own := own) (f := fun ρ => turnF2 own own1 tg tg1 cf itf1 cf1 ef ρ) (Body := fun Dd x H' Nx => gSx G tg x (wipe σ own) H' fun σ2 H2 => wipe σ2 own = wipe σ own ∧ tBx G b WF cf σ2 H2 fun c H3 =>
    if c = true then tIx G b WF itf1 σ2 H3 fun J1 H4 => ∃ W1 : Nat → Nat → Hp → Prop, (∃ m, W1 0 m H4) ∧ ∀ j k H, W1 j k H →
      (J1.stop j H ∧ Nx H) ∨ (J1.go j H ∧ ∃ Nx1 : Hp → Prop, (∀ H', Nx1 H' → ∃ k', k' < k ∧ W1 (j + 1) k' H') ∧ ∀ x H', J1.yld j H x H' → gSx G tg1 x (wipe σ2 own1) H' fun σ3 H5 => wipe σ3 own1 = wipe σ2 own1 ∧ tBx G b WF cf1 σ3 H5 fun c H6 =>
        if c = true then tEx G b WF ef σ3 H6 fun y H7 => ∃ acc, H7 Dd = some (.lst acc) ∧ acc.length < sizeLine ∧ Nx1 (upd H7 Dd (.lst (acc ++ [y]))) else Nx1 H6)
    else Nx H3) h fun ρ Dd B C R cB cC hE x d k' H m st acc accD bk hB hC S hd1 ra rx fin => ?_
  cases hs : setTg tg d (wipeE ρ own) with
  | none =>
    simp only [turnF2, hs] at fin
    exact fin.elim
  | some ρ' =>
    simp only [turnF2, hs] at fin
    refine ⟨Dd :: G.ex, wipeE ρ own, m, st, d, ρ', hE H m st hC, S, rx, hs, fun σ' er' hw => ⟨by rw [hw own hv]; exact wipe_wipe σ own own fun _ h => h, Dd :: G.ex, ?_⟩⟩
    rw [thn_assoc] at fin
    refine ⟨ρ', m, st, er', S, (Fin.thn cB hB S fin).mono (fun H1 m1 st1 c S1 E1 q => ?_) fun _ _ (h : False) => h.elim⟩
    obtain ⟨hB1, fin⟩ := q
    have hC1 := cC.ext hC S S1 E1
    cases c with
    | false =>
      rw [if_neg Bool.false_ne_true] at fin ⊢
      have fin : Fin (G.rs (Dd :: G.ex)) B R (k' (accD ++ []) st1) := fin
      rw [List.append_nil] at fin
      exact ⟨m1, st1, acc, accD, hB1, hC1, S1, (E1.res Dd List.mem_cons_self).trans hd1, ra.ext E1, fin⟩
    | true =>
      rw [if_pos rfl] at fin ⊢
      rw [thn_assoc] at fin
      refine ⟨Dd :: G.ex, ρ', m1, st1, er'.ext E1, S1, (Fin.thn cB hB1 S1 fin).mono (fun H2 m2 st2 zs S2 E2 q J Yl => ?_) fun _ _ (h : False) => h.elim⟩
      obtain ⟨hB2, fin⟩ := q
      have hC2 := cC.ext hC1 S1 S2 E2
      have er2 := (er'.ext E1).ext E2
      refine loop_lc (G := G.rs (Dd :: G.ex)) (G0 := G.rs (Dd :: G.ex)) (ex := Dd :: G.ex) (f := turnF own1 tg1 cf1 ef ρ') (Dd := Dd) (b := b) (B := B) (R := R) (k := k')
        (C := fun H m st => C H m st ∧ EnvR (G.rs (Dd :: G.ex)) H m st (wipe σ' own1) (wipeE ρ' own1) ∧ Since (G.rs (Dd :: G.ex)) H2 m2 st2 (Dd :: G.ex) H m st) rfl cB (cC.and ((Closed.env List.mem_cons_self).and (Closed.since (G := G.rs (Dd :: G.ex)) List.mem_cons_self))) List.mem_cons_self Yl (fun H m st _ hC => hC.2.2) bk ?_ ?_ ?_
      · exact ⟨m2, st2, acc, accD, hB2, ⟨hC2, er2.wipe own1, ⟨fun a f => ⟨rfl, f.2⟩, fun _ _ h => h⟩⟩, S2, ((E2.res Dd List.mem_cons_self).trans (E1.res Dd List.mem_cons_self)).trans hd1, (ra.ext E1).ext E2, fin⟩
      · intro x d k'' H m st acc accD bk hB hC S hd ra rx fin
        have q := turn_lc (σp := σ') (ρb := wipeE ρ' own1) cB (cC.and ((Closed.env List.mem_cons_self).and (Closed.since (G := G.rs (Dd :: G.ex)) List.mem_cons_self))) List.mem_cons_self hv1 (fun _ _ _ h => h.2.1) bk hB hC S hd ra rx fin
        refine ⟨_, q.mono fun σ2 H2 ⟨e, q⟩ => ⟨e, _, TB.mono q fun c H3 q => ?_⟩⟩
        cases c with
        | true => rw [if_pos rfl] at q ⊢; exact ⟨_, q⟩
        | false => rw [if_neg Bool.false_ne_true] at q ⊢; exact q
      · rintro H ⟨m, st, acc, accD, hB, hC, S, hd, ra, fin⟩
        exact ⟨m, st, acc, accD, hB, hC.1, S, hd, ra, fin⟩
end
section
variable {X : Cx} {G : Gd} {b : Nat} {W : WX} {own : List (Str × Nat)} {own1 : List Nat} {tg tg1 : Tg} {itf itf1 : Env → M (List D)} {cf cf1 : Env → M Bool} {ef : Env → M D} {elt tge iter tge1 iter1 : Expr} {ifs ifs1 : List Expr} {scope : Scope} {pos : Pos}
theorem gx (h : ∀ ex, PG X tge (gS (G.rs ex) tg)) : PG X tge (gSx G tg) := ⟨fun pins s σ H v u Q I r q => let ⟨ex, q⟩ := q; (h ex).run pins s σ H v u Q I r q⟩
theorem tx (h : ∀ ex, PTs X ifs (Ev.tB (G.rs ex) b W cf)) : PTs X ifs (tBx G b W cf) := ⟨fun pins s σ H Q I q => let ⟨ex, q⟩ := q; (h ex).run pins s σ H Q I q⟩
theorem exx (h : ∀ ex, PE X elt (tE (G.rs ex) b W ef)) : PE X elt (tEx G b W ef) := ⟨fun pins s σ H Q I q => let ⟨ex, q⟩ := q; (h ex).run pins s σ H Q I q⟩
theorem ix (h : ∀ ex, PI X tge iter (tI (G.rs ex) b W itf)) : PI X tge iter (tIx G b W itf) := ⟨fun pins s σ H Q I q => let ⟨ex, q⟩ := q; (h ex).run pins s σ H Q I q⟩
theorem spts_nil : PTs X [] (Ev.tB G b W fun _ => M.ret true) := ⟨fun pins s σ H Q I q => pts_nil.run pins s σ H Q I (by obtain ⟨ρ, m, st, er, S, h⟩ := q; exact h.ret S)⟩
/-- a comprehension's parts, in its block -/
structure CompOk (X : Cx) (G : Gd) (b : Nat) (W : WX) (elt tge iter : Expr) (ifs : List Expr) (scope : Scope) (own : List (Str × Nat)) (tg : Tg) (itf : Env → M (List D)) (cf : Env → M Bool) (ef : Env → M D) : Prop where
  it : PI X tge iter (tI G b W itf)
  ok : BlkOk X.N X.env.scope scope own
  vars : ∀ i ∈ tg.vars, i ∈ own.map (·.2)
  tgt : ∀ (s : Shared) (H : Hp) (C : Addr) (cl : List (Str × Addr)) (fp : List Addr) (ex : List Addr), PG (X.blk s H scope (compEnvC scope cl C X.env) fp) tge (gS (G.rs ex) tg)
  tst : ∀ (s : Shared) (H : Hp) (C : Addr) (cl : List (Str × Addr)) (fp : List Addr) (ex : List Addr), PTs (X.blk s H scope (compEnvC scope cl C X.env) fp) ifs (Ev.tB (G.rs ex) b WF cf)
  el : ∀ (s : Shared) (H : Hp) (C : Addr) (cl : List (Str × Addr)) (fp : List Addr) (ex : List Addr), PE (X.blk s H scope (compEnvC scope cl C X.env) fp) elt (tE (G.rs ex) b WF ef)
  src : ∀ x, foldedSetIterable iter X.env x = pure x
structure CompOk2 (X : Cx) (G : Gd) (b : Nat) (W : WX) (elt tge iter : Expr) (ifs : List Expr) (tge1 iter1 : Expr) (ifs1 : List Expr) (scope : Scope) (own : List (Str × Nat)) (own1 : List Nat) (tg tg1 : Tg) (itf : Env → M (List D)) (cf : Env → M Bool) (itf1 : Env → M (List D)) (cf1 : Env → M Bool) (ef : Env → M D) : Prop
    extends CompOk X G b W elt tge iter ifs scope own tg itf cf ef where
  vars1 : ∀ i ∈ tg1.vars, i ∈ own1
  sub1 : ∀ i ∈ own1, i ∈ own.map (·.2)
  it1 : ∀ (s : Shared) (H : Hp) (C : Addr) (cl : List (Str × Addr)) (fp : List Addr) (ex : List Addr), PI (X.blk s H scope (compEnvC scope cl C X.env) fp) tge1 iter1 (tI (G.rs ex) b WF itf1)
  tgt1 : ∀ (s : Shared) (H : Hp) (C : Addr) (cl : List (Str × Addr)) (fp : List Addr) (ex : List Addr), PG (X.blk s H scope (compEnvC scope cl C X.env) fp) tge1 (gS (G.rs ex) tg1)
  tst1 : ∀ (s : Shared) (H : Hp) (C : Addr) (cl : List (Str × Addr)) (fp : List Addr) (ex : List Addr), PTs (X.blk s H scope (compEnvC scope cl C X.env) fp) ifs1 (Ev.tB (G.rs ex) b WF cf1)
  src1 : ∀ env x, foldedSetIterable iter1 env x = pure x
theorem sn_comp (hc : X.calm = true) (hN : X.N.Nodup) (h : CompOk X G b W elt tge iter ifs scope own tg itf cf ef) : PE X (.ListComp elt [⟨tge, iter, ifs, 0⟩] scope pos) (tN G b W (compF (own.map (·.2)) tg itf cf ef)) :=
  ofE (pe_lc hc hN h.it h.ok (fun s H C cl fp => gx (h.tgt s H C cl fp)) (fun s H C cl fp => tx (h.tst s H C cl fp)) (fun s H C cl fp => exx (h.el s H C cl fp)) h.src) fun σ H Q q => lc_read h.vars q
theorem sn_comp2 (hc : X.calm = true) (hN : X.N.Nodup) (h : CompOk2 X G b W elt tge iter ifs tge1 iter1 ifs1 scope own own1 tg tg1 itf cf itf1 cf1 ef) : PE X (.ListComp elt [⟨tge, iter, ifs, 0⟩, ⟨tge1, iter1, ifs1, 0⟩] scope pos) (tN G b W (compF2 (own.map (·.2)) own1 tg tg1 itf cf itf1 cf1 ef)) :=
  ofE (pe_lc2 hc hN h.it h.ok h.sub1 (fun s H C cl fp => gx (h.tgt s H C cl fp)) (fun s H C cl fp => tx (h.tst s H C cl fp)) (fun s H C cl fp => ix (h.it1 s H C cl fp)) (fun s H C cl fp => gx (h.tgt1 s H C cl fp)) (fun s H C cl fp => tx (h.tst1 s H C cl fp)) (fun s H C cl fp => exx (h.el s H C cl fp)) h.src h.src1) fun σ H Q q => lc_read2 h.vars h.vars1 q
end
end Ev
set_option linter.all false
set_option maxRecDepth 100000
/-! Ev12: statements. -/
namespace Ev
open PySem PySem.Spec PyProof.Rows L2

abbrev wE (E : XK) : WX := fun c d _ H => E c d H
abbrev XW (G : Gd) (E : XK) : Nat → Hp → Prop := fun c H' => ∀ a, G.ec c a → E (.ref a) none H'
def FlowR (G : Gd) (D : Ends) (H : Hp) (m : List Addr) (st : Store) : Flow → Prop
  | .next ρ => ∀ σ, EnvR G H m st σ ρ → D.nx σ H
  | .brk ρ => ∀ σ, EnvR G H m st σ ρ → D.bk σ H
  | .ret d => ∀ v, Rp G H m (Lv G m st) v d → D.rt v H
def tS (G : Gd) (b : Nat) (E : XK) (f : Env → M Flow) : TS := fun D σ H => ∃ ρ m st, EnvR G H m st σ ρ ∧ Sim G H m st ∧ After G b H m st (XW G E) (FlowR G D) (f ρ st)
/-- what follows a flow -/
abbrev flowK (g : Env → M Flow) : Flow → M Flow := fun fl => match fl with
  | .next ρ => g ρ
  | fl => M.ret fl
section
variable {X : Cx} {G : Gd} {b : Nat} {E : XK} {f g k : Env → M D} {fs gs : Env → M Flow} {e e' e2 : Expr} {pos p : Pos} {es : List Expr} {stm : Stmt} {rest rest' : List Stmt}
theorem ofS {t t' : TS} (h : PS X stm t) (i : ∀ D σ H, t' D σ H → t D σ H) : PS X stm t' := ⟨fun pins s σ H D I q => h.run pins s σ H D I (i D σ H q)⟩
theorem ofSs {t t' : TS} (h : PSs X rest t) (i : ∀ D σ H, t' D σ H → t D σ H) : PSs X rest t' := ⟨fun pins s σ H D I q => h.run pins s σ H D I (i D σ H q)⟩
theorem sss_nil : PSs X [] (tS G b E fun ρ => M.ret (.next ρ)) := ofSs pss_nil fun D σ H q => by
  obtain ⟨ρ, m, st, er, S, h⟩ := q
  exact h.ret S σ er
theorem sss_cons (h1 : PS X stm (tS G b E fs)) (h2 : PSs X rest (tS G b E gs)) : PSs X (stm :: rest) (tS G b E fun ρ => M.thn (fs ρ) (flowK gs)) := by
  refine ofSs (pss_cons h1 h2) fun D σ H q => ?_
  obtain ⟨ρ, m, st, er, S, h⟩ := q
  refine ⟨ρ, m, st, er, S, (h.thn S).mono (fun H' m' st' fl S' E' h => ?_) fun _ _ h => h⟩
  cases fl with
  | next ρ' => exact fun σ' er' => ⟨ρ', m', st', er', S', h⟩
  | brk ρ' => exact fun σ' er' => After.ret (Wσ := XW G E) (R := FlowR G D) (d := Flow.brk ρ') S' h σ' er'
  | ret d => exact fun v r => After.ret (Wσ := XW G E) (R := FlowR G D) (d := Flow.ret d) S' h v r
/-- a step of ours alone -/
theorem sss_ours (h2 : PSs X rest (tS G b E gs)) (ok : ∀ (D : Ends) (σ : L2.St) (H : Hp) (ρ : Env) (m : List Addr) (st : Store), EnvR G H m st σ ρ → Sim G H m st → After G b H m st (XW G E) (FlowR G D) (M.thn (fs ρ) (flowK gs) st) → ∃ ρ' m' st', EnvR G H m' st' σ ρ' ∧ Sim G H m' st' ∧ After G b H m' st' (XW G E) (FlowR G D) (gs ρ' st')) :
    PSs X rest (tS G b E fun ρ => M.thn (fs ρ) (flowK gs)) := by
  refine ofSs h2 fun D σ H q => ?_
  obtain ⟨ρ, m, st, er, S, h⟩ := q
  exact ok D σ H ρ m st er S h
theorem sss_freeze {i : Nat} (h2 : PSs X rest (tS G b E gs)) : PSs X rest (tS G b E fun ρ => M.thn (M.thn (getE ρ i) fun x => fun st => match x with
    | .ref l => match st[l]? with
      | some (.lst xs) => .ok (.next (ρ.set i (some (.lst xs)))) (st.set l .dead)
      | some (.dct ks vs) => .ok (.next (ρ.set i (some (.dct ks vs)))) (st.set l .dead)
      | _ => .bad
    | _ => .bad) (flowK gs)) := by
  refine sss_ours h2 fun D σ H ρ m st er S h => ?_
  rw [thn_assoc] at h
  cases q : ρ[i]? with
  | none => simp only [getE, q] at h; exact h.elim
  | some o =>
    cases o with
    | none => simp only [getE, q] at h; exact h.elim
    | some d =>
      simp only [getE, q, thn_ret] at h
      cases d with
      | ref l =>
        simp only [M.thn] at h
        cases hl : st[l]? with
        | none => simp only [hl] at h; exact h.elim
        | some c =>
          cases c with
          | dead => simp only [hl] at h; exact h.elim
          | dct ks vs =>
            obtain ⟨a, ha⟩ := S.addr hl
            exact (S.cell l _ a hl ha).elim
          | lst xs =>
            simp only [hl] at h
            obtain ⟨a, ha⟩ := S.addr hl
            obtain ⟨S2, E2, r2⟩ := S.freeze (b := b) hl ha
            refine ⟨_, m, _, ?_, S2, After.from S S2 E2 h⟩
            obtain ⟨v, hv, rv⟩ := er.at_ i _ q
            cases rv with
            | ref ha' =>
              rw [ha] at ha'
              cases ha'
              have e3 := (er.ext E2).set (i := i) r2
              have e4 : σ.set i (some (V.ref a)) = σ := by
                apply List.ext_getElem?
                intro j
                by_cases hj : i = j
                · subst hj
                  rw [List.getElem?_set_self (List.getElem?_eq_some_iff.mp hv).1, hv]
                · rw [List.getElem?_set_ne hj]
              rw [e4] at e3
              exact e3
      | _ => exact h.elim
theorem ss_expr (he : PE X e (tE G b (wE E) f)) (hs : swapsWith e none pos.line X.env = pure false) : PS X (.Expr e pos) (tS G b E fun ρ => M.thn (f ρ) fun _ => M.ret (.next ρ)) := by
  refine ofS (ps_expr he hs) fun D σ H q => ?_
  obtain ⟨ρ, m, st, er, S, h⟩ := q
  refine (tE.go er S h).mono fun v H1 q => ?_
  obtain ⟨m1, st1, d, S1, E1, r, h1⟩ := q
  exact h1.ret S1 σ (er.ext E1)
theorem ss_pass : PS X (.Pass pos) (tS G b E fun ρ => M.ret (.next ρ)) := ofS ps_pass fun D σ H q => by
  obtain ⟨ρ, m, st, er, S, h⟩ := q
  exact h.ret S σ er
theorem ss_brk : PS X (.Break pos) (tS G b E fun ρ => M.ret (.brk ρ)) := ofS ps_break fun D σ H q => by
  obtain ⟨ρ, m, st, er, S, h⟩ := q
  exact h.ret S σ er
theorem ss_ret (he : PE X e (tE G b (wE E) f)) : PS X (.Return (some e) pos) (tS G b E fun ρ => M.thn (f ρ) fun d => M.ret (.ret d)) := ofS (ps_ret he) fun D σ H q => by
  obtain ⟨ρ, m, st, er, S, h⟩ := q
  refine (tE.go er S h).mono fun v H1 q => ?_
  obtain ⟨m1, st1, d, S1, E1, r, h1⟩ := q
  exact h1.ret S1 v r
theorem ss_retN : PS X (.Return none pos) (tS G b E fun ρ => M.ret (.ret .non)) := ofS ps_retN fun D σ H q => by
  obtain ⟨ρ, m, st, er, S, h⟩ := q
  exact h.ret S .non .non
theorem ss_if {c : Env → M Bool} (hc : PT X e (Ev.tB G b (wE E) c)) (ha : PSs X rest (tS G b E fs)) (hb : PSs X rest' (tS G b E gs)) : PS X (.If e rest rest' pos) (tS G b E fun ρ => M.thn (c ρ) fun k => if k then fs ρ else gs ρ) := ofS (ps_if hc ha hb) fun D σ H q => by
  obtain ⟨ρ, m, st, er, S, h⟩ := q
  refine TB.mono (tB.go er S h) fun k H1 q => ?_
  obtain ⟨m1, st1, S1, E1, h1⟩ := q
  cases k with
  | true => rw [if_pos rfl] at h1 ⊢; exact ⟨ρ, m1, st1, er.ext E1, S1, h1⟩
  | false => rw [if_neg Bool.false_ne_true] at h1 ⊢; exact ⟨ρ, m1, st1, er.ext E1, S1, h1⟩
theorem ss_set {i : Nat} {x : Str} (hN : X.N.Nodup) (hi : X.N[i]? = some x) (hx : Loc X.env.scope x) (he : PE X e (tE G b (wE E) f)) (hs : swapsWith e (some (.Name x p)) pos.line X.env = pure false) (hf : X.fn x = true ∨ X.env.scope.names.lookup x = some .local) :
    PS X (.Assign [.Name x p] e pos) (tS G b E fun ρ => M.thn (f ρ) fun d => M.thn (M.ret (ρ.set i (some d))) fun ρ => M.ret (.next ρ)) := by
  refine ofS (ps_set hN hi hx he hs hf) fun D σ H q => ?_
  obtain ⟨ρ, m, st, er, S, h⟩ := q
  refine (tE.go er S h).mono fun v H1 q => ?_
  obtain ⟨m1, st1, d, S1, E1, r, h1⟩ := q
  exact h1.ret S1 _ ((er.ext E1).set r)
theorem ss_asg {tg : Tg} (he : PE X e (tE G b (wE E) f)) (hg : PG X e' (gS G tg)) (hs : swapsWithSole [e'] e pos.line X.env = pure false) (hw : swappedStores [e'] e X.env = pure none) (h1 : (assignEach [e'] X.env).map (·.2) = [assign e' X.env]) :
    PS X (.Assign [e'] e pos) (tS G b E fun ρ => M.thn (f ρ) fun d => M.thn (M.ofO (setTg tg d ρ)) fun ρ => M.ret (.next ρ)) := by
  refine ofS (ps_asg he hg hs hw h1) fun D σ H q => ?_
  obtain ⟨ρ, m, st, er, S, h⟩ := q
  refine (tE.go er S h).mono fun v H1 q => ?_
  obtain ⟨m1, st1, d, S1, E1, r, h1⟩ := q
  obtain ⟨ρ', hs, h2⟩ := (h1.thn S1).ofO
  exact ⟨ρ, m1, st1, d, ρ', er.ext E1, S1, r, hs, fun σ' er' _ => (h2.ret S1).ret S1 σ' er'⟩
/-- name = [..], the comprehension's own frame around the store -/
theorem ss_lc {i : Nat} {x : Str} {own : List (Str × Nat)} {tg : Tg} {itf : Env → M (List D)} {cf : Env → M Bool} {elt tge iter : Expr} {ifs : List Expr} {scope : Scope} {p2 : Pos} {nf : List D → M D} (hc : X.calm = true) (hN : X.N.Nodup) (h : CompOk X G b (wE E) elt tge iter ifs scope own tg itf cf f)
    (hi : X.N[i]? = some x) (hx : X.env.scope.names.lookup x = some .local) (hs : swapsWith (.ListComp elt [⟨tge, iter, ifs, 0⟩] scope p2) (some (.Name x p)) pos.line X.env = pure true)
    (hn : ∀ {σ H Q}, tE G b (wE E) (fun ρ => M.thn (compF (own.map (·.2)) tg itf cf f ρ) nf) σ H Q → tN G b (wE E) (compF (own.map (·.2)) tg itf cf f) σ H Q) :
    PS X (.Assign [.Name x p] (.ListComp elt [⟨tge, iter, ifs, 0⟩] scope p2) pos) (tS G b E fun ρ => M.thn (M.thn (compF (own.map (·.2)) tg itf cf f ρ) nf) fun d => M.thn (M.ret (ρ.set i (some d))) fun ρ => M.ret (.next ρ)) := by
  refine ofS (ps_setLc hc hN hi hx hs h.it h.ok (fun s H C cl fp => gx (h.tgt s H C cl fp)) (fun s H C cl fp => tx (h.tst s H C cl fp)) (fun s H C cl fp => exx (h.el s H C cl fp)) h.src) fun D σ H q => ?_
  obtain ⟨ρ, m, st, er, S, q⟩ := q
  refine lc_read h.vars (hn ((tE.go (f := fun ρ => M.thn (compF (own.map (·.2)) tg itf cf f ρ) nf) er S q).mono fun v H1 q => ?_))
  obtain ⟨m1, st1, d, S1, E1, r, h1⟩ := q
  exact h1.ret S1 _ ((er.ext E1).set r)
theorem ss_lc2 {i : Nat} {x : Str} {own : List (Str × Nat)} {own1 : List Nat} {tg tg1 : Tg} {itf itf1 : Env → M (List D)} {cf cf1 : Env → M Bool} {elt tge iter tge1 iter1 : Expr} {ifs ifs1 : List Expr} {scope : Scope} {p2 : Pos} {nf : List D → M D} (hc : X.calm = true) (hN : X.N.Nodup)
    (h : CompOk2 X G b (wE E) elt tge iter ifs tge1 iter1 ifs1 scope own own1 tg tg1 itf cf itf1 cf1 f)
    (hi : X.N[i]? = some x) (hx : X.env.scope.names.lookup x = some .local) (hs : swapsWith (.ListComp elt [⟨tge, iter, ifs, 0⟩, ⟨tge1, iter1, ifs1, 0⟩] scope p2) (some (.Name x p)) pos.line X.env = pure true)
    (hn : ∀ {σ H Q}, tE G b (wE E) (fun ρ => M.thn (compF2 (own.map (·.2)) own1 tg tg1 itf cf itf1 cf1 f ρ) nf) σ H Q → tN G b (wE E) (compF2 (own.map (·.2)) own1 tg tg1 itf cf itf1 cf1 f) σ H Q) :
    PS X (.Assign [.Name x p] (.ListComp elt [⟨tge, iter, ifs, 0⟩, ⟨tge1, iter1, ifs1, 0⟩] scope p2) pos) (tS G b E fun ρ => M.thn (M.thn (compF2 (own.map (·.2)) own1 tg tg1 itf cf itf1 cf1 f ρ) nf) fun d => M.thn (M.ret (ρ.set i (some d))) fun ρ => M.ret (.next ρ)) := by
  refine ofS (ps_setLc2 hc hN hi hx hs h.it h.ok h.sub1 (fun s H C cl fp => gx (h.tgt s H C cl fp)) (fun s H C cl fp => tx (h.tst s H C cl fp)) (fun s H C cl fp => ix (h.it1 s H C cl fp)) (fun s H C cl fp => gx (h.tgt1 s H C cl fp)) (fun s H C cl fp => tx (h.tst1 s H C cl fp)) (fun s H C cl fp => exx (h.el s H C cl fp)) h.src h.src1) fun D σ H q => ?_
  obtain ⟨ρ, m, st, er, S, q⟩ := q
  refine lc_read2 h.vars h.vars1 (hn ((tE.go (f := fun ρ => M.thn (compF2 (own.map (·.2)) own1 tg tg1 itf cf itf1 cf1 f ρ) nf) er S q).mono fun v H1 q => ?_))
  obtain ⟨m1, st1, d, S1, E1, r, h1⟩ := q
  exact h1.ret S1 _ ((er.ext E1).set r)
theorem ixN_of {n : Nat} {k : Int} (h : 0 ≤ k ∧ k < n) : ixN n k = some k.toNat := by
  unfold ixN
  first
    | (rw [if_pos h.1, if_pos]; omega)
    | (split <;> first | (congr 1) | (exfalso; omega))
/-- o[i] = e, a mutable list -/
theorem ss_ix {C : Cfg} (hC : C.base = b) (he : PE X e (tE G b (wE E) f)) (ho : PE X e' (tE G b (wE E) g)) (hi : PE X e2 (tE G b (wE E) k))
    (ha : ∀ v, assign (.Subscript e' e2 p) X.env v = (do
      let ov ← holding [v] (eval e' X.env)
      let iv ← holding [v, ov] (eval e2 X.env)
      standAt p
      holding [v, ov, iv] (setItem ov iv v)
      release [v, ov, iv] []))
    (hs : swapsWithSole [.Subscript e' e2 p] e pos.line X.env = pure false) (hw : swappedStores [.Subscript e' e2 p] e X.env = pure none) (h1 : (assignEach [.Subscript e' e2 p] X.env).map (·.2) = [assign (.Subscript e' e2 p) X.env]) :
    PS X (.Assign [.Subscript e' e2 p] e pos) (tS G b E fun ρ => M.thn (f ρ) fun d => M.thn (M.thn (g ρ) fun x => M.thn (k ρ) fun y => M.thn (setIx C x y d) fun _ => M.ret ρ) fun ρ => M.ret (.next ρ)) := by
  refine ofS (ps_asg he (pg_sub ho hi set_list ha) hs hw h1) fun DD σ H q => ?_
  obtain ⟨ρ, m, st, er, S, h⟩ := q
  refine (tE.go er S h).mono fun v H1 q => ?_
  obtain ⟨m1, st1, d, S1, E1, r1, h1⟩ := q
  rw [thn_assoc] at h1
  refine (tE.go (er.ext E1) S1 h1).mono fun o H2 q => ?_
  obtain ⟨m2, st2, dx, S2, E2, rx, h2⟩ := q
  rw [thn_assoc] at h2
  refine (tE.go ((er.ext E1).ext E2) S2 h2).mono fun i H3 q => ?_
  obtain ⟨m3, st3, dy, S3, E3, ry, h3⟩ := q
  rw [thn_assoc] at h3
  have rx := rx.ext E3
  have r1 := (r1.ext E2).ext E3
  have er3 := ((er.ext E1).ext E2).ext E3
  cases dx with
  | ref l =>
    cases dy with
    | int j =>
      cases ry
      cases rx with
      | ref ha =>
        simp only [M.thn, setIx] at h3
        cases hl : st3[l]? with
        | none => simp only [hl] at h3; exact h3.elim
        | some c =>
          cases c with
          | dead => simp only [hl] at h3; exact h3.elim
          | dct ks vs => exact (S3.cell l _ _ hl ha).elim
          | lst xs =>
            simp only [hl] at h3
            obtain ⟨ys, hy, ry⟩ := S3.cell l _ _ hl ha
            by_cases hj : 0 ≤ j ∧ j < xs.length
            · rw [if_pos (decide_eq_true hj)] at h3
              simp only [setCell] at h3
              by_cases hb : (decide (C.base ≤ l) || d.plain) = true
              · rw [if_pos hb] at h3
                obtain ⟨S4, E4⟩ := S3.write (b := b) (ys := ys.set j.toNat v) (es := xs.set j.toNat d) hl ha (ry.set r1 j.toNat) (fun hlb n hn => by
                  have hb' : d.plain = true := by
                    rcases Bool.or_eq_true_iff.mp hb with z | z
                    · have := of_decide_eq_true z; omega
                    · exact z
                  exact Ev.D.lows_set n d (Ev.D.low_plain n d hb') xs j.toNat hn)
                refine ⟨_, ys, j, j.toNat, rfl, rfl, hy, ixN_of (by rw [ry.length]; exact hj), ?_⟩
                exact After.ret (Wσ := XW G E) (R := FlowR G DD) (d := Flow.next ρ) S4 (After.from S3 S4 E4 h3) σ (er3.ext E4)
              · rw [if_neg hb] at h3
                exact h3.elim
            · rw [if_neg (by simpa using hj)] at h3
              exact h3.elim
    | _ => exact h3.elim
  | _ => exact h3.elim
theorem lst_at {β : Type} {R : Hp → List Addr → Store → β → Prop} {Wσ : Nat → Hp → Prop} {H : Hp} {m : List Addr} {st : Store} {d : D} {k : Unit → M β} (h : After G b H m st Wσ R (M.thn (lstAt d) k st)) : ∃ l xs, d = .ref l ∧ st[l]? = some (.lst xs) ∧ After G b H m st Wσ R (k () st) := by
  cases d with
  | ref l =>
    cases hl : st[l]? with
    | none => simp only [M.thn, lstAt, hl] at h; exact h.elim
    | some c =>
      cases c with
      | lst xs =>
        have e : M.thn (lstAt (.ref l)) k st = k () st := by simp only [M.thn, lstAt, hl]
        rw [e] at h
        exact ⟨l, xs, rfl, hl, h⟩
      | dead => simp only [M.thn, lstAt, hl] at h; exact h.elim
      | dct _ _ => simp only [M.thn, lstAt, hl] at h; exact h.elim
  | _ => exact h.elim
/-- o.append(e), a mutable list -/
theorem ss_app {C : Cfg} (hK : X.K = G.K) (hC : C.base = b) {apos cpos : Pos} (ho : PE X e' (tE G b (wE E) g)) (he : PE X e (tE G b (wE E) f))
    (hbase : attributeBase e' "append" X.env (eval e' X.env) = eval e' X.env)
    (hfew : ((backTo cpos (starEach [e] X.env)).all (fun x => !x.1) && (backToKw cpos (keywordEach [] X.env)).all (fun x => x.1.isSome)
      && decide ([e].length + ([] : List Keyword).length + (if ([] : List Keyword).isEmpty then 0 else 1) < 30)) = true)
    (hline : (apos.endLine == cpos.line) = true) (hst : starEach [e] X.env = [(false, eval e X.env)]) (hsw : swapsWith (.Call (.Attribute e' "append" apos) [e] [] cpos) none pos.line X.env = pure false) :
    PS X (.Expr (.Call (.Attribute e' "append" apos) [e] [] cpos) pos) (tS G b E fun ρ => M.thn (g ρ) fun x => M.thn (lstAt x) fun _ => M.thn (f ρ) fun y => M.thn (appD C x y) fun _ => M.ret (.next ρ)) := by
  refine ofS (ps_expr (pe_bm PySem.F.plainAttrs_list PySem.F.slot_list_append rfl (fun pins s σ H x xs v us Q => mt_append pins s σ H x xs v us Q) ho (pa_cons he pa_nil (by rw [hst]; rfl)) hbase hfew hline (by rw [hst]; rfl) (by rfl)) hsw) fun DD σ H q => ?_
  obtain ⟨ρ, m, st, er, S, h⟩ := q
  refine (tE.go er S h).mono fun o H1 q => ?_
  obtain ⟨m1, st1, dx, S1, E1, rx, h1⟩ := q
  obtain ⟨l, xs0, rfl, hl, h1⟩ := lst_at h1
  cases rx with
  | ref ha =>
      rename_i a
      obtain ⟨ys0, hy0, _⟩ := S1.cell l _ _ hl ha
      refine ⟨.inl ⟨rfl, ys0, SqL.of hy0⟩, (tE.go (β := Flow) (R := FlowR G DD) (g := fun y => M.thn (appD C (D.ref l) y) fun _ => M.ret (Flow.next ρ)) (er.ext E1) S1 h1).mono fun v H2 q => ?_⟩
      obtain ⟨m2, st2, d, S2, E2, r2, h2⟩ := q
      have ha2 := E2.pre l a ha
      simp only [M.thn, appD] at h2
      cases hl2 : st2[l]? with
      | none => simp only [hl2] at h2; exact h2.elim
      | some c =>
        cases c with
        | dead => simp only [hl2] at h2; exact h2.elim
        | dct ks vs => exact (S2.cell l _ _ hl2 ha2).elim
        | lst xs =>
          simp only [hl2] at h2
          obtain ⟨ys, hy, ry⟩ := S2.cell l _ _ hl2 ha2
          by_cases hz : okSize (xs.length + 1) = true
          · rw [if_pos hz] at h2
            simp only [setCell] at h2
            by_cases hb : (decide (C.base ≤ l) || d.plain) = true
            · rw [if_pos hb] at h2
              obtain ⟨S4, E4⟩ := S2.write (b := b) (ys := ys ++ [v]) (es := xs ++ [d]) hl2 ha2 (ry.append (.cons r2 .nil)) (fun hlb n hn => by
                have hb' : d.plain = true := by
                  rcases Bool.or_eq_true_iff.mp hb with z | z
                  · have := of_decide_eq_true z; omega
                  · exact z
                show Ev.D.lows n (xs ++ [d]) = true
                rw [Ev.D.lows_append, show Ev.D.lows n xs = true from hn, Ev.D.lows, Ev.D.low_plain n d hb']; rfl)
              have hz' := okSize_le hz
              refine ⟨_, ys, v, rfl, rfl, hy, by rw [ry.length]; omega, ?_⟩
              exact After.ret (Wσ := XW G E) (R := FlowR G DD) (d := Flow.next ρ) S4 (After.from S2 S4 E4 h2) σ (((er.ext E1).ext E2).ext E4)
            · rw [if_neg hb] at h2
              exact h2.elim
          · rw [if_neg hz] at h2
            exact h2.elim
  | _ => exact h1.elim
end
end Ev
set_option linter.all false
set_option maxRecDepth 100000
/-! Ev13: loops, pairs of stores, sums in place, errors raised. -/
namespace Ev
open PySem PySem.Spec PyProof.Rows L2
section
variable {X : Cx} {G : Gd} {b : Nat} {E : XK} {f g k : Env → M D} {fs gs : Env → M Flow} {e e' e2 : Expr} {pos p : Pos} {es : List Expr} {stm : Stmt} {rest rest' : List Stmt}
theorem ss_aug {op : Operator} {i : Nat} {x : Str} (hop : op = .Add ∨ op = .Sub) (hN : X.N.Nodup) (hi : X.N[i]? = some x) (hx : Loc X.env.scope x) (he : PE X e (tE G b (wE E) f)) (hf : X.fn x = true ∨ X.env.scope.names.lookup x = some .local) :
    PS X (.AugAssign (.Name x p) op e pos) (tS G b E fun ρ => M.thn (getE ρ i) fun x => M.thn (f ρ) fun y => match x, y with
      | .int _, .int _ => M.thn (M.ofO (binD op x y)) fun z => M.ret (.next (ρ.set i (some z)))
      | _, _ => M.bad) := by
  have key : ∀ (h1 : Int → Int → Int), PIp X op (ipI h1) → (∀ i j, binD op (.int i) (.int j) = some (.int (h1 i j))) → PS X (.AugAssign (.Name x p) op e pos) (tS G b E fun ρ => M.thn (getE ρ i) fun x => M.thn (f ρ) fun y => match x, y with
      | .int _, .int _ => M.thn (M.ofO (binD op x y)) fun z => M.ret (.next (ρ.set i (some z)))
      | _, _ => M.bad) := fun h1 hp hb => by
    refine ofS (ps_aug hN hi hx he hp hf) fun DD σ H q => ?_
    obtain ⟨ρ, m, st, er, S, h⟩ := q
    cases q : ρ[i]? with
    | none => simp only [getE, q] at h; exact h.elim
    | some o =>
      cases o with
      | none => simp only [getE, q] at h; exact h.elim
      | some d =>
        simp only [getE, q, thn_ret] at h
        obtain ⟨v, hv, rv⟩ := er.at_ i d q
        refine ⟨v, hv, (tE.go er S h).mono fun y H1 q => ?_⟩
        obtain ⟨m1, st1, dy, S1, E1, ry, h2⟩ := q
        cases d with
        | int z =>
          cases dy with
          | int w =>
            cases rv; cases ry
            have h2 : After G b H1 m1 st1 (XW G E) (FlowR G DD) (M.thn (M.ofO (binD op (.int z) (.int w))) (fun z => M.ret (.next (ρ.set i (some z)))) st1) := h2
            rw [hb] at h2
            exact ⟨z, w, rfl, rfl, After.ret (Wσ := XW G E) (R := FlowR G DD) (d := Flow.next (ρ.set i (some (.int (h1 z w))))) S1 h2 _ ((er.ext E1).set (.int _))⟩
          | _ => exact h2.elim
        | _ => exact h2.elim
  rcases hop with rfl | rfl
  · exact key _ ip_add fun _ _ => rfl
  · exact key _ ip_sub fun _ _ => rfl
theorem ss_par {i j : Nat} {x y : Str} {px py pt : Pos} {kt k2 pt2} (hc : X.calm = true) (hN : X.N.Nodup) (hi : X.N[i]? = some x) (hj : X.N[j]? = some y) (hij : i ≠ j)
    (hx : X.env.scope.names.lookup x = some .local) (hy : X.env.scope.names.lookup y = some .local) {fa : Env → M (List D)} (ha : PA X [e, e'] (tEs G b (wE E) fa))
    (hw : swappedStores [.Tuple [.Name x px, .Name y py] kt pt] (.Tuple [e, e'] k2 pt2) X.env = pure (some [x, y]))
    (hs : swapsWithSole [.Tuple [.Name x px, .Name y py] kt pt] (.Tuple [e, e'] k2 pt2) pos.line X.env = pure false) :
    PS X (.Assign [.Tuple [.Name x px, .Name y py] kt pt] (.Tuple [e, e'] k2 pt2) pos) (tS G b E fun ρ => M.thn (fa ρ) fun ds => match setMany ρ [i, j] ds with
      | some ρ => M.ret (.next ρ)
      | none => M.bad) := by
  refine ofS (ps_par hc hN hi hj hij hx hy ha hw hs) fun DD σ H q => ?_
  obtain ⟨ρ, m, st, er, S, h⟩ := q
  refine (tEs.go er S h).mono fun vs H1 q => ?_
  obtain ⟨m1, st1, ds, S1, E1, r, h1⟩ := q
  match ds, r, h1 with
  | [d1, d2], .cons r1 (.cons r2 .nil), h1 =>
    refine ⟨_, _, rfl, ?_⟩
    exact After.ret (Wσ := XW G E) (R := FlowR G DD) (d := Flow.next _) S1 h1 _ (((er.ext E1).set r1).set r2)
  | [], _, h1 => exact h1.elim
  | [_], _, h1 => exact h1.elim
  | _ :: _ :: _ :: _, _, h1 => exact h1.elim
theorem ss_par3 {i j l : Nat} {x y z : Str} {px py pz pt : Pos} {kt k2 pt2} (hc : X.calm = true) (hN : X.N.Nodup) (hi : X.N[i]? = some x) (hj : X.N[j]? = some y) (hl : X.N[l]? = some z) (hij : i ≠ j) (hil : i ≠ l) (hjl : j ≠ l)
    (hx : X.env.scope.names.lookup x = some .local) (hy : X.env.scope.names.lookup y = some .local) (hz : X.env.scope.names.lookup z = some .local) {fa : Env → M (List D)} (ha : PA X [e, e', e2] (tEs G b (wE E) fa))
    (hw : swappedStores [.Tuple [.Name x px, .Name y py, .Name z pz] kt pt] (.Tuple [e, e', e2] k2 pt2) X.env = pure (some [x, y, z]))
    (hs : swapsWithSole [.Tuple [.Name x px, .Name y py, .Name z pz] kt pt] (.Tuple [e, e', e2] k2 pt2) pos.line X.env = pure false) :
    PS X (.Assign [.Tuple [.Name x px, .Name y py, .Name z pz] kt pt] (.Tuple [e, e', e2] k2 pt2) pos) (tS G b E fun ρ => M.thn (fa ρ) fun ds => match setMany ρ [i, j, l] ds with
      | some ρ => M.ret (.next ρ)
      | none => M.bad) := by
  refine ofS (ps_par3 hc hN hi hj hl hij hil hjl hx hy hz ha hw hs) fun DD σ H q => ?_
  obtain ⟨ρ, m, st, er, S, h⟩ := q
  refine (tEs.go er S h).mono fun vs H1 q => ?_
  obtain ⟨m1, st1, ds, S1, E1, r, h1⟩ := q
  match ds, r, h1 with
  | [d1, d2, d3], .cons r1 (.cons r2 (.cons r3 .nil)), h1 =>
    refine ⟨_, _, _, rfl, ?_⟩
    exact After.ret (Wσ := XW G E) (R := FlowR G DD) (d := Flow.next _) S1 h1 _ ((((er.ext E1).set r1).set r2).set r3)
  | [], _, h1 => exact h1.elim
  | [_], _, h1 => exact h1.elim
  | [_, _], _, h1 => exact h1.elim
  | _ :: _ :: _ :: _ :: _, _, h1 => exact h1.elim
theorem ss_for {tg : Tg} {itf : Env → M (List D)} {tge iter : Expr} {body : List Stmt} (hp : PassesOwn (model X.prog X.w) X.A X.env X.xe) (hc : X.calm = true) (hi : PI X tge iter (tI G b (wE E) itf)) (hg : PG X tge (gS G tg)) (hb : PSs X body (tS G b E fs)) (hs : ∀ x, foldedSetIterable iter X.env x = pure x) :
    PS X (.For tge iter body [] pos) (tS G b E fun ρ => M.thn (itf ρ) fun xs => forL (fun x ρ => match setTg tg x ρ with
      | some ρ => fs ρ
      | none => M.bad) xs ρ) := by
  refine ofS (ps_for hp hc hi hg hb hs) fun DD σ H q => ?_
  obtain ⟨ρ, m, st, er, S, h⟩ := q
  refine (tI.go er S h).mono fun J H1 q => ?_
  obtain ⟨m1, st1, ds, S1, E1, Yl, h1⟩ := q
  obtain ⟨Gp, Y, w, hw⟩ := Yl.out
  refine ⟨fun i n σ H => n = ds.length - i ∧ i ≤ ds.length ∧ ∃ ρ m st, EnvR G H m st σ ρ ∧ Sim G H m st ∧ Since G H1 m1 st1 G.ex H m st ∧ After G b H m st (XW G E) (FlowR G DD) (forL (fun x ρ => match setTg tg x ρ with
      | some ρ => fs ρ
      | none => M.bad) (ds.drop i) ρ st), ⟨ds.length, by simp, Nat.zero_le _, ρ, m1, st1, er.ext E1, S1, Since.of (b := b) Ext.refl, h1⟩, ?_⟩
  rintro i n σ H ⟨rfl, hi, ρ, m, st, er, S, sc, h⟩
  have q := hw G.ex H m st sc S
  by_cases hlt : i < ds.length
  · refine .inr ⟨w.goes i H hlt q.1, _, fun σ' H' p' => ⟨ds.length - (i + 1), by omega, rfl, hlt, p'⟩, fun x H' y => ?_⟩
    obtain ⟨d, hdi, S', E', rx⟩ := q.2 i x H' hlt (w.yields i H x H' hlt q.1 y)
    have hdr : ds.drop i = d :: ds.drop (i + 1) := by
      rw [List.drop_eq_getElem_cons hlt]
      congr 1
      rw [List.getElem?_eq_getElem hlt] at hdi
      exact Option.some.inj hdi
    rw [hdr, forL] at h
    have h := After.from S S' (E' b) h
    have er' := er.ext (E' b)
    cases hs : setTg tg d ρ with
    | none => simp only [hs] at h; exact h.elim
    | some ρ' =>
      simp only [hs] at h
      refine ⟨ρ, m, st, d, ρ', er', S', rx, hs, fun σ2 er2 _ => ⟨ρ', m, st, er2, S', (After.thn S' h).mono (fun H2 m2 st2 fl S2 E2 h => ?_) fun _ _ h => h⟩⟩
      cases fl with
      | next ρ2 => exact fun σ3 er3 => ⟨ρ2, m2, st2, er3, S2, (sc.trans (E' b)).trans E2, h⟩
      | ret d => exact fun v r => After.ret (Wσ := XW G E) (R := FlowR G DD) (d := Flow.ret d) S2 h v r
      | brk ρ2 => exact fun σ3 er3 => After.ret (Wσ := XW G E) (R := FlowR G DD) (d := Flow.next ρ2) S2 h σ3 er3
  · have e : i = ds.length := by omega
    subst e
    refine .inl ⟨w.stops H q.1, ?_⟩
    rw [List.drop_length, forL] at h
    exact After.ret (Wσ := XW G E) (R := FlowR G DD) (d := Flow.next ρ) S h σ er
theorem ss_while {c : Env → M Bool} {body : List Stmt} {n : Nat} (hp : PassesOwn (model X.prog X.w) X.A X.env X.xe) (hc : PT X e (Ev.tB G b (wE E) c)) (hb : PSs X body (tS G b E fs)) :
    PS X (.While e body [] pos) (tS G b E fun ρ => whlL c fs n ρ) := by
  refine ofS (ps_while hp hc hb) fun DD σ H q => ?_
  obtain ⟨ρ, m, st, er, S, h⟩ := q
  refine ⟨fun n σ H => ∃ ρ m st, EnvR G H m st σ ρ ∧ Sim G H m st ∧ After G b H m st (XW G E) (FlowR G DD) (whlL c fs n ρ st), ⟨n, ρ, m, st, er, S, h⟩, ?_⟩
  rintro n σ H ⟨ρ, m, st, er, S, h⟩
  cases n with
  | zero => exact h.elim
  | succ n =>
    rw [whlL] at h
    refine TB.mono (tB.go (W := wE E) er S h) fun k H1 q => ?_
    obtain ⟨m1, st1, S1, E1, h1⟩ := q
    cases k with
    | true =>
      rw [if_pos rfl] at h1 ⊢
      refine ⟨_, fun σ' H' p' => ⟨n, Nat.lt_succ_self _, p'⟩, ρ, m1, st1, er.ext E1, S1, (After.thn S1 h1).mono (fun H2 m2 st2 fl S2 E2 h => ?_) fun _ _ h => h⟩
      cases fl with
      | next ρ2 => exact fun σ3 er3 => ⟨ρ2, m2, st2, er3, S2, h⟩
      | ret d => exact fun v r => After.ret (Wσ := XW G E) (R := FlowR G DD) (d := Flow.ret d) S2 h v r
      | brk ρ2 => exact fun σ3 er3 => After.ret (Wσ := XW G E) (R := FlowR G DD) (d := Flow.next ρ2) S2 h σ3 er3
    | false =>
      rw [if_neg Bool.false_ne_true] at h1 ⊢
      exact After.ret (Wσ := XW G E) (R := FlowR G DD) (d := Flow.next ρ) S1 h1 σ (er.ext E1)
/-- an own error, raised -/
theorem ss_raise {x msg : Str} {j : Nat} {p2 p3 : Pos} {C : Addr} {bmB : List Value} {B newId initId : String} {c : Nat} (hc : X.calm = true) (tk : Takes X (wE E)) (F : ExcBaseFacts B newId initId bmB) (q : PySem.W.excIn X.K C bmB newId = true) (gC : X.mg x = some (.ref C)) (kC : PySem.W.keepIn X.K (.ref C) = true) (r : Raises X (.ref C)) (hg : Gl X x)
    (hdb : (x == ("__debug__" : Str)) = false) (hec : G.ec c C) : PS X (.Raise (some (.Call (.Name x p) [.Constant (.str msg) j p2] [] p3)) none pos) (tS G b E fun ρ => fun st => .exc c st) := by
  refine ofS (ps_raise hc tk (pmk_own F q gC kC r hg hdb)) fun DD σ H q => ?_
  obtain ⟨ρ, m, st, er, S, h⟩ := q
  exact h H m S .refl C hec
end
end Ev
set_option linter.all false
set_option maxRecDepth 100000
/-! Ev13b: pop, list(..), [..] * n, xs += ys, errors caught. -/
namespace Ev
open PySem PySem.Spec PyProof.Rows L2
theorem and0 {a b : Bool} (h : (a && b) = true) : a = true ∧ b = true := Bool.and_eq_true_iff.mp h
theorem D.lows_take (n : Nat) : ∀ (xs : List D) (k : Nat), D.lows n xs = true → D.lows n (xs.take k) = true
  | [], k, h => by simpa using h
  | x :: xs, 0, h => by simp [D.lows]
  | x :: xs, k + 1, h => by
    have h' : D.low n x = true ∧ D.lows n xs = true := by simpa [D.lows] using h
    simp [D.lows, h'.1, D.lows_take n xs k h'.2]
section
variable {X : Cx} {G : Gd} {b : Nat} {W : WX} {E : XK} {f g k : Env → M D} {fs gs : Env → M Flow} {e e' e2 : Expr} {pos p : Pos} {es : List Expr} {stm : Stmt} {rest rest' : List Stmt}
theorem se_pop {apos cpos : Pos} (hK : X.K = G.K) (ho : PE X e (tE G b W f)) (hbase : attributeBase e "pop" X.env (eval e X.env) = eval e X.env) (hline : (apos.endLine == cpos.line) = true) :
    PE X (.Call (.Attribute e "pop" apos) [] [] cpos) (tE G b W fun ρ => M.thn (f ρ) popD) := by
  refine ofE (pe_bm0 PySem.F.plainAttrs_list PySem.F.slot_list_pop rfl (fun pins s σ H x xs v us Q => mt_pop pins s σ H x xs v us Q) ho hbase hline) fun σ H Q q => ?_
  obtain ⟨ρ, m, st, er, S, h⟩ := q
  refine (tE.go er S h).mono fun x H1 q => ?_
  obtain ⟨m1, st1, dx, S1, E1, rx, h1⟩ := q
  cases dx with
  | ref l =>
    cases rx with
    | ref ha =>
      rename_i a
      simp only [popD] at h1
      cases hl : st1[l]? with
      | none => simp only [hl] at h1; exact h1.elim
      | some c =>
        cases c with
        | dead => simp only [hl] at h1; exact h1.elim
        | dct ks vs => exact (S1.cell l _ _ hl ha).elim
        | lst xs =>
          simp only [hl] at h1
          obtain ⟨ys, hy, ry⟩ := S1.cell l _ _ hl ha
          cases hg : xs.getLast? with
          | none => simp only [hg] at h1; exact h1.elim
          | some d =>
            simp only [hg] at h1
            have hlen := ry.length
            obtain ⟨y, y1, y2⟩ := ry.get (i := xs.length - 1) (d := d) (by rw [← List.getLast?_eq_getElem?]; exact hg)
            obtain ⟨S4, E4⟩ := S1.write (b := b) (ys := ys.dropLast) (es := xs.dropLast) hl ha (by
              rw [List.dropLast_eq_take, List.dropLast_eq_take, hlen]; exact ry.take _) (fun _ n hn => by
              show Ev.D.lows n xs.dropLast = true
              rw [List.dropLast_eq_take]
              exact Ev.D.lows_take n xs _ hn)
            exact ⟨.inl ⟨rfl, ys, SqL.of hy⟩, _, ys, y, rfl, rfl, hy, by rw [hlen]; exact y1, h1 _ _ S4 E4 y (y2.ext E4)⟩
  | _ => exact h1.elim
theorem sn_listOf (hK : X.K = G.K) (hg : Gl X "list") (hm : X.mg "list" = none) (ha : PE X e (tE G b W f)) (hs : starEach [e] X.env = [(false, eval e X.env)]) :
    PE X (.Call (.Name "list" p) [e] [] pos) (tN G b W fun ρ => M.thn (f ρ) fun x => fun st => M.ofO (seqOf (view st x)) st) := by
  refine ofE (pe_callTy call_list_of hg hm boot_list (pa_cons ha pa_nil (by rw [hs]; rfl)) (by decide) (by decide) (by rw [hs]; rfl) rfl) fun σ H Q q => ?_
  obtain ⟨ρ, m, st, er, S, h⟩ := q
  refine (tE.go er S h).mono fun x H1 q => ?_
  obtain ⟨m1, st1, dx, S1, E1, rx, h1⟩ := q
  obtain ⟨ds, hd, h2⟩ := h1.ofO
  have rv := view_ok S1 rx
  rw [hK]
  cases hv : view st1 dx with
  | lst xs =>
    rw [hv] at hd rv
    cases hd
    obtain ⟨a, ys, rfl, hq, r⟩ := rv
    exact ⟨a, ys, rfl, .inl hq, fun l hl => h2.ret S1 l ys hl r⟩
  | tup xs =>
    rw [hv] at hd rv
    cases hd
    obtain ⟨a, ys, rfl, hq, r⟩ := Rv.tup rv
    exact ⟨a, ys, rfl, .inr hq, fun l hl => h2.ret S1 l ys hl r⟩
  | _ => rw [hv] at hd; cases hd
theorem sn_rep {fN : Env → M (List D)} (ha : PE X e (tN G b W fN)) (hb : PE X e' (tE G b W f)) : PE X (.BinOp e .Mult e' pos) (tN G b W fun ρ => M.thn (fN ρ) fun xs => M.thn (f ρ) (repL xs)) := by
  refine ofE (pe_op op_rep ha hb) fun σ H Q q => ?_
  obtain ⟨ρ, m, st, er, S, h⟩ := q
  refine ⟨ρ, m, st, er, S, (h.thn S).mono (fun H1 m1 st1 ds S1 E1 q pl vs hp r => ?_) fun _ _ h => h⟩
  obtain ⟨S2, E2, F2⟩ := S1.new (b := b) hp (.lst vs)
  have q := After.from S1 S2 E2 q
  refine (tE.go ((er.ext E1).ext E2) S2 q).mono fun y H3 q => ?_
  obtain ⟨m3, st3, dy, S3, E3, ry, h3⟩ := q
  cases dy with
  | int j =>
    cases ry
    obtain ⟨hz, h4⟩ := After.if_ h3
    obtain ⟨hz, z3⟩ := and0 hz
    obtain ⟨z1, z2⟩ := and0 hz
    have z1 := of_decide_eq_true z1
    have z2' : j.toNat ≤ 10000000 := of_decide_eq_true z2
    have hp3 : H3 pl = some (.lst vs) := ((E3.keep pl F2).1).trans upd_same
    refine ⟨pl, j, vs, rfl, rfl, hp3, by omega, by omega, ?_, fun p2 hp2 => ?_⟩
    · rw [r.length, Nat.mul_comm]
      exact okSize_le z3
    · exact h4.ret S3 p2 _ hp2 (((r.ext E2).ext E3).rep _)
  | _ => exact h3.elim
theorem ss_augl {C : Cfg} {i : Nat} {x : Str} (hC : C.base = b) (hN : X.N.Nodup) (hi : X.N[i]? = some x) (hx : Loc X.env.scope x) (he : PE X e (tE G b (wE E) f)) (hf : X.fn x = true ∨ X.env.scope.names.lookup x = some .local) :
    PS X (.AugAssign (.Name x p) .Add e pos) (tS G b E fun ρ => M.thn (getE ρ i) fun x => M.thn (f ρ) fun y => M.thn (extD C x y) fun _ => M.ret (.next (ρ.set i (some x)))) := by
  have hp : PIp X .Add rExt2 := fun pins s σ H x y v u Q I r1 r2 h => iop_ext pins s σ H x y v u Q I r1 r2 h
  refine ofS (ps_aug hN hi hx he hp hf) fun DD σ H q => ?_
  obtain ⟨ρ, m, st, er, S, h⟩ := q
  cases q : ρ[i]? with
  | none => simp only [getE, q] at h; exact h.elim
  | some o =>
    cases o with
    | none => simp only [getE, q] at h; exact h.elim
    | some d =>
      simp only [getE, q, thn_ret] at h
      obtain ⟨v, hv, rv⟩ := er.at_ i d q
      refine ⟨v, hv, (tE.go er S h).mono fun y H1 q => ?_⟩
      obtain ⟨m1, st1, dy, S1, E1, ry, h2⟩ := q
      have rv1 := rv.ext E1
      cases d with
      | ref l =>
        cases dy with
        | ref k =>
          cases rv1 with
          | ref ha =>
            cases ry with
            | ref hb =>
              have h3 := h2.thn S1
              simp only [extD] at h3
              cases hl : st1[l]? with
              | none => simp only [hl] at h3; exact h3.elim
              | some c =>
                cases c with
                | dead => simp only [hl] at h3; exact h3.elim
                | dct ks vs => exact (S1.cell l _ _ hl ha).elim
                | lst xs =>
                  cases hk : st1[k]? with
                  | none => simp only [hl, hk] at h3; exact h3.elim
                  | some c =>
                    cases c with
                    | dead => simp only [hl, hk] at h3; exact h3.elim
                    | dct ks vs => exact (S1.cell k _ _ hk hb).elim
                    | lst ys =>
                      simp only [hl, hk] at h3
                      obtain ⟨us, hu, ru⟩ := S1.cell l _ _ hl ha
                      obtain ⟨ws, hw, rw'⟩ := S1.cell k _ _ hk hb
                      by_cases hz : (okSize (xs.length + ys.length) && (decide (C.base ≤ l) || Ev.D.plains ys)) = true
                      · rw [if_pos hz] at h3
                        obtain ⟨z1, z2⟩ := and0 hz
                        obtain ⟨S4, E4⟩ := S1.write (b := b) (ys := us ++ ws) (es := xs ++ ys) hl ha (ru.append rw') (fun hlb n hn => by
                          have hb' : Ev.D.plains ys = true := by
                            rcases Bool.or_eq_true_iff.mp z2 with z | z
                            · have := of_decide_eq_true z; omega
                            · exact z
                          show Ev.D.lows n (xs ++ ys) = true
                          rw [Ev.D.lows_append, show Ev.D.lows n xs = true from hn, Ev.D.lows_plain n ys hb']; rfl)
                        refine ⟨_, _, us, ws, rfl, rfl, hu, hw, by rw [ru.length, rw'.length]; exact okSize_le z1, ?_⟩
                        have q4 := h3 _ _ S4 E4
                        exact After.ret (Wσ := XW G E) (R := FlowR G DD) (d := Flow.next (ρ.set i (some (.ref l)))) S4 q4 _ (((er.ext E1).ext E4).set (.ref ha))
                      · rw [if_neg hz] at h3
                        exact h3.elim
        | _ => exact h2.elim
      | _ => exact h2.elim
end
end Ev
set_option linter.all false
set_option maxRecDepth 100000
/-! Ev13c: an own error caught, told by isinstance. -/
namespace Ev
open PySem PySem.Spec PyProof.Rows L2
/-- a constant, as a value -/
def dV : D → V
  | .bl b => .bl b
  | .int i => .int i
  | .str s => .str s
  | _ => .non
def isC : D → Bool
  | .non => true
  | .bl _ => true
  | .int _ => true
  | .str _ => true
  | _ => false
theorem rp_dV {G : Gd} {H : Hp} {m : List Addr} {L : Addr → Prop} {d : D} (h : isC d = true) : Rp G H m L (dV d) d := by
  cases d <;> first | exact .non | exact .bl _ | exact .int _ | exact .str _ | (cases h)
def constC : Const → D → Bool
  | .none, .non => true
  | .bool b, .bl c => b == c
  | .int i, .int j => decide (i = j)
  | .str s, .str t => decide (s = t)
  | _, _ => false
theorem constC_isC {c : Const} {d : D} (h : constC c d = true) : isC d = true := by
  unfold constC at h
  split at h <;> first | rfl | (cases h)
theorem pe_cst {X : Cx} {c : Const} {d : D} {k : Nat} {pos : Pos} (h : constC c d = true) : PE X (.Constant c k pos) (tC (dV d)) := by
  unfold constC at h
  split at h
  · exact pe_non
  · have e := eq_of_beq h
    subst e
    exact pe_bl
  · have e := of_decide_eq_true h
    subst e
    exact pe_int
  · have e := of_decide_eq_true h
    subst e
    exact pe_str
  · cases h
/-- return d1 if isinstance(x, C1) else d2 if .. else d -/
inductive Chain (X : Cx) (ec : Nat → Addr → Prop) (x : Str) : List (Nat × D) → D → Expr → Prop
  | last {c : Const} {d : D} {k : Nat} {pos : Pos} (h : constC c d = true) : Chain X ec x [] d (.Constant c k pos)
  | more {n : Nat} {d1 d : D} {r : List (Nat × D)} {cn : Str} {Ck : Addr} {p1 p2 p3 p4 p5 pos : Pos} {c : Const} {k : Nat} {y : Expr} (gi : Gl X "isinstance") (mi : X.mg "isinstance" = none) (gc : Gl X cn) (mc : X.mg cn = some (.ref Ck)) (db : (cn == ("__debug__" : Str)) = false) (hk : ec n Ck) (h : constC c d1 = true) (hr : Chain X ec x r d y) :
      Chain X ec x ((n, d1) :: r) d (.IfExp (.Call (.Name "isinstance" p1) [.Name x p2, .Name cn p3] [] p4) (.Constant c k p5) y pos)
section
variable {X : Cx} {G : Gd} {b : Nat} {E : XK} {fs : Env → M Flow} {body : List Stmt} {exm : Nat → Nat → Option Bool}
theorem Chain.isC {ec : Ecl} {x : Str} {cs : List (Nat × D)} {d : D} {e : Expr} (h : Chain X ec x cs d e) {c : Nat} {d' : D} (q : catchD exm c cs d = some d') : Ev.isC d' = true := by
  induction h with
  | last h => cases q; exact constC_isC h
  | @more n d1 d r cn Ck p1 p2 p3 p4 p5 pos cc k y gi mi gc mc db hk h hr ih =>
    unfold catchD at q
    cases z : exm c n with
    | none => rw [z] at q; cases q
    | some t =>
      rw [z] at q
      cases t with
      | true => cases q; exact constC_isC h
      | false => exact ih q
theorem chain_pe {ec : Ecl} {x : Str} {i : Nat} {a Dc : Addr} {oe : Obj} {pn : List (Addr × Obj)} {c : Nat} (hi : X.N[i]? = some x) (hx : X.env.scope.names.lookup x = some .local) (hdb : (x == ("__debug__" : Str)) = false) (hcd : (x == ("__classdict__" : Str)) = false)
    (exmK : ∀ k r Dk, exm c k = some r → ec k Dk → PySem.W.kitOne X.K (.ref Dc) (.ref Dk) = some r) (ex : ExcC X.K Dc) (hz : Zc (.ref Dc) none oe) (hf : ∃ vs, oe.data = .fields vs) :
    ∀ {cs : List (Nat × D)} {d : D} {e : Expr}, Chain X ec x cs d e → PE (X.suite a ((a, oe) :: pn)) e (fun σ H Q => (∃ σ0 : L2.St, σ = σ0.set i (some (.ref a))) ∧ ∃ d', catchD exm c cs d = some d' ∧ Q (dV d') H)
  | _, _, _, .last h => ofE (pe_cst h) fun σ H Q ⟨_, d', e, q⟩ => by cases e; exact q
  | _, _, _, .more (n := n) (d1 := d1) (d := d) (r := r) (Ck := Ck) gi mi gc mc db hk h hr => by
    have ih := chain_pe (a := a) (pn := pn) hi hx hdb hcd exmK ex hz hf hr
    have pv : ∀ pp, PE (X.suite a ((a, oe) :: pn)) (.Name x pp) (fun σ H Q => (∃ σ0 : L2.St, σ = σ0.set i (some (.ref a))) ∧ Q (.ref a) H) := fun pp => ⟨fun pins s σ H Q I ⟨⟨σ0, e⟩, q⟩ => (pe_var (pos := pp) (X := X.suite a ((a, oe) :: pn)) hi (.inl hx) hdb hcd).run pins s σ H Q I ⟨.ref a, by
      have l : σ.length = X.N.length := I.len
      have hil : i < X.N.length := (List.getElem?_eq_some_iff.mp hi).1
      rw [e] at l ⊢
      rw [List.length_set] at l
      exact List.getElem?_set_self (by omega), q⟩⟩
    have pc : ∀ pp, PE (X.suite a ((a, oe) :: pn)) (.Name _ pp) (tC (.ref Ck)) := fun pp => pe_glob (X := X.suite a ((a, oe) :: pn)) gc mc rfl db
    refine ofE (pe_ifExp (pt_val (pe_callB (call_isE ex hz hf) gi mi (by decide +kernel) (pa_cons (pv _) (pa_cons (pc _) pa_nil rfl) rfl) (by decide) (by decide) rfl rfl) fun _ => rfl) (pe_cst h) ih) fun σ H Q ⟨hs, d', e, q⟩ => ?_
    unfold catchD at e
    cases z : exm c n with
    | none => rw [z] at e; cases e
    | some t =>
      rw [z] at e
      refine ⟨hs, _, .ref Ck, t, rfl, fun u r => r, exmK n t Ck z hk, t, rfl, ?_⟩
      cases t with
      | true => cases e; exact q
      | false => exact ⟨hs, d', e, q⟩
theorem ss_tryA {i : Nat} {x hn : Str} {hall : Nat} {cs : List (Nat × D)} {d : D} {e : Expr} {Ch : Addr} {np p2 pos' pos : Pos} (hs : X.stack = X.env :: X.outer) (hf : X.env.frame = some X.env.locals) (hN : X.N.Nodup) (hi : X.N[i]? = some x) (hx : X.env.scope.names.lookup x = some .local)
    (hdb : (x == ("__debug__" : Str)) = false) (hcd : (x == ("__classdict__" : Str)) = false) (tk : Takes X (wE E)) (gh : Gl X hn) (mh : X.mg hn = some (.ref Ch)) (dbh : (hn == ("__debug__" : Str)) = false) (hh : G.ec hall Ch) (ch : Chain X G.ec x cs d e)
    (exmK : ∀ c k r Dc Dk, exm c k = some r → G.ec c Dc → G.ec k Dk → PySem.W.exmOne X.K (.ref Dc) (.ref Dk) = some r ∧ PySem.W.kitOne X.K (.ref Dc) (.ref Dk) = some r) (exc : ∀ c Dc, G.ec c Dc → ExcC X.K Dc)
    (hb : ∀ (E' : XK) (pn : List (Addr × Obj)) (xe : Value → Shared → Prop), Takes (X.tr pn xe) (wE E') → PassesOwn (model X.prog X.w) X.A X.env xe → PSs (X.tr pn xe) body (tS G b E' fs)) :
    PS X (.Try body [.ExceptHandler (some (.Name hn np)) (some x) [.Return (some e) p2] pos'] [] [] pos) (tS G b E fun ρ => fun st => match fs ρ st with
      | .exc c st' => (match exm c hall with
        | some true => (match catchD exm c cs d with
          | some d' => .ok (.ret d') st'
          | none => .bad)
        | some false => .exc c st'
        | none => .bad)
      | r => r) := by
  refine ofS (ps_try_as (tb := fun W D σ H => ∃ E' : XK, (∀ cls d σ H, E' cls d H → W cls d σ H) ∧ tS G b E' fs D σ H) (c := .ref Ch) (Wout := wE E)
    (ts := fun (a : Addr) (cls : Value) (dc : Option Addr) (D : Ends) (σ : L2.St) (H : Hp) => (∃ σ0 : L2.St, σ = σ0.set i (some (.ref a))) ∧ ∃ c Dc d', cls = .ref Dc ∧ dc = none ∧ G.ec c Dc ∧ catchD exm c cs d = some d' ∧ D.rt (dV d') H)
    hs hf hN hi hx ⟨gh, dbh, .inl mh⟩ tk ?_ ?_) fun DD σ H q => ?_
  · intro W pn xe tkW own
    refine ⟨fun pins s σ H D I ⟨E', hE, q⟩ => (hb E' pn xe (tkW.imp fun c d σ H h => hE c d σ H h) own).run pins s σ H D I q⟩
  · intro a oe cls dc pn hz hf
    refine pss_one ⟨fun pins s σ H D I ⟨hσ, c, Dc, d', e1, e2, hc, hd, q⟩ => ?_⟩
    subst e1; subst e2
    exact (ps_ret (chain_pe (a := a) (pn := pn) hi hx hdb hcd (fun k r Dk z hk => (exmK c k r Dc Dk z hc hk).2) (exc c Dc hc) hz hf ch)).run pins s σ H D I ⟨hσ, d', hd, q⟩
  · obtain ⟨ρ, m, st, er, S, h⟩ := q
    refine ⟨fun cls dc H' => ∀ σ', wAs X.K (.ref Ch) i (fun (a : Addr) (cls : Value) (dc : Option Addr) (D : Ends) (σ : L2.St) (H : Hp) => (∃ σ0 : L2.St, σ = σ0.set i (some (.ref a))) ∧ ∃ c Dc d', cls = .ref Dc ∧ dc = none ∧ G.ec c Dc ∧ catchD exm c cs d = some d' ∧ D.rt (dV d') H) (wE E) DD cls dc σ' H', fun cls dc σ H h => h σ, ρ, m, st, er, S, ?_⟩
    replace h : After G b H m st (XW G E) (FlowR G DD) (match fs ρ st with
      | .exc c st' => (match exm c hall with
        | some true => (match catchD exm c cs d with
          | some d' => .ok (.ret d') st'
          | none => .bad)
        | some false => .exc c st'
        | none => .bad)
      | r => r) := h
    cases q : fs ρ st with
    | bad => rw [q] at h; exact h
    | ok fl st' => rw [q] at h; exact h
    | exc c st' =>
      rw [q] at h
      intro H' m' S' E' Dc hc σ'
      cases z : exm c hall with
      | none => simp only [z] at h; exact h.elim
      | some t =>
        refine ⟨t, (exmK c hall t Dc Ch z hc hh).1, fun et a ha => ?_, fun et => ?_⟩
        · subst et
          simp only [z] at h
          cases z2 : catchD exm c cs d with
          | none => simp only [z2] at h; exact h.elim
          | some d' =>
            simp only [z2] at h
            exact ⟨⟨σ', rfl⟩, c, Dc, d', rfl, rfl, hc, z2, h H' m' S' E' _ (rp_dV (ch.isC z2))⟩
        · subst et
          simp only [z] at h
          exact h H' m' S' E' Dc hc
end
end Ev
set_option linter.all false
set_option maxRecDepth 100000
/-! Ev13d: xs[::-1]. -/
namespace Ev
open PySem PySem.Spec PyProof.Rows L2
section
variable {prog : Program} {w : World} {A : Around} {E : Value → Shared → Prop} {s : Shared}
theorem adjust_rev (n : Nat) : Builtin.Slice.sliceAdjust none none (-1) (n : Int) = ((n : Int) - 1, -1) := rfl
theorem places_rev (n : Nat) : Builtin.Slice.slicePlaces ((n : Int) - 1) (-1) (-1) = n := by
  unfold Builtin.Slice.slicePlaces
  have h1 : ¬ ((-1 : Int) > 0) := by omega
  simp only [h1, if_false]
  by_cases h : (n : Int) - 1 > -1
  · rw [if_pos h, show (-(-1) : Int) = 1 by decide, Int.ediv_one]
    omega
  · rw [if_neg h]
    omega
theorem sliceApplied_rev {sl : Addr} {vk : Value} {n : Nat} {Q : Int × Int × Nat → Shared → Prop} (hs : s.heap.IsSliceOf sl .none .none vk) (pk : IsPart vk (some (-1)))
    (h : Q ((n : Int) - 1, -1, n) s) : wpAny (model prog w) A (Builtin.Slice.sliceApplied (.ref sl) (pure (n : Int))) Q E s := by
  obtain ⟨os, hos, hcs, hds⟩ := id hs
  unfold Builtin.Slice.sliceApplied Builtin.Slice.sliceFields
  refine wpAny_bind (wpAny_bind (wpAny_field hos hds (x := .none) rfl (wpAny_bind (wpAny_field hos hds (x := .none) rfl (wpAny_bind (wpAny_field hos hds (x := vk) rfl (wpAny_pure ?_)))))))
  refine wpAny_bind (HT.slicePart_ pk ?_)
  show wpAny _ _ (if ((-1 : Int) == 0) = true then _ else _) _ _ s
  rw [if_neg (by decide)]
  refine wpAny_bind (slicePart_none (wpAny_bind (slicePart_none (wpAny_bind (wpAny_pure ?_)))))
  show wpAny _ _ (match Builtin.Slice.sliceAdjust none none (-1) (n : Int) with | (lo, hi) => pure (lo, (-1 : Int), Builtin.Slice.slicePlaces lo hi (-1))) _ _ s
  rw [adjust_rev n]
  show wpAny _ _ (pure ((n : Int) - 1, (-1 : Int), Builtin.Slice.slicePlaces ((n : Int) - 1) (-1) (-1))) _ _ s
  rw [places_rev]
  exact wpAny_pure h
theorem pick_rev (xs : Array Value) : ((List.range xs.size).filterMap fun (m : Nat) => xs[(((xs.size : Nat) : Int) - 1 + (m : Int) * (-1)).toNat]?).toArray = xs.toList.reverse.toArray := by
  have e : (List.range xs.size).filterMap (fun (m : Nat) => xs[(((xs.size : Nat) : Int) - 1 + (m : Int) * (-1)).toNat]?) = ((List.range xs.size).map fun k => xs.size - 1 - k).filterMap (xs[·]?) := by
    rw [List.filterMap_map]
    have key : ∀ l : List Nat, (∀ m ∈ l, m < xs.size) → l.filterMap (fun (m : Nat) => xs[(((xs.size : Nat) : Int) - 1 + (m : Int) * (-1)).toNat]?) = l.filterMap ((xs[·]?) ∘ fun k => xs.size - 1 - k) := by
      intro l hl
      induction l with
      | nil => rfl
      | cons m l ih =>
        have h1 := hl m List.mem_cons_self
        have h2 : (((xs.size : Nat) : Int) - 1 + (m : Int) * (-1)).toNat = xs.size - 1 - m := by omega
        rw [List.filterMap_cons, List.filterMap_cons, ih fun z hz => hl z (List.mem_cons_of_mem _ hz), h2]
        rfl
    exact key _ fun m hm => List.mem_range.mp hm
  rw [e, PySem.W.krv_range, List.filterMap_reverse, PySem.W.krv_all]
theorem getItem_tuple_rev {t sl : Addr} {items : Array Value} {vk : Value} {Q : Value → Shared → Prop} (ht : IsTup s.heap t items) (hs : s.heap.IsSliceOf sl .none .none vk) (pk : IsPart vk (some (-1)))
    (h : Q (.ref s.heap.objs.size) { s with heap := s.heap.push { cls := .type "tuple", data := .seq items.toList.reverse.toArray } })
    (hsz : items.size ≤ sizeLine) : wpAny (model prog w) A (getItem (.ref t) (.ref sl)) Q E s := by
  have htake : sizeOk (.seq items.toList.reverse.toArray) := by
    show items.toList.reverse.toArray.size ≤ sizeLine
    rw [List.size_toArray, List.length_reverse, Array.length_toList]
    omega
  obtain ⟨os, hos, hcs, hds⟩ := id hs
  have hTs : s.TypeIs (.ref sl) "slice" := ⟨os, hos, hcs⟩
  unfold getItem
  try with_reducible refine wpAny_holding ?_
  first | refine wpAny_bind (wpAny_pure ?_) | skip
  refine wpAny_bind (wpAny_sequenceKey ht.typeIs (by decide) ?_)
  refine wpAny_bind (wpAny_callSpecial?_slot (name := Str.ofString "__getitem__") ht.typeIs PyProof.Rows.slot_tuple_getitem
    (wpAny_call_entry PyProof.Rows.slot_tuple_getitem ht.typeIs entry_tuple_getitem ?_ (args_tuple_getitem _ _)))
  show wpAny _ _ (Builtin.Tuple.tupleItemsOf (.ref t) >>= _) _ _ s
  refine wpAny_bind (tupleItemsOf_ ht ?_)
  refine wpAny_bind (wpAny_typeOf hTs ?_)
  rw [if_pos (by decide)]
  refine wpAny_bind (sliceApplied_rev hs pk ?_)
  have hno : ¬ ((((items.size : Nat) : Int) - 1 == 0 && (-1 : Int) == 1 && items.size == items.size) = true) := by
    intro q
    rw [Bool.and_eq_true, Bool.and_eq_true] at q
    exact absurd (eq_of_beq q.1.2) (by decide)
  show wpAny _ _ (if ((((items.size : Nat) : Int) - 1 == 0 && (-1 : Int) == 1 && items.size == items.size) = true) then _ else _) _ _ s
  rw [if_neg hno, pick_rev]
  first
    | exact wpAny_bind (m := Builtin.Tuple.tupleExact _) (wpAny_newObj_type (wpAny_pure ⟨_, rfl, wpAny_pure h⟩) htake)
    | exact wpAny_bind (m := Builtin.Tuple.tupleExact _) (wpAny_newObj_type (wpAny_bind (wpAny_pure (wpAny_pure ⟨_, rfl, wpAny_pure h⟩))) htake)
    | exact wpAny_bind (wpAny_bind (m := Builtin.Tuple.tupleExact _) (wpAny_newObj_type (wpAny_pure (wpAny_pure ⟨_, rfl, wpAny_pure h⟩)) htake))
    | exact wpAny_bind (wpAny_bind (m := Builtin.Tuple.tupleExact _) (wpAny_newObj_type (wpAny_pure ⟨_, rfl, wpAny_pure h⟩) htake))
end
section
variable {X : Cx} {G : Gd} {b : Nat} {W : WX} {H : Hp} {m : List Addr} {st : Store} {e : Expr} {f : Env → M D} {pos p2 pk1 pk2 : Pos}
def rRv (K : PySem.W.Frag) : V → Hp → VK → Prop := fun x H Q => ∃ a xs, x = .ref a ∧ ((SqT K H a xs ∧ ∀ p, H p = none → Q (.ref p) (upd H p (.tup xs.reverse))) ∨ (SqL K H a xs ∧ ∀ p, H p = none → Q (.ref p) (upd H p (.lst xs.reverse))))
theorem vals_rev : ∀ {xs : List V} {us : List Value}, Vals xs us → Vals xs.reverse us.reverse := fun r => r.reverse
/-- e[::-1] -/
theorem pe_rev {te : TE} (he : PE X e te) : PE X (.Subscript e (.Slice none none (some (.UnaryOp .USub (.Constant (.int 1) 0 pk1) pk2)) p2) pos) (fun σ H Q => te σ H fun x H1 => rRv X.K x H1 Q) := by
  refine ⟨fun pins s σ H Q I h => ?_⟩
  refine Subscript_ (thn (he.run pins s σ H _ I h) fun v s1 ⟨x, H1, I1, r1, q1⟩ => ?_)
  refine wpAny_Slice ?_
  rw [evalPart_none]
  refine wpAny_pure (wpAny_pure ?_)
  rw [evalPart_some]
  refine thn ((pe_un (pos := pk2) un_neg (pe_int (X := X) (i := 1) (j := 0) (pos := pk1))).run pins s1 σ H1 (fun y H2 => y = .int (-1) ∧ H2 = H1) I1 ⟨1, rfl, rfl, rfl⟩) fun vk s3 ⟨y, H3, I3, r3, q3⟩ => ?_
  obtain ⟨rfl, rfl⟩ := q3
  obtain ⟨tk, rfl⟩ := r3
  have I4 : Inv X pins σ H3 { s3 with heap := s3.heap.push { cls := .type "slice", data := .fields #[.none, .none, .int (-1) tk] } } := I3.kept (t' := s3.toks) fun b ob q => Heap.get?_push_of_some _ q
  have hs : ({ s3 with heap := s3.heap.push { cls := .type "slice", data := .fields #[.none, .none, .int (-1) tk] } } : Shared).heap.IsSliceOf s3.heap.objs.size .none .none (.int (-1) tk) := Heap.IsSliceOf.new ..
  show wpAny (model X.prog X.w) X.A (subscriptTail e _ v (.ref s3.heap.objs.size)) (EP X pins σ Q) X.xe { s3 with heap := s3.heap.push { cls := .type "slice", data := .fields #[.none, .none, .int (-1) tk] } }
  obtain ⟨a, xs, rfl, ⟨hx, q⟩ | ⟨hx, q⟩⟩ := q1
  · cases r1
    obtain ⟨its, r, ht, hz⟩ := I4.tuple hx
    refine tail_any (T := "tuple") (ops := [.ref a, .ref s3.heap.objs.size]) ht.typeIs PyProof.Rows.slot_tuple_getitem.lookup ?_ (by with_unfolding_all rfl)
    have hlen : its.toArray.size = xs.length := by rw [List.size_toArray]; exact r.length.symm
    refine getItem_tuple_rev ht hs (.int _ _) ?_ (by rw [hlen]; exact hz)
    refine ⟨.ref _, _, I4.laid (t' := s3.toks) (o := .tup xs.reverse) (fun b ob q => Heap.get?_push_of_some _ q) (Nat.le_refl _) ?_, rfl, q _ (I4.hok.fresh (Nat.le_refl _))⟩
    exact ⟨by rw [List.length_reverse]; exact hz, _, r.reverse, IsTup.new _ _⟩
  · cases r1
    obtain ⟨its, r, ht, hz⟩ := I4.list hx
    have hlen := r.length
    refine tail_any (T := "list") (ops := [.ref a, .ref s3.heap.objs.size]) ht.isList.typeIs slot_list_getitem.lookup ?_ (by with_unfolding_all rfl)
    refine wpAny_getItem_list_slice ht.isList hs .none .none (.int _ _) (by decide) ?_ (by rw [List.size_toArray] <;> omega)
    rw [PySem.W.krv_pick]
    refine ⟨.ref _, _, I4.laid (t' := s3.toks) (o := .lst xs.reverse) (fun b ob q => Heap.get?_push_of_some _ q) (Nat.le_refl _) ?_, rfl, q _ (I4.hok.fresh (Nat.le_refl _))⟩
    exact ⟨by rw [List.length_reverse]; exact hz, _, 0, r.reverse, Heap.get?_push_size _ rfl⟩
theorem RpAll.rev {L : Addr → Prop} : ∀ {vs : List V} {ds : List D}, RpAll G H m L vs ds → RpAll G H m L vs.reverse ds.reverse
  | _, _, .nil => .nil
  | _, _, .cons h hs => by
    rw [List.reverse_cons, List.reverse_cons]
    exact (RpAll.rev hs).append (.cons h .nil)
theorem se_rev (hK : X.K = G.K) (ha : PE X e (tE G b W f)) :
    PE X (.Subscript e (.Slice none none (some (.UnaryOp .USub (.Constant (.int 1) 0 pk1) pk2)) p2) pos) (tE G b W fun ρ => M.thn (f ρ) fun x => fun st => M.ofO (revD (view st x)) st) := by
  refine ofE (pe_rev ha) fun σ H Q q => ?_
  obtain ⟨ρ, m, st, er, S, h⟩ := q
  refine (tE.go er S h).mono fun x H1 q => ?_
  obtain ⟨m1, st1, dx, S1, E1, rx, h1⟩ := q
  obtain ⟨d, hd, h2⟩ := h1.ofO
  have rv := view_ok S1 rx
  generalize hv : view st1 dx = dv at hd rv
  unfold revD at hd
  split at hd
  · cases hd
    obtain ⟨a, xs, rfl, ha, r1⟩ := rv.tup
    rw [← hK] at ha
    exact ⟨a, xs, rfl, .inl ⟨ha, fun p hp => Res2.newT S1 (fun H' v S' E' r => h2 H' m1 S' E' v r) hp r1.rev⟩⟩
  · cases hd
    obtain ⟨a, xs, rfl, ha, r1⟩ := rv
    rw [← hK] at ha
    exact ⟨a, xs, rfl, .inr ⟨ha, fun p hp => Res2.newL S1 (fun H' v S' E' r => h2 H' m1 S' E' v r) hp r1.rev⟩⟩
  · cases hd
end
end Ev
set_option linter.all false
set_option maxRecDepth 100000
/-! Ev13e: f(lambda: e), where f tells by a constant which error e raises. -/
namespace Ev
open PySem PySem.Spec PyProof.Rows L2
/-- the clauses of such a def -/
inductive Clauses (sg : Scope) (mg : Str → Option Value) (ec : Ecl) : List ExceptHandler → List (Nat × D) → Prop
  | nil : Clauses sg mg ec [] []
  | cons {n : Str} {Ch : Addr} {k j : Nat} {c : Const} {d : D} {p1 p2 p3 p4 : Pos} {hds : List ExceptHandler} {hs : List (Nat × D)} (gh : sg.names.lookup n = some .globalImplicit) (mh : mg n = some (.ref Ch)) (db : (n == ("__debug__" : Str)) = false) (hk : ec k Ch) (hc : constC c d = true)
      (r : Clauses sg mg ec hds hs) : Clauses sg mg ec (.ExceptHandler (some (.Name n p1)) none [.Return (some (.Constant c j p2)) p3] p4 :: hds) ((k, d) :: hs)
section
variable {ec : Ecl} {exm : Nat → Nat → Option Bool}
theorem clauses_ok {X : Cx} {hds : List ExceptHandler} {hs : List (Nat × D)} (h : Clauses X.env.scope X.mg ec hds hs)
    (exmK : ∀ c k r Dc Dk, exm c k = some r → ec c Dc → ec k Dk → PySem.W.exmOne X.K (.ref Dc) (.ref Dk) = some r) :
    ∃ l, HdsOk X hds l ∧ ∀ (DD : Ends) (Wout : WX) (c : Nat) (Dc : Addr) (d' : D) (σ : L2.St) (H : Hp), ec c Dc → catchW exm c hs = some d' → DD.rt (dV d') H → wMany X.K Wout DD l (.ref Dc) none σ H := by
  induction h with
  | nil => exact ⟨[], .nil, fun DD Wout c Dc d' σ H hc e q => by cases e⟩
  | @cons n Ch k j c d p1 p2 p3 p4 hds hs gh mh db hk hc r ih =>
    obtain ⟨l, h1, h2⟩ := ih
    refine ⟨(.ref Ch, fun _ _ _ D σ H => D.rt (dV d) H) :: l, .cons ⟨gh, db, .inl mh⟩ (fun a oe cls dd pn _ _ => ?_) h1, fun DD Wout c' Dc d' σ H hcc e q => ?_⟩
    · refine pss_one ⟨fun pins s σ H D I q => ?_⟩
      exact (ps_ret (pe_cst (X := X.suite a ((a, oe) :: pn)) hc)).run pins s σ H D I q
    · unfold catchW at e
      cases z : exm c' k with
      | none => rw [z] at e; cases e
      | some t =>
        rw [z] at e
        refine ⟨t, exmK c' k t Dc Ch z hcc hk, fun et a _ => ?_, fun et => ?_⟩
        · subst et; cases e; exact q
        · subst et; exact h2 DD Wout c' Dc d' σ H hcc e q
theorem catchW_isC {sg : Scope} {mg : Str → Option Value} {hds : List ExceptHandler} {hs : List (Nat × D)} (h : Clauses sg mg ec hds hs) {c : Nat} {d' : D} (q : catchW exm c hs = some d') : isC d' = true := by
  induction h with
  | nil => cases q
  | @cons n Ch k j cc d p1 p2 p3 p4 hds hs gh mh db hk hc r ih =>
    unfold catchW at q
    cases z : exm c k with
    | none => rw [z] at q; cases q
    | some t =>
      rw [z] at q
      cases t with
      | true => cases q; exact constC_isC hc
      | false => exact ih q
end
section
variable {X : Cx} {fa : Nat → Addr → Prop} {ec : Ecl} {ex : List Addr} {b : Nat} {W : WX} {exm : Nat → Nat → Option Bool}
/-- x(), in the def that was given the lambda: the lambda's body runs two frames deeper -/
theorem act_at {pins : List (Addr × Obj)} {σ : L2.St} {H : Hp} {s : Shared} {CXg : CXT} {Eg : XK} {Ng : List Str} {qg : Str} {sg : Scope} {g f c' : Addr} {cdg pm ctv : Value} {params : Arguments} {body : Expr} {scope : Scope} {k i : Nat} {a : Str} {pn : List (Addr × Obj)} {xe : Value → Shared → Prop} {W : WX} {E : XK} {tb : TE} {p1 p2 : Pos}
    (I : Inv X pins σ H s) (L : LamX.LamS X.env.scope scope) (hf : s.heap.get? f = some (PySem.W.kla_obj "<lambda>" (X.env.qual ++ "<lambda>") params body scope (cloFrom X.env.cells scope.names []) pm c' ctv)) (hfn : H f = none) (hfr : f ∉ frs X.stack)
    (hbind : bindArgs (PySem.W.kla_fn "<lambda>" (X.env.qual ++ "<lambda>") params body scope (cloFrom X.env.cells scope.names []) pm (.ref c') ctv) ⟨[], []⟩ = pure [])
    (tk : Takes ((cxOf CXg X.prog X.w X.K X.mg X.base Ng qg sg g cdg X.A X.stack s H Eg).tr pn xe) W) (hW : ∀ cls d σ' H', E cls d H' → W cls d σ' H') (hr : Room (k + 1) (X.A.deeper (envOfC qg sg s.heap.objs.size g cdg)))
    (hbody : ∀ (s2 : Shared) (H2 : Hp), Room k ((X.A.deeper (envOfC qg sg s.heap.objs.size g cdg)).deeper (LamX.lamEnv X scope s2.heap.objs.size f c')) → PE (LamX.lamCx X (X.A.deeper (envOfC qg sg s.heap.objs.size g cdg)) (envOfC qg sg s.heap.objs.size g cdg :: X.stack) s2 H2 E scope f c') body tb)
    (hN : Ng[i]? = some a) (hv : Vis sg a) (hd : (a == ("__debug__" : Str)) = false) (hcd : (a == ("__classdict__" : Str)) = false) :
    PE ((cxOf CXg X.prog X.w X.K X.mg X.base Ng qg sg g cdg X.A X.stack s H Eg).tr pn xe) (.Call (.Name a p1) [] [] p2)
      (fun σZ HZ Q => σZ[i]? = some (some (.ref f)) ∧ HZ c' = some (LamX.CodeO c' (X.env.qual ++ "<lambda>")) ∧ tb σ HZ Q) := by
  refine ⟨fun pinsZ sZ σZ HZ Q IZ ⟨hs, hc, ht⟩ => ?_⟩
  refine wpAny_Call_Name_kw (thn ((pe_var (pos := p1) (i := i) hN hv hd hcd).run pinsZ sZ σZ HZ (fun v H1 => v = .ref f ∧ H1 = HZ) IZ ⟨.ref f, hs, rfl, rfl⟩) fun u s1 q => ?_)
  obtain ⟨v, H1, I1, r1, rfl, rfl⟩ := q
  obtain rfl : u = Value.ref f := r1
  have of1 := I1.base.keep f _ hf hfn hfr (fun z => nomatch (show f ∈ ([] : List Addr) from z))
  refine PySem.W.callWith_F0 ⟨_, _, _, _, of1⟩ ?_
  have un : Un (frs X.stack) [] H H1 s.heap s1.heap := I1.base
  obtain ⟨⟨oc, vs, t, hoc, hdc, hvc⟩, _, _⟩ := I1.hok c' _ hc
  have run : codeAny (model X.prog X.w) (X.A.deeper (envOfC qg sg s.heap.objs.size g cdg)) (.call (.ref f) ⟨[], []⟩) (CR (L2.CX X.prog X.w) (envOfC qg sg s.heap.objs.size g cdg :: X.stack) X.prog X.w H1 s1 Q E) s1 := by
    refine PySem.W.kla_callFunE hr.depth of1 rfl L.co L.gen rfl ⟨c', oc, vs, t, rfl, hoc, hdc, hvc⟩ ?_
    rw [hbind]
    refine wpAny_pure (wpAny_newFunctionEnv (fun y hy => (L.own y hy).2) (fun y hy => absurd hy (by simp)) (fun h₁ hns hsb => ⟨I1.nolimit.fresh _ hsb, ?_⟩) L.kind)
    have kp : ∀ b o, s1.heap.get? b = some o → h₁.get? b = some o := fun b o e => hsb.extBut b o (Nat.ne_of_lt (Heap.lt_size e)) (Heap.get?_push_of_some _ e)
    have J := LamX.lam_start2 (f := f) (c' := c') (E := E) (tk := s1.toks + ([] : List (Str × Value)).length) I L I1.env0 hr.hd un hns kp
    refine PySem.W.kla_codeExpr (wpAny_mono ((hbody s1 H1 (hr.deeper _)).run [] _ _ H1 Q J ht) (fun v s' hq => ?_) fun e s' hq => hq)
    obtain ⟨w', H', J', rv, q⟩ := hq
    exact ⟨w', H', J'.os, J'.bare, J'.base, J'.hok, rv, q⟩
  refine wpAny_call (codeAny_mono run fun r s' hq => ?_)
  cases r with
  | error e => exact passes_call tk hW pinsZ σZ H1 s1 e s' I1 hq
  | ok fl =>
    cases fl with
    | ret u => exact I1.after hq
    | next => exact hq.elim
    | brk => exact hq.elim
    | cont => exact hq.elim
theorem se_word {x a : Str} {g c P : Addr} {k : Nat} {pg : Arguments} {sg : Scope} {fd : FuncData} {Ng : List Str} {c0 : Const} {d0 : D} {hs : List (Nat × D)} {h₀ : ExceptHandler} {hds : List ExceptHandler} {j : Nat}
    {params : Arguments} {body : Expr} {scope : Scope} {fe : Env → M D} {p lpos pos q1 q2 q3 q4 q5 q6 : Pos} (hg : Gl X x) (hm : X.mg x = some (.ref g))
    (Fd : FunD X.K x x pg [.Try [.Expr (.Call (.Name a q1) [] [] q2) q3] (h₀ :: hds) [] [] q4, .Return (some (.Constant c0 j q5)) q6] sg [] [] g fd) (hb : L2.Binds X.K fd [a] []) (Sg : FnScope Ng [a] sg) (hNg : Ng[0]? = some a) (hva : Vis sg a)
    (hcl : Clauses sg X.mg ec (h₀ :: hds) hs) (hc0 : constC c0 d0 = true)
    (TB : LamX.TabB X.base X.mg c P) (hcode : X.env.code = .ref c) (hmT : (P, X.env.qual ++ "<lambda>") ∈ ec.tb) (hu : ∀ p ∈ ec.tb, p.1 = P → p.2 = X.env.qual ++ "<lambda>") (hr : Room (k + 2) X.A) (L : LamX.LamS X.env.scope scope) (hdef : defaultsOf params X.env = ([], []))
    (hbind : ∀ (q : Str) (cl : List (Str × Addr)) (pm cv ctv : Value), bindArgs (PySem.W.kla_fn "<lambda>" q params body scope cl pm cv ctv) ⟨[], []⟩ = pure [])
    (exmK : ∀ c k r Dc Dk, exm c k = some r → ec c Dc → ec k Dk → PySem.W.exmOne X.K (.ref Dc) (.ref Dk) = some r)
    (hbody : ∀ (A : Around) (outer : List PySem.Env) (s : Shared) (H : Hp) (E : XK) (f c' : Addr) (b' : Nat), Room k (A.deeper (LamX.lamEnv X scope s.heap.objs.size f c')) → A.guards = X.A.guards → PE (LamX.lamCx X A outer s H E scope f c') body (tE ⟨X.K, fa, ec, ex⟩ b' (wE E) fe))
    (hdb : (x == ("__debug__" : Str)) = false) (hd : (a == ("__debug__" : Str)) = false) (hcd : (a == ("__classdict__" : Str)) = false) :
    PE X (.Call (.Name x p) [.Lambda params body scope lpos] [] pos) (tE ⟨X.K, fa, ec, ex⟩ b W fun ρ => wordM exm hs d0 (fe ρ)) := by
  refine ⟨fun pins s σ H Q I h => ?_⟩
  obtain ⟨ρ, m, st, er, S, h⟩ := h
  obtain ⟨oc, od, dV', kV, doc, pm, an, cdv, ct, osl, rfl, lk, hcg, _, _⟩ := Fd.ex
  refine wpAny_Call_Name_kw (ld_glob I hg hm ?_ hdb)
  refine PySem.W.callWith_K (h₀ := X.base) I.ok.mod.kin Fd.kp ?_ (by rfl) (by rfl)
  show wpAny _ _ (spliced ((false, eval (.Lambda params body scope lpos) X.env) :: backTo pos (starEach [] X.env))) _ _ s
  refine Calls.spliced_cons (LamX.lam_make2 I TB hcode hmT hu S.tab hdef (L.has I.ok) fun f c' pm' ctv H1 s' I1 eN T1 hf hfn hfr hco => ?_)
  refine Calls.spliced_nil ⟨I1.kIn, ?_⟩
  -- behind the making
  have E1 : ∀ b', Ext ⟨X.K, fa, ec, ex⟩ b' H m st H1 m st := fun b' => ⟨fun a fz => by
      obtain ⟨⟨o, ho, hn⟩, nl⟩ := fz
      exact ⟨by rw [eN a o ho hn, ho], nl⟩, fun _ _ h => h, fun a ha => by
      obtain ⟨xs, e⟩ := S.nt a (.inr ha)
      rw [eN a _ e (nt_lst xs), e], fun l n c c' _ h1 h2 h3 => by rw [h1] at h2; cases h2; exact h3⟩
  have stay : ∀ a, a ∈ m ∨ a ∈ ex → H1 a = H a := fun a ha => by
    obtain ⟨xs, e⟩ := S.nt a ha
    rw [eN a _ e (nt_lst xs), e]
  have S1 : Sim ⟨X.K, fa, ec, ex⟩ H1 m st := by
    refine ⟨S.len, S.nd, fun a ha => by rw [stay a (.inl ha)]; exact S.dom a ha, fun l cc a h1 h2 => ?_, fun a ha => ⟨by rw [stay a (.inr ha)]; exact (S.res a ha).1, (S.res a ha).2⟩, fun a ha => by rw [stay a ha]; exact S.nt a ha, T1⟩
    have r := S.cell l cc a h1 h2
    cases cc with
    | dead => trivial
    | lst ds =>
      obtain ⟨xs, e, r⟩ := r
      exact ⟨xs, by rw [stay a (.inl (List.mem_of_getElem? h2))]; exact e, r.ext (E1 0)⟩
    | dct _ _ => exact r
  have er1 : EnvR ⟨X.K, fa, ec, ex⟩ H1 m st σ ρ := er.ext (E1 0)
  have rc : codeAny (model X.prog X.w) X.A (.call (.ref g) ⟨[.ref f], []⟩) (CR C8.CX0 X.stack X.prog X.w H1 s' Q C8.E0) s' := by
    refine LamX.run_ofS (N := Ng) (ps := [a]) (us := [.ref f]) (vs := [.ref f]) lk hcg Sg hr I1.env0 (hb s' [.ref f] I1.kIn rfl) (.cons rfl .nil) rfl fun hr' => ?_
    -- the def's own context
    obtain ⟨Z, hZ⟩ : ∃ Z, Z = (cxOf C8.CX0 X.prog X.w X.K X.mg X.base Ng x sg g cdv X.A X.stack s' H1 C8.E0).nox := ⟨_, rfl⟩
    obtain ⟨l, hl1, hl2⟩ := clauses_ok (X := (cxOf C8.CX0 X.prog X.w X.K X.mg X.base Ng x sg g cdv X.A X.stack s' H1 C8.E0).nox) (exm := exm) hcl exmK
    -- what the thunk's reading says, where an error is wished of by Ech
    have key : PSs (cxOf C8.CX0 X.prog X.w X.K X.mg X.base Ng x sg g cdv X.A X.stack s' H1 C8.E0).nox [.Try [.Expr (.Call (.Name a q1) [] [] q2) q3] (h₀ :: hds) [] [] q4, .Return (some (.Constant c0 j q5)) q6] _ :=
      pss_cons (ps_try_many (X := (cxOf C8.CX0 X.prog X.w X.K X.mg X.base Ng x sg g cdv X.A X.stack s' H1 C8.E0).nox)
        (tb := fun W D σZ HZ => ∃ Ech : XK, (∀ cls d σ' H', Ech cls d H' → W cls d σ' H') ∧ σZ[0]? = some (some (.ref f)) ∧ HZ c' = some (LamX.CodeO c' (X.env.qual ++ "<lambda>")) ∧ tE ⟨X.K, fa, ec, ex⟩ st.length (wE Ech) fe σ HZ fun _ H' => D.nx σZ H')
        rfl rfl LamX.takes0 (fun W pn xe tk _ => by
          refine ⟨fun pins s'' σZ HZ D IZ h' => ?_⟩
          obtain ⟨Ech, hW, h1, h2, h3⟩ := h'
          have hp := act_at (CXg := C8.CX0) (Eg := C8.E0) (Ng := Ng) (qg := x) (sg := sg) (cdg := cdv) (i := 0) (E := Ech) (W := W) (pn := pn) (xe := xe) (p1 := q1) (p2 := q2) I1 L hf hfn hfr (hbind _ _ _ _ _) tk hW hr' (fun s2 H2 hr2 => hbody _ _ s2 H2 Ech f c' st.length hr2 rfl) hNg hva hd hcd
          have hq := pss_one (ps_expr (pos := q3) hp)
          exact hq.run pins s'' σZ HZ D IZ ⟨h1, h2, h3⟩) hl1)
        (pss_one (ps_ret (pe_cst hc0)))
    refine ⟨_, key.nox, ?_⟩
    have slot : (L2.start Ng [V.ref f])[0]? = some (some (V.ref f)) := rfl
    have cut : ∀ {H2 : Hp} {m2 : List Addr} {st2 : Store} {d' : D}, constC c0 d0 = true ∨ True → isC d' = true → Sim ⟨X.K, fa, ec, ex⟩ H2 m2 st2 → Ext ⟨X.K, fa, ec, ex⟩ st.length H1 m st H2 m2 st2 → (∀ H' m', Sim ⟨X.K, fa, ec, ex⟩ H' m' (st2.take st.length) → Ext ⟨X.K, fa, ec, ex⟩ b H m st H' m' (st2.take st.length) → ∀ v, Rp ⟨X.K, fa, ec, ex⟩ H' m' (Lv ⟨X.K, fa, ec, ex⟩ m' (st2.take st.length)) v d' → Q v H') → Q (dV d') H2 := fun {H2 m2 st2 d'} _ hcd' S2 E2 q => by
      obtain ⟨S3, E3, _⟩ := S1.cut S2 E2
      exact q H2 _ S3 ((E1 b).trans (Nat.le_refl _) E3.any) _ (rp_dV hcd')
    show ∃ Ech : XK, _
    refine ⟨fun cls dd H' => ∀ σ', wMany _ _ _ l cls dd σ' H', fun cls dd σ' H' z => z σ', slot, hco, ρ, m, st, er1, S1, ?_⟩
    · replace h : After ⟨X.K, fa, ec, ex⟩ b H m st _ _ (wordM exm hs d0 (fe ρ) st) := h
      unfold wordM at h
      cases z : fe ρ st with
      | bad => rw [z] at h; exact h.elim
      | ok d' st' =>
        rw [z] at h
        intro H2 m2 S2 E2 v rv
        exact cut (.inl hc0) (constC_isC hc0) S2 E2 h
      | exc cc st' =>
        rw [z] at h
        intro H2 m2 S2 E2 Dc hDc σ'
        simp only at h
        cases y : catchW exm cc hs with
        | none => rw [y] at h; exact h.elim
        | some d' =>
          rw [y] at h
          refine hl2 _ _ cc Dc d' σ' H2 hDc y ?_
          exact cut (.inr trivial) (catchW_isC hcl y) S2 E2 h
  refine wpAny_call (codeAny_mono rc fun r s2 hq => ?_)
  cases r with
  | error e => exact (show False from hq).elim
  | ok fl =>
    cases fl with
    | ret u => exact I1.after hq
    | next => exact False.elim hq
    | brk => exact False.elim hq
    | cont => exact False.elim hq
end
end Ev
set_option linter.all false
set_option maxRecDepth 100000
/-! Ev13f: max(a, b), min(a, b); a + b, a list just made. -/
namespace Ev
open PySem PySem.Spec PyProof.Rows L2
section
variable {X : Cx} {G : Gd} {b : Nat} {W : WX} {f g : Env → M D} {e e' : Expr} {pos p : Pos}
def mmN : Bool → Str
  | true => "max"
  | false => "min"
def mmV : Bool → String
  | true => "max"
  | false => "min"
theorem mmN_boot (mx : Bool) : bootBuiltins (mmN mx) = some (.builtin (mmV mx)) := by
  cases mx <;> (show bootBuiltins _ = some _; simp only [mmN, mmV]; decide +kernel)
theorem mmN_ok (mx : Bool) : mmN mx ≠ "__name__" ∧ (mmN mx == ("__debug__" : Str)) = false := by
  cases mx <;> (constructor <;> (show _; simp only [mmN]; decide +kernel))
theorem call_mm (mx : Bool) (hc : X.calm = true) : CallR X (.builtin (mmV mx)) (fun xs H Q => ∃ i j, xs = [.int i, .int j] ∧ Q (.int (mm2 mx i j)) H) := by
  cases mx with
  | true => exact call_max2 hc
  | false => exact call_min2 hc
theorem se_mm {mx : Bool} (hc : X.calm = true) (hg : Gl X (mmN mx)) (hm : X.mg (mmN mx) = none) (ha : PE X e (tE G b W f)) (hb : PE X e' (tE G b W g)) (hs : starEach [e, e'] X.env = (false, eval e X.env) :: starEach [e'] X.env) (hs' : starEach [e'] X.env = [(false, eval e' X.env)]) :
    PE X (.Call (.Name (mmN mx) p) [e, e'] [] pos) (tE G b W fun ρ => M.thn (f ρ) fun x => M.thn (g ρ) fun y => match x, y with
      | .int i, .int j => M.ret (.int (mm2 mx i j))
      | _, _ => M.bad) := by
  refine ofE (pe_callB (call_mm mx hc) hg hm (mmN_boot mx) (pa_cons ha (pa_cons hb pa_nil hs') hs) (mmN_ok mx).1 (mmN_ok mx).2 hs (by rw [hs']; rfl)) fun σ H Q q => ?_
  obtain ⟨ρ, m, st, er, S, h⟩ := q
  refine (tE.go er S h).mono fun x H1 q => ?_
  obtain ⟨m1, st1, dx, S1, E1, rx, h1⟩ := q
  refine (tE.go (er.ext E1) S1 h1).mono fun y H2 q => ?_
  obtain ⟨m2, st2, dy, S2, E2, ry, h2⟩ := q
  split at h2
  · cases rx
    cases ry
    exact ⟨_, _, rfl, h2.ret S2 _ (.int _)⟩
  · exact h2.elim
theorem sn_cat (hK : X.K = G.K) (ha : PE X e (tE G b W f)) (hb : PE X e' (tE G b W g)) :
    PE X (.BinOp e .Add e' pos) (tN G b W fun ρ => M.thn (f ρ) fun x => M.thn (g ρ) fun y => fun st => M.ofO (catD (view st x) (view st y)) st) := by
  refine ⟨fun pins s σ H Q I h => ?_⟩
  obtain ⟨ρ, m, st, er, S, h⟩ := h
  refine wpAny_BinOp (two ha hb I er S h fun v u s2 x y H2 m2 st2 dx dy I2 rx ry S2 er2 r1 r2 h2 => ?_)
  obtain ⟨ds, hd, h3⟩ := h2.ofO
  have v1 := view_ok S2 r1
  have v2 := view_ok S2 r2
  generalize view st2 dx = d1 at hd v1
  generalize view st2 dy = d2 at hd v2
  unfold catD at hd
  split at hd
  · split at hd
    · rename_i hz
      cases hd
      obtain ⟨a, xs, rfl, ha, q1⟩ := v1
      obtain ⟨c, ys, rfl, hc, q2⟩ := v2
      cases rx
      cases ry
      rw [← hK] at ha hc
      exact catL I2 ha hc (by rw [q1.length, q2.length]; exact okSize_le hz) fun p hp => h3.ret S2 p _ hp (q1.append q2)
    · cases hd
  · cases hd
end
end Ev
set_option linter.all false
set_option maxRecDepth 100000
set_option maxHeartbeats 4000000
/-! Ev13g: sorted(set(xs)), xs a list of ints. -/
namespace Ev
open PySem PySem.Spec PyProof.Rows L2
section
variable {P : Program} {w : World} {A : Around} {E : Value → Shared → Prop} {s : Shared}
/-- an empty set, new -/
abbrev bare (w : World) : Obj := { cls := .type "set", dict := none, data := .set #[] 0 (.fresh 0 0 (!w.params.followText "set-order")) }
abbrev with0 (w : World) (s : Shared) : Shared := { s with heap := s.heap.push (bare w) }
theorem set_of_list {l : Addr} {its : Array Value} (ns : List Int) {Q : Value → Shared → Prop} (calm : A.handled = none) (hl : s.heap.IsList l its) (hi : IntsAre its.toList ns) (few : ns.length + 1 < scanBound)
    (q : ∀ (h' : Heap) (tk c : Nat), SetR w h' s.heap.objs.size (fun j => decide (j ∈ ns)) c → c ≤ ns.length → (∀ b o, s.heap.get? b = some o → h'.get? b = some o) → Q (.ref s.heap.objs.size) { s with heap := h', toks := tk }) :
    wpAny (model P w) A (call (.type "set") [.ref l]) Q E s := by
  have size : its.size = ns.length := by
    have z := IntsAre.length hi
    rw [Array.length_toList] at z
    exact z
  obtain ⟨c, tl, mro⟩ := F.called_set.mro
  have made := F.called_set.made
  have sub := F.called_set.sub
  refine wpAny_call (codeAny_of_tree ?_)
  show wpAny _ _ (callAny (.type "set") _) _ _ _
  refine wpAny_pure ⟨Code.quiet_builtin _ (by decide +kernel), codeAny_builtin F.entry_type_call ?_⟩
  rw [Around.under_plain (weight_type_call_type "set" [.ref l] []) rfl]
  have k1 := F.called_set.notType
  have k2 := F.called_set.canCreate
  have k3 := F.typeCall_set_1 (.ref l)
  repeat (any_goals (first | assumption | wp_step))
  refine codeAny_mono (code_set_led1 (.ref l) (E := E) (Q₁ := fun obj s₁ => obj = .ref s.heap.objs.size ∧ s₁ = with0 w s) ⟨rfl, rfl⟩) fun r s₁ hr => ?_
  cases r with
  | error e => exact hr
  | ok fl =>
    cases fl with
    | ret obj =>
      obtain ⟨rfl, rfl⟩ := hr
      have new : (with0 w s).heap.get? s.heap.objs.size = some (bare w) := Heap.get?_push_size _ rfl
      have typ : Shared.TypeIs (with0 w s) (.ref s.heap.objs.size) "set" := ⟨_, new, rfl⟩
      have j1 := F.called_set.init.lookup
      have j2 := F.called_set.init.bind (.ref s.heap.objs.size)
      repeat (any_goals (first | assumption | wp_step))
      refine codeAny_mono (codeAny_call_builtin (R := wants (fun r s₂ => r = .none ∧ ∃ h' tk c, s₂ = { s with heap := h', toks := tk } ∧ SetR w h' s.heap.objs.size (fun j => decide (j ∈ ns)) c ∧ c ≤ ns.length ∧
          (∀ b o, s.heap.get? b = some o → h'.get? b = some o)) E) F.called_set.init.plain F.entry_set_init (check_set_init_1 typ ?_)) fun r₂ s₂ hr₂ => ?_
      · obtain ⟨ol, hol, e1, nl, e2⟩ := hl
        obtain ⟨ocls, odict, odata, oslots⟩ := ol
        simp only at e1 e2
        subst e1; subst e2
        have old : (with0 w s).heap.get? l = some { cls := .type "list", dict := odict, data := .seq its nl, slots := oslots } := Heap.get?_push_of_some _ hol
        have m1 := F.sub_list_set
        have m2 := F.sub_list_frozenset
        have m3 : (Value.type "list" == Value.type "dict") = false := by decide
        have lst : (with0 w s).heap.IsList l its := ⟨_, old, rfl, nl, rfl⟩
        unfold Builtin.«set.__init__» noKeywords Builtin.Frozenset.updateFrom
        generalize hPI : pyIter = PI
        wp_walk
        subst hPI
        refine wpAny_pyIter_list lst ?_
        refine wpAny_bind (wpAny_runValue ?_)
        have below : l < s.heap.objs.size := Heap.lt_size hol
        have calm3 : A.in1.in1.in1.handled = none := by simp [calm]
        have apart : l ≠ (with0 w s).heap.objs.size := by
          rw [Heap.size_push]; exact Nat.ne_of_lt (Nat.lt_succ_of_lt below)
        have off : s.heap.objs.size ∉ [(with0 w s).heap.objs.size, l] := by
          rw [Heap.size_push]; simp only [List.mem_cons, List.mem_singleton, List.not_mem_nil, or_false, not_or]
          exact ⟨Nat.ne_of_lt (Nat.lt_succ_self _), Nat.ne_of_gt below⟩
        have val : ∀ (i : Nat) (v : Value), its[i]? = some v → ∃ k t, ns[i]? = some k ∧ v = .int k t := fun i v hv => by
          have hi' : i < ns.length := by rw [← size]; exact (Array.getElem?_eq_some_iff.mp hv).1
          obtain ⟨t, e⟩ := PyProof.Rows.IntsAre.int_at hi i v (by rw [Array.getElem?_toList]; exact hv)
          refine ⟨ns[i], t, List.getElem?_eq_getElem hi', ?_⟩
          rw [e, List.getD_eq_getElem?_getD, List.getElem?_eq_getElem hi'] <;> rfl
        refine set_update_ints ((Walks.list calm3 _ l apart its).toS) s.heap.objs.size
          off ns size few val (its.size - 0) 0 _ (by omega) (Nat.zero_le _)
          ⟨⟨_, Heap.get?_push_size _ rfl, rfl, rfl⟩, (lst.push _)⟩ ?hS0 ?hR
        case hS0 =>
          exact ⟨0, Nat.le_refl 0, setR_new_at (Heap.get?_push_of_some _ new)⟩
        case hR =>
          intro s' c' hm hc' hS'
          obtain ⟨h', g2, d', tk', os'⟩ := s'
          have eg : g2 = s.gens := hm.gens
          have ed : d' = s.drawn := hm.drawn
          have eo : os' = s.os := hm.os
          subst eg; subst ed; subst eo
          show wpAny _ _ _ _ _ _
          refine wpAny_pure ?_
          show wpAny _ _ (ret Value.none) _ _ _
          rw [size] at hc'
          refine wpAny_pure ⟨rfl, h', tk', c', rfl, hS', hc', fun b o e => ?_⟩
          have b0 : b < s.heap.objs.size := Heap.lt_size e
          have b2 : b ≠ (with0 w s).heap.objs.size := by
            rw [Heap.size_push]; exact Nat.ne_of_lt (Nat.lt_succ_of_lt b0)
          exact hm.heap b o (by simp only [List.mem_cons, List.mem_singleton, List.not_mem_nil, or_false, not_or]; exact ⟨Nat.ne_of_lt b0, b2⟩) (Heap.get?_push_of_some _ (Heap.get?_push_of_some _ e))
      · cases r₂ with
        | error e => exact hr₂
        | ok fl₂ =>
          cases fl₂ with
          | ret r =>
            obtain ⟨rfl, h', tk, c', rfl, hS', hc', hk'⟩ := hr₂
            repeat (any_goals (first | assumption | wp_step))
            exact q _ _ _ hS' hc' hk'
          | _ => exact hr₂.elim
    | _ => exact hr.elim
end
/-! ### in order, each once -/
theorem mem_insU (x k : Int) : ∀ ys, k ∈ insU x ys ↔ k = x ∨ k ∈ ys
  | [] => by simp [insU]
  | y :: ys => by
    unfold insU
    split
    · simp
    · split
      · rename_i h; subst h; simp
      · rw [List.mem_cons, mem_insU x k ys, List.mem_cons]
        constructor
        · rintro (h | h | h)
          · exact .inr (.inl h)
          · exact .inl h
          · exact .inr (.inr h)
        · rintro (h | h | h)
          · exact .inr (.inl h)
          · exact .inl h
          · exact .inr (.inr h)
theorem mem_sortU (k : Int) : ∀ xs, k ∈ sortU xs ↔ k ∈ xs
  | [] => by simp [sortU]
  | x :: xs => by rw [sortU, mem_insU, mem_sortU k xs, List.mem_cons]
theorem up_insU (x : Int) : ∀ ys : List Int, ys.Pairwise (· < ·) → (insU x ys).Pairwise (· < ·)
  | [], _ => by simp [insU]
  | y :: ys, h => by
    obtain ⟨h1, h2⟩ := List.pairwise_cons.mp h
    unfold insU
    split
    · rename_i hx
      exact List.pairwise_cons.mpr ⟨fun z hz => by
        rcases List.mem_cons.mp hz with e | hz
        · omega
        · have := h1 z hz; omega, h⟩
    · split
      · exact h
      · rename_i h3 h4
        refine List.pairwise_cons.mpr ⟨fun z hz => ?_, up_insU x ys h2⟩
        rcases (mem_insU x z ys).mp hz with e | hz
        · omega
        · exact h1 z hz
theorem up_sortU : ∀ xs : List Int, (sortU xs).Pairwise (· < ·)
  | [] => .nil
  | x :: xs => up_insU x _ (up_sortU xs)
/-- two such lists of the same members are one -/
theorem up_one : ∀ {xs ys : List Int}, xs.Pairwise (· < ·) → ys.Pairwise (· < ·) → (∀ k, k ∈ xs ↔ k ∈ ys) → xs = ys
  | [], [], _, _, _ => rfl
  | [], y :: ys, _, _, h => by have := (h y).mpr List.mem_cons_self; cases this
  | x :: xs, [], _, _, h => by have := (h x).mp List.mem_cons_self; cases this
  | x :: xs, y :: ys, hx, hy, h => by
    obtain ⟨x1, x2⟩ := List.pairwise_cons.mp hx
    obtain ⟨y1, y2⟩ := List.pairwise_cons.mp hy
    have e : x = y := by
      rcases List.mem_cons.mp ((h x).mp List.mem_cons_self) with e | h1
      · exact e
      · rcases List.mem_cons.mp ((h y).mpr List.mem_cons_self) with e | h2
        · exact e.symm
        · have a := y1 x h1
          have c := x1 y h2
          omega
    subst e
    rw [up_one x2 y2 fun k => ?_]
    constructor
    · intro hk
      rcases List.mem_cons.mp ((h k).mp (List.mem_cons_of_mem _ hk)) with e | h1
      · have := x1 k hk; omega
      · exact h1
    · intro hk
      rcases List.mem_cons.mp ((h k).mpr (List.mem_cons_of_mem _ hk)) with e | h1
      · have := y1 k hk; omega
      · exact h1
end Ev
set_option linter.all false
set_option maxRecDepth 100000
set_option maxHeartbeats 2000000
/-! Ev13h: sorted(set(e)). -/
namespace Ev
open PySem PySem.Spec PyProof.Rows L2
section
variable {X : Cx} {G : Gd} {b : Nat} {W : WX} {f : Env → M D} {e : Expr} {pos p pos2 p2 : Pos}
def rSetL (K : PySem.W.Frag) (w : World) : List V → Hp → VK → Prop := fun xs H Q => ∃ (a : Addr) (ns : List Int), xs = [V.ref a] ∧ SqL K H a (ns.map V.int) ∧ ns.length < 64 ∧
  ∀ p c, H p = none → c ≤ ns.length → Q (.ref p) (upd H p (SetO w p (fun j => decide (j ∈ ns)) c))
theorem cr_setL (hc : X.calm = true) : CallR X (.type "set") (rSetL X.K X.w) := by
  intro pins s σ H xs us Q I r h
  obtain ⟨a, ns, rfl, hs, h64, q⟩ := h
  obtain ⟨its, rv, hl, _⟩ := I.list hs
  rw [Vals.ref1 r]
  have hi := rv.ints
  refine set_of_list ns (I.ok.hd hc) hl.isList hi (by show ns.length + 1 < scanBound; unfold scanBound; omega) fun h' tk c R hle kp => ?_
  have hn : H s.heap.objs.size = none := I.hok.fresh (Nat.le_refl _)
  exact ⟨.ref _, upd H s.heap.objs.size (SetO X.w s.heap.objs.size (fun j => decide (j ∈ ns)) c), I.laid (t' := tk) kp (Nat.le_refl _) (setO_new R), rfl, q _ c hn hle⟩
theorem ints_rp {H : Hp} {m : List Addr} {L : Addr → Prop} : ∀ l : List Int, RpAll G H m L (l.map V.int) (l.map D.int)
  | [] => .nil
  | i :: l => .cons (.int i) (ints_rp l)
theorem se_srt (hK : X.K = G.K) (hc : X.calm = true) (hg : Gl X "sorted") (hm : X.mg "sorted" = none) (hg2 : Gl X "set") (hm2 : X.mg "set" = none) (ha : PE X e (tE G b W f)) (hs : starEach [e] X.env = [(false, eval e X.env)]) :
    PE X (.Call (.Name "sorted" p) [.Call (.Name "set" p2) [e] [] pos2] [] pos) (tE G b W fun ρ => M.thn (f ρ) fun x => fun st => M.ofO (srtD (view st x)) st) := by
  have h1 := pe_callTy (pos := pos2) (p := p2) (cr_setL hc) hg2 hm2 (by show bootBuiltins _ = some _; decide +kernel) (pa_cons ha pa_nil (by rw [hs]; rfl)) (by decide) (by decide) (by rw [hs]; rfl) rfl
  refine ofE (pe_callB (pos := pos) (p := p) (cr_sortedSet hc) hg hm (by show bootBuiltins _ = some _; decide +kernel) (pa_cons h1 pa_nil rfl) (by decide) (by decide) rfl rfl) fun σ H Q q => ?_
  obtain ⟨ρ, m, st, er, S, h⟩ := q
  refine (tE.go er S h).mono fun x H1 q => ?_
  obtain ⟨m1, st1, dx, S1, E1, rx, h1⟩ := q
  obtain ⟨d, hd, h2⟩ := h1.ofO
  have rv := view_ok S1 rx
  generalize hv : view st1 dx = dv at hd rv
  unfold srtD at hd
  split at hd
  · split at hd
    · rename_i l hl
      split at hd
      · rename_i h64
        cases hd
        have h64 := of_decide_eq_true h64
        obtain ⟨a, xs, rfl, ha, r1⟩ := rv
        rw [allI_of hl r1, ← hK] at ha
        refine ⟨a, l, rfl, ha, h64, fun p c hp hle => ?_⟩
        obtain ⟨S2, E2, F2⟩ := S1.new (b := b) hp (SetO X.w p (fun j => decide (j ∈ l)) c) (by intro ps; simp [SetO])
        refine ⟨p, _, c, rfl, upd_same, by omega, fun ns p3 up mem len hp3 => ?_⟩
        have e : ns = sortU l := up_one up (up_sortU l) fun k => by rw [mem_sortU, mem]; simp
        subst e
        have h3 := After.from S1 S2 E2 h2
        exact Res2.newL (b := b) S2 (fun H'' v S'' E'' r' => h3 H'' m1 S'' E'' v r') hp3 (ints_rp _)
      · cases hd
    · cases hd
  · cases hd
end
end Ev
set_option linter.all false
set_option maxRecDepth 100000
/-! Ev14: a text is the small language's: by a Bool. -/
namespace Ev
open PySem PySem.Spec PyProof.Rows L2

mutual
def D.beq : D → D → Bool
  | .non, .non => true
  | .bl a, .bl b => a == b
  | .int a, .int b => decide (a = b)
  | .str a, .str b => decide (a = b)
  | .tup a, .tup b => D.beqs a b
  | _, _ => false
def D.beqs : List D → List D → Bool
  | [], [] => true
  | a :: as, b :: bs => D.beq a b && D.beqs as bs
  | _, _ => false
end
mutual
theorem D.beq_eq : ∀ {a b : D}, D.beq a b = true → a = b
  | .non, b, h => by cases b <;> first | rfl | (simp [D.beq] at h)
  | .bl a, b, h => by cases b <;> first | (simp [D.beq] at h; rw [h]) | (simp [D.beq] at h)
  | .int a, b, h => by cases b <;> first | (simp [D.beq] at h; rw [h]) | (simp [D.beq] at h)
  | .str a, b, h => by cases b <;> first | (simp [D.beq] at h; rw [h]) | (simp [D.beq] at h)
  | .tup a, b, h => by
    cases b with
    | tup b => rw [D.beqs_eq (show D.beqs a b = true by simpa [D.beq] using h)]
    | _ => simp [D.beq] at h
  | .lst a, b, h => by cases b <;> simp [D.beq] at h
  | .dct a c, b, h => by cases b <;> simp [D.beq] at h
  | .ref a, b, h => by cases b <;> simp [D.beq] at h
  | .fn a, b, h => by cases b <;> simp [D.beq] at h
theorem D.beqs_eq : ∀ {a b : List D}, D.beqs a b = true → a = b
  | [], [], _ => rfl
  | [], _ :: _, h => by simp [D.beqs] at h
  | _ :: _, [], h => by simp [D.beqs] at h
  | a :: as, b :: bs, h => by
    have h' : D.beq a b = true ∧ D.beqs as bs = true := by simpa [D.beqs] using h
    rw [D.beq_eq h'.1, D.beqs_eq h'.2]
end

/-- a def that tells by constants which error its argument raises -/
structure WFn where
  name : Str
  par : Str
  hs : List (Nat × D)
  d : D
def hsB : List (Nat × D) → List (Nat × D) → Bool
  | [], [] => true
  | a :: as, b :: bs => decide (a.1 = b.1) && D.beq a.2 b.2 && hsB as bs
  | _, _ => false
theorem hsB_eq : ∀ {as bs : List (Nat × D)}, hsB as bs = true → as = bs
  | [], [], _ => rfl
  | [], _ :: _, h => by simp [hsB] at h
  | _ :: _, [], h => by simp [hsB] at h
  | (a, x) :: as, (b, y) :: bs, h => by
    have h' : (a = b ∧ D.beq x y = true) ∧ hsB as bs = true := by simpa [hsB] using h
    rw [h'.1.1, D.beq_eq h'.1.2, hsB_eq h'.2]
/-- what the whole text knows -/
structure Tab where
  P : Prog
  consts : List (Str × D)
  excs : List (Str × Nat)
  bl : List Str
  rp : Bool
  exm : List (Nat × Nat × Bool)
  words : List WFn
  lams : List Str
/-- which error class is under which -/
def Tab.exmF (T : Tab) (c k : Nat) : Option Bool := (T.exm.find? fun q => decide (q.1 = c) && decide (q.2.1 = k)).map fun q => q.2.2
/-- where we stand -/
structure Scp where
  N : List Str
  sc : Scope
  st : List Str
  lam : Bool
def kOf (S : Scp) (x : Str) : Option NameKind := S.sc.names.lookup x
def visB (S : Scp) (x : Str) : Bool := match kOf S x with
  | some .local => true
  | some .cell => true
  | some .free => true
  | _ => false
def glB (S : Scp) (x : Str) : Bool := match kOf S x with
  | some .globalImplicit => true
  | _ => false
def locB (S : Scp) (x : Str) : Bool := match kOf S x with
  | some .local => true
  | _ => false
def okN (x : Str) : Bool := !(x == ("__debug__" : Str)) && !(x == ("__classdict__" : Str))
def constB : Const → D → Bool
  | .none, .non => true
  | .bool b, .bl c => b == c
  | .int i, .int j => decide (i = j)
  | .str s, .str t => decide (s = t)
  | _, _ => false
def notStar : Expr → Bool
  | .Starred _ _ => false
  | _ => true
def notSlice : Expr → Bool
  | .Slice _ _ _ _ => false
  | _ => true
def notSet : Expr → Bool
  | .Set _ _ _ => false
  | _ => true
def notComp : Expr → Bool
  | .ListComp _ _ _ _ => false
  | .SetComp _ _ _ _ => false
  | .DictComp _ _ _ _ _ => false
  | _ => true
def notTuple : Expr → Bool
  | .Tuple _ _ _ => false
  | _ => true
def isTuple : Expr → Bool
  | .Tuple _ _ _ => true
  | _ => false
def isName : Expr → Bool
  | .Name _ _ => true
  | _ => false
/-- a truth taken of the value -/
def valT : Expr → Bool
  | .ListComp _ _ _ _ => true
  | .Name _ _ => true
  | .Call _ _ _ _ => true
  | .List _ _ => true
  | .BinOp _ _ _ _ => true
  | _ => false
def tailB (op : BoolOp) (y : Expr) (zs : List Expr) (p : Pos) : Expr := match zs with
  | [] => y
  | z :: zs => .BoolOp op (y :: z :: zs) p
def relab (scope sc : Scope) : Scope := relS scope sc
def blkS (S : Scp) (scope : Scope) : Scp := ⟨S.N, relS scope S.sc, (scope.names.filter fun y => match y.2 with
  | .local => true
  | .cell => true
  | _ => false).map (·.1), S.lam⟩
/-- no parameters -/
def noPar : Arguments → Bool
  | ⟨[], [], none, [], [], none, []⟩ => true
  | _ => false
def wordB (T : Tab) (x : Str) (hs : List (Nat × D)) (d : D) : Bool := T.words.any fun w => decide (w.name = x) && hsB w.hs hs && D.beq w.d d
def ownS (N : List Str) (own : List Nat) : List (Str × Nat) := own.map fun i => ((N[i]?).getD ⟨#[]⟩, i)
def conB (T : Tab) (x : Str) (d : D) : Bool := T.consts.any fun p => decide (p.1 = x) && D.beq p.2 d
def chkTg (S : Scp) : Tg → Expr → Bool
  | .name i, x₀ => (match x₀ with
    | .Name x _ => decide (S.N[i]? = some x) && decide (x ∈ S.st)
    | _ => false)
  | .two a b, x₀ => (match x₀ with
    | .Tuple [x, y] _ _ => notStar x && notStar y && chkTg S a x && chkTg S b y
    | _ => false)
  | .three a b c, x₀ => (match x₀ with
    | .Tuple [x, y, z] _ _ => notStar x && notStar y && notStar z && chkTg S a x && chkTg S b y && chkTg S c z
    | _ => false)
def bltB (T : Tab) (S : Scp) (n : Str) : Bool := glB S n && decide (n ∈ T.bl)
/-- repr asks more of the caller -/
def reprB (T : Tab) : Blt → Bool
  | .repr => T.rp
  | _ => true
mutual
def chkE (T : Tab) (S : Scp) : E → Expr → Bool
  | .var i, x₀ => (match x₀ with
    | .Name x _ => decide (S.N[i]? = some x) && visB S x && okN x
    | _ => false)
  | .const d, x₀ => (match x₀ with
    | .Constant c _ _ => constB c d
    | _ => false)
  | .gc y d, x₀ => (match x₀ with
    | .Name x _ => decide (x = y) && glB S x && okN x && conB T x d
    | _ => false)
  | .tup es, x₀ => (match x₀ with
    | .Tuple xs _ _ => chkEs T S es xs
    | _ => false)
  | .bin op a b, x₀ => (match x₀ with
    | .BinOp x op' y _ => decide (op = op') && chkE T S a x && chkE T S b y
    | _ => false)
  | .neg a, x₀ => (match x₀ with
    | .UnaryOp .USub x _ => chkE T S a x
    | _ => false)
  | .not a, x₀ => (match x₀ with
    | .UnaryOp .Not x _ => chkE T S a x
    | _ => false)
  | .and a b, x₀ => (match x₀ with
    | .BoolOp .And (x :: y :: zs) p => chkE T S a x && chkE T S b (tailB .And y zs p)
    | _ => false)
  | .or a b, x₀ => (match x₀ with
    | .BoolOp .Or (x :: y :: zs) p => chkE T S a x && chkE T S b (tailB .Or y zs p)
    | _ => false)
  | .ite c a b, x₀ => (match x₀ with
    | .IfExp t x y _ => chkE T S c t && chkE T S a x && chkE T S b y
    | _ => false)
  | .cmp op a b, x₀ => (match x₀ with
    | .Compare x [op'] [y] _ => decide (op = op') && !behindInMarks op y && chkE T S a x && chkE T S b y
    | _ => false)
  | .cmp2 op op2 a b c, x₀ => (match x₀ with
    | .Compare x [o1, o2] [y, z] _ => decide (op = o1) && decide (op2 = o2) && !lastMarks [op, op2] [y, z] && chkE T S a x && chkE T S b y && chkE T S c z
    | _ => false)
  | .idx a b, x₀ => (match x₀ with
    | .Subscript x y _ => notSlice y && chkE T S a x && chkE T S b y
    | _ => false)
  | .slc a lo hi, x₀ => (match x₀ with
    | .Subscript x (.Slice l h none _) _ => chkE T S a x && chkO T S lo l && chkO T S hi h
    | _ => false)
  | .call f es, x₀ => (match x₀ with
    | .Call (.Name n _) xs [] _ => (match T.P.find f with
    | some F => decide (F.name = n)
    | none => false) && glB S n && okN n && chkEs T S es xs
    | _ => false)
  | .blt b a, x₀ => (match x₀ with
    | .Call (.Name n _) xs [] _ => decide (n = bltN b) && reprB T b && bltB T S n && (match xs with
    | [x] => decide (bltMore b = []) && notStar x && chkE T S a x
    | [x, .Name ty _] => (match b with
      | .isi t => decide (t ≠ .none) && decide (ty = Str.ofString t.name) && bltB T S ty && notStar x && chkE T S a x
      | _ => false)
    | _ => false)
    | _ => false)
  | .new n, x => chkN T S n x
  | .newm n, x => chkN T S n x
  | .frz a, x => valT x && chkE T S a x
  | .pop a, x₀ => (match x₀ with
    | .Call (.Attribute ox n apos) [] [] cpos => decide (n = ("pop" : Str)) && isName ox && (apos.endLine == cpos.line) && chkE T S a ox
    | _ => false)
  | .word x hs d e, x₀ => (match x₀ with
    | .Call (.Name n _) [.Lambda params body scope _] [] _ => decide (n = x) && glB S n && okN n && S.lam && noPar params && LamX.lamSB S.sc scope && wordB T x hs d && chkE T ⟨S.N, scope, [], false⟩ e body
    | _ => false)
  | .srt a, x₀ => (match x₀ with
    | .Call (.Name n _) [.Call (.Name n2 _) [x] [] _] [] _ => decide (n = ("sorted" : Str)) && bltB T S n && decide (n2 = ("set" : Str)) && bltB T S n2 && notStar x && chkE T S a x
    | _ => false)
  | .mm mx a b, x₀ => (match x₀ with
    | .Call (.Name n _) [x, y] [] _ => decide (n = mmN mx) && bltB T S n && notStar x && notStar y && chkE T S a x && chkE T S b y
    | _ => false)
  | .rev a, x₀ => (match x₀ with
    | .Subscript x (.Slice none none (some (.UnaryOp .USub (.Constant (.int 1) 0 _) _)) _) _ => chkE T S a x
    | _ => false)
  | _, _ => false
def chkO (T : Tab) (S : Scp) : O → Option Expr → Bool
  | .no, x₀ => (match x₀ with
    | none => true
    | _ => false)
  | .is e, x₀ => (match x₀ with
    | some x => chkE T S e x
    | _ => false)
def chkC (T : Tab) (S : Scp) : O → List Expr → Bool
  | .no, x₀ => (match x₀ with
    | [] => true
    | _ => false)
  | .is e, x₀ => (match x₀ with
    | [x] => chkE T S e x
    | _ => false)
def chkEs (T : Tab) (S : Scp) : Es → List Expr → Bool
  | .nil, x₀ => (match x₀ with
    | [] => true
    | _ => false)
  | .cons e es, x₀ => (match x₀ with
    | x :: xs => notStar x && chkE T S e x && chkEs T S es xs
    | _ => false)
def chkN (T : Tab) (S : Scp) : N → Expr → Bool
  | .lst es, x₀ => (match x₀ with
    | .List xs _ => chkEs T S es xs
    | _ => false)
  | .comp own elt tg it c, x₀ => (match x₀ with
    | .ListComp el [⟨tx, ix, ifs, a⟩] scope _ => decide (a = 0) && blkC S.N S.sc scope (ownS S.N own) && (tg.vars.all fun i => decide (i ∈ own)) && notSet ix && chkIt T S it tx ix && chkTg (blkS S scope) tg tx && chkC T (blkS S scope) c ifs && chkE T (blkS S scope) elt el
    | _ => false)
  | .comp2 own own1 elt tg it c tg1 it1 c1, x₀ => (match x₀ with
    | .ListComp el [⟨tx, ix, ifs, a⟩, ⟨tx1, ix1, ifs1, a1⟩] scope _ => decide (a = 0) && decide (a1 = 0) && blkC S.N S.sc scope (ownS S.N own) && (tg.vars.all fun i => decide (i ∈ own)) && (tg1.vars.all fun i => decide (i ∈ own1)) && (own1.all fun i => decide (i ∈ own)) &&
      notSet ix && notSet ix1 && chkIt T S it tx ix && chkTg (blkS S scope) tg tx && chkC T (blkS S scope) c ifs && chkIt T (blkS S scope) it1 tx1 ix1 && chkTg (blkS S scope) tg1 tx1 && chkC T (blkS S scope) c1 ifs1 && chkE T (blkS S scope) elt el
    | _ => false)
  | .listOf a, x₀ => (match x₀ with
    | .Call (.Name n _) [x] [] _ => decide (n = ("list" : Str)) && bltB T S n && notStar x && chkE T S a x
    | _ => false)
  | .rep n k, x₀ => (match x₀ with
    | .BinOp x .Mult y _ => chkN T S n x && chkE T S k y
    | _ => false)
  | .cat a b, x₀ => (match x₀ with
    | .BinOp x .Add y _ => chkE T S a x && chkE T S b y
    | _ => false)
def chkIt (T : Tab) (S : Scp) : It → Expr → Expr → Bool
  | .val a, _, x => chkE T S a x
  | .rng1 a, _, x₀ => (match x₀ with
    | .Call (.Name n _) [x] [] _ => decide (n = ("range" : Str)) && bltB T S n && notStar x && chkE T S a x
    | _ => false)
  | .rng2 a b, _, x₀ => (match x₀ with
    | .Call (.Name n _) [x, y] [] _ => decide (n = ("range" : Str)) && bltB T S n && notStar x && notStar y && chkE T S a x && chkE T S b y
    | _ => false)
  | .enum a, t, x₀ => (match x₀ with
    | .Call (.Name n _) [x] [] _ => isTuple t && decide (n = ("enumerate" : Str)) && bltB T S n && notStar x && chkE T S a x
    | _ => false)
  | .zip a b, t, x₀ => (match x₀ with
    | .Call (.Name n _) [x, y] [] _ => isTuple t && decide (n = ("zip" : Str)) && bltB T S n && notStar x && notStar y && chkE T S a x && chkE T S b y
    | _ => false)
end
/-- the names that a pair of stores goes to -/
def parB (S : Scp) (x y : Str) (px py pos : Pos) (a b : Expr) : Bool :=
  locB S x && locB S y && decide (px.line = py.line) && !(x == y) && !(([a, b] : List Expr).all (foldedForSure 8)) && !(([a, b] : List Expr).all (constantsAlone 8))
def parB3 (S : Scp) (x y z : Str) (px py pz pos : Pos) (a b c : Expr) : Bool :=
  locB S x && locB S y && locB S z && decide (px.line = py.line) && decide (px.line = pz.line) && !(x == y) && !(x == z) && !(y == z) && !(([a, b, c] : List Expr).all (foldedForSure 8)) && !(([a, b, c] : List Expr).all (constantsAlone 8))
/-- name = a comprehension, on one line, the name a local that is not the block's -/
def lcB (S : Scp) (x : Str) (p : Pos) (scope : Scope) (p2 : Pos) : Bool := locB S x && (p.line == p2.line) && !(scope.names.any fun (n, k) => n == x && (k == .local || k == .cell))
/-- some name of the pair is no local: the pair is a tuple then -/
def anyCell (S : Scp) (tx v : Expr) : Bool := match tx, v with
  | .Tuple ts _ _, .Tuple _ _ _ => ts.any fun x => match x with
    | .Name n _ => !locB S n
    | _ => true
  | _, _ => false
def isNew : E → Bool
  | .new _ => true
  | .newm _ => true
  | _ => false
def isCompN : N → Bool
  | .comp _ _ _ _ _ => true
  | .comp2 _ _ _ _ _ _ _ _ _ => true
  | _ => false
/-- a chain of isinstance -/
def chkCh (T : Tab) (S : Scp) (x : Str) : List (Nat × D) → D → Expr → Bool
  | [], d, x₀ => (match x₀ with
    | .Constant c _ _ => constC c d
    | _ => false)
  | (n, d1) :: r, d, x₀ => (match x₀ with
    | .IfExp (.Call (.Name i _) [.Name v _, .Name cn _] [] _) (.Constant c _ _) y _ => decide (i = ("isinstance" : Str)) && bltB T S i && decide (v = x) && glB S cn && okN cn && decide ((cn, n) ∈ T.excs) && constC c d1 && chkCh T S x r d y
    | _ => false)
def isFreeze : Ev.S → Bool
  | .freeze _ => true
  | _ => false
mutual
def chkS (T : Tab) (S : Scp) : Ev.S → Stmt → Bool
  | .expr e, x₀ => (match x₀ with
    | .Expr x _ => notComp x && chkE T S e x
    | _ => false)
  | .asg t e, x₀ => (match t with
    | .name i => (match x₀ with
      | .Assign [.Name x p] v _ => decide (S.N[i]? = some x) && decide (x ∈ S.st) && chkE T S e v && (match v with
        | .ListComp _ _ scope p2 => isNew e && lcB S x p scope p2
        | v => notComp v)
      | _ => false)
    | .tg t => (match x₀ with
      | .Assign [tx] v _ => isTuple tx && (notTuple v || anyCell S tx v) && notComp v && chkTg S t tx && chkE T S e v
      | _ => false)
    | .idx o i => (match x₀ with
      | .Assign [.Subscript ox ix _] v _ => notSlice ix && notComp v && chkE T S o ox && chkE T S i ix && chkE T S e v
      | _ => false))
  | .par ts es, x₀ => (match ts with
    | [i, j] => (match x₀ with
      | .Assign [.Tuple [.Name x px, .Name y py] _ _] (.Tuple [a, b] _ _) pos => decide (S.N[i]? = some x) && decide (S.N[j]? = some y) && decide (i ≠ j) && parB S x y px py pos a b && notStar a && notStar b && chkEs T S es [a, b]
      | _ => false)
    | [i, j, l] => (match x₀ with
      | .Assign [.Tuple [.Name x px, .Name y py, .Name z pz] _ _] (.Tuple [a, b, c] _ _) pos => decide (S.N[i]? = some x) && decide (S.N[j]? = some y) && decide (S.N[l]? = some z) && decide (i ≠ j) && decide (i ≠ l) && decide (j ≠ l) && parB3 S x y z px py pz pos a b c && notStar a && notStar b && notStar c && chkEs T S es [a, b, c]
      | _ => false)
    | _ => false)
  | .augn op i e, x₀ => (match x₀ with
    | .AugAssign (.Name x _) op' v _ => decide (op = op') && (decide (op = .Add) || decide (op = .Sub)) && decide (S.N[i]? = some x) && decide (x ∈ S.st) && chkE T S e v
    | _ => false)
  | .app o e, x₀ => (match x₀ with
    | .Expr (.Call (.Attribute ox n apos) [x] [] cpos) _ => decide (n = ("append" : Str)) && isName ox && (apos.endLine == cpos.line) && notStar x && chkE T S o ox && chkE T S e x
    | _ => false)
  | .ret e, x₀ => (match x₀ with
    | .Return (some x) _ => chkE T S e x
    | _ => false)
  | .retN, x₀ => (match x₀ with
    | .Return none _ => true
    | _ => false)
  | .pass, x₀ => (match x₀ with
    | .Pass _ => true
    | _ => false)
  | .brk, x₀ => (match x₀ with
    | .Break _ => true
    | _ => false)
  | .iff c a b, x₀ => (match x₀ with
    | .If x xs ys _ => chkE T S c x && chkSs T S a xs && chkSs T S b ys
    | _ => false)
  | .for t it b, x₀ => (match x₀ with
    | .For tx ix xs [] _ => notSet ix && chkTg S t tx && chkIt T S it tx ix && chkSs T S b xs
    | _ => false)
  | .whl c b, x₀ => (match x₀ with
    | .While x xs [] _ => chkE T S c x && chkSs T S b xs
    | _ => false)
  | .raise c m, x₀ => (match x₀ with
    | .Raise (some (.Call (.Name n _) [.Constant (.str msg) _ _] [] _)) none _ => decide ((n, c) ∈ T.excs) && glB S n && okN n
    | _ => false)
  | .freeze _, _ => false
  | .augl i e, x₀ => (match x₀ with
    | .AugAssign (.Name x _) .Add v _ => decide (S.N[i]? = some x) && decide (x ∈ S.st) && chkE T S e v
    | _ => false)
  | .tryA i b hall cs d, x₀ => (match x₀ with
    | .Try xs [.ExceptHandler (some (.Name hn _)) (some x) [.Return (some e) _] _] [] [] _ => decide (S.N[i]? = some x) && locB S x && okN x && glB S hn && okN hn && decide ((hn, hall) ∈ T.excs) && chkCh T S x cs d e && chkSs T S b xs
    | _ => false)
def chkSs (T : Tab) (S : Scp) : Ss → List Stmt → Bool
  | .nil, xs => xs.isEmpty
  | .cons s ss, xs => (isFreeze s && chkSs T S ss xs) || (match xs with
    | x :: xs => chkS T S s x && chkSs T S ss xs
    | [] => false)
end
end Ev
set_option linter.all false
set_option maxRecDepth 100000
set_option maxHeartbeats 2000000
/-! Ev15: what is checked runs so: expressions. -/
namespace Ev
open PySem PySem.Spec PyProof.Rows L2

/-- a word's def, as it stands -/
structure WordG (K : PySem.W.Frag) (mg : Str → Option Value) (ec : Ecl) (w : WFn) : Prop where
  there : ∃ (g : Addr) (fd : FuncData) (pg : Arguments) (sg : Scope) (h₀ : ExceptHandler) (hds : List ExceptHandler) (c0 : Const) (j : Nat) (q1 q2 q3 q4 q5 q6 : Pos),
    mg w.name = some (.ref g) ∧ FunD K w.name w.name pg [.Try [.Expr (.Call (.Name w.par q1) [] [] q2) q3] (h₀ :: hds) [] [] q4, .Return (some (.Constant c0 j q5)) q6] sg [] [] g fd ∧ Binds K fd [w.par] [] ∧
    FnScope [w.par] [w.par] sg ∧ Vis sg w.par ∧ Clauses sg mg ec (h₀ :: hds) w.hs ∧ constC c0 w.d = true ∧ okN w.par = true
/-- what a place in the text may lean on -/
structure XOk (T : Tab) (S : Scp) (X : Cx) (fa : Nat → Addr → Prop) (ec : Ecl) (b : Nat) (W : WX) (C : Cfg) : Prop where
  calm : X.calm = true
  hu : X.A.units + 66 < cLine
  hg : T.rp = true → X.A.guards = some []
  nd : X.N.Nodup
  hN : X.N = S.N
  sc : X.env.scope = S.sc
  st : ∀ x ∈ S.st, Loc X.env.scope x ∧ (X.fn x = true ∨ X.env.scope.names.lookup x = some .local)
  tk : Takes X W
  call : ∃ k, Room (k + (if S.lam then 2 else 0)) X.A ∧ ∀ f F, T.P.find f = some F → CallG X.prog X.w X.K X.mg X.base fa ec T.rp C.call k f F
  blt : ∀ x ∈ T.bl, X.mg x = none
  con : ∀ p ∈ T.consts, ∃ u v, X.mg p.1 = some u ∧ RelV v u ∧ ∀ ex H m L, Rp ⟨X.K, fa, ec, ex⟩ H m L v p.2
  exmE : ∀ c k r Dc Dk, C.exm c k = some r → ec c Dc → ec k Dk → PySem.W.exmOne X.K (.ref Dc) (.ref Dk) = some r
  wd : ∀ w ∈ T.words, WordG X.K X.mg ec w
  lamc : S.lam = true → ∃ c P, X.env.code = .ref c ∧ (P, X.env.qual ++ "<lambda>") ∈ ec.tb ∧ (∀ p ∈ ec.tb, p.1 = P → p.2 = X.env.qual ++ "<lambda>") ∧ LamX.TabB X.base X.mg c P
theorem and1 {a b : Bool} (h : (a && b) = true) : a = true ∧ b = true := Bool.and_eq_true_iff.mp h
theorem star_cons {e : Expr} {es : List Expr} {env : PySem.Env} (h : notStar e = true) : starEach (e :: es) env = (false, eval e env) :: starEach es env := by
  cases e <;> first | rfl | (exact absurd h (by simp [notStar]))
theorem star_one {e : Expr} {env : PySem.Env} (h : notStar e = true) : starEach [e] env = [(false, eval e env)] := star_cons h
theorem plain_ix {e : Expr} (h : notSlice e = true) : PlainIx e := by
  intro o i
  cases e <;> first | rfl | (exact absurd h (by simp [notSlice]))
theorem folded {e : Expr} (h : notSet e = true) (env : PySem.Env) (x : Value) : foldedSetIterable e env x = pure x := by
  cases e <;> first | rfl | (exact absurd h (by simp [notSet]))
theorem okN_db {x : Str} (h : okN x = true) : (x == ("__debug__" : Str)) = false := by
  have := (and1 h).1
  simpa using this
theorem okN_cd {x : Str} (h : okN x = true) : (x == ("__classdict__" : Str)) = false := by
  have := (and1 h).2
  simpa using this
section
variable {T : Tab} {S : Scp} {X : Cx} {fa : Nat → Addr → Prop} {ec : Ecl} {b : Nat} {W : WX} {C : Cfg}
theorem XOk.gl (h : XOk T S X fa ec b W C) {x : Str} (q : glB S x = true) : Gl X x := by
  unfold glB kOf at q
  show X.env.scope.names.lookup x = some .globalImplicit
  rw [h.sc]
  split at q
  · assumption
  · cases q
theorem XOk.vis (h : XOk T S X fa ec b W C) {x : Str} (q : visB S x = true) : Vis X.env.scope x := by
  unfold visB kOf at q
  rw [h.sc]
  split at q
  · exact .inl (by assumption)
  · exact .inr (.inl (by assumption))
  · exact .inr (.inr (by assumption))
  · cases q
theorem XOk.loc (h : XOk T S X fa ec b W C) {x : Str} (q : locB S x = true) : X.env.scope.names.lookup x = some .local := by
  unfold locB kOf at q
  rw [h.sc]
  split at q
  · assumption
  · cases q
theorem XOk.ix (h : XOk T S X fa ec b W C) {i : Nat} {x : Str} (q : decide (S.N[i]? = some x) = true) : X.N[i]? = some x := by
  rw [h.hN]; exact of_decide_eq_true q
theorem XOk.blk (h : XOk T S X fa ec b W C) {scope : Scope} {own : List (Str × Nat)} (ok : BlkOk X.N X.env.scope scope own) (s : Shared) (H : Hp) (Cc : Addr) (cl : List (Str × Addr)) (fp : List Addr) : XOk T (blkS S scope) (X.blk s H scope (compEnvC scope cl Cc X.env) fp) fa ec b WF C where
  calm := h.calm
  hu := h.hu
  hg := h.hg
  nd := h.nd
  hN := h.hN
  sc := by
    show relS scope X.env.scope = relS scope S.sc
    rw [h.sc]
  st := fun x hx => by
    obtain ⟨y, hy, rfl⟩ := List.mem_map.mp hx
    obtain ⟨hm, hk⟩ := List.mem_filter.mp hy
    have lk := ok.uniq y hm
    show Loc (relS scope X.env.scope) y.1 ∧ ((scope.names.lookup y.1 == some .cell) = true ∨ (relS scope X.env.scope).names.lookup y.1 = some .local)
    have kp : ∀ k, y.2 = k → k ≠ .free → (relS scope X.env.scope).names.lookup y.1 = some k := fun k e ne => lookup_relS_keep (sc := X.env.scope) ne (by rw [lk, e])
    rcases y with ⟨n, k⟩
    cases k with
    | «local» => exact ⟨.inl (kp _ rfl (by simp)), .inr (kp _ rfl (by simp))⟩
    | cell => exact ⟨.inr (kp _ rfl (by simp)), .inl (by rw [lk]; rfl)⟩
    | free => exact absurd hk (by simp)
    | globalExplicit => exact absurd hk (by simp)
    | globalImplicit => exact absurd hk (by simp)
  tk := by
    rintro u s' ⟨a, B, sI, pins, σ, H, cls, d, e, I, nb, up, sky, na, os, ag, w⟩
    exact w.elim
  call := h.call
  blt := h.blt
  con := h.con
  exmE := h.exmE
  wd := h.wd
  lamc := h.lamc
theorem XOk.wk (h : XOk T S X fa ec b W C) : XOk T S X fa ec b W C := h
theorem own_snd (N : List Str) (own : List Nat) : (ownS N own).map (·.2) = own := by
  unfold ownS
  rw [List.map_map]
  exact List.map_id own
theorem tg_star {e : Expr} {env : PySem.Env} {es : List Expr} (h : notStar e = true) : assignEach (e :: es) env = (false, assign e env) :: assignEach es env := by
  cases e <;> first | rfl | (exact absurd h (by simp [notStar]))
theorem snd_Tg (h : XOk T S X fa ec b W C) (ex : List Addr) : ∀ (tg : Tg) (x : Expr), chkTg S tg x = true → PG X x (gS ⟨X.K, fa, ec, ex⟩ tg)
  | .name i, x, q => by
    simp only [chkTg] at q
    split at q
    · obtain ⟨q1, q2⟩ := and1 q
      obtain ⟨l1, l2⟩ := h.st _ (of_decide_eq_true q2)
      exact sg_name h.nd (h.ix q1) l1 l2
    · cases q
  | .two a c, x, q => by
    simp only [chkTg] at q
    split at q
    · obtain ⟨q, q4⟩ := and1 q
      obtain ⟨q, q3⟩ := and1 q
      obtain ⟨q1, q2⟩ := and1 q
      have e0 : assignEach [] X.env = [] := rfl
      exact sg_two rfl h.calm (snd_Tg h ex a _ q3) (snd_Tg h ex c _ q4) (by rw [tg_star q1, tg_star q2, e0]) (by rw [tg_star q2, e0])
    · cases q
  | .three a c d, x, q => by
    simp only [chkTg] at q
    split at q
    · obtain ⟨q, q6⟩ := and1 q
      obtain ⟨q, q5⟩ := and1 q
      obtain ⟨q, q4⟩ := and1 q
      obtain ⟨q, q3⟩ := and1 q
      obtain ⟨q1, q2⟩ := and1 q
      have e0 : assignEach [] X.env = [] := rfl
      exact sg_three rfl h.calm (snd_Tg h ex a _ q4) (snd_Tg h ex c _ q5) (snd_Tg h ex d _ q6) (by rw [tg_star q1, tg_star q2, tg_star q3, e0]) (by rw [tg_star q2, tg_star q3, e0]) (by rw [tg_star q3, e0])
    · cases q
theorem const_ok {c : Const} {d : D} {k : Nat} {pos : Pos} {ex : List Addr} (h : constB c d = true) : PE X (.Constant c k pos) (tE ⟨X.K, fa, ec, ex⟩ b W fun _ => M.ret d) := by
  unfold constB at h
  split at h
  · exact se_const (t := tC .non) pe_non fun _ _ _ _ => .non
  · have e := eq_of_beq h
    subst e
    exact se_const (t := tC .non) pe_bl fun _ _ _ _ => .bl _
  · have e := of_decide_eq_true h
    subst e
    exact se_const (t := tC .non) pe_int fun _ _ _ _ => .int _
  · have e := of_decide_eq_true h
    subst e
    exact se_const (t := tC .non) pe_str fun _ _ _ _ => .str _
  · cases h
theorem tail_pe {op : BoolOp} {y : Expr} {zs : List Expr} {p : Pos} {t : TE} (h : PE X (tailB op y zs p) t) : PE X (.BoolOp op (y :: zs) p) t := by
  cases zs with
  | nil => exact pe_one h
  | cons z zs => exact h
/-- a test, and a test of and, or whatever it is a part of -/
def PTW (X : Cx) (x : Expr) (t : TT) : Prop := PT X x t ∧ ∀ op es p, x = .BoolOp op es p → PW X x t
theorem PTW.of {x : Expr} {t : TT} (h : PT X x t) (n : ∀ op es p, x ≠ .BoolOp op es p) : PTW X x t := ⟨h, fun op es p e => absurd e (n op es p)⟩
theorem tail_pwA {y : Expr} {zs : List Expr} {p : Pos} {t : TT} (h : PTW X (tailB .And y zs p) t) : PW X (.BoolOp .And (y :: zs) p) t := by
  cases zs with
  | nil => exact pw_and1 h.1
  | cons z zs => exact h.2 _ _ _ rfl
theorem tail_pwO {y : Expr} {zs : List Expr} {p : Pos} {t : TT} (h : PTW X (tailB .Or y zs p) t) : PW X (.BoolOp .Or (y :: zs) p) t := by
  cases zs with
  | nil => exact pw_or1 h.1
  | cons z zs => exact h.2 _ _ _ rfl
theorem bltB1 (h : XOk T S X fa ec b W C) {n : Str} (q : bltB T S n = true) : Gl X n ∧ X.mg n = none := by
  obtain ⟨q1, q2⟩ := and1 q
  exact ⟨h.gl q1, h.blt _ (of_decide_eq_true q2)⟩
theorem valT_is {x : Expr} (h : valT x = true) : (∀ op es p, x ≠ .BoolOp op es p) ∧ ∀ (env : PySem.Env) whole, isTrue x env whole = (do let v ← whole; standAt x.pos; holding [v] (truthy v)) := by
  cases x <;> first | exact ⟨fun _ _ _ e => (by cases e), fun _ _ => rfl⟩ | (exact absurd h (by simp [valT]))
theorem base_name {o : Expr} {n : Str} {env : PySem.Env} {w : Sem Value} (h : isName o = true) : attributeBase o n env w = w := by
  cases o <;> first | rfl | (exact absurd h (by simp [isName]))
theorem chkN_val : ∀ (n : N) (x : Expr), chkN T S n x = true → valT x = true
  | .lst _, x, q => by
    simp only [chkN] at q
    split at q
    · rfl
    · cases q
  | .comp _ _ _ _ _, x, q => by
    simp only [chkN] at q
    split at q
    · rfl
    · cases q
  | .comp2 _ _ _ _ _ _ _ _ _, x, q => by
    simp only [chkN] at q
    split at q
    · rfl
    · cases q
  | .listOf _, x, q => by
    simp only [chkN] at q
    split at q
    · rfl
    · cases q
  | .rep _ _, x, q => by
    simp only [chkN] at q
    split at q
    · rfl
    · cases q
  | .cat _ _, x, q => by
    simp only [chkN] at q
    split at q
    · rfl
    · cases q
theorem chkEs_star : ∀ (es : Es) (xs : List Expr), chkEs T S es xs = true → ∀ x ∈ xs, notStar x = true
  | .nil, xs, q => by
    simp only [chkEs] at q
    split at q
    · intro x hx; cases hx
    · cases q
  | .cons e es, xs, q => by
    simp only [chkEs] at q
    split at q
    · obtain ⟨q, q3⟩ := and1 q
      obtain ⟨q1, q2⟩ := and1 q
      intro x hx
      rcases List.mem_cons.mp hx with e | hx
      · rw [e]; exact q1
      · exact chkEs_star es _ q3 x hx
    · cases q
theorem star_any {pos : Pos} {env : PySem.Env} : ∀ (xs : List Expr), (∀ x ∈ xs, notStar x = true) → (backTo pos (starEach xs env)).any (·.1) = false
  | [], _ => rfl
  | x :: xs, h => by
    have ih := star_any (pos := pos) (env := env) xs fun y hy => h y (List.mem_cons_of_mem _ hy)
    rw [star_cons (h x List.mem_cons_self)]
    show (false || (backTo pos (starEach xs env)).any (·.1)) = false
    rw [ih] <;> rfl
mutual
theorem snd_E {S : Scp} {X : Cx} {b : Nat} {W : WX} (h : XOk T S X fa ec b W C) : ∀ (e : E) (x : Expr), chkE T S e x = true → ∀ ex, PE X x (tE ⟨X.K, fa, ec, ex⟩ b W fun ρ => evE C ρ e)
  | .var i, x, q, ex => by
    simp only [chkE] at q
    split at q
    · obtain ⟨q, q3⟩ := and1 q
      obtain ⟨q1, q2⟩ := and1 q
      simp only [evE]
      exact se_var (h.ix q1) (h.vis q2) (okN_db q3) (okN_cd q3)
    · cases q
  | .const d, x, q, ex => by
    simp only [chkE] at q
    split at q
    · simp only [evE]; exact const_ok q
    · cases q
  | .gc y d, x, q, ex => by
    simp only [chkE] at q
    split at q
    · obtain ⟨q, q4⟩ := and1 q
      obtain ⟨q, q3⟩ := and1 q
      obtain ⟨q1, q2⟩ := and1 q
      obtain ⟨p, hp, hd⟩ := List.any_eq_true.mp q4
      obtain ⟨e1, e2⟩ := and1 hd
      have e1 := of_decide_eq_true e1
      have e2 := D.beq_eq e2
      obtain ⟨u, v, h1, h2, h3⟩ := h.con p hp
      rw [e1] at h1
      simp only [evE]
      rw [← e2]
      refine ofE (pe_glob (h.gl q2) h1 h2 (okN_db q3)) fun σ H Q h => ?_
      obtain ⟨ρ, m, st, er, S, h⟩ := h
      exact h.ret S v (h3 _ _ _ _)
    · cases q
  | .gf f, x, q, ex => by simp [chkE] at q
  | .tup es, x, q, ex => by
    simp only [chkE] at q
    split at q
    · simp only [evE]; exact se_tup (snd_Es h es _ q ex)
    · cases q
  | .bin op a b, x, q, ex => by
    simp only [chkE] at q
    split at q
    · obtain ⟨q, q3⟩ := and1 q
      obtain ⟨q1, q2⟩ := and1 q
      have e := of_decide_eq_true q1
      subst e
      simp only [evE]
      exact se_bin rfl (snd_E h a _ q2 ex) (snd_E h b _ q3 ex)
    · cases q
  | .neg a, x, q, ex => by
    simp only [chkE] at q
    split at q
    · simp only [evE]; exact se_neg (snd_E h a _ q ex)
    · cases q
  | .not a, x, q, ex => by
    simp only [chkE] at q
    split at q
    · simp only [evE]; exact se_not (t := fun _ => M.bad) (snd_E h a _ q ex)
    · cases q
  | .and a b, x, q, ex => by
    simp only [chkE] at q
    split at q
    · obtain ⟨q1, q2⟩ := and1 q
      simp only [evE]
      exact se_and (snd_E h a _ q1 ex) (tail_pe (snd_E h b _ q2 ex))
    · cases q
  | .or a b, x, q, ex => by
    simp only [chkE] at q
    split at q
    · obtain ⟨q1, q2⟩ := and1 q
      simp only [evE]
      exact se_or (snd_E h a _ q1 ex) (tail_pe (snd_E h b _ q2 ex))
    · cases q
  | .ite c a b, x, q, ex => by
    simp only [chkE] at q
    split at q
    · obtain ⟨q, q3⟩ := and1 q
      obtain ⟨q1, q2⟩ := and1 q
      simp only [evE]
      exact se_ite (snd_T h c _ q1 ex).1 (snd_E h a _ q2 ex) (snd_E h b _ q3 ex)
    · cases q
  | .cmp op a b, x, q, ex => by
    simp only [chkE] at q
    split at q
    · obtain ⟨q, q4⟩ := and1 q
      obtain ⟨q, q3⟩ := and1 q
      obtain ⟨q1, q2⟩ := and1 q
      have e := of_decide_eq_true q1
      subst e
      simp only [evE]
      exact se_cmp rfl h.hu (snd_E h a _ q3 ex) (snd_E h b _ q4 ex) (by simpa using q2)
    · cases q
  | .cmp2 op op2 a b c, x, q, ex => by
    simp only [chkE] at q
    split at q
    · obtain ⟨q, q6⟩ := and1 q
      obtain ⟨q, q5⟩ := and1 q
      obtain ⟨q, q4⟩ := and1 q
      obtain ⟨q, q3⟩ := and1 q
      obtain ⟨q1, q2⟩ := and1 q
      have e := of_decide_eq_true q1
      have e2 := of_decide_eq_true q2
      subst e; subst e2
      simp only [evE]
      exact se_ch rfl h.hu (snd_E h a _ q4 ex) (snd_E h b _ q5 ex) (snd_E h c _ q6 ex) (by simpa using q3)
    · cases q
  | .idx a b, x, q, ex => by
    simp only [chkE] at q
    split at q
    · obtain ⟨q, q3⟩ := and1 q
      obtain ⟨q1, q2⟩ := and1 q
      simp only [evE]
      exact se_idx rfl (snd_E h a _ q2 ex) (snd_E h b _ q3 ex) (plain_ix q1)
    · cases q
  | .slc a lo hi, x, q, ex => by
    simp only [chkE] at q
    split at q
    · obtain ⟨q, q3⟩ := and1 q
      obtain ⟨q1, q2⟩ := and1 q
      simp only [evE]
      exact se_slc rfl (snd_E h a _ q1 ex) (snd_O h lo _ q2 ex) (snd_O h hi _ q3 ex)
    · cases q
  | .call f es, x, q, ex => by
    simp only [chkE] at q
    split at q
    · obtain ⟨q, q4⟩ := and1 q
      obtain ⟨q, q3⟩ := and1 q
      obtain ⟨q1, q2⟩ := and1 q
      cases hf : T.P.find f with
      | none => rw [hf] at q1; cases q1
      | some F =>
        rw [hf] at q1
        have e := of_decide_eq_true q1
        subst e
        obtain ⟨k, hr, Cg⟩ := h.call
        replace Cg := Cg f F hf
        replace hr : Room k X.A := hr.mono (Nat.le_add_right _ _)
        simp only [evE]
        have hes := snd_Es h es _ q4 ex
        have hst := chkEs_star _ _ q4
        cases es with
        | nil =>
          simp only [chkEs] at q4
          split at q4
          · exact se_call0 Cg hr h.hg h.tk (h.gl q2) (okN_db q3)
          · cases q4
        | cons e es =>
          simp only [chkEs] at q4
          split at q4
          · rename_i x xs
            exact se_call Cg hr h.hg h.tk (h.gl q2) (okN_db q3) hes (star_cons (hst x List.mem_cons_self)) (star_any _ fun y hy => hst y (List.mem_cons_of_mem _ hy))
          · cases q4
    · cases q
  | .blt bl a, x, q, ex => by
    simp only [chkE] at q
    split at q
    · obtain ⟨q, q3⟩ := and1 q
      obtain ⟨q, q2⟩ := and1 q
      obtain ⟨q1, qr⟩ := and1 q
      have e := of_decide_eq_true q1
      have hr : bl = .repr → X.A.guards = some [] := fun e => h.hg (by rw [e] at qr; exact qr)
      subst e
      simp only [evE]
      split at q3
      · obtain ⟨q, q6⟩ := and1 q3
        obtain ⟨q4, q5⟩ := and1 q
        have g := bltB1 h q2
        exact se_blt rfl h.hu hr h.calm (snd_E h a _ q6 ex) (fun es => star_cons q5) g.1 g.2 (.one (of_decide_eq_true q4)) (fun t e => by rw [e] at q4; exact absurd (of_decide_eq_true q4) (by simp [bltMore]))
      · split at q3
        · obtain ⟨q, q8⟩ := and1 q3
          obtain ⟨q, q7⟩ := and1 q
          obtain ⟨q, q6⟩ := and1 q
          obtain ⟨q4, q5⟩ := and1 q
          have e := of_decide_eq_true q5
          subst e
          have g := bltB1 h q2
          exact se_blt rfl h.hu hr h.calm (snd_E h a _ q8 ex) (fun es => star_cons q7) g.1 g.2 (.isi (of_decide_eq_true q4)) (fun t e => by cases e; exact bltB1 h q6)
        · cases q3
      · cases q3
    · cases q
  | .new n, x, q, ex => by
    simp only [chkE] at q
    simp only [evE]
    exact ofE (snd_N h n x q ex) fun σ H Q q => tN.new q
  | .newm n, x, q, ex => by
    simp only [chkE] at q
    simp only [evE]
    exact ofE (snd_N h n x q ex) fun σ H Q q => tN.newm q
  | .frz a, x, q, ex => by
    simp only [chkE] at q
    simp only [evE]
    exact se_frz (snd_E h a x (and1 q).2 ex)
  | .pop a, x, q, ex => by
    simp only [chkE] at q
    split at q
    · obtain ⟨q, q4⟩ := and1 q
      obtain ⟨q, q3⟩ := and1 q
      obtain ⟨q1, q2⟩ := and1 q
      have e := of_decide_eq_true q1
      subst e
      simp only [evE]
      exact se_pop rfl (snd_E h a _ q4 ex) (base_name q2) q3
    · cases q
  | .rev a, x, q, ex => by
    simp only [chkE] at q
    split at q
    · simp only [evE]
      exact se_rev rfl (snd_E h a _ q ex)
    · cases q
  | .srt a, x, q, ex => by
    simp only [chkE] at q
    split at q
    · obtain ⟨q, q6⟩ := and1 q
      obtain ⟨q, q5⟩ := and1 q
      obtain ⟨q, q4⟩ := and1 q
      obtain ⟨q, q3⟩ := and1 q
      obtain ⟨q1, q2⟩ := and1 q
      have e1 := of_decide_eq_true q1
      have e2 := of_decide_eq_true q3
      subst e1; subst e2
      have g := bltB1 h q2
      have g2 := bltB1 h q4
      simp only [evE]
      exact se_srt rfl h.calm g.1 g.2 g2.1 g2.2 (snd_E h a _ q6 ex) (star_one q5)
    · cases q
  | .mm mx a c, x, q, ex => by
    simp only [chkE] at q
    split at q
    · obtain ⟨q, q6⟩ := and1 q
      obtain ⟨q, q5⟩ := and1 q
      obtain ⟨q, q4⟩ := and1 q
      obtain ⟨q, q3⟩ := and1 q
      obtain ⟨q1, q2⟩ := and1 q
      have e := of_decide_eq_true q1
      subst e
      have g := bltB1 h q2
      simp only [evE]
      exact se_mm h.calm g.1 g.2 (snd_E h a _ q5 ex) (snd_E h c _ q6 ex) (by rw [star_cons q3]) (star_one q4)
    · cases q
  | .word x hs d e, x₀, q, ex => by
    simp only [chkE] at q
    split at q
    · rename_i n pn params body scope lpos pos
      obtain ⟨q, q8⟩ := and1 q
      obtain ⟨q, q7⟩ := and1 q
      obtain ⟨q, q6⟩ := and1 q
      obtain ⟨q, q5⟩ := and1 q
      obtain ⟨q, q4⟩ := and1 q
      obtain ⟨q, q3⟩ := and1 q
      obtain ⟨q1, q2⟩ := and1 q
      have en := of_decide_eq_true q1
      subst en
      obtain ⟨w, hw, q7⟩ := List.any_eq_true.mp q7
      obtain ⟨q7, q10⟩ := and1 q7
      obtain ⟨q7, q9⟩ := and1 q7
      have ew := of_decide_eq_true q7
      have eh := hsB_eq q9
      have ed := D.beq_eq q10
      obtain ⟨g, fd, pg, sg, h₀, hds, c0, j, p1, p2, p3, p4, p5, p6, g1, g2, g3, g4, g5, g6, g7, g8⟩ := (h.wd w hw).there
      obtain ⟨c, P, l1, l2, l3, l4⟩ := h.lamc q4
      obtain ⟨k, hr, Cg⟩ := h.call
      rw [q4] at hr
      subst eh; subst ed
      rw [ew] at g1 g2
      have np : params = ⟨[], [], none, [], [], none, []⟩ := by
        unfold noPar at q5
        split at q5
        · rfl
        · cases q5
      subst np
      simp only [evE]
      refine se_word (ex := ex) (k := k) (h.gl q2) g1 g2 g3 g4 rfl g5 g6 g7 l4 l1 l2 l3 hr (LamX.lamS_by (by rw [h.sc]; exact q6)) rfl (fun _ _ _ _ _ => rfl) h.exmE (fun A outer s H E f c' b' hr' hgd => ?_) (okN_db q3) (okN_db g8) (okN_cd g8)
      exact snd_E (X := LamX.lamCx X A outer s H E scope f c') (S := ⟨S.N, scope, [], false⟩) (b := b') (W := wE E) ⟨rfl, by have := hr'.un; show (A.deeper _).units + 66 < cLine; omega, fun z => hgd.trans (h.hg z), h.nd, h.hN, rfl, fun x hx => by simp at hx, takes_of rfl rfl rfl rfl, ⟨k, hr', Cg⟩, h.blt, h.con, h.exmE, h.wd, fun z => by cases z⟩ e _ q8 ex
    · cases q
theorem snd_T {S : Scp} {X : Cx} {b : Nat} {W : WX} (h : XOk T S X fa ec b W C) : ∀ (e : E) (x : Expr), chkE T S e x = true → ∀ ex, PTW X x (Ev.tB ⟨X.K, fa, ec, ex⟩ b W fun ρ => M.thn (evE C ρ e) asB)
  | .not a, x, q, ex => by
    simp only [chkE] at q
    split at q
    · simp only [evE]
      exact .of (st_not (snd_T h a _ q ex).1) fun _ _ _ e => by cases e
    · cases q
  | .and a b, x, q, ex => by
    simp only [chkE] at q
    split at q
    · obtain ⟨q1, q2⟩ := and1 q
      simp only [evE]
      have w := sw_and (f := fun ρ => evE C ρ a) (g := fun ρ => evE C ρ b) (snd_T h a _ q1 ex).1 (tail_pwA (snd_T h b _ q2 ex))
      exact ⟨w.pt, fun op es p e => by cases e; exact w⟩
    · cases q
  | .or a b, x, q, ex => by
    simp only [chkE] at q
    split at q
    · obtain ⟨q1, q2⟩ := and1 q
      simp only [evE]
      have w := sw_or (f := fun ρ => evE C ρ a) (g := fun ρ => evE C ρ b) (snd_T h a _ q1 ex).1 (tail_pwO (snd_T h b _ q2 ex))
      exact ⟨w.pt, fun op es p e => by cases e; exact w⟩
    · cases q
  | .ite c a b, x, q, ex => by
    simp only [chkE] at q
    split at q
    · obtain ⟨q, q3⟩ := and1 q
      obtain ⟨q1, q2⟩ := and1 q
      simp only [evE]
      exact .of (st_ite (t := fun ρ => evE C ρ c) (f := fun ρ => evE C ρ a) (g := fun ρ => evE C ρ b) (snd_T h c _ q1 ex).1 (snd_T h a _ q2 ex).1 (snd_T h b _ q3 ex).1) fun _ _ _ e => by cases e
    · cases q
  | .cmp op a b, x, q, ex => by
    simp only [chkE] at q
    split at q
    · obtain ⟨q, q4⟩ := and1 q
      obtain ⟨q, q3⟩ := and1 q
      obtain ⟨q1, q2⟩ := and1 q
      have e := of_decide_eq_true q1
      subst e
      simp only [evE]
      exact .of (st_cmp rfl h.hu (snd_E h a _ q3 ex) (snd_E h b _ q4 ex) (by simpa using q2)) fun _ _ _ e => by cases e
    · cases q
  | .cmp2 op op2 a b c, x, q, ex => by
    simp only [chkE] at q
    split at q
    · obtain ⟨q, q6⟩ := and1 q
      obtain ⟨q, q5⟩ := and1 q
      obtain ⟨q, q4⟩ := and1 q
      obtain ⟨q, q3⟩ := and1 q
      obtain ⟨q1, q2⟩ := and1 q
      have e := of_decide_eq_true q1
      have e2 := of_decide_eq_true q2
      subst e; subst e2
      simp only [evE]
      exact .of (st_ch rfl h.hu (snd_E h a _ q4 ex) (snd_E h b _ q5 ex) (snd_E h c _ q6 ex) (by simpa using q3)) fun _ _ _ e => by cases e
    · cases q
  | .var i, x, q, ex => by
    have q0 := q
    simp only [chkE] at q
    split at q
    · exact .of (st_val (snd_E h _ _ q0 ex) fun _ => rfl) fun _ _ _ e => by cases e
    · cases q
  | .const d, x, q, ex => by
    have q0 := q
    simp only [chkE] at q
    split at q
    · exact .of (st_val (snd_E h _ _ q0 ex) fun _ => rfl) fun _ _ _ e => by cases e
    · cases q
  | .gc y d, x, q, ex => by
    have q0 := q
    simp only [chkE] at q
    split at q
    · exact .of (st_val (snd_E h _ _ q0 ex) fun _ => rfl) fun _ _ _ e => by cases e
    · cases q
  | .tup es, x, q, ex => by
    have q0 := q
    simp only [chkE] at q
    split at q
    · exact .of (st_val (snd_E h _ _ q0 ex) fun _ => rfl) fun _ _ _ e => by cases e
    · cases q
  | .bin op a b, x, q, ex => by
    have q0 := q
    simp only [chkE] at q
    split at q
    · exact .of (st_val (snd_E h _ _ q0 ex) fun _ => rfl) fun _ _ _ e => by cases e
    · cases q
  | .neg a, x, q, ex => by
    have q0 := q
    simp only [chkE] at q
    split at q
    · exact .of (st_val (snd_E h _ _ q0 ex) fun _ => rfl) fun _ _ _ e => by cases e
    · cases q
  | .idx a b, x, q, ex => by
    have q0 := q
    simp only [chkE] at q
    split at q
    · exact .of (st_val (snd_E h _ _ q0 ex) fun _ => rfl) fun _ _ _ e => by cases e
    · cases q
  | .slc a lo hi, x, q, ex => by
    have q0 := q
    simp only [chkE] at q
    split at q
    · exact .of (st_val (snd_E h _ _ q0 ex) fun _ => rfl) fun _ _ _ e => by cases e
    · cases q
  | .call f es, x, q, ex => by
    have q0 := q
    simp only [chkE] at q
    split at q
    · exact .of (st_val (snd_E h _ _ q0 ex) fun _ => rfl) fun _ _ _ e => by cases e
    · cases q
  | .blt bl a, x, q, ex => by
    have q0 := q
    simp only [chkE] at q
    split at q
    · exact .of (st_val (snd_E h _ _ q0 ex) fun _ => rfl) fun _ _ _ e => by cases e
    · cases q
  | .gf f, x, q, ex => by simp [chkE] at q
  | .pop a, x, q, ex => by
    have q0 := q
    simp only [chkE] at q
    split at q
    · exact .of (st_val (snd_E h _ _ q0 ex) fun _ => rfl) fun _ _ _ e => by cases e
    · cases q
  | .rev a, x, q, ex => by
    have q0 := q
    simp only [chkE] at q
    split at q
    · exact .of (st_val (snd_E h _ _ q0 ex) fun _ => rfl) fun _ _ _ e => by cases e
    · cases q
  | .srt a, x, q, ex => by
    have q0 := q
    simp only [chkE] at q
    split at q
    · exact .of (st_val (snd_E h _ _ q0 ex) fun _ => rfl) fun _ _ _ e => by cases e
    · cases q
  | .mm mx a c, x, q, ex => by
    have q0 := q
    simp only [chkE] at q
    split at q
    · exact .of (st_val (snd_E h _ _ q0 ex) fun _ => rfl) fun _ _ _ e => by cases e
    · cases q
  | .word w hs d e, x, q, ex => by
    have q0 := q
    simp only [chkE] at q
    split at q
    · exact .of (st_val (snd_E h _ _ q0 ex) fun _ => rfl) fun _ _ _ e => by cases e
    · cases q
  | .frz a, x, q, ex => by
    have q0 := q
    simp only [chkE] at q
    have v := valT_is (and1 q).1
    exact .of (st_val (snd_E h _ _ q0 ex) fun _ => v.2 _ _) v.1
  | .new n, x, q, ex => by
    have q0 := q
    simp only [chkE] at q
    have v := valT_is (chkN_val _ _ q)
    exact .of (st_val (snd_E h _ _ q0 ex) fun _ => v.2 _ _) v.1
  | .newm n, x, q, ex => by
    have q0 := q
    simp only [chkE] at q
    have v := valT_is (chkN_val _ _ q)
    exact .of (st_val (snd_E h _ _ q0 ex) fun _ => v.2 _ _) v.1
theorem snd_O {S : Scp} {X : Cx} {b : Nat} {W : WX} (h : XOk T S X fa ec b W C) : ∀ (e : O) (x : Option Expr), chkO T S e x = true → ∀ ex, PO X x (tOp_ ⟨X.K, fa, ec, ex⟩ b W fun ρ => evO C ρ e)
  | .no, x, q, ex => by
    simp only [chkO] at q
    split at q
    · simp only [evO]; exact so_none
    · cases q
  | .is e, x, q, ex => by
    simp only [chkO] at q
    split at q
    · simp only [evO]; exact so_some (snd_E h e _ q ex)
    · cases q
theorem snd_C {S : Scp} {X : Cx} {b : Nat} {W : WX} (h : XOk T S X fa ec b W C) : ∀ (e : O) (x : List Expr), chkC T S e x = true → ∀ ex, PTs X x (Ev.tB ⟨X.K, fa, ec, ex⟩ b W fun ρ => evC C ρ e)
  | .no, x, q, ex => by
    simp only [chkC] at q
    split at q
    · simp only [evC]; exact spts_nil
    · cases q
  | .is e, x, q, ex => by
    simp only [chkC] at q
    split at q
    · simp only [evC]; exact pts_one (snd_T h e _ q ex).1
    · cases q
theorem snd_Es {S : Scp} {X : Cx} {b : Nat} {W : WX} (h : XOk T S X fa ec b W C) : ∀ (e : Es) (x : List Expr), chkEs T S e x = true → ∀ ex, PA X x (tEs ⟨X.K, fa, ec, ex⟩ b W fun ρ => evEs C ρ e)
  | .nil, x, q, ex => by
    simp only [chkEs] at q
    split at q
    · simp only [evEs]; exact sa_nil
    · cases q
  | .cons e es, x, q, ex => by
    simp only [chkEs] at q
    split at q
    · obtain ⟨q, q3⟩ := and1 q
      obtain ⟨q1, q2⟩ := and1 q
      simp only [evEs]
      exact sa_cons (snd_E h e _ q2 ex) (snd_Es h es _ q3 ex) (star_cons q1)
    · cases q
theorem snd_N {S : Scp} {X : Cx} {b : Nat} {W : WX} (h : XOk T S X fa ec b W C) : ∀ (e : N) (x : Expr), chkN T S e x = true → ∀ ex, PE X x (tN ⟨X.K, fa, ec, ex⟩ b W fun ρ => evN C ρ e)
  | .lst es, x, q, ex => by
    simp only [chkN] at q
    split at q
    · simp only [evN]; exact sn_lst (snd_Es h es _ q ex)
    · cases q
  | .comp own elt tg it c, x, q, ex => by
    simp only [chkN] at q
    split at q
    · obtain ⟨q, q8⟩ := and1 q
      obtain ⟨q, q7⟩ := and1 q
      obtain ⟨q, q6⟩ := and1 q
      obtain ⟨q, q5⟩ := and1 q
      obtain ⟨q, q4⟩ := and1 q
      obtain ⟨q, q3⟩ := and1 q
      obtain ⟨q1, q2⟩ := and1 q
      have e := of_decide_eq_true q1
      subst e
      have ok := blkOk_by (by rw [← h.hN, ← h.sc] at q2; exact q2)
      have key := fun pos => sn_comp (pos := pos) h.calm h.nd (⟨snd_It h it _ _ q5 ex, ok, fun i hi => by rw [own_snd]; exact of_decide_eq_true (List.all_eq_true.mp q3 i hi), fun s H C cl fp ex' => snd_Tg (h.blk ok s H C cl fp) ex' tg _ q6, fun s H C cl fp ex' => snd_C (h.blk ok s H C cl fp) c _ q7 ex', fun s H C cl fp ex' => snd_E (h.blk ok s H C cl fp) elt _ q8 ex', folded q4 _⟩ :
        CompOk X ⟨X.K, fa, ec, ex⟩ b W _ _ _ _ _ _ tg (fun ρ => evIt C ρ it) (fun ρ => evC C ρ c) (fun ρ => evE C ρ elt))
      simp only [own_snd] at key
      simp only [evN]
      exact key _
    · cases q
  | .comp2 own own1 elt tg it c tg1 it1 c1, x, q, ex => by
    simp only [chkN] at q
    split at q
    · obtain ⟨q, qE⟩ := and1 q
      obtain ⟨q, qC1⟩ := and1 q
      obtain ⟨q, qT1⟩ := and1 q
      obtain ⟨q, qI1⟩ := and1 q
      obtain ⟨q, qC⟩ := and1 q
      obtain ⟨q, qT⟩ := and1 q
      obtain ⟨q, qI⟩ := and1 q
      obtain ⟨q, qn1⟩ := and1 q
      obtain ⟨q, qn⟩ := and1 q
      obtain ⟨q, qs⟩ := and1 q
      obtain ⟨q, qv1⟩ := and1 q
      obtain ⟨q, qv⟩ := and1 q
      obtain ⟨q, qb⟩ := and1 q
      obtain ⟨q1, q2⟩ := and1 q
      have e := of_decide_eq_true q1
      have e2 := of_decide_eq_true q2
      subst e; subst e2
      have ok := blkOk_by (by rw [← h.hN, ← h.sc] at qb; exact qb)
      have key := fun pos => sn_comp2 (pos := pos) h.calm h.nd (⟨⟨snd_It h it _ _ qI ex, ok, fun i hi => by rw [own_snd]; exact of_decide_eq_true (List.all_eq_true.mp qv i hi), fun s H C cl fp ex' => snd_Tg (h.blk ok s H C cl fp) ex' tg _ qT, fun s H C cl fp ex' => snd_C (h.blk ok s H C cl fp) c _ qC ex', fun s H C cl fp ex' => snd_E (h.blk ok s H C cl fp) elt _ qE ex', folded qn _⟩,
          fun i hi => of_decide_eq_true (List.all_eq_true.mp qv1 i hi), fun i hi => by rw [own_snd]; exact of_decide_eq_true (List.all_eq_true.mp qs i hi), fun s H C cl fp ex' => snd_It (h.blk ok s H C cl fp) it1 _ _ qI1 ex', fun s H C cl fp ex' => snd_Tg (h.blk ok s H C cl fp) ex' tg1 _ qT1, fun s H C cl fp ex' => snd_C (h.blk ok s H C cl fp) c1 _ qC1 ex', fun env => folded qn1 env⟩ :
        CompOk2 X ⟨X.K, fa, ec, ex⟩ b W _ _ _ _ _ _ _ _ _ own1 tg tg1 (fun ρ => evIt C ρ it) (fun ρ => evC C ρ c) (fun ρ => evIt C ρ it1) (fun ρ => evC C ρ c1) (fun ρ => evE C ρ elt))
      simp only [own_snd] at key
      simp only [evN]
      exact key _
    · cases q
  | .listOf a, x, q, ex => by
    simp only [chkN] at q
    split at q
    · obtain ⟨q, q4⟩ := and1 q
      obtain ⟨q, q3⟩ := and1 q
      obtain ⟨q1, q2⟩ := and1 q
      have e := of_decide_eq_true q1
      subst e
      have g := bltB1 h q2
      simp only [evN]
      exact sn_listOf rfl g.1 g.2 (snd_E h a _ q4 ex) (star_one q3)
    · cases q
  | .rep n k, x, q, ex => by
    simp only [chkN] at q
    split at q
    · obtain ⟨q1, q2⟩ := and1 q
      simp only [evN]
      exact sn_rep (snd_N h n _ q1 ex) (snd_E h k _ q2 ex)
    · cases q
  | .cat a c, x, q, ex => by
    simp only [chkN] at q
    split at q
    · obtain ⟨q1, q2⟩ := and1 q
      simp only [evN]
      exact sn_cat rfl (snd_E h a _ q1 ex) (snd_E h c _ q2 ex)
    · cases q
theorem snd_It {S : Scp} {X : Cx} {b : Nat} {W : WX} (h : XOk T S X fa ec b W C) : ∀ (e : It) (t x : Expr), chkIt T S e t x = true → ∀ ex, PI X t x (tI ⟨X.K, fa, ec, ex⟩ b W fun ρ => evIt C ρ e)
  | .val a, t, x, q, ex => by
    simp only [chkIt] at q
    simp only [evIt]
    exact si_val rfl (snd_E h a _ q ex)
  | .rng1 a, t, x, q, ex => by
    simp only [chkIt] at q
    split at q
    · obtain ⟨q, q4⟩ := and1 q
      obtain ⟨q, q3⟩ := and1 q
      obtain ⟨q1, q2⟩ := and1 q
      have e := of_decide_eq_true q1
      subst e
      have g := bltB1 h q2
      simp only [evIt]
      exact si_rng1 g.1 g.2 (snd_E h a _ q4 ex) (star_one q3)
    · cases q
  | .rng2 a c, t, x, q, ex => by
    simp only [chkIt] at q
    split at q
    · obtain ⟨q, q6⟩ := and1 q
      obtain ⟨q, q5⟩ := and1 q
      obtain ⟨q, q4⟩ := and1 q
      obtain ⟨q, q3⟩ := and1 q
      obtain ⟨q1, q2⟩ := and1 q
      have e := of_decide_eq_true q1
      subst e
      have g := bltB1 h q2
      simp only [evIt]
      exact si_rng2 g.1 g.2 (snd_E h a _ q5 ex) (snd_E h c _ q6 ex) (by rw [star_cons q3, star_one q4]) (star_one q4)
    · cases q
  | .enum a, t, x, q, ex => by
    simp only [chkIt] at q
    split at q
    · obtain ⟨q, q4⟩ := and1 q
      obtain ⟨q, q3⟩ := and1 q
      obtain ⟨q, q2⟩ := and1 q
      obtain ⟨q0, q1⟩ := and1 q
      have e := of_decide_eq_true q1
      subst e
      have g := bltB1 h q2
      simp only [evIt]
      cases t <;> first | (cases q0; done) | exact si_enum rfl g.1 g.2 (snd_E h a _ q4 ex) (star_one q3)
    · cases q
  | .zip a c, t, x, q, ex => by
    simp only [chkIt] at q
    split at q
    · obtain ⟨q, q6⟩ := and1 q
      obtain ⟨q, q5⟩ := and1 q
      obtain ⟨q, q4⟩ := and1 q
      obtain ⟨q, q3⟩ := and1 q
      obtain ⟨q, q2⟩ := and1 q
      obtain ⟨q0, q1⟩ := and1 q
      have e := of_decide_eq_true q1
      subst e
      have g := bltB1 h q2
      simp only [evIt]
      cases t <;> first | (cases q0; done) | exact si_zip rfl g.1 g.2 (snd_E h a _ q5 ex) (snd_E h c _ q6 ex) (star_cons q3) (star_one q4)
    · cases q
end
end
end Ev
set_option linter.all false
set_option maxRecDepth 100000
set_option maxHeartbeats 2000000
/-! Ev16: what is checked runs so: statements. -/
namespace Ev
open PySem PySem.Spec PyProof.Rows L2
structure XOkS (T : Tab) (S : Scp) (X : Cx) (fa : Nat → Addr → Prop) (ec : Ecl) (b : Nat) (E : XK) (C : Cfg) : Prop extends XOk T S X fa ec b (wE E) C where
  kind : X.env.scope.kind = .function
  base : C.base = b
  own : PassesOwn (model X.prog X.w) X.A X.env X.xe
  exc : ∀ n c, (n, c) ∈ T.excs → ∃ (Cls : Addr) (bmB : List Value) (B newId initId : String), ExcBaseFacts B newId initId bmB ∧ PySem.W.excIn X.K Cls bmB newId = true ∧ X.mg n = some (.ref Cls) ∧ PySem.W.keepIn X.K (.ref Cls) = true ∧ Raises X (.ref Cls) ∧ ec c Cls
  stk : X.stack = X.env :: X.outer
  frm : X.env.frame = some X.env.locals
  exm : ∀ c k r Dc Dk, C.exm c k = some r → ec c Dc → ec k Dk → PySem.W.exmOne X.K (.ref Dc) (.ref Dk) = some r ∧ PySem.W.kitOne X.K (.ref Dc) (.ref Dk) = some r
  exC : ∀ c Dc, ec c Dc → ExcC X.K Dc
section
variable {T : Tab} {S : Scp} {X : Cx} {fa : Nat → Addr → Prop} {ec : Ecl} {b : Nat} {E : XK} {C : Cfg}
theorem sw_plain {v : Expr} {t : Option Expr} {l : Nat} {env : PySem.Env} (h : notComp v = true) : swapsWith v t l env = pure false := by
  cases v <;> first | rfl | (exact absurd h (by simp [notComp]))
theorem par_none {tx v : Expr} {env : PySem.Env} (h : notTuple v = true) : swappedStores [tx] v env = pure none := by
  cases v <;> first | (cases tx <;> rfl) | (exact absurd h (by simp [notTuple]))
theorem filter_lt {α β : Type} {f : α → Option β} : ∀ {l : List α}, (∃ x ∈ l, f x = none) → (l.filterMap f).length < l.length
  | [], ⟨_, h, _⟩ => by cases h
  | y :: l, ⟨x, h, e⟩ => by
    have le : (l.filterMap f).length ≤ l.length := List.length_filterMap_le f l
    cases q : f y with
    | none => rw [List.filterMap_cons_none q, List.length_cons]; omega
    | some z =>
      rw [List.filterMap_cons_some q, List.length_cons, List.length_cons]
      have : x ∈ l := (List.mem_cons.mp h).resolve_left fun z => by rw [z, q] at e; cases e
      have := filter_lt ⟨x, this, e⟩
      omega
theorem block_fn {env : PySem.Env} (h : env.scope.kind = .function) : env.blockKind = .function := by
  unfold Env.blockKind; rw [h]; rfl
theorem not1 {a : Bool} (h : (!a) = true) : a = false := by cases a <;> simp_all
def starB : Expr → Bool
  | .Starred _ _ => true
  | _ => false
def nmB (env : PySem.Env) (l : Nat) : Expr → Option Str
  | .Name id pos => if env.kindOf id == some .local && pos.line == l then some id else none
  | _ => none
theorem no_star {e : Expr} (h : notStar e = true) : starB e = false := by
  cases e <;> first | rfl | (exact absurd h (by simp [notStar]))
theorem swapped_some {ts vs : List Expr} {kt k2 : Nat} {pt p2 : Pos} {env : PySem.Env} {names : List Str} (h1 : (!(ts.length == 2 || ts.length == 3) || vs.length != ts.length || env.blockKind != .function) = false) (h2 : vs.any starB = false)
    (h3 : ts.filterMap (nmB env ((ts.head?.map (·.pos.line)).getD 0)) = names) (h4 : (names.length != ts.length || names.eraseDups.length != names.length) = false) (h5 : vs.all (foldedForSure 8) = false) (h6 : vs.all (constantsAlone 8) = false) :
    swappedStores [.Tuple ts kt pt] (.Tuple vs k2 p2) env = pure (some names) := by
  unfold swappedStores
  refine (if_neg (by rw [h1]; exact Bool.false_ne_true)).trans ?_
  refine (if_neg (fun z => ?_)).trans ?_
  · have z : vs.any starB = true := z
    rw [h2] at z; cases z
  refine (if_neg (fun z => ?_)).trans ?_
  · have z : ((ts.filterMap (nmB env ((ts.head?.map (·.pos.line)).getD 0))).length != ts.length || (ts.filterMap (nmB env ((ts.head?.map (·.pos.line)).getD 0))).eraseDups.length != (ts.filterMap (nmB env ((ts.head?.map (·.pos.line)).getD 0))).length) = true := z
    rw [h3, h4] at z; cases z
  refine (if_neg (by rw [h5]; exact Bool.false_ne_true)).trans ?_
  refine (if_neg (by rw [h6]; exact Bool.false_ne_true)).trans ?_
  show pure (some (ts.filterMap (nmB env ((ts.head?.map (·.pos.line)).getD 0)))) = _
  rw [h3]
theorem par_cell (h : XOkS T S X fa ec b E C) {tx v : Expr} (q : anyCell S tx v = true) : swappedStores [tx] v X.env = pure none := by
  unfold anyCell at q
  split at q
  · rename_i ts kt pt vs k2 p2
    obtain ⟨x, hx, hn⟩ := List.any_eq_true.mp q
    have z : ∀ l, nmB X.env l x = none := fun l => by
      cases x with
      | Name n p =>
        have hn' : locB S n = false := not1 hn
        show (if (X.env.kindOf n == some NameKind.local && p.line == l) = true then some n else none) = none
        rw [if_neg]
        intro c
        have c1 := (Bool.and_eq_true_iff.mp c).1
        have c2 : X.env.scope.names.lookup n = some .local := by simpa [Env.kindOf] using c1
        rw [h.sc] at c2
        unfold locB kOf at hn'
        rw [c2] at hn'
        cases hn'
      | _ => rfl
    have lt : ∀ l, (ts.filterMap (nmB X.env l)).length < ts.length := fun l => filter_lt ⟨x, hx, z l⟩
    unfold swappedStores
    by_cases c1 : (!(ts.length == 2 || ts.length == 3) || vs.length != ts.length || X.env.blockKind != .function) = true
    · exact if_pos c1
    · refine (if_neg c1).trans ?_
      by_cases c2 : (vs.any starB) = true
      · exact if_pos c2
      · refine (if_neg c2).trans (if_pos ?_)
        show ((ts.filterMap (nmB X.env ((ts.head?.map (·.pos.line)).getD 0))).length != ts.length || _) = true
        have := lt ((ts.head?.map (·.pos.line)).getD 0)
        rw [show ((ts.filterMap (nmB X.env ((ts.head?.map (·.pos.line)).getD 0))).length != ts.length) = true from bne_iff_ne.mpr (Nat.ne_of_lt this)]
        rfl
  · cases q
theorem nm_is {env : PySem.Env} {x : Str} {p : Pos} {l : Nat} (h : env.kindOf x = some .local) (hl : p.line = l) : nmB env l (.Name x p) = some x := by
  show (if (env.kindOf x == some NameKind.local && p.line == l) = true then some x else none) = some x
  rw [h, hl, if_pos (by simp)]
theorem ne_of {x y : Str} (h : (!(x == y)) = true) : x ≠ y := fun e => by rw [e] at h; simp at h
theorem par_two (h : XOkS T S X fa ec b E C) {x y : Str} {px py pt pos : Pos} {a c : Expr} {kt k2 : Nat} {p2 : Pos} (q : parB S x y px py pos a c = true) (sa : notStar a = true) (sc : notStar c = true) :
    swappedStores [.Tuple [.Name x px, .Name y py] kt pt] (.Tuple [a, c] k2 p2) X.env = pure (some [x, y]) := by
  obtain ⟨q, q6⟩ := and1 q
  obtain ⟨q, q5⟩ := and1 q
  obtain ⟨q, q4⟩ := and1 q
  obtain ⟨q, q3⟩ := and1 q
  obtain ⟨q1, q2⟩ := and1 q
  have hl := of_decide_eq_true q3
  refine swapped_some (by rw [block_fn h.kind]; rfl) (by simp only [List.any_cons, List.any_nil, no_star sa, no_star sc]; rfl) ?_ ?_ (not1 q5) (not1 q6)
  · show [Expr.Name x px, Expr.Name y py].filterMap (nmB X.env px.line) = _
    simp only [List.filterMap_cons, List.filterMap_nil, nm_is (h.loc q1) rfl, nm_is (h.loc q2) hl.symm]
  · have e1 : (y == x) = false := by
      rw [beq_eq_false_iff_ne]; exact fun e => ne_of q4 e.symm
    simp [List.eraseDups, List.eraseDupsBy, List.eraseDupsBy.loop, e1]
theorem par_three (h : XOkS T S X fa ec b E C) {x y z : Str} {px py pz pt pos : Pos} {a c d : Expr} {kt k2 : Nat} {p2 : Pos} (q : parB3 S x y z px py pz pos a c d = true) (sa : notStar a = true) (sc : notStar c = true) (sd : notStar d = true) :
    swappedStores [.Tuple [.Name x px, .Name y py, .Name z pz] kt pt] (.Tuple [a, c, d] k2 p2) X.env = pure (some [x, y, z]) := by
  obtain ⟨q, q10⟩ := and1 q
  obtain ⟨q, q9⟩ := and1 q
  obtain ⟨q, q8⟩ := and1 q
  obtain ⟨q, q7⟩ := and1 q
  obtain ⟨q, q6⟩ := and1 q
  obtain ⟨q, q5⟩ := and1 q
  obtain ⟨q, q4⟩ := and1 q
  obtain ⟨q, q3⟩ := and1 q
  obtain ⟨q1, q2⟩ := and1 q
  have hl := of_decide_eq_true q4
  have hl2 := of_decide_eq_true q5
  refine swapped_some (by rw [block_fn h.kind]; rfl) (by simp only [List.any_cons, List.any_nil, no_star sa, no_star sc, no_star sd]; rfl) ?_ ?_ (not1 q9) (not1 q10)
  · show [Expr.Name x px, Expr.Name y py, Expr.Name z pz].filterMap (nmB X.env px.line) = _
    simp only [List.filterMap_cons, List.filterMap_nil, nm_is (h.loc q1) rfl, nm_is (h.loc q2) hl.symm, nm_is (h.loc q3) hl2.symm]
  · have e1 : (y == x) = false := by
      rw [beq_eq_false_iff_ne]; exact fun e => ne_of q6 e.symm
    have e2 : (z == x) = false := by
      rw [beq_eq_false_iff_ne]; exact fun e => ne_of q7 e.symm
    have e3 : (z == y) = false := by
      rw [beq_eq_false_iff_ne]; exact fun e => ne_of q8 e.symm
    simp [List.eraseDups, List.eraseDupsBy, List.eraseDupsBy.loop, e1, e2, e3]
theorem lc_sw (h : XOkS T S X fa ec b E C) {x : Str} {p p2 : Pos} {elt : Expr} {gs : List Comprehension} {scope : Scope} {l : Nat} (q : lcB S x p scope p2 = true) : X.env.scope.names.lookup x = some .local ∧ swapsWith (.ListComp elt gs scope p2) (some (.Name x p)) l X.env = pure true := by
  obtain ⟨q, q3⟩ := and1 q
  obtain ⟨q1, q2⟩ := and1 q
  exact ⟨h.loc q1, sw_true h.kind (h.loc q1) q2 (not1 q3)⟩
theorem cons_eq (C : Cfg) (s : Ev.S) (ss : Ss) : (fun ρ => exSs C ρ (.cons s ss)) = fun ρ => M.thn (exS C ρ s) (flowK fun ρ => exSs C ρ ss) := by
  funext ρ
  rw [exSs]
  all_goals (congr 1)
theorem frz_eq (C : Cfg) (i : Nat) (ss : Ss) : (fun ρ => exSs C ρ (.cons (.freeze i) ss)) = fun ρ => M.thn (M.thn (getE ρ i) fun x => fun st => match x with
    | .ref l => match st[l]? with
      | some (.lst xs) => .ok (.next (ρ.set i (some (.lst xs)))) (st.set l .dead)
      | some (.dct ks vs) => .ok (.next (ρ.set i (some (.dct ks vs)))) (st.set l .dead)
      | _ => .bad
    | _ => .bad) (flowK fun ρ => exSs C ρ ss) := by
  rw [cons_eq]
  funext ρ
  rw [exS]
  all_goals rfl
theorem try_eq (C : Cfg) (i : Nat) (b : Ss) (hall : Nat) (cs : List (Nat × D)) (d : D) : (fun ρ => exS C ρ (.tryA i b hall cs d)) = fun ρ => fun st => match (fun ρ => exSs C ρ b) ρ st with
      | .exc c st' => (match C.exm c hall with
        | some true => (match catchD C.exm c cs d with
          | some d' => .ok (.ret d') st'
          | none => .bad)
        | some false => .exc c st'
        | none => .bad)
      | r => r := by
  funext ρ st
  rw [exS]
  all_goals rfl
theorem tup_one {tx : Expr} {env : PySem.Env} (h : isTuple tx = true) : (assignEach [tx] env).map (·.2) = [assign tx env] := by
  cases tx <;> first | rfl | (exact absurd h (by simp [isTuple]))
theorem asg_sub {o i : Expr} {p : Pos} {env : PySem.Env} {v : Value} (h : notSlice i = true) : assign (.Subscript o i p) env v = (do
      let ov ← holding [v] (eval o env)
      let iv ← holding [v, ov] (eval i env)
      standAt p
      holding [v, ov, iv] (setItem ov iv v)
      release [v, ov, iv] []) := by
  cases i <;> first | rfl | (exact absurd h (by simp [notSlice]))
theorem sole_plain {v t : Expr} {l : Nat} {env : PySem.Env} (h : notComp v = true) : swapsWithSole [t] v l env = pure false := sw_plain (t := some t) (l := l) (env := env) h
theorem sub_none {o i v : Expr} {p : Pos} {env : PySem.Env} : swappedStores [.Subscript o i p] v env = pure none := by
  cases v <;> rfl
theorem comp_ok {W : WX} (h : XOk T S X fa ec b W C) {own : List Nat} {elt : Ev.E} {tg : Tg} {it : It} {c : O} {el tx ix : Expr} {ifs : List Expr} {a : Int} {scope : Scope} {p : Pos} (q : chkN T S (.comp own elt tg it c) (.ListComp el [⟨tx, ix, ifs, a⟩] scope p) = true) (ex : List Addr) :
    a = 0 ∧ CompOk X ⟨X.K, fa, ec, ex⟩ b W el tx ix ifs scope (ownS X.N own) tg (fun ρ => evIt C ρ it) (fun ρ => evC C ρ c) (fun ρ => evE C ρ elt) := by
  simp only [chkN] at q
  obtain ⟨q, q8⟩ := and1 q
  obtain ⟨q, q7⟩ := and1 q
  obtain ⟨q, q6⟩ := and1 q
  obtain ⟨q, q5⟩ := and1 q
  obtain ⟨q, q4⟩ := and1 q
  obtain ⟨q, q3⟩ := and1 q
  obtain ⟨q1, q2⟩ := and1 q
  have ok := blkOk_by (by rw [← h.hN, ← h.sc] at q2; exact q2)
  exact ⟨of_decide_eq_true q1, snd_It h it _ _ q5 ex, ok, fun i hi => by rw [own_snd]; exact of_decide_eq_true (List.all_eq_true.mp q3 i hi), fun s H C cl fp ex' => snd_Tg (h.blk ok s H C cl fp) ex' tg _ q6, fun s H C cl fp ex' => snd_C (h.blk ok s H C cl fp) c _ q7 ex', fun s H C cl fp ex' => snd_E (h.blk ok s H C cl fp) elt _ q8 ex', folded q4 _⟩
theorem comp_ok2 {W : WX} (h : XOk T S X fa ec b W C) {own own1 : List Nat} {elt : Ev.E} {tg tg1 : Tg} {it it1 : It} {c c1 : O} {el tx ix tx1 ix1 : Expr} {ifs ifs1 : List Expr} {a a1 : Int} {scope : Scope} {p : Pos} (q : chkN T S (.comp2 own own1 elt tg it c tg1 it1 c1) (.ListComp el [⟨tx, ix, ifs, a⟩, ⟨tx1, ix1, ifs1, a1⟩] scope p) = true) (ex : List Addr) :
    a = 0 ∧ a1 = 0 ∧ CompOk2 X ⟨X.K, fa, ec, ex⟩ b W el tx ix ifs tx1 ix1 ifs1 scope (ownS X.N own) own1 tg tg1 (fun ρ => evIt C ρ it) (fun ρ => evC C ρ c) (fun ρ => evIt C ρ it1) (fun ρ => evC C ρ c1) (fun ρ => evE C ρ elt) := by
  simp only [chkN] at q
  obtain ⟨q, qE⟩ := and1 q
  obtain ⟨q, qC1⟩ := and1 q
  obtain ⟨q, qT1⟩ := and1 q
  obtain ⟨q, qI1⟩ := and1 q
  obtain ⟨q, qC⟩ := and1 q
  obtain ⟨q, qT⟩ := and1 q
  obtain ⟨q, qI⟩ := and1 q
  obtain ⟨q, qn1⟩ := and1 q
  obtain ⟨q, qn⟩ := and1 q
  obtain ⟨q, qs⟩ := and1 q
  obtain ⟨q, qv1⟩ := and1 q
  obtain ⟨q, qv⟩ := and1 q
  obtain ⟨q, qb⟩ := and1 q
  obtain ⟨q1, q2⟩ := and1 q
  have ok := blkOk_by (by rw [← h.hN, ← h.sc] at qb; exact qb)
  exact ⟨of_decide_eq_true q1, of_decide_eq_true q2, ⟨snd_It h it _ _ qI ex, ok, fun i hi => by rw [own_snd]; exact of_decide_eq_true (List.all_eq_true.mp qv i hi), fun s H C cl fp ex' => snd_Tg (h.blk ok s H C cl fp) ex' tg _ qT, fun s H C cl fp ex' => snd_C (h.blk ok s H C cl fp) c _ qC ex', fun s H C cl fp ex' => snd_E (h.blk ok s H C cl fp) elt _ qE ex', folded qn _⟩,
    fun i hi => of_decide_eq_true (List.all_eq_true.mp qv1 i hi), fun i hi => by rw [own_snd]; exact of_decide_eq_true (List.all_eq_true.mp qs i hi), fun s H C cl fp ex' => snd_It (h.blk ok s H C cl fp) it1 _ _ qI1 ex', fun s H C cl fp ex' => snd_Tg (h.blk ok s H C cl fp) ex' tg1 _ qT1, fun s H C cl fp ex' => snd_C (h.blk ok s H C cl fp) c1 _ qC1 ex', fun env => folded qn1 env⟩
/-- a comprehension, as a new list -/
theorem snd_lc (h : XOkS T S X fa ec b E C) {i : Nat} {x : Str} {p p2 pos : Pos} {el : Expr} {gs : List Comprehension} {scope : Scope} (n : N) (nf : List D → M D) (hi : X.N[i]? = some x) (q6 : lcB S x p scope p2 = true) (q : chkN T S n (.ListComp el gs scope p2) = true) (ex : List Addr)
    (hn : ∀ {f : Ev.Env → M (List D)} {σ H Q}, tE ⟨X.K, fa, ec, ex⟩ b (wE E) (fun ρ => M.thn (f ρ) nf) σ H Q → tN ⟨X.K, fa, ec, ex⟩ b (wE E) f σ H Q) :
    PS X (.Assign [.Name x p] (.ListComp el gs scope p2) pos) (tS ⟨X.K, fa, ec, ex⟩ b E fun ρ => M.thn (M.thn (evN C ρ n) nf) fun d => M.thn (M.ret (ρ.set i (some d))) fun ρ => M.ret (.next ρ)) := by
  obtain ⟨hx, hsw⟩ := lc_sw (gs := gs) (elt := el) (l := pos.line) h q6
  cases n with
  | lst es => simp [chkN] at q
  | listOf a =>
    simp only [chkN] at q
    cases q
  | rep n k =>
    simp only [chkN] at q
    cases q
  | cat a c =>
    simp only [chkN] at q
    cases q
  | comp own elt tg it c =>
    have q0 := q
    simp only [chkN] at q
    split at q
    · rename_i heq
      cases heq
      obtain ⟨rfl, ok⟩ := comp_ok h.toXOk q0 ex
      have key := ss_lc (pos := pos) h.calm h.nd ok hi hx hsw hn
      simp only [own_snd] at key
      simp only [evN]
      exact key
    · cases q
  | comp2 own own1 elt tg it c tg1 it1 c1 =>
    have q0 := q
    simp only [chkN] at q
    split at q
    · rename_i heq
      cases heq
      obtain ⟨rfl, rfl, ok⟩ := comp_ok2 h.toXOk q0 ex
      have key := ss_lc2 (pos := pos) h.calm h.nd ok hi hx hsw hn
      simp only [own_snd] at key
      simp only [evN]
      exact key
    · cases q
theorem chain_ok (h : XOkS T S X fa ec b E C) {x : Str} : ∀ (cs : List (Nat × D)) (d : D) (e : Expr), chkCh T S x cs d e = true → Chain X ec x cs d e
  | [], d, e, q => by
    simp only [chkCh] at q
    split at q
    · exact .last q
    · cases q
  | (n, d1) :: r, d, e, q => by
    simp only [chkCh] at q
    split at q
    · obtain ⟨q, q8⟩ := and1 q
      obtain ⟨q, q7⟩ := and1 q
      obtain ⟨q, q6⟩ := and1 q
      obtain ⟨q, q5⟩ := and1 q
      obtain ⟨q, q4⟩ := and1 q
      obtain ⟨q, q3⟩ := and1 q
      obtain ⟨q1, q2⟩ := and1 q
      have e1 := of_decide_eq_true q1
      have e3 := of_decide_eq_true q3
      subst e1; subst e3
      have g := bltB1 h.toXOk q2
      obtain ⟨Cls, bmB, B, newId, initId, F, f1, f2, f3, f4, f5⟩ := h.exc _ _ (of_decide_eq_true q6)
      exact .more g.1 g.2 (h.gl q4) f2 (okN_db q5) f5 q7 (chain_ok h r d _ q8)
    · cases q
theorem XOkS.tr {E' : XK} (h : XOkS T S X fa ec b E C) {pn : List (Addr × Obj)} {xe : Value → Shared → Prop} (tk : Takes (X.tr pn xe) (wE E')) (own : PassesOwn (model X.prog X.w) X.A X.env xe) : XOkS T S (X.tr pn xe) fa ec b E' C :=
  ⟨⟨h.calm, h.hu, h.hg, h.nd, h.hN, h.sc, h.st, tk, h.call, h.blt, h.con, h.exmE, h.wd, h.lamc⟩, h.kind, h.base, own, h.exc, h.stk, h.frm, h.exm, h.exC⟩
mutual
theorem snd_S {X : Cx} {E : XK} (h : XOkS T S X fa ec b E C) : ∀ (s : Ev.S) (x : Stmt), chkS T S s x = true → ∀ ex, PS X x (tS ⟨X.K, fa, ec, ex⟩ b E fun ρ => exS C ρ s)
  | .expr e, x, q, ex => by
    simp only [chkS] at q
    split at q
    · obtain ⟨q1, q2⟩ := and1 q
      simp only [exS]
      exact ss_expr (snd_E h.toXOk e _ q2 ex) (sw_plain q1)
    · cases q
  | .asg (.name i) e, x, q, ex => by
    simp only [chkS] at q
    split at q
    · obtain ⟨q, q4⟩ := and1 q
      obtain ⟨q, q3⟩ := and1 q
      obtain ⟨q1, q2⟩ := and1 q
      have hi := h.ix q1
      obtain ⟨l1, l2⟩ := h.st _ (of_decide_eq_true q2)
      simp only [exS, putT]
      split at q4
      · obtain ⟨q5, q6⟩ := and1 q4
        cases e with
        | new n =>
          simp only [chkE] at q3
          simp only [evE]
          exact snd_lc h n _ hi q6 q3 ex fun q => tN.new q
        | newm n =>
          simp only [chkE] at q3
          simp only [evE]
          exact snd_lc h n _ hi q6 q3 ex fun q => tN.newm q
        | _ => cases q5
      · exact ss_set h.nd hi l1 (snd_E h.toXOk e _ q3 ex) (sw_plain q4) l2
    · cases q
  | .asg (.tg t) e, x, q, ex => by
    simp only [chkS] at q
    split at q
    · obtain ⟨q, q5⟩ := and1 q
      obtain ⟨q, q4⟩ := and1 q
      obtain ⟨q, q3⟩ := and1 q
      obtain ⟨q1, q2⟩ := and1 q
      simp only [exS, putT]
      exact ss_asg (snd_E h.toXOk e _ q5 ex) (snd_Tg h.toXOk ex t _ q4) (sole_plain q3) ((Bool.or_eq_true_iff.mp q2).elim par_none (par_cell h)) (tup_one q1)
    · cases q
  | .asg (.idx o i) e, x, q, ex => by
    simp only [chkS] at q
    split at q
    · obtain ⟨q, q5⟩ := and1 q
      obtain ⟨q, q4⟩ := and1 q
      obtain ⟨q, q3⟩ := and1 q
      obtain ⟨q1, q2⟩ := and1 q
      simp only [exS, putT]
      exact ss_ix h.base (snd_E h.toXOk e _ q5 ex) (snd_E h.toXOk o _ q3 ex) (snd_E h.toXOk i _ q4 ex) (fun v => asg_sub q1) (sole_plain q2) sub_none rfl
    · cases q
  | .par ts es, x, q, ex => by
    simp only [chkS] at q
    split at q
    · split at q
      · obtain ⟨q, q7⟩ := and1 q
        obtain ⟨q, q6⟩ := and1 q
        obtain ⟨q, q5⟩ := and1 q
        obtain ⟨q, q4⟩ := and1 q
        obtain ⟨q, q3⟩ := and1 q
        obtain ⟨q1, q2⟩ := and1 q
        have hp := and1 (and1 (and1 (and1 (and1 q4).1).1).1).1
        simp only [exS]
        exact ss_par h.calm h.nd (h.ix q1) (h.ix q2) (of_decide_eq_true q3) (h.loc hp.1) (h.loc hp.2) (snd_Es h.toXOk es _ q7 ex) (par_two h q4 q5 q6) rfl
      · cases q
    · split at q
      · obtain ⟨q, q11⟩ := and1 q
        obtain ⟨q, q10⟩ := and1 q
        obtain ⟨q, q9⟩ := and1 q
        obtain ⟨q, q8⟩ := and1 q
        obtain ⟨q, q7⟩ := and1 q
        obtain ⟨q, q6⟩ := and1 q
        obtain ⟨q, q5⟩ := and1 q
        obtain ⟨q, q4⟩ := and1 q
        obtain ⟨q, q3⟩ := and1 q
        obtain ⟨q1, q2⟩ := and1 q
        have hp := and1 (and1 (and1 (and1 (and1 (and1 (and1 (and1 q7).1).1).1).1).1).1).1
        have hp2 := and1 hp.1
        simp only [exS]
        exact ss_par3 h.calm h.nd (h.ix q1) (h.ix q2) (h.ix q3) (of_decide_eq_true q4) (of_decide_eq_true q5) (of_decide_eq_true q6) (h.loc hp2.1) (h.loc hp2.2) (h.loc hp.2) (snd_Es h.toXOk es _ q11 ex) (par_three h q7 q8 q9 q10) rfl
      · cases q
    · cases q
  | .augn op i e, x, q, ex => by
    simp only [chkS] at q
    split at q
    · obtain ⟨q, q5⟩ := and1 q
      obtain ⟨q, q4⟩ := and1 q
      obtain ⟨q, q3⟩ := and1 q
      obtain ⟨q1, q2⟩ := and1 q
      have e1 := of_decide_eq_true q1
      subst e1
      obtain ⟨l1, l2⟩ := h.st _ (of_decide_eq_true q4)
      simp only [exS]
      exact ss_aug ((Bool.or_eq_true_iff.mp q2).elim (fun z => .inl (of_decide_eq_true z)) fun z => .inr (of_decide_eq_true z)) h.nd (h.ix q3) l1 (snd_E h.toXOk e _ q5 ex) l2
    · cases q
  | .app o e, x, q, ex => by
    simp only [chkS] at q
    split at q
    · obtain ⟨q, q6⟩ := and1 q
      obtain ⟨q, q5⟩ := and1 q
      obtain ⟨q, q4⟩ := and1 q
      obtain ⟨q, q3⟩ := and1 q
      obtain ⟨q1, q2⟩ := and1 q
      have e1 := of_decide_eq_true q1
      subst e1
      simp only [exS]
      exact ss_app rfl h.base (snd_E h.toXOk o _ q5 ex) (snd_E h.toXOk e _ q6 ex) (base_name q2) (by rw [star_one q4]; rfl) q3 (star_one q4) rfl
    · cases q
  | .ret e, x, q, ex => by
    simp only [chkS] at q
    split at q
    · simp only [exS]; exact ss_ret (snd_E h.toXOk e _ q ex)
    · cases q
  | .retN, x, q, ex => by
    simp only [chkS] at q
    split at q
    · simp only [exS]; exact ss_retN
    · cases q
  | .pass, x, q, ex => by
    simp only [chkS] at q
    split at q
    · simp only [exS]; exact ss_pass
    · cases q
  | .brk, x, q, ex => by
    simp only [chkS] at q
    split at q
    · simp only [exS]; exact ss_brk
    · cases q
  | .iff c a d, x, q, ex => by
    simp only [chkS] at q
    split at q
    · obtain ⟨q, q3⟩ := and1 q
      obtain ⟨q1, q2⟩ := and1 q
      simp only [exS]
      exact ss_if (snd_T h.toXOk c _ q1 ex).1 (snd_Ss h a _ q2 ex) (snd_Ss h d _ q3 ex)
    · cases q
  | .for t it d, x, q, ex => by
    simp only [chkS] at q
    split at q
    · obtain ⟨q, q4⟩ := and1 q
      obtain ⟨q, q3⟩ := and1 q
      obtain ⟨q1, q2⟩ := and1 q
      simp only [exS]
      exact ss_for h.own h.calm (snd_It h.toXOk it _ _ q3 ex) (snd_Tg h.toXOk ex t _ q2) (snd_Ss h d _ q4 ex) (folded q1 _)
    · cases q
  | .whl c d, x, q, ex => by
    simp only [chkS] at q
    split at q
    · obtain ⟨q1, q2⟩ := and1 q
      simp only [exS]
      exact ss_while h.own (snd_T h.toXOk c _ q1 ex).1 (snd_Ss h d _ q2 ex)
    · cases q
  | .raise c msg, x, q, ex => by
    simp only [chkS] at q
    split at q
    · obtain ⟨q, q3⟩ := and1 q
      obtain ⟨q1, q2⟩ := and1 q
      obtain ⟨Cls, bmB, B, newId, initId, F, e1, e2, e3, e4, e5⟩ := h.exc _ _ (of_decide_eq_true q1)
      simp only [exS]
      exact ss_raise h.calm h.tk F e1 e2 e3 e4 (h.gl q2) (okN_db q3) e5
    · cases q
  | .freeze i, x, q, ex => by simp [chkS] at q
  | .augl i e, x, q, ex => by
    simp only [chkS] at q
    split at q
    · obtain ⟨q, q3⟩ := and1 q
      obtain ⟨q1, q2⟩ := and1 q
      obtain ⟨l1, l2⟩ := h.st _ (of_decide_eq_true q2)
      simp only [exS]
      exact ss_augl h.base h.nd (h.ix q1) l1 (snd_E h.toXOk e _ q3 ex) l2
    · cases q
  | .tryA i d hall cs dd, x, q, ex => by
    simp only [chkS] at q
    split at q
    · obtain ⟨q, q8⟩ := and1 q
      obtain ⟨q, q7⟩ := and1 q
      obtain ⟨q, q6⟩ := and1 q
      obtain ⟨q, q5⟩ := and1 q
      obtain ⟨q, q4⟩ := and1 q
      obtain ⟨q, q3⟩ := and1 q
      obtain ⟨q1, q2⟩ := and1 q
      obtain ⟨Cls, bmB, B, newId, initId, F, f1, f2, f3, f4, f5⟩ := h.exc _ _ (of_decide_eq_true q6)
      have key := fun np p2 pos' pos => ss_tryA (G := ⟨X.K, fa, ec, ex⟩) (exm := C.exm) (np := np) (p2 := p2) (pos' := pos') (pos := pos) h.stk h.frm h.nd (h.ix q1) (h.loc q2) (okN_db q3) (okN_cd q3) h.tk (h.gl q4) f2 (okN_db q5) f5 (chain_ok h cs dd _ q7) (fun c k r Dc Dk z h1 h2 => h.exm c k r Dc Dk z h1 h2) (fun c Dc h1 => h.exC c Dc h1)
        (fun E' pn xe tk own => snd_Ss (h.tr tk own) d _ q8 ex)
      have e1 : (fun ρ => exS C ρ (.tryA i d hall cs dd)) = _ := try_eq C i d hall cs dd
      rw [e1]
      exact key _ _ _ _
    · cases q
theorem snd_Ss {X : Cx} {E : XK} (h : XOkS T S X fa ec b E C) : ∀ (s : Ss) (x : List Stmt), chkSs T S s x = true → ∀ ex, PSs X x (tS ⟨X.K, fa, ec, ex⟩ b E fun ρ => exSs C ρ s)
  | .nil, x, q, ex => by
    simp only [chkSs] at q
    cases x with
    | nil => simp only [exSs]; exact sss_nil
    | cons _ _ => cases q
  | .cons s ss, x, q, ex => by
    simp only [chkSs] at q
    rcases Bool.or_eq_true_iff.mp q with q | q
    · obtain ⟨q1, q2⟩ := and1 q
      cases s with
      | freeze i =>
        have key := sss_freeze (i := i) (snd_Ss h ss _ q2 ex)
        have e1 : (fun ρ => exSs C ρ (.cons (.freeze i) ss)) = _ := frz_eq C i ss
        rw [e1]
        exact key
      | _ => cases q1
    · split at q
      · obtain ⟨q1, q2⟩ := and1 q
        have key := sss_cons (snd_S h s _ q1 ex) (snd_Ss h ss _ q2 ex)
        rw [cons_eq C s ss]
        exact key
      · cases q
end
end
end Ev
set_option linter.all false
set_option maxRecDepth 100000
/-! Ev17: defs entered, the whole program. -/
namespace Ev
open PySem PySem.Spec PyProof.Rows L2
section
variable {Pr : Program} {w : World} {K : PySem.W.Frag} {mg : Str → Option Value} {base : Heap} {fa : Nat → Addr → Prop} {ec : Ecl} {gq : Bool}
theorem env_start {G : Gd} {H : Hp} {m : List Addr} {st : Store} {N : List Str} {vs : List V} {ds : List D} (r : RpAll G H m (Lv G m st) vs ds) : EnvR G H m st (L2.start N vs) (ds.map some ++ List.replicate (N.length - ds.length) none) := by
  have hl := r.length
  refine ⟨?_, fun i d q => ?_⟩
  · unfold L2.start
    simp [hl]
  · by_cases hi : i < ds.length
    · rw [List.getElem?_append_left (by rw [List.length_map]; exact hi), List.getElem?_map, List.getElem?_eq_getElem hi] at q
      obtain ⟨v, h1, h2⟩ := r.get (i := i) (d := d) (by rw [List.getElem?_eq_getElem hi]; simpa using q)
      refine ⟨v, ?_, h2⟩
      unfold L2.start
      rw [List.getElem?_append_left (by rw [List.length_map, hl]; exact hi), List.getElem?_map, h1]
      rfl
    · rw [List.getElem?_append_right (by rw [List.length_map]; omega), List.getElem?_replicate] at q
      split at q <;> cases q
/-- a def of the text, run by its body -/
theorem run_body {call' : Nat → List D → M D} {fuel k : Nat} {exm : Nat → Nat → Option Bool} {F : Fn} {a : Addr} {fd : FuncData} {x qual : Str} {params : Arguments} {body : List Stmt} {scope : Scope} {kws : List (Str × V)} (Fd : FunD K x qual params body scope [] kws a fd) (Sc : FnScope F.slots F.ps scope)
    (hbody : ∀ (cdv : Value) (A : Around) (outer : List PySem.Env) (s : Shared) (H : Hp) (E : XK) (b : Nat) (ex : List Addr), Room k (A.deeper (envOfC qual scope s.heap.objs.size a cdv)) → (gq = true → A.guards = some []) →
      (∃ (oc : Value) (od : Option Addr) (dV kV doc pm : Value) (an : Option Addr) (ct : Value) (osl : Array (Option Value)), K.lookup a = some ⟨oc, od, .func (PySem.W.fnOf x qual params body scope dV kV doc pm an cdv ct), osl⟩) →
      PSs (cxOf (L2.CX Pr w) Pr w K mg base F.slots qual scope a cdv A outer s H E) body (tS ⟨K, fa, ec, ex⟩ b E fun ρ => exSs ⟨call', b, fuel, exm⟩ ρ F.body)) :
    RunG Pr w K mg base fa ec gq (runF call' fuel exm F) (k + 1) a fd F.ps := by
  obtain ⟨oc, od, dV, kV, doc, pm, an, cdv, ct, osl, rfl, lk, hcd, _, _⟩ := Fd.ex
  intro A outer s H us vs Q E ex ds m st hr hgd e0 hb rv hl S rp hq
  have inK : K.In s.heap := e0.mod.kin.keeps fun c o e => (e0.bs c o e).1
  have noLim : s.heap.NoLimit := e0.mod.nolimit.keeps fun c o e => (e0.bs c o e).1
  have kinds : ∀ y ∈ F.ps.zip us, scope.names.lookup y.1 = some .local ∨ (scope.names.lookup y.1 = some .cell ∧ ((cellsFrom (s.heap.objs.size + 1) scope.names []).lookup y.1).isSome = true) := by
    rintro ⟨n, v⟩ hy
    exact (Sc.par n (List.of_mem_zip hy).1).elim .inl fun z => .inr ⟨z, PySem.W.cellsFrom_some _ _ _ (.inl z)⟩
  refine codeAny_call_function hr.depth (inK _ _ lk) rfl Sc.co Sc.gen rfl (PySem.W.codeRec_of inK hcd) (hb _ _ _ _ ?_)
  refine wpAny_newFunctionEnv_cells Sc.kind kinds fun env he s1 xx => ?_
  subst he
  refine ⟨noLim.keeps xx.toInCall.keep, codeAny_func ?_⟩
  have I := inv_start (CX := L2.CX Pr w) (N := F.slots) (E := E) Sc hr.hd e0 (rv.length.trans hl) rv xx
  have hp := hbody cdv A outer s H E st.length ex (hr.deeper _) hgd ⟨oc, od, dV, kV, doc, pm, an, ct, osl, lk⟩
  have hlen : ds.length = F.ps.length := by rw [← rp.length, rv.length, hl]
  have hq' : tS ⟨K, fa, ec, ex⟩ st.length E (fun ρ => exSs ⟨call', st.length, fuel, exm⟩ ρ F.body) { nx := fun _ H' => Q .non H', rt := Q } (L2.start F.slots vs) H := by
    refine ⟨_, m, st, env_start rp, S, ?_⟩
    simp only [runF, if_pos hlen] at hq
    show After _ _ _ _ _ _ _ (exSs ⟨call', st.length, fuel, exm⟩ (ds.map some ++ List.replicate (F.slots.length - ds.length) none) F.body st)
    cases q : exSs ⟨call', st.length, fuel, exm⟩ (ds.map some ++ List.replicate (F.slots.length - ds.length) none) F.body st with
    | bad => rw [q] at hq; exact hq.elim
    | exc c st' =>
      rw [q] at hq
      intro H' m' S' E'
      obtain ⟨S2, E2, _⟩ := S.cut S' E'
      exact hq H' _ S2 E2
    | ok fl st' =>
      rw [q] at hq
      intro H' m' S' E'
      cases fl with
      | brk ρ => exact hq.elim
      | next ρ =>
        intro σ er
        obtain ⟨m2, st2, d2, h1, h2⟩ := leave_ok (v := .non) S hq S' E' .non
        exact h1 _ h2
      | ret d =>
        intro v r
        obtain ⟨m2, st2, d2, h1, h2⟩ := leave_ok S hq S' E' r
        exact h1 _ h2
  refine wpAny_mono (hp.run [] s1 _ H _ I hq') (fun fl s' hs => ?_) fun e s' hs => hs
  cases fl with
  | ret u =>
    obtain ⟨v, σ', H', J, ru, q⟩ := hs
    exact ⟨v, H', J.os, J.bare, J.base, J.hok, ru, q⟩
  | next =>
    obtain ⟨σ', H', J, q⟩ := hs
    exact ⟨V.non, H', J.os, J.bare, J.base, J.hok, rfl, q⟩
  | brk => obtain ⟨_, _, _, q⟩ := hs; exact q.elim
  | cont => obtain ⟨_, _, _, q⟩ := hs; exact q.elim
end
/-- what may be stored to in a def -/
def stOf (sc : Scope) : List Str := (sc.names.filter fun y => decide (sc.names.lookup y.1 = some .local) || decide (sc.names.lookup y.1 = some .cell)).map (·.1)
/-- plain parameters -/
def parsB (p : Arguments) (ps : List Str) : Bool := p.posonlyargs.isEmpty && p.vararg.isNone && p.kwonlyargs.isEmpty && p.kwarg.isNone && p.defaults.isEmpty
def chkF (T : Tab) (F : Fn) (d : He.DefD) : Bool := decide (d.name = F.name) && C8.scC F.slots F.ps d.scope && (!decide (F.name ∈ T.lams) || decide (d.qual = F.name)) && chkSs T ⟨F.slots, d.scope, stOf d.scope, decide (F.name ∈ T.lams)⟩ F.body d.body
theorem st_of {sc : Scope} {x : Str} (h : x ∈ stOf sc) : Loc sc x := by
  obtain ⟨y, hy, rfl⟩ := List.mem_map.mp h
  have := (List.mem_filter.mp hy).2
  exact (Bool.or_eq_true_iff.mp this).elim (fun z => .inl (of_decide_eq_true z)) fun z => .inr (of_decide_eq_true z)
/-- what is known of the text as it stands behind the top -/
structure Head (T : Tab) (Pr : Program) (w : World) (K : PySem.W.Frag) (mg : Str → Option Value) (base : Heap) (fa : Nat → Addr → Prop) (ec : Ecl) : Prop where
  fn : ∀ f F, T.P.find f = some F → ∃ (d : He.DefD) (a : Addr) (fd : FuncData), chkF T F d = true ∧ mg F.name = some (.ref a) ∧ fa f a ∧ FunD K d.name d.qual d.params d.body d.scope [] [] a fd ∧ Binds K fd F.ps []
  blt : ∀ x ∈ T.bl, mg x = none
  con : ∀ p ∈ T.consts, ∃ u v, mg p.1 = some u ∧ RelV v u ∧ ∀ ex H m L, Rp ⟨K, fa, ec, ex⟩ H m L v p.2
  exc : ∀ n c, (n, c) ∈ T.excs → ∃ (Cls : Addr) (bmB : List Value) (B newId initId : String), ExcBaseFacts B newId initId bmB ∧ PySem.W.excIn K Cls bmB newId = true ∧ mg n = some (.ref Cls) ∧ PySem.W.keepIn K (.ref Cls) = true ∧ (∀ X : Cx, X.K = K → X.mg = mg → X.base = base → Raises X (.ref Cls)) ∧ ec c Cls
  exm : ∀ c k r Dc Dk, T.exmF c k = some r → ec c Dc → ec k Dk → PySem.W.exmOne K (.ref Dc) (.ref Dk) = some r ∧ PySem.W.kitOne K (.ref Dc) (.ref Dk) = some r
  exC : ∀ c Dc, ec c Dc → ExcC K Dc
  wd : ∀ w ∈ T.words, WordG K mg ec w
  lams : ∀ n ∈ T.lams, ∃ c P, (∀ (a : Addr) (oc : Value) (od : Option Addr) (x q : Str) (p : Arguments) (bd : List Stmt) (sc : Scope) (dV kV doc pm : Value) (an : Option Addr) (cdv ct : Value) (osl : Array (Option Value)),
      mg n = some (.ref a) → K.lookup a = some ⟨oc, od, .func (PySem.W.fnOf x q p bd sc dV kV doc pm an cdv ct), osl⟩ → cdv = .ref c) ∧
    (P, n ++ ".<locals>." ++ "<lambda>") ∈ ec.tb ∧ (∀ p ∈ ec.tb, p.1 = P → p.2 = n ++ ".<locals>." ++ "<lambda>") ∧ LamX.TabB base mg c P
theorem calls {T : Tab} {Pr : Program} {w : World} {K : PySem.W.Frag} {mg : Str → Option Value} {base : Heap} {fa : Nat → Addr → Prop} {ec : Ecl} {fuel : Nat} (h : Head T Pr w K mg base fa ec) :
    ∀ (n f : Nat) (F : Fn), T.P.find f = some F → CallG Pr w K mg base fa ec T.rp (callN T.P fuel T.exmF n) (3 * n) f F
  | 0, f, F, hf => by
    obtain ⟨d, a, fd, hc, hm, ha, Fd, bi⟩ := h.fn f F hf
    refine ⟨⟨a, fd, hm, ha, Fd.kp, bi, ?_⟩, fun ds st q => absurd rfl q⟩
    intro A outer s H us vs Q E ex ds m st hr hgd e0 hb rv hl S rp hq
    exact hq.elim
  | n + 1, f, F, hf => by
    obtain ⟨d, a, fd, hc, hm, ha, Fd, bi⟩ := h.fn f F hf
    have e1 : callN T.P fuel T.exmF (n + 1) f = runF (callN T.P fuel T.exmF n) fuel T.exmF F := by
      funext ds
      simp only [callN, hf]
    refine ⟨⟨a, fd, hm, ha, Fd.kp, bi, ?_⟩, fun ds st q => ?_⟩
    · rw [e1]
      obtain ⟨hc, c3⟩ := and1 hc
      obtain ⟨hc, c4⟩ := and1 hc
      obtain ⟨c1, c2⟩ := and1 hc
      refine run_body (k := 3 * n + 2) Fd (C8.fnScope_by c2) fun cdv A outer s H E b ex hr hgd hlk => ?_
      refine snd_Ss (T := T) (S := ⟨F.slots, d.scope, stOf d.scope, decide (F.name ∈ T.lams)⟩) (fa := fa) (ec := ec) (C := ⟨callN T.P fuel T.exmF n, b, fuel, T.exmF⟩) ⟨⟨rfl, ?_, hgd, (C8.fnScope_by c2).nd, rfl, rfl, fun x hx => ⟨st_of hx, .inl rfl⟩, ?_, ⟨3 * n, hr.mono (by split <;> omega), fun f F hf => calls h n f F hf⟩, h.blt, h.con, fun c k r Dc Dk e1 e2 e3 => (h.exm c k r Dc Dk e1 e2 e3).1, h.wd, fun hl => ?_⟩, (C8.fnScope_by c2).kind, rfl, ?_, fun nm c hx => ?_, rfl, rfl, h.exm, h.exC⟩ F.body d.body c3 ex
      · have := hr.un
        show (A.deeper _).units + 66 < cLine
        omega
      · exact takes_of rfl rfl rfl rfl
      · have hl' : F.name ∈ T.lams := of_decide_eq_true hl
        have eq : d.qual = F.name := by
          have hl2 : decide (F.name ∈ T.lams) = true := hl
          rw [hl2] at c4
          exact of_decide_eq_true (by simpa using c4)
        obtain ⟨c, P, k1, k2, k3, k4⟩ := h.lams F.name hl'
        obtain ⟨oc, od, dV, kV, doc, pm, an, ct, osl, lk⟩ := hlk
        refine ⟨c, P, k1 a oc od _ _ _ _ _ dV kV doc pm an cdv ct osl hm lk, ?_, ?_, k4⟩
        · show (P, (d.qual ++ ".<locals>.") ++ "<lambda>") ∈ ec.tb
          rw [eq]; exact k2
        · show ∀ p ∈ ec.tb, p.1 = P → p.2 = (d.qual ++ ".<locals>.") ++ "<lambda>"
          rw [eq]; exact k3
      · exact passes_of rfl
      · obtain ⟨Cls, bmB, B, newId, initId, g1, g2, g3, g4, g5, g6⟩ := h.exc nm c hx
        exact ⟨Cls, bmB, B, newId, initId, g1, g2, g3, g4, g5 _ rfl rfl rfl, g6⟩
    · rw [e1] at q
      simp only [runF] at q
      by_cases hl : ds.length = F.ps.length
      · exact hl
      · rw [if_neg hl] at q; exact absurd rfl q
end Ev
set_option linter.all false
set_option maxRecDepth 100000
/-! Ev18: the law's def called by the claim, tables of code objects standing empty. -/
namespace Ev
open PySem PySem.Spec PyProof.Rows L2 LamX
/-- the promise of the claim's call -/
abbrev Kept (s₁ : Shared) : Result → Shared → Prop := fun r s' => r = .ok (.ret (.bool true)) ∧ OldK s₁.heap s'.heap ∧ s'.os = s₁.os ∧ AllBare s'.gens
theorem claim_call {P : Program} {w : World} {K : PySem.W.Frag} {mg mb : Str → Option Value} {fa : Nat → Addr → Prop} {ec : Ecl} {gq : Bool} {call : Nat → List D → M D} {k f : Nat} {F : Fn} {fl a : Addr} {x : Str} {cs : List (Addr × Addr)} {s₁ : Shared} {vs : List Value} {ns : List Int}
    (KX : K.In s₁.heap) (hns : s₁.heap.Ns mainGlobals mg) (hb : s₁.heap.Ns builtinsNs mb) (hbb : ∀ x : Str, x ≠ "__name__" → mb x = bootBuiltins x) (hlim : s₁.heap.NoLimit) (hg : s₁.gens = #[])
    (hT : ∀ p ∈ cs, s₁.heap.get? p.2 = some { cls := .none, data := .fields #[] }) (nT : ∀ p ∈ cs, K.lookup p.2 = none) (C : ∀ p ∈ cs, PySem.W.CodeHd s₁.heap p.1 p.2)
    (hbm : ∃ (bm : Addr) (ob : Obj), mg "__builtins__" = some (.ref bm) ∧ bm ≠ builtinsNs ∧ s₁.heap.get? bm = some ob ∧ ob.cls = .type "module" ∧ ob.dict = some builtinsNs ∧ ob.data = .plain)
    (htb : ∀ p ∈ ec.tb, p.1 ∈ cs.map (·.2))
    (ha : s₁.heap.get? a = some { cls := .type "list", data := .seq vs.toArray }) (hi : IntsAre vs ns) (hl : ns.length ≤ sizeLine) (hr : Room k callerA)
    (cg : ∀ base : Heap, K.In base → base.Ns mainGlobals mg → (∀ p ∈ cs, TabB base mg p.1 p.2) → CallG P w K mg base fa ec gq call k f F) (hps : F.ps = [x]) (hfl : mg F.name = some (.ref fl))
    (law : call f [.lst (ns.map .int)] [] = .ok (.bl true) []) :
    codeAny (model P w) callerA (.call (.ref fl) ⟨[.ref a], []⟩) (Kept s₁) s₁ := by
  have rv := vals_ints hi
  have lenV := hi.length
  have isT : ∀ b : Addr, b ∈ cs.map (·.2) → s₁.heap.get? b = some { cls := .none, data := .fields #[] } := fun b hb => by
    obtain ⟨p, hp, e⟩ := List.mem_map.mp hb
    rw [← e]
    exact hT p hp
  have aT : a ∉ cs.map (·.2) := fun z => by
    have q := isT a z
    rw [ha] at q
    have z' : Data.seq vs.toArray _ = Data.fields #[] := congrArg Obj.data (Option.some.inj q)
    cases z'
  have memT : ∀ p ∈ cs, p.2 ∈ cs.map (·.2) := fun p hp => List.mem_map.mpr ⟨p, hp, rfl⟩
  -- from an abstract heap in which nothing but the script and the tables may be tracked
  have core : ∀ H : Hp, (∀ p ∈ cs, H p.2 = some (.tbl #[])) → (∀ b, H b = none ∨ b ∈ cs.map (·.2) ∨ ∃ o xs, H b = some (.frz o (.lst xs))) → SqL K H a (ns.map V.int) → HOk P w H s₁.heap → (∀ b, H b ≠ none → b = a ∨ b ∈ cs.map (·.2)) → (H a ≠ none → K.lookup a = none) →
      codeAny (model P w) callerA (.call (.ref fl) ⟨[.ref a], []⟩) (Kept s₁) s₁ := by
    intro H hH hO hS hok hA hK
    have base_of : ∀ {b : Addr} {o : Obj}, s₁.heap.get? b = some o → H b = none → (hidT s₁.heap H).get? b = some o := fun e n => hidT_get e n
    have noD : ∀ {b : Addr} {o : Obj}, s₁.heap.get? b = some o → (∀ vs n, o.data ≠ .seq vs n) → o.data ≠ .fields #[] → H b = none := fun {b o} e h1 h2 => by
      cases q : H b with
      | none => rfl
      | some u =>
        rcases hA b (by rw [q]; simp) with e' | e'
        · rw [e', ha] at e
          cases e
          exact (h1 _ _ rfl).elim
        · rw [isT b e'] at e
          cases e
          exact (h2 rfl).elim
    have noA : ∀ {b : Addr} {o : Obj} {es : Array DictEntry} {ep : Nat}, s₁.heap.get? b = some o → o.data = .dict es ep → H b = none := fun {b o es ep} e d => by
      refine noD e (fun vs n z => ?_) fun z => ?_
      · rw [d] at z
        cases z
      · rw [d] at z
        cases z
    have nsK : ∀ {b : Addr} {m : Str → Option Value}, s₁.heap.Ns b m → (hidT s₁.heap H).Ns b m := fun {b m} ⟨o, es, ep, e, d, r⟩ => ⟨o, es, ep, base_of e (noA e d), d, r⟩
    have hKb : K.In (hidT s₁.heap H) := fun b o e => base_of (KX b o e) (by
      cases q : H b with
      | none => rfl
      | some u =>
        rcases hA b (by rw [q]; simp) with e' | e'
        · rw [e'] at e q
          rw [hK (by rw [q]; simp)] at e
          cases e
        · obtain ⟨p, hp, ep⟩ := List.mem_map.mp e'
          rw [← ep, nT p hp] at e
          cases e)
    have hM : L2.Mod K mg (hidT s₁.heap H) := ⟨hKb, nsK hns, ⟨mb, nsK hb, hbb⟩, let ⟨mc, h1, h2⟩ := hlim; ⟨mc, nsK h1, h2⟩⟩
    have TB : ∀ p ∈ cs, TabB (hidT s₁.heap H) mg p.1 p.2 := fun p hp => by
      have hTp := hT p hp
      refine ⟨?_, ?_, fun z => ?_⟩
      · obtain ⟨o, us, file, tf, flags, tg, inF, text, tt, e1, r1, r2, r3, r4, r5, r6, r7, r8, hne⟩ := C p hp
        refine ⟨o, us, file, tf, flags, tg, inF, text, tt, base_of e1 (noD e1 (fun vs n z => ?_) fun z => ?_), r1, r2, r3, r4, r5, r6, r7, r8, hne⟩
        · rw [r2] at z
          cases z
        · rw [r2] at z
          cases z
          simp at r3
      · obtain ⟨bm, ob, b1, b2, b3, b4, b5, b6⟩ := hbm
        have nG : bm ≠ mainGlobals := fun q => by
          obtain ⟨o, es, ep, e, hd, _⟩ := hns
          rw [q, e] at b3
          cases b3
          rw [hd] at b6
          cases b6
        have nP : bm ≠ p.2 := fun q => by
          rw [q, hTp] at b3
          cases b3
          cases b6
        refine ⟨bm, ob, b1, b2, nG, nP, base_of b3 (noD b3 (fun vs n z => ?_) fun z => ?_), b4, b5, b6⟩
        · rw [b6] at z
          cases z
        · rw [b6] at z
          cases z
      · obtain ⟨o, es, ep, e, hd, _⟩ := hns
        rw [z, hTp] at e
        cases e
        cases hd
    have e0 : Env0 P w K mg (hidT s₁.heap H) callerA [] s₁ H := ⟨rfl, hM, fun b o e => of_hidT e, Nat.le_of_eq (hidT_size _ _), trivial, fun b hb => absurd (show b ∈ ([] : List Addr) from hb) (by simp), hok, .of_eq hg⟩
    have none_in : ∀ b : Addr, b ∉ ([] : List Addr) := fun b => by simp
    have tabs : LamX.Tabs ec.tb H := fun p hp => by
      obtain ⟨q, hq, e⟩ := List.mem_map.mp (htb p hp)
      exact LamX.TabS.nil (by rw [← e]; exact hH q hq)
    have S : Sim ⟨K, fa, ec, []⟩ H [] [] := ⟨rfl, List.nodup_nil, fun a h => (none_in a h).elim, fun l c a h => by simp at h, fun a h => (none_in a h).elim, fun a h => h.elim (fun h => (none_in a h).elim) fun h => (none_in a h).elim, tabs⟩
    have nolv : ¬ Lv ⟨K, fa, ec, []⟩ [] [] a := fun h => by
      rcases h with ⟨l, xs, h, _⟩ | h
      · simp at h
      · exact (none_in a h).elim
    have asInts : ∀ l : List Int, RpAll ⟨K, fa, ec, []⟩ H [] (Lv ⟨K, fa, ec, []⟩ [] []) (l.map V.int) (l.map D.int) := fun l => by
      induction l with
      | nil => exact .nil
      | cons i l ih => exact .cons (.int i) ih
    have sq : SqLF K H (Lv ⟨K, fa, ec, []⟩ [] []) a (ns.map V.int) := by
      rcases hS with q | q
      · refine .inl ⟨⟨?_, nolv⟩, .inl q⟩
        rcases q with q | ⟨o, q⟩
        · exact ⟨_, q, fun ps z => by cases z⟩
        · exact ⟨_, q, fun ps z => by cases z⟩
      · exact .inr fun H' => .inr q
    have rp : RpAll ⟨K, fa, ec, []⟩ H [] (Lv ⟨K, fa, ec, []⟩ [] []) [.ref a] [.lst (ns.map .int)] := .cons (.lst sq (asInts ns)) .nil
    obtain ⟨fl', fd, e1, _, _, bi, run1⟩ := (cg _ hKb (nsK hns) TB).there
    rw [hfl] at e1
    cases e1
    have bd : BindsTo s₁ fd ⟨[.ref a], []⟩ (F.ps.zip [.ref a]) := by
      have := bi s₁ [.ref a] KX (by rw [hps]; rfl)
      simpa using this
    refine codeAny_mono (run1 callerA [] s₁ H [.ref a] [.ref a] (fun v _ => v = .bl true) (fun _ _ _ => False) [] [.lst (ns.map .int)] [] [] hr (fun _ => rfl) e0 bd (.cons rfl .nil) (by rw [hps]; rfl) S rp (by
      rw [law]
      intro H' m' S' E' v r
      cases r
      rfl)) fun r s' h => ?_
    cases r with
    | error e =>
      obtain ⟨_, _, _, _, _, _, _, _, _, _, _, _, z⟩ := h
      exact z.elim
    | ok fl =>
      cases fl with
      | next => exact False.elim h
      | brk => exact False.elim h
      | cont => exact False.elim h
      | ret u =>
        obtain ⟨v, H', os, bare, un, hok', r', q⟩ := h
        have q' : v = .bl true := q
        subst q'
        obtain rfl : u = Value.bool true := r'
        have key : ∀ b o, b ∉ cs.map (·.2) → s₁.heap.get? b = some o → s'.heap.get? b = some o := fun b o nb e => by
          cases q : H b with
          | none => exact un.keep b o e q (by intro z; exact absurd (show b ∈ ([] : List Addr) from z) (by simp)) (by simp)
          | some u =>
            rcases hO b with z | z | ⟨ob, xs, z⟩
            · rw [q] at z; cases z
            · exact absurd z nb
            · have z2 := un.frzs b ob _ z
              obtain ⟨e1, _⟩ := hok b _ z
              obtain ⟨e2, _⟩ := hok' b _ z2
              rw [e] at e1; cases e1
              exact e2
        have grown : ∀ p ∈ cs, ∃ more : Array Value, s'.heap.get? p.2 = some { cls := .none, data := .fields more } := fun p hp => by
          obtain ⟨more, z⟩ := un.tbls p.2 #[] (hH p hp)
          exact ⟨_, hok' p.2 _ z⟩
        refine ⟨rfl, ⟨fun b o e => ?_, fun b o e => ?_⟩, os, bare⟩
        · by_cases hb : b ∈ cs.map (·.2)
          · obtain ⟨p, hp, ep⟩ := List.mem_map.mp hb
            obtain ⟨more, hm⟩ := grown p hp
            rw [← ep] at e ⊢
            rw [hT p hp] at e
            cases e
            exact .inr (.inl ⟨((C p hp).tab (hT p hp)).isCodeTable, rfl, #[], more, rfl, by rw [Array.empty_append]; exact hm⟩)
          · exact .inl (key b o hb e)
        · by_cases hb : b ∈ cs.map (·.2)
          · obtain ⟨p, hp, ep⟩ := List.mem_map.mp hb
            obtain ⟨more, hm⟩ := grown p hp
            rw [← ep]
            exact ⟨_, hm⟩
          · exact ⟨o, key b o hb e⟩
  cases hk : K.lookup a with
  | some o =>
    have e := KX a o hk
    rw [ha] at e
    cases e
    refine core (fun b => if b ∈ cs.map (·.2) then some (.tbl #[]) else none) (fun p hp => if_pos (memT p hp)) (fun b => ?_) (.inr ⟨_, vs.toArray, _, hk, rfl, rfl, rfl, by rw [List.size_toArray, lenV]; exact hl, by simpa using rv⟩) (fun b u z => ?_) (fun b z => ?_) fun z => absurd (show (if a ∈ cs.map (·.2) then some (HO.tbl #[]) else none) = none from if_neg aT) z
    · by_cases hb : b ∈ cs.map (·.2)
      · exact .inr (.inl hb)
      · exact .inl (if_neg hb)
    · by_cases hb : b ∈ cs.map (·.2)
      · have z' := (if_pos hb).symm.trans z
        cases z'
        exact isT b hb
      · have z' := (if_neg hb).symm.trans z
        cases z'
    · by_cases hb : b ∈ cs.map (·.2)
      · exact .inr hb
      · exact absurd (if_neg hb) z
  | none =>
    refine core (fun b => if b = a then some (.frz { cls := .type "list", data := .seq vs.toArray } (.lst (ns.map V.int))) else if b ∈ cs.map (·.2) then some (.tbl #[]) else none) (fun p hp => (if_neg (show ¬ p.2 = a from fun z => aT (by rw [← z]; exact memT p hp))).trans (if_pos (memT p hp))) (fun b => ?_)
      (.inl (.inr ⟨{ cls := .type "list", data := .seq vs.toArray }, if_pos rfl⟩)) (fun b u z => ?_) (fun b z => ?_) fun _ => hk
    · by_cases hb : b = a
      · exact .inr (.inr ⟨_, _, if_pos hb⟩)
      · by_cases hb2 : b ∈ cs.map (·.2)
        · exact .inr (.inl hb2)
        · exact .inl ((if_neg hb).trans (if_neg hb2))
    · by_cases hb : b = a
      · have z' := (if_pos hb).symm.trans z
        cases z'
        rw [hb]
        exact ⟨ha, by rw [List.length_map]; exact hl, vs, _, rv, ha⟩
      · have z1 := (if_neg hb).symm.trans z
        by_cases hb2 : b ∈ cs.map (·.2)
        · have z' := (if_pos hb2).symm.trans z1
          cases z'
          exact isT b hb2
        · have z' := (if_neg hb2).symm.trans z1
          cases z'
    · by_cases hb : b = a
      · exact .inl hb
      · by_cases hb2 : b ∈ cs.map (·.2)
        · exact .inr hb2
        · exact absurd ((if_neg hb).trans (if_neg hb2)) z
/-- what is known of the law's promise at the head's heap h -/
def LawAtS (l : PySem.W.OpenLaw) (w : World) (K : PySem.W.Frag) (CX : CXT) (k n : Nat) (x : Str) (mg : Str → Option Value) (fa : Addr) (h : Heap) : Prop :=
  ∃ (fd : FuncData) (cs : List (Addr × Addr)) (sp : Sp), (∀ p ∈ cs, h.get? p.2 = some { cls := .none, data := .fields #[] }) ∧ (∀ p ∈ cs, K.lookup p.2 = none) ∧ (∀ p ∈ cs, PySem.W.CodeHd h p.1 p.2) ∧ (∀ (s : Shared) (u : Value), BindsTo s fd ⟨[u], []⟩ [(x, u)]) ∧
    (∀ (H : Hp) (a : Addr) (ns : List Int), ns.length ≤ n → (∀ z ∈ ns, Builtin.Int.intBits z ≤ 1048576) → (∀ p ∈ cs, H p.2 = some (.tbl #[])) → SqL K H a (ns.map V.int) → sp [.ref a] H (fun v _ => v = .bl true) fun _ _ _ => False) ∧
    ∀ base : Heap, K.In base → base.Ns mainGlobals mg → (∀ p ∈ cs, TabB base mg p.1 p.2) → FnOk l.prog w K mg base CX k fa fd [x] sp
/-- a law, by the small language -/
theorem claim_holds {l : PySem.W.OpenLaw} {n k f : Nat} {F : Fn} {q : Program} {loose : List Str} {XP : (Str → Option Value) → Heap → Prop} {YP : World → Heap → Prop} {d : DefRec} {x : Str} {gq : Bool} {call : Nat → List D → M D}
    (hn : l.most = some n) (hn2 : n ≤ sizeLine) (hdf : d.params.defaults = []) (hr : Room k callerA) (hps : F.ps = [x]) (hnm : d.name = F.name) (law : ∀ ns : List Int, ns.length ≤ n → call f [.lst (ns.map .int)] [] = .ok (.bl true) [])
    (H : ∀ (w : World) (mg : Str → Option Value) (h : Heap), YP w h → h.Ns mainGlobals mg → ∃ (K : PySem.W.Frag) (fa : Nat → Addr → Prop) (ec : Ecl) (cs : List (Addr × Addr)), K.In h ∧ (∀ p ∈ cs, ∃ x d, (recsOf q).find? (fun e => e.name == x) = some d ∧ PySem.W.tabIn K x = some p) ∧ (∀ p ∈ cs, K.lookup p.2 = none) ∧ (∀ p ∈ ec.tb, p.1 ∈ cs.map (·.2)) ∧ ∀ base : Heap, K.In base → base.Ns mainGlobals mg → (∀ p ∈ cs, TabB base mg p.1 p.2) → CallG l.prog w K mg base fa ec gq call k f F) :
    PySem.W.WalkO q loose XP YP l.row.toRowW d [] (fun f vs => PySem.call f vs) := by
  refine Att.attach_call hn hdf fun w s₀ s₁ mg mb fl o pm cd doc a vs ns G Y ho hd hcd hmg hobj hints hlen hg => ?_
  obtain ⟨K, fa, ec, cs, inK, hcs, nT, htb, cg⟩ := H w mg _ Y G.T.g
  have tab : ∀ p ∈ cs, PySem.W.CodeHd _ p.1 p.2 ∧ _ := fun p hp => by
    obtain ⟨x, d, h1, h2⟩ := hcs p hp
    exact PySem.W.tab_of G.T inK h1 h2
  exact claim_call inK G.T.g G.T.b G.T.builtins G.T.nolimit hg (fun p hp => (tab p hp).2) nT (fun p hp => (tab p hp).1) G.T.bmain htb hobj hints (Nat.le_trans hlen hn2) hr cg hps (by rw [← hnm]; exact hmg) (law ns hlen)
end Ev
set_option linter.all false
set_option maxRecDepth 100000
/-! Ev19: what the head tells, for the small language. -/
namespace Ev
open PySem PySem.Spec PyProof.Rows L2
abbrev Frg := PySem.W.Frag
mutual
/-- a constant of the module is d -/
def constK (K : Frg) : D → Value → Bool
  | .non, u => decide (u = .none)
  | .bl b, u => decide (u = .bool b)
  | .int i, u => (match u with
    | .int j _ => decide (j = i)
    | _ => false)
  | .str s, u => (match u with
    | .str t _ => decide (t = s)
    | _ => false)
  | .tup ds, u => (match u with
    | .ref a => (match K.lookup a with
      | some o => decide (o.cls = .type "tuple") && (match o.data with
        | .seq its _ => decide (its.size ≤ sizeLine) && constsK K ds its.toList
        | _ => false)
      | none => false)
    | _ => false)
  | _, _ => false
def constsK (K : Frg) : List D → List Value → Bool
  | [], us => us.isEmpty
  | d :: ds, us => (match us with
    | u :: us => constK K d u && constsK K ds us
    | [] => false)
end
mutual
theorem constK_ok {K : Frg} {fa : Nat → Addr → Prop} {ec : Ecl} : ∀ {d : D} {u : Value}, constK K d u = true → ∃ v, RelV v u ∧ ∀ ex H m L, Rp ⟨K, fa, ec, ex⟩ H m L v d
  | .non, u, h => by
    have e : u = Value.none := of_decide_eq_true (show decide (u = Value.none) = true from h)
    subst e
    exact ⟨.non, rfl, fun _ _ _ _ => .non⟩
  | .bl b, u, h => by
    have e : u = Value.bool b := of_decide_eq_true (show decide (u = Value.bool b) = true from h)
    subst e
    exact ⟨.bl b, rfl, fun _ _ _ _ => .bl b⟩
  | .int i, u, h => by
    simp only [constK] at h
    split at h
    · have e := of_decide_eq_true h
      subst e
      exact ⟨.int _, ⟨_, rfl⟩, fun _ _ _ _ => .int _⟩
    · cases h
  | .str s, u, h => by
    simp only [constK] at h
    split at h
    · have e := of_decide_eq_true h
      subst e
      exact ⟨.str _, ⟨_, rfl⟩, fun _ _ _ _ => .str _⟩
    · cases h
  | .tup ds, u, h => by
    simp only [constK] at h
    split at h
    · split at h
      · rename_i a _ o ho
        obtain ⟨h1, h2⟩ := and0 h
        split at h2
        · rename_i its n hd
          obtain ⟨h3, h4⟩ := and0 h2
          obtain ⟨vs, hv, hr⟩ := constsK_ok (fa := fa) (ec := ec) h4
          exact ⟨.ref a, rfl, fun ex H m L => .tup (.inr fun H' => .inr ⟨o, its, n, ho, of_decide_eq_true h1, hd, of_decide_eq_true h3, hv⟩) (hr ex H m L)⟩
        · cases h2
      · cases h
    · cases h
  | .lst _, u, h => by simp [constK] at h
  | .dct _ _, u, h => by simp [constK] at h
  | .ref _, u, h => by simp [constK] at h
  | .fn _, u, h => by simp [constK] at h
theorem constsK_ok {K : Frg} {fa : Nat → Addr → Prop} {ec : Ecl} : ∀ {ds : List D} {us : List Value}, constsK K ds us = true → ∃ vs, Vals vs us ∧ ∀ ex H m L, RpAll ⟨K, fa, ec, ex⟩ H m L vs ds
  | [], us, h => by
    cases us with
    | nil => exact ⟨[], .nil, fun _ _ _ _ => .nil⟩
    | cons _ _ => cases h
  | d :: ds, us, h => by
    simp only [constsK] at h
    split at h
    · obtain ⟨h1, h2⟩ := and0 h
      obtain ⟨v, r1, q1⟩ := constK_ok (fa := fa) (ec := ec) h1
      obtain ⟨vs, r2, q2⟩ := constsK_ok (fa := fa) (ec := ec) h2
      exact ⟨v :: vs, .cons r1 r2, fun ex H m L => .cons (q1 ex H m L) (q2 ex H m L)⟩
    · cases h
end
/-- a constant by its name -/
def conK (K : Frg) (p : Str × D) : Bool := match PySem.W.nsIn K mainGlobals p.1 with
  | some (some u) => constK K p.2 u
  | _ => false
/-- an error class, told apart by isinstance -/
def exCK (K : Frg) (D : Addr) : Bool :=
  decide (PySem.W.findIn K (.ref D) "__getattribute__" = some (some (.builtin "BaseException.__getattribute__"))) && decide (PySem.W.findIn K (.ref D) "__getattr__" = some none) && decide (PySem.W.subIn K (.ref D) (.type "BaseException") = some true) && PySem.W.hasDictIn K D &&
    decide (PySem.W.findIn K (.ref D) "__class__" = some (some (.builtin "object.__class__"))) && decide (PySem.W.specialIn K (.builtin "object.__class__") "__get__" = some (some (.builtin "getset_descriptor.__get__"))) && decide (PySem.W.takesIn K (.builtin "object.__class__") = some true) && decide (PySem.W.mroIn K D (.type "object") = some true)
theorem exCK_ok {K : Frg} {D : Addr} (h : exCK K D = true) : ExcC K D := by
  obtain ⟨h, h8⟩ := and0 h
  obtain ⟨h, h7⟩ := and0 h
  obtain ⟨h, h6⟩ := and0 h
  obtain ⟨h, h5⟩ := and0 h
  obtain ⟨h, h4⟩ := and0 h
  obtain ⟨h, h3⟩ := and0 h
  obtain ⟨h1, h2⟩ := and0 h
  exact ⟨of_decide_eq_true h1, of_decide_eq_true h2, of_decide_eq_true h3, h4, of_decide_eq_true h5, of_decide_eq_true h6, of_decide_eq_true h7, of_decide_eq_true h8⟩
/-- the tables of the defs that make lambdas -/
def csOf (T : Tab) (K : Frg) : List (Addr × Addr) := T.lams.filterMap fun n => PySem.W.tabIn K n
def lamsB (T : Tab) (K : Frg) : Bool := (T.lams.all fun n => match PySem.W.tabIn K n with
    | some p => (K.lookup p.2).isNone
    | none => false) && T.lams.all fun n => T.lams.all fun m => decide (n = m) || (match PySem.W.tabIn K n, PySem.W.tabIn K m with
    | some p, some q => !decide (p.2 = q.2)
    | _, _ => false)
/-- the facts of a text -/
def facts (T : Tab) (K : Frg) : Bool := lamsB T K && (T.words.all fun w => (He.Fa.glo w.name).ok K) && (T.P.all fun p => (He.Fa.glo p.2.name).ok K) && (T.bl.all fun x => (He.Fa.free x).ok K) && (T.consts.all (conK K)) && (T.excs.all fun p => (He.Fa.glo p.1).ok K && (He.Fa.exc p.1).ok K && exCK K (He.ga K p.1)) &&
  (T.excs.all fun p => T.excs.all fun r => match T.exmF p.2 r.2 with
    | some b => decide (PySem.W.exmOne K (.ref (He.ga K p.1)) (.ref (He.ga K r.1)) = some b) && decide (PySem.W.kitOne K (.ref (He.ga K p.1)) (.ref (He.ga K r.1)) = some b)
    | none => true)
/-! ### the Hook -/
def obsF (fx : Frg → Bool) (fn : List He.DefD) (K : Frg) : He.AlD := (fx K && (He.obsD [] fn K).1, (He.obsD [] fn K).2)
/-- what the module reaches, but these -/
def reach (n : Nat) (dr : Frg → List Addr) (g : Addr → Option Obj) : List Addr := (He.asD g n).filter fun a => !(dr (He.frG g (He.asD g n))).contains a
def obsFG (n : Nat) (fx : Frg → Bool) (fn : List He.DefD) (dr : Frg → List Addr) (g : Addr → Option Obj) : He.AlD := obsF fx fn (He.frG g (reach n dr g))
/-- the tables of code objects that lambdas go into -/
def tabsT (T : Tab) (K : Frg) : List Addr := (csOf T K).map (·.2)
def hookF (n : Nat) (fx : Frg → Bool) (fn : List He.DefD) (dr : Frg → List Addr) : PySem.W.Hook where
  α := He.AlD
  obs := fun s => obsFG n fx fn dr s.heap.get?
  val := fun _ => He.valD fn
  says := fun _ h => ∃ K : Frg, K.In h ∧ fx K = true ∧ He.SaysD [] fn K
  of := fun _ _ e => ⟨_, He.frG_in, by
    have e1 := congrArg (fun z : He.AlD => z.1) e
    have e2 := congrArg (fun z : He.AlD => z.2) e
    obtain ⟨h1, h2⟩ := and0 e1
    exact ⟨h1, Prod.ext h2 e2⟩⟩
  keeps := fun _ _ _ ⟨K, hK, c⟩ k => ⟨K, PySem.W.Frag.In.keeps hK k, c⟩
theorem obsFG_eq {n : Nat} {fx : Frg → Bool} {fn : List He.DefD} {dr : Frg → List Addr} {g : Addr → Option Obj} {s : Shared} (h : ∀ a, g a = s.heap.get? a) : obsFG n fx fn dr g = (hookF n fx fn dr).obs s := by
  have e : g = s.heap.get? := funext h
  rw [e] <;> rfl
/-- a def of the text and its datum -/
structure DefOk (T : Tab) (fn : List He.DefD) (F : Fn) : Prop where
  ex : ∃ (i : Nat) (d : He.DefD), fn[i]? = some d ∧ chkF T F d = true ∧ d.at_ = (F.name, none) ∧ d.dfl = [] ∧ d.kwd = [] ∧
    ∀ (kV doc pm : Value) (an : Option Addr) (cdv ct : Value) (us : List Value), us.length = F.ps.length → bindArgs (PySem.W.fnOf d.name d.qual d.params d.body d.scope .none kV doc pm an cdv ct) ⟨us, []⟩ = pure (F.ps.zip us)
theorem find_mem : ∀ {P : Prog} {f : Nat} {F : Fn}, P.find f = some F → (f, F) ∈ P
  | [], _, _, h => by cases h
  | (m, G) :: P, f, F, h => by
    unfold Prog.find at h
    split at h
    · rename_i e
      cases h
      rw [e]
      exact List.mem_cons_self
    · exact List.mem_cons_of_mem _ (find_mem h)
/-- clauses that tell by constants -/
def chkCl (T : Tab) (sg : Scope) : List ExceptHandler → List (Nat × D) → Bool
  | [], hs => hs.isEmpty
  | h :: hds, hs => match h, hs with
    | .ExceptHandler (some (.Name n _)) none [.Return (some (.Constant c _ _)) _] _, (k, d) :: hs => decide ((n, k) ∈ T.excs) && glB ⟨[], sg, [], false⟩ n && okN n && constC c d && chkCl T sg hds hs
    | _, _ => false
def chkW (T : Tab) (w : WFn) (d : He.DefD) : Bool := decide (d.name = w.name) && decide (d.qual = w.name) && C8.scC [w.par] [w.par] d.scope && visB ⟨[], d.scope, [], false⟩ w.par && okN w.par && match d.body with
  | [.Try [.Expr (.Call (.Name a _) [] [] _) _] (h₀ :: hds) [] [] _, .Return (some (.Constant c0 _ _)) _] => decide (a = w.par) && chkCl T d.scope (h₀ :: hds) w.hs && constC c0 w.d
  | _ => false
structure WordOk (T : Tab) (fn : List He.DefD) (w : WFn) : Prop where
  ex : ∃ (i : Nat) (d : He.DefD), fn[i]? = some d ∧ chkW T w d = true ∧ d.at_ = (w.name, none) ∧ d.dfl = [] ∧ d.kwd = [] ∧
    ∀ (kV doc pm : Value) (an : Option Addr) (cdv ct : Value) (us : List Value), us.length = [w.par].length → bindArgs (PySem.W.fnOf d.name d.qual d.params d.body d.scope .none kV doc pm an cdv ct) ⟨us, []⟩ = pure ([w.par].zip us)
theorem gl_of {sg : Scope} {n : Str} (q : glB ⟨[], sg, [], false⟩ n = true) : sg.names.lookup n = some .globalImplicit := by
  unfold glB kOf at q
  split at q
  · assumption
  · cases q
theorem vis_of {sg : Scope} {n : Str} (q : visB ⟨[], sg, [], false⟩ n = true) : Vis sg n := by
  unfold visB kOf at q
  split at q
  · exact .inl (by assumption)
  · exact .inr (.inl (by assumption))
  · exact .inr (.inr (by assumption))
  · cases q
theorem chkCl_ok {T : Tab} {sg : Scope} {mg : Str → Option Value} {ec : Ecl} (hx : ∀ n k, (n, k) ∈ T.excs → ∃ Ch, mg n = some (.ref Ch) ∧ ec k Ch) : ∀ {hds : List ExceptHandler} {hs : List (Nat × D)}, chkCl T sg hds hs = true → Clauses sg mg ec hds hs
  | [], hs, h => by
    cases hs with
    | nil => exact .nil
    | cons _ _ => simp [chkCl] at h
  | h0 :: hds, hs, h => by
    unfold chkCl at h
    split at h
    · obtain ⟨h, q5⟩ := and0 h
      obtain ⟨h, q4⟩ := and0 h
      obtain ⟨h, q3⟩ := and0 h
      obtain ⟨q1, q2⟩ := and0 h
      obtain ⟨Ch, e1, e2⟩ := hx _ _ (of_decide_eq_true q1)
      exact .cons (gl_of q2) e1 (okN_db q3) e2 q4 (chkCl_ok hx q5)
    · cases h
/-- the addresses of the text's defs, of its error classes -/
def faOf (T : Tab) (K : Frg) : Nat → Addr → Prop := fun f a => ∃ F, T.P.find f = some F ∧ a = He.ga K F.name
def lamQ (n : Str) : Str := n ++ ".<locals>." ++ "<lambda>"
def ecOf (T : Tab) (K : Frg) : Ecl := ⟨fun c a => ∃ n, (n, c) ∈ T.excs ∧ a = He.ga K n, T.lams.filterMap fun n => (PySem.W.tabIn K n).map fun p => (p.2, lamQ n)⟩
theorem head_of {T : Tab} {Pr : Program} {w : World} {K : Frg} {mg : Str → Option Value} {h base : Heap} {fn : List He.DefD} (inK : K.In h) (G : h.Ns mainGlobals mg) (hf : facts T K = true) (hd : He.SaysD [] fn K) (ds : ∀ p ∈ T.P, DefOk T fn p.2) (ws : ∀ w ∈ T.words, WordOk T fn w) (TB : ∀ p ∈ csOf T K, LamX.TabB base mg p.1 p.2) :
    Head T Pr w K mg base (faOf T K) (ecOf T K) := by
  obtain ⟨hf, f5⟩ := and0 hf
  obtain ⟨hf, f4⟩ := and0 hf
  obtain ⟨hf, f3⟩ := and0 hf
  obtain ⟨hf, f2⟩ := and0 hf
  obtain ⟨hf, f1⟩ := and0 hf
  obtain ⟨f6, f7⟩ := and0 hf
  have exf : ∀ n c, (n, c) ∈ T.excs → (He.Fa.glo n).ok K = true ∧ (He.Fa.exc n).ok K = true ∧ exCK K (He.ga K n) = true := fun n c hm => by
    obtain ⟨z, z3⟩ := and0 (List.all_eq_true.mp f4 (n, c) hm)
    obtain ⟨z1, z2⟩ := and0 z
    exact ⟨z1, z2, z3⟩
  refine ⟨fun f F hF => ?_, fun x hx => He.free_ok inK G (List.all_eq_true.mp f2 x hx), fun p hp => ?_, fun n c hm => ?_, fun c k r Dc Dk hr ⟨n, hn, e1⟩ ⟨n', hn', e2⟩ => ?_, fun c Dc ⟨n, hn, e1⟩ => ?_, fun w hw => ?_, fun n hn => ?_⟩
  · obtain ⟨i, d, hi, hc, ha, h1, h2, hb⟩ := (ds (f, F) (find_mem hF)).ex
    obtain ⟨fd, Fd⟩ := hd.def_ i hi
    have ea : He.fAd K d.at_ = He.ga K F.name := by rw [ha]; rfl
    have e1 : d.dvs K = [] := by unfold He.DefD.dvs; rw [h1]; rfl
    have e2 : d.kws K = [] := by unfold He.DefD.kws; rw [h2]; rfl
    rw [ea, e1, e2] at Fd
    exact ⟨d, _, fd, hc, He.glo_ok inK G (List.all_eq_true.mp f1 (f, F) (find_mem hF)), ⟨F, hF, rfl⟩, Fd, Fd.bindsN hb⟩
  · have z := List.all_eq_true.mp f3 p hp
    unfold conK at z
    split at z
    · rename_i u hu
      obtain ⟨v, hv, hr⟩ := constK_ok (fa := faOf T K) (ec := ecOf T K) z
      exact ⟨u, v, PySem.W.mg_of inK G hu, hv, hr⟩
    · cases z
  · obtain ⟨z1, z2, z3⟩ := exf n c hm
    obtain ⟨k1, k2, k3, k4⟩ := He.exc_ok z2
    exact ⟨_, _, _, _, _, PySem.F.excBase_ValueError, k1, He.glo_ok inK G z1, k2, fun X e _ _ => raises_own (by rw [e]; exact k3) (by rw [e]; exact k4), ⟨n, hm, rfl⟩⟩
  · have z := List.all_eq_true.mp (List.all_eq_true.mp f5 (n, c) hn) (n', k) hn'
    simp only [hr] at z
    obtain ⟨z1, z2⟩ := and0 z
    rw [e1, e2]
    exact ⟨of_decide_eq_true z1, of_decide_eq_true z2⟩
  · rw [e1]
    exact exCK_ok (exf n c hn).2.2
  · obtain ⟨i, d, hi, hc, ha, h1, h2, hb⟩ := (ws w hw).ex
    obtain ⟨fd, Fd⟩ := hd.def_ i hi
    have ea : He.fAd K d.at_ = He.ga K w.name := by rw [ha]; rfl
    have e1 : d.dvs K = [] := by unfold He.DefD.dvs; rw [h1]; rfl
    have e2 : d.kws K = [] := by unfold He.DefD.kws; rw [h2]; rfl
    rw [ea, e1, e2] at Fd
    have bi := Fd.bindsN hb
    have gm := He.glo_ok inK G (List.all_eq_true.mp f7 w hw)
    unfold chkW at hc
    obtain ⟨hc, c6⟩ := and0 hc
    obtain ⟨hc, c5⟩ := and0 hc
    obtain ⟨hc, c4⟩ := and0 hc
    obtain ⟨hc, c3⟩ := and0 hc
    obtain ⟨c1, c2⟩ := and0 hc
    split at c6
    · rename_i a p1 p2 p3 h₀ hds p4 c0 j p5 p6 hbody
      obtain ⟨c6, c8⟩ := and0 c6
      obtain ⟨c6, c7⟩ := and0 c6
      have ea := of_decide_eq_true c6
      subst ea
      rw [of_decide_eq_true c1, of_decide_eq_true c2, hbody] at Fd
      exact ⟨_, fd, d.params, d.scope, h₀, hds, c0, j, p1, p2, p3, p4, p5, p6, gm, Fd, bi, C8.fnScope_by c3, vis_of c4, chkCl_ok (fun n k hm => ⟨_, He.glo_ok inK G (exf n k hm).1, show ∃ n', (n', k) ∈ T.excs ∧ He.ga K n = He.ga K n' from ⟨n, hm, rfl⟩⟩) c7, c8, c5⟩
    · cases c6
  · unfold lamsB at f6
    obtain ⟨l1, l2⟩ := and0 f6
    have z := List.all_eq_true.mp l1 n hn
    cases ht : PySem.W.tabIn K n with
    | none => rw [ht] at z; cases z
    | some cp =>
      obtain ⟨c, P⟩ := cp
      refine ⟨c, P, fun a oc od x q p bd sc dV kV doc pm an cdv ct osl hm lk => ?_, List.mem_filterMap.mpr ⟨n, hn, by rw [ht]; rfl⟩, fun p hp e => ?_, TB (c, P) (List.mem_filterMap.mpr ⟨n, hn, ht⟩)⟩
      · unfold PySem.W.tabIn at ht
        split at ht
        · rename_i f hf
          have e1 := PySem.W.mg_of inK G hf
          rw [hm] at e1
          cases e1
          rw [lk] at ht
          simp only at ht
          split at ht
          · skip
            split at ht
            · split at ht
              · cases ht
                first | rfl | assumption
              · cases ht
            · cases ht
          · cases ht
        · cases ht
      · obtain ⟨n', hn', e'⟩ := List.mem_filterMap.mp hp
        cases ht' : PySem.W.tabIn K n' with
        | none => rw [ht'] at e'; cases e'
        | some cp' =>
          rw [ht'] at e'
          cases e'
          have z2 := List.all_eq_true.mp (List.all_eq_true.mp l2 n hn) n' hn'
          rcases Bool.or_eq_true_iff.mp z2 with z3 | z3
          · rw [of_decide_eq_true z3]; rfl
          · rw [ht, ht'] at z3
            have e3 : cp'.2 = P := e
            simp [e3] at z3
theorem cs_ok {T : Tab} {K : Frg} {q : Program} (hf : facts T K = true) (hq : (T.lams.all fun n => ((recsOf q).find? fun e => e.name == n).isSome) = true) :
    (∀ p ∈ csOf T K, ∃ x d, (recsOf q).find? (fun e => e.name == x) = some d ∧ PySem.W.tabIn K x = some p) ∧ (∀ p ∈ csOf T K, K.lookup p.2 = none) ∧ ∀ p ∈ (ecOf T K).tb, p.1 ∈ (csOf T K).map (·.2) := by
  unfold facts at hf
  have f6 : lamsB T K = true := by
    obtain ⟨hf, _⟩ := and0 hf
    obtain ⟨hf, _⟩ := and0 hf
    obtain ⟨hf, _⟩ := and0 hf
    obtain ⟨hf, _⟩ := and0 hf
    obtain ⟨hf, _⟩ := and0 hf
    exact (and0 hf).1
  unfold lamsB at f6
  obtain ⟨l1, _⟩ := and0 f6
  refine ⟨fun p hp => ?_, fun p hp => ?_, fun p hp => ?_⟩
  · obtain ⟨n, hn, e⟩ := List.mem_filterMap.mp hp
    obtain ⟨d, hd⟩ := Option.isSome_iff_exists.mp (List.all_eq_true.mp hq n hn)
    exact ⟨n, d, hd, e⟩
  · obtain ⟨n, hn, e⟩ := List.mem_filterMap.mp hp
    have z := List.all_eq_true.mp l1 n hn
    rw [e] at z
    exact Option.isNone_iff_eq_none.mp z
  · obtain ⟨n, hn, e⟩ := List.mem_filterMap.mp hp
    cases ht : PySem.W.tabIn K n with
    | none => rw [ht] at e; cases e
    | some cp =>
      rw [ht] at e
      cases e
      exact List.mem_map.mpr ⟨cp, List.mem_filterMap.mpr ⟨n, hn, ht⟩, rfl⟩
end Ev
set_option linter.all false
set_option maxRecDepth 100000
/-! Ev20: the small language computed by simp. -/
namespace Ev
open PySem
section
variable {α β : Type}
@[simp] theorem s_ret (a : α) (f : α → M β) : M.thn (M.ret a) f = f a := rfl
@[simp] theorem s_ofO (a : α) : M.ofO (some a) = M.ret a := rfl
@[simp] theorem s_none : (M.ofO (none : Option α)) = M.bad := rfl
@[simp] theorem s_bad (f : α → M β) : M.thn (M.bad : M α) f = M.bad := rfl
@[simp] theorem s_assoc {γ : Type} (x : M α) (f : α → M β) (g : β → M γ) : M.thn (M.thn x f) g = M.thn x (fun a => M.thn (f a) g) := thn_assoc x f g
@[simp] theorem s_ite {p : Prop} [Decidable p] (x y : M α) (f : α → M β) : M.thn (if p then x else y) f = if p then M.thn x f else M.thn y f := by split <;> rfl
@[simp] theorem s_iteApp {p : Prop} [Decidable p] (x y : M α) (st : Store) : (if p then x else y) st = if p then x st else y st := by split <;> rfl
@[simp] theorem s_thnOk {x : M α} {f : α → M β} {st st' : Store} {a : α} (h : x st = .ok a st') : M.thn x f st = f a st' := by simp only [M.thn, h]
@[simp] theorem v_int (st : Store) (i : Int) : view st (.int i) = .int i := rfl
@[simp] theorem v_bl (st : Store) (i : Bool) : view st (.bl i) = .bl i := rfl
@[simp] theorem v_str (st : Store) (i : Str) : view st (.str i) = .str i := rfl
@[simp] theorem v_non (st : Store) : view st .non = .non := rfl
@[simp] theorem v_tup (st : Store) (i : List D) : view st (.tup i) = .tup i := rfl
@[simp] theorem v_lst (st : Store) (i : List D) : view st (.lst i) = .lst i := rfl
@[simp] theorem b_bl (b : Bool) : asB (.bl b) = M.ret b := rfl
@[simp] theorem i_int (b : Int) : asI (.int b) = M.ret (some b) := rfl
@[simp] theorem g_some {ρ : Env} {i : Nat} {d : D} (h : ρ[i]? = some (some d)) : getE ρ i = M.ret d := by simp only [getE, h]
@[simp] theorem lv_same (st : Store) (d : D) : leave st.length d st = M.ret d st := by simp [leave, M.ret]
end
@[simp] theorem q_str (i j : Str) : eqD (.str i) (.str j) = some (decide (i = j)) := rfl
@[simp] theorem q_int (i j : Int) : eqD (.int i) (.int j) = some (decide (i = j)) := rfl
@[simp] theorem q_bl (i j : Bool) : eqD (.bl i) (.bl j) = some (decide (i = j)) := rfl
@[simp] theorem q_non : eqD .non .non = some true := rfl
@[simp] theorem calm_ret {α : Type} (a : α) : M.calm (M.ret a) = M.ret a := rfl
/-- a frame's end -/
def fin (n : Nat) : Res Flow → Res D
  | .ok (.ret d) st' => leave n d st'
  | .ok (.next _) st' => leave n .non st'
  | .ok (.brk _) _ => .bad
  | .exc c st' => .exc c (st'.take n)
  | .bad => .bad
@[simp] theorem fin_ret (n : Nat) (d : D) (st : Store) : fin n (M.ret (.ret d) st) = leave n d st := rfl
@[simp] theorem fin_next (n : Nat) (ρ : Env) (st : Store) : fin n (M.ret (.next ρ) st) = leave n .non st := rfl
@[simp] theorem fin_exc (n c : Nat) (st : Store) : fin n (.exc c st) = .exc c (st.take n) := rfl
theorem runF_eq (call : Nat → List D → M D) (fuel : Nat) (exm : Nat → Nat → Option Bool) (F : Fn) (args : List D) (st : Store) (h : args.length = F.ps.length) :
    runF call fuel exm F args st = fin st.length (exSs ⟨call, st.length, fuel, exm⟩ (args.map some ++ List.replicate (F.slots.length - args.length) none) F.body st) := by
  unfold runF
  rw [if_pos h]
  cases exSs ⟨call, st.length, fuel, exm⟩ (args.map some ++ List.replicate (F.slots.length - args.length) none) F.body st with
  | ok fl st' => cases fl <;> rfl
  | exc c st' => rfl
  | bad => rfl
theorem ret_ok {α : Type} (a : α) (st : Store) : M.ret a st = .ok a st := rfl
theorem forL_ind {f : D → Env → M Flow} (I : Env → Prop) : ∀ {vs : List D}, (∀ v ∈ vs, ∀ ρ, I ρ → ∃ ρ', f v ρ = M.ret (.next ρ') ∧ I ρ') → ∀ ρ, I ρ → ∃ ρ', forL f vs ρ = M.ret (.next ρ') ∧ I ρ'
  | [], _, ρ, h => ⟨ρ, rfl, h⟩
  | v :: vs, hs, ρ, h => by
    obtain ⟨ρ1, e1, h1⟩ := hs v List.mem_cons_self ρ h
    obtain ⟨ρ2, e2, h2⟩ := forL_ind I (fun w hw => hs w (List.mem_cons_of_mem _ hw)) ρ1 h1
    refine ⟨ρ2, ?_, h2⟩
    rw [forL, e1, s_ret]
    exact e2
theorem fin_for {f : D → Env → M Flow} {vs : List D} {ρ0 : Env} {k : Flow → M Flow} {st : Store} {n : Nat} {R : Res D} (I : Env → Prop) (h0 : I ρ0) (hs : ∀ v ∈ vs, ∀ ρ, I ρ → ∃ ρ', f v ρ = M.ret (.next ρ') ∧ I ρ') (hk : ∀ ρ, I ρ → fin n (k (.next ρ) st) = R) :
    fin n (M.thn (forL f vs ρ0) k st) = R := by
  obtain ⟨ρ', e, h⟩ := forL_ind I hs ρ0 h0
  rw [e, s_ret]
  exact hk ρ' h
@[simp] theorem q_evE_0 : ∀ (C : Cfg) (ρ : Env) i, evE C ρ (.var i) = getE ρ i := by intros; rfl
@[simp] theorem q_evE_1 : ∀ (C : Cfg) (ρ : Env) d, evE C ρ (.const d) = M.ret d := by intros; rfl
@[simp] theorem q_evE_2 : ∀ (C : Cfg) (ρ : Env) u1 d, evE C ρ (.gc u1 d) = M.ret d := by intros; rfl
@[simp] theorem q_evE_3 : ∀ (C : Cfg) (ρ : Env) f, evE C ρ (.gf f) = M.ret (.fn f) := by intros; rfl
@[simp] theorem q_evE_4 : ∀ (C : Cfg) (ρ : Env) es, evE C ρ (.tup es) = M.thn (evEs C ρ es) fun xs => if okSize xs.length then M.ret (.tup xs) else M.bad := by intros; rfl
@[simp] theorem q_evE_5 : ∀ (C : Cfg) (ρ : Env) op a b, evE C ρ (.bin op a b) = M.thn (evE C ρ a) fun x => M.thn (evE C ρ b) fun y => fun st => M.ofO (binD op (view st x) (view st y)) st := by intros; rfl
@[simp] theorem q_evE_6 : ∀ (C : Cfg) (ρ : Env) a, evE C ρ (.neg a) = M.thn (evE C ρ a) fun x => match x with
    | .int i => M.ret (.int (-i))
    | _ => M.bad := by intros; rfl
@[simp] theorem q_evE_7 : ∀ (C : Cfg) (ρ : Env) a, evE C ρ (.not a) = M.thn (M.thn (evE C ρ a) asB) fun b => M.ret (.bl (!b)) := by intros; rfl
@[simp] theorem q_evE_8 : ∀ (C : Cfg) (ρ : Env) a b, evE C ρ (.and a b) = M.thn (M.thn (evE C ρ a) asB) fun k => if k then M.thn (M.thn (evE C ρ b) asB) fun j => M.ret (.bl j) else M.ret (.bl false) := by intros; rfl
@[simp] theorem q_evE_9 : ∀ (C : Cfg) (ρ : Env) a b, evE C ρ (.or a b) = M.thn (M.thn (evE C ρ a) asB) fun k => if k then M.ret (.bl true) else M.thn (M.thn (evE C ρ b) asB) fun j => M.ret (.bl j) := by intros; rfl
@[simp] theorem q_evE_10 : ∀ (C : Cfg) (ρ : Env) c a b, evE C ρ (.ite c a b) = M.thn (M.thn (evE C ρ c) asB) fun k => if k then evE C ρ a else evE C ρ b := by intros; rfl
@[simp] theorem q_evE_11 : ∀ (C : Cfg) (ρ : Env) op a b, evE C ρ (.cmp op a b) = M.thn (evE C ρ a) fun x => M.thn (evE C ρ b) fun y => fun st => M.ofO ((cmpD op (view st x) (view st y)).map .bl) st := by intros; rfl
@[simp] theorem q_evE_12 : ∀ (C : Cfg) (ρ : Env) op op' a b c, evE C ρ (.cmp2 op op' a b c) = M.thn (evE C ρ a) fun x => M.thn (evE C ρ b) fun y => fun st => M.thn (M.ofO (cmpD op (view st x) (view st y))) (fun k => if k then
      M.thn (evE C ρ c) fun z => fun st => M.ofO ((cmpD op' (view st y) (view st z)).map .bl) st else M.ret (.bl false)) st := by intros; rfl
@[simp] theorem q_evE_13 : ∀ (C : Cfg) (ρ : Env) a b, evE C ρ (.idx a b) = M.thn (evE C ρ a) fun x => M.thn (evE C ρ b) fun y => fun st => M.ofO (idxD (view st x) y) st := by intros; rfl
@[simp] theorem q_evE_14 : ∀ (C : Cfg) (ρ : Env) a lo hi, evE C ρ (.slc a lo hi) = M.thn (evE C ρ a) fun x => M.thn (evO C ρ lo) fun l => M.thn (evO C ρ hi) fun h => fun st => M.ofO (slcD (view st x) l h) st := by intros; rfl
@[simp] theorem q_evE_15 : ∀ (C : Cfg) (ρ : Env) f es, evE C ρ (.call f es) = M.thn (evEs C ρ es) fun xs => C.call f xs := by intros; rfl
@[simp] theorem q_evE_16 : ∀ (C : Cfg) (ρ : Env) b a, evE C ρ (.blt b a) = M.thn (evE C ρ a) fun x => fun st => M.ofO (bltD b (view st x)) st := by intros; rfl
@[simp] theorem q_evE_17 : ∀ (C : Cfg) (ρ : Env) n, evE C ρ (.new n) = M.thn (evN C ρ n) fun xs => M.ret (.lst xs) := by intros; rfl
@[simp] theorem q_evE_18 : ∀ (C : Cfg) (ρ : Env) n, evE C ρ (.newm n) = M.thn (evN C ρ n) fun xs => alloc (.lst xs) := by intros; rfl
@[simp] theorem q_evE_19 : ∀ (C : Cfg) (ρ : Env) a, evE C ρ (.frz a) = M.thn (evE C ρ a) fun x => fun st => match x with
    | .ref l => match st[l]? with
      | some (.lst xs) => .ok (.lst xs) (st.set l .dead)
      | some (.dct ks vs) => .ok (.dct ks vs) (st.set l .dead)
      | _ => .bad
    | _ => .bad := by intros; rfl
@[simp] theorem q_evE_20 : ∀ (C : Cfg) (ρ : Env) a, evE C ρ (.pop a) = M.thn (evE C ρ a) popD := by intros; rfl
@[simp] theorem q_evE_21 : ∀ (C : Cfg) (ρ : Env) a, evE C ρ (.rev a) = M.thn (evE C ρ a) fun x => fun st => M.ofO (revD (view st x)) st := by intros; rfl
@[simp] theorem q_evE_22 : ∀ (C : Cfg) (ρ : Env) u1 hs d e, evE C ρ (.word u1 hs d e) = wordM C.exm hs d (evE C ρ e) := by intros; rfl
@[simp] theorem q_evE_23 : ∀ (C : Cfg) (ρ : Env) mx a b, evE C ρ (.mm mx a b) = M.thn (evE C ρ a) fun x => M.thn (evE C ρ b) fun y => match x, y with
    | .int i, .int j => M.ret (.int (mm2 mx i j))
    | _, _ => M.bad := by intros; rfl
@[simp] theorem q_evE_24 : ∀ (C : Cfg) (ρ : Env) a, evE C ρ (.srt a) = M.thn (evE C ρ a) fun x => fun st => M.ofO (srtD (view st x)) st := by intros; rfl
@[simp] theorem q_evO_0 : ∀ (C : Cfg) (ρ : Env), evO C ρ .no = M.ret none := by intros; rfl
@[simp] theorem q_evO_1 : ∀ (C : Cfg) (ρ : Env) e, evO C ρ (.is e) = M.thn (evE C ρ e) asI := by intros; rfl
@[simp] theorem q_evC_0 : ∀ (C : Cfg) (ρ : Env), evC C ρ .no = M.ret true := by intros; rfl
@[simp] theorem q_evC_1 : ∀ (C : Cfg) (ρ : Env) e, evC C ρ (.is e) = M.thn (evE C ρ e) asB := by intros; rfl
@[simp] theorem q_evEs_0 : ∀ (C : Cfg) (ρ : Env), evEs C ρ .nil = M.ret [] := by intros; rfl
@[simp] theorem q_evEs_1 : ∀ (C : Cfg) (ρ : Env) e es, evEs C ρ (.cons e es) = M.thn (evE C ρ e) fun x => M.thn (evEs C ρ es) fun xs => M.ret (x :: xs) := by intros; rfl
@[simp] theorem q_evN_0 : ∀ (C : Cfg) (ρ : Env) es, evN C ρ (.lst es) = M.thn (evEs C ρ es) fun xs => if okSize xs.length then M.ret xs else M.bad := by intros; rfl
@[simp] theorem q_evN_1 : ∀ (C : Cfg) (ρ : Env) own elt tg it c, evN C ρ (.comp own elt tg it c) = M.thn (evIt C ρ it) fun xs => M.calm (M.thn (loopC (fun x => match setTg tg x (wipeE ρ own) with
      | some σ => M.thn (evC C σ c) fun k => if k then M.thn (evE C σ elt) fun y => M.ret [y] else M.ret []
      | none => M.bad) xs) fun ys => if okSize ys.length then M.ret ys else M.bad) := by intros; rfl
@[simp] theorem q_evN_2 : ∀ (C : Cfg) (ρ : Env) own own1 elt tg it c tg1 it1 c1, evN C ρ (.comp2 own own1 elt tg it c tg1 it1 c1) = M.thn (evIt C ρ it) fun xs => M.calm (M.thn (loopC (fun x => match setTg tg x (wipeE ρ own) with
      | some σ => M.thn (evC C σ c) fun k => if k then M.thn (evIt C σ it1) fun zs => loopC (fun z => match setTg tg1 z (wipeE σ own1) with
          | some τ => M.thn (evC C τ c1) fun k => if k then M.thn (evE C τ elt) fun y => M.ret [y] else M.ret []
          | none => M.bad) zs else M.ret []
      | none => M.bad) xs) fun ys => if okSize ys.length then M.ret ys else M.bad) := by intros; rfl
@[simp] theorem q_evN_3 : ∀ (C : Cfg) (ρ : Env) a, evN C ρ (.listOf a) = M.thn (evE C ρ a) fun x => fun st => M.ofO (seqOf (view st x)) st := by intros; rfl
@[simp] theorem q_evN_4 : ∀ (C : Cfg) (ρ : Env) n k, evN C ρ (.rep n k) = M.thn (evN C ρ n) fun xs => M.thn (evE C ρ k) (repL xs) := by intros; rfl
@[simp] theorem q_evN_5 : ∀ (C : Cfg) (ρ : Env) a b, evN C ρ (.cat a b) = M.thn (evE C ρ a) fun x => M.thn (evE C ρ b) fun y => fun st => M.ofO (catD (view st x) (view st y)) st := by intros; rfl
@[simp] theorem q_evIt_0 : ∀ (C : Cfg) (ρ : Env) a, evIt C ρ (.val a) = M.thn (evE C ρ a) fun x => M.ofO (walkD x) := by intros; rfl
@[simp] theorem q_evIt_1 : ∀ (C : Cfg) (ρ : Env) a, evIt C ρ (.rng1 a) = M.thn (evE C ρ a) fun x => match x with
    | .int i => if okRng i then M.ret (rngUp 0 i.toNat) else M.bad
    | _ => M.bad := by intros; rfl
@[simp] theorem q_evIt_2 : ∀ (C : Cfg) (ρ : Env) a b, evIt C ρ (.rng2 a b) = M.thn (evE C ρ a) fun x => M.thn (evE C ρ b) fun y => match x, y with
    | .int i, .int j => if okRng i && okRng j then M.ret (rngUp i (j - i).toNat) else M.bad
    | _, _ => M.bad := by intros; rfl
@[simp] theorem q_evIt_3 : ∀ (C : Cfg) (ρ : Env) a, evIt C ρ (.enum a) = M.thn (evE C ρ a) fun x => M.thn (M.ofO (seqOf x)) fun xs => M.ret (numUp 0 xs) := by intros; rfl
@[simp] theorem q_evIt_4 : ∀ (C : Cfg) (ρ : Env) a b, evIt C ρ (.zip a b) = M.thn (evE C ρ a) fun x => M.thn (evE C ρ b) fun y => M.ofO (zipD x y) := by intros; rfl
@[simp] theorem q_exS_0 : ∀ (C : Cfg) (ρ : Env) e, exS C ρ (.expr e) = M.thn (evE C ρ e) fun _ => M.ret (.next ρ) := by intros; rfl
@[simp] theorem q_exS_1 : ∀ (C : Cfg) (ρ : Env) t e, exS C ρ (.asg t e) = M.thn (evE C ρ e) fun d => M.thn (putT C ρ d t) fun ρ => M.ret (.next ρ) := by intros; rfl
@[simp] theorem q_exS_2 : ∀ (C : Cfg) (ρ : Env) ts es, exS C ρ (.par ts es) = M.thn (evEs C ρ es) fun ds => match setMany ρ ts ds with
    | some ρ => M.ret (.next ρ)
    | none => M.bad := by intros; rfl
@[simp] theorem q_exS_3 : ∀ (C : Cfg) (ρ : Env) op i e, exS C ρ (.augn op i e) = M.thn (getE ρ i) fun x => M.thn (evE C ρ e) fun y => match x, y with
    | .int _, .int _ => M.thn (M.ofO (binD op x y)) fun z => M.ret (.next (ρ.set i (some z)))
    | _, _ => M.bad := by intros; rfl
@[simp] theorem q_exS_4 : ∀ (C : Cfg) (ρ : Env) o e, exS C ρ (.app o e) = M.thn (evE C ρ o) fun x => M.thn (lstAt x) fun _ => M.thn (evE C ρ e) fun y => M.thn (appD C x y) fun _ => M.ret (.next ρ) := by intros; rfl
@[simp] theorem q_exS_5 : ∀ (C : Cfg) (ρ : Env) e, exS C ρ (.ret e) = M.thn (evE C ρ e) fun d => M.ret (.ret d) := by intros; rfl
@[simp] theorem q_exS_6 : ∀ (C : Cfg) (ρ : Env), exS C ρ .retN = M.ret (.ret .non) := by intros; rfl
@[simp] theorem q_exS_7 : ∀ (C : Cfg) (ρ : Env), exS C ρ .pass = M.ret (.next ρ) := by intros; rfl
@[simp] theorem q_exS_8 : ∀ (C : Cfg) (ρ : Env), exS C ρ .brk = M.ret (.brk ρ) := by intros; rfl
@[simp] theorem q_exS_9 : ∀ (C : Cfg) (ρ : Env) c a b, exS C ρ (.iff c a b) = M.thn (M.thn (evE C ρ c) asB) fun k => if k then exSs C ρ a else exSs C ρ b := by intros; rfl
@[simp] theorem q_exS_10 : ∀ (C : Cfg) (ρ : Env) t it b, exS C ρ (.for t it b) = M.thn (evIt C ρ it) fun xs => forL (fun x ρ => match setTg t x ρ with
    | some ρ => exSs C ρ b
    | none => M.bad) xs ρ := by intros; rfl
@[simp] theorem q_exS_11 : ∀ (C : Cfg) (ρ : Env) c b, exS C ρ (.whl c b) = whlL (fun ρ => M.thn (evE C ρ c) asB) (fun ρ => exSs C ρ b) C.fuel ρ := by intros; rfl
@[simp] theorem q_exS_12 : ∀ (C : Cfg) (ρ : Env) c u1, exS C ρ (.raise c u1) = fun st => .exc c st := by intros; rfl
@[simp] theorem q_exS_13 : ∀ (C : Cfg) (ρ : Env) i, exS C ρ (.freeze i) = M.thn (getE ρ i) fun x => fun st => match x with
    | .ref l => match st[l]? with
      | some (.lst xs) => .ok (.next (ρ.set i (some (.lst xs)))) (st.set l .dead)
      | some (.dct ks vs) => .ok (.next (ρ.set i (some (.dct ks vs)))) (st.set l .dead)
      | _ => .bad
    | _ => .bad := by intros; rfl
@[simp] theorem q_exS_14 : ∀ (C : Cfg) (ρ : Env) i e, exS C ρ (.augl i e) = M.thn (getE ρ i) fun x => M.thn (evE C ρ e) fun y => M.thn (extD C x y) fun _ => M.ret (.next (ρ.set i (some x))) := by intros; rfl
@[simp] theorem q_exS_15 : ∀ (C : Cfg) (ρ : Env) u1 b hall cs d, exS C ρ (.tryA u1 b hall cs d) = fun st => match exSs C ρ b st with
    | .exc c st' => (match C.exm c hall with
      | some true => (match catchD C.exm c cs d with
        | some d' => .ok (.ret d') st'
        | none => .bad)
      | some false => .exc c st'
      | none => .bad)
    | r => r := by intros; rfl
@[simp] theorem q_exSs_0 : ∀ (C : Cfg) (ρ : Env), exSs C ρ .nil = M.ret (.next ρ) := by intros; rfl
@[simp] theorem q_exSs_1 : ∀ (C : Cfg) (ρ : Env) s ss, exSs C ρ (.cons s ss) = M.thn (exS C ρ s) fun fl => match fl with
    | .next ρ => exSs C ρ ss
    | fl => M.ret fl := by intros; rfl
@[simp] theorem q_putT_0 : ∀ (C : Cfg) (ρ : Env) (d : D) i, putT C ρ d (.name i) = M.ret (ρ.set i (some d)) := by intros; rfl
@[simp] theorem q_putT_1 : ∀ (C : Cfg) (ρ : Env) (d : D) t, putT C ρ d (.tg t) = M.ofO (setTg t d ρ) := by intros; rfl
@[simp] theorem q_putT_2 : ∀ (C : Cfg) (ρ : Env) (d : D) o i, putT C ρ d (.idx o i) = M.thn (evE C ρ o) fun x => M.thn (evE C ρ i) fun y => M.thn (setIx C x y d) fun _ => M.ret ρ := by intros; rfl
@[simp] theorem q_setTg_0 : ∀ i d ρ, setTg  (.name i) d ρ = some (ρ.set i (some d)) := by intros; rfl
@[simp] theorem q_setTg_1 : ∀ a b x y ρ, setTg  (.two a b) (.tup [x, y]) ρ = match setTg a x ρ with
    | some ρ => setTg b y ρ
    | none => none := by intros; rfl
@[simp] theorem q_setTg_2 : ∀ a b c x y z ρ, setTg  (.three a b c) (.tup [x, y, z]) ρ = match setTg a x ρ with
    | some ρ => match setTg b y ρ with
      | some ρ => setTg c z ρ
      | none => none
    | none => none := by intros; rfl
@[simp] theorem q_wipeE_0 : ∀ (ρ : Env), wipeE ρ [] = ρ := by intros; rfl
@[simp] theorem q_wipeE_1 : ∀ (ρ : Env) v vs, wipeE ρ (v :: vs) = (wipeE ρ vs).set v none := by intros; rfl
end Ev
set_option linter.all false
set_option maxRecDepth 100000
/-! Ev21: plain data that may be compared. -/
namespace Ev
open PySem
/-- data no deeper than n -/
def Lay (d : D) (n : Nat) : Prop := ∃ p, d.toPy = some p ∧ p.canLay0 = true ∧ p.depth ≤ n
def LayAll (ds : List D) (n : Nat) : Prop := ∃ ps, D.toPys ds = some ps ∧ PyData.canLayAll0 ps = true ∧ PyData.depthAll ps ≤ n ∧ ps.length = ds.length
theorem LayAll.nil (n : Nat) : LayAll [] n := ⟨[], by simp [D.toPys], by simp [PyData.canLayAll0], by simp [PyData.depthAll], rfl⟩
theorem LayAll.cons {d : D} {ds : List D} {n : Nat} (h : Lay d n) (hs : LayAll ds n) : LayAll (d :: ds) n := by
  obtain ⟨p, h1, h2, h3⟩ := h
  obtain ⟨ps, g1, g2, g3, g4⟩ := hs
  exact ⟨p :: ps, by simp [D.toPys, h1, g1], by simp [PyData.canLayAll0, h2, g2], by simp [PyData.depthAll]; omega, by simp [g4]⟩
theorem LayAll.of {n : Nat} : ∀ {ds : List D}, (∀ d ∈ ds, Lay d n) → LayAll ds n
  | [], _ => .nil n
  | d :: ds, h => .cons (h d List.mem_cons_self) (LayAll.of fun e he => h e (List.mem_cons_of_mem _ he))
theorem LayAll.tup {ds : List D} {n : Nat} (h : LayAll ds n) : Lay (.tup ds) (n + 1) := by
  obtain ⟨ps, h1, h2, h3, _⟩ := h
  exact ⟨.tuple ps, by simp [D.toPy, h1], by simp [PyData.canLay0, h2], by simp [PyData.depth]; omega⟩
theorem LayAll.lst {ds : List D} {n : Nat} (h : LayAll ds n) : Lay (.lst ds) (n + 1) := by
  obtain ⟨ps, h1, h2, h3, _⟩ := h
  exact ⟨.list ps, by simp [D.toPy, h1], by simp [PyData.canLay0, h2], by simp [PyData.depth]; omega⟩
theorem Lay.le {d : D} {m n : Nat} (h : Lay d m) (hl : m ≤ n) : Lay d n := let ⟨p, h1, h2, h3⟩ := h; ⟨p, h1, h2, Nat.le_trans h3 hl⟩
theorem Lay.int (i : Int) (n : Nat) : Lay (.int i) n := ⟨.int i, by simp [D.toPy], by simp [PyData.canLay0], by simp [PyData.depth]⟩
theorem Lay.bl (i : Bool) (n : Nat) : Lay (.bl i) n := ⟨.bool i, by simp [D.toPy], by simp [PyData.canLay0], by simp [PyData.depth]⟩
theorem Lay.non (n : Nat) : Lay .non n := ⟨.none, by simp [D.toPy], by simp [PyData.canLay0], by simp [PyData.depth]⟩
theorem Lay.str {s : Str} (h : PyData.strOk s = true) (n : Nat) : Lay (.str s) n := ⟨.str s, by simp [D.toPy], by simp [PyData.canLay0, h], by simp [PyData.depth]⟩
theorem Lay.shaped {d : D} {n : Nat} (h : Lay d n) (hn : n ≤ 64) : ∃ p, d.toPy = some p ∧ SeqAt.shaped p = true := by
  obtain ⟨p, h1, h2, h3⟩ := h
  exact ⟨p, h1, by simp only [SeqAt.shaped, h2, Bool.true_and, decide_eq_true_eq]; omega⟩
theorem Lay.eq {d e : D} {m n : Nat} (h : Lay d m) (g : Lay e n) (hm : m ≤ 64) (hn : n ≤ 64) (h0 : ∀ i j, d = .int i → e ≠ .int j) (h1 : ∀ i j, d = .str i → e ≠ .str j) (h2 : ∀ i j, d = .bl i → e ≠ .bl j) (h3 : d = .non → e ≠ .non) :
    ∃ p q, d.toPy = some p ∧ e.toPy = some q ∧ eqD d e = some (PyData.eqv p q) := by
  obtain ⟨p, p1, p2⟩ := h.shaped hm
  obtain ⟨q, q1, q2⟩ := g.shaped hn
  refine ⟨p, q, p1, q1, ?_⟩
  unfold eqD
  split
  · exact absurd rfl (h0 _ _ rfl)
  · exact absurd rfl (h1 _ _ rfl)
  · exact absurd rfl (h2 _ _ rfl)
  · exact absurd rfl (h3 rfl)
  · simp [p1, q1, p2, q2]
/-- a list against the empty one -/
theorem eq_nil {ds : List D} {n : Nat} (h : LayAll ds n) (hn : n + 1 ≤ 64) : eqD (.lst ds) (.lst []) = some ds.isEmpty := by
  obtain ⟨p, q, p1, q1, e⟩ := Lay.eq h.lst (LayAll.nil 0).lst hn (by decide) (by intro i j z; cases z) (by intro i j z; cases z) (by intro i j z; cases z) (by intro z; cases z)
  rw [e]
  obtain ⟨ps, h1, _, _, h4⟩ := h
  have e1 : p = .list ps := by
    have : (D.lst ds).toPy = some (.list ps) := by simp [D.toPy, h1]
    rw [p1] at this; exact Option.some.inj this
  have e2 : q = .list [] := by
    have : (D.lst []).toPy = some (.list []) := by simp [D.toPy, D.toPys]
    rw [q1] at this; exact Option.some.inj this
  subst e1; subst e2
  cases ds with
  | nil =>
    have : ps = [] := List.length_eq_zero_iff.mp (by simpa using h4)
    subst this
    simp [PyData.eqv, PyData.eqvAll]
  | cons d ds =>
    cases ps with
    | nil => simp at h4
    | cons p ps => simp [PyData.eqv, PyData.eqvAll]
end Ev
set_option linter.all false
set_option maxRecDepth 100000
set_option maxHeartbeats 1000000
/-! Ev22: comprehensions by what each turn gives. -/
namespace Ev
open PySem
@[simp] theorem b_lenL (xs : List D) : bltD .len (.lst xs) = some (.int xs.length) := rfl
@[simp] theorem b_lenT (xs : List D) : bltD .len (.tup xs) = some (.int xs.length) := rfl
@[simp] theorem b_tupL (xs : List D) : bltD .tuple (.lst xs) = some (.tup xs) := rfl
@[simp] theorem b_tupT (xs : List D) : bltD .tuple (.tup xs) = some (.tup xs) := rfl
@[simp] theorem b_int (i : Int) : bltD .int (.int i) = some (.int i) := rfl
@[simp] theorem b_isiI (i : Int) : bltD (.isi .int) (.int i) = some (.bl true) := rfl
@[simp] theorem b_isiB (i : Int) : bltD (.isi .bool) (.int i) = some (.bl false) := rfl
@[simp] theorem b_isiIB (i : Bool) : bltD (.isi .int) (.bl i) = some (.bl true) := rfl
@[simp] theorem b_isiBB (i : Bool) : bltD (.isi .bool) (.bl i) = some (.bl true) := rfl
@[simp] theorem b_isiN : bltD (.isi .int) .non = some (.bl false) := rfl
@[simp] theorem b_isiNB : bltD (.isi .bool) .non = some (.bl false) := rfl
@[simp] theorem b_isiNS : bltD (.isi .str) .non = some (.bl false) := rfl
@[simp] theorem b_isiIS (i : Int) : bltD (.isi .str) (.int i) = some (.bl false) := rfl
@[simp] theorem b_isiSS (i : Str) : bltD (.isi .str) (.str i) = some (.bl true) := rfl
@[simp] theorem b_isiSI (i : Str) : bltD (.isi .int) (.str i) = some (.bl false) := rfl
@[simp] theorem b_isiT (i : List D) : bltD (.isi .tuple) (.tup i) = some (.bl true) := rfl
@[simp] theorem b_isiTN : bltD (.isi .tuple) .non = some (.bl false) := rfl
@[simp] theorem m_eq (a b : D) : cmpD .Eq a b = eqD a b := rfl
@[simp] theorem m_ne (a b : D) : cmpD .NotEq a b = (eqD a b).map (!·) := rfl
@[simp] theorem m_lt (a b : D) : cmpD .Lt a b = ltD a b := rfl
@[simp] theorem m_gt (a b : D) : cmpD .Gt a b = ltD b a := rfl
@[simp] theorem m_le (a b : D) : cmpD .LtE a b = leD a b := rfl
@[simp] theorem m_ge (a b : D) : cmpD .GtE a b = leD b a := rfl
@[simp] theorem m_isB (i j : Bool) : cmpD .Is (.bl i) (.bl j) = some (decide (i = j)) := rfl
@[simp] theorem m_isNB (i j : Bool) : cmpD .IsNot (.bl i) (.bl j) = some (!decide (i = j)) := rfl
@[simp] theorem m_isN (a : D) : cmpD .Is a .non = some (isNon a) := by cases a <;> rfl
@[simp] theorem m_isNN (a : D) : cmpD .IsNot a .non = some (!isNon a) := by cases a <;> rfl
@[simp] theorem l_int (i j : Int) : ltD (.int i) (.int j) = some (decide (i < j)) := rfl
@[simp] theorem l_intE (i j : Int) : leD (.int i) (.int j) = some (decide (i ≤ j)) := rfl
@[simp] theorem n_int (i : Int) : isNon (.int i) = false := rfl
@[simp] theorem n_str (i : Str) : isNon (.str i) = false := rfl
@[simp] theorem n_bl (i : Bool) : isNon (.bl i) = false := rfl
@[simp] theorem n_tup (i : List D) : isNon (.tup i) = false := rfl
@[simp] theorem n_lst (i : List D) : isNon (.lst i) = false := rfl
@[simp] theorem n_non : isNon .non = true := rfl
@[simp] theorem d_add (i j : Int) : binD .Add (.int i) (.int j) = some (.int (i + j)) := rfl
@[simp] theorem d_sub (i j : Int) : binD .Sub (.int i) (.int j) = some (.int (i - j)) := rfl
@[simp] theorem x_t0 (x : D) (xs : List D) : idxD (.tup (x :: xs)) (.int 0) = some x := rfl
@[simp] theorem x_t1 (x y : D) (xs : List D) : idxD (.tup (x :: y :: xs)) (.int 1) = some y := rfl
@[simp] theorem x_t2 (x y z : D) (xs : List D) : idxD (.tup (x :: y :: z :: xs)) (.int 2) = some z := rfl
@[simp] theorem x_t3 (x y z u : D) (xs : List D) : idxD (.tup (x :: y :: z :: u :: xs)) (.int 3) = some u := rfl
@[simp] theorem x_l0 (x : D) (xs : List D) : idxD (.lst (x :: xs)) (.int 0) = some x := rfl
@[simp] theorem w_tup (xs : List D) : walkD (.tup xs) = some xs := rfl
@[simp] theorem w_lst (xs : List D) : walkD (.lst xs) = some xs := rfl
/-- one turn of a comprehension -/
def turnN (C : Cfg) (ρ : Env) (own : List Nat) (elt : E) (tg : Tg) (c : O) (x : D) : M (List D) := match setTg tg x (wipeE ρ own) with
  | some σ => M.thn (evC C σ c) fun k => if k then M.thn (evE C σ elt) fun y => M.ret [y] else M.ret []
  | none => M.bad
theorem comp_eq (C : Cfg) (ρ : Env) (own : List Nat) (elt : E) (tg : Tg) (it : It) (c : O) : evN C ρ (.comp own elt tg it c) = M.thn (evIt C ρ it) fun xs => M.calm (M.thn (loopC (turnN C ρ own elt tg c) xs) fun ys => if okSize ys.length then M.ret ys else M.bad) := rfl
theorem loopC_mem {α : Type} {f : D → M (List α)} {g : D → List α} : ∀ {xs : List D}, (∀ x ∈ xs, f x = M.ret (g x)) → loopC f xs = M.ret (xs.flatMap g)
  | [], _ => rfl
  | x :: xs, h => by
    rw [loopC, h x List.mem_cons_self, loopC_mem (fun y hy => h y (List.mem_cons_of_mem _ hy))]
    rfl
theorem loopC_memI {α : Type} {f : D → M (List α)} : ∀ {xs : List D} {ys : List (List α)}, ys.length = xs.length → (∀ (i : Nat) x y, xs[i]? = some x → ys[i]? = some y → f x = M.ret y) → loopC f xs = M.ret ys.flatten
  | [], [], _, _ => rfl
  | x :: xs, y :: ys, hl, h => by
    rw [loopC, h 0 x y rfl rfl, loopC_memI (xs := xs) (ys := ys) (by simpa using hl) (fun i x y hx hy => h (i + 1) x y (by simpa using hx) (by simpa using hy))]
    simp
theorem comp_mem {C : Cfg} {ρ : Env} {own : List Nat} {elt : E} {tg : Tg} {it : It} {c : O} {xs : List D} {g : D → List D} (hit : evIt C ρ it = M.ret xs) (h : ∀ x ∈ xs, turnN C ρ own elt tg c x = M.ret (g x)) (hz : okSize (xs.flatMap g).length = true) :
    evN C ρ (.comp own elt tg it c) = M.ret (xs.flatMap g) := by
  rw [comp_eq, hit, s_ret, loopC_mem h, s_ret, if_pos hz, calm_ret]
theorem comp_map {C : Cfg} {ρ : Env} {own : List Nat} {elt : E} {tg : Tg} {it : It} {c : O} {xs : List D} {g : D → D} (hit : evIt C ρ it = M.ret xs) (h : ∀ x ∈ xs, turnN C ρ own elt tg c x = M.ret [g x]) (hz : okSize xs.length = true) :
    evN C ρ (.comp own elt tg it c) = M.ret (xs.map g) := by
  have e : xs.flatMap (fun x => [g x]) = xs.map g := by
    clear hit h hz
    induction xs with
    | nil => rfl
    | cons x xs ih => rw [List.flatMap_cons, ih]; rfl
  rw [← e]
  exact comp_mem hit h (by rw [e, List.length_map]; exact hz)
theorem okz_le {n m : Nat} (h : okSize m = true) (hl : n ≤ m) : okSize n = true := by simp [okSize] at h ⊢; omega
theorem okz_lt {n : Nat} (hl : n ≤ 10000000) : okSize n = true := by simp [okSize]; omega
theorem comp_filter {C : Cfg} {ρ : Env} {own : List Nat} {elt : E} {tg : Tg} {it : It} {c : O} {xs : List D} {p : D → Bool} {g : D → D} (hit : evIt C ρ it = M.ret xs) (h : ∀ x ∈ xs, turnN C ρ own elt tg c x = M.ret (if p x then [g x] else [])) (hz : okSize xs.length = true) :
    evN C ρ (.comp own elt tg it c) = M.ret ((xs.filter p).map g) := by
  have e : xs.flatMap (fun x => if p x then [g x] else []) = (xs.filter p).map g := by
    clear hit h hz
    induction xs with
    | nil => rfl
    | cons x xs ih =>
      rw [List.flatMap_cons, ih, List.filter_cons]
      by_cases hp : p x <;> simp [hp]
  rw [← e]
  refine comp_mem hit h ?_
  rw [e, List.length_map]
  exact okz_le hz (List.length_filter_le _ _)
theorem allB_map (p : D → Bool) : ∀ xs : List D, allB (xs.map fun x => .bl (p x)) = some (xs.map p)
  | [] => rfl
  | x :: xs => by
    show (allB (xs.map fun x => .bl (p x))).map (p x :: ·) = _
    rw [allB_map p xs]; rfl
theorem allI_map : ∀ xs : List Int, allI (xs.map .int) = some xs
  | [] => rfl
  | x :: xs => by
    show (allI (xs.map .int)).map (x :: ·) = _
    rw [allI_map xs]; rfl
theorem all_mapB (p : D → Bool) (xs : List D) : bltD .all (.lst (xs.map fun x => .bl (p x))) = some (.bl (xs.all p)) := by
  show (allB _).map _ = _
  rw [allB_map]
  simp [List.all_map]
theorem any_mapB (p : D → Bool) (xs : List D) : bltD .any (.lst (xs.map fun x => .bl (p x))) = some (.bl (xs.any p)) := by
  show (allB _).map _ = _
  rw [allB_map]
  simp [List.any_map]
theorem comp_all {C : Cfg} {ρ : Env} {own : List Nat} {elt : E} {tg : Tg} {it : It} {c : O} {xs : List D} {p : D → Bool} (hit : evIt C ρ it = M.ret xs) (h : ∀ x ∈ xs, turnN C ρ own elt tg c x = M.ret [.bl (p x)]) (hz : okSize xs.length = true) :
    evE C ρ (.blt .all (.new (.comp own elt tg it c))) = M.ret (.bl (xs.all p)) := by
  have e := all_mapB p xs
  rw [evE, evE, comp_map hit h hz, s_ret, s_ret]
  funext st
  rw [v_lst, e]; rfl
theorem comp_any {C : Cfg} {ρ : Env} {own : List Nat} {elt : E} {tg : Tg} {it : It} {c : O} {xs : List D} {p : D → Bool} (hit : evIt C ρ it = M.ret xs) (h : ∀ x ∈ xs, turnN C ρ own elt tg c x = M.ret [.bl (p x)]) (hz : okSize xs.length = true) :
    evE C ρ (.blt .any (.new (.comp own elt tg it c))) = M.ret (.bl (xs.any p)) := by
  have e := any_mapB p xs
  rw [evE, evE, comp_map hit h hz, s_ret, s_ret]
  funext st
  rw [v_lst, e]; rfl
theorem exSs_c (C : Cfg) (ρ : Env) (s : S) (ss : Ss) : exSs C ρ (.cons s ss) = M.thn (exS C ρ s) fun fl => match fl with
    | .next ρ => exSs C ρ ss
    | fl => M.ret fl := rfl
/-! in order, each once -/
def ascI : List Int → Bool
  | a :: b :: r => decide (a < b) && ascI (b :: r)
  | _ => true
theorem memU_ins {x y : Int} : ∀ {l : List Int}, y ∈ insU x l → y = x ∨ y ∈ l
  | [], h => by simpa [insU] using h
  | z :: l, h => by
    unfold insU at h
    split at h
    · simpa using h
    · split at h
      · exact .inr h
      · rcases List.mem_cons.mp h with rfl | h
        · exact .inr List.mem_cons_self
        · rcases memU_ins h with h | h
          · exact .inl h
          · exact .inr (List.mem_cons_of_mem _ h)
theorem asc_cons {x : Int} : ∀ {l : List Int}, ascI l = true → (∀ y ∈ l, x < y) → ascI (x :: l) = true
  | [], _, _ => rfl
  | y :: l, h, g => by
    show (decide (x < y) && ascI (y :: l) : Bool) = true
    rw [h, decide_eq_true (g y List.mem_cons_self)]; rfl
theorem asc_lt {x : Int} : ∀ {l : List Int}, ascI (x :: l) = true → ∀ y ∈ l, x < y
  | [], _, y, hy => by cases hy
  | z :: l, h, y, hy => by
    have h' : (decide (x < z) && ascI (z :: l)) = true := h
    rw [Bool.and_eq_true, decide_eq_true_eq] at h'
    rcases List.mem_cons.mp hy with rfl | hy
    · exact h'.1
    · exact Int.lt_trans h'.1 (asc_lt h'.2 y hy)
theorem asc_tail {x : Int} {l : List Int} (h : ascI (x :: l) = true) : ascI l = true := by
  cases l with
  | nil => rfl
  | cons z l =>
    have h' : (decide (x < z) && ascI (z :: l)) = true := h
    rw [Bool.and_eq_true] at h'
    exact h'.2
theorem asc_insU (x : Int) : ∀ {l : List Int}, ascI l = true → ascI (insU x l) = true
  | [], _ => rfl
  | z :: l, h => by
    unfold insU
    split
    · rename_i hx
      refine asc_cons h fun y hy => ?_
      rcases List.mem_cons.mp hy with rfl | hy
      · exact hx
      · exact Int.lt_trans hx (asc_lt h y hy)
    · split
      · exact h
      · rename_i h1 h2
        refine asc_cons (asc_insU x (asc_tail h)) fun y hy => ?_
        rcases memU_ins hy with rfl | hy
        · omega
        · exact asc_lt h y hy
theorem asc_sortU : ∀ l : List Int, ascI (sortU l) = true
  | [] => rfl
  | x :: l => asc_insU x (asc_sortU l)
theorem memU_sort {y : Int} : ∀ {l : List Int}, y ∈ sortU l → y ∈ l
  | [], h => h
  | x :: l, h => by
    rcases memU_ins h with rfl | h
    · exact List.mem_cons_self
    · exact List.mem_cons_of_mem _ (memU_sort h)
theorem len_insU (x : Int) : ∀ l : List Int, (insU x l).length ≤ l.length + 1
  | [] => Nat.le_refl _
  | z :: l => by
    unfold insU
    split
    · simp
    · split
      · simp
      · have := len_insU x l
        simp; omega
theorem len_sortU : ∀ l : List Int, (sortU l).length ≤ l.length
  | [] => Nat.le_refl _
  | x :: l => by
    have h1 := len_insU x (sortU l)
    have h2 := len_sortU l
    show (insU x (sortU l)).length ≤ _
    rw [List.length_cons]; omega
end Ev
set_option maxRecDepth 100000
namespace K00
open Ev PySem
def c_ANY : D := (.str "any")
def c_COLUMNS : D := (.int 6)
def c_COMPARED : D := (.tup [(.str "same"), (.str "less"), (.str "most")])
def c_DEEP : D := (.int 6)
def c_IN : D := (.int 6)
def c_INT : D := (.str "int")
def c_JOINED : D := (.tup [(.str "and"), (.str "or")])
def c_KEY : D := (.tup [(.str "int"), (.bl false)])
def c_LETTERS : D := (.str "abcdefghijklmnopqrstuvwxyz")
def c_NUMBER : D := (.int 1000000000)
def c_PARTS : D := (.int 30)
def c_ROWS : D := (.int 60)
def c_RULES : D := (.int 4)
def c_TABLES : D := (.int 4)
def c_TEXT : D := (.str "word")
def c_WORD : D := (.int 8)
def F_is_whole : Fn := ⟨"is_whole", ["value", "low", "high"], ["value", "low", "high"],
    (.cons (.ret (.and (.blt (.isi .int) (.var 0)) (.and (.not (.blt (.isi .bool) (.var 0))) (.cmp2 .LtE .LtE (.var 1) (.var 0) (.var 2)))))
    .nil)⟩
def F_is_tuple_of : Fn := ⟨"is_tuple_of", ["value", "low", "high"], ["value", "low", "high"],
    (.cons (.ret (.and (.blt (.isi .tuple) (.var 0)) (.cmp2 .LtE .LtE (.var 1) (.blt .len (.var 0)) (.var 2))))
    .nil)⟩
def F_is_word : Fn := ⟨"is_word", ["value"], ["value", "letter"],
    (.cons (.ret (.and (.blt (.isi .str) (.var 0)) (.and (.cmp2 .LtE .LtE (.const (.int 1)) (.blt .len (.var 0)) (.gc "WORD" c_WORD)) (.blt .all (.new (.comp [1] (.cmp .In (.var 1) (.gc "LETTERS" c_LETTERS)) (.name 1) (.val (.var 0)) .no))))))
    .nil)⟩
def F_is_number : Fn := ⟨"is_number", ["value"], ["value"],
    (.cons (.ret (.call 0 (.cons (.var 0) (.cons (.neg (.gc "NUMBER" c_NUMBER)) (.cons (.gc "NUMBER" c_NUMBER) .nil)))))
    .nil)⟩
def F_fits_value : Fn := ⟨"fits_value", ["value"], ["value"],
    (.cons (.ret (.or (.cmp .Is (.var 0) (.const .non)) (.or (.call 3 (.cons (.var 0) .nil)) (.call 2 (.cons (.var 0) .nil)))))
    .nil)⟩
def F_fits_sort : Fn := ⟨"fits_sort", ["sort", "value"], ["sort", "value"],
    (.cons (.ret (.ite (.cmp .Eq (.var 0) (.gc "INT" c_INT)) (.call 3 (.cons (.var 1) .nil)) (.call 2 (.cons (.var 1) .nil))))
    .nil)⟩
def F_fits_column : Fn := ⟨"fits_column", ["value"], ["value"],
    (.cons (.iff (.or (.not (.call 1 (.cons (.var 0) (.cons (.const (.int 2)) (.cons (.const (.int 2)) .nil))))) (.or (.not (.blt (.isi .str) (.idx (.var 0) (.const (.int 0))))) (.cmp .NotIn (.idx (.var 0) (.const (.int 0))) (.tup (.cons (.gc "INT" c_INT) (.cons (.gc "TEXT" c_TEXT) .nil)))))) (.cons (.ret (.const (.bl false)))
    .nil) .nil)
    (.cons (.ret (.blt (.isi .bool) (.idx (.var 0) (.const (.int 1)))))
    .nil))⟩
def F_fits_columns : Fn := ⟨"fits_columns", ["value"], ["value", "one"],
    (.cons (.ret (.and (.call 1 (.cons (.var 0) (.cons (.const (.int 1)) (.cons (.gc "COLUMNS" c_COLUMNS) .nil)))) (.and (.blt .all (.new (.comp [1] (.call 5 (.cons (.var 1) .nil)) (.name 1) (.val (.var 0)) .no))) (.cmp .Eq (.idx (.var 0) (.const (.int 0))) (.gc "KEY" c_KEY)))))
    .nil)⟩
def F_fits_rule_shape : Fn := ⟨"fits_rule_shape", ["columns", "many", "value"], ["columns", "many", "value"],
    (.cons (.iff (.or (.not (.call 1 (.cons (.var 2) (.cons (.const (.int 2)) (.cons (.const (.int 3)) .nil))))) (.not (.blt (.isi .str) (.idx (.var 2) (.const (.int 0)))))) (.cons (.ret (.const (.bl false)))
    .nil) .nil)
    (.cons (.iff (.cmp .Eq (.idx (.var 2) (.const (.int 0))) (.const (.str "check"))) (.cons (.ret (.cmp .Eq (.blt .len (.var 2)) (.const (.int 2))))
    .nil) .nil)
    (.cons (.iff (.not (.call 0 (.cons (.idx (.var 2) (.const (.int 1))) (.cons (.const (.int 1)) (.cons (.bin .Sub (.blt .len (.var 0)) (.const (.int 1))) .nil))))) (.cons (.ret (.const (.bl false)))
    .nil) .nil)
    (.cons (.iff (.cmp .Eq (.idx (.var 2) (.const (.int 0))) (.const (.str "unique"))) (.cons (.ret (.cmp .Eq (.blt .len (.var 2)) (.const (.int 2))))
    .nil) .nil)
    (.cons (.ret (.and (.cmp .Eq (.idx (.var 2) (.const (.int 0))) (.const (.str "refer"))) (.and (.cmp .Eq (.blt .len (.var 2)) (.const (.int 3))) (.and (.call 0 (.cons (.idx (.var 2) (.const (.int 2))) (.cons (.const (.int 0)) (.cons (.bin .Sub (.var 1) (.const (.int 1))) .nil)))) (.cmp .Eq (.idx (.idx (.var 0) (.idx (.var 2) (.const (.int 1)))) (.const (.int 0))) (.gc "INT" c_INT))))))
    .nil)))))⟩
def F_fits_row : Fn := ⟨"fits_row", ["columns", "value"], ["columns", "value", "many", "cell", "sort", "may"],
    (.cons (.asg (.name 2) (.blt .len (.var 0)))
    (.cons (.iff (.not (.call 1 (.cons (.var 1) (.cons (.var 2) (.cons (.var 2) .nil))))) (.cons (.ret (.const (.bl false)))
    .nil) .nil)
    (.cons (.ret (.blt .all (.new (.comp [3, 4, 5] (.or (.and (.cmp .Is (.var 3) (.const .non)) (.var 5)) (.call 54 (.cons (.var 4) (.cons (.var 3) .nil)))) (.two (.two (.name 4) (.name 5)) (.name 3)) (.zip (.var 0) (.var 1)) .no))))
    .nil)))⟩
def F_fits_rows : Fn := ⟨"fits_rows", ["columns", "value"], ["columns", "value", "one", "other"],
    (.cons (.iff (.or (.not (.call 1 (.cons (.var 1) (.cons (.const (.int 0)) (.cons (.gc "ROWS" c_ROWS) .nil))))) (.not (.blt .all (.new (.comp [2] (.call 55 (.cons (.var 0) (.cons (.var 2) .nil))) (.name 2) (.val (.var 1)) .no))))) (.cons (.ret (.const (.bl false)))
    .nil) .nil)
    (.cons (.ret (.blt .all (.new (.comp [2, 3] (.cmp .Lt (.idx (.var 2) (.const (.int 0))) (.idx (.var 3) (.const (.int 0)))) (.two (.name 2) (.name 3)) (.zip (.var 1) (.slc (.var 1) (.is (.const (.int 1))) .no)) .no))))
    .nil))⟩
def F_fits_state : Fn := ⟨"fits_state", ["schema", "value"], ["schema", "value", "many", "table", "rows"],
    (.cons (.asg (.name 2) (.blt .len (.var 0)))
    (.cons (.iff (.not (.call 1 (.cons (.var 1) (.cons (.var 2) (.cons (.var 2) .nil))))) (.cons (.ret (.const (.bl false)))
    .nil) .nil)
    (.cons (.ret (.blt .all (.new (.comp [3, 4] (.call 73 (.cons (.idx (.var 3) (.const (.int 0))) (.cons (.var 4) .nil))) (.two (.name 3) (.name 4)) (.zip (.var 0) (.var 1)) .no))))
    .nil)))⟩
def F_refuse_schema : Fn := ⟨"refuse_schema", [], [],
    (.cons (.raise 1 "not a schema")
    .nil)⟩
def F_sort_of_value : Fn := ⟨"sort_of_value", ["value"], ["value"],
    (.cons (.ret (.ite (.cmp .Is (.var 0) (.const .non)) (.gc "ANY" c_ANY) (.ite (.call 3 (.cons (.var 0) .nil)) (.gc "INT" c_INT) (.gc "TEXT" c_TEXT))))
    .nil)⟩
def F_joined_sort : Fn := ⟨"joined_sort", ["one", "other"], ["one", "other"],
    (.cons (.iff (.or (.cmp .Is (.var 0) (.const .non)) (.cmp .Is (.var 1) (.const .non))) (.cons (.ret (.const .non))
    .nil) .nil)
    (.cons (.ret (.ite (.cmp .Eq (.var 0) (.gc "ANY" c_ANY)) (.var 1) (.ite (.cmp .In (.var 1) (.tup (.cons (.var 0) (.cons (.gc "ANY" c_ANY) .nil)))) (.var 0) (.const .non))))
    .nil))⟩
def F_sort_of : Fn := ⟨"sort_of", ["sources", "value", "deep"], ["sources", "value", "deep", "columns", "both", "one"],
    (.cons (.iff (.or (.cmp .Gt (.var 2) (.gc "DEEP" c_DEEP)) (.or (.not (.call 1 (.cons (.var 1) (.cons (.const (.int 2)) (.cons (.const (.int 3)) .nil))))) (.not (.blt (.isi .str) (.idx (.var 1) (.const (.int 0))))))) (.cons (.ret (.const .non))
    .nil) .nil)
    (.cons (.iff (.and (.cmp .Eq (.idx (.var 1) (.const (.int 0))) (.const (.str "value"))) (.cmp .Eq (.blt .len (.var 1)) (.const (.int 2)))) (.cons (.ret (.ite (.call 4 (.cons (.idx (.var 1) (.const (.int 1))) .nil)) (.call 9 (.cons (.idx (.var 1) (.const (.int 1))) .nil)) (.const .non)))
    .nil) .nil)
    (.cons (.iff (.and (.cmp .Eq (.idx (.var 1) (.const (.int 0))) (.const (.str "col"))) (.and (.cmp .Eq (.blt .len (.var 1)) (.const (.int 3))) (.call 0 (.cons (.idx (.var 1) (.const (.int 1))) (.cons (.const (.int 0)) (.cons (.bin .Sub (.blt .len (.var 0)) (.const (.int 1))) .nil)))))) (.cons (.asg (.name 3) (.idx (.var 0) (.idx (.var 1) (.const (.int 1)))))
    (.cons (.ret (.ite (.call 0 (.cons (.idx (.var 1) (.const (.int 2))) (.cons (.const (.int 0)) (.cons (.bin .Sub (.blt .len (.var 3)) (.const (.int 1))) .nil)))) (.idx (.idx (.var 3) (.idx (.var 1) (.const (.int 2)))) (.const (.int 0))) (.const .non)))
    .nil)) .nil)
    (.cons (.iff (.and (.cmp .Eq (.idx (.var 1) (.const (.int 0))) (.const (.str "plus"))) (.cmp .Eq (.blt .len (.var 1)) (.const (.int 3)))) (.cons (.asg (.name 4) (.new (.comp [5] (.call 10 (.cons (.gc "INT" c_INT) (.cons (.call 11 (.cons (.var 0) (.cons (.var 5) (.cons (.bin .Add (.var 2) (.const (.int 1))) .nil)))) .nil))) (.name 5) (.val (.slc (.var 1) (.is (.const (.int 1))) .no)) .no)))
    (.cons (.ret (.ite (.cmp .Eq (.var 4) (.new (.lst (.cons (.gc "INT" c_INT) (.cons (.gc "INT" c_INT) .nil))))) (.gc "INT" c_INT) (.const .non)))
    .nil)) .nil)
    (.cons (.ret (.const .non))
    .nil)))))⟩
def F_fits_leaf : Fn := ⟨"fits_leaf", ["sources", "value", "deep"], ["sources", "value", "deep", "sort", "one"],
    (.cons (.iff (.and (.cmp .In (.idx (.var 1) (.const (.int 0))) (.gc "COMPARED" c_COMPARED)) (.cmp .Eq (.blt .len (.var 1)) (.const (.int 3)))) (.cons (.ret (.cmp .IsNot (.call 10 (.cons (.call 11 (.cons (.var 0) (.cons (.idx (.var 1) (.const (.int 1))) (.cons (.bin .Add (.var 2) (.const (.int 1))) .nil)))) (.cons (.call 11 (.cons (.var 0) (.cons (.idx (.var 1) (.const (.int 2))) (.cons (.bin .Add (.var 2) (.const (.int 1))) .nil)))) .nil))) (.const .non)))
    .nil) .nil)
    (.cons (.iff (.and (.cmp .Eq (.idx (.var 1) (.const (.int 0))) (.const (.str "null"))) (.cmp .Eq (.blt .len (.var 1)) (.const (.int 2)))) (.cons (.ret (.cmp .IsNot (.call 11 (.cons (.var 0) (.cons (.idx (.var 1) (.const (.int 1))) (.cons (.bin .Add (.var 2) (.const (.int 1))) .nil)))) (.const .non)))
    .nil) .nil)
    (.cons (.iff (.or (.cmp .NotEq (.idx (.var 1) (.const (.int 0))) (.const (.str "in"))) (.or (.cmp .NotEq (.blt .len (.var 1)) (.const (.int 3))) (.not (.call 1 (.cons (.idx (.var 1) (.const (.int 2))) (.cons (.const (.int 0)) (.cons (.gc "IN" c_IN) .nil))))))) (.cons (.ret (.const (.bl false)))
    .nil) .nil)
    (.cons (.iff (.not (.blt .all (.new (.comp [4] (.call 4 (.cons (.var 4) .nil)) (.name 4) (.val (.idx (.var 1) (.const (.int 2)))) .no)))) (.cons (.ret (.const (.bl false)))
    .nil) .nil)
    (.cons (.asg (.name 3) (.call 11 (.cons (.var 0) (.cons (.idx (.var 1) (.const (.int 1))) (.cons (.bin .Add (.var 2) (.const (.int 1))) .nil)))))
    (.cons (.for (.name 4) (.val (.idx (.var 1) (.const (.int 2)))) (.cons (.asg (.name 3) (.call 10 (.cons (.var 3) (.cons (.call 9 (.cons (.var 4) .nil)) .nil))))
    .nil))
    (.cons (.ret (.cmp .IsNot (.var 3) (.const .non)))
    .nil)))))))⟩
def F_fits_test : Fn := ⟨"fits_test", ["sources", "value"], ["sources", "value", "line", "many", "one", "deep", "part"],
    (.cons (.par [2, 3] (.cons (.newm (.lst (.cons (.tup (.cons (.var 1) (.cons (.const (.int 1)) .nil))) .nil))) (.cons (.const (.int 0)) .nil)))
    (.cons (.whl (.cmp .NotEq (.var 2) (.new (.lst .nil))) (.cons (.asg (.tg (.two (.name 4) (.name 5))) (.pop (.var 2)))
    (.cons (.asg (.name 3) (.bin .Add (.var 3) (.const (.int 1))))
    (.cons (.iff (.or (.cmp .Gt (.var 3) (.gc "PARTS" c_PARTS)) (.or (.cmp .Gt (.var 5) (.gc "DEEP" c_DEEP)) (.or (.not (.call 1 (.cons (.var 4) (.cons (.const (.int 2)) (.cons (.const (.int 3)) .nil))))) (.not (.blt (.isi .str) (.idx (.var 4) (.const (.int 0)))))))) (.cons (.ret (.const (.bl false)))
    .nil) .nil)
    (.cons (.iff (.or (.and (.cmp .In (.idx (.var 4) (.const (.int 0))) (.gc "JOINED" c_JOINED)) (.cmp .Eq (.blt .len (.var 4)) (.const (.int 3)))) (.and (.cmp .Eq (.idx (.var 4) (.const (.int 0))) (.const (.str "not"))) (.cmp .Eq (.blt .len (.var 4)) (.const (.int 2))))) (.cons (.augl 2 (.newm (.comp [6] (.tup (.cons (.var 6) (.cons (.bin .Add (.var 5) (.const (.int 1))) .nil))) (.name 6) (.val (.slc (.var 4) (.is (.const (.int 1))) .no)) .no)))
    .nil) (.cons (.iff (.not (.call 12 (.cons (.var 0) (.cons (.var 4) (.cons (.var 5) .nil))))) (.cons (.ret (.const (.bl false)))
    .nil) .nil)
    .nil))
    .nil)))))
    (.cons (.ret (.const (.bl true)))
    .nil)))⟩
def F_fits_rule : Fn := ⟨"fits_rule", ["columns", "many", "value"], ["columns", "many", "value"],
    (.cons (.ret (.and (.call 7 (.cons (.var 0) (.cons (.var 1) (.cons (.var 2) .nil)))) (.or (.cmp .NotEq (.idx (.var 2) (.const (.int 0))) (.const (.str "check"))) (.call 13 (.cons (.tup (.cons (.var 0) .nil)) (.cons (.idx (.var 2) (.const (.int 1))) .nil))))))
    .nil)⟩
def F_fits_table : Fn := ⟨"fits_table", ["many", "value"], ["many", "value", "one"],
    (.cons (.iff (.or (.not (.call 1 (.cons (.var 1) (.cons (.const (.int 2)) (.cons (.const (.int 2)) .nil))))) (.or (.not (.call 6 (.cons (.idx (.var 1) (.const (.int 0))) .nil))) (.not (.call 1 (.cons (.idx (.var 1) (.const (.int 1))) (.cons (.const (.int 0)) (.cons (.gc "RULES" c_RULES) .nil))))))) (.cons (.ret (.const (.bl false)))
    .nil) .nil)
    (.cons (.ret (.blt .all (.new (.comp [2] (.call 14 (.cons (.idx (.var 1) (.const (.int 0))) (.cons (.var 0) (.cons (.var 2) .nil)))) (.name 2) (.val (.idx (.var 1) (.const (.int 1)))) .no))))
    .nil))⟩
def F_fits_schema : Fn := ⟨"fits_schema", ["value"], ["value", "one"],
    (.cons (.ret (.and (.call 1 (.cons (.var 0) (.cons (.const (.int 1)) (.cons (.gc "TABLES" c_TABLES) .nil)))) (.blt .all (.new (.comp [1] (.call 15 (.cons (.blt .len (.var 0)) (.cons (.var 1) .nil))) (.name 1) (.val (.var 0)) .no)))))
    .nil)⟩
def F_need_schema : Fn := ⟨"need_schema", ["value"], ["value"],
    (.cons (.iff (.not (.call 16 (.cons (.var 0) .nil))) (.cons (.expr (.call 8 .nil))
    .nil) .nil)
    .nil)⟩
def F_is_schema : Fn := ⟨"is_schema", ["value"], ["value"],
    (.cons (.ret (.call 16 (.cons (.var 0) .nil)))
    .nil)⟩
def F_is_state : Fn := ⟨"is_state", ["schema", "value"], ["schema", "value"],
    (.cons (.expr (.call 17 (.cons (.var 0) .nil)))
    (.cons (.ret (.call 74 (.cons (.var 0) (.cons (.var 1) .nil))))
    .nil))⟩
def F__law_cup : Fn := ⟨"_law_cup", ["script"], ["script", "cell"],
    (.cons (.asg (.name 1) (.blt .abs (.idx (.bin .Add (.new (.listOf (.var 0))) (.new (.lst (.cons (.const (.int 0)) .nil)))) (.const (.int 0)))))
    (.cons (.ret (.newm (.lst (.cons (.ite (.cmp .GtE (.var 1) (.bin .Pow (.const (.int 10)) (.const (.int 18)))) (.bin .FloorDiv (.var 1) (.const (.int 109))) (.const (.int 0))) (.cons (.bin .Add (.bin .Mod (.blt .int (.bin .Add (.bin .Mult (.var 1) (.const (.int 347))) (.const (.int 3701)))) (.const (.int 2077503017))) (.const (.int 223))) .nil)))))
    .nil))⟩
def F__law_roll : Fn := ⟨"_law_roll", ["cup", "many"], ["cup", "many", "deep", "found"],
    (.cons (.iff (.cmp .Gt (.idx (.var 0) (.const (.int 0))) (.const (.int 0))) (.cons (.asg (.name 3) (.bin .Mod (.blt .int (.idx (.var 0) (.const (.int 0)))) (.var 1)))
    (.cons (.asg (.idx (.var 0) (.const (.int 0))) (.bin .FloorDiv (.idx (.var 0) (.const (.int 0))) (.var 1)))
    (.cons (.ret (.var 3))
    .nil))) .nil)
    (.cons (.asg (.idx (.var 0) (.const (.int 1))) (.bin .Mod (.blt .int (.bin .Add (.bin .Mult (.idx (.var 0) (.const (.int 1))) (.const (.int 31147))) (.const (.int 8093)))) (.const (.int 2147483249))))
    (.cons (.asg (.name 2) (.bin .Mod (.blt .int (.bin .Mult (.idx (.var 0) (.const (.int 1))) (.bin .Add (.idx (.var 0) (.const (.int 1))) (.const (.int 281))))) (.const (.int 2147483587))))
    (.cons (.ret (.bin .Mod (.blt .int (.bin .FloorDiv (.var 2) (.const (.int 881)))) (.var 1)))
    .nil))))⟩
def F__law_some : Fn := ⟨"_law_some", ["cup", "things"], ["cup", "things"],
    (.cons (.ret (.idx (.var 1) (.call 30 (.cons (.var 0) (.cons (.blt .len (.var 1)) .nil)))))
    .nil)⟩
def F__law_schema : Fn := ⟨"_law_schema", ["cup"], ["cup", "columns", "first", "rules"],
    (.cons (.asg (.name 1) (.tup (.cons (.tup (.cons (.const (.str "int")) (.cons (.const (.bl false)) .nil))) (.cons (.tup (.cons (.const (.str "word")) (.cons (.const (.bl true)) .nil))) (.cons (.tup (.cons (.const (.str "int")) (.cons (.call 31 (.cons (.var 0) (.cons (.new (.lst (.cons (.const (.bl true)) (.cons (.const (.bl false)) .nil)))) .nil))) .nil))) .nil)))))
    (.cons (.asg (.name 2) (.tup (.cons (.var 1) (.cons (.call 31 (.cons (.var 0) (.cons (.new (.lst (.cons (.tup .nil) (.cons (.tup (.cons (.tup (.cons (.const (.str "unique")) (.cons (.const (.int 1)) .nil))) .nil)) (.cons (.tup (.cons (.tup (.cons (.const (.str "check")) (.cons (.tup (.cons (.const (.str "less")) (.cons (.tup (.cons (.const (.str "value")) (.cons (.neg (.const (.int 9))) .nil))) (.cons (.tup (.cons (.const (.str "col")) (.cons (.const (.int 0)) (.cons (.const (.int 2)) .nil)))) .nil)))) .nil))) .nil)) .nil))))) .nil))) .nil))))
    (.cons (.asg (.name 3) (.call 31 (.cons (.var 0) (.cons (.new (.lst (.cons (.tup .nil) (.cons (.tup (.cons (.tup (.cons (.const (.str "refer")) (.cons (.const (.int 1)) (.cons (.const (.int 0)) .nil)))) .nil)) (.cons (.tup (.cons (.tup (.cons (.const (.str "refer")) (.cons (.const (.int 1)) (.cons (.const (.int 0)) .nil)))) (.cons (.tup (.cons (.const (.str "unique")) (.cons (.const (.int 2)) .nil))) .nil))) .nil))))) .nil))))
    (.cons (.ret (.tup (.cons (.var 2) (.cons (.tup (.cons (.tup (.cons (.tup (.cons (.const (.str "int")) (.cons (.const (.bl false)) .nil))) (.cons (.tup (.cons (.const (.str "int")) (.cons (.const (.bl true)) .nil))) (.cons (.tup (.cons (.const (.str "int")) (.cons (.const (.bl true)) .nil))) .nil)))) (.cons (.var 3) .nil))) .nil))))
    .nil))))⟩
def F__law_value : Fn := ⟨"_law_value", ["cup", "column"], ["cup", "column"],
    (.cons (.iff (.and (.idx (.var 1) (.const (.int 1))) (.cmp .Eq (.call 30 (.cons (.var 0) (.cons (.const (.int 4)) .nil))) (.const (.int 0)))) (.cons (.ret (.const .non))
    .nil) .nil)
    (.cons (.ret (.ite (.cmp .Eq (.idx (.var 1) (.const (.int 0))) (.const (.str "int"))) (.call 30 (.cons (.var 0) (.cons (.const (.int 5)) .nil))) (.call 31 (.cons (.var 0) (.cons (.new (.lst (.cons (.const (.str "a")) (.cons (.const (.str "b")) (.cons (.const (.str "ab")) (.cons (.const (.str "c")) .nil)))))) .nil)))))
    .nil))⟩
def F__law_state : Fn := ⟨"_law_state", ["cup", "schema", "most"], ["cup", "schema", "most", "tables", "columns", "rules", "keys", "turn", "key", "one"],
    (.cons (.asg (.name 3) (.newm (.lst .nil)))
    (.cons (.for (.two (.name 4) (.name 5)) (.val (.var 1)) (.cons (.asg (.name 6) (.srt (.new (.comp [7] (.call 30 (.cons (.var 0) (.cons (.bin .Add (.var 2) (.const (.int 2))) .nil))) (.name 7) (.rng1 (.call 30 (.cons (.var 0) (.cons (.bin .Add (.var 2) (.const (.int 1))) .nil)))) .no))))
    (.cons (.app (.var 3) (.blt .tuple (.new (.comp [8] (.bin .Add (.tup (.cons (.var 8) .nil)) (.blt .tuple (.new (.comp [9] (.call 67 (.cons (.var 0) (.cons (.var 9) .nil))) (.name 9) (.val (.slc (.var 4) (.is (.const (.int 1))) .no)) .no)))) (.name 8) (.val (.var 6)) .no))))
    .nil)))
    (.cons (.ret (.blt .tuple (.var 3)))
    .nil)))⟩
def F_law : Fn := ⟨"law", ["script"], ["script", "cup", "turn", "table", "rows", "rules", "odds", "columns", "odd", "many", "schema", "state", "first", "near", "bads", "bad", "key", "test", "row", "at"],
    (.cons (.asg (.name 1) (.call 29 (.cons (.var 0) .nil)))
    (.cons (.for (.name 2) (.rng1 (.const (.int 4))) (.cons (.asg (.name 10) (.call 32 (.cons (.var 1) .nil)))
    (.cons (.asg (.name 11) (.call 77 (.cons (.var 1) (.cons (.var 10) (.cons (.const (.int 5)) .nil)))))
    (.cons (.iff (.or (.cmp .IsNot (.call 75 (.cons (.var 10) .nil)) (.const (.bl true))) (.or (.cmp .IsNot (.call 76 (.cons (.var 10) (.cons (.var 11) .nil))) (.const (.bl true))) (.cmp .IsNot (.call 76 (.cons (.var 10) (.cons (.slc (.var 11) .no (.is (.const (.int 1)))) .nil))) (.const (.bl false))))) (.cons (.ret (.const (.bl false)))
    .nil) .nil)
    (.cons (.asg (.name 12) (.idx (.var 11) (.const (.int 0))))
    (.cons (.asg (.name 13) (.tup (.cons (.rev (.var 12)) (.cons (.idx (.var 11) (.const (.int 1))) .nil))))
    (.cons (.iff (.cmp .NotEq (.blt .repr (.new (.lst (.cons (.call 76 (.cons (.var 10) (.cons (.var 13) .nil))) (.cons (.call 76 (.cons (.var 10) (.cons (.tup (.cons (.bin .Add (.var 12) (.slc (.var 12) .no (.is (.const (.int 1))))) (.cons (.idx (.var 11) (.const (.int 1))) .nil))) .nil))) .nil))))) (.blt .repr (.new (.lst (.cons (.cmp .Lt (.blt .len (.var 12)) (.const (.int 2))) (.cons (.cmp .Eq (.var 12) (.tup .nil)) .nil)))))) (.cons (.ret (.const (.bl false)))
    .nil) .nil)
    (.cons (.asg (.name 14) (.new (.lst (.cons (.tup (.cons (.const (.int 7)) (.cons (.const (.str "a")) .nil))) (.cons (.tup (.cons (.const (.int 7)) (.cons (.const (.int 3)) (.cons (.const (.int 0)) .nil)))) (.cons (.tup (.cons (.const (.int 7)) (.cons (.const (.str "a")) (.cons (.const (.str "b")) .nil)))) (.cons (.tup (.cons (.const .non) (.cons (.const (.str "a")) (.cons (.const (.int 0)) .nil)))) (.cons (.tup (.cons (.const (.int 7)) (.cons (.const (.str "A")) (.cons (.const (.int 0)) .nil)))) (.cons (.tup (.cons (.const (.int 7)) (.cons (.const (.str "a")) (.cons (.const (.bl true)) .nil)))) (.cons (.new (.lst (.cons (.const (.int 7)) (.cons (.const (.str "a")) (.cons (.const (.int 0)) .nil))))) (.cons (.tup (.cons (.const (.int 7)) (.cons (.const (.str "abcdefghi")) (.cons (.const (.int 0)) .nil)))) (.cons (.tup (.cons (.const (.int 7)) (.cons (.const (.str "")) (.cons (.const (.int 0)) .nil)))) .nil))))))))))))
    (.cons (.for (.name 15) (.val (.bin .Add (.var 14) (.new (.lst (.cons (.tup (.cons (.bin .Add (.bin .Pow (.const (.int 10)) (.const (.int 9))) (.const (.int 1))) (.cons (.const (.str "a")) (.cons (.const (.int 0)) .nil)))) (.cons (.tup (.cons (.const (.bl true)) (.cons (.const (.str "a")) (.cons (.const (.int 0)) .nil)))) .nil)))))) (.cons (.iff (.cmp .IsNot (.call 76 (.cons (.var 10) (.cons (.tup (.cons (.tup (.cons (.var 15) .nil)) (.cons (.tup .nil) .nil))) .nil))) (.const (.bl false))) (.cons (.ret (.const (.bl false)))
    .nil) .nil)
    .nil))
    (.cons (.iff (.or (.cmp .NotEq (.blt .repr (.call 76 (.cons (.var 10) (.cons (.tup (.cons (.tup (.cons (.tup (.cons (.const (.int 7)) (.cons (.const (.str "a")) (.cons (.const .non) .nil)))) .nil)) (.cons (.tup .nil) .nil))) .nil)))) (.blt .repr (.idx (.idx (.idx (.idx (.var 10) (.const (.int 0))) (.const (.int 0))) (.const (.int 2))) (.const (.int 1))))) (.cmp .IsNot (.call 76 (.cons (.var 10) (.cons (.tup (.cons (.tup (.cons (.tup (.cons (.neg (.bin .Pow (.const (.int 10)) (.const (.int 9)))) (.cons (.const .non) (.cons (.bin .Pow (.const (.int 10)) (.const (.int 9))) .nil)))) .nil)) (.cons (.tup .nil) .nil))) .nil))) (.const (.bl true)))) (.cons (.ret (.const (.bl false)))
    .nil) .nil)
    .nil))))))))))
    (.cons (.asg (.tg (.two (.name 16) (.name 17))) (.tup (.cons (.tup (.cons (.const (.str "int")) (.cons (.const (.bl false)) .nil))) (.cons (.tup (.cons (.const (.str "null")) (.cons (.tup (.cons (.const (.str "col")) (.cons (.const (.int 0)) (.cons (.const (.int 0)) .nil)))) .nil))) .nil))))
    (.cons (.asg (.name 3) (.tup (.cons (.tup (.cons (.var 16) (.cons (.tup (.cons (.const (.str "int")) (.cons (.const (.bl true)) .nil))) .nil))) (.cons (.tup .nil) .nil))))
    (.cons (.asg (.name 4) (.new (.lst (.cons (.tup (.cons (.tup (.cons (.var 3) .nil)) (.cons (.const (.bl true)) .nil))) (.cons (.tup (.cons (.bin .Mult (.tup (.cons (.var 3) .nil)) (.const (.int 4))) (.cons (.const (.bl true)) .nil))) (.cons (.tup (.cons (.bin .Mult (.tup (.cons (.var 3) .nil)) (.const (.int 5))) (.cons (.const (.bl false)) .nil))) (.cons (.tup (.cons (.tup .nil) (.cons (.const (.bl false)) .nil))) (.cons (.tup (.cons (.const .non) (.cons (.const (.bl false)) .nil))) (.cons (.tup (.cons (.new (.lst (.cons (.var 3) .nil))) (.cons (.const (.bl false)) .nil))) .nil)))))))))
    (.cons (.asg (.name 4) (.bin .Add (.var 4) (.new (.lst (.cons (.tup (.cons (.tup (.cons (.slc (.var 3) .no (.is (.const (.int 1)))) .nil)) (.cons (.const (.bl false)) .nil))) (.cons (.tup (.cons (.tup (.cons (.tup (.cons (.tup (.cons (.tup (.cons (.const (.str "int")) (.cons (.const (.bl true)) .nil))) .nil)) (.cons (.tup .nil) .nil))) .nil)) (.cons (.const (.bl false)) .nil))) (.cons (.tup (.cons (.tup (.cons (.bin .Add (.var 3) (.tup (.cons (.tup .nil) .nil))) .nil)) (.cons (.const (.bl false)) .nil))) (.cons (.tup (.cons (.tup (.cons (.new (.lst (.cons (.idx (.var 3) (.const (.int 0))) (.cons (.tup .nil) .nil)))) .nil)) (.cons (.const (.bl false)) .nil))) .nil))))))))
    (.cons (.asg (.name 4) (.bin .Add (.var 4) (.new (.lst (.cons (.tup (.cons (.tup (.cons (.tup (.cons (.idx (.var 3) (.const (.int 0))) (.cons (.new (.lst .nil)) .nil))) .nil)) (.cons (.const (.bl false)) .nil))) .nil)))))
    (.cons (.asg (.name 4) (.bin .Add (.var 4) (.new (.lst (.cons (.tup (.cons (.tup (.cons (.tup (.cons (.tup (.cons (.var 16) .nil)) (.cons (.tup .nil) .nil))) .nil)) (.cons (.const (.bl true)) .nil))) (.cons (.tup (.cons (.tup (.cons (.tup (.cons (.bin .Mult (.tup (.cons (.var 16) .nil)) (.const (.int 6))) (.cons (.tup .nil) .nil))) .nil)) (.cons (.const (.bl true)) .nil))) (.cons (.tup (.cons (.tup (.cons (.tup (.cons (.bin .Mult (.tup (.cons (.var 16) .nil)) (.const (.int 7))) (.cons (.tup .nil) .nil))) .nil)) (.cons (.const (.bl false)) .nil))) (.cons (.tup (.cons (.tup (.cons (.tup (.cons (.tup .nil) (.cons (.tup .nil) .nil))) .nil)) (.cons (.const (.bl false)) .nil))) .nil))))))))
    (.cons (.asg (.name 4) (.bin .Add (.var 4) (.new (.lst (.cons (.tup (.cons (.tup (.cons (.tup (.cons (.tup (.cons (.tup (.cons (.const (.str "word")) (.cons (.const (.bl false)) .nil))) .nil)) (.cons (.tup .nil) .nil))) .nil)) (.cons (.const (.bl false)) .nil))) (.cons (.tup (.cons (.tup (.cons (.tup (.cons (.new (.listOf (.idx (.var 3) (.const (.int 0))))) (.cons (.tup .nil) .nil))) .nil)) (.cons (.const (.bl false)) .nil))) .nil))))))
    (.cons (.asg (.name 5) (.new (.lst (.cons (.tup (.cons (.const (.str "unique")) (.cons (.const (.int 1)) .nil))) (.cons (.tup (.cons (.const (.str "refer")) (.cons (.const (.int 1)) (.cons (.const (.int 0)) .nil)))) (.cons (.tup (.cons (.const (.str "check")) (.cons (.var 17) .nil))) (.cons (.tup (.cons (.const (.str "unique")) (.cons (.const (.int 1)) .nil))) .nil)))))))
    (.cons (.asg (.name 4) (.bin .Add (.var 4) (.new (.lst (.cons (.tup (.cons (.tup (.cons (.tup (.cons (.idx (.var 3) (.const (.int 0))) (.cons (.blt .tuple (.var 5)) .nil))) .nil)) (.cons (.const (.bl true)) .nil))) (.cons (.tup (.cons (.tup (.cons (.tup (.cons (.idx (.var 3) (.const (.int 0))) (.cons (.bin .Add (.blt .tuple (.var 5)) (.tup (.cons (.idx (.var 5) (.const (.int 0))) .nil))) .nil))) .nil)) (.cons (.const (.bl false)) .nil))) .nil))))))
    (.cons (.asg (.name 6) (.new (.lst (.cons (.tup (.cons (.const (.str "unique")) (.cons (.const (.int 0)) .nil))) (.cons (.tup (.cons (.const (.str "unique")) (.cons (.const (.int 2)) .nil))) (.cons (.tup (.cons (.const (.str "unique")) (.cons (.const (.bl true)) .nil))) (.cons (.tup (.cons (.const (.str "unique")) .nil)) (.cons (.tup (.cons (.const (.str "refer")) (.cons (.const (.int 1)) (.cons (.const (.int 1)) .nil)))) (.cons (.tup (.cons (.const (.str "refer")) (.cons (.const (.int 0)) (.cons (.const (.int 0)) .nil)))) (.cons (.tup (.cons (.const (.str "refer")) (.cons (.const (.int 1)) .nil))) (.cons (.tup (.cons (.const (.str "refer")) (.cons (.const (.int 1)) (.cons (.neg (.const (.int 1))) .nil)))) .nil)))))))))))
    (.cons (.asg (.name 6) (.bin .Add (.var 6) (.new (.lst (.cons (.tup (.cons (.const (.str "refer")) (.cons (.const (.int 1)) (.cons (.const (.bl false)) .nil)))) (.cons (.tup (.cons (.const (.str "refer")) (.cons (.const (.bl true)) (.cons (.const (.int 0)) .nil)))) (.cons (.tup (.cons (.const (.str "refer")) (.cons (.const (.int 1)) (.cons (.const .non) .nil)))) .nil)))))))
    (.cons (.asg (.name 6) (.bin .Add (.var 6) (.new (.lst (.cons (.tup (.cons (.const (.str "check")) (.cons (.const .non) .nil))) (.cons (.tup (.cons (.const (.str "check")) (.cons (.tup (.cons (.const (.str "null")) (.cons (.tup (.cons (.const (.str "col")) (.cons (.const (.int 1)) (.cons (.const (.int 0)) .nil)))) .nil))) .nil))) .nil))))))
    (.cons (.asg (.name 6) (.bin .Add (.var 6) (.new (.lst (.cons (.tup (.cons (.const (.str "check")) (.cons (.var 17) (.cons (.const (.int 0)) .nil)))) (.cons (.tup (.cons (.const (.str "Unique")) (.cons (.const (.int 1)) .nil))) (.cons (.new (.lst (.cons (.const (.str "unique")) (.cons (.const (.int 1)) .nil)))) (.cons (.tup (.cons (.const .non) (.cons (.const (.int 1)) .nil))) (.cons (.tup (.cons (.const (.str "refer")) (.cons (.const (.int 2)) (.cons (.const (.int 0)) .nil)))) (.cons (.tup (.cons (.const (.str "unique")) (.cons (.const (.int 1)) (.cons (.const (.int 0)) .nil)))) .nil))))))))))
    (.cons (.asg (.name 6) (.bin .Add (.var 6) (.new (.lst (.cons (.tup (.cons (.const (.str "check")) (.cons (.tup (.cons (.const (.str "same")) (.cons (.tup (.cons (.const (.str "col")) (.cons (.const (.int 0)) (.cons (.const (.int 0)) .nil)))) (.cons (.tup (.cons (.const (.str "value")) (.cons (.const (.str "a")) .nil))) .nil)))) .nil))) .nil)))))
    (.cons (.asg (.name 4) (.bin .Add (.var 4) (.new (.comp [8] (.tup (.cons (.tup (.cons (.tup (.cons (.idx (.var 3) (.const (.int 0))) (.cons (.tup (.cons (.var 8) .nil)) .nil))) .nil)) (.cons (.const (.bl false)) .nil))) (.name 8) (.val (.var 6)) .no))))
    (.cons (.asg (.name 4) (.bin .Add (.var 4) (.new (.lst (.cons (.tup (.cons (.tup (.cons (.var 3) (.cons (.tup (.cons (.idx (.var 3) (.const (.int 0))) (.cons (.tup (.cons (.tup (.cons (.const (.str "unique")) (.cons (.const (.int 0)) .nil))) .nil)) .nil))) .nil))) (.cons (.const (.bl false)) .nil))) (.cons (.tup (.cons (.tup (.cons (.var 3) (.cons (.tup (.cons (.tup (.cons (.tup (.cons (.const (.str "int")) (.cons (.const (.bl true)) .nil))) .nil)) (.cons (.tup .nil) .nil))) .nil))) (.cons (.const (.bl false)) .nil))) (.cons (.tup (.cons (.tup (.cons (.var 3) (.cons (.var 3) (.cons (.const .non) .nil)))) (.cons (.const (.bl false)) .nil))) .nil)))))))
    (.cons (.asg (.name 4) (.bin .Add (.var 4) (.new (.lst (.cons (.tup (.cons (.tup (.cons (.var 3) (.cons (.slc (.var 3) .no (.is (.const (.int 1)))) .nil))) (.cons (.const (.bl false)) .nil))) .nil)))))
    (.cons (.asg (.name 7) (.new (.lst (.cons (.tup (.cons (.const (.str "Int")) (.cons (.const (.bl false)) .nil))) (.cons (.tup (.cons (.const (.str "int")) .nil)) (.cons (.tup (.cons (.const (.str "int")) (.cons (.const (.int 0)) .nil))) (.cons (.tup (.cons (.const (.str "int")) (.cons (.const .non) .nil))) (.cons (.new (.lst (.cons (.const (.str "int")) (.cons (.const (.bl false)) .nil)))) (.cons (.tup (.cons (.const (.str "int")) (.cons (.const (.bl false)) (.cons (.const (.int 0)) .nil)))) (.cons (.tup (.cons (.const .non) (.cons (.const (.bl true)) .nil))) (.cons (.const (.str "int")) .nil)))))))))))
    (.cons (.asg (.name 4) (.bin .Add (.bin .Add (.var 4) (.new (.comp [8] (.tup (.cons (.tup (.cons (.tup (.cons (.tup (.cons (.var 16) (.cons (.var 8) .nil))) (.cons (.tup .nil) .nil))) .nil)) (.cons (.const (.bl false)) .nil))) (.name 8) (.val (.var 7)) .no))) (.new (.lst (.cons (.tup (.cons (.tup (.cons (.tup (.cons (.tup (.cons (.var 16) (.cons (.tup (.cons (.const (.str "word")) (.cons (.const (.bl true)) .nil))) .nil))) (.cons (.tup (.cons (.tup (.cons (.const (.str "refer")) (.cons (.const (.int 1)) (.cons (.const (.int 0)) .nil)))) .nil)) .nil))) .nil)) (.cons (.const (.bl false)) .nil))) .nil)))))
    (.cons (.iff (.cmp .NotEq (.new (.comp [18] (.var 18) (.name 18) (.val (.var 4)) (.is (.cmp .NotEq (.blt .repr (.call 75 (.cons (.idx (.var 18) (.const (.int 0))) .nil))) (.blt .repr (.idx (.var 18) (.const (.int 1)))))))) (.new (.lst .nil))) (.cons (.ret (.const (.bl false)))
    .nil) .nil)
    (.cons (.for (.name 8) (.val (.new (.comp [18] (.idx (.var 18) (.const (.int 0))) (.name 18) (.val (.var 4)) (.is (.not (.idx (.var 18) (.const (.int 1)))))))) (.cons (.iff (.cmp .NotEq (.word "_law_word" [(1, (.str "schema")), (5, (.str "state")), (6, (.str "test")), (2, (.str "query")), (7, (.str "row"))] (.str "") (.call 76 (.cons (.var 8) (.cons (.const .non) .nil)))) (.const (.str "schema"))) (.cons (.ret (.const (.bl false)))
    .nil) .nil)
    .nil))
    (.cons (.asg (.name 9) (.blt .tuple (.new (.comp [19] (.tup (.cons (.var 19) (.cons (.const .non) .nil))) (.name 19) (.rng1 (.const (.int 60))) .no))))
    (.cons (.iff (.or (.cmp .IsNot (.call 76 (.cons (.tup (.cons (.var 3) .nil)) (.cons (.tup (.cons (.var 9) .nil)) .nil))) (.const (.bl true))) (.cmp .IsNot (.call 76 (.cons (.tup (.cons (.var 3) .nil)) (.cons (.tup (.cons (.bin .Add (.var 9) (.tup (.cons (.tup (.cons (.const (.int 60)) (.cons (.const (.int 1)) .nil))) .nil))) .nil)) .nil))) (.const (.bl false)))) (.cons (.ret (.const (.bl false)))
    .nil) .nil)
    (.cons (.asg (.name 6) (.new (.lst (.cons (.tup (.cons (.tup .nil) .nil)) (.cons (.tup (.cons (.tup .nil) (.cons (.tup (.cons (.tup (.cons (.const (.int 1)) (.cons (.const .non) .nil))) (.cons (.tup (.cons (.const (.int 1)) (.cons (.const (.int 2)) .nil))) .nil))) .nil))) (.cons (.tup (.cons (.tup .nil) (.cons (.tup (.cons (.tup (.cons (.const (.int 3)) (.cons (.const (.int 1)) .nil))) (.cons (.tup (.cons (.const (.int 2)) (.cons (.const (.int 1)) .nil))) .nil))) .nil))) (.cons (.tup (.cons (.tup .nil) (.cons (.tup (.cons (.tup (.cons (.const (.int 1)) (.cons (.bin .Add (.bin .Pow (.const (.int 10)) (.const (.int 9))) (.const (.int 1))) .nil))) .nil)) .nil))) (.cons (.tup (.cons (.tup .nil) (.cons (.tup (.cons (.tup (.cons (.const (.int 1)) (.cons (.bin .Sub (.neg (.bin .Pow (.const (.int 10)) (.const (.int 9)))) (.const (.int 1))) .nil))) .nil)) .nil))) .nil))))))))
    (.cons (.asg (.name 6) (.bin .Add (.var 6) (.new (.lst (.cons (.tup (.cons (.tup .nil) (.cons (.tup (.cons (.tup (.cons (.bin .Sub (.neg (.bin .Pow (.const (.int 10)) (.const (.int 9)))) (.const (.int 1))) (.cons (.const (.int 1)) .nil))) .nil)) .nil))) (.cons (.tup (.cons (.tup .nil) (.cons (.tup (.cons (.tup (.cons (.const (.int 1)) (.cons (.const (.str "a")) .nil))) .nil)) .nil))) (.cons (.tup (.cons (.tup .nil) (.cons (.new (.lst (.cons (.tup (.cons (.const (.int 1)) (.cons (.const (.int 1)) .nil))) .nil))) .nil))) .nil)))))))
    (.cons (.iff (.or (.cmp .NotEq (.new (.comp [8] (.call 76 (.cons (.tup (.cons (.var 3) (.cons (.var 3) .nil))) (.cons (.var 8) .nil))) (.name 8) (.val (.var 6)) .no)) (.new (.rep (.lst (.cons (.const (.bl false)) .nil)) (.const (.int 8))))) (.cmp .IsNot (.call 76 (.cons (.tup (.cons (.var 3) (.cons (.var 3) .nil))) (.cons (.tup (.cons (.tup .nil) (.cons (.tup (.cons (.tup (.cons (.const (.int 1)) (.cons (.bin .Pow (.const (.int 10)) (.const (.int 9))) .nil))) (.cons (.tup (.cons (.const (.int 2)) (.cons (.neg (.bin .Pow (.const (.int 10)) (.const (.int 9)))) .nil))) .nil))) .nil))) .nil))) (.const (.bl true)))) (.cons (.ret (.const (.bl false)))
    .nil) .nil)
    (.cons (.ret (.cmp .Eq (.new (.comp [8] (.call 76 (.cons (.tup (.cons (.var 3) .nil)) (.cons (.var 8) .nil))) (.name 8) (.val (.tup (.cons (.const .non) (.cons (.tup .nil) (.cons (.new (.lst (.cons (.tup .nil) .nil))) (.cons (.tup (.cons (.new (.lst .nil)) .nil)) (.cons (.tup (.cons (.tup .nil) (.cons (.tup .nil) .nil))) .nil))))))) .no)) (.new (.rep (.lst (.cons (.const (.bl false)) .nil)) (.const (.int 5))))))
    .nil)))))))))))))))))))))))))))))⟩
def Pp : Prog := [(0, F_is_whole), (1, F_is_tuple_of), (2, F_is_word), (3, F_is_number), (4, F_fits_value), (54, F_fits_sort), (5, F_fits_column), (6, F_fits_columns), (7, F_fits_rule_shape), (55, F_fits_row), (73, F_fits_rows), (74, F_fits_state), (8, F_refuse_schema), (9, F_sort_of_value), (10, F_joined_sort), (11, F_sort_of), (12, F_fits_leaf), (13, F_fits_test), (14, F_fits_rule), (15, F_fits_table), (16, F_fits_schema), (17, F_need_schema), (75, F_is_schema), (76, F_is_state), (29, F__law_cup), (30, F__law_roll), (31, F__law_some), (32, F__law_schema), (67, F__law_value), (77, F__law_state), (78, F_law)]
def T : Tab := ⟨Pp, [("ANY", c_ANY), ("COLUMNS", c_COLUMNS), ("COMPARED", c_COMPARED), ("DEEP", c_DEEP), ("IN", c_IN), ("INT", c_INT), ("JOINED", c_JOINED), ("KEY", c_KEY), ("LETTERS", c_LETTERS), ("NUMBER", c_NUMBER), ("PARTS", c_PARTS), ("ROWS", c_ROWS), ("RULES", c_RULES), ("TABLES", c_TABLES), ("TEXT", c_TEXT), ("WORD", c_WORD)], [("InvalidSchema", 1), ("InvalidQuery", 2), ("InvalidState", 5), ("InvalidTest", 6), ("InvalidRow", 7)], ["abs", "all", "bool", "int", "isinstance", "len", "list", "range", "repr", "set", "sorted", "str", "tuple", "zip"], true, [(1, 1, true), (1, 2, false), (1, 5, false), (1, 6, false), (1, 7, false), (2, 1, false), (2, 2, true), (2, 5, false), (2, 6, false), (2, 7, false), (5, 1, false), (5, 2, false), (5, 5, true), (5, 6, false), (5, 7, false), (6, 1, false), (6, 2, false), (6, 5, false), (6, 6, true), (6, 7, false), (7, 1, false), (7, 2, false), (7, 5, false), (7, 6, false), (7, 7, true)], [⟨"_law_word", "call", [(1, (.str "schema")), (5, (.str "state")), (6, (.str "test")), (2, (.str "query")), (7, (.str "row"))], (.str "")⟩], ["law"]⟩
def depth : Nat := 60
def fuel : Nat := 100
end K00
set_option linter.all false
set_option maxRecDepth 100000
set_option maxHeartbeats 1000000
namespace K00
open Ev PySem
theorem ofS_inj {a b : String} (h : Str.ofString a = Str.ofString b) : a = b := by
  rw [Str.ofString_eq_toList, Str.ofString_eq_toList] at h
  have h1 := congrArg (fun s : Str => s.cps.toList) h
  have h2 : a.toList.map Char.toNat = b.toList.map Char.toNat := by simpa using h1
  have h3 : a.toList = b.toList := List.map_inj_right (fun x y e => Char.toNat_inj.mp e) |>.mp h2
  exact String.toList_inj.mp h3
@[simp] theorem ofS_iff {a b : String} : (Str.ofString a = Str.ofString b) ↔ (a = b) := ⟨ofS_inj, fun h => by rw [h]⟩
abbrev cl (n : Nat) (f : Nat) (as : List D) : M D := callN Pp fuel T.exmF n f as
theorem cl_run {n f : Nat} {F : Fn} (h : Pp.find f = some F) (as : List D) (st : Store) (hl : as.length = F.ps.length) : cl (n + 1) f as st = fin st.length (exSs ⟨fun g xs => cl n g xs, st.length, fuel, T.exmF⟩ (as.map some ++ List.replicate (F.slots.length - as.length) none) F.body st) := by
  rw [← runF_eq _ _ _ _ _ _ hl]
  simp only [cl, callN, h]
theorem okv {n f : Nat} {as : List D} {d : D} (h : ∀ st, cl n f as st = .ok d st) : cl n f as = M.ret d := funext h
theorem is_whole_int (n : Nat) (v lo hi : Int) : cl (n + 1) 0 [.int v, .int lo, .int hi] = M.ret (.bl (decide (lo ≤ v) && decide (v ≤ hi))) := by
  funext st
  rw [cl_run (F := F_is_whole) rfl _ _ rfl]
  simp [F_is_whole, bltD, tyD, Ty.has, cmpD, leD]
  by_cases h1 : lo ≤ v <;> simp [h1]
theorem is_whole_no (n : Nat) (v : D) (lo hi : D) (h : tyD v ≠ "") (h2 : Ty.int.has v = false ∨ Ty.bool.has v = true) (hr : ∀ l, v ≠ .ref l) : cl (n + 1) 0 [v, lo, hi] = M.ret (.bl false) := by
  funext st
  rw [cl_run (F := F_is_whole) rfl _ _ rfl]
  cases v <;> simp_all [F_is_whole, bltD, tyD, Ty.has, cmpD, leD]
theorem is_tuple_of_tup (n : Nat) (xs : List D) (lo hi : Int) : cl (n + 1) 1 [.tup xs, .int lo, .int hi] = M.ret (.bl (decide (lo ≤ xs.length) && decide ((xs.length : Int) ≤ hi))) := by
  funext st
  rw [cl_run (F := F_is_tuple_of) rfl _ _ rfl]
  simp [F_is_tuple_of, bltD, tyD, Ty.has, cmpD, leD]
  by_cases h1 : lo ≤ xs.length <;> simp [h1]
theorem is_number_int (n : Nat) (v : Int) : cl (n + 2) 3 [.int v] = M.ret (.bl (decide (-1000000000 ≤ v) && decide (v ≤ 1000000000))) := by
  funext st
  rw [cl_run (F := F_is_number) rfl _ _ rfl]
  simp [F_is_number, c_NUMBER, is_whole_int]
theorem is_number_str (n : Nat) (v : Str) : cl (n + 2) 3 [.str v] = M.ret (.bl false) := by
  funext st
  rw [cl_run (F := F_is_number) rfl _ _ rfl]
  have h := is_whole_no n (.str v) (.int (-1000000000)) (.int 1000000000) (by simp [tyD]) (.inl rfl) (by simp)
  simp [F_is_number, c_NUMBER, h]
theorem sort_of_value_int (n : Nat) (v : Int) (h : -1000000000 ≤ v ∧ v ≤ 1000000000) : cl (n + 3) 9 [.int v] = M.ret (.str "int") := by
  funext st
  rw [cl_run (F := F_sort_of_value) rfl _ _ rfl]
  simp [F_sort_of_value, c_INT, is_number_int, cmpD, isNon, h]
theorem sort_of_value_non (n : Nat) : cl (n + 3) 9 [.non] = M.ret (.str "any") := by
  funext st
  rw [cl_run (F := F_sort_of_value) rfl _ _ rfl]
  simp [F_sort_of_value, c_ANY, cmpD, isNon]
theorem sort_of_value_str (n : Nat) (v : Str) : cl (n + 3) 9 [.str v] = M.ret (.str "word") := by
  funext st
  rw [cl_run (F := F_sort_of_value) rfl _ _ rfl]
  simp [F_sort_of_value, c_TEXT, is_number_str, cmpD, isNon]
end K00
set_option linter.all false
set_option maxRecDepth 100000
set_option maxHeartbeats 2000000
namespace K00
open Ev PySem
abbrev S (s : String) : D := .str (Str.ofString s)
theorem joined_any (n : Nat) (t : Str) : cl (n + 1) 10 [S "any", .str t] = M.ret (.str t) := by
  funext st
  rw [cl_run (F := F_joined_sort) rfl _ _ rfl]
  simp [F_joined_sort, c_ANY, cmpD, isNon]
theorem any_ok : PyData.strOk (Str.ofString "any") = true := by decide +kernel
theorem in_same (s : Str) (h : PyData.strOk s = true) : inL (.str s) [.str s, S "any"] = some true := by
  simp [inL, D.toPy, D.toPys, SeqAt.shaped, PyData.canLay0, PyData.canLayAll0, PyData.depth, PyData.eqv, h, any_ok]
theorem in_any (s : Str) (h : PyData.strOk s = true) : inL (S "any") [.str s, S "any"] = some true := by
  simp [inL, D.toPy, D.toPys, SeqAt.shaped, PyData.canLay0, PyData.canLayAll0, PyData.depth, PyData.eqv, h, any_ok]
theorem joined_same (n : Nat) (t : Str) (h : t ≠ Str.ofString "any") (ho : PyData.strOk t = true) : cl (n + 1) 10 [.str t, .str t] = M.ret (.str t) := by
  funext st
  rw [cl_run (F := F_joined_sort) rfl _ _ rfl]
  simp [F_joined_sort, c_ANY, cmpD, isNon, okSize, h, in_same, ho]
theorem joined_to_any (n : Nat) (t : Str) (h : t ≠ Str.ofString "any") (ho : PyData.strOk t = true) : cl (n + 1) 10 [.str t, S "any"] = M.ret (.str t) := by
  funext st
  rw [cl_run (F := F_joined_sort) rfl _ _ rfl]
  simp [F_joined_sort, c_ANY, cmpD, isNon, okSize, h, in_any, ho]
theorem joined_int (n : Nat) : cl (n + 1) 10 [S "int", S "int"] = M.ret (S "int") := joined_same n _ (by simp) (by decide +kernel)
theorem joined_int_any (n : Nat) : cl (n + 1) 10 [S "int", S "any"] = M.ret (S "int") := joined_to_any n _ (by simp) (by decide +kernel)
theorem is_word_one (n : Nat) (z : String) (h1 : walkD (S z) = some [S z]) (h2 : (Str.ofString z).length = 1) (h3 : inS (S z) (Str.ofString "abcdefghijklmnopqrstuvwxyz") = some true) : cl (n + 1) 2 [S z] = M.ret (.bl true) := by
  funext st
  rw [cl_run (F := F_is_word) rfl _ _ rfl]
  simp [F_is_word, c_WORD, c_LETTERS, cmpD, leD, bltD, tyD, Ty.has, okSize, h1, h2, h3, loopC, setTg, wipeE, allB]
theorem is_word_zz (n : Nat) : cl (n + 1) 2 [S "zz"] = M.ret (.bl true) := by
  funext st
  have h1 : walkD (S "zz") = some [S "z", S "z"] := by rfl
  have h2 : (Str.ofString "zz").length = 2 := by decide +kernel
  have h3 : inS (S "z") (Str.ofString "abcdefghijklmnopqrstuvwxyz") = some true := by decide +kernel
  rw [cl_run (F := F_is_word) rfl _ _ rfl]
  simp [F_is_word, c_WORD, c_LETTERS, cmpD, leD, bltD, tyD, Ty.has, okSize, h1, h2, h3, loopC, setTg, wipeE, allB]
theorem is_word_a (n : Nat) : cl (n + 1) 2 [S "a"] = M.ret (.bl true) := is_word_one n "a" rfl (by decide +kernel) (by decide +kernel)
theorem is_word_b (n : Nat) : cl (n + 1) 2 [S "b"] = M.ret (.bl true) := is_word_one n "b" rfl (by decide +kernel) (by decide +kernel)
theorem is_word_c (n : Nat) : cl (n + 1) 2 [S "c"] = M.ret (.bl true) := is_word_one n "c" rfl (by decide +kernel) (by decide +kernel)
/-- values that are drawn, by their sorts -/
inductive Val : String → D → Prop
  | non (s : String) : Val s .non
  | int (i : Int) (h : -1000000000 ≤ i ∧ i ≤ 1000000000) : Val "int" (.int i)
  | a : Val "word" (S "a")
  | b : Val "word" (S "b")
  | c : Val "word" (S "c")
  | zz : Val "word" (S "zz")
theorem fits_value_ok {s : String} {v : D} (h : Val s v) (n : Nat) : cl (n + 4) 4 [v] = M.ret (.bl true) := by
  funext st
  rw [cl_run (F := F_fits_value) rfl _ _ rfl]
  cases h with
  | non => simp [F_fits_value, cmpD, isNon]
  | int i h => simp [F_fits_value, cmpD, isNon, is_number_int, h]
  | a => simp [F_fits_value, cmpD, isNon, is_number_str, is_word_a]
  | b => simp [F_fits_value, cmpD, isNon, is_number_str, is_word_b]
  | c => simp [F_fits_value, cmpD, isNon, is_number_str, is_word_c]
  | zz => simp [F_fits_value, cmpD, isNon, is_number_str, is_word_zz]
theorem sort_of_value_ok {s : String} {v : D} (h : Val s v) (n : Nat) : ∃ σ, (σ = "any" ∨ σ = s) ∧ cl (n + 3) 9 [v] = M.ret (S σ) := by
  cases h with
  | non => exact ⟨"any", .inl rfl, sort_of_value_non n⟩
  | int i h => exact ⟨"int", .inr rfl, sort_of_value_int n i h⟩
  | a => exact ⟨"word", .inr rfl, sort_of_value_str n _⟩
  | b => exact ⟨"word", .inr rfl, sort_of_value_str n _⟩
  | c => exact ⟨"word", .inr rfl, sort_of_value_str n _⟩
  | zz => exact ⟨"word", .inr rfl, sort_of_value_str n _⟩
/-- sort_of tells a sort, at depth k -/
abbrev SortIs (cols o : D) (k : Int) (σ : String) (n : Nat) : Prop := cl n 11 [cols, o, .int k] = M.ret (S σ)
theorem sort_value {s : String} {v : D} (h : Val s v) (cols : D) (k : Int) (hk : k ≤ 6) (n : Nat) : ∃ σ, (σ = "any" ∨ σ = s) ∧ cl (n + 5) 11 [cols, .tup [S "value", v], .int k] = M.ret (S σ) := by
  obtain ⟨σ, hσ, e⟩ := sort_of_value_ok h (n + 1)
  refine ⟨σ, hσ, ?_⟩
  funext st
  rw [cl_run (F := F_sort_of) rfl _ _ rfl]
  have hk' : ¬ (6 < k) := by omega
  simp [F_sort_of, c_DEEP, cmpD, ltD, hk', is_tuple_of_tup, bltD, tyD, Ty.has, idxD, ixAt, fits_value_ok h, e]
theorem sort_col (xs : List D) (a c : Nat) (ys : List D) (s : String) (b : D) (hx : xs[a]? = some (.tup ys)) (hy : ys[c]? = some (.tup [S s, b])) (k : Int) (hk : k ≤ 6) (n : Nat) : cl (n + 5) 11 [.tup xs, .tup [S "col", .int a, .int c], .int k] = M.ret (S s) := by
  funext st
  rw [cl_run (F := F_sort_of) rfl _ _ rfl]
  have hk' : ¬ (6 < k) := by omega
  have ha := (List.getElem?_eq_some_iff.mp hx).1
  have hc := (List.getElem?_eq_some_iff.mp hy).1
  have ha' : (a : Int) ≤ (xs.length : Int) - 1 := by omega
  have hc' : (c : Int) ≤ (ys.length : Int) - 1 := by omega
  simp [F_sort_of, c_DEEP, cmpD, ltD, hk', is_tuple_of_tup, bltD, tyD, Ty.has, idxD, ixAt, binD, is_whole_int, ha', hc', hx, hy]
end K00
set_option linter.all false
set_option maxRecDepth 100000
set_option maxHeartbeats 2000000
namespace K00
open Ev PySem
/-- operands that are drawn: of a sort, over columns; ps: their places -/
inductive Op1 (cols : List D) : String → D → Prop
  | value {s : String} {v : D} (h : Val s v) : Op1 cols s (.tup [S "value", v])
  | col {s : String} {a c : Nat} {ys : List D} {b : D} (hx : cols[a]? = some (.tup ys)) (hy : ys[c]? = some (.tup [S s, b])) : Op1 cols s (.tup [S "col", .int a, .int c])
inductive Op (cols : List D) : String → D → Prop
  | one {s : String} {o : D} (h : Op1 cols s o) : Op cols s o
  | plus {o v : D} (h : Op1 cols "int" o) (hv : Val "int" v) : Op cols "int" (.tup [S "plus", o, .tup [S "value", v]])
/-- any, or s -/
def Of (s σ : String) : Prop := σ = "any" ∨ σ = s
theorem op1_sort {cols : List D} {s : String} {o : D} (h : Op1 cols s o) (k : Int) (hk : k ≤ 6) (n : Nat) : ∃ σ, Of s σ ∧ cl (n + 5) 11 [.tup cols, o, .int k] = M.ret (S σ) := by
  cases h with
  | value h => exact sort_value h _ k hk n
  | col hx hy => exact ⟨s, .inr rfl, sort_col cols _ _ _ s _ hx hy k hk n⟩
theorem joined_int_of {σ : String} (h : Of "int" σ) (n : Nat) : cl (n + 1) 10 [S "int", S σ] = M.ret (S "int") := by
  rcases h with rfl | rfl
  · exact joined_int_any n
  · exact joined_int n
theorem eq_ints : eqD (.lst [S "int", S "int"]) (.lst [S "int", S "int"]) = some true := by decide +kernel
theorem op_sort {cols : List D} {s : String} {o : D} (h : Op cols s o) (k : Int) (hk : k ≤ 5) (n : Nat) : ∃ σ, Of s σ ∧ cl (n + 6) 11 [.tup cols, o, .int k] = M.ret (S σ) := by
  cases h with
  | one h => exact op1_sort h k (by omega) (n + 1)
  | @plus o v h hv =>
    obtain ⟨σ1, h1, e1⟩ := op1_sort h (k + 1) (by omega) n
    obtain ⟨σ2, h2, e2⟩ := sort_value hv (.tup cols) (k + 1) (by omega) n
    refine ⟨"int", .inr rfl, ?_⟩
    have j1 := joined_int_of h1 (n + 4)
    have j2 := joined_int_of h2 (n + 4)
    have hk' : ¬ (6 < k) := by omega
    funext st
    rw [cl_run (F := F_sort_of) rfl _ _ rfl]
    simp [F_sort_of, c_DEEP, c_INT, cmpD, ltD, hk', is_tuple_of_tup, bltD, tyD, Ty.has, idxD, ixAt, binD, slcD, cutL, cutAt, walkD, loopC, setTg, wipeE, okSize, e1, e2, j1, j2, eq_ints]
theorem joined_of {s σ τ : String} (hs : s = "int" ∨ s = "word") (h1 : Of s σ) (h2 : Of s τ) (n : Nat) : ∃ υ, Of s υ ∧ cl (n + 1) 10 [S σ, S τ] = M.ret (S υ) := by
  have ho : PyData.strOk (Str.ofString s) = true := by rcases hs with rfl | rfl <;> decide +kernel
  have hn : Str.ofString s ≠ Str.ofString "any" := by rcases hs with rfl | rfl <;> simp
  rcases h1 with rfl | rfl
  · exact ⟨τ, h2, joined_any n _⟩
  · rcases h2 with rfl | rfl
    · exact ⟨_, .inr rfl, joined_to_any n _ hn ho⟩
    · exact ⟨_, .inr rfl, joined_same n _ hn ho⟩
/-- leaves of tests -/
inductive Leaf (cols : List D) : D → Prop
  | cmp {w s : String} {o p : D} (hw : w = "same" ∨ w = "less" ∨ w = "most") (hs : s = "int" ∨ s = "word") (h1 : Op cols s o) (h2 : Op cols s p) : Leaf cols (.tup [S w, o, p])
  | null {s : String} {o : D} (h : Op cols s o) : Leaf cols (.tup [S "null", o])
  | isin {s : String} {o : D} {vs : List D} (hs : s = "int" ∨ s = "word") (h : Op cols s o) (hv : ∀ v ∈ vs, Val s v) (hl : vs.length ≤ 6) : Leaf cols (.tup [S "in", o, .tup vs])
theorem in_cmp {w : String} (hw : w = "same" ∨ w = "less" ∨ w = "most") : inL (S w) [S "same", S "less", S "most"] = some true := by
  rcases hw with rfl | rfl | rfl <;> decide +kernel
theorem in_null : inL (S "null") [S "same", S "less", S "most"] = some false := by decide +kernel
theorem in_in : inL (S "in") [S "same", S "less", S "most"] = some false := by decide +kernel
theorem fits_all {s : String} {vs : List D} (hv : ∀ v ∈ vs, Val s v) (n : Nat) : loopC (fun x => M.thn (cl (n + 4) 4 [x]) fun y => M.ret [y]) vs = M.ret (vs.map fun _ => .bl true) := by
  induction vs with
  | nil => rfl
  | cons v vs ih =>
    rw [loopC, fits_value_ok (hv v List.mem_cons_self) n, ih fun v h => hv v (List.mem_cons_of_mem _ h)]
    simp
theorem all_true (vs : List D) : allB (vs.map fun _ => D.bl true) = some (vs.map fun _ => true) := by
  induction vs with
  | nil => rfl
  | cons v vs ih => simp [allB, ih]
theorem fits_leaf_cmp {cols : List D} {w s : String} {o p : D} (hw : w = "same" ∨ w = "less" ∨ w = "most") (hs : s = "int" ∨ s = "word") (h1 : Op cols s o) (h2 : Op cols s p) (k : Int) (hk : k ≤ 4) (n : Nat) : cl (n + 7) 12 [.tup cols, .tup [S w, o, p], .int k] = M.ret (.bl true) := by
  obtain ⟨σ, q1, e1⟩ := op_sort h1 (k + 1) (by omega) n
  obtain ⟨τ, q2, e2⟩ := op_sort h2 (k + 1) (by omega) n
  obtain ⟨υ, q3, e3⟩ := joined_of hs q1 q2 (n + 5)
  have i1 := in_cmp hw
  funext st
  rw [cl_run (F := F_fits_leaf) rfl _ _ rfl]
  simp [F_fits_leaf, c_COMPARED, cmpD, bltD, tyD, idxD, ixAt, binD, i1, e1, e2, e3, isNon]
theorem fits_leaf_null {cols : List D} {s : String} {o : D} (h1 : Op cols s o) (k : Int) (hk : k ≤ 4) (n : Nat) : cl (n + 7) 12 [.tup cols, .tup [S "null", o], .int k] = M.ret (.bl true) := by
  obtain ⟨σ, q1, e1⟩ := op_sort h1 (k + 1) (by omega) n
  funext st
  rw [cl_run (F := F_fits_leaf) rfl _ _ rfl]
  simp [F_fits_leaf, c_COMPARED, cmpD, bltD, tyD, idxD, ixAt, binD, in_null, e1, isNon]
theorem fits_leaf_in {cols : List D} {s : String} {o : D} {vs : List D} (hs : s = "int" ∨ s = "word") (h1 : Op cols s o) (hv : ∀ v ∈ vs, Val s v) (hl : vs.length ≤ 6) (k : Int) (hk : k ≤ 4) (n : Nat) : cl (n + 7) 12 [.tup cols, .tup [S "in", o, .tup vs], .int k] = M.ret (.bl true) := by
  obtain ⟨σ, q1, e1⟩ := op_sort h1 (k + 1) (by omega) n
  have hl' : (vs.length : Int) ≤ 6 := by omega
  have hz : okSize vs.length = true := by simp [okSize]; omega
  funext st
  rw [cl_run (F := F_fits_leaf) rfl _ _ rfl]
  have fa := fits_all hv (n + 2)
  simp [F_fits_leaf, c_COMPARED, c_IN, cmpD, leD, bltD, tyD, idxD, ixAt, binD, in_in, is_tuple_of_tup, hl', walkD, setTg, wipeE, fa, hz, all_true, e1, isNon]
  refine fin_for (fun ρ => ∃ υ x, Of s υ ∧ ρ = [some (.tup cols), some (.tup [S "in", o, .tup vs]), some (.int k), some (S υ), x]) ⟨σ, _, q1, rfl⟩ (fun v hm ρ ⟨υ, x, hu, e⟩ => ?_) (fun ρ ⟨υ, x, hu, e⟩ => ?_)
  · obtain ⟨τ, ht, et⟩ := sort_of_value_ok (hv v hm) (n + 3)
    obtain ⟨υ', hu', eu⟩ := joined_of hs hu ht (n + 5)
    subst e
    simp [et, eu]
    exact ⟨_, rfl, υ', hu', _, rfl⟩
  · subst e
    simp [cmpD, isNon]
theorem fits_leaf_ok {cols : List D} {t : D} (h : Leaf cols t) (k : Int) (hk : k ≤ 4) (n : Nat) : cl (n + 7) 12 [.tup cols, t, .int k] = M.ret (.bl true) := by
  cases h with
  | cmp hw hs h1 h2 => exact fits_leaf_cmp hw hs h1 h2 k hk n
  | null h => exact fits_leaf_null h k hk n
  | isin hs h hv hl => exact fits_leaf_in hs h hv hl k hk n
end K00
set_option linter.all false
set_option maxRecDepth 100000
set_option maxHeartbeats 2000000
namespace K00
open Ev PySem
theorem str_ok (s : String) (h : PyData.strOk (Str.ofString s) = true) (n : Nat) : Lay (S s) n := Lay.str h n
theorem val_lay {s : String} {v : D} (h : Val s v) : Lay v 0 := by
  cases h with
  | non => exact .non 0
  | int i h => exact .int i 0
  | a => exact str_ok _ (by decide +kernel) 0
  | b => exact str_ok _ (by decide +kernel) 0
  | c => exact str_ok _ (by decide +kernel) 0
  | zz => exact str_ok _ (by decide +kernel) 0
theorem op1_lay {cols : List D} {s : String} {o : D} (h : Op1 cols s o) : Lay o 1 := by
  cases h with
  | value h => exact LayAll.tup (.cons (str_ok _ (by decide +kernel) 0) (.cons (val_lay h) (.nil 0)))
  | col hx hy => exact LayAll.tup (.cons (str_ok _ (by decide +kernel) 0) (.cons (.int _ 0) (.cons (.int _ 0) (.nil 0))))
theorem op_lay {cols : List D} {s : String} {o : D} (h : Op cols s o) : Lay o 2 := by
  cases h with
  | one h => exact (op1_lay h).le (by decide)
  | plus h hv => exact LayAll.tup (.cons (str_ok _ (by decide +kernel) 1) (.cons (op1_lay h) (.cons (LayAll.tup (.cons (str_ok _ (by decide +kernel) 0) (.cons (val_lay hv) (.nil 0)))) (.nil 1))))
theorem leaf_lay {cols : List D} {t : D} (h : Leaf cols t) : Lay t 3 := by
  cases h with
  | cmp hw hs h1 h2 => exact LayAll.tup (.cons (by rcases hw with rfl | rfl | rfl <;> exact str_ok _ (by decide +kernel) 2) (.cons (op_lay h1) (.cons (op_lay h2) (.nil 2))))
  | null h => exact LayAll.tup (.cons (str_ok _ (by decide +kernel) 2) (.cons (op_lay h) (.nil 2)))
  | isin hs h hv hl => exact LayAll.tup (.cons (str_ok _ (by decide +kernel) 2) (.cons (op_lay h) (.cons ((LayAll.tup (LayAll.of fun v hm => (val_lay (hv v hm)))).le (by decide)) (.nil 2))))
/-- tests: how deep their leaves are, how many parts -/
inductive Test (cols : List D) : Nat → Nat → D → Prop
  | leaf {t : D} (h : Leaf cols t) : Test cols 1 1 t
  | not {d s : Nat} {t : D} (h : Test cols d s t) : Test cols (d + 1) (s + 1) (.tup [S "not", t])
  | bin {d s e r : Nat} {w : String} {t u : D} (hw : w = "and" ∨ w = "or") (h : Test cols d s t) (g : Test cols e r u) : Test cols (max d e + 1) (s + r + 1) (.tup [S w, t, u])
theorem test_lay {cols : List D} {d s : Nat} {t : D} (h : Test cols d s t) : Lay t (d + 2) := by
  induction h with
  | leaf h => exact leaf_lay h
  | not h ih => exact LayAll.tup (.cons (str_ok _ (by decide +kernel) _) (.cons ih (.nil _)))
  | @bin d s e r w t u hw h g ih1 ih2 => exact LayAll.tup (.cons (by rcases hw with rfl | rfl <;> exact str_ok _ (by decide +kernel) _) (.cons (ih1.le (by omega)) (.cons (ih2.le (by omega)) (.nil _))))
theorem sq {C : Cfg} {ρ ρ' : Ev.Env} {s : Ev.S} {ss : Ss} {st st' : Store} (h : exS C ρ s st = .ok (.next ρ') st') : exSs C ρ (.cons s ss) st = exSs C ρ' ss st' := by
  rw [exSs]; simp only [M.thn, h]
theorem a_thn {α β : Type} (x : M α) (f : α → M β) (st : Store) : M.thn x f st = match x st with | .ok a st' => f a st' | .exc c st' => .exc c st' | .bad => .bad := rfl
/-- the stack of fits_test -/
def stk (ls : List (D × Int)) : List D := (ls.map fun p => D.tup [p.1, .int p.2]).reverse
theorem pop_run {C : Cfg} {ρ : Ev.Env} {l : Nat} {st : Store} {t : D} {k : Int} {ls : List (D × Int)} (h2 : ρ[2]? = some (some (.ref l))) (hl : st[l]? = some (.lst (stk ((t, k) :: ls)))) :
    exS C ρ (.asg (.tg (.two (.name 4) (.name 5))) (.pop (.var 2))) st = .ok (.next ((ρ.set 4 (some t)).set 5 (some (.int k)))) (st.set l (.lst (stk ls))) := by
  have e1 : popD (.ref l) st = .ok (.tup [t, .int k]) (st.set l (.lst (stk ls))) := by
    simp [popD, hl, stk]
  simp only [exS, evE, putT, g_some h2, s_ret, s_assoc]
  rw [a_thn, e1]
  rfl
end K00
set_option linter.all false
set_option maxRecDepth 100000
set_option maxHeartbeats 4000000
namespace K00
open Ev PySem
theorem rd {β : Type} {l : Nat} {xs : List D} {st : Store} {i : Nat} {v : D} {f : D → M β} (hl : st[l]? = some (.lst xs)) (hv : xs[i]? = some v) : M.thn (fun st => M.ofO (idxD (view st (.ref l)) (.int (i : Nat))) st) f st = f v st := by
  refine s_thnOk ?_
  have e : idxD (view st (.ref l)) (.int (i : Nat)) = some v := by
    rw [view_lst hl]
    simp [idxD, ixAt, hv]
  rw [e]
  rfl
theorem setIx_run {C : Cfg} {l : Nat} {xs : List D} {st : Store} {i : Nat} {z : Int} (hl : st[l]? = some (.lst xs)) (hi : i < xs.length) : setIx C (.ref l) (.int (i : Nat)) (.int z) st = .ok () (st.set l (.lst (xs.set i (.int z)))) := by
  have h : (0 : Int) ≤ (i : Int) ∧ (i : Int) < (xs.length : Int) := by omega
  simp [setIx, hl, setCell, D.plain, hi]
theorem rd0 {β : Type} {l : Nat} {v : D} {xs : List D} {st : Store} {f : D → M β} (hl : st[l]? = some (.lst (v :: xs))) : M.thn (fun st => M.ofO (idxD (view st (.ref l)) (.int 0)) st) f st = f v st := rd (i := 0) hl rfl
theorem rd1 {β : Type} {l : Nat} {u v : D} {xs : List D} {st : Store} {f : D → M β} (hl : st[l]? = some (.lst (u :: v :: xs))) : M.thn (fun st => M.ofO (idxD (view st (.ref l)) (.int 1)) st) f st = f v st := rd (i := 1) hl rfl
theorem wr0 {β : Type} {C : Cfg} {l : Nat} {u v : D} {st : Store} {z : Int} {f : Unit → M β} (hl : st[l]? = some (.lst [u, v])) : M.thn (setIx C (.ref l) (.int 0) (.int z)) f st = f () (st.set l (.lst [.int z, v])) := s_thnOk (setIx_run (i := 0) hl (by simp))
theorem wr1 {β : Type} {C : Cfg} {l : Nat} {u v : D} {st : Store} {z : Int} {f : Unit → M β} (hl : st[l]? = some (.lst [u, v])) : M.thn (setIx C (.ref l) (.int 1) (.int z)) f st = f () (st.set l (.lst [u, .int z])) := s_thnOk (setIx_run (i := 1) hl (by simp))
/-- the cup at l -/
def Cup (st : Store) (l : Nat) : Prop := ∃ a b : Int, st[l]? = some (.lst [.int a, .int b]) ∧ 0 ≤ a ∧ 0 ≤ b ∧ b < 1099511627776
theorem roll_ok {n l : Nat} {many : Int} {st : Store} (h : Cup st l) (hm : 0 < many ∧ many < 1073741824) : ∃ r a b : Int, cl (n + 1) 30 [.ref l, .int many] st = .ok (.int r) (st.set l (.lst [.int a, .int b])) ∧ 0 ≤ r ∧ r < many ∧ 0 ≤ a ∧ 0 ≤ b ∧ b < 1099511627776 := by
  obtain ⟨a, b, hl, ha, hb0, hb1⟩ := h
  have hlt : l < st.length := (List.getElem?_eq_some_iff.mp hl).1
  rw [cl_run (F := F__law_roll) rfl _ _ rfl]
  by_cases h0 : 0 < a
  · refine ⟨a % many, a / many, b, ?_, Int.emod_nonneg _ (by omega), Int.emod_lt_of_pos _ hm.1, Int.ediv_nonneg ha (by omega), hb0, hb1⟩
    simp only [F__law_roll, exSs, exS, evE, evEs, putT, s_ret, s_assoc]
    simp
    rw [rd0 hl]
    simp [cmpD, ltD, h0]
    rw [rd0 hl]
    simp [bltD, binD, hm.1]
    rw [rd0 hl]
    simp [binD, hm.1, hm.2]
    rw [wr0 hl]
    simp
    simp [leave]
  · have hl2 : ∀ z : Cell, (st.set l z)[l]? = some z := fun z => List.getElem?_set_self hlt
    refine ⟨((((b * 31147 + 8093) % 2147483249) * ((b * 31147 + 8093) % 2147483249 + 281)) % 2147483587 / 881) % many, a, (b * 31147 + 8093) % 2147483249, ?_, Int.emod_nonneg _ (by omega), Int.emod_lt_of_pos _ hm.1, ha, Int.emod_nonneg _ (by omega), by have := Int.emod_lt_of_pos (b * 31147 + 8093) (show (0 : Int) < 2147483249 by omega); omega⟩
    have c1 : (0 : Int) ≤ (b * 31147 + 8093) % 2147483249 := Int.emod_nonneg _ (by omega)
    have c2 : (b * 31147 + 8093) % 2147483249 < 2147483249 := Int.emod_lt_of_pos _ (by omega)
    have m1 : smallI 31147 = true := by decide
    have m2 : smallI ((b * 31147 + 8093) % 2147483249) = true := decide_eq_true (by omega)
    simp only [F__law_roll, exSs, exS, evE, evEs, putT, s_ret, s_assoc]
    simp
    rw [rd0 hl]
    simp [cmpD, ltD, h0]
    rw [rd1 hl]
    simp [bltD, binD, m1]
    rw [wr1 hl]
    rw [rd1 (hl2 _)]
    rw [rd1 (hl2 _)]
    simp [bltD, binD, m2, hm.1]
    simp [leave]
end K00
set_option linter.all false
set_option maxRecDepth 100000
set_option maxHeartbeats 4000000
namespace K00
open Ev PySem
/-- a draw: what it gives, the cup behind it, all else as it was -/
structure Drawn (l : Nat) (st st' : Store) : Prop where
  cup : Cup st' l
  same : ∃ c, st' = st.set l c
theorem Drawn.len {l : Nat} {st st' : Store} (h : Drawn l st st') : st'.length = st.length := by
  obtain ⟨c, e⟩ := h.same
  rw [e, List.length_set]
theorem Drawn.trans {l : Nat} {st st' st'' : Store} (h : Drawn l st st') (g : Drawn l st' st'') : Drawn l st st'' := by
  obtain ⟨c, e⟩ := h.same
  obtain ⟨d, e'⟩ := g.same
  exact ⟨g.cup, d, by rw [e', e, List.set_set]⟩
theorem roll_drawn {n l : Nat} {many : Int} {st : Store} (h : Cup st l) (hm : 0 < many ∧ many < 1073741824) : ∃ (r : Int) (st' : Store), cl (n + 1) 30 [.ref l, .int many] st = .ok (.int r) st' ∧ 0 ≤ r ∧ r < many ∧ Drawn l st st' := by
  obtain ⟨r, a, b, e, h1, h2, h3, h4, h5⟩ := roll_ok (n := n) h hm
  obtain ⟨_, _, hl, _⟩ := h
  have hlt : l < st.length := (List.getElem?_eq_some_iff.mp hl).1
  exact ⟨r, _, e, h1, h2, ⟨⟨a, b, List.getElem?_set_self hlt, h3, h4, h5⟩, _, rfl⟩⟩
theorem some_ok {n l : Nat} {xs : List D} {t : D} {st : Store} (h : Cup st l) (ht : t = .lst xs ∨ t = .tup xs) (hx : xs ≠ []) (hl : xs.length ≤ 1000) : ∃ d st', d ∈ xs ∧ cl (n + 2) 31 [.ref l, t] st = .ok d st' ∧ Drawn l st st' := by
  have hp : 0 < xs.length := List.length_pos_iff.mpr hx
  obtain ⟨r, st', e, h1, h2, dr⟩ := roll_drawn (n := n) h (many := xs.length) (by omega)
  have hr : r.toNat < xs.length := by omega
  refine ⟨xs[r.toNat], st', List.getElem_mem hr, ?_, dr⟩
  rw [cl_run (F := F__law_some) rfl _ _ rfl]
  have ix : ixAt xs r = some xs[r.toNat] := by simp [ixAt, h1, hr]
  rcases ht with rfl | rfl
  · simp [F__law_some, bltD]
    rw [s_thnOk e]
    simp [idxD, ix]
    simp [leave, dr.len, M.ret]
  · simp [F__law_some, bltD]
    rw [s_thnOk e]
    simp [idxD, ix]
    simp [leave, dr.len, M.ret]
end K00
set_option linter.all false
set_option maxRecDepth 100000
set_option maxHeartbeats 4000000
namespace K00
open Ev PySem
def Wp {α : Type} (l : Nat) (x : M α) (Q : α → Prop) (st : Store) : Prop := ∃ a st', x st = .ok a st' ∧ Drawn l st st' ∧ Q a
theorem Drawn.refl {l : Nat} {st : Store} (h : Cup st l) : Drawn l st st := by
  have h0 := h
  obtain ⟨a, b, hl, _⟩ := h
  obtain ⟨hi, e⟩ := List.getElem?_eq_some_iff.mp hl
  exact ⟨h0, st[l], by rw [List.set_getElem_self]⟩
theorem wp_ret {α : Type} {l : Nat} {a : α} {Q : α → Prop} {st : Store} (h : Cup st l) (q : Q a) : Wp l (M.ret a) Q st := ⟨a, st, rfl, .refl h, q⟩
theorem wp_thn {α β : Type} {l : Nat} {x : M α} {f : α → M β} {P : α → Prop} {Q : β → Prop} {st : Store} (h : Wp l x P st) (k : ∀ a st', Cup st' l → P a → Wp l (f a) Q st') : Wp l (M.thn x f) Q st := by
  obtain ⟨a, st', e, d, p⟩ := h
  obtain ⟨b, st'', e2, d2, q⟩ := k a st' d.cup p
  refine ⟨b, st'', ?_, d.trans d2, q⟩
  rw [a_thn, e]
  exact e2
theorem Wp.mono {α : Type} {l : Nat} {x : M α} {P Q : α → Prop} {st : Store} (h : Wp l x P st) (k : ∀ a, P a → Q a) : Wp l x Q st := let ⟨a, st', e, d, p⟩ := h; ⟨a, st', e, d, k a p⟩
theorem wp_some {n l : Nat} {xs : List D} {st : Store} (h : Cup st l) (hx : xs ≠ []) (hl : xs.length ≤ 1000) : Wp l (cl (n + 2) 31 [.ref l, .lst xs]) (fun d => d ∈ xs) st := by
  obtain ⟨d, st', hd, e, dr⟩ := some_ok (n := n) h (.inl rfl) hx hl
  exact ⟨d, st', e, dr, hd⟩
theorem wp_roll {n l : Nat} {many : Int} {st : Store} (h : Cup st l) (hm : 0 < many ∧ many < 1073741824) : Wp l (cl (n + 1) 30 [.ref l, .int many]) (fun d => ∃ r : Int, d = .int r ∧ 0 ≤ r ∧ r < many) st := by
  obtain ⟨r, st', e, h1, h2, dr⟩ := roll_drawn (n := n) h hm
  exact ⟨_, st', e, dr, r, rfl, h1, h2⟩
/-- a def whose store keeps its length -/
theorem wp_def {n f l : Nat} {F : Fn} {as : List D} {Q : D → Prop} {st : Store} (h : Pp.find f = some F) (hl : as.length = F.ps.length)
    (k : Wp l (exSs ⟨fun g xs => cl n g xs, st.length, fuel, T.exmF⟩ (as.map some ++ List.replicate (F.slots.length - as.length) none) F.body) (fun fl => ∃ d, fl = .ret d ∧ Q d) st) : Wp l (cl (n + 1) f as) Q st := by
  obtain ⟨fl, st', e, dr, d, rfl, q⟩ := k
  refine ⟨d, st', ?_, dr, q⟩
  rw [cl_run h _ _ hl, e]
  show leave st.length d st' = _
  simp [leave, dr.len]
abbrev intF : D := .tup [S "int", .bl false]
abbrev intT : D := .tup [S "int", .bl true]
abbrev wordT : D := .tup [S "word", .bl true]
abbrev cols0 (b : Bool) : List D := [intF, wordT, .tup [S "int", .bl b]]
abbrev cols1 : List D := [intF, intT, intT]
abbrev rules0 : List D := [.tup [], .tup [.tup [S "unique", .int 1]], .tup [.tup [S "check", .tup [S "less", .tup [S "value", .int (-9)], .tup [S "col", .int 0, .int 2]]]]]
abbrev rules1 : List D := [.tup [], .tup [.tup [S "refer", .int 1, .int 0]], .tup [.tup [S "refer", .int 1, .int 0], .tup [S "unique", .int 2]]]
/-- the schemas that are drawn -/
def Schema (d : D) : Prop := ∃ b r0 r1, r0 ∈ rules0 ∧ r1 ∈ rules1 ∧ d = .tup [.tup [.tup (cols0 b), r0], .tup [.tup cols1, r1]]
theorem wp_schema {n l : Nat} {st : Store} (h : Cup st l) : Wp l (cl (n + 3) 32 [.ref l]) Schema st := by
  refine wp_def (F := F__law_schema) rfl rfl ?_
  simp [F__law_schema, okSize]
  refine wp_thn (wp_some h (by simp) (by simp)) fun d st1 h1 hd => ?_
  try simp [okSize]
  refine wp_thn (wp_some h1 (by simp) (by simp)) fun r0 st2 h2 hr0 => ?_
  try simp [okSize]
  refine wp_thn (wp_some h2 (by simp) (by simp)) fun r1 st3 h3 hr1 => ?_
  try simp [okSize]
  refine wp_ret h3 ⟨_, rfl, ?_⟩
  have hb : ∃ b, d = .bl b := by
    rcases List.mem_cons.mp hd with e | hd
    · exact ⟨_, e⟩
    · exact ⟨_, List.mem_singleton.mp hd⟩
  obtain ⟨b, rfl⟩ := hb
  exact ⟨b, r0, r1, hr0, hr1, rfl⟩
end K00
set_option linter.all false
set_option maxRecDepth 100000
set_option maxHeartbeats 4000000
namespace K00
open Ev PySem
abbrev fr (n l : Nat) : Cfg := ⟨fun g xs => cl n g xs, l, fuel, T.exmF⟩
theorem wp_seq {C : Cfg} {ρ : Ev.Env} {s : Ev.S} {ss : Ss} {l : Nat} {P Q : Ev.Flow → Prop} {st : Store} (h : Wp l (exS C ρ s) P st) (k : ∀ fl st', Cup st' l → P fl → Wp l (flowK (fun ρ => exSs C ρ ss) fl) Q st') : Wp l (exSs C ρ (.cons s ss)) Q st := by
  rw [show exSs C ρ (.cons s ss) = M.thn (exS C ρ s) (flowK fun ρ => exSs C ρ ss) from congrFun (cons_eq C s ss) ρ]
  exact wp_thn h k
/-- the columns of a source -/
def colsOf (b : Bool) (k : Int) : D := if k = 0 then .tup (cols0 b) else .tup cols1
abbrev schemaD (b : Bool) (r0 r1 : D) : D := .tup [.tup [.tup (cols0 b), r0], .tup [.tup cols1, r1]]
/-- scalars of a sort -/
def Sc (s : String) (v : D) : Prop := v = .non ∨ (s = "int" ∧ ∃ i, v = .int i) ∨ (s = "word" ∧ ∃ z, v = .str z)
theorem Sc.two {s : String} {x y : D} (hx : Sc s x) (hy : Sc s y) : x = .non ∨ y = .non ∨ (∃ i j, x = .int i ∧ y = .int j) ∨ ∃ i j, x = .str i ∧ y = .str j := by
  rcases hx with rfl | ⟨rfl, i, rfl⟩ | ⟨rfl, z, rfl⟩
  · exact .inl rfl
  · rcases hy with rfl | ⟨_, j, rfl⟩ | ⟨e, _⟩
    · exact .inr (.inl rfl)
    · exact .inr (.inr (.inl ⟨i, j, rfl, rfl⟩))
    · exact absurd e (by decide)
  · rcases hy with rfl | ⟨e, _⟩ | ⟨_, j, rfl⟩
    · exact .inr (.inl rfl)
    · exact absurd e (by decide)
    · exact .inr (.inr (.inr ⟨z, j, rfl, rfl⟩))
theorem Sc.one {s : String} {x : D} (hx : Sc s x) : x = .non ∨ (∃ i, x = .int i) ∨ ∃ z, x = .str z := by
  rcases hx with rfl | ⟨rfl, i, rfl⟩ | ⟨rfl, z, rfl⟩
  · exact .inl rfl
  · exact .inr (.inl ⟨i, rfl⟩)
  · exact .inr (.inr ⟨z, rfl⟩)
theorem Sc.view {s : String} {x : D} (hx : Sc s x) (st : Store) : view st x = x := by
  rcases hx.one with rfl | ⟨k, rfl⟩ | ⟨k, rfl⟩ <;> rfl
theorem is_non (x : D) : cmpD .Is x .non = some (isNon x) := by simp [cmpD]
theorem c_lt (x y : D) : cmpD .Lt x y = ltD x y := rfl
theorem c_le (x y : D) : cmpD .LtE x y = leD x y := rfl
theorem c_eq (x y : D) : cmpD .Eq x y = eqD x y := rfl
theorem c_in (x : D) (ys : List D) : cmpD .In x (.tup ys) = inL x ys := rfl
theorem eq_str (a b : String) : cmpD .Eq (S a) (S b) = some (decide (a = b)) := by
  rw [c_eq]
  simp [eqD]
theorem sqM {C : Cfg} {ρ ρ' : Ev.Env} {s : Ev.S} {ss : Ss} (h : exS C ρ s = M.ret (.next ρ')) : exSs C ρ (.cons s ss) = exSs C ρ' ss := by
  rw [exSs, h, s_ret]
theorem sqR {C : Cfg} {ρ : Ev.Env} {s : Ev.S} {ss : Ss} {d : D} (h : exS C ρ s = M.ret (.ret d)) : exSs C ρ (.cons s ss) = M.ret (.ret d) := by
  rw [exSs, h, s_ret]
theorem s_ok {α β : Type} {x : M α} {f : α → M β} {st st' : Store} {a : α} (h : x st = .ok a st') : M.thn x f st = f a st' := by rw [a_thn, h]
end K00
set_option linter.all false
set_option maxRecDepth 100000
set_option maxHeartbeats 4000000
namespace K00
open Ev PySem
/-- cells that are drawn -/
def Cell1 (s : String) (may : Bool) (v : D) : Prop := (may = true ∧ v = .non) ∨ (s = "int" ∧ ∃ i : Int, v = .int i ∧ -1000000000 ≤ i ∧ i ≤ 1000000000) ∨ (s = "word" ∧ (v = S "a" ∨ v = S "b" ∨ v = S "ab" ∨ v = S "c"))
theorem Cell1.sc {s : String} {may : Bool} {v : D} (h : Cell1 s may v) : Sc s v := by
  rcases h with ⟨_, rfl⟩ | ⟨rfl, i, rfl, _⟩ | ⟨rfl, h⟩
  · exact .inl rfl
  · exact .inr (.inl ⟨rfl, _, rfl⟩)
  · exact .inr (.inr ⟨rfl, by rcases h with rfl | rfl | rfl | rfl <;> exact ⟨_, rfl⟩⟩)
theorem is_word_ab (n : Nat) : cl (n + 1) 2 [S "ab"] = M.ret (.bl true) := by
  have h1 : walkD (S "ab") = some [S "a", S "b"] := rfl
  have h2 : (Str.ofString "ab").length = 2 := by decide +kernel
  have h3 : inS (S "a") (Str.ofString "abcdefghijklmnopqrstuvwxyz") = some true := by decide +kernel
  have h4 : inS (S "b") (Str.ofString "abcdefghijklmnopqrstuvwxyz") = some true := by decide +kernel
  funext st
  rw [cl_run (F := F_is_word) rfl _ _ rfl]
  simp [F_is_word, c_WORD, c_LETTERS, bltD, tyD, Ty.has, cmpD, leD, okSize, h1, h2, h3, h4, loopC, setTg, wipeE, allB]
theorem fits_int (n : Nat) (i : Int) (h : -1000000000 ≤ i ∧ i ≤ 1000000000) : cl (n + 3) 54 [S "int", .int i] = M.ret (.bl true) := by
  have e := is_number_int n i
  have h1 : (-1000000000 : Int) ≤ i := by omega
  have h2 : i ≤ 1000000000 := by omega
  simp only [h1, h2, decide_true, Bool.and_self] at e
  funext st
  rw [cl_run (F := F_fits_sort) rfl _ _ rfl]
  simp [F_fits_sort, c_INT, eq_str, e]
theorem fits_word (n : Nat) (v : D) (h : v = S "a" ∨ v = S "b" ∨ v = S "ab" ∨ v = S "c") : cl (n + 3) 54 [S "word", v] = M.ret (.bl true) := by
  have e : cl (n + 2) 2 [v] = M.ret (.bl true) := by
    rcases h with rfl | rfl | rfl | rfl
    · exact is_word_a (n + 1)
    · exact is_word_b (n + 1)
    · exact is_word_ab (n + 1)
    · exact is_word_c (n + 1)
  funext st
  rw [cl_run (F := F_fits_sort) rfl _ _ rfl]
  simp [F_fits_sort, c_INT, eq_str, e]
theorem fits_cell {n : Nat} {s : String} {may : Bool} {v : D} (h : Cell1 s may v) : (isNon v = true ∧ may = true) ∨ (isNon v = false ∧ cl (n + 3) 54 [S s, v] = M.ret (.bl true)) := by
  rcases h with ⟨h, rfl⟩ | ⟨rfl, i, rfl, h⟩ | ⟨rfl, h⟩
  · exact .inl ⟨rfl, h⟩
  · exact .inr ⟨rfl, fits_int n i h⟩
  · exact .inr ⟨by rcases h with rfl | rfl | rfl | rfl <;> rfl, fits_word n v h⟩
abbrev cellE : E := (.or (.and (.cmp .Is (.var 3) (.const .non)) (.var 5)) (.call 54 (.cons (.var 4) (.cons (.var 3) .nil))))
theorem cell_run {n l : Nat} {s : String} {may : Bool} {v : D} {a b c : Option D} (h : Cell1 s may v) : evE (fr (n + 3) l) [a, b, c, some v, some (S s), some (.bl may)] cellE = M.ret (.bl true) := by
  have vv := h.sc.view
  have i1 := is_non v
  rcases fits_cell (n := n) h with ⟨h1, h2⟩ | ⟨h1, h2⟩
  · simp [vv, i1, h1, h2]
  · simp [vv, i1, h1, h2]
/-- cells of columns -/
inductive Row1 : List D → List D → Prop
  | nil : Row1 [] []
  | cons {s : String} {may : Bool} {v : D} {ys vs : List D} (h : Cell1 s may v) (r : Row1 ys vs) : Row1 (.tup [S s, .bl may] :: ys) (v :: vs)
theorem Row1.len {ys vs : List D} (h : Row1 ys vs) : vs.length = ys.length := by
  induction h with
  | nil => rfl
  | cons h r ih => simp [ih]
theorem Row1.at {ys vs : List D} (h : Row1 ys vs) : ∀ (c : Nat) (s : String) (d : D), ys[c]? = some (.tup [S s, d]) → ∃ v, vs[c]? = some v ∧ Sc s v := by
  induction h with
  | nil => intro c s d e; simp at e
  | @cons s may v ys vs h r ih =>
    intro c s' d e
    cases c with
    | zero =>
      have e1 : S s = S s' ∧ D.bl may = d := by simpa using e
      have e2 : s = s' := ofS_inj (by simpa using e1.1)
      subst e2
      exact ⟨v, rfl, h.sc⟩
    | succ c => exact ih c s' d (by simpa using e)
theorem row_loop {n l : Nat} {a b c : Option D} {ys vs : List D} (h : Row1 ys vs) : loopC (fun x => match setTg (.two (.two (.name 4) (.name 5)) (.name 3)) x [a, b, c, none, none, none] with
      | some σ => M.thn (evC (fr (n + 3) l) σ .no) fun k => if k then M.thn (evE (fr (n + 3) l) σ cellE) fun y => M.ret [y] else M.ret []
      | none => M.bad) (pairUp ys vs) = M.ret (ys.map fun _ => .bl true) := by
  induction h with
  | nil => rfl
  | @cons s may v ys vs h r ih =>
    have e := cell_run (n := n) (l := l) (a := a) (b := b) (c := c) h
    rw [pairUp, loopC, ih]
    have e2 : setTg (.two (.two (.name 4) (.name 5)) (.name 3)) (.tup [.tup [S s, .bl may], v]) [a, b, c, none, none, none] = some [a, b, c, some v, some (S s), some (.bl may)] := rfl
    rw [e2]
    show M.thn (M.thn (evC (fr (n + 3) l) [a, b, c, some v, some (S s), some (.bl may)] .no) fun k => if k then M.thn (evE (fr (n + 3) l) [a, b, c, some v, some (S s), some (.bl may)] cellE) fun y => M.ret [y] else M.ret []) _ = _
    rw [e]
    rfl
theorem fits_row_ok {n : Nat} {ys vs : List D} (h : Row1 ys vs) (hl : ys.length ≤ 6) : cl (n + 4) 55 [.tup ys, .tup vs] = M.ret (.bl true) := by
  have hlen := h.len
  have e1 : cl (n + 3) 1 [.tup vs, .int ys.length, .int ys.length] = M.ret (.bl true) := by
    rw [is_tuple_of_tup, hlen]
    simp
  have e2 := fun l => row_loop (n := n) (l := l) (a := some (.tup ys)) (b := some (.tup vs)) (c := some (.int ys.length)) h
  have e3 := all_true ys
  have hz : okSize ys.length = true := by simp [okSize]; omega
  funext st
  rw [cl_run (F := F_fits_row) rfl _ _ rfl]
  have g0 : exS (fr (n + 3) st.length) [some (.tup ys), some (.tup vs), none, none, none, none] (.asg (.name 2) (.blt .len (.var 0))) = M.ret (.next [some (.tup ys), some (.tup vs), some (.int ys.length), none, none, none]) := by
    simp [bltD]
  have g1 : exS (fr (n + 3) st.length) [some (.tup ys), some (.tup vs), some (.int ys.length), none, none, none] (.iff (.not (.call 1 (.cons (.var 1) (.cons (.var 2) (.cons (.var 2) .nil))))) (.cons (.ret (.const (.bl false))) .nil) .nil) = M.ret (.next [some (.tup ys), some (.tup vs), some (.int ys.length), none, none, none]) := by
    simp [e1]
  have g2 : evN (fr (n + 3) st.length) [some (.tup ys), some (.tup vs), some (.int ys.length), none, none, none] (.comp [3, 4, 5] cellE (.two (.two (.name 4) (.name 5)) (.name 3)) (.zip (.var 0) (.var 1)) .no) = M.ret (ys.map fun _ => .bl true) := by
    have it : evIt (fr (n + 3) st.length) [some (.tup ys), some (.tup vs), some (.int ys.length), none, none, none] (.zip (.var 0) (.var 1)) = M.ret (pairUp ys vs) := by
      simp [zipD]
    rw [evN, it, s_ret]
    have w : wipeE [some (.tup ys), some (.tup vs), some (.int ys.length), none, none, none] [3, 4, 5] = [some (.tup ys), some (.tup vs), some (.int ys.length), none, none, none] := rfl
    rw [w]
    refine (congrArg (fun z : M (List D) => M.calm (M.thn z fun ys => if okSize ys.length then M.ret ys else M.bad)) (e2 st.length)).trans ?_
    simp [hz]
  have g3 : exS (fr (n + 3) st.length) [some (.tup ys), some (.tup vs), some (.int ys.length), none, none, none] (.ret (.blt .all (.new (.comp [3, 4, 5] cellE (.two (.two (.name 4) (.name 5)) (.name 3)) (.zip (.var 0) (.var 1)) .no)))) = M.ret (.ret (.bl true)) := by
    have e4 : bltD .all (.lst (ys.map fun _ => .bl true)) = some (.bl true) := by
      have : (ys.map fun _ => true).all id = true := by
        induction ys with
        | nil => rfl
        | cons y ys _ => simp
      show (allB _).map _ = _
      rw [e3, Option.map_some, this]
    simp only [exS, evE, g2, s_ret, s_assoc]
    simp [e4]
  have b : exSs (fr (n + 3) st.length) [some (.tup ys), some (.tup vs), none, none, none, none] F_fits_row.body = M.ret (.ret (.bl true)) := by
    show exSs _ _ (.cons _ (.cons _ (.cons _ .nil))) = _
    rw [sqM g0, sqM g1]
    exact sqR g3
  refine (congrArg (fin st.length) (congrFun b st)).trans ?_
  simp [M.ret, fin, leave]
end K00
set_option linter.all false
set_option maxRecDepth 100000
set_option maxHeartbeats 4000000
namespace K00
open Ev PySem
theorem wp_thnN {α β : Type} {l : Nat} {x : M α} {f : α → M β} {P : α → Prop} {Q : β → Prop} {st : Store} (h : Wp l x P st) (k : ∀ a st', Cup st' l → st'.length = st.length → P a → Wp l (f a) Q st') : Wp l (M.thn x f) Q st := by
  obtain ⟨a, st', e, d, p⟩ := h
  obtain ⟨b, st'', e2, d2, q⟩ := k a st' d.cup d.len p
  refine ⟨b, st'', ?_, d.trans d2, q⟩
  rw [a_thn, e]
  exact e2
theorem wp_calm {α : Type} {l : Nat} {x : M α} {P : α → Prop} {st : Store} (h : Wp l x P st) : Wp l (M.calm x) P st := by
  obtain ⟨a, st', e, d, p⟩ := h
  exact ⟨a, st', by simp only [M.calm, e], d, p⟩
/-- one cell -/
theorem wp_value {n l : Nat} {s : String} (hs : s = "int" ∨ s = "word") {may : Bool} {st : Store} (h : Cup st l) : Wp l (cl (n + 3) 67 [.ref l, .tup [S s, .bl may]]) (Cell1 s may) st := by
  refine wp_def (F := F__law_value) rfl rfl ?_
  show Wp l (exSs (fr (n + 2) st.length) [some (.ref l), some (.tup [S s, .bl may])] F__law_value.body) _ st
  generalize st.length = L
  refine wp_seq (P := fun fl => (∃ d, fl = .ret d ∧ Cell1 s may d) ∨ fl = .next [some (.ref l), some (.tup [S s, .bl may])]) ?_ fun fl st1 h1 hp => ?_
  · cases may with
    | false =>
      simp [idxD, ixAt]
      exact wp_ret h (.inr rfl)
    | true =>
      simp [idxD, ixAt]
      refine wp_thn (wp_roll h (by omega)) fun r st1 h1 hr => ?_
      obtain ⟨r, rfl, _, _⟩ := hr
      simp [cmpD]
      by_cases hr0 : r = 0
      · rw [if_pos hr0]
        exact wp_ret h1 (.inl ⟨_, rfl, .inl ⟨rfl, rfl⟩⟩)
      · rw [if_neg hr0]
        exact wp_ret h1 (.inr rfl)
  rcases hp with ⟨d, rfl, hd⟩ | rfl
  · exact wp_ret h1 ⟨d, rfl, hd⟩
  show Wp l (exSs (fr (n + 2) L) [some (.ref l), some (.tup [S s, .bl may])] _) _ st1
  rcases hs with rfl | rfl
  · simp [idxD, ixAt, eq_str]
    refine wp_thn (wp_roll h1 (by omega)) fun r st2 h2 hr => ?_
    obtain ⟨r, rfl, h3, h4⟩ := hr
    try simp
    exact wp_ret h2 ⟨_, rfl, .inr (.inl ⟨rfl, r, rfl, by omega, by omega⟩)⟩
  · simp [idxD, ixAt, eq_str, okSize]
    refine wp_thn (wp_some h1 (by simp) (by simp)) fun v st2 h2 hv => ?_
    try simp
    simp only [List.mem_cons, List.not_mem_nil, or_false] at hv
    exact wp_ret h2 ⟨_, rfl, .inr (.inr ⟨rfl, hv⟩)⟩
/-- columns that are drawn -/
inductive Cs : List D → Prop
  | nil : Cs []
  | cons {s : String} {may : Bool} {ys : List D} (hs : s = "int" ∨ s = "word") (r : Cs ys) : Cs (.tup [S s, .bl may] :: ys)
inductive All2 (P : D → D → Prop) : List D → List D → Prop
  | nil : All2 P [] []
  | cons {x y : D} {xs ys : List D} (h : P x y) (r : All2 P xs ys) : All2 P (x :: xs) (y :: ys)
/-- a list of draws, one each -/
theorem wp_loop {l : Nat} {f : D → M (List D)} {P : D → D → Prop} : ∀ {xs : List D} {st : Store}, Cup st l → (∀ x ∈ xs, ∀ st, Cup st l → Wp l (f x) (fun ys => ∃ y, ys = [y] ∧ P x y) st) → Wp l (loopC f xs) (fun ys => All2 P xs ys) st
  | [], st, h, _ => wp_ret h .nil
  | x :: xs, st, h, k => by
    rw [loopC]
    refine wp_thn (k x List.mem_cons_self st h) fun ys st1 h1 hy => ?_
    obtain ⟨y, rfl, hy⟩ := hy
    refine wp_thn (wp_loop h1 fun x hx => k x (List.mem_cons_of_mem _ hx)) fun zs st2 h2 hz => ?_
    exact wp_ret h2 (.cons hy hz)
theorem All2.len {P : D → D → Prop} {xs ys : List D} (h : All2 P xs ys) : ys.length = xs.length := by
  induction h with
  | nil => rfl
  | cons h r ih => simp [ih]
theorem All2.at {P : D → D → Prop} {xs ys : List D} (h : All2 P xs ys) : ∀ (i : Nat) (x : D), xs[i]? = some x → ∃ y, ys[i]? = some y ∧ P x y := by
  induction h with
  | nil => intro i x e; simp at e
  | cons h r ih =>
    intro i x e
    cases i with
    | zero =>
      have e1 := Option.some.inj e
      subst e1
      exact ⟨_, rfl, h⟩
    | succ i => exact ih i x (by simpa using e)
/-- the cells of a row behind its key -/
theorem cells_of {ys vs : List D} (hc : Cs ys) : All2 (fun y v => ∀ s may, y = .tup [S s, .bl may] → Cell1 s may v) ys vs → Row1 ys vs := by
  induction hc generalizing vs with
  | nil => intro h; cases h; exact .nil
  | @cons s may ys hs r ih =>
    intro h
    cases h with
    | cons h1 h2 => exact .cons (h1 s may rfl) (ih h2)
theorem Cs.mem {ys : List D} (h : Cs ys) : ∀ y ∈ ys, ∃ s may, (s = "int" ∨ s = "word") ∧ y = .tup [S s, .bl may] := by
  induction h with
  | nil => intro y hy; cases hy
  | @cons s may ys hs r ih =>
    intro y hy
    rcases List.mem_cons.mp hy with rfl | hy
    · exact ⟨s, may, hs, rfl⟩
    · exact ih y hy
end K00
set_option linter.all false
set_option maxRecDepth 100000
set_option maxHeartbeats 4000000
namespace K00
open Ev PySem
abbrev asc := ascI
def prs : List Int → List Bool
  | a :: b :: r => decide (a < b) :: prs (b :: r)
  | _ => []
theorem prs_all : ∀ ks : List Int, (prs ks).all id = ascI ks
  | [] => rfl
  | [_] => rfl
  | a :: b :: r => by
    show (decide (a < b) && (prs (b :: r)).all id) = _
    rw [prs_all (b :: r)]; rfl
/-- rows by their keys -/
inductive Rws (ys : List D) : List Int → List D → Prop
  | nil : Rws ys [] []
  | cons {k : Int} {vs : List D} {ks : List Int} {rows : List D} (h : Row1 ys (.int k :: vs)) (r : Rws ys ks rows) : Rws ys (k :: ks) (.tup (.int k :: vs) :: rows)
theorem Rws.len {ys : List D} {ks : List Int} {rows : List D} (h : Rws ys ks rows) : rows.length = ks.length := by
  induction h with
  | nil => rfl
  | cons h r ih => simp [ih]
theorem Rws.append {ys : List D} {ks ls : List Int} {rows more : List D} (h : Rws ys ks rows) (g : Rws ys ls more) : Rws ys (ks ++ ls) (rows ++ more) := by
  induction h with
  | nil => exact g
  | cons h r ih => exact .cons h ih
theorem Rws.reverse {ys : List D} {ks : List Int} {rows : List D} (h : Rws ys ks rows) : Rws ys ks.reverse rows.reverse := by
  induction h with
  | nil => exact .nil
  | cons h r ih =>
    rw [List.reverse_cons, List.reverse_cons]
    exact ih.append (.cons h .nil)
theorem Rws.take {ys : List D} {ks : List Int} {rows : List D} (h : Rws ys ks rows) : Rws ys (ks.take 1) (rows.take 1) := by
  cases h with
  | nil => exact .nil
  | cons h r => exact .cons h .nil
theorem fits_loop {n l : Nat} {ys : List D} (hl : ys.length ≤ 6) {b d : Option D} {ks : List Int} {rows : List D} (h : Rws ys ks rows) :
    loopC (fun x => match setTg (.name 2) x [some (.tup ys), b, none, d] with
      | some σ => M.thn (evC (fr (n + 4) l) σ .no) fun k => if k then M.thn (evE (fr (n + 4) l) σ (.call 55 (.cons (.var 0) (.cons (.var 2) .nil)))) fun y => M.ret [y] else M.ret []
      | none => M.bad) rows = M.ret (rows.map fun _ => .bl true) := by
  induction h with
  | nil => rfl
  | @cons k vs ks rows h r ih =>
    have q : cl (n + 4) 55 [.tup ys, .tup (.int k :: vs)] = M.ret (.bl true) := fits_row_ok h hl
    rw [loopC, ih]
    have q2 : evE (fr (n + 4) l) [some (.tup ys), b, some (.tup (.int k :: vs)), d] (.call 55 (.cons (.var 0) (.cons (.var 2) .nil))) = M.ret (.bl true) := by
      simp [q]
    show M.thn (M.thn (evC (fr (n + 4) l) [some (.tup ys), b, some (.tup (.int k :: vs)), d] .no) fun k' => if k' then M.thn (evE (fr (n + 4) l) [some (.tup ys), b, some (.tup (.int k :: vs)), d] (.call 55 (.cons (.var 0) (.cons (.var 2) .nil)))) fun y => M.ret [y] else M.ret []) _ = _
    rw [q2]
    rfl
abbrev ascE : E := (.cmp .Lt (.idx (.var 2) (.const (.int 0))) (.idx (.var 3) (.const (.int 0))))
theorem asc_loop {C : Cfg} {ys : List D} {a b : Option D} {ks : List Int} {rows : List D} (h : Rws ys ks rows) :
    loopC (fun x => match setTg (.two (.name 2) (.name 3)) x [a, b, none, none] with
      | some σ => M.thn (evC C σ .no) fun k => if k then M.thn (evE C σ ascE) fun y => M.ret [y] else M.ret []
      | none => M.bad) (pairUp rows rows.tail) = M.ret ((prs ks).map .bl) := by
  induction h with
  | nil => rfl
  | @cons k vs ks rows h r ih =>
    cases r with
    | nil => rfl
    | @cons k2 vs2 ks2 rows2 h2 r2 =>
      have ih' := ih
      rw [List.tail_cons, pairUp, loopC]
      rw [List.tail_cons] at ih'
      rw [ih']
      have q : evE C [a, b, some (.tup (.int k :: vs)), some (.tup (.int k2 :: vs2))] ascE = M.ret (.bl (decide (k < k2))) := by
        simp [idxD, ixAt, cmpD, ltD]
      show M.thn (M.thn (evC C [a, b, some (.tup (.int k :: vs)), some (.tup (.int k2 :: vs2))] .no) fun k' => if k' then M.thn (evE C [a, b, some (.tup (.int k :: vs)), some (.tup (.int k2 :: vs2))] ascE) fun y => M.ret [y] else M.ret []) _ = _
      rw [q]
      rfl
end K00
set_option linter.all false
set_option maxRecDepth 100000
set_option maxHeartbeats 4000000
namespace K00
open Ev PySem
theorem allB_bls : ∀ bs : List Bool, allB (bs.map .bl) = some bs
  | [] => rfl
  | b :: bs => by
    show (allB (bs.map .bl)).map (b :: ·) = _
    rw [allB_bls bs]; rfl
theorem all_bls (bs : List Bool) : bltD .all (.lst (bs.map .bl)) = some (.bl (bs.all id)) := by
  show (allB _).map _ = _
  rw [allB_bls]; rfl
theorem prs_len : ∀ ks : List Int, (prs ks).length ≤ ks.length
  | [] => Nat.le_refl _
  | [_] => Nat.zero_le _
  | a :: b :: r => by
    have := prs_len (b :: r)
    show (prs (b :: r)).length + 1 ≤ _
    rw [List.length_cons]; omega
abbrev fitN : N := (.comp [2] (.call 55 (.cons (.var 0) (.cons (.var 2) .nil))) (.name 2) (.val (.var 1)) .no)
abbrev ascN : N := (.comp [2, 3] ascE (.two (.name 2) (.name 3)) (.zip (.var 1) (.slc (.var 1) (.is (.const (.int 1))) .no)) .no)
abbrev f0 : Ev.S := (.iff (.or (.not (.call 1 (.cons (.var 1) (.cons (.const (.int 0)) (.cons (.gc "ROWS" c_ROWS) .nil))))) (.not (.blt .all (.new fitN)))) (.cons (.ret (.const (.bl false))) .nil) .nil)
abbrev f1 : Ev.S := (.ret (.blt .all (.new ascN)))
theorem fits_rows_ok {n : Nat} {ys : List D} (hl : ys.length ≤ 6) {ks : List Int} {rows : List D} (h : Rws ys ks rows) (hr : ks.length ≤ 60) : cl (n + 5) 73 [.tup ys, .tup rows] = M.ret (.bl (ascI ks)) := by
  have hlen := h.len
  have e1 : cl (n + 4) 1 [.tup rows, .int 0, .int 60] = M.ret (.bl true) := by
    rw [is_tuple_of_tup]
    have h1 : (0 : Int) ≤ rows.length := by omega
    have h2 : (rows.length : Int) ≤ 60 := by omega
    simp [h1, h2]
  funext st
  rw [cl_run (F := F_fits_rows) rfl _ _ rfl]
  have e2 := fits_loop (n := n) (l := st.length) hl (b := some (.tup rows)) (d := none) h
  have e3 := asc_loop (C := fr (n + 4) st.length) (a := some (.tup ys)) (b := some (.tup rows)) h
  have g1 : evN (fr (n + 4) st.length) [some (.tup ys), some (.tup rows), none, none] fitN = M.ret (rows.map fun _ => .bl true) := by
    have it : evIt (fr (n + 4) st.length) [some (.tup ys), some (.tup rows), none, none] (.val (.var 1)) = M.ret rows := by
      simp [walkD]
    have hz : okSize rows.length = true := by simp [okSize]; omega
    rw [evN, it, s_ret]
    rw [show wipeE [some (.tup ys), some (.tup rows), none, none] [2] = [some (.tup ys), some (.tup rows), none, none] from rfl]
    refine (congrArg (fun z : M (List D) => M.calm (M.thn z fun ys => if okSize ys.length then M.ret ys else M.bad)) e2).trans ?_
    simp [hz]
  have g2 : evN (fr (n + 4) st.length) [some (.tup ys), some (.tup rows), none, none] ascN = M.ret ((prs ks).map .bl) := by
    have it : evIt (fr (n + 4) st.length) [some (.tup ys), some (.tup rows), none, none] (.zip (.var 1) (.slc (.var 1) (.is (.const (.int 1))) .no)) = M.ret (pairUp rows rows.tail) := by
      have e : cutL rows (some 1) none = rows.tail := by
        cases rows with
        | nil => rfl
        | cons r rs => simp [cutL, cutAt]
      simp [zipD, slcD, e]
    have hz : okSize (prs ks).length = true := by have := prs_len ks; simp [okSize]; omega
    rw [evN, it, s_ret]
    rw [show wipeE [some (.tup ys), some (.tup rows), none, none] [2, 3] = [some (.tup ys), some (.tup rows), none, none] from rfl]
    refine (congrArg (fun z : M (List D) => M.calm (M.thn z fun ys => if okSize ys.length then M.ret ys else M.bad)) e3).trans ?_
    simp [hz]
  have a1 : bltD .all (.lst (rows.map fun _ => .bl true)) = some (.bl true) := by
    have := all_bls (rows.map fun _ => true)
    rw [List.map_map] at this
    have e : (rows.map fun _ => true).all id = true := by
      rw [List.all_eq_true]
      intro x hx
      obtain ⟨_, _, rfl⟩ := List.mem_map.mp hx
      rfl
    rw [e] at this
    exact this
  have a2 := all_bls (prs ks)
  rw [prs_all] at a2
  have s0 : exS (fr (n + 4) st.length) [some (.tup ys), some (.tup rows), none, none] f0 = M.ret (.next [some (.tup ys), some (.tup rows), none, none]) := by
    simp only [f0, exS, evE, evEs, g1, s_ret, s_assoc]
    simp [c_ROWS, e1, a1]
  have s1 : exS (fr (n + 4) st.length) [some (.tup ys), some (.tup rows), none, none] f1 = M.ret (.ret (.bl (ascI ks))) := by
    simp only [f1, exS, evE, evEs, g2, s_ret, s_assoc]
    simp [a2]
  have b : exSs (fr (n + 4) st.length) [some (.tup ys), some (.tup rows), none, none] F_fits_rows.body = M.ret (.ret (.bl (ascI ks))) := by
    show exSs _ _ (.cons f0 (.cons f1 .nil)) = _
    rw [sqM s0, sqR s1]
  refine (congrArg (fin st.length) (congrFun b st)).trans ?_
  simp [M.ret, fin, leave]
abbrev tabN : N := (.comp [3, 4] (.call 73 (.cons (.idx (.var 3) (.const (.int 0))) (.cons (.var 4) .nil))) (.two (.name 3) (.name 4)) (.zip (.var 0) (.var 1)) .no)
theorem fits_state_ok {n : Nat} {b : Bool} {r0 r1 : D} {ks ls : List Int} {rows more : List D} (h : Rws (cols0 b) ks rows) (g : Rws cols1 ls more) (hk : ks.length ≤ 60) (hl : ls.length ≤ 60) : cl (n + 6) 74 [schemaD b r0 r1, .tup [.tup rows, .tup more]] = M.ret (.bl (ascI ks && ascI ls)) := by
  have q1 : cl (n + 5) 73 [.tup (cols0 b), .tup rows] = M.ret (.bl (ascI ks)) := fits_rows_ok (by simp) h hk
  have q2 : cl (n + 5) 73 [.tup cols1, .tup more] = M.ret (.bl (ascI ls)) := fits_rows_ok (by simp) g hl
  have e1 : cl (n + 5) 1 [.tup [.tup rows, .tup more], .int 2, .int 2] = M.ret (.bl true) := by
    rw [is_tuple_of_tup]; simp
  have a := all_bls [ascI ks, ascI ls]
  simp only [List.map_cons, List.map_nil, List.all_cons, List.all_nil, id, Bool.and_true] at a
  funext st
  rw [cl_run (F := F_fits_state) rfl _ _ rfl]
  have g1 : evN (fr (n + 5) st.length) [some (schemaD b r0 r1), some (.tup [.tup rows, .tup more]), some (.int 2), none, none] tabN = M.ret [.bl (ascI ks), .bl (ascI ls)] := by
    simp [zipD, pairUp, loopC, idxD, ixAt, q1, q2, okSize]
  have s0 : exS (fr (n + 5) st.length) [some (schemaD b r0 r1), some (.tup [.tup rows, .tup more]), none, none, none] (.asg (.name 2) (.blt .len (.var 0))) = M.ret (.next [some (schemaD b r0 r1), some (.tup [.tup rows, .tup more]), some (.int 2), none, none]) := by
    simp [bltD]
  have s1 : exS (fr (n + 5) st.length) [some (schemaD b r0 r1), some (.tup [.tup rows, .tup more]), some (.int 2), none, none] (.iff (.not (.call 1 (.cons (.var 1) (.cons (.var 2) (.cons (.var 2) .nil))))) (.cons (.ret (.const (.bl false))) .nil) .nil) = M.ret (.next [some (schemaD b r0 r1), some (.tup [.tup rows, .tup more]), some (.int 2), none, none]) := by
    simp [e1]
  have s2 : exS (fr (n + 5) st.length) [some (schemaD b r0 r1), some (.tup [.tup rows, .tup more]), some (.int 2), none, none] (.ret (.blt .all (.new tabN))) = M.ret (.ret (.bl (ascI ks && ascI ls))) := by
    simp only [exS, evE, evEs, g1, s_ret, s_assoc]
    simp [a]
  have b' : exSs (fr (n + 5) st.length) [some (schemaD b r0 r1), some (.tup [.tup rows, .tup more]), none, none, none] F_fits_state.body = M.ret (.ret (.bl (ascI ks && ascI ls))) := by
    show exSs _ _ (.cons _ (.cons _ (.cons _ .nil))) = _
    rw [sqM s0, sqM s1]
    exact sqR s2
  refine (congrArg (fin st.length) (congrFun b' st)).trans ?_
  simp [M.ret, fin, leave]
end K00
set_option linter.all false
set_option maxRecDepth 100000
set_option maxHeartbeats 4000000
namespace K00
open Ev PySem
/-- below L all is as it was, but for the cup at l -/
structure Drn (l L : Nat) (st st' : Store) : Prop where
  cup : Cup st' l
  lt : l < L
  len : L ≤ st'.length
  same : ∃ c, st'.take L = (st.take L).set l c
def WpS {α : Type} (l L : Nat) (x : M α) (Q : α → Store → Prop) (st : Store) : Prop := ∃ a st', x st = .ok a st' ∧ Drn l L st st' ∧ Q a st'
theorem Drn.trans {l L : Nat} {st st' st'' : Store} (h : Drn l L st st') (g : Drn l L st' st'') : Drn l L st st'' := by
  obtain ⟨c, e⟩ := h.same
  obtain ⟨d, e'⟩ := g.same
  exact ⟨g.cup, g.lt, g.len, d, by rw [e', e, List.set_set]⟩
theorem Drn.refl {l L : Nat} {st : Store} (h : Cup st l) (hl : l < L) (hL : L ≤ st.length) : Drn l L st st := by
  have h0 := h
  obtain ⟨a, b, hc, _⟩ := h
  obtain ⟨hi, e⟩ := List.getElem?_eq_some_iff.mp hc
  refine ⟨h0, hl, hL, st[l], ?_⟩
  have e2 : (st.take L)[l]? = some st[l] := by rw [List.getElem?_take_of_lt hl, List.getElem?_eq_getElem hi]
  obtain ⟨hi2, e3⟩ := List.getElem?_eq_some_iff.mp e2
  rw [← e3, List.set_getElem_self]
theorem wps_ret {α : Type} {l L : Nat} {a : α} {Q : α → Store → Prop} {st : Store} (h : Cup st l) (hl : l < L) (hL : L ≤ st.length) (q : Q a st) : WpS l L (M.ret a) Q st := ⟨a, st, rfl, .refl h hl hL, q⟩
theorem wps_thn {α β : Type} {l L : Nat} {x : M α} {f : α → M β} {P : α → Store → Prop} {Q : β → Store → Prop} {st : Store} (h : WpS l L x P st) (k : ∀ a st', Cup st' l → L ≤ st'.length → P a st' → WpS l L (f a) Q st') : WpS l L (M.thn x f) Q st := by
  obtain ⟨a, st', e, d, p⟩ := h
  obtain ⟨b, st'', e2, d2, q⟩ := k a st' d.cup d.len p
  refine ⟨b, st'', ?_, d.trans d2, q⟩
  rw [a_thn, e]
  exact e2
theorem WpS.mono {α : Type} {l L : Nat} {x : M α} {P Q : α → Store → Prop} {st : Store} (h : WpS l L x P st) (k : ∀ a st', P a st' → Q a st') : WpS l L x Q st := let ⟨a, st', e, d, p⟩ := h; ⟨a, st', e, d, k a st' p⟩
theorem Drawn.drn {l L : Nat} {st st' : Store} (h : Drawn l st st') (hl : l < L) (hL : L ≤ st.length) : Drn l L st st' := by
  obtain ⟨c, e⟩ := h.same
  exact ⟨h.cup, hl, by rw [h.len]; exact hL, c, by rw [e, List.take_set]⟩
theorem Wp.s {α : Type} {l L : Nat} {x : M α} {P : α → Prop} {st : Store} (h : Wp l x P st) (hl : l < L) (hL : L ≤ st.length) : WpS l L x (fun a st' => P a ∧ ∃ c, st' = st.set l c) st := by
  obtain ⟨a, st', e, d, p⟩ := h
  exact ⟨a, st', e, d.drn hl hL, p, d.same⟩
/-- a def whose own cells are let go -/
theorem wps_def {n f l : Nat} {F : Fn} {as : List D} {Q : D → Prop} {st : Store} (h : Pp.find f = some F) (hl : as.length = F.ps.length)
    (k : WpS l st.length (exSs ⟨fun g xs => cl n g xs, st.length, fuel, T.exmF⟩ (as.map some ++ List.replicate (F.slots.length - as.length) none) F.body) (fun fl _ => ∃ d, fl = .ret d ∧ d.plain = true ∧ Q d) st) : Wp l (cl (n + 1) f as) Q st := by
  obtain ⟨fl, st', e, dr, d, rfl, pl, q⟩ := k
  obtain ⟨c, es⟩ := dr.same
  have e2 : leave st.length d st' = .ok d (st'.take st.length) := by
    unfold leave
    split
    · rename_i hq
      rw [← hq, List.take_length]
    · first | rfl | rw [if_pos pl]
  refine ⟨d, st'.take st.length, ?_, ⟨?_, c, ?_⟩, q⟩
  · rw [cl_run h _ _ hl, e]
    exact e2
  · obtain ⟨a, b, h1, h2⟩ := dr.cup
    exact ⟨a, b, by rw [List.getElem?_take_of_lt dr.lt]; exact h1, h2⟩
  · rw [es, List.take_length]
theorem wps_seq {C : Cfg} {ρ : Ev.Env} {s : Ev.S} {ss : Ss} {l L : Nat} {P Q : Ev.Flow → Store → Prop} {st : Store} (h : WpS l L (exS C ρ s) P st) (k : ∀ fl st', Cup st' l → L ≤ st'.length → P fl st' → WpS l L (flowK (fun ρ => exSs C ρ ss) fl) Q st') : WpS l L (exSs C ρ (.cons s ss)) Q st := by
  rw [show exSs C ρ (.cons s ss) = M.thn (exS C ρ s) (flowK fun ρ => exSs C ρ ss) from congrFun (cons_eq C s ss) ρ]
  exact wps_thn h k
/-- a loop whose turns go on, by an invariant -/
theorem wps_for {l L : Nat} {f : D → Ev.Env → M Ev.Flow} : ∀ {vs : List D} {k : Nat} (I : Nat → Ev.Env → Store → Prop), (∀ i v, vs[i]? = some v → ∀ ρ st, Cup st l → L ≤ st.length → I (k + i) ρ st → WpS l L (f v ρ) (fun fl st' => ∃ ρ', fl = .next ρ' ∧ I (k + i + 1) ρ' st') st) →
    ∀ {ρ : Ev.Env} {st : Store}, Cup st l → l < L → L ≤ st.length → I k ρ st → WpS l L (forL f vs ρ) (fun fl st' => ∃ ρ', fl = .next ρ' ∧ I (k + vs.length) ρ' st') st
  | [], k, I, _, ρ, st, h, hl, hL, h0 => wps_ret h hl hL ⟨ρ, rfl, h0⟩
  | v :: vs, k, I, hs, ρ, st, h, hl, hL, h0 => by
    rw [forL]
    refine wps_thn (hs 0 v rfl ρ st h hL h0) fun fl st' h' hL' hp => ?_
    obtain ⟨ρ', rfl, h1⟩ := hp
    have := wps_for (vs := vs) (k := k + 1) I (fun i w hw ρ st h hL h0 => by
      have := hs (i + 1) w (by simpa using hw) ρ st h hL (by rw [show k + (i + 1) = k + 1 + i from by omega]; exact h0)
      rw [show k + (i + 1) = k + 1 + i from by omega] at this
      exact this) h' hl hL' h1
    rw [List.length_cons, show k + (vs.length + 1) = k + 1 + vs.length from by omega]
    exact this
/-- a comprehension that draws, one each -/
theorem wp_comp {l : Nat} {C : Cfg} {ρ : Ev.Env} {own : List Nat} {elt : E} {tg : Tg} {it : It} {xs : List D} {P : D → D → Prop} {st : Store} (hit : evIt C ρ it = M.ret xs) (hz : okSize xs.length = true) (hc : Cup st l)
    (h : ∀ x ∈ xs, ∀ st, Cup st l → ∃ σ, setTg tg x (wipeE ρ own) = some σ ∧ Wp l (evE C σ elt) (P x) st) : Wp l (evN C ρ (.comp own elt tg it .no)) (fun ys => All2 P xs ys) st := by
  rw [comp_eq, hit, s_ret]
  refine wp_calm (wp_thn (wp_loop (P := P) hc fun x hx st' h' => ?_) fun ys st1 h1 hy => ?_)
  · obtain ⟨σ, e, w⟩ := h x hx st' h'
    unfold turnN
    rw [e]
    show Wp l (M.thn (evE C σ elt) fun y => M.ret [y]) _ st'
    exact wp_thn w fun y st2 h2 hp => wp_ret h2 ⟨y, rfl, hp⟩
  · rw [if_pos (by rw [hy.len]; exact hz)]
    exact wp_ret h1 hy
/-- a table of a schema, but for its key's column -/
abbrev Tab := List D × D
def Tab.d (t : Tab) : D := .tup [.tup (intF :: t.1), t.2]
/-- rows that are drawn for a table -/
def RowsOf (ys rows : List D) : Prop := ∃ ks, Rws (intF :: ys) ks rows ∧ ascI ks = true ∧ ks.length ≤ 59
inductive Sts : List Tab → List D → Prop
  | nil : Sts [] []
  | cons {t : Tab} {ts : List Tab} {rows : List D} {more : List D} (h : RowsOf t.1 rows) (r : Sts ts more) : Sts (t :: ts) (.tup rows :: more)
theorem Sts.snoc {ts : List Tab} {more : List D} (h : Sts ts more) {t : Tab} {rows : List D} (g : RowsOf t.1 rows) : Sts (ts ++ [t]) (more ++ [.tup rows]) := by
  induction h with
  | nil => exact .cons g .nil
  | cons h r ih => exact .cons h ih
theorem cell1_plain {s : String} {may : Bool} {v : D} (h : Cell1 s may v) : v.plain = true := by
  rcases h with ⟨_, rfl⟩ | ⟨_, i, rfl, _⟩ | ⟨_, rfl | rfl | rfl | rfl⟩ <;> rfl
theorem row1_plain {ys vs : List D} (h : Row1 ys vs) : D.plains vs = true := by
  induction h with
  | nil => rfl
  | cons h r ih => rw [D.plains, cell1_plain h, ih]; rfl
theorem rws_plain {ys : List D} {ks : List Int} {rows : List D} (h : Rws ys ks rows) : D.plains rows = true := by
  induction h with
  | nil => rfl
  | cons h r ih => rw [D.plains, D.plain, row1_plain h, ih]; rfl
theorem sts_plain {ts : List Tab} {more : List D} (h : Sts ts more) : D.plains more = true := by
  induction h with
  | nil => rfl
  | cons h r ih =>
    obtain ⟨ks, h, _⟩ := h
    rw [D.plains, D.plain, rws_plain h, ih]; rfl
end K00
set_option linter.all false
set_option maxRecDepth 100000
set_option maxHeartbeats 4000000
namespace K00
open Ev PySem
abbrev ls (l : Nat) (tb sch : D) (m : Int) (c r k : Option D) : Ev.Env := [some (.ref l), some sch, some (.int m), some tb, c, r, k, none, none, none]
abbrev keyN : N := (.comp [7] (.call 30 (.cons (.var 0) (.cons (.bin .Add (.var 2) (.const (.int 2))) .nil))) (.name 7) (.rng1 (.call 30 (.cons (.var 0) (.cons (.bin .Add (.var 2) (.const (.int 1))) .nil)))) .no)
theorem rngUp_len : ∀ (n : Nat) (lo : Int), (rngUp lo n).length = n
  | 0, _ => rfl
  | n + 1, lo => by rw [rngUp, List.length_cons, rngUp_len n]
/-- ints that are drawn, as many as there are turns -/
def IntsD (m : Int) (ys : List D) : Prop := ∃ is : List Int, ys = is.map .int ∧ ∀ k ∈ is, 0 ≤ k ∧ k < m
theorem ints_all2 {m : Int} {xs ys : List D} (h : All2 (fun _ y => ∃ r : Int, y = .int r ∧ 0 ≤ r ∧ r < m) xs ys) : IntsD m ys := by
  induction h with
  | nil => exact ⟨[], rfl, fun k hk => by cases hk⟩
  | cons h rest ih =>
    obtain ⟨r, rfl, h1, h2⟩ := h
    obtain ⟨is, rfl, h3⟩ := ih
    refine ⟨r :: is, rfl, fun k hk => ?_⟩
    rcases List.mem_cons.mp hk with rfl | hk
    · exact ⟨h1, h2⟩
    · exact h3 k hk
/-- keys: ascending -/
def KeysD (m : Int) (d : D) : Prop := ∃ ks : List Int, d = .lst (ks.map .int) ∧ ascI ks = true ∧ (ks.length : Int) ≤ m ∧ ∀ k ∈ ks, 0 ≤ k ∧ k < m + 2
theorem wp_keys {n B l : Nat} {tb sch : D} {m : Int} (hm : 0 ≤ m ∧ m ≤ 50) {c r k : Option D} {st : Store} (h : Cup st l) : Wp l (evE (fr (n + 1) B) (ls l tb sch m c r k) (.srt (.new keyN))) (KeysD m) st := by
  rw [evE]
  refine wp_thn (P := fun d => ∃ is : List Int, d = .lst (is.map .int) ∧ (is.length : Int) ≤ m ∧ ∀ k ∈ is, 0 ≤ k ∧ k < m + 2) ?_ fun d st1 h1 hd => ?_
  · rw [evE, comp_eq, s_assoc]
    refine wp_thn (P := fun xs => (xs.length : Int) ≤ m) ?_ fun xs st1 h1 hx => ?_
    · simp [binD]
      refine wp_thn (wp_roll h (by omega)) fun d st1 h1 hr => ?_
      obtain ⟨r, rfl, h2, h3⟩ := hr
      have e : okRng r = true := by simp [okRng]; omega
      simp only [e, if_true]
      refine wp_ret h1 ?_
      rw [rngUp_len]; omega
    · have hz : okSize xs.length = true := okz_lt (by omega)
      refine wp_thn (P := fun ys => (∃ is : List Int, ys = is.map .int ∧ (is.length : Int) ≤ m ∧ ∀ k ∈ is, 0 ≤ k ∧ k < m + 2)) (wp_calm (wp_thn (wp_loop (P := fun _ y => ∃ r : Int, y = .int r ∧ 0 ≤ r ∧ r < m + 2) h1 fun x hx st' h' => ?_) fun ys st2 h2 hy => ?_)) fun ys st2 h2 hy => ?_
      · show Wp l (M.thn (evC (fr (n + 1) B) ((ls l tb sch m c r k).set 7 (some x)) .no) fun b => if b then M.thn (evE (fr (n + 1) B) ((ls l tb sch m c r k).set 7 (some x)) (.call 30 (.cons (.var 0) (.cons (.bin .Add (.var 2) (.const (.int 2))) .nil)))) fun y => M.ret [y] else M.ret []) _ st'
        simp [binD]
        refine wp_thn (wp_roll h' (by omega)) fun d st1 h1 hr => ?_
        exact wp_ret h1 ⟨d, rfl, hr⟩
      · rw [if_pos (by rw [hy.len]; exact hz)]
        have hl := hy.len
        obtain ⟨is, rfl, hi⟩ := ints_all2 hy
        rw [List.length_map] at hl
        exact wp_ret h2 ⟨is, rfl, by omega, hi⟩
      · obtain ⟨is, rfl, hl, hi⟩ := hy
        exact wp_ret h2 ⟨is, rfl, hl, hi⟩
  · obtain ⟨is, rfl, hl, hi⟩ := hd
    have e : srtD (.lst (is.map .int)) = some (.lst ((sortU is).map .int)) := by
      have h64 : is.length < 64 := by omega
      simp [srtD, allI_map, h64]
    refine ⟨.lst ((sortU is).map .int), st1, ?_, .refl h1, sortU is, rfl, asc_sortU is, ?_, fun k hk => hi k (memU_sort hk)⟩
    · show M.ofO (srtD (.lst (is.map .int))) st1 = _
      rw [e]; rfl
    · have := len_sortU is
      omega
abbrev rowE2 : E := (.bin .Add (.tup (.cons (.var 8) .nil)) (.blt .tuple (.new (.comp [9] (.call 67 (.cons (.var 0) (.cons (.var 9) .nil))) (.name 9) (.val (.slc (.var 4) (.is (.const (.int 1))) .no)) .no))))
/-- the cells of columns, drawn -/
theorem wp_cells {n l B : Nat} {ρ : Ev.Env} {ys : List D} {own : List Nat} {elt e : E} {i : Nat} (hc : Cs ys) (hl : ys.length ≤ 6) (he : evIt (fr (n + 3) B) ρ (.val e) = M.ret ys)
    (hx : ∀ x, evE (fr (n + 3) B) ((wipeE ρ own).set i (some x)) elt = cl (n + 3) 67 [.ref l, x]) {st : Store} (h : Cup st l) :
    Wp l (evN (fr (n + 3) B) ρ (.comp own elt (.name i) (.val e) .no)) (Row1 ys) st := by
  refine (wp_comp (P := fun y v => ∀ s may, y = .tup [S s, .bl may] → Cell1 s may v) he (okz_lt (by omega)) h fun x hm st' h' => ⟨_, rfl, ?_⟩).mono fun vs h => cells_of hc h
  obtain ⟨s, may, hs, rfl⟩ := hc.mem x hm
  rw [hx]
  refine (wp_value hs h').mono fun v hv s' may' e => ?_
  have e2 : S s = S s' ∧ D.bl may = D.bl may' := by simpa using e
  have e3 : s = s' := ofS_inj (by simpa using e2.1)
  have e4 : may = may' := by simpa using e2.2
  subst e3; subst e4
  exact hv
theorem wp_row2 {n B l : Nat} {tb sch : D} {m : Int} {r k6 : Option D} {ys : List D} (hc : Cs ys) (hl : ys.length ≤ 5) {k : Int} (hk : -1000000000 ≤ k ∧ k ≤ 1000000000) {st : Store} (h : Cup st l) :
    Wp l (evE (fr (n + 3) B) [some (.ref l), some sch, some (.int m), some tb, some (.tup (intF :: ys)), r, k6, none, some (.int k), none] rowE2) (fun d => ∃ vs, d = .tup (.int k :: vs) ∧ Row1 (intF :: ys) (.int k :: vs)) st := by
  have he : evIt (fr (n + 3) B) [some (.ref l), some sch, some (.int m), some tb, some (.tup (intF :: ys)), r, k6, none, some (.int k), none] (.val (.slc (.var 4) (.is (.const (.int 1))) .no)) = M.ret ys := by
    simp [slcD, cutL, cutAt, walkD]
  rw [evE]
  have e1 : evE (fr (n + 3) B) [some (.ref l), some sch, some (.int m), some tb, some (.tup (intF :: ys)), r, k6, none, some (.int k), none] (.tup (.cons (.var 8) .nil)) = M.ret (.tup [.int k]) := by
    simp [okSize]
  rw [e1, s_ret, evE, evE, s_assoc, s_assoc]
  refine wp_thn (wp_cells (i := 9) hc (by omega) he (fun x => by simp) h) fun vs st1 h1 hv => ?_
  have hz : okSize (1 + vs.length) = true := by rw [hv.len]; exact okz_lt (by omega)
  have e2 : binD .Add (.tup [.int k]) (.tup vs) = some (.tup (.int k :: vs)) := by
    simp only [binD, List.length_cons, List.length_nil, Nat.zero_add, hz, if_true]
    rfl
  refine ⟨_, st1, ?_, .refl h1, vs, rfl, .cons (.inr (.inl ⟨rfl, k, rfl, hk⟩)) hv⟩
  show M.thn (M.ret (D.lst vs)) _ st1 = _
  rw [s_ret]
  show M.ofO (binD .Add (.tup [.int k]) (.tup vs)) st1 = _
  rw [e2]; rfl
theorem rws_of {ys rows : List D} {ks : List Int} (h : All2 (fun x d => ∀ k : Int, x = .int k → ∃ vs, d = .tup (.int k :: vs) ∧ Row1 ys (.int k :: vs)) (ks.map .int) rows) : Rws ys ks rows := by
  induction ks generalizing rows with
  | nil => cases h; exact .nil
  | cons k ks ih =>
    cases h with
    | cons h r =>
      obtain ⟨vs, rfl, hv⟩ := h k rfl
      exact .cons hv (ih r)
abbrev rowsE2 : E := (.blt .tuple (.new (.comp [8] rowE2 (.name 8) (.val (.var 6)) .no)))
theorem wp_rows2 {n B l : Nat} {tb sch : D} {m : Int} {r : Option D} {ys : List D} (hc : Cs ys) (hl : ys.length ≤ 5) {ks : List Int} (hk : ∀ k ∈ ks, -1000000000 ≤ k ∧ k ≤ 1000000000) (hks : ks.length ≤ 59) (ha : ascI ks = true) {st : Store} (h : Cup st l) :
    Wp l (evE (fr (n + 3) B) (ls l tb sch m (some (.tup (intF :: ys))) r (some (.lst (ks.map .int)))) rowsE2) (fun d => ∃ rows, d = .tup rows ∧ RowsOf ys rows) st := by
  rw [evE, evE, s_assoc]
  have it : evIt (fr (n + 3) B) (ls l tb sch m (some (.tup (intF :: ys))) r (some (.lst (ks.map .int)))) (.val (.var 6)) = M.ret (ks.map .int) := by
    simp [walkD]
  refine wp_thn (wp_comp (P := fun x d => ∀ k : Int, x = .int k → ∃ vs, d = .tup (.int k :: vs) ∧ Row1 (intF :: ys) (.int k :: vs)) it (okz_lt (by rw [List.length_map]; omega)) h fun x hx st' h' => ⟨_, rfl, ?_⟩) fun rows st1 h1 hr => ?_
  · obtain ⟨k, hm, rfl⟩ := List.mem_map.mp hx
    refine (wp_row2 (k := k) hc hl (hk k hm) h').mono fun d hd k' e => ?_
    have : k = k' := by simpa using e
    subst this
    exact hd
  · rw [s_ret]
    exact ⟨.tup rows, st1, rfl, .refl h1, rows, rfl, ks, rws_of hr, ha, hks⟩
end K00
set_option linter.all false
set_option maxRecDepth 100000
set_option maxHeartbeats 4000000
namespace K00
open Ev PySem
theorem Cup.lt {st : Store} {l : Nat} (h : Cup st l) : l < st.length := by
  obtain ⟨a, b, hl, _⟩ := h
  exact (List.getElem?_eq_some_iff.mp hl).1
theorem Cup.app {st : Store} {l : Nat} (h : Cup st l) (more : Store) : Cup (st ++ more) l := by
  have hl := h.lt
  obtain ⟨a, b, h1, h2⟩ := h
  exact ⟨a, b, by rw [List.getElem?_append_left hl]; exact h1, h2⟩
/-- an own cell is written -/
theorem Drn.own {l L : Nat} {st : Store} (h : Cup st l) (hl : l < L) (hL : L ≤ st.length) (c : Cell) : Drn l L st (st.set L c) := by
  refine ⟨?_, hl, by rw [List.length_set]; exact hL, ?_⟩
  · obtain ⟨a, b, h1, h2⟩ := h
    exact ⟨a, b, by rw [List.getElem?_set_ne (by omega)]; exact h1, h2⟩
  · obtain ⟨_, _, _, d, e⟩ := Drn.refl h hl hL
    exact ⟨d, by rw [List.take_set_of_le (by omega)]; exact e⟩
theorem Drn.new {l L : Nat} {st : Store} (h : Cup st l) (hl : l < L) (hL : L ≤ st.length) (more : Store) : Drn l L st (st ++ more) := by
  refine ⟨h.app more, hl, by rw [List.length_append]; omega, ?_⟩
  obtain ⟨_, _, _, d, e⟩ := Drn.refl h hl hL
  exact ⟨d, by rw [List.take_append_of_le_length hL]; exact e⟩
theorem app_run {C : Cfg} {ρ : Ev.Env} {i L : Nat} {e : E} {st st' : Store} {xs : List D} {d : D} (hi : ρ[i]? = some (some (.ref L))) (h0 : ∃ ys, st[L]? = some (.lst ys)) (he : evE C ρ e st = .ok d st') (h1 : st'[L]? = some (.lst xs)) (hz : okSize (xs.length + 1) = true) (hb : C.base ≤ L) :
    exS C ρ (.app (.var i) e) st = .ok (.next ρ) (st'.set L (.lst (xs ++ [d]))) := by
  obtain ⟨ys, h0⟩ := h0
  have e1 : lstAt (.ref L) st = .ok () st := by simp [lstAt, h0]
  have e2 : appD C (.ref L) d st' = .ok () (st'.set L (.lst (xs ++ [d]))) := by simp [appD, h1, hz, setCell, hb]
  rw [exS, evE, g_some hi, s_ret, s_ok e1, s_ok he, s_ok e2]
  rfl
abbrev stF : Ev.S := (.for (.two (.name 4) (.name 5)) (.val (.var 1)) (.cons (.asg (.name 6) (.srt (.new keyN))) (.cons (.app (.var 3) rowsE2) .nil)))
def StI (l L : Nat) (sch : D) (m : Int) (ts : List Tab) (k : Nat) (ρ : Ev.Env) (st : Store) : Prop := ∃ c r k6 sts, ρ = ls l (.ref L) sch m c r k6 ∧ st.length = L + 1 ∧ st[L]? = some (.lst sts) ∧ Sts (ts.take k) sts
theorem keys_bd {m : Int} (hm : m ≤ 50) {ks : List Int} (h : ∀ k ∈ ks, 0 ≤ k ∧ k < m + 2) : ∀ k ∈ ks, -1000000000 ≤ k ∧ k ≤ 1000000000 := fun k hk => by have := h k hk; omega
theorem st_turn {n l L : Nat} {m : Int} (hm : 0 ≤ m ∧ m ≤ 50) {ts : List Tab} (hts : ts.length ≤ 4) {i : Nat} {t : Tab} (hi : ts[i]? = some t) (hc : Cs t.1) (hl : t.1.length ≤ 5) {sch : D} {ρ : Ev.Env} {st : Store} (h : Cup st l) (hlL : l < L) (hI : StI l L sch m ts i ρ st) :
    WpS l L ((fun x ρ => match setTg (.two (.name 4) (.name 5)) x ρ with
      | some ρ => exSs (fr (n + 3) L) ρ (.cons (.asg (.name 6) (.srt (.new keyN))) (.cons (.app (.var 3) rowsE2) .nil))
      | none => M.bad) t.d ρ) (fun fl st' => ∃ ρ', fl = .next ρ' ∧ StI l L sch m ts (i + 1) ρ' st') st := by
  obtain ⟨c, r, k6, sts, rfl, hlen, hst, hs⟩ := hI
  show WpS l L (exSs (fr (n + 3) L) (ls l (.ref L) sch m (some (.tup (intF :: t.1))) (some t.2) k6) _) _ st
  refine wps_seq (P := fun fl st' => ∃ ks : List Int, fl = .next (ls l (.ref L) sch m (some (.tup (intF :: t.1))) (some t.2) (some (.lst (ks.map .int)))) ∧ ascI ks = true ∧ (ks.length : Int) ≤ m ∧ (∀ k ∈ ks, 0 ≤ k ∧ k < m + 2) ∧ st'.length = L + 1 ∧ st'[L]? = some (.lst sts)) ?_ fun fl st1 h1 hL1 hp => ?_
  · obtain ⟨d, st1, e, dr, ks, rfl, h1, h2, h3⟩ := wp_keys (n := n + 2) (B := L) (tb := .ref L) (sch := sch) (c := some (.tup (intF :: t.1))) (r := some t.2) (k := k6) hm h
    refine ⟨_, st1, ?_, dr.drn hlL (by omega), ks, rfl, h1, h2, h3, by rw [dr.len]; exact hlen, ?_⟩
    · rw [exS, s_ok e]; rfl
    · obtain ⟨cc, rfl⟩ := dr.same
      rw [List.getElem?_set_ne (by omega)]; exact hst
  obtain ⟨ks, rfl, k1, k2, k3, hlen1, hst1⟩ := hp
  show WpS l L (exSs (fr (n + 3) L) (ls l (.ref L) sch m (some (.tup (intF :: t.1))) (some t.2) (some (.lst (ks.map .int)))) (.cons (.app (.var 3) rowsE2) .nil)) _ st1
  obtain ⟨d, st2, e, dr, rows, rfl, hr⟩ := wp_rows2 (n := n) (B := L) (tb := .ref L) (sch := sch) (m := m) (r := some t.2) hc hl (keys_bd hm.2 k3) (by omega) k1 h1
  have hst2 : st2[L]? = some (.lst sts) := by
    obtain ⟨cc, rfl⟩ := dr.same
    rw [List.getElem?_set_ne (by omega)]; exact hst1
  have hsl : sts.length ≤ 4 := by
    have : ∀ {a : List Tab} {b : List D}, Sts a b → b.length = a.length := fun h => by
      induction h with
      | nil => rfl
      | cons h r ih => simp [ih]
    rw [this hs, List.length_take]; omega
  have ea := app_run (C := fr (n + 3) L) (ρ := ls l (.ref L) sch m (some (.tup (intF :: t.1))) (some t.2) (some (.lst (ks.map .int)))) (i := 3) rfl ⟨_, hst1⟩ e hst2 (okz_lt (by omega)) (Nat.le_refl _)
  have hl2 : st2.length = L + 1 := by rw [dr.len]; exact hlen1
  refine ⟨_, _, sq ea, (dr.drn hlL (by omega)).trans (Drn.own dr.cup hlL (by omega) _), _, rfl, _, _, _, _, rfl, ?_, List.getElem?_set_self (by omega), ?_⟩
  · rw [List.length_set]; exact hl2
  · rw [List.take_add_one, hi]
    exact hs.snoc hr
theorem wp_state {n l : Nat} {ts : List Tab} {m : Int} {st : Store} (h : Cup st l) (hm : 0 ≤ m ∧ m ≤ 50) (hts : ts.length ≤ 4) (hc : ∀ t ∈ ts, Cs t.1 ∧ t.1.length ≤ 5) :
    Wp l (cl (n + 4) 77 [.ref l, .tup (ts.map Tab.d), .int m]) (fun d => ∃ sts, d = .tup sts ∧ Sts ts sts) st := by
  refine wps_def (F := F__law_state) rfl rfl ?_
  have hlt := h.lt
  show WpS l st.length (exSs (fr (n + 3) st.length) [some (.ref l), some (.tup (ts.map Tab.d)), some (.int m), none, none, none, none, none, none, none] (.cons (.asg (.name 3) (.newm (.lst .nil))) (.cons stF (.cons (.ret (.blt .tuple (.var 3))) .nil)))) _ st
  generalize hL : st.length = L
  have hlL : l < L := by omega
  refine wps_seq (P := StI l L (.tup (ts.map Tab.d)) m ts 0 |> fun I fl st' => ∃ ρ, fl = .next ρ ∧ I ρ st') ?_ fun fl st1 h1 hL1 hp => ?_
  · refine ⟨_, st ++ [.lst []], ?_, Drn.new h hlL (by omega) _, _, rfl, none, none, none, [], rfl, by simp [hL], by simp [← hL], .nil⟩
    subst hL
    rfl
  obtain ⟨ρ, rfl, hI⟩ := hp
  show WpS l L (exSs (fr (n + 3) L) ρ (.cons stF (.cons (.ret (.blt .tuple (.var 3))) .nil))) _ st1
  refine wps_seq (P := fun fl st' => ∃ ρ, fl = .next ρ ∧ StI l L (.tup (ts.map Tab.d)) m ts ts.length ρ st') ?_ fun fl st2 h2 hL2 hp => ?_
  · have it : evIt (fr (n + 3) L) ρ (.val (.var 1)) = M.ret (ts.map Tab.d) := by
      obtain ⟨_, _, _, _, rfl, _⟩ := hI
      simp [walkD]
    rw [exS, it, s_ret]
    have w := wps_for (l := l) (L := L) (vs := ts.map Tab.d) (k := 0) (StI l L (.tup (ts.map Tab.d)) m ts) (f := fun x ρ => match setTg (.two (.name 4) (.name 5)) x ρ with
      | some ρ => exSs (fr (n + 3) L) ρ (.cons (.asg (.name 6) (.srt (.new keyN))) (.cons (.app (.var 3) rowsE2) .nil))
      | none => M.bad) (fun i v hv ρ' st' h' hL' hI' => by
        rw [List.getElem?_map] at hv
        obtain ⟨t, ht, rfl⟩ := Option.map_eq_some_iff.mp hv
        obtain ⟨c1, c2⟩ := hc t (List.mem_of_getElem? ht)
        rw [Nat.zero_add] at hI' ⊢
        exact st_turn hm hts ht c1 c2 h' hlL hI') h1 hlL hL1 hI
    rw [Nat.zero_add, List.length_map] at w
    exact w
  obtain ⟨ρ, rfl, c, r, k6, sts, rfl, hlen, hst, hs⟩ := hp
  rw [List.take_length] at hs
  refine ⟨.ret (.tup sts), st2, ?_, .refl h2 hlL hL2, .tup sts, rfl, sts_plain hs, sts, rfl, hs⟩
  show exSs (fr (n + 3) L) (ls l (.ref L) (.tup (ts.map Tab.d)) m c r k6) (.cons (.ret (.blt .tuple (.var 3))) .nil) st2 = _
  have e : exS (fr (n + 3) L) (ls l (.ref L) (.tup (ts.map Tab.d)) m c r k6) (.ret (.blt .tuple (.var 3))) st2 = .ok (.ret (.tup sts)) st2 := by
    have e2 : evE (fr (n + 3) L) (ls l (.ref L) (.tup (ts.map Tab.d)) m c r k6) (.blt .tuple (.var 3)) st2 = .ok (.tup sts) st2 := by
      rw [evE, evE, g_some (d := .ref L) rfl, s_ret]
      show M.ofO (bltD .tuple (view st2 (.ref L))) st2 = _
      rw [view_lst hst]; rfl
    rw [exS, s_ok e2]; rfl
  rw [exSs_c, s_ok e]; rfl
end K00
set_option linter.all false
set_option maxRecDepth 100000
set_option maxHeartbeats 4000000
namespace K00
open Ev PySem
abbrev t0 : Ev.S := (.asg (.name 10) (.call 32 (.cons (.var 1) .nil)))
abbrev t1 : Ev.S := (.asg (.name 11) (.call 77 (.cons (.var 1) (.cons (.var 10) (.cons (.const (.int 5)) .nil)))))
abbrev t2 : Ev.S := (.iff (.or (.cmp .IsNot (.call 75 (.cons (.var 10) .nil)) (.const (.bl true))) (.or (.cmp .IsNot (.call 76 (.cons (.var 10) (.cons (.var 11) .nil))) (.const (.bl true))) (.cmp .IsNot (.call 76 (.cons (.var 10) (.cons (.slc (.var 11) .no (.is (.const (.int 1)))) .nil))) (.const (.bl false))))) (.cons (.ret (.const (.bl false))) .nil) .nil)
abbrev t3 : Ev.S := (.asg (.name 12) (.idx (.var 11) (.const (.int 0))))
abbrev t4 : Ev.S := (.asg (.name 13) (.tup (.cons (.rev (.var 12)) (.cons (.idx (.var 11) (.const (.int 1))) .nil))))
abbrev t5 : Ev.S := (.iff (.cmp .NotEq (.blt .repr (.new (.lst (.cons (.call 76 (.cons (.var 10) (.cons (.var 13) .nil))) (.cons (.call 76 (.cons (.var 10) (.cons (.tup (.cons (.bin .Add (.var 12) (.slc (.var 12) .no (.is (.const (.int 1))))) (.cons (.idx (.var 11) (.const (.int 1))) .nil))) .nil))) .nil))))) (.blt .repr (.new (.lst (.cons (.cmp .Lt (.blt .len (.var 12)) (.const (.int 2))) (.cons (.cmp .Eq (.var 12) (.tup .nil)) .nil)))))) (.cons (.ret (.const (.bl false))) .nil) .nil)
abbrev t6 : Ev.S := (.asg (.name 14) (.new (.lst (.cons (.tup (.cons (.const (.int 7)) (.cons (.const (.str "a")) .nil))) (.cons (.tup (.cons (.const (.int 7)) (.cons (.const (.int 3)) (.cons (.const (.int 0)) .nil)))) (.cons (.tup (.cons (.const (.int 7)) (.cons (.const (.str "a")) (.cons (.const (.str "b")) .nil)))) (.cons (.tup (.cons (.const .non) (.cons (.const (.str "a")) (.cons (.const (.int 0)) .nil)))) (.cons (.tup (.cons (.const (.int 7)) (.cons (.const (.str "A")) (.cons (.const (.int 0)) .nil)))) (.cons (.tup (.cons (.const (.int 7)) (.cons (.const (.str "a")) (.cons (.const (.bl true)) .nil)))) (.cons (.new (.lst (.cons (.const (.int 7)) (.cons (.const (.str "a")) (.cons (.const (.int 0)) .nil))))) (.cons (.tup (.cons (.const (.int 7)) (.cons (.const (.str "abcdefghi")) (.cons (.const (.int 0)) .nil)))) (.cons (.tup (.cons (.const (.int 7)) (.cons (.const (.str "")) (.cons (.const (.int 0)) .nil)))) .nil))))))))))))
abbrev t7 : Ev.S := (.for (.name 15) (.val (.bin .Add (.var 14) (.new (.lst (.cons (.tup (.cons (.bin .Add (.bin .Pow (.const (.int 10)) (.const (.int 9))) (.const (.int 1))) (.cons (.const (.str "a")) (.cons (.const (.int 0)) .nil)))) (.cons (.tup (.cons (.const (.bl true)) (.cons (.const (.str "a")) (.cons (.const (.int 0)) .nil)))) .nil)))))) (.cons (.iff (.cmp .IsNot (.call 76 (.cons (.var 10) (.cons (.tup (.cons (.tup (.cons (.var 15) .nil)) (.cons (.tup .nil) .nil))) .nil))) (.const (.bl false))) (.cons (.ret (.const (.bl false))) .nil) .nil) .nil))
abbrev t8 : Ev.S := (.iff (.or (.cmp .NotEq (.blt .repr (.call 76 (.cons (.var 10) (.cons (.tup (.cons (.tup (.cons (.tup (.cons (.const (.int 7)) (.cons (.const (.str "a")) (.cons (.const .non) .nil)))) .nil)) (.cons (.tup .nil) .nil))) .nil)))) (.blt .repr (.idx (.idx (.idx (.idx (.var 10) (.const (.int 0))) (.const (.int 0))) (.const (.int 2))) (.const (.int 1))))) (.cmp .IsNot (.call 76 (.cons (.var 10) (.cons (.tup (.cons (.tup (.cons (.tup (.cons (.neg (.bin .Pow (.const (.int 10)) (.const (.int 9)))) (.cons (.const .non) (.cons (.bin .Pow (.const (.int 10)) (.const (.int 9))) .nil)))) .nil)) (.cons (.tup .nil) .nil))) .nil))) (.const (.bl true)))) (.cons (.ret (.const (.bl false))) .nil) .nil)
abbrev lb : Ss := .cons t0 (.cons t1 (.cons t2 (.cons t3 (.cons t4 (.cons t5 (.cons t6 (.cons t7 (.cons t8 .nil))))))))
abbrev cupS (a c : Int) : Store := [.lst [.int a, .int c]]
abbrev lw (s0 s2 s10 s11 s12 s13 s14 s15 : Option D) : Ev.Env := [s0, some (.ref 0), s2, none, none, none, none, none, none, none, s10, s11, s12, s13, s14, s15, none, none, none, none]
theorem cup_one {st : Store} (h : Cup st 0) (hN : st.length = 1) : ∃ a c : Int, st = [.lst [.int a, .int c]] := by
  obtain ⟨a, c, h1, _⟩ := h
  match st, hN with
  | [x], _ =>
    simp at h1
    exact ⟨a, c, by rw [h1]⟩
theorem sch17 (b : Bool) (a c : Int) : ∀ r0 ∈ rules0, ∀ r1 ∈ rules1, cl 58 17 [schemaD b r0 r1] (cupS a c) = .ok .non (cupS a c) := by
  intro r0 h0 r1 h1
  simp only [rules0, rules1, List.mem_cons, List.not_mem_nil, or_false] at h0 h1
  rcases h0 with rfl | rfl | rfl <;> rcases h1 with rfl | rfl | rfl <;> kernel_rfl
theorem sch75 (b : Bool) (a c : Int) : ∀ r0 ∈ rules0, ∀ r1 ∈ rules1, cl 59 75 [schemaD b r0 r1] (cupS a c) = .ok (.bl true) (cupS a c) := by
  intro r0 h0 r1 h1
  simp only [rules0, rules1, List.mem_cons, List.not_mem_nil, or_false] at h0 h1
  rcases h0 with rfl | rfl | rfl <;> rcases h1 with rfl | rfl | rfl <;> kernel_rfl
theorem is_state_ok {sch d : D} {v : Bool} {st : Store} (h1 : cl 58 17 [sch] st = .ok .non st) (h2 : cl 58 74 [sch, d] = M.ret (.bl v)) : cl 59 76 [sch, d] st = .ok (.bl v) st := by
  rw [cl_run (F := F_is_state) rfl _ _ rfl]
  show fin st.length (exSs (fr 58 st.length) [some sch, some d] (.cons (.expr (.call 17 (.cons (.var 0) .nil))) (.cons (.ret (.call 74 (.cons (.var 0) (.cons (.var 1) .nil)))) .nil)) st) = _
  have e1 : exS (fr 58 st.length) [some sch, some d] (.expr (.call 17 (.cons (.var 0) .nil))) st = .ok (.next [some sch, some d]) st := by
    simp only [exS, evE, evEs, s_ret, s_assoc]
    rw [g_some (d := sch) rfl, s_ret, s_ok h1]
    rfl
  rw [sq e1]
  have e2 : exS (fr 58 st.length) [some sch, some d] (.ret (.call 74 (.cons (.var 0) (.cons (.var 1) .nil)))) = M.ret (.ret (.bl v)) := by
    simp [h2]
  rw [sqR e2]
  simp [M.ret, fin, leave]
theorem asc_len {ks : List Int} (h : ascI ks = true) : ascI ks.reverse = decide (ks.length < 2) := by
  match ks, h with
  | [], _ => rfl
  | [_], _ => rfl
  | a :: b :: r, h =>
    have e : decide ((a :: b :: r).length < 2) = false := by simp
    rw [e]
    cases hx : ascI (a :: b :: r).reverse with
    | false => rfl
    | true =>
    rw [List.reverse_cons, List.reverse_cons] at hx
    have key : ∀ l : List Int, ascI (l ++ [b] ++ [a]) = true → b < a := by
      intro l
      induction l with
      | nil => intro h; simp [ascI] at h; exact h
      | cons x l ih =>
        intro h
        exact ih (asc_tail (x := x) h)
    have := key _ hx
    have := asc_lt h b List.mem_cons_self
    omega
theorem asc_dup {ks : List Int} (h : ascI ks = true) : ascI (ks ++ ks.take 1) = ks.isEmpty := by
  match ks, h with
  | [], _ => rfl
  | a :: r, h =>
    have e : (a :: r).isEmpty = false := rfl
    rw [e]
    cases hx : ascI (a :: r ++ List.take 1 (a :: r)) with
    | false => rfl
    | true =>
    have hx : ascI (a :: (r ++ [a])) = true := hx
    have := asc_lt hx a (by simp)
    omega
theorem repr_two (p q : Bool) : ∃ z, bltD .repr (.lst [.bl p, .bl q]) = some (.str z) := by
  cases p <;> cases q
  · exact ⟨"[False, False]", by kernel_rfl⟩
  · exact ⟨"[False, True]", by kernel_rfl⟩
  · exact ⟨"[True, False]", by kernel_rfl⟩
  · exact ⟨"[True, True]", by kernel_rfl⟩
theorem cell_lay {s : String} {may : Bool} {v : D} (h : Cell1 s may v) : Lay v 0 := by
  rcases h with ⟨_, rfl⟩ | ⟨_, i, rfl, _⟩ | ⟨_, rfl | rfl | rfl | rfl⟩
  · exact .non 0
  · exact .int i 0
  all_goals exact str_ok _ (by decide +kernel) 0
theorem row_lay {ys vs : List D} (h : Row1 ys vs) : LayAll vs 0 := by
  induction h with
  | nil => exact .nil 0
  | cons h r ih => exact .cons (cell_lay h) ih
theorem rws_lay {ys : List D} {ks : List Int} {rows : List D} (h : Rws ys ks rows) : LayAll rows 1 := by
  induction h with
  | nil => exact .nil 1
  | cons h r ih => exact .cons (row_lay h).tup ih
theorem eq_nilT {ds : List D} {n : Nat} (h : LayAll ds n) (hn : n + 1 ≤ 64) : eqD (.tup ds) (.tup []) = some ds.isEmpty := by
  obtain ⟨p, q, p1, q1, e⟩ := Lay.eq h.tup (LayAll.nil 0).tup hn (by decide) (by intro i j z; cases z) (by intro i j z; cases z) (by intro i j z; cases z) (by intro z; cases z)
  rw [e]
  obtain ⟨ps, h1, _, _, h4⟩ := h
  have e1 : p = .tuple ps := by
    have : (D.tup ds).toPy = some (.tuple ps) := by simp [D.toPy, h1]
    rw [p1] at this; exact Option.some.inj this
  have e2 : q = .tuple [] := by
    have : (D.tup []).toPy = some (.tuple []) := by simp [D.toPy, D.toPys]
    rw [q1] at this; exact Option.some.inj this
  subst e1; subst e2
  cases ds with
  | nil =>
    have : ps = [] := List.length_eq_zero_iff.mp (by simpa using h4)
    subst this
    simp [PyData.eqv, PyData.eqvAll]
  | cons d ds =>
    cases ps with
    | nil => simp at h4
    | cons p ps => simp [PyData.eqv, PyData.eqvAll]
theorem run_look {s0 s2 s14 s15 : Option D} {b : Bool} {r0 r1 : D} (h0 : r0 ∈ rules0) (h1 : r1 ∈ rules1) {ks ls : List Int} {rows more : List D} (h : Rws (cols0 b) ks rows) (g : Rws cols1 ls more) (hk : ascI ks = true) (hl : ascI ls = true) (nk : ks.length ≤ 59) (nl : ls.length ≤ 59) (a c : Int) (s12 s13 : Option D) :
    exS (fr 59 0) (lw s0 s2 (some (schemaD b r0 r1)) (some (.tup [.tup rows, .tup more])) s12 s13 s14 s15) t2 (cupS a c) = .ok (.next (lw s0 s2 (some (schemaD b r0 r1)) (some (.tup [.tup rows, .tup more])) s12 s13 s14 s15)) (cupS a c) := by
  have e0 := sch75 b a c r0 h0 r1 h1
  have e7 := sch17 b a c r0 h0 r1 h1
  have f1 : cl 58 74 [schemaD b r0 r1, .tup [.tup rows, .tup more]] = M.ret (.bl true) := by
    have := fits_state_ok (n := 52) (b := b) (r0 := r0) (r1 := r1) h g (by omega) (by omega)
    rw [hk, hl] at this
    exact this
  have f2 : cl 58 74 [schemaD b r0 r1, .tup [.tup rows]] = M.ret (.bl false) := by
    funext st
    rw [cl_run (F := F_fits_state) rfl _ _ rfl]
    simp [F_fits_state, bltD, is_tuple_of_tup]
  have e1 := is_state_ok e7 f1
  have e2 := is_state_ok e7 f2
  have c1 : M.thn (evE (fr 59 0) (lw s0 s2 (some (schemaD b r0 r1)) (some (.tup [.tup rows, .tup more])) s12 s13 s14 s15) (.or (.cmp .IsNot (.call 75 (.cons (.var 10) .nil)) (.const (.bl true))) (.or (.cmp .IsNot (.call 76 (.cons (.var 10) (.cons (.var 11) .nil))) (.const (.bl true))) (.cmp .IsNot (.call 76 (.cons (.var 10) (.cons (.slc (.var 11) .no (.is (.const (.int 1)))) .nil))) (.const (.bl false)))))) asB (cupS a c) = .ok false (cupS a c) := by
    simp only [evE, evEs, evO, s_ret, s_assoc]
    rw [g_some (d := schemaD b r0 r1) rfl, g_some (d := .tup [.tup rows, .tup more]) rfl]
    simp only [s_ret, s_assoc]
    rw [s_ok e0]
    simp
    rw [s_ok e1]
    simp [slcD, cutL, cutAt]
    rw [s_ok e2]
    simp
    rfl
  rw [exS, a_thn, c1]
  rfl
theorem run_near {s0 s2 s14 s15 : Option D} {b : Bool} {r0 r1 : D} (h0 : r0 ∈ rules0) (h1 : r1 ∈ rules1) {ks ls : List Int} {rows more : List D} (h : Rws (cols0 b) ks rows) (g : Rws cols1 ls more) (hk : ascI ks = true) (hl : ascI ls = true) (nk : ks.length ≤ 59) (nl : ls.length ≤ 59) (a c : Int) :
    exS (fr 59 0) (lw s0 s2 (some (schemaD b r0 r1)) (some (.tup [.tup rows, .tup more])) (some (.tup rows)) (some (.tup [.tup rows.reverse, .tup more])) s14 s15) t5 (cupS a c) = .ok (.next (lw s0 s2 (some (schemaD b r0 r1)) (some (.tup [.tup rows, .tup more])) (some (.tup rows)) (some (.tup [.tup rows.reverse, .tup more])) s14 s15)) (cupS a c) := by
  have e7 := sch17 b a c r0 h0 r1 h1
  have nr := h.len
  have f1 : cl 58 74 [schemaD b r0 r1, .tup [.tup rows.reverse, .tup more]] = M.ret (.bl (decide (ks.length < 2))) := by
    have := fits_state_ok (n := 52) (b := b) (r0 := r0) (r1 := r1) h.reverse g (by rw [List.length_reverse]; omega) (by omega)
    rw [show ascI ks.reverse = decide (ks.length < 2) from asc_len hk, hl, Bool.and_true] at this
    exact this
  have f2 : cl 58 74 [schemaD b r0 r1, .tup [.tup (rows ++ rows.take 1), .tup more]] = M.ret (.bl ks.isEmpty) := by
    have := fits_state_ok (n := 52) (b := b) (r0 := r0) (r1 := r1) (h.append h.take) g (by rw [List.length_append, List.length_take]; omega) (by omega)
    rw [show ascI (ks ++ ks.take 1) = ks.isEmpty from asc_dup hk, hl, Bool.and_true] at this
    exact this
  have e1 := is_state_ok e7 f1
  have e2 := is_state_ok e7 f2
  obtain ⟨z, hz⟩ := repr_two (decide (ks.length < 2)) ks.isEmpty
  have q1 : cutL rows none (some 1) = rows.take 1 := by
    cases rows with
    | nil => rfl
    | cons r rs => simp [cutL, cutAt]
  have q2 : okSize (rows.length + (rows.take 1).length) = true := okz_lt (by rw [List.length_take]; omega)
  have q3 : binD .Add (.tup rows) (.tup (rows.take 1)) = some (.tup (rows ++ rows.take 1)) := by simp only [binD, q2, if_true]
  have q4 : eqD (.tup rows) (.tup []) = some ks.isEmpty := by
    rw [eq_nilT (rws_lay h) (by decide)]
    cases h <;> rfl
  have q5 : decide ((rows.length : Int) < 2) = decide (ks.length < 2) := by
    rw [nr, decide_eq_decide]; omega
  have c1 : M.thn (evE (fr 59 0) (lw s0 s2 (some (schemaD b r0 r1)) (some (.tup [.tup rows, .tup more])) (some (.tup rows)) (some (.tup [.tup rows.reverse, .tup more])) s14 s15) (.cmp .NotEq (.blt .repr (.new (.lst (.cons (.call 76 (.cons (.var 10) (.cons (.var 13) .nil))) (.cons (.call 76 (.cons (.var 10) (.cons (.tup (.cons (.bin .Add (.var 12) (.slc (.var 12) .no (.is (.const (.int 1))))) (.cons (.idx (.var 11) (.const (.int 1))) .nil))) .nil))) .nil))))) (.blt .repr (.new (.lst (.cons (.cmp .Lt (.blt .len (.var 12)) (.const (.int 2))) (.cons (.cmp .Eq (.var 12) (.tup .nil)) .nil))))))) asB (cupS a c) = .ok false (cupS a c) := by
    simp only [evE, evEs, evO, evN, s_ret, s_assoc]
    rw [g_some (d := schemaD b r0 r1) rfl, g_some (d := .tup [.tup rows.reverse, .tup more]) rfl, g_some (d := .tup rows) rfl, g_some (d := .tup [.tup rows, .tup more]) rfl]
    simp only [s_ret, s_assoc]
    rw [s_ok e1]
    simp [slcD, q1, q3, okSize]
    rw [s_ok e2]
    simp [okSize, hz, q5, q4]
    rfl
  rw [exS, a_thn, c1]
  rfl
end K00
set_option linter.all false
set_option maxRecDepth 100000
set_option maxHeartbeats 4000000
namespace K00
open Ev PySem
def dropS : Nat → Ss → Ss
  | 0, s => s
  | n + 1, .cons _ r => dropS n r
  | _, .nil => .nil
def isT : Res Ev.Flow → Bool
  | .ok (.ret (.bl true)) _ => true
  | _ => false
def slot (r : Res Ev.Flow) (i : Nat) : Option D := match r with
  | .ok (.next ρ) _ => (ρ[i]?).getD none
  | _ => none
abbrev orun (b : Bool) (r0 r1 : D) (a c : Int) (s0 s2 s11 s12 s13 s14 s15 : Option D) : Res Ev.Flow := exSs (fr 59 0) (lw s0 s2 (some (schemaD b r0 r1)) s11 s12 s13 s14 s15) (dropS 6 lb) (cupS a c)
theorem odds_run (b : Bool) (a c : Int) (s0 s2 s11 s12 s13 s14 s15 : Option D) : ∀ r0 ∈ rules0, ∀ r1 ∈ rules1, orun b r0 r1 a c s0 s2 s11 s12 s13 s14 s15 = .ok (.next (lw s0 s2 (some (schemaD b r0 r1)) s11 s12 s13 (slot (orun b r0 r1 a c s0 s2 s11 s12 s13 s14 s15) 14) (slot (orun b r0 r1 a c s0 s2 s11 s12 s13 s14 s15) 15))) (cupS a c) := by
  intro r0 h0 r1 h1
  simp only [rules0, rules1, List.mem_cons, List.not_mem_nil, or_false] at h0 h1
  cases b <;> rcases h0 with rfl | rfl | rfl <;> rcases h1 with rfl | rfl | rfl <;> kernel_rfl
end K00
set_option linter.all false
set_option maxRecDepth 100000
set_option maxHeartbeats 4000000
namespace K00
open Ev PySem
theorem rest (a c : Int) (s0 s2 s10 s11 s12 s13 s14 s15 : Option D) : isT (exSs (fr 59 0) (lw s0 s2 s10 s11 s12 s13 s14 s15) (dropS 2 F_law.body) (cupS a c)) = true := by kernel_rfl
end K00
set_option linter.all false
set_option maxRecDepth 100000
set_option maxHeartbeats 4000000
namespace K00
open Ev PySem
theorem wp_seqN {C : Cfg} {ρ : Ev.Env} {s : Ev.S} {ss : Ss} {l : Nat} {P Q : Ev.Flow → Prop} {st : Store} (h : Wp l (exS C ρ s) P st) (k : ∀ fl st', Cup st' l → st'.length = st.length → P fl → Wp l (flowK (fun ρ => exSs C ρ ss) fl) Q st') : Wp l (exSs C ρ (.cons s ss)) Q st := by
  rw [show exSs C ρ (.cons s ss) = M.thn (exS C ρ s) (flowK fun ρ => exSs C ρ ss) from congrFun (cons_eq C s ss) ρ]
  exact wp_thnN h k
/-- a loop whose turns draw and go on -/
theorem wp_for {l N : Nat} {f : D → Ev.Env → M Ev.Flow} (I : Ev.Env → Prop) : ∀ {vs : List D}, (∀ (i : Nat) v, vs[i]? = some v → ∀ ρ st, Cup st l → st.length = N → I ρ → Wp l (f v ρ) (fun fl => ∃ ρ', fl = .next ρ' ∧ I ρ') st) →
    ∀ {ρ : Ev.Env} {st : Store}, Cup st l → st.length = N → I ρ → Wp l (forL f vs ρ) (fun fl => ∃ ρ', fl = .next ρ' ∧ I ρ') st
  | [], _, ρ, st, h, hN, h0 => wp_ret h ⟨ρ, rfl, h0⟩
  | v :: vs, hs, ρ, st, h, hN, h0 => by
    rw [forL]
    refine wp_thnN (hs 0 v rfl ρ st h hN h0) fun fl st' h' hN' hp => ?_
    obtain ⟨ρ', rfl, h1⟩ := hp
    exact wp_for I (vs := vs) (fun i w hw => hs (i + 1) w (by simpa using hw)) h' (by omega) h1
theorem cup_ok {n : Nat} (ns : List Int) (hn : ns.length ≤ 63) : ∃ a c : Int, cl (n + 1) 29 [.lst (ns.map .int)] [] = .ok (.ref 0) [.lst [.int a, .int c]] ∧ 0 ≤ a ∧ 0 ≤ c ∧ c < 1099511627776 := by
  have hx : ∃ x : Int, idxD (.lst (ns.map D.int ++ [.int 0])) (.int 0) = some (.int x) := by
    cases ns with
    | nil => exact ⟨0, rfl⟩
    | cons x ns => exact ⟨x, by simp [idxD, ixAt]⟩
  obtain ⟨x, hx⟩ := hx
  have z : okSize ((ns.map D.int).length + 1) = true := by simp [okSize]; omega
  have habs : ∃ y : Int, bltD .abs (.int x) = some (.int y) ∧ 0 ≤ y := by
    refine ⟨if x < 0 then -x else x, rfl, ?_⟩
    split <;> omega
  obtain ⟨y, hy, hy0⟩ := habs
  have m1 : smallI 347 = true := by decide
  have e1 : exS (fr n 0) [some (.lst (ns.map .int)), none] (.asg (.name 1) (.blt .abs (.idx (.bin .Add (.new (.listOf (.var 0))) (.new (.lst (.cons (.const (.int 0)) .nil)))) (.const (.int 0))))) = M.ret (.next [some (.lst (ns.map .int)), some (.int y)]) := by
    have e0 : binD .Add (.lst (ns.map D.int)) (.lst [.int 0]) = some (.lst (ns.map D.int ++ [.int 0])) := by
      simp only [binD, List.length_singleton, z, if_true]
    simp [seqOf, e0, hx, hy, okSize]
  have p18 : binD .Pow (.int 10) (.int 18) = some (.int 1000000000000000000) := by simp [binD]
  have hz : ∃ a : Int, 0 ≤ a ∧ evE (fr n 0) [some (.lst (ns.map .int)), some (.int y)] (.ite (.cmp .GtE (.var 1) (.bin .Pow (.const (.int 10)) (.const (.int 18)))) (.bin .FloorDiv (.var 1) (.const (.int 109))) (.const (.int 0))) = M.ret (.int a) := by
    by_cases hy1 : 1000000000000000000 ≤ y
    · exact ⟨y / 109, by omega, by simp [p18, cmpD, leD, hy1, binD]⟩
    · exact ⟨0, by omega, by simp [p18, cmpD, leD, hy1]⟩
  obtain ⟨a, ha, e2⟩ := hz
  have e3 : evE (fr n 0) [some (.lst (ns.map .int)), some (.int y)] (.bin .Add (.bin .Mod (.blt .int (.bin .Add (.bin .Mult (.var 1) (.const (.int 347))) (.const (.int 3701)))) (.const (.int 2077503017))) (.const (.int 223))) = M.ret (.int ((y * 347 + 3701) % 2077503017 + 223)) := by
    simp [binD, m1, bltD]
  have b0 : 0 ≤ (y * 347 + 3701) % 2077503017 := Int.emod_nonneg _ (by omega)
  have b1 : (y * 347 + 3701) % 2077503017 < 2077503017 := Int.emod_lt_of_pos _ (by omega)
  refine ⟨a, (y * 347 + 3701) % 2077503017 + 223, ?_, ha, by omega, by omega⟩
  rw [cl_run (F := F__law_cup) rfl _ _ rfl]
  show fin 0 (exSs (fr n 0) [some (.lst (ns.map .int)), none] F__law_cup.body []) = _
  rw [F__law_cup, exSs, e1, s_ret]
  show fin 0 (exSs (fr n 0) [some (.lst (ns.map .int)), some (.int y)] (.cons (.ret (.newm (.lst (.cons (.ite (.cmp .GtE (.var 1) (.bin .Pow (.const (.int 10)) (.const (.int 18)))) (.bin .FloorDiv (.var 1) (.const (.int 109))) (.const (.int 0))) (.cons (.bin .Add (.bin .Mod (.blt .int (.bin .Add (.bin .Mult (.var 1) (.const (.int 347))) (.const (.int 3701)))) (.const (.int 2077503017))) (.const (.int 223))) .nil))))) .nil) []) = _
  have e4 : evE (fr n 0) [some (.lst (ns.map .int)), some (.int y)] (.newm (.lst (.cons (.ite (.cmp .GtE (.var 1) (.bin .Pow (.const (.int 10)) (.const (.int 18)))) (.bin .FloorDiv (.var 1) (.const (.int 109))) (.const (.int 0))) (.cons (.bin .Add (.bin .Mod (.blt .int (.bin .Add (.bin .Mult (.var 1) (.const (.int 347))) (.const (.int 3701)))) (.const (.int 2077503017))) (.const (.int 223))) .nil)))) = Ev.alloc (.lst [.int a, .int ((y * 347 + 3701) % 2077503017 + 223)]) := by
    rw [evE, evN, evEs, evEs, evEs, e2, e3]
    simp [okSize]
  rw [exSs, exS, e4]
  rfl
def LwI (s0 : Option D) (ρ : Ev.Env) : Prop := ∃ s2 s10 s11 s12 s13 s14 s15, ρ = lw s0 s2 s10 s11 s12 s13 s14 s15
theorem run_turn {s0 s2 s10 s11 s12 s13 s14 s15 : Option D} {st : Store} (h : Cup st 0) (hN : st.length = 1) :
    Wp 0 (exSs (fr 59 0) (lw s0 s2 s10 s11 s12 s13 s14 s15) lb) (fun fl => ∃ ρ, fl = .next ρ ∧ LwI s0 ρ) st := by
  refine wp_seqN (P := fun fl => ∃ b r0 r1, r0 ∈ rules0 ∧ r1 ∈ rules1 ∧ fl = .next (lw s0 s2 (some (schemaD b r0 r1)) s11 s12 s13 s14 s15)) ?_ fun fl st1 c1 hN1 hp => ?_
  · simp only [exS, evE, evEs, s_ret, s_assoc]
    rw [g_some (d := .ref 0) rfl, s_ret]
    refine wp_thn (wp_schema (n := 56) h) fun d st1 h1 hd => ?_
    obtain ⟨b, r0, r1, k0, k1, rfl⟩ := hd
    exact wp_ret h1 ⟨b, r0, r1, k0, k1, rfl⟩
  obtain ⟨b, r0, r1, k0, k1, rfl⟩ := hp
  show Wp 0 (exSs (fr 59 0) (lw s0 s2 (some (schemaD b r0 r1)) s11 s12 s13 s14 s15) (.cons t1 _)) _ st1
  refine wp_seqN (P := fun fl => ∃ sts, Sts [([wordT, .tup [S "int", .bl b]], r0), ([intT, intT], r1)] sts ∧ fl = .next (lw s0 s2 (some (schemaD b r0 r1)) (some (.tup sts)) s12 s13 s14 s15)) ?_ fun fl st2 c2 hN2 hp => ?_
  · simp only [exS, evE, evEs, s_ret, s_assoc]
    rw [g_some (d := .ref 0) rfl, s_ret, g_some (d := schemaD b r0 r1) rfl, s_ret]
    refine wp_thn (wp_state (n := 55) (ts := [([wordT, .tup [S "int", .bl b]], r0), ([intT, intT], r1)]) (m := 5) c1 (by omega) (by simp) fun t ht => ?_) fun d st1 h1 hd => ?_
    · simp only [List.mem_cons, List.not_mem_nil, or_false] at ht
      rcases ht with rfl | rfl
      · exact ⟨.cons (.inr rfl) (.cons (.inl rfl) .nil), by simp⟩
      · exact ⟨.cons (.inl rfl) (.cons (.inl rfl) .nil), by simp⟩
    · obtain ⟨sts, rfl, hs⟩ := hd
      exact wp_ret h1 ⟨sts, hs, rfl⟩
  obtain ⟨sts, hs, rfl⟩ := hp
  obtain ⟨a, c, rfl⟩ := cup_one c2 (by omega)
  cases hs with
  | @cons _ _ rows more0 hr hs =>
  cases hs with
  | @cons _ _ more more1 hm hs =>
  cases hs
  obtain ⟨ks, h, hk, nk⟩ := hr
  obtain ⟨ls, g, hl, nl⟩ := hm
  have h' : Rws (cols0 b) ks rows := h
  have g' : Rws cols1 ls more := g
  have q2 := run_look (s0 := s0) (s2 := s2) (s14 := s14) (s15 := s15) k0 k1 h' g' hk hl nk nl a c s12 s13
  have q5 := run_near (s0 := s0) (s2 := s2) (s14 := s14) (s15 := s15) k0 k1 h' g' hk hl nk nl a c
  have q3 : exS (fr 59 0) (lw s0 s2 (some (schemaD b r0 r1)) (some (.tup [.tup rows, .tup more])) s12 s13 s14 s15) t3 (cupS a c) = .ok (.next (lw s0 s2 (some (schemaD b r0 r1)) (some (.tup [.tup rows, .tup more])) (some (.tup rows)) s13 s14 s15)) (cupS a c) := rfl
  have q4 : exS (fr 59 0) (lw s0 s2 (some (schemaD b r0 r1)) (some (.tup [.tup rows, .tup more])) (some (.tup rows)) s13 s14 s15) t4 (cupS a c) = .ok (.next (lw s0 s2 (some (schemaD b r0 r1)) (some (.tup [.tup rows, .tup more])) (some (.tup rows)) (some (.tup [.tup rows.reverse, .tup more])) s14 s15)) (cupS a c) := rfl
  have q6 := odds_run b a c s0 s2 (some (.tup [.tup rows, .tup more])) (some (.tup rows)) (some (.tup [.tup rows.reverse, .tup more])) s14 s15 r0 k0 r1 k1
  have qq := (sq q2 (ss := .cons t3 (.cons t4 (.cons t5 (dropS 6 lb))))).trans ((sq q3).trans ((sq q4).trans ((sq q5).trans q6)))
  exact ⟨_, _, qq, .refl c2, _, rfl, _, _, _, _, _, _, _, rfl⟩
theorem isT_ok {r : Res Ev.Flow} (h : isT r = true) : ∃ st, r = .ok (.ret (.bl true)) st := by
  unfold isT at h
  split at h
  · exact ⟨_, rfl⟩
  · cases h
theorem plain (ns : List Int) (hn : ns.length ≤ 63) : callN T.P fuel T.exmF depth 78 [.lst (ns.map .int)] [] = .ok (.bl true) [] := by
  show cl (59 + 1) 78 [.lst (ns.map .int)] [] = _
  rw [cl_run (F := F_law) rfl _ _ rfl]
  obtain ⟨a, c, e1, ha, hc0, hc1⟩ := cup_ok (n := 58) ns hn
  have hcup : Cup [.lst [.int a, .int c]] 0 := ⟨a, c, rfl, ha, hc0, hc1⟩
  have s1 : exS (fr 59 0) [some (.lst (ns.map .int)), none, none, none, none, none, none, none, none, none, none, none, none, none, none, none, none, none, none, none] (.asg (.name 1) (.call 29 (.cons (.var 0) .nil))) [] = .ok (.next (lw (some (.lst (ns.map .int))) none none none none none none none)) [.lst [.int a, .int c]] := by
    simp only [exS, evE, evEs, s_ret, s_assoc]
    rw [g_some (d := .lst (ns.map .int)) rfl, s_ret]
    rw [s_ok e1]
    rfl
  show fin 0 (exSs (fr 59 0) [some (.lst (ns.map .int)), none, none, none, none, none, none, none, none, none, none, none, none, none, none, none, none, none, none, none] (.cons (.asg (.name 1) (.call 29 (.cons (.var 0) .nil))) (.cons (.for (.name 2) (.rng1 (.const (.int 4))) lb) (dropS 2 F_law.body))) []) = _
  rw [sq s1]
  have w : Wp 0 (exS (fr 59 0) (lw (some (.lst (ns.map .int))) none none none none none none none) (.for (.name 2) (.rng1 (.const (.int 4))) lb)) (fun fl => ∃ ρ, fl = .next ρ ∧ LwI (some (.lst (ns.map .int))) ρ) [.lst [.int a, .int c]] := by
    have it : evIt (fr 59 0) (lw (some (.lst (ns.map .int))) none none none none none none none) (.rng1 (.const (.int 4))) = M.ret (rngUp 0 4) := by
      simp [okRng]
    rw [exS, it, s_ret]
    refine wp_for (N := 1) (LwI (some (.lst (ns.map .int)))) (fun i v hv ρ st' hc hN hI => ?_) hcup rfl ⟨_, _, _, _, _, _, _, rfl⟩
    obtain ⟨s2, s10, s11, s12, s13, s14, s15, rfl⟩ := hI
    exact run_turn (s2 := some v) hc hN
  obtain ⟨fl, st1, e2, dr, ρ, rfl, s2, s10, s11, s12, s13, s14, s15, rfl⟩ := w
  rw [sq e2]
  obtain ⟨a', c', rfl⟩ := cup_one dr.cup (by rw [dr.len]; rfl)
  obtain ⟨st', e3⟩ := isT_ok (rest a' c' (some (.lst (ns.map .int))) s2 s10 s11 s12 s13 s14 s15)
  rw [e3]
  show leave 0 (.bl true) st' = _
  unfold leave
  by_cases hz : st'.length = 0
  · rw [if_pos hz, List.length_eq_zero_iff.mp hz]
  · rw [if_neg hz, if_pos (show (D.bl true).plain = true from rfl), List.take_zero]
end K00
set_option linter.all false
set_option maxRecDepth 100000
set_option maxHeartbeats 0
namespace K00
open PySem PySem.Spec PyProof.Rows Ev

def top (i : Nat) : Stmt := PySem.Challenge.pw_snapshothall_k00_whole_schemas_and_state.main.body.getD i (.Pass ⟨0, 0, 0, 0⟩)
def dAt (x : Str) (i : Nat) : He.DefD := ⟨(x, none), x, x, L2.defArgs (top i), L2.defBody (top i), L2.defScope (top i), [], []⟩
def fn : List He.DefD := [dAt "is_whole" 18, dAt "is_tuple_of" 19, dAt "is_word" 20, dAt "is_number" 21, dAt "fits_value" 22, dAt "fits_sort" 23, dAt "fits_column" 24, dAt "fits_columns" 25, dAt "fits_rule_shape" 26, dAt "fits_row" 27, dAt "fits_rows" 28, dAt "fits_state" 29, dAt "refuse_schema" 30, dAt "sort_of_value" 38, dAt "joined_sort" 39, dAt "sort_of" 40, dAt "fits_leaf" 41, dAt "fits_test" 42, dAt "fits_rule" 43, dAt "fits_table" 44, dAt "fits_schema" 45, dAt "need_schema" 46, dAt "is_schema" 47, dAt "is_state" 48, dAt "_law_cup" 50, dAt "_law_roll" 51, dAt "_law_some" 52, dAt "_law_schema" 53, dAt "_law_value" 54, dAt "_law_state" 55, dAt "_law_word" 56, dAt "law" 57]
abbrev R : PySem.W.OpenRow := PySem.W.OpenLaw.row PySem.Challenge.rw_snapshothall_k00_whole_schemas_and_state
abbrev hk : PySem.W.Hook := hookF 4 (facts T) fn (tabsT T)
def ob (s : PySem.W.SharedT) : He.AlD := obsFG 4 (facts T) fn (tabsT T) (HandSHeadRun.getT s)
theorem ob_eq (s : PySem.W.SharedT) : ob s = hk.obs s.abs := obsFG_eq (HandSHeadRun.getT_eq s)
def loose : List Str := (["HallError", "InvalidSchema", "InvalidState", "InvalidTest", "InvalidQuery", "InvalidRow", "NUMBER", "LETTERS", "WORD", "COLUMNS", "RULES", "TABLES", "ROWS", "INT", "TEXT", "KEY", "is_whole", "is_tuple_of", "is_word", "is_number", "fits_value", "fits_sort", "fits_column", "fits_columns", "fits_rule_shape", "fits_row", "fits_rows", "fits_state", "refuse_schema", "ANY"] : List Str) ++ (["DEEP", "PARTS", "IN", "COMPARED", "JOINED", "sort_of_value", "joined_sort", "sort_of", "fits_leaf", "fits_test", "fits_rule", "fits_table", "fits_schema", "need_schema", "is_schema", "is_state", "_law_cup", "_law_roll", "_law_some", "_law_schema", "_law_value", "_law_state", "_law_word"] : List Str)
theorem run (w : World) : HandSHeadRun.RunEq R (PySem.W.view R.prog [57]) hk ob 15000 loose w := by
  intro os
  kernel_rfl

theorem ok_0 : DefOk T fn F_is_whole := ⟨0, dAt "is_whole" 18, rfl, by decide +kernel, rfl, rfl, rfl, fun _ _ _ _ _ _ us hl => match us, hl with | [_, _, _], _ => rfl⟩
theorem ok_1 : DefOk T fn F_is_tuple_of := ⟨1, dAt "is_tuple_of" 19, rfl, by decide +kernel, rfl, rfl, rfl, fun _ _ _ _ _ _ us hl => match us, hl with | [_, _, _], _ => rfl⟩
theorem ok_2 : DefOk T fn F_is_word := ⟨2, dAt "is_word" 20, rfl, by decide +kernel, rfl, rfl, rfl, fun _ _ _ _ _ _ us hl => match us, hl with | [_], _ => rfl⟩
theorem ok_3 : DefOk T fn F_is_number := ⟨3, dAt "is_number" 21, rfl, by decide +kernel, rfl, rfl, rfl, fun _ _ _ _ _ _ us hl => match us, hl with | [_], _ => rfl⟩
theorem ok_4 : DefOk T fn F_fits_value := ⟨4, dAt "fits_value" 22, rfl, by decide +kernel, rfl, rfl, rfl, fun _ _ _ _ _ _ us hl => match us, hl with | [_], _ => rfl⟩
theorem ok_5 : DefOk T fn F_fits_sort := ⟨5, dAt "fits_sort" 23, rfl, by decide +kernel, rfl, rfl, rfl, fun _ _ _ _ _ _ us hl => match us, hl with | [_, _], _ => rfl⟩
theorem ok_6 : DefOk T fn F_fits_column := ⟨6, dAt "fits_column" 24, rfl, by decide +kernel, rfl, rfl, rfl, fun _ _ _ _ _ _ us hl => match us, hl with | [_], _ => rfl⟩
theorem ok_7 : DefOk T fn F_fits_columns := ⟨7, dAt "fits_columns" 25, rfl, by decide +kernel, rfl, rfl, rfl, fun _ _ _ _ _ _ us hl => match us, hl with | [_], _ => rfl⟩
theorem ok_8 : DefOk T fn F_fits_rule_shape := ⟨8, dAt "fits_rule_shape" 26, rfl, by decide +kernel, rfl, rfl, rfl, fun _ _ _ _ _ _ us hl => match us, hl with | [_, _, _], _ => rfl⟩
theorem ok_9 : DefOk T fn F_fits_row := ⟨9, dAt "fits_row" 27, rfl, by decide +kernel, rfl, rfl, rfl, fun _ _ _ _ _ _ us hl => match us, hl with | [_, _], _ => rfl⟩
theorem ok_10 : DefOk T fn F_fits_rows := ⟨10, dAt "fits_rows" 28, rfl, by decide +kernel, rfl, rfl, rfl, fun _ _ _ _ _ _ us hl => match us, hl with | [_, _], _ => rfl⟩
theorem ok_11 : DefOk T fn F_fits_state := ⟨11, dAt "fits_state" 29, rfl, by decide +kernel, rfl, rfl, rfl, fun _ _ _ _ _ _ us hl => match us, hl with | [_, _], _ => rfl⟩
theorem ok_12 : DefOk T fn F_refuse_schema := ⟨12, dAt "refuse_schema" 30, rfl, by decide +kernel, rfl, rfl, rfl, fun _ _ _ _ _ _ us hl => match us, hl with | [], _ => rfl⟩
theorem ok_13 : DefOk T fn F_sort_of_value := ⟨13, dAt "sort_of_value" 38, rfl, by decide +kernel, rfl, rfl, rfl, fun _ _ _ _ _ _ us hl => match us, hl with | [_], _ => rfl⟩
theorem ok_14 : DefOk T fn F_joined_sort := ⟨14, dAt "joined_sort" 39, rfl, by decide +kernel, rfl, rfl, rfl, fun _ _ _ _ _ _ us hl => match us, hl with | [_, _], _ => rfl⟩
theorem ok_15 : DefOk T fn F_sort_of := ⟨15, dAt "sort_of" 40, rfl, by decide +kernel, rfl, rfl, rfl, fun _ _ _ _ _ _ us hl => match us, hl with | [_, _, _], _ => rfl⟩
theorem ok_16 : DefOk T fn F_fits_leaf := ⟨16, dAt "fits_leaf" 41, rfl, by decide +kernel, rfl, rfl, rfl, fun _ _ _ _ _ _ us hl => match us, hl with | [_, _, _], _ => rfl⟩
theorem ok_17 : DefOk T fn F_fits_test := ⟨17, dAt "fits_test" 42, rfl, by decide +kernel, rfl, rfl, rfl, fun _ _ _ _ _ _ us hl => match us, hl with | [_, _], _ => rfl⟩
theorem ok_18 : DefOk T fn F_fits_rule := ⟨18, dAt "fits_rule" 43, rfl, by decide +kernel, rfl, rfl, rfl, fun _ _ _ _ _ _ us hl => match us, hl with | [_, _, _], _ => rfl⟩
theorem ok_19 : DefOk T fn F_fits_table := ⟨19, dAt "fits_table" 44, rfl, by decide +kernel, rfl, rfl, rfl, fun _ _ _ _ _ _ us hl => match us, hl with | [_, _], _ => rfl⟩
theorem ok_20 : DefOk T fn F_fits_schema := ⟨20, dAt "fits_schema" 45, rfl, by decide +kernel, rfl, rfl, rfl, fun _ _ _ _ _ _ us hl => match us, hl with | [_], _ => rfl⟩
theorem ok_21 : DefOk T fn F_need_schema := ⟨21, dAt "need_schema" 46, rfl, by decide +kernel, rfl, rfl, rfl, fun _ _ _ _ _ _ us hl => match us, hl with | [_], _ => rfl⟩
theorem ok_22 : DefOk T fn F_is_schema := ⟨22, dAt "is_schema" 47, rfl, by decide +kernel, rfl, rfl, rfl, fun _ _ _ _ _ _ us hl => match us, hl with | [_], _ => rfl⟩
theorem ok_23 : DefOk T fn F_is_state := ⟨23, dAt "is_state" 48, rfl, by decide +kernel, rfl, rfl, rfl, fun _ _ _ _ _ _ us hl => match us, hl with | [_, _], _ => rfl⟩
theorem ok_24 : DefOk T fn F__law_cup := ⟨24, dAt "_law_cup" 50, rfl, by decide +kernel, rfl, rfl, rfl, fun _ _ _ _ _ _ us hl => match us, hl with | [_], _ => rfl⟩
theorem ok_25 : DefOk T fn F__law_roll := ⟨25, dAt "_law_roll" 51, rfl, by decide +kernel, rfl, rfl, rfl, fun _ _ _ _ _ _ us hl => match us, hl with | [_, _], _ => rfl⟩
theorem ok_26 : DefOk T fn F__law_some := ⟨26, dAt "_law_some" 52, rfl, by decide +kernel, rfl, rfl, rfl, fun _ _ _ _ _ _ us hl => match us, hl with | [_, _], _ => rfl⟩
theorem ok_27 : DefOk T fn F__law_schema := ⟨27, dAt "_law_schema" 53, rfl, by decide +kernel, rfl, rfl, rfl, fun _ _ _ _ _ _ us hl => match us, hl with | [_], _ => rfl⟩
theorem ok_28 : DefOk T fn F__law_value := ⟨28, dAt "_law_value" 54, rfl, by decide +kernel, rfl, rfl, rfl, fun _ _ _ _ _ _ us hl => match us, hl with | [_, _], _ => rfl⟩
theorem ok_29 : DefOk T fn F__law_state := ⟨29, dAt "_law_state" 55, rfl, by decide +kernel, rfl, rfl, rfl, fun _ _ _ _ _ _ us hl => match us, hl with | [_, _, _], _ => rfl⟩
theorem ok_31 : DefOk T fn F_law := ⟨31, dAt "law" 57, rfl, by decide +kernel, rfl, rfl, rfl, fun _ _ _ _ _ _ us hl => match us, hl with | [_], _ => rfl⟩
theorem ds : ∀ p ∈ T.P, DefOk T fn p.2 := by
  intro p hp
  simp only [T, Pp, List.mem_cons, List.not_mem_nil, or_false] at hp
  rcases hp with rfl | rfl | rfl | rfl | rfl | rfl | rfl | rfl | rfl | rfl | rfl | rfl | rfl | rfl | rfl | rfl | rfl | rfl | rfl | rfl | rfl | rfl | rfl | rfl | rfl | rfl | rfl | rfl | rfl | rfl | rfl
  · exact ok_0
  · exact ok_1
  · exact ok_2
  · exact ok_3
  · exact ok_4
  · exact ok_5
  · exact ok_6
  · exact ok_7
  · exact ok_8
  · exact ok_9
  · exact ok_10
  · exact ok_11
  · exact ok_12
  · exact ok_13
  · exact ok_14
  · exact ok_15
  · exact ok_16
  · exact ok_17
  · exact ok_18
  · exact ok_19
  · exact ok_20
  · exact ok_21
  · exact ok_22
  · exact ok_23
  · exact ok_24
  · exact ok_25
  · exact ok_26
  · exact ok_27
  · exact ok_28
  · exact ok_29
  · exact ok_31
theorem wok_30 : WordOk T fn (T.words.getD 0 ⟨"", "", [], .non⟩) := ⟨30, dAt "_law_word" 56, rfl, by decide +kernel, rfl, rfl, rfl, fun _ _ _ _ _ _ us hl => match us, hl with | [_], _ => rfl⟩
theorem ws : ∀ w ∈ T.words, WordOk T fn w := by
  intro w hw
  simp only [T, List.mem_cons, List.not_mem_nil, or_false] at hw
  rcases hw with rfl
  · exact wok_30
end K00
open PySem PySem.W PySem.Calls PyProof.Rows

theorem PySem.Challenge.cw_snapshothall_k00_whole_schemas_and_state_holds : PySem.Challenge.rw_snapshothall_k00_whole_schemas_and_state.Holds := by
  w_on; o_law
  refine HandSHeadRun.head_any (r := OpenLaw.row PySem.Challenge.rw_snapshothall_k00_whole_schemas_and_state) (q := view (OpenLaw.row PySem.Challenge.rw_snapshothall_k00_whole_schemas_and_state).prog [57]) (H := K00.hk) (ob := K00.ob) (M := 15000) (loose := K00.loose) (d := HandSHeadRun.topDef (OpenLaw.row PySem.Challenge.rw_snapshothall_k00_whole_schemas_and_state).prog 57) (kwd := []) K00.ob_eq
    (by kernel_rfl) (fun s => by kernel_rfl) K00.run (by kernel_rfl) (by kernel_rfl) (by kernel_rfl) (by rfl) (by first | assumption | decide +kernel) (by decide +kernel) ⟨rfl, rfl, rfl, rfl, rfl, by decide +kernel⟩ ?hw ?hc
  case hw => w_witness2
  case hc =>
    refine Ev.claim_holds (l := PySem.Challenge.rw_snapshothall_k00_whole_schemas_and_state) (n := 63) (k := 3 * K00.depth) (f := 78) (F := K00.F_law) (x := "script") (gq := K00.T.rp) (call := Ev.callN K00.T.P K00.fuel K00.T.exmF K00.depth) rfl (by decide) (by kernel_rfl) ⟨rfl, by decide, by decide⟩ rfl (by kernel_rfl) K00.plain ?_
    rintro w mg h ⟨K, inK, hf, hd⟩ G
    obtain ⟨c1, c2, c3⟩ := Ev.cs_ok (q := view (OpenLaw.row PySem.Challenge.rw_snapshothall_k00_whole_schemas_and_state).prog [57]) hf (by kernel_rfl)
    exact ⟨K, _, _, _, inK, c1, c2, c3, fun base kb nb tb => Ev.calls (Ev.head_of inK G hf hd K00.ds K00.ws tb) K00.depth 78 K00.F_law rfl⟩
