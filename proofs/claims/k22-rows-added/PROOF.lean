import PyProof.Rows.All
import Wide.All
import OpenK.AllK
import Wide.FinOn
import HandS.ForMost
import HandS.ForExc
import HandS.Defaults
import HandS.Walk
import HandS.Zip
import HandS.Style
import HandS.TupAny
import HandS.Text
import HandS.Wide
import HandS.IsInst
import HandS.TupMul
import KE.LtData
import KE.SortData
import KE.DataCmp
import KE.GoesEnum
import HandS.Lambda
import HandS.ExcIs
import KE.KRevSl
import HandS.TryMany
import HandS.SetFor
import HandS.Strs
import KE.SortKeyHeap
import KE.KLam
import HandS.SortKw
import HandS.Dict
import KE.KStateDown
import HandS.Codes
import HandS.Head0
import HandS.Head1
import HandS.Head2
import HandS.HeadEnd
import HandS.HeadHook1
import HandS.HeadHook2
import HandS.EndTab
import PySem.Challenge.RW_snapshothall_k22_rows_added
set_option Elab.async false
set_option linter.all false
set_option maxRecDepth 100000
/-! Ev0: a small language, its values, its evaluation: plain Lean, no machine in sight. -/
namespace Ev
open PySem

/-- values: mutable things stand in a store, told by their places -/
inductive D where
  | non
  | bl (b : Bool)
  | int (i : Int)
  | str (s : Str)
  | tup (xs : List D)
  | lst (xs : List D)
  | dct (ks vs : List D)
  | ref (l : Nat)
  | fn (f : Nat)
  deriving Inhabited

/-- what stands at a place of the store -/
inductive Cell where
  | dead
  | lst (xs : List D)
  | dct (ks vs : List D)
  deriving Inhabited

abbrev Store := List Cell

inductive Res (α : Type) where
  | ok (a : α) (st : Store)
  | exc (c : Nat) (st : Store)
  | bad

abbrev M (α : Type) := Store → Res α
namespace M
def ret {α : Type} (a : α) : M α := fun st => .ok a st
def bad {α : Type} : M α := fun _ => .bad
def thn {α β : Type} (x : M α) (f : α → M β) : M β := fun st =>
  match x st with
  | .ok a st' => f a st'
  | .exc c st' => .exc c st'
  | .bad => .bad
/-- an error may not come out -/
def calm {α : Type} (x : M α) : M α := fun st =>
  match x st with
  | .ok a st' => .ok a st'
  | _ => .bad
def ofO {α : Type} : Option α → M α
  | some a => ret a
  | none => bad
end M
open M

/-! ### plain data -/
mutual
def D.toPy : D → Option PyData
  | .non => some .none
  | .bl b => some (.bool b)
  | .int i => some (.int i)
  | .str s => some (.str s)
  | .tup xs => (D.toPys xs).map .tuple
  | .lst xs => (D.toPys xs).map .list
  | .dct _ _ => none
  | .ref _ => none
  | .fn _ => none
def D.toPys : List D → Option (List PyData)
  | [] => some []
  | x :: xs => match D.toPy x, D.toPys xs with
    | some y, some ys => some (y :: ys)
    | _, _ => none
end
mutual
/-- no places of the store within -/
def D.plain : D → Bool
  | .tup xs => D.plains xs
  | .lst xs => D.plains xs
  | .dct ks vs => D.plains ks && D.plains vs
  | .ref _ => false
  | _ => true
def D.plains : List D → Bool
  | [] => true
  | x :: xs => D.plain x && D.plains xs
end

/-- a mutable list, dict read as it stands -/
def view (st : Store) : D → D
  | .ref l => match st[l]? with
    | some (.lst xs) => .lst xs
    | some (.dct ks vs) => .dct ks vs
    | _ => .ref l
  | d => d

/-! ### operations on values -/
def okSize (n : Nat) : Bool := decide (n ≤ 10000000)
def smallI (i : Int) : Bool := decide (-(2 ^ 64) < i ∧ i < 2 ^ 64)
def eqD (a b : D) : Option Bool := match a, b with
  | .int i, .int j => some (decide (i = j))
  | .str i, .str j => some (decide (i = j))
  | .bl i, .bl j => some (decide (i = j))
  | .non, .non => some true
  | a, b => match a.toPy, b.toPy with
    | some x, some y => if SeqAt.shaped x && SeqAt.shaped y then some (PyData.eqv x y) else none
    | _, _ => none
def inL (x : D) (ys : List D) : Option Bool := match x.toPy, D.toPys ys with
  | some d, some ds => if SeqAt.shaped d && PyData.canLayAll0 ds then some (ds.any fun z => PyData.eqv z d) else none
  | _, _ => none
def ltD (a b : D) : Option Bool := match a, b with
  | .int i, .int j => some (decide (i < j))
  | .str i, .str j => some (decide (i.cps.toList < j.cps.toList))
  | .tup _, .tup _ => match a.toPy, b.toPy with
    | some x, some y => if PySem.W.alike x y && decide (x.depth ≤ 60) then some (PySem.W.dataLt x y) else none
    | _, _ => none
  | _, _ => none
def leD (a b : D) : Option Bool := match a, b with
  | .int i, .int j => some (decide (i ≤ j))
  | .str i, .str j => some (!decide (j.cps.toList < i.cps.toList))
  | _, _ => none
def binD (op : Operator) (a b : D) : Option D := match op, a, b with
  | .Add, .int i, .int j => some (.int (i + j))
  | .Add, .str i, .str j => if okSize (i.length + j.length) then some (.str (i ++ j)) else none
  | .Add, .tup xs, .tup ys => if okSize (xs.length + ys.length) then some (.tup (xs ++ ys)) else none
  | .Add, .lst xs, .lst ys => if okSize (xs.length + ys.length) then some (.lst (xs ++ ys)) else none
  | .Sub, .int i, .int j => some (.int (i - j))
  | .Mult, .int i, .int j => if smallI i || smallI j then some (.int (i * j)) else none
  | .Mult, .tup xs, .int k => if !xs.isEmpty && decide (2 ≤ k ∧ k ≤ 1000) && decide (xs.length ≤ 1000) then some (.tup (List.replicate k.toNat xs).flatten) else none
  | .FloorDiv, .int i, .int j => if decide (0 < j ∧ j < 1073741824) then some (.int (i / j)) else none
  | .Mod, .int i, .int j => if decide (0 < j) then some (.int (i % j)) else none
  | .Pow, .int i, .int j => if decide (0 ≤ j ∧ j ≤ 1000000) && decide (i.natAbs < 2 ^ 64) then some (.int (i ^ j.toNat)) else none
  | _, _, _ => none
/-- two lists, one behind the other -/
def catD : D → D → Option (List D)
  | .lst xs, .lst ys => if okSize (xs.length + ys.length) then some (xs ++ ys) else none
  | _, _ => none
def ixAt {α : Type} (xs : List α) (i : Int) : Option α :=
  if 0 ≤ i then xs[i.toNat]? else if -(xs.length : Int) ≤ i then xs[(i + xs.length).toNat]? else none
def idxD (a b : D) : Option D := match a, b with
  | .tup xs, .int i => ixAt xs i
  | .lst xs, .int i => ixAt xs i
  | _, _ => none
/-- the bounds of a slice -/
def cutAt (n d : Nat) : Option Int → Nat
  | none => d
  | some v => if v < 0 then (v + (n : Int)).toNat else min v.toNat n
def cutL {α : Type} (xs : List α) (lo hi : Option Int) : List α :=
  (xs.drop (cutAt xs.length 0 lo)).take (cutAt xs.length xs.length hi - cutAt xs.length 0 lo)
def slcD (a : D) (lo hi : Option Int) : Option D := match a with
  | .tup xs => some (.tup (cutL xs lo hi))
  | .lst xs => some (.lst (cutL xs lo hi))
  | _ => none
/-- read from its end -/
def revD : D → Option D
  | .tup xs => some (.tup xs.reverse)
  | .lst xs => some (.lst xs.reverse)
  | _ => none
def isNon : D → Bool
  | .non => true
  | _ => false
/-- one text within another -/
def inS (a : D) (j : Str) : Option Bool := match a with
  | .str i => some (!(Builtin.Str.occurrences j i 0 j.length 1).isEmpty)
  | _ => none
def cmpD (op : CmpOp) (a b : D) : Option Bool := match op with
  | .Eq => eqD a b
  | .NotEq => (eqD a b).map (!·)
  | .Lt => ltD a b
  | .Gt => ltD b a
  | .LtE => leD a b
  | .GtE => leD b a
  | .Is => match a, b with
    | a, .non => some (isNon a)
    | .bl j, .bl k => some (decide (j = k))
    | .non, .bl _ => some false
    | _, _ => none
  | .IsNot => match a, b with
    | a, .non => some (!isNon a)
    | .bl j, .bl k => some (!decide (j = k))
    | .non, .bl _ => some true
    | _, _ => none
  | .In => match b with
    | .lst ys => inL a ys
    | .tup ys => inL a ys
    | .str j => inS a j
    | _ => none
  | .NotIn => match b with
    | .lst ys => (inL a ys).map (!·)
    | .tup ys => (inL a ys).map (!·)
    | .str j => (inS a j).map (!·)
    | _ => none

/-! ### the language -/
inductive Ty where
  | int | bool | str | tuple | list | none
  deriving DecidableEq, Inhabited
def Ty.has : Ty → D → Bool
  | .int, .int _ => true
  | .int, .bl _ => true
  | .bool, .bl _ => true
  | .str, .str _ => true
  | .tuple, .tup _ => true
  | .list, .lst _ => true
  | _, _ => false
def Ty.name : Ty → String
  | .int => "int" | .bool => "bool" | .str => "str" | .tuple => "tuple" | .list => "list" | .none => "NoneType"

inductive Blt where
  | len | abs | int | sum | max | any | all | repr
  | isi (t : Ty)
  | tuple
  deriving DecidableEq, Inhabited
/-- targets of loops -/
inductive Tg where
  | name (i : Nat)
  | two (a b : Tg)
  | three (a b c : Tg)
  | four (a b c d : Tg)
  | five (a b c d e : Tg)
  deriving Inhabited

mutual
inductive E where
  | var (i : Nat)
  | const (d : D)
  | gc (x : Str) (d : D)
  | gf (f : Nat)
  | tup (es : Es)
  | bin (op : Operator) (a b : E)
  | neg (a : E)
  | not (a : E)
  | and (a b : E)
  | or (a b : E)
  | ite (c a b : E)
  | cmp (op : CmpOp) (a b : E)
  | cmp2 (op op' : CmpOp) (a b c : E)
  | idx (a b : E)
  | slc (a : E) (lo hi : O)
  | call (f : Nat) (es : Es)
  | blt (b : Blt) (a : E)
  | new (n : N)
  | newm (n : N)
  | frz (a : E)
  | pop (a : E)
  | rev (a : E)
  | word (x : Str) (hs : List (Nat × D)) (d : D) (e : E)
  | mm (mx : Bool) (a b : E)
  | srt (a : E)
  | srtk (a : E) (i : Nat)
  | srti (a : E)
  | srtp (a : E)
  | dsp (kvs : List (Str × Nat))
  | calld (i : Nat) (sel : E) (es : Es)
  | callv (i : Nat) (es : Es)
/-- a part of a slice, a test of a comprehension: perhaps none -/
inductive O where
  | no
  | is (e : E)
inductive Es where
  | nil
  | cons (e : E) (es : Es)
inductive N where
  | lst (es : Es)
  | comp (own : List Nat) (elt : E) (tg : Tg) (it : It) (c : O)
  | comp2 (own own1 : List Nat) (elt : E) (tg : Tg) (it : It) (c : O) (tg1 : Tg) (it1 : It) (c1 : O)
  | listOf (a : E)
  | rep (n : N) (k : E)
  | cat (a b : E)
inductive It where
  | val (a : E)
  | rng1 (a : E)
  | rng2 (a b : E)
  | enum (a : E)
  | zip (a b : E)
end
inductive T where
  | name (i : Nat)
  | tg (t : Tg)
  | idx (o i : E)
mutual
inductive S where
  | expr (e : E)
  | asg (t : T) (e : E)
  | par (ts : List Nat) (es : Es)
  | augn (op : Operator) (i : Nat) (e : E)
  | app (o e : E)
  | ret (e : E)
  | retN
  | pass
  | brk
  | iff (c : E) (a b : Ss)
  | for (t : Tg) (it : It) (b : Ss)
  | whl (c : E) (b : Ss)
  | raise (c : Nat) (m : Str)
  | freeze (i : Nat)
  | augl (i : Nat) (e : E)
  | tryA (i : Nat) (b : Ss) (hall : Nat) (cs : List (Nat × D)) (d : D)
inductive Ss where
  | nil
  | cons (s : S) (ss : Ss)
end

structure Fn where
  name : Str
  ps : List Str
  slots : List Str
  body : Ss

/-! ### evaluation -/
structure Cfg where
  call : Nat → List D → M D
  base : Nat
  fuel : Nat
  exm : Nat → Nat → Option Bool

abbrev Env := List (Option D)
def getE (ρ : Env) (i : Nat) : M D := match ρ[i]? with
  | some (some d) => ret d
  | _ => bad
def wipeE (ρ : Env) : List Nat → Env
  | [] => ρ
  | v :: vs => (wipeE ρ vs).set v none
mutual
def setTg : Tg → D → Env → Option Env
  | .name i, d, ρ => some (ρ.set i (some d))
  | .two a b, .tup [x, y], ρ => match setTg a x ρ with
    | some ρ => setTg b y ρ
    | none => none
  | .three a b c, .tup [x, y, z], ρ => match setTg a x ρ with
    | some ρ => match setTg b y ρ with
      | some ρ => setTg c z ρ
      | none => none
    | none => none
  | .four a b c d, .tup [x, y, z, u], ρ => match setTg a x ρ with
    | some ρ => match setTg b y ρ with
      | some ρ => match setTg c z ρ with
        | some ρ => setTg d u ρ
        | none => none
      | none => none
    | none => none
  | .five a b c d e, .tup [x, y, z, u, v], ρ => match setTg a x ρ with
    | some ρ => match setTg b y ρ with
      | some ρ => match setTg c z ρ with
        | some ρ => match setTg d u ρ with
          | some ρ => setTg e v ρ
          | none => none
        | none => none
      | none => none
    | none => none
  | _, _, _ => none
end
/-- a value's type -/
def tyD : D → String
  | .non => "NoneType" | .bl _ => "bool" | .int _ => "int" | .str _ => "str" | .tup _ => "tuple" | .lst _ => "list" | _ => ""
def asB : D → M Bool
  | .bl b => ret b
  | _ => bad
def asI : D → M (Option Int)
  | .int i => ret (some i)
  | _ => bad
def allB : List D → Option (List Bool)
  | [] => some []
  | .bl b :: r => (allB r).map (b :: ·)
  | _ => none
def allI : List D → Option (List Int)
  | [] => some []
  | .int b :: r => (allI r).map (b :: ·)
  | _ => none
/-- the greatest -/
def maxI : Int → List Int → Int
  | m, [] => m
  | m, x :: xs => maxI (if x > m then x else m) xs
/-- the greater, the less of two -/
def mm2 : Bool → Int → Int → Int
  | true, i, j => if j > i then j else i
  | false, i, j => if j < i then j else i
def bltD (b : Blt) (d : D) : Option D := match b, d with
  | .len, .lst xs => some (.int xs.length)
  | .len, .tup xs => some (.int xs.length)
  | .len, .str z => if okSize z.length then some (.int z.length) else none
  | .abs, .int i => some (.int (if i < 0 then -i else i))
  | .int, .int i => some (.int i)
  | .int, .bl k => some (.int (if k then 1 else 0))
  | .sum, .lst xs => (allI xs).map fun l => .int l.sum
  | .max, .lst xs => match allI xs with
    | some (i :: l) => some (.int (maxI i l))
    | _ => none
  | .any, .lst xs => (allB xs).map fun l => .bl (l.any id)
  | .all, .lst xs => (allB xs).map fun l => .bl (l.all id)
  | .isi _, .ref _ => none
  | .isi t, d => if decide (tyD d ≠ "") && decide (t ≠ .none) then some (.bl (t.has d)) else none
  | .tuple, .lst xs => some (.tup xs)
  | .tuple, .tup xs => some (.tup xs)
  | .repr, d => match d.toPy with
    | some x => if x.showable && decide (x.depth ≤ 60) && okSize x.shown.length then some (.str x.shown) else none
    | none => none
  | _, _ => none
/-! a list of ints, in order, each once -/
def insU (x : Int) : List Int → List Int
  | [] => [x]
  | y :: ys => if x < y then x :: y :: ys else if x = y then y :: ys else y :: insU x ys
def sortU : List Int → List Int
  | [] => []
  | x :: xs => insU x (sortU xs)
/-- in order, each once -/
def srtD : D → Option D
  | .lst xs => match allI xs with
    | some l => if decide (l.length < 64) then some (.lst ((sortU l).map .int)) else none
    | none => none
  | _ => none
/-! in order by keys, like ones as they stood -/
def insBy {β : Type} (k : β → Int) (x : β) : List β → List β
  | [] => [x]
  | y :: ys => if k x ≤ k y then x :: y :: ys else y :: insBy k x ys
def srtBy {β : Type} (k : β → Int) : List β → List β
  | [] => []
  | x :: xs => insBy k x (srtBy k xs)
/-- things with their keys, at a place within -/
def keysD (i : Nat) : List D → Option (List (Int × D))
  | [] => some []
  | .tup ys :: r => match ys[i]? with
    | some (.int k) => (keysD i r).map ((k, .tup ys) :: ·)
    | _ => none
  | _ => none
def srtkD (i : Nat) : D → Option D
  | .lst xs => (keysD i xs).map fun ps => .lst ((srtBy (·.1) ps).map (·.2))
  | .tup xs => (keysD i xs).map fun ps => .lst ((srtBy (·.1) ps).map (·.2))
  | _ => none
/-- ints in order -/
def srtiD : D → Option D
  | .lst xs => (allI xs).map fun l => .lst ((srtBy (fun i => i) l).map .int)
  | _ => none
/-! pairs of ints in order -/
def allP : List D → Option (List (Int × Int))
  | [] => some []
  | .tup [.int i, .int j] :: r => (allP r).map ((i, j) :: ·)
  | _ => none
def lexP (x y : Int × Int) : Bool := decide (x.1 < y.1) || (decide (x.1 = y.1) && decide (x.2 ≤ y.2))
def insP (x : Int × Int) : List (Int × Int) → List (Int × Int)
  | [] => [x]
  | y :: ys => if lexP x y then x :: y :: ys else y :: insP x ys
def srtP : List (Int × Int) → List (Int × Int)
  | [] => []
  | x :: xs => insP x (srtP xs)
def pairD (p : Int × Int) : D := .tup [.int p.1, .int p.2]
def srtpD : D → Option D
  | .lst xs => (allP xs).map fun l => .lst ((srtP l).map pairD)
  | _ => none
/-- a def, told by a text -/
def dctF : D → D → Option Nat
  | .dct ks vs, .str s => lookF s ks vs
  | _, _ => none
where lookF (s : Str) : List D → List D → Option Nat
  | .str k :: ks, .fn f :: vs => if k = s then some f else lookF s ks vs
  | _, _ => none
/-- a new mutable thing -/
def alloc (c : Cell) : M D := fun st => .ok (.ref st.length) (st ++ [c])
/-- a list of results, one turn behind the other -/
def loopC {α : Type} (f : D → M (List α)) : List D → M (List α)
  | [] => ret []
  | x :: xs => thn (f x) fun ys => thn (loopC f xs) fun zs => ret (ys ++ zs)
def pairUp : List D → List D → List D
  | x :: xs, y :: ys => .tup [x, y] :: pairUp xs ys
  | _, _ => []
def numUp : Nat → List D → List D
  | _, [] => []
  | n, x :: xs => .tup [.int n, x] :: numUp (n + 1) xs
def rngUp (lo : Int) : Nat → List D
  | 0 => []
  | n + 1 => .int lo :: rngUp (lo + 1) n
def seqOf : D → Option (List D)
  | .lst xs => some xs
  | .tup xs => some xs
  | _ => none
def zipD : D → D → Option (List D)
  | .lst xs, .lst ys => some (pairUp xs ys)
  | .tup xs, .tup ys => some (pairUp xs ys)
  | _, _ => none
/-- what a loop walks -/
def walkD : D → Option (List D)
  | .lst xs => some xs
  | .tup xs => some xs
  | .str z => some (z.cps.toList.map fun c => .str ⟨#[c]⟩)
  | _ => none
def okRng (i : Int) : Bool := decide (-(2 ^ 62) ≤ i ∧ i < 2 ^ 62)

/-- the last of a mutable list, taken -/
def popD (x : D) : M D := fun st => match x with
  | .ref l => match st[l]? with
    | some (.lst xs) => match xs.getLast? with
      | some d => .ok d (st.set l (.lst xs.dropLast))
      | none => .bad
    | _ => .bad
  | _ => .bad
def repL (xs : List D) (d : D) : M (List D) := match d with
  | .int k => if decide (0 ≤ k) && okSize k.toNat && okSize (k.toNat * xs.length) then ret (List.replicate k.toNat xs).flatten else bad
  | _ => bad
/-- which clause takes an error -/
def catchW (exm : Nat → Nat → Option Bool) (c : Nat) : List (Nat × D) → Option D
  | [] => none
  | (k, d) :: r => match exm c k with
    | some true => some d
    | some false => catchW exm c r
    | none => none
/-- which error a run raises, told by a constant -/
def wordM (exm : Nat → Nat → Option Bool) (hs : List (Nat × D)) (d : D) (x : M D) : M D := fun st => match x st with
  | .ok _ st' => .ok d (st'.take st.length)
  | .exc c st' => match catchW exm c hs with
    | some d' => .ok d' (st'.take st.length)
    | none => .bad
  | .bad => .bad
mutual
def evE (C : Cfg) (ρ : Env) : E → M D
  | .var i => getE ρ i
  | .const d => ret d
  | .gc _ d => ret d
  | .gf f => ret (.fn f)
  | .tup es => thn (evEs C ρ es) fun xs => if okSize xs.length then ret (.tup xs) else bad
  | .bin op a b => thn (evE C ρ a) fun x => thn (evE C ρ b) fun y => fun st => ofO (binD op (view st x) (view st y)) st
  | .neg a => thn (evE C ρ a) fun x => match x with
    | .int i => ret (.int (-i))
    | _ => bad
  | .not a => thn (thn (evE C ρ a) asB) fun b => ret (.bl (!b))
  | .and a b => thn (thn (evE C ρ a) asB) fun k => if k then thn (thn (evE C ρ b) asB) fun j => ret (.bl j) else ret (.bl false)
  | .or a b => thn (thn (evE C ρ a) asB) fun k => if k then ret (.bl true) else thn (thn (evE C ρ b) asB) fun j => ret (.bl j)
  | .ite c a b => thn (thn (evE C ρ c) asB) fun k => if k then evE C ρ a else evE C ρ b
  | .cmp op a b => thn (evE C ρ a) fun x => thn (evE C ρ b) fun y => fun st => ofO ((cmpD op (view st x) (view st y)).map .bl) st
  | .cmp2 op op' a b c => thn (evE C ρ a) fun x => thn (evE C ρ b) fun y => fun st => thn (ofO (cmpD op (view st x) (view st y))) (fun k => if k then
      thn (evE C ρ c) fun z => fun st => ofO ((cmpD op' (view st y) (view st z)).map .bl) st else ret (.bl false)) st
  | .idx a b => thn (evE C ρ a) fun x => thn (evE C ρ b) fun y => fun st => ofO (idxD (view st x) y) st
  | .slc a lo hi => thn (evE C ρ a) fun x => thn (evO C ρ lo) fun l => thn (evO C ρ hi) fun h => fun st => ofO (slcD (view st x) l h) st
  | .call f es => thn (evEs C ρ es) fun xs => C.call f xs
  | .blt b a => thn (evE C ρ a) fun x => fun st => ofO (bltD b (view st x)) st
  | .new n => thn (evN C ρ n) fun xs => ret (.lst xs)
  | .newm n => thn (evN C ρ n) fun xs => alloc (.lst xs)
  | .frz a => thn (evE C ρ a) fun x => fun st => match x with
    | .ref l => match st[l]? with
      | some (.lst xs) => .ok (.lst xs) (st.set l .dead)
      | some (.dct ks vs) => .ok (.dct ks vs) (st.set l .dead)
      | _ => .bad
    | _ => .bad
  | .pop a => thn (evE C ρ a) popD
  | .rev a => thn (evE C ρ a) fun x => fun st => ofO (revD (view st x)) st
  | .word _ hs d e => wordM C.exm hs d (evE C ρ e)
  | .mm mx a b => thn (evE C ρ a) fun x => thn (evE C ρ b) fun y => match x, y with
    | .int i, .int j => ret (.int (mm2 mx i j))
    | _, _ => bad
  | .srt a => thn (evE C ρ a) fun x => fun st => ofO (srtD (view st x)) st
  | .srtk a i => thn (evE C ρ a) fun x => fun st => ofO (srtkD i (view st x)) st
  | .srti a => thn (evE C ρ a) fun x => fun st => ofO (srtiD (view st x)) st
  | .srtp a => thn (evE C ρ a) fun x => fun st => ofO (srtpD (view st x)) st
  | .dsp kvs => ret (.dct (kvs.map fun p => .str p.1) (kvs.map fun p => .fn p.2))
  | .calld i sel es => thn (getE ρ i) fun x => thn (evE C ρ sel) fun y => thn (ofO (dctF x y)) fun f => thn (evEs C ρ es) fun xs => C.call f xs
  | .callv i es => thn (getE ρ i) fun x => match x with
    | .fn f => thn (evEs C ρ es) fun xs => C.call f xs
    | _ => bad
/-- a part of a slice -/
def evO (C : Cfg) (ρ : Env) : O → M (Option Int)
  | .no => ret none
  | .is e => thn (evE C ρ e) asI
/-- a test -/
def evC (C : Cfg) (ρ : Env) : O → M Bool
  | .no => ret true
  | .is e => thn (evE C ρ e) asB
def evEs (C : Cfg) (ρ : Env) : Es → M (List D)
  | .nil => ret []
  | .cons e es => thn (evE C ρ e) fun x => thn (evEs C ρ es) fun xs => ret (x :: xs)
def evN (C : Cfg) (ρ : Env) : N → M (List D)
  | .lst es => thn (evEs C ρ es) fun xs => if okSize xs.length then ret xs else bad
  | .comp own elt tg it c => thn (evIt C ρ it) fun xs => calm (thn (loopC (fun x => match setTg tg x (wipeE ρ own) with
      | some σ => thn (evC C σ c) fun k => if k then thn (evE C σ elt) fun y => ret [y] else ret []
      | none => bad) xs) fun ys => if okSize ys.length then ret ys else bad)
  | .comp2 own own1 elt tg it c tg1 it1 c1 => thn (evIt C ρ it) fun xs => calm (thn (loopC (fun x => match setTg tg x (wipeE ρ own) with
      | some σ => thn (evC C σ c) fun k => if k then thn (evIt C σ it1) fun zs => loopC (fun z => match setTg tg1 z (wipeE σ own1) with
          | some τ => thn (evC C τ c1) fun k => if k then thn (evE C τ elt) fun y => ret [y] else ret []
          | none => bad) zs else ret []
      | none => bad) xs) fun ys => if okSize ys.length then ret ys else bad)
  | .listOf a => thn (evE C ρ a) fun x => fun st => ofO (seqOf (view st x)) st
  | .rep n k => thn (evN C ρ n) fun xs => thn (evE C ρ k) (repL xs)
  | .cat a b => thn (evE C ρ a) fun x => thn (evE C ρ b) fun y => fun st => ofO (catD (view st x) (view st y)) st
def evIt (C : Cfg) (ρ : Env) : It → M (List D)
  | .val a => thn (evE C ρ a) fun x => ofO (walkD x)
  | .rng1 a => thn (evE C ρ a) fun x => match x with
    | .int i => if okRng i then ret (rngUp 0 i.toNat) else bad
    | _ => bad
  | .rng2 a b => thn (evE C ρ a) fun x => thn (evE C ρ b) fun y => match x, y with
    | .int i, .int j => if okRng i && okRng j then ret (rngUp i (j - i).toNat) else bad
    | _, _ => bad
  | .enum a => thn (evE C ρ a) fun x => thn (ofO (seqOf x)) fun xs => ret (numUp 0 xs)
  | .zip a b => thn (evE C ρ a) fun x => thn (evE C ρ b) fun y => ofO (zipD x y)
end

inductive Flow where
  | next (ρ : Env)
  | ret (d : D)
  | brk (ρ : Env)
def forL (f : D → Env → M Flow) : List D → Env → M Flow
  | [], ρ => M.ret (.next ρ)
  | x :: xs, ρ => thn (f x ρ) fun fl => match fl with
    | .next ρ => forL f xs ρ
    | .ret d => M.ret (.ret d)
    | .brk ρ => M.ret (.next ρ)
def whlL (c : Env → M Bool) (f : Env → M Flow) : Nat → Env → M Flow
  | 0, _ => bad
  | n + 1, ρ => thn (c ρ) fun k => if k then thn (f ρ) fun fl => match fl with
    | .next ρ => whlL c f n ρ
    | .ret d => M.ret (.ret d)
    | .brk ρ => M.ret (.next ρ) else M.ret (.next ρ)
/-- a list's place is written: what stood below a frame's base takes plain data alone -/
def setCell (C : Cfg) (l : Nat) (c : Cell) (d : D) : M Unit := fun st =>
  if decide (C.base ≤ l) || d.plain then .ok () (st.set l c) else .bad
def setIx (C : Cfg) (o i d : D) : M Unit := match o, i with
  | .ref l, .int k => fun st => match st[l]? with
    | some (.lst xs) => if decide (0 ≤ k ∧ k < xs.length) then setCell C l (.lst (xs.set k.toNat d)) d st else .bad
    | _ => .bad
  | _, _ => bad
def putT (C : Cfg) (ρ : Env) (d : D) : T → M Env
  | .name i => M.ret (ρ.set i (some d))
  | .tg t => ofO (setTg t d ρ)
  | .idx o i => thn (evE C ρ o) fun x => thn (evE C ρ i) fun y => thn (setIx C x y d) fun _ => M.ret ρ
def setMany (ρ : Env) : List Nat → List D → Option Env
  | [], [] => some ρ
  | i :: is, d :: ds => setMany (ρ.set i (some d)) is ds
  | _, _ => none
/-- a mutable list stands here -/
def lstAt (o : D) : M Unit := fun st => match o with
  | .ref l => match st[l]? with
    | some (.lst _) => .ok () st
    | _ => .bad
  | _ => .bad
def appD (C : Cfg) (o d : D) : M Unit := match o with
  | .ref l => fun st => match st[l]? with
    | some (.lst xs) => if okSize (xs.length + 1) then setCell C l (.lst (xs ++ [d])) d st else .bad
    | _ => .bad
  | _ => bad
/-- a mutable list, lengthened by another -/
def extD (C : Cfg) (x y : D) : M Unit := fun st => match x, y with
  | .ref l, .ref k => match st[l]?, st[k]? with
    | some (.lst xs), some (.lst ys) => if okSize (xs.length + ys.length) && (decide (C.base ≤ l) || D.plains ys) then .ok () (st.set l (.lst (xs ++ ys))) else .bad
    | _, _ => .bad
  | _, _ => .bad
/-- which of the tests takes an error -/
def catchD (exm : Nat → Nat → Option Bool) (c : Nat) : List (Nat × D) → D → Option D
  | [], d => some d
  | (k, d') :: r, d => match exm c k with
    | some true => some d'
    | some false => catchD exm c r d
    | none => none
mutual
def exS (C : Cfg) (ρ : Env) : S → M Flow
  | .expr e => thn (evE C ρ e) fun _ => M.ret (.next ρ)
  | .asg t e => thn (evE C ρ e) fun d => thn (putT C ρ d t) fun ρ => M.ret (.next ρ)
  | .par ts es => thn (evEs C ρ es) fun ds => match setMany ρ ts ds with
    | some ρ => M.ret (.next ρ)
    | none => bad
  | .augn op i e => thn (getE ρ i) fun x => thn (evE C ρ e) fun y => match x, y with
    | .int _, .int _ => thn (ofO (binD op x y)) fun z => M.ret (.next (ρ.set i (some z)))
    | _, _ => bad
  | .app o e => thn (evE C ρ o) fun x => thn (lstAt x) fun _ => thn (evE C ρ e) fun y => thn (appD C x y) fun _ => M.ret (.next ρ)
  | .ret e => thn (evE C ρ e) fun d => M.ret (.ret d)
  | .retN => M.ret (.ret .non)
  | .pass => M.ret (.next ρ)
  | .brk => M.ret (.brk ρ)
  | .iff c a b => thn (thn (evE C ρ c) asB) fun k => if k then exSs C ρ a else exSs C ρ b
  | .for t it b => thn (evIt C ρ it) fun xs => forL (fun x ρ => match setTg t x ρ with
    | some ρ => exSs C ρ b
    | none => bad) xs ρ
  | .whl c b => whlL (fun ρ => thn (evE C ρ c) asB) (fun ρ => exSs C ρ b) C.fuel ρ
  | .raise c _ => fun st => .exc c st
  | .freeze i => thn (getE ρ i) fun x => fun st => match x with
    | .ref l => match st[l]? with
      | some (.lst xs) => .ok (.next (ρ.set i (some (.lst xs)))) (st.set l .dead)
      | some (.dct ks vs) => .ok (.next (ρ.set i (some (.dct ks vs)))) (st.set l .dead)
      | _ => .bad
    | _ => .bad
  | .augl i e => thn (getE ρ i) fun x => thn (evE C ρ e) fun y => thn (extD C x y) fun _ => M.ret (.next (ρ.set i (some x)))
  | .tryA _ b hall cs d => fun st => match exSs C ρ b st with
    | .exc c st' => (match C.exm c hall with
      | some true => (match catchD C.exm c cs d with
        | some d' => .ok (.ret d') st'
        | none => .bad)
      | some false => .exc c st'
      | none => .bad)
    | r => r
def exSs (C : Cfg) (ρ : Env) : Ss → M Flow
  | .nil => M.ret (.next ρ)
  | .cons s ss => thn (exS C ρ s) fun fl => match fl with
    | .next ρ => exSs C ρ ss
    | fl => M.ret fl
end

def Cell.plain : Cell → Bool
  | .dead => true
  | .lst xs => D.plains xs
  | .dct ks vs => D.plains ks && D.plains vs
/-- a frame is left: what it made is let go, but a result -/
def leave (n : Nat) (d : D) : M D := fun st =>
  if st.length = n then .ok d st else
  if d.plain then .ok d (st.take n) else
  match d with
  | .ref l => if l < n then .ok d (st.take n) else match st[l]? with
    | some c => if c.plain then .ok (.ref n) (st.take n ++ [c]) else .bad
    | none => .bad
  | _ => .bad
def runF (call : Nat → List D → M D) (fuel : Nat) (exm : Nat → Nat → Option Bool) (F : Fn) (args : List D) : M D := fun st =>
  if args.length = F.ps.length then
    match exSs ⟨call, st.length, fuel, exm⟩ (args.map some ++ List.replicate (F.slots.length - args.length) none) F.body st with
    | .ok (.ret d) st' => leave st.length d st'
    | .ok (.next _) st' => leave st.length .non st'
    | .ok (.brk _) _ => .bad
    | .exc c st' => .exc c (st'.take st.length)
    | .bad => .bad
  else .bad
abbrev Prog := List (Nat × Fn)
def Prog.find : Prog → Nat → Option Fn
  | [], _ => none
  | (m, F) :: r, n => if m = n then some F else Prog.find r n
def callN (P : Prog) (fuel : Nat) (exm : Nat → Nat → Option Bool) : Nat → Nat → List D → M D
  | 0, _, _ => bad
  | n + 1, f, args => match P.find f with
    | some F => runF (callN P fuel exm n) fuel exm F args
    | none => bad
end Ev
set_option linter.all false
set_option maxRecDepth 100000
/-! Ev1: how values of the small language lie in the abstract heap. -/
namespace Ev
open PySem PySem.Spec PyProof.Rows L2

/-- error classes by their numbers, and the tables of code objects -/
structure Ecl where
  on : Nat → Addr → Prop
  tb : List (Addr × Str)
instance : CoeFun Ecl fun _ => Nat → Addr → Prop := ⟨Ecl.on⟩
/-- what is fixed: the written part, the addresses of functions and of error classes -/
structure Gd where
  K : PySem.W.Frag
  fa : Nat → Addr → Prop
  ec : Ecl
  /-- lists that are being made: nobody else has them -/
  ex : List Addr

/-- live places -/
def Lv (G : Gd) (m : List Addr) (st : Store) (a : Addr) : Prop := (∃ (l : Nat) (xs : List D), st[l]? = some (.lst xs) ∧ m[l]? = some a) ∨ a ∈ G.ex
/-- no table of code objects -/
def NT (o : HO) : Prop := ∀ ps, o ≠ .tbl ps
/-- what never changes -/
def Fz (H : Hp) (L : Addr → Prop) (a : Addr) : Prop := (∃ o, H a = some o ∧ NT o) ∧ ¬ L a
theorem Fz.there {H : Hp} {L : Addr → Prop} {a : Addr} (h : Fz H L a) : ∃ o, H a = some o := let ⟨⟨o, e, _⟩, _⟩ := h; ⟨o, e⟩
theorem nt_lst (xs : List V) : NT (.lst xs) := fun ps => by simp
theorem nt_tup (xs : List V) : NT (.tup xs) := fun ps => by simp
def SqLF (K : PySem.W.Frag) (H : Hp) (L : Addr → Prop) (a : Addr) (xs : List V) : Prop := (Fz H L a ∧ SqL K H a xs) ∨ ∀ H', SqL K H' a xs
def SqTF (K : PySem.W.Frag) (H : Hp) (L : Addr → Prop) (a : Addr) (xs : List V) : Prop := (Fz H L a ∧ SqT K H a xs) ∨ ∀ H', SqT K H' a xs
theorem SqLF.now {K : PySem.W.Frag} {H : Hp} {L : Addr → Prop} {a : Addr} {xs : List V} (h : SqLF K H L a xs) : SqL K H a xs := h.elim (·.2) (· H)
theorem SqTF.now {K : PySem.W.Frag} {H : Hp} {L : Addr → Prop} {a : Addr} {xs : List V} (h : SqTF K H L a xs) : SqT K H a xs := h.elim (·.2) (· H)

/-- a table of defs by texts -/
inductive KD (fa : Nat → Addr → Prop) : List (Key × V) → List D → List D → Prop
  | nil : KD fa [] [] []
  | cons {s : Str} {f : Nat} {a : Addr} {kvs : List (Key × V)} {ks vs : List D} (h : fa f a) (r : KD fa kvs ks vs) : KD fa ((.inr s, .ref a) :: kvs) (.str s :: ks) (.fn f :: vs)
mutual
inductive Rp (G : Gd) (H : Hp) (m : List Addr) (L : Addr → Prop) : V → D → Prop
  | non : Rp G H m L .non .non
  | bl (b : Bool) : Rp G H m L (.bl b) (.bl b)
  | int (i : Int) : Rp G H m L (.int i) (.int i)
  | str (s : Str) : Rp G H m L (.str s) (.str s)
  | tup {a : Addr} {xs : List V} {ds : List D} : SqTF G.K H L a xs → RpAll G H m L xs ds → Rp G H m L (.ref a) (.tup ds)
  | lst {a : Addr} {xs : List V} {ds : List D} : SqLF G.K H L a xs → RpAll G H m L xs ds → Rp G H m L (.ref a) (.lst ds)
  | ref {a : Addr} {l : Nat} : m[l]? = some a → Rp G H m L (.ref a) (.ref l)
  | fn {a : Addr} {f : Nat} : G.fa f a → Rp G H m L (.ref a) (.fn f)
  | dct {a : Addr} {kvs : List (Key × V)} {ks vs : List D} : H a = some (.dK kvs) → Fz H L a → KD G.fa kvs ks vs → Rp G H m L (.ref a) (.dct ks vs)
inductive RpAll (G : Gd) (H : Hp) (m : List Addr) (L : Addr → Prop) : List V → List D → Prop
  | nil : RpAll G H m L [] []
  | cons {v : V} {vs : List V} {d : D} {ds : List D} : Rp G H m L v d → RpAll G H m L vs ds → RpAll G H m L (v :: vs) (d :: ds)
end

mutual
/-- refs below n -/
def D.low (n : Nat) : D → Bool
  | .tup xs => D.lows n xs
  | .lst xs => D.lows n xs
  | .dct ks vs => D.lows n ks && D.lows n vs
  | .ref l => decide (l < n)
  | _ => true
def D.lows (n : Nat) : List D → Bool
  | [] => true
  | x :: xs => D.low n x && D.lows n xs
end
def Cell.low (n : Nat) : Cell → Bool
  | .dead => true
  | .lst xs => D.lows n xs
  | .dct ks vs => D.lows n ks && D.lows n vs
mutual
theorem D.low_plain (n : Nat) : ∀ d : D, d.plain = true → d.low n = true
  | .non, _ => rfl
  | .bl _, _ => rfl
  | .int _, _ => rfl
  | .str _, _ => rfl
  | .tup xs, h => by rw [D.low]; exact D.lows_plain n xs (by simpa [D.plain] using h)
  | .lst xs, h => by rw [D.low]; exact D.lows_plain n xs (by simpa [D.plain] using h)
  | .dct ks vs, h => by
    have h' : D.plains ks = true ∧ D.plains vs = true := by simpa [D.plain] using h
    rw [D.low, D.lows_plain n ks h'.1, D.lows_plain n vs h'.2]; rfl
  | .ref _, h => by simp [D.plain] at h
  | .fn _, _ => rfl
theorem D.lows_plain (n : Nat) : ∀ xs : List D, D.plains xs = true → D.lows n xs = true
  | [], _ => rfl
  | x :: xs, h => by
    have h' : D.plain x = true ∧ D.plains xs = true := by simpa [D.plains] using h
    rw [D.lows, D.low_plain n x h'.1, D.lows_plain n xs h'.2]; rfl
end
theorem D.lows_append (n : Nat) : ∀ xs ys : List D, D.lows n (xs ++ ys) = (D.lows n xs && D.lows n ys)
  | [], ys => by simp [D.lows]
  | x :: xs, ys => by simp [D.lows, D.lows_append n xs ys, Bool.and_assoc]
theorem D.lows_set (n : Nat) (d : D) (hd : d.low n = true) : ∀ (xs : List D) (i : Nat), D.lows n xs = true → D.lows n (xs.set i d) = true
  | [], _, h => h
  | x :: xs, 0, h => by
    have h' : D.low n x = true ∧ D.lows n xs = true := by simpa [D.lows] using h
    simp [D.lows, hd, h'.2]
  | x :: xs, i + 1, h => by
    have h' : D.low n x = true ∧ D.lows n xs = true := by simpa [D.lows] using h
    simp [D.lows, h'.1, D.lows_set n d hd xs i h'.2]

section
variable {G : Gd} {H H' : Hp} {m m' : List Addr} {L L' : Addr → Prop}
mutual
theorem Rp.mono (hk : ∀ a, Fz H L a → H' a = H a ∧ ¬ L' a) (hm : ∀ (l : Nat) (a : Addr), m[l]? = some a → m'[l]? = some a) : ∀ {v : V} {d : D}, Rp G H m L v d → Rp G H' m' L' v d
  | _, _, .non => .non
  | _, _, .bl b => .bl b
  | _, _, .int i => .int i
  | _, _, .str s => .str s
  | _, _, .tup h hs => .tup (h.elim (fun ⟨f, q⟩ => .inl ⟨⟨by rw [(hk _ f).1]; exact f.1, (hk _ f).2⟩, by
      have e := (hk _ f).1
      rcases q with q | q
      · exact .inl (by unfold Rd at q ⊢; rw [e]; exact q)
      · exact .inr q⟩) .inr) (RpAll.mono hk hm hs)
  | _, _, .lst h hs => .lst (h.elim (fun ⟨f, q⟩ => .inl ⟨⟨by rw [(hk _ f).1]; exact f.1, (hk _ f).2⟩, by
      have e := (hk _ f).1
      rcases q with q | q
      · exact .inl (by unfold Rd at q ⊢; rw [e]; exact q)
      · exact .inr q⟩) .inr) (RpAll.mono hk hm hs)
  | _, _, .ref h => .ref (hm _ _ h)
  | _, _, .fn h => .fn h
  | _, _, .dct e f k => .dct (by rw [(hk _ f).1]; exact e) ⟨by rw [(hk _ f).1]; exact f.1, (hk _ f).2⟩ k
theorem RpAll.mono (hk : ∀ a, Fz H L a → H' a = H a ∧ ¬ L' a) (hm : ∀ (l : Nat) (a : Addr), m[l]? = some a → m'[l]? = some a) : ∀ {vs : List V} {ds : List D}, RpAll G H m L vs ds → RpAll G H' m' L' vs ds
  | _, _, .nil => .nil
  | _, _, .cons h hs => .cons (Rp.mono hk hm h) (RpAll.mono hk hm hs)
end
mutual
/-- places below n: of a shorter map -/
theorem Rp.cut {n : Nat} : ∀ {v : V} {d : D}, d.low n = true → Rp G H m L v d → Rp G H (m.take n) L v d
  | _, _, _, .non => .non
  | _, _, _, .bl b => .bl b
  | _, _, _, .int i => .int i
  | _, _, _, .str s => .str s
  | _, _, hb, .tup h hs => .tup h (RpAll.cut (by simpa [D.low] using hb) hs)
  | _, _, hb, .lst h hs => .lst h (RpAll.cut (by simpa [D.low] using hb) hs)
  | _, _, hb, .ref h => .ref (by
      have hb' := of_decide_eq_true (show decide _ = true from hb)
      rw [List.getElem?_take, if_pos hb']; exact h)
  | _, _, _, .fn h => .fn h
  | _, _, _, .dct e f k => .dct e f k
theorem RpAll.cut {n : Nat} : ∀ {vs : List V} {ds : List D}, D.lows n ds = true → RpAll G H m L vs ds → RpAll G H (m.take n) L vs ds
  | _, _, _, .nil => .nil
  | _, _, hb, .cons h hs => by
    have hb' := Bool.and_eq_true_iff.mp (show (D.low n _ && D.lows n _) = true from hb)
    exact .cons (Rp.cut hb'.1 h) (RpAll.cut hb'.2 hs)
end
theorem KD.low {fa : Nat → Addr → Prop} (n : Nat) {kvs : List (Key × V)} {ks vs : List D} (h : KD fa kvs ks vs) : D.lows n ks = true ∧ D.lows n vs = true := by
  induction h with
  | nil => exact ⟨rfl, rfl⟩
  | cons h r ih =>
    constructor
    · rw [D.lows, ih.1]; rfl
    · rw [D.lows, ih.2]; rfl
mutual
theorem Rp.low : ∀ {v : V} {d : D}, Rp G H m L v d → d.low m.length = true
  | _, _, .non => rfl
  | _, _, .bl b => rfl
  | _, _, .int i => rfl
  | _, _, .str s => rfl
  | _, _, .tup h hs => by rw [D.low]; exact RpAll.low hs
  | _, _, .lst h hs => by rw [D.low]; exact RpAll.low hs
  | _, _, .ref h => decide_eq_true (List.getElem?_eq_some_iff.mp h).1
  | _, _, .fn h => rfl
  | _, _, .dct e f k => by rw [D.low, (KD.low m.length k).1, (KD.low m.length k).2]; rfl
theorem RpAll.low : ∀ {vs : List V} {ds : List D}, RpAll G H m L vs ds → D.lows m.length ds = true
  | _, _, .nil => rfl
  | _, _, .cons h hs => by rw [D.lows, Rp.low h, RpAll.low hs]; rfl
end
theorem RpAll.length : ∀ {vs : List V} {ds : List D}, RpAll G H m L vs ds → vs.length = ds.length
  | _, _, .nil => rfl
  | _, _, .cons _ hs => by simp [RpAll.length hs]
theorem RpAll.append : ∀ {vs ws : List V} {ds es : List D}, RpAll G H m L vs ds → RpAll G H m L ws es → RpAll G H m L (vs ++ ws) (ds ++ es)
  | _, _, _, _, .nil, h => h
  | _, _, _, _, .cons h hs, h' => .cons h (RpAll.append hs h')
theorem RpAll.get : ∀ {vs : List V} {ds : List D} {i : Nat} {d : D}, RpAll G H m L vs ds → ds[i]? = some d → ∃ v, vs[i]? = some v ∧ Rp G H m L v d
  | _, _, _, _, .nil, e => by simp at e
  | _, _, 0, _, .cons h _, e => by simp at e; subst e; exact ⟨_, rfl, h⟩
  | _, _, i + 1, d, .cons _ hs, e => by
    obtain ⟨v, h1, h2⟩ := RpAll.get (i := i) (d := d) hs (by simpa using e)
    exact ⟨v, by simpa using h1, h2⟩
theorem RpAll.set {v : V} {d : D} (h : Rp G H m L v d) : ∀ {vs : List V} {ds : List D} (i : Nat), RpAll G H m L vs ds → RpAll G H m L (vs.set i v) (ds.set i d)
  | _, _, _, .nil => .nil
  | _, _, 0, .cons _ hs => .cons h hs
  | _, _, i + 1, .cons h' hs => .cons h' (RpAll.set h i hs)
theorem RpAll.take : ∀ {vs : List V} {ds : List D} (n : Nat), RpAll G H m L vs ds → RpAll G H m L (vs.take n) (ds.take n)
  | _, _, 0, _ => by simp; exact .nil
  | _, _, _ + 1, .nil => .nil
  | _, _, n + 1, .cons h hs => .cons h (RpAll.take n hs)
theorem RpAll.drop : ∀ {vs : List V} {ds : List D} (n : Nat), RpAll G H m L vs ds → RpAll G H m L (vs.drop n) (ds.drop n)
  | _, _, 0, h => h
  | _, _, _ + 1, .nil => .nil
  | _, _, n + 1, .cons _ hs => RpAll.drop n hs
end

/-- what a cell holds -/
def CellR (G : Gd) (H : Hp) (m : List Addr) (L : Addr → Prop) (a : Addr) : Cell → Prop
  | .dead => True
  | .lst ds => ∃ xs, H a = some (.lst xs) ∧ RpAll G H m L xs ds
  | .dct _ _ => False
structure Sim (G : Gd) (H : Hp) (m : List Addr) (st : Store) : Prop where
  len : m.length = st.length
  nd : m.Nodup
  dom : ∀ a ∈ m, ∃ o, H a = some o
  cell : ∀ (l : Nat) (c : Cell) (a : Addr), st[l]? = some c → m[l]? = some a → CellR G H m (Lv G m st) a c
  res : ∀ a ∈ G.ex, (∃ o, H a = some o) ∧ a ∉ m
  nt : ∀ a, a ∈ m ∨ a ∈ G.ex → ∃ xs, H a = some (.lst xs)
  tab : LamX.Tabs G.ec.tb H
/-- tables stay tables, where all but lists stay -/
theorem tabs_of {T : List (Addr × Str)} {H H' : Hp} (t : LamX.Tabs T H) (e : ∀ b o, H b = some o → (∀ xs, o ≠ .lst xs) → H' b = some o) : LamX.Tabs T H' := fun p hp => by
  obtain ⟨ps, h1, h2, h3⟩ := t p hp
  refine ⟨ps, e _ _ h1 (fun xs => by simp), h2, fun pos cv hc => ?_⟩
  obtain ⟨c, e1, e2⟩ := h3 pos cv hc
  exact ⟨c, e1, e _ _ e2 fun xs z => by
    unfold LamX.CodeO at z
    cases z⟩
theorem tabs_new {T : List (Addr × Str)} {H : Hp} {p : Addr} {o : HO} (t : LamX.Tabs T H) (hp : H p = none) : LamX.Tabs T (upd H p o) := tabs_of t fun b u e _ => by
  have n : b ≠ p := fun z => by rw [z, hp] at e; cases e
  rw [upd_ne n]; exact e
theorem tabs_wr {T : List (Addr × Str)} {H : Hp} {p : Addr} {o : HO} {xs : List V} (t : LamX.Tabs T H) (hp : H p = some (.lst xs)) : LamX.Tabs T (upd H p o) := tabs_of t fun b u e n => by
  have n : b ≠ p := fun z => by rw [z, hp] at e; cases e; exact n xs rfl
  rw [upd_ne n]; exact e
structure Ext (G : Gd) (b : Nat) (H : Hp) (m : List Addr) (st : Store) (H' : Hp) (m' : List Addr) (st' : Store) : Prop where
  keep : ∀ a, Fz H (Lv G m st) a → H' a = H a ∧ ¬ Lv G m' st' a
  pre : ∀ (l : Nat) (a : Addr), m[l]? = some a → m'[l]? = some a
  res : ∀ a ∈ G.ex, H' a = H a
  low : ∀ (l n : Nat) (c c' : Cell), l < b → st[l]? = some c → st'[l]? = some c' → c.low n = true → c'.low n = true
structure EnvR (G : Gd) (H : Hp) (m : List Addr) (st : Store) (σ : List (Option V)) (ρ : Env) : Prop where
  len : σ.length = ρ.length
  at_ : ∀ (i : Nat) (d : D), ρ[i]? = some (some d) → ∃ v, σ[i]? = some (some v) ∧ Rp G H m (Lv G m st) v d

section
variable {G : Gd} {b : Nat} {H H' H'' : Hp} {m m' m'' : List Addr} {st st' st'' : Store} {σ : List (Option V)} {ρ : Env}
theorem Rp.ext {v : V} {d : D} (e : Ext G b H m st H' m' st') (h : Rp G H m (Lv G m st) v d) : Rp G H' m' (Lv G m' st') v d := h.mono e.keep e.pre
theorem RpAll.ext {vs : List V} {ds : List D} (e : Ext G b H m st H' m' st') (h : RpAll G H m (Lv G m st) vs ds) : RpAll G H' m' (Lv G m' st') vs ds := h.mono e.keep e.pre
theorem EnvR.ext (e : Ext G b H m st H' m' st') (h : EnvR G H m st σ ρ) : EnvR G H' m' st' σ ρ :=
  ⟨h.len, fun i d q => let ⟨v, h1, h2⟩ := h.at_ i d q; ⟨v, h1, h2.ext e⟩⟩
theorem Ext.refl : Ext G b H m st H m st := ⟨fun _ f => ⟨rfl, f.2⟩, fun _ _ h => h, fun _ _ => rfl, fun l n c c' _ h1 h2 h3 => by rw [h1] at h2; cases h2; exact h3⟩
theorem Fz.ext {a : Addr} (e : Ext G b H m st H' m' st') (f : Fz H (Lv G m st) a) : Fz H' (Lv G m' st') a := ⟨by rw [(e.keep a f).1]; exact f.1, (e.keep a f).2⟩
theorem Ext.trans (hl : st.length ≤ st'.length) (e : Ext G b H m st H' m' st') (e' : Ext G b H' m' st' H'' m'' st'') : Ext G b H m st H'' m'' st'' :=
  ⟨fun a f => ⟨((e'.keep a (f.ext e)).1).trans (e.keep a f).1, (e'.keep a (f.ext e)).2⟩, fun l a h => e'.pre l a (e.pre l a h), fun a h => (e'.res a h).trans (e.res a h), fun l n c c'' hb h1 h2 h3 => by
    have hl' : l < st'.length := Nat.lt_of_lt_of_le (List.getElem?_eq_some_iff.mp h1).1 hl
    exact e'.low l n st'[l] c'' hb (List.getElem?_eq_getElem hl') h2 (e.low l n c _ hb h1 (List.getElem?_eq_getElem hl') h3)⟩
theorem Ext.length (s : Sim G H m st) (s' : Sim G H' m' st') (e : Ext G b H m st H' m' st') : st.length ≤ st'.length := by
  rw [← s.len, ← s'.len]
  cases q : m.length with
  | zero => exact Nat.zero_le _
  | succ k =>
    have hk : k < m.length := by omega
    have h := e.pre k m[k] (List.getElem?_eq_getElem hk)
    exact (List.getElem?_eq_some_iff.mp h).1
theorem Ext.base {b' : Nat} (hb : b' ≤ b) (e : Ext G b H m st H' m' st') : Ext G b' H m st H' m' st' := ⟨e.keep, e.pre, e.res, fun l n c c' h => e.low l n c c' (Nat.lt_of_lt_of_le h hb)⟩
theorem Sim.live_dom (s : Sim G H m st) {a : Addr} (h : Lv G m st a) : ∃ o, H a = some o := by
  rcases h with ⟨l, ds, h1, h2⟩ | h
  · obtain ⟨xs, h3, _⟩ := s.cell l _ a h1 h2
    exact ⟨_, h3⟩
  · exact (s.res a h).1
theorem Sim.addr (s : Sim G H m st) {l : Nat} {c : Cell} (h : st[l]? = some c) : ∃ a, m[l]? = some a := by
  have : l < m.length := by rw [s.len]; exact (List.getElem?_eq_some_iff.mp h).1
  exact ⟨m[l], List.getElem?_eq_getElem this⟩

/-- a new object, frozen -/
theorem Sim.new (s : Sim G H m st) {p : Addr} (hp : H p = none) (o : HO) (ho : NT o := by intro ps; simp) : Sim G (upd H p o) m st ∧ Ext G b H m st (upd H p o) m st ∧ Fz (upd H p o) (Lv G m st) p := by
  have ne : ∀ a, (∃ u, H a = some u) → a ≠ p := fun a ⟨u, h⟩ => ne_of_none h hp
  have nl : ¬ Lv G m st p := fun h => by
    obtain ⟨xs, e⟩ := s.live_dom h
    rw [hp] at e; cases e
  have E : Ext G b H m st (upd H p o) m st := ⟨fun a f => ⟨upd_ne (ne a f.there), f.2⟩, fun _ _ h => h, fun a h => upd_ne (ne a (s.res a h).1), fun l n c c' _ h1 h2 h3 => by rw [h1] at h2; cases h2; exact h3⟩
  refine ⟨⟨s.len, s.nd, fun a h => ?_, fun l c a h1 h2 => ?_, fun a h => ⟨by rw [upd_ne (ne a (s.res a h).1)]; exact (s.res a h).1, (s.res a h).2⟩, fun a h => by
    rw [upd_ne (ne a (h.elim (s.dom a) fun h => (s.res a h).1))]; exact s.nt a h, tabs_new s.tab hp⟩, E, ⟨⟨o, upd_same, ho⟩, nl⟩⟩
  · rw [upd_ne (ne a (s.dom a h))]; exact s.dom a h
  · have h := s.cell l c a h1 h2
    cases c with
    | dead => trivial
    | lst ds =>
      obtain ⟨xs, e, r⟩ := h
      exact ⟨xs, by rw [upd_ne (ne a ⟨_, e⟩)]; exact e, r.ext E⟩
    | dct _ _ => exact h
theorem nodup_snoc {α : Type} {l : List α} {x : α} (h : l.Nodup) (hx : x ∉ l) : (l ++ [x]).Nodup := by
  rw [List.nodup_append]
  exact ⟨h, by simp, fun a ha c hc e => by simp at hc; subst hc; subst e; exact hx ha⟩
/-- a new mutable list -/
theorem Sim.alloc (s : Sim G H m st) {p : Addr} (hp : H p = none) {xs : List V} {ds : List D} (r : RpAll G H m (Lv G m st) xs ds) :
    Sim G (upd H p (.lst xs)) (m ++ [p]) (st ++ [.lst ds]) ∧ Ext G b H m st (upd H p (.lst xs)) (m ++ [p]) (st ++ [.lst ds]) := by
  have ne : ∀ a, (∃ u, H a = some u) → a ≠ p := fun a ⟨u, h⟩ => ne_of_none h hp
  have lv : ∀ a, Lv G (m ++ [p]) (st ++ [.lst ds]) a → Lv G m st a ∨ a = p := fun a h => by
    rcases h with ⟨l, zs, h1, h2⟩ | h
    case inr => exact .inl (.inr h)
    by_cases hl : l < st.length
    · exact .inl <| .inl ⟨l, zs, by rw [List.getElem?_append_left hl] at h1; exact h1, by rw [List.getElem?_append_left (by rw [s.len]; exact hl)] at h2; exact h2⟩
    · right
      have hl' : m.length ≤ l := by rw [s.len]; omega
      rw [List.getElem?_append_right hl'] at h2
      cases q : l - m.length with
      | zero => rw [q] at h2; simp at h2; exact h2.symm
      | succ k => rw [q] at h2; simp at h2
  have E : Ext G b H m st (upd H p (.lst xs)) (m ++ [p]) (st ++ [.lst ds]) := by
    refine ⟨fun a f => ⟨upd_ne (ne a f.there), fun h => (lv a h).elim f.2 fun e => ne a f.there e⟩, fun l a h => ?_, fun a h => upd_ne (ne a (s.res a h).1), fun l n c c' _ h1 h2 h3 => ?_⟩
    · rw [List.getElem?_append_left (List.getElem?_eq_some_iff.mp h).1]; exact h
    · rw [List.getElem?_append_left (List.getElem?_eq_some_iff.mp h1).1, h1] at h2; cases h2; exact h3
  refine ⟨⟨by simp [s.len], nodup_snoc s.nd fun h => ?_, fun a h => ?_, fun l c a h1 h2 => ?_, fun a h => ⟨by rw [upd_ne (ne a (s.res a h).1)]; exact (s.res a h).1, fun q => (List.mem_append.mp q).elim (s.res a h).2 fun q => ne a (s.res a h).1 (by simpa using q)⟩, fun a h => ?_, tabs_new s.tab hp⟩, E⟩
  · obtain ⟨o, e⟩ := s.dom p h
    rw [hp] at e; cases e
  · rcases List.mem_append.mp h with h | h
    · rw [upd_ne (ne a (s.dom a h))]; exact s.dom a h
    · simp at h; subst h; exact ⟨_, upd_same⟩
  · by_cases hl : l < st.length
    · rw [List.getElem?_append_left hl] at h1
      rw [List.getElem?_append_left (by rw [s.len]; exact hl)] at h2
      have h := s.cell l c a h1 h2
      cases c with
      | dead => trivial
      | lst zs =>
        obtain ⟨ys, e, r'⟩ := h
        exact ⟨ys, by rw [upd_ne (ne a ⟨_, e⟩)]; exact e, r'.ext E⟩
      | dct _ _ => exact h
    · have hl' : m.length ≤ l := by rw [s.len]; omega
      rw [List.getElem?_append_right (by omega)] at h1
      rw [List.getElem?_append_right hl'] at h2
      rw [s.len] at h2
      cases q : l - st.length with
      | zero =>
        rw [q] at h1 h2
        simp at h1 h2
        subst h1; subst h2
        exact ⟨xs, upd_same, r.ext E⟩
      | succ k => rw [q] at h1; simp at h1
  · by_cases e : a = p
    · rw [e, upd_same]; exact ⟨_, rfl⟩
    · rw [upd_ne e]
      refine s.nt a (h.imp (fun h => ?_) id)
      rcases List.mem_append.mp h with h | h
      · exact h
      · exact absurd (by simpa using h) e
/-- a mutable list is written -/
theorem Sim.write (s : Sim G H m st) {l : Nat} {a : Addr} {ds es : List D} {ys : List V} (h1 : st[l]? = some (.lst ds)) (h2 : m[l]? = some a) (r : RpAll G H m (Lv G m st) ys es)
    (hb : l < b → ∀ n, D.lows n ds = true → D.lows n es = true) :
    Sim G (upd H a (.lst ys)) m (st.set l (.lst es)) ∧ Ext G b H m st (upd H a (.lst ys)) m (st.set l (.lst es)) := by
  have hl : l < st.length := (List.getElem?_eq_some_iff.mp h1).1
  have lv : ∀ c, Lv G m (st.set l (.lst es)) c → Lv G m st c := fun c h => by
    rcases h with ⟨k, zs, g1, g2⟩ | h
    case inr => exact .inr h
    by_cases e : k = l
    · subst e; exact .inl ⟨k, ds, h1, g2⟩
    · rw [List.getElem?_set_ne (Ne.symm e)] at g1; exact .inl ⟨k, zs, g1, g2⟩
  have vl : Lv G m st a := .inl ⟨l, ds, h1, h2⟩
  have am : a ∈ m := List.mem_of_getElem? h2
  have E : Ext G b H m st (upd H a (.lst ys)) m (st.set l (.lst es)) := by
    refine ⟨fun c f => ⟨upd_ne fun e => f.2 (e ▸ vl), fun h => f.2 (lv c h)⟩, fun _ _ h => h, fun c h => upd_ne fun e => (s.res c h).2 (e ▸ am), fun k n c c' hk g1 g2 g3 => ?_⟩
    by_cases e : k = l
    · subst e
      rw [List.getElem?_set_self hl] at g2
      cases g2
      rw [h1] at g1; cases g1
      exact hb hk n g3
    · rw [List.getElem?_set_ne (Ne.symm e), g1] at g2; cases g2; exact g3
  refine ⟨⟨by rw [List.length_set]; exact s.len, s.nd, fun c h => ?_, fun k c a' g1 g2 => ?_, fun c h => ⟨by
    have nc : c ≠ a := fun e => (s.res c h).2 (by rw [e]; exact am)
    rw [upd_ne nc]; exact (s.res c h).1, (s.res c h).2⟩, fun c h => by
    by_cases e : c = a
    · rw [e, upd_same]; exact ⟨_, rfl⟩
    · rw [upd_ne e]; exact s.nt c h, by
    obtain ⟨xs, e, _⟩ := s.cell l _ a h1 h2
    exact tabs_wr s.tab e⟩, E⟩
  · by_cases e : c = a
    · subst e; exact ⟨_, upd_same⟩
    · rw [upd_ne e]; exact s.dom c h
  · by_cases e : k = l
    · subst e
      rw [List.getElem?_set_self hl] at g1
      cases g1
      rw [h2] at g2; cases g2
      exact ⟨ys, upd_same, r.ext E⟩
    · rw [List.getElem?_set_ne (Ne.symm e)] at g1
      have h := s.cell k c a' g1 g2
      have na : a' ≠ a := fun q => by
        subst q
        obtain ⟨i1, e1⟩ := List.getElem?_eq_some_iff.mp g2
        obtain ⟨i2, e2⟩ := List.getElem?_eq_some_iff.mp h2
        exact e ((List.getElem_inj s.nd).mp (e1.trans e2.symm))
      cases c with
      | dead => trivial
      | lst zs =>
        obtain ⟨ws, e', r'⟩ := h
        exact ⟨ws, by rw [upd_ne na]; exact e', r'.ext E⟩
      | dct _ _ => exact h
/-- a mutable list is frozen -/
theorem Sim.freeze (s : Sim G H m st) {l : Nat} {a : Addr} {ds : List D} (h1 : st[l]? = some (.lst ds)) (h2 : m[l]? = some a) :
    Sim G H m (st.set l .dead) ∧ Ext G b H m st H m (st.set l .dead) ∧ Rp G H m (Lv G m (st.set l .dead)) (.ref a) (.lst ds) := by
  have hl : l < st.length := (List.getElem?_eq_some_iff.mp h1).1
  have lv : ∀ c, Lv G m (st.set l .dead) c → Lv G m st c ∧ c ≠ a := fun c h => by
    rcases h with ⟨k, zs, g1, g2⟩ | h
    case inr => exact ⟨.inr h, fun e => (s.res c h).2 (e ▸ List.mem_of_getElem? h2)⟩
    by_cases e : k = l
    · subst e; rw [List.getElem?_set_self hl] at g1; cases g1
    · rw [List.getElem?_set_ne (Ne.symm e)] at g1
      refine ⟨.inl ⟨k, zs, g1, g2⟩, fun q => ?_⟩
      subst q
      obtain ⟨i1, e1⟩ := List.getElem?_eq_some_iff.mp g2
      obtain ⟨i2, e2⟩ := List.getElem?_eq_some_iff.mp h2
      exact e ((List.getElem_inj s.nd).mp (e1.trans e2.symm))
  have E : Ext G b H m st H m (st.set l .dead) := by
    refine ⟨fun c f => ⟨rfl, fun h => f.2 (lv c h).1⟩, fun _ _ h => h, fun _ _ => rfl, fun k n c c' hk g1 g2 g3 => ?_⟩
    by_cases e : k = l
    · subst e; rw [List.getElem?_set_self hl] at g2; cases g2; rfl
    · rw [List.getElem?_set_ne (Ne.symm e), g1] at g2; cases g2; exact g3
  obtain ⟨xs, ex, r⟩ := s.cell l _ a h1 h2
  refine ⟨⟨by rw [List.length_set]; exact s.len, s.nd, s.dom, fun k c a' g1 g2 => ?_, s.res, s.nt, s.tab⟩, E, .lst (.inl ⟨⟨⟨_, ex, nt_lst _⟩, fun h => (lv a h).2 rfl⟩, SqL.of ex⟩) (r.ext E)⟩
  by_cases e : k = l
  · subst e; rw [List.getElem?_set_self hl] at g1; cases g1; trivial
  · rw [List.getElem?_set_ne (Ne.symm e)] at g1
    have h := s.cell k c a' g1 g2
    cases c with
    | dead => trivial
    | lst zs =>
      obtain ⟨ws, e', r'⟩ := h
      exact ⟨ws, e', r'.ext E⟩
    | dct _ _ => exact h
end
end Ev
set_option linter.all false
set_option maxRecDepth 100000
/-! Ev2: operations on values keep what the small language says. -/
namespace Ev
open PySem PySem.Spec PyProof.Rows L2

/-- what must hold behind a run of the small language -/
def After (G : Gd) (b : Nat) (H : Hp) (m : List Addr) (st : Store) (W : Nat → Hp → Prop) {α : Type} (R : Hp → List Addr → Store → α → Prop) : Res α → Prop
  | .ok d st' => ∀ H' m', Sim G H' m' st' → Ext G b H m st H' m' st' → R H' m' st' d
  | .exc c st' => ∀ H' m', Sim G H' m' st' → Ext G b H m st H' m' st' → W c H'
  | .bad => False
section
variable {G : Gd} {b : Nat} {H H' : Hp} {m m' : List Addr} {st st' : Store} {W : Nat → Hp → Prop} {α β : Type} {R : Hp → List Addr → Store → β → Prop}
theorem After.mono {R' : Hp → List Addr → Store → β → Prop} {W' : Nat → Hp → Prop} {r : Res β} (h : After G b H m st W R r) (hr : ∀ H' m' st' d, Sim G H' m' st' → Ext G b H m st H' m' st' → R H' m' st' d → R' H' m' st' d) (hw : ∀ c H', W c H' → W' c H') : After G b H m st W' R' r := by
  cases r with
  | ok d st' => exact fun H' m' s e => hr H' m' st' d s e (h H' m' s e)
  | exc c st' => exact fun H' m' s e => hw _ _ (h H' m' s e)
  | bad => exact h
/-- from a later state -/
theorem After.from {r : Res β} (s : Sim G H m st) (s' : Sim G H' m' st') (e : Ext G b H m st H' m' st') (h : After G b H m st W R r) : After G b H' m' st' W R r := by
  cases r with
  | ok d st'' => exact fun H'' m'' s'' e' => h H'' m'' s'' (e.trans (e.length s s') e')
  | exc c st'' => exact fun H'' m'' s'' e' => h H'' m'' s'' (e.trans (e.length s s') e')
  | bad => exact h
theorem After.thn {x : M α} {f : α → M β} (s : Sim G H m st) (h : After G b H m st W R (M.thn x f st)) :
    After G b H m st W (fun H' m' st' a => After G b H' m' st' W R (f a st')) (x st) := by
  have e : M.thn x f st = (match x st with | .ok a st' => f a st' | .exc c st' => .exc c st' | .bad => .bad) := rfl
  rw [e] at h
  cases q : x st with
  | ok a st' => rw [q] at h; exact fun H' m' s' e => h.from s s' e
  | exc c st' => rw [q] at h; exact h
  | bad => rw [q] at h; exact h
end

/-- an expression's reading by the small language -/
def tE (G : Gd) (b : Nat) (W : WX) (f : Env → M D) : TE := fun σ H Q => ∃ ρ m st, EnvR G H m st σ ρ ∧ Sim G H m st ∧
  After G b H m st (fun c H' => ∀ a, G.ec c a → W (.ref a) none σ H') (fun H' m' st' d => ∀ v, Rp G H' m' (Lv G m' st') v d → Q v H') (f ρ st)
/-- a test's -/
def tB (G : Gd) (b : Nat) (W : WX) (f : Env → M Bool) : TT := fun σ H Q => ∃ ρ m st, EnvR G H m st σ ρ ∧ Sim G H m st ∧
  After G b H m st (fun c H' => ∀ a, G.ec c a → W (.ref a) none σ H') (fun H' m' st' k => Q k H') (f ρ st)
/-- arguments' -/
def tEs (G : Gd) (b : Nat) (W : WX) (f : Env → M (List D)) : TA := fun σ H Q => ∃ ρ m st, EnvR G H m st σ ρ ∧ Sim G H m st ∧
  After G b H m st (fun c H' => ∀ a, G.ec c a → W (.ref a) none σ H') (fun H' m' st' ds => ∀ vs, RpAll G H' m' (Lv G m' st') vs ds → Q vs H') (f ρ st)
/-- what stands behind a first part -/
def Then (G : Gd) (b : Nat) (W : WX) (σ : L2.St) {α β : Type} (R : Hp → List Addr → Store → β → Prop) (rel : Hp → List Addr → Store → α → Prop) (g : Env → α → M β) (H : Hp) : Prop :=
  ∃ ρ m st d, EnvR G H m st σ ρ ∧ Sim G H m st ∧ rel H m st d ∧ After G b H m st (fun c H' => ∀ a, G.ec c a → W (.ref a) none σ H') R (g ρ d st)
section
variable {G : Gd} {b : Nat} {W : WX} {σ : L2.St} {H : Hp}
theorem After.first {α β : Type} {R : Hp → List Addr → Store → β → Prop} {f : Env → M α} {g : Env → α → M β} {ρ : Env} {m : List Addr} {st : Store} (rel : Hp → List Addr → Store → α → Prop) (er : EnvR G H m st σ ρ) (s : Sim G H m st)
    (h : After G b H m st (fun c H' => ∀ a, G.ec c a → W (.ref a) none σ H') R (M.thn (f ρ) (g ρ) st)) :
    After G b H m st (fun c H' => ∀ a, G.ec c a → W (.ref a) none σ H') (fun H' m' st' d => rel H' m' st' d → Then G b W σ R rel g H') (f ρ st) :=
  (h.thn s).mono (fun H' m' st' d s' e h r => ⟨ρ, m', st', d, er.ext e, s', r, h⟩) fun _ _ h => h
/-- first an expression -/
theorem tE.first {β : Type} {R : Hp → List Addr → Store → β → Prop} {f : Env → M D} {g : Env → D → M β} {ρ : Env} {m : List Addr} {st : Store} (er : EnvR G H m st σ ρ) (s : Sim G H m st)
    (h : After G b H m st (fun c H' => ∀ a, G.ec c a → W (.ref a) none σ H') R (M.thn (f ρ) (g ρ) st)) :
    tE G b W f σ H (fun v H' => Then G b W σ R (fun H m st d => Rp G H m (Lv G m st) v d) g H') :=
  ⟨ρ, m, st, er, s, (h.thn s).mono (fun H' m' st' d s' e h v r => ⟨ρ, m', st', d, er.ext e, s', r, h⟩) fun _ _ h => h⟩
theorem tB.first {β : Type} {R : Hp → List Addr → Store → β → Prop} {f : Env → M Bool} {g : Env → Bool → M β} {ρ : Env} {m : List Addr} {st : Store} (er : EnvR G H m st σ ρ) (s : Sim G H m st)
    (h : After G b H m st (fun c H' => ∀ a, G.ec c a → W (.ref a) none σ H') R (M.thn (f ρ) (g ρ) st)) :
    tB G b W f σ H (fun k H' => Then G b W σ R (fun H m st d => d = k) g H') :=
  ⟨ρ, m, st, er, s, (h.thn s).mono (fun H' m' st' d s' e h => ⟨ρ, m', st', d, er.ext e, s', rfl, h⟩) fun _ _ h => h⟩
theorem tEs.first {β : Type} {R : Hp → List Addr → Store → β → Prop} {f : Env → M (List D)} {g : Env → List D → M β} {ρ : Env} {m : List Addr} {st : Store} (er : EnvR G H m st σ ρ) (s : Sim G H m st)
    (h : After G b H m st (fun c H' => ∀ a, G.ec c a → W (.ref a) none σ H') R (M.thn (f ρ) (g ρ) st)) :
    tEs G b W f σ H (fun vs H' => Then G b W σ R (fun H m st d => RpAll G H m (Lv G m st) vs d) g H') :=
  ⟨ρ, m, st, er, s, (h.thn s).mono (fun H' m' st' d s' e h v r => ⟨ρ, m', st', d, er.ext e, s', r, h⟩) fun _ _ h => h⟩
end

/-! ### reading -/
/-- a value that may be read as d -/
def Rv (G : Gd) (H : Hp) (m : List Addr) (L : Addr → Prop) (v : V) : D → Prop
  | .lst ds => ∃ a xs, v = .ref a ∧ SqL G.K H a xs ∧ RpAll G H m L xs ds
  | d => Rp G H m L v d
section
variable {G : Gd} {b : Nat} {H : Hp} {m : List Addr} {L : Addr → Prop} {st : Store} {v w : V} {d : D}
theorem Rp.rv (h : Rp G H m L v d) : Rv G H m L v d := by
  cases d with
  | lst ds =>
    cases h with
    | lst g hs => exact ⟨_, _, rfl, g.now, hs⟩
  | _ => exact h
theorem view_lst {l : Nat} {ds : List D} (h : st[l]? = some (.lst ds)) : view st (.ref l) = .lst ds := by simp [view, h]
theorem view_dead {l : Nat} (h : st[l]? = some .dead) : view st (.ref l) = .ref l := by simp [view, h]
theorem view_none {l : Nat} (h : st[l]? = none) : view st (.ref l) = .ref l := by simp [view, h]
theorem view_ok (s : Sim G H m st) (h : Rp G H m (Lv G m st) v d) : Rv G H m (Lv G m st) v (view st d) := by
  cases d with
  | ref l =>
    cases h with
    | ref hm =>
      cases q : st[l]? with
      | none => rw [view_none q]; exact Rp.ref hm
      | some c =>
        cases c with
        | dead => rw [view_dead q]; exact Rp.ref hm
        | lst ds =>
          obtain ⟨xs, e, r⟩ := s.cell l _ _ q hm
          rw [view_lst q]
          exact ⟨_, xs, rfl, SqL.of e, r⟩
        | dct ks vs => exact (s.cell l _ _ q hm).elim
  | _ => exact h.rv
theorem Rv.tup {ds : List D} (h : Rv G H m L v (.tup ds)) : ∃ a xs, v = .ref a ∧ SqT G.K H a xs ∧ RpAll G H m L xs ds := by
  have h' : Rp G H m L v (.tup ds) := h
  cases h' with
  | tup g hs => exact ⟨_, _, rfl, g.now, hs⟩
theorem Rv.int {i : Int} (h : Rv G H m L v (.int i)) : v = .int i := by
  have h' : Rp G H m L v (.int i) := h
  cases h'; rfl
theorem Rv.str {i : Str} (h : Rv G H m L v (.str i)) : v = .str i := by
  have h' : Rp G H m L v (.str i) := h
  cases h'; rfl
theorem Rv.bl {i : Bool} (h : Rv G H m L v (.bl i)) : v = .bl i := by
  have h' : Rp G H m L v (.bl i) := h
  cases h'; rfl
theorem Rv.non (h : Rv G H m L v .non) : v = .non := by
  have h' : Rp G H m L v .non := h
  cases h'; rfl
mutual
theorem Rp.dp : ∀ {v : V} {d : D} {p : PyData}, Rp G H m L v d → d.toPy = some p → Dp G.K H v p
  | _, _, _, .non, e => by cases e; exact .non
  | _, _, _, .bl b, e => by cases e; exact .bl b
  | _, _, _, .int i, e => by cases e; exact .int i
  | _, _, _, .str s, e => by cases e; exact .str s
  | _, _, _, .tup h hs, e => by
    obtain ⟨ps, e1, e2⟩ := Option.map_eq_some_iff.mp (show (D.toPys _).map PyData.tuple = some _ from e)
    subst e2
    exact .tup h.now (RpAll.dp hs e1)
  | _, _, _, .lst h hs, e => by
    obtain ⟨ps, e1, e2⟩ := Option.map_eq_some_iff.mp (show (D.toPys _).map PyData.list = some _ from e)
    subst e2
    exact .lst h.now (RpAll.dp hs e1)
  | _, _, _, .ref _, e => by cases e
  | _, _, _, .fn _, e => by cases e
theorem RpAll.dp : ∀ {vs : List V} {ds : List D} {ps : List PyData}, RpAll G H m L vs ds → D.toPys ds = some ps → DpAll G.K H vs ps
  | _, _, _, .nil, e => by cases e; exact .nil
  | _, d :: ds, _, .cons h hs, e => by
    have e' : (match d.toPy, D.toPys ds with | some y, some ys => some (y :: ys) | _, _ => none) = some _ := e
    cases q : d.toPy with
    | none => rw [q] at e'; cases e'
    | some y =>
      cases q2 : D.toPys ds with
      | none => rw [q, q2] at e'; cases e'
      | some ys =>
        rw [q, q2] at e'
        cases e'
        exact .cons (Rp.dp h q) (RpAll.dp hs q2)
end
theorem Rv.dp {p : PyData} (h : Rv G H m L v d) (e : d.toPy = some p) : Dp G.K H v p := by
  cases d with
  | lst ds =>
    obtain ⟨a, xs, rfl, hs, r⟩ := h
    obtain ⟨ps, e1, e2⟩ := Option.map_eq_some_iff.mp (show (D.toPys _).map PyData.list = some _ from e)
    subst e2
    exact .lst hs (RpAll.dp r e1)
  | _ => exact Rp.dp h e
end
theorem okSize_le {n : Nat} (h : okSize n = true) : n ≤ sizeLine := by
  have := of_decide_eq_true (show decide _ = true from h)
  rw [sizeLine_eq]; omega
theorem okSize_lt {n : Nat} (h : okSize n = true) : n < sizeLine := by
  have := of_decide_eq_true (show decide _ = true from h)
  rw [sizeLine_eq]; omega

/-- a result of an operation: any value, frozen, the heap grown -/
def Res2 (G : Gd) (b : Nat) (H : Hp) (m : List Addr) (st : Store) (d : D) (Q : VK) : Prop :=
  ∀ H' v, Sim G H' m st → Ext G b H m st H' m st → Rp G H' m (Lv G m st) v d → Q v H'
section
variable {X : Cx} {G : Gd} {b : Nat} {pins : List (Addr × Obj)} {s : Shared} {σ : L2.St} {H : Hp} {m : List Addr} {st : Store} {x y : V} {v u : Value} {Q : VK}
theorem Res2.same {d : D} {w : V} (S : Sim G H m st) (q : Res2 G b H m st d Q) (r : Rp G H m (Lv G m st) w d) : Q w H := q H w S .refl r
theorem Res2.newT {ds : List D} {xs : List V} {p : Addr} (S : Sim G H m st) (q : Res2 G b H m st (.tup ds) Q) (hp : H p = none) (r : RpAll G H m (Lv G m st) xs ds) : Q (.ref p) (upd H p (.tup xs)) := by
  obtain ⟨S', E, F⟩ := S.new (b := b) hp (.tup xs)
  exact q _ _ S' E (.tup (.inl ⟨F, SqT.of upd_same⟩) (r.ext E))
theorem Res2.newL {ds : List D} {xs : List V} {p : Addr} (S : Sim G H m st) (q : Res2 G b H m st (.lst ds) Q) (hp : H p = none) (r : RpAll G H m (Lv G m st) xs ds) : Q (.ref p) (upd H p (.lst xs)) := by
  obtain ⟨S', E, F⟩ := S.new (b := b) hp (.lst xs)
  exact q _ _ S' E (.lst (.inl ⟨F, SqL.of upd_same⟩) (r.ext E))
/-- list + list, any that may be read -/
theorem RpAll.rep {H : Hp} {m : List Addr} {L : Addr → Prop} {vs : List V} {ds : List D} (h : RpAll G H m L vs ds) : ∀ k : Nat, RpAll G H m L (List.replicate k vs).flatten (List.replicate k ds).flatten
  | 0 => .nil
  | k + 1 => by
    rw [List.replicate_succ, List.replicate_succ, List.flatten_cons, List.flatten_cons]
    exact h.append (h.rep k)
theorem catL (I : Inv X pins σ H s) {a c : Addr} {xs ys : List V} (ha : SqL X.K H a xs) (hc : SqL X.K H c ys) (hz : xs.length + ys.length ≤ sizeLine) (q : ∀ p, H p = none → Q (.ref p) (upd H p (.lst (xs ++ ys)))) :
    wpAny (model X.prog X.w) X.A (binaryOp .Add (.ref a) (.ref c)) (EP X pins σ Q) X.xe s := by
  obtain ⟨its, r, p1, _⟩ := I.list ha
  obtain ⟨its2, r2, p2, _⟩ := I.list hc
  have l1 := r.length
  have l2 := r2.length
  obtain ⟨⟨cls, dd, data, sl⟩, ho, h1, n, h2⟩ := p1.isList
  obtain ⟨⟨cls2, dd2, data2, sl2⟩, ho2, h3, n2, h4⟩ := p2.isList
  simp only at h1 h2 h3 h4
  subst h1 h2 h3 h4
  have hsz : its.toArray.size + its2.toArray.size ≤ sizeLine := by
    rw [List.size_toArray, List.size_toArray]
    omega
  have ea : its.toArray ++ its2.toArray = (its ++ its2).toArray := by simp
  refine concat_meets ⟨_, ho, rfl⟩ ⟨_, ho2, rfl⟩ noFill_list_add seq_list_add PySem.F.slot_list_add PySem.F.entry_list_add (PySem.F.args_list_add_2 _ _)
    (list_addW a c its.toArray its2.toArray n n2 dd dd2 sl sl2 hsz) ⟨ho, ho2, ?_⟩
  rw [ea]
  exact ⟨.ref _, _, I.lnew (t' := s.toks) (r.append r2) (by rw [List.length_append]; exact hz), rfl, q _ I.fresh⟩

theorem bin_ok {op : Operator} {d e f : D} (hf : binD op d e = some f) (hK : X.K = G.K) (S : Sim G H m st) (rx : Rv G H m (Lv G m st) x d) (ry : Rv G H m (Lv G m st) y e)
    (q : Res2 G b H m st f Q) (I : Inv X pins σ H s) (hx : RelV x v) (hy : RelV y u) : wpAny (model X.prog X.w) X.A (binaryOp op v u) (EP X pins σ Q) X.xe s := by
  unfold binD at hf
  split at hf
  · cases hf
    rw [rx.int] at hx; rw [ry.int] at hy
    exact op_add pins s σ H _ _ v u Q I hx hy ⟨_, _, rfl, rfl, q.same S (.int _)⟩
  · split at hf
    · rename_i hz
      cases hf
      rw [rx.str] at hx; rw [ry.str] at hy
      exact op_add_str pins s σ H _ _ v u Q I hx hy ⟨_, _, rfl, rfl, okSize_le hz, q.same S (.str _)⟩
    · cases hf
  · split at hf
    · rename_i hz
      cases hf
      obtain ⟨a, xs, rfl, ha, r1⟩ := rx.tup
      obtain ⟨c, ys, rfl, hc, r2⟩ := ry.tup
      rw [← hK] at ha hc
      refine op_catA pins s σ H _ _ v u Q I hx hy ⟨a, c, xs, ys, rfl, rfl, ha, hc, by rw [r1.length, r2.length]; exact okSize_le hz, fun e => ?_, fun _ e => ?_, fun _ _ p hp => q.newT S hp (r1.append r2)⟩
      · subst e
        cases r1
        exact q.same S ry
      · subst e
        cases r2
        rw [List.append_nil] at q
        exact q.same S rx
    · cases hf
  · split at hf
    · rename_i hz
      cases hf
      obtain ⟨a, xs, rfl, ha, r1⟩ := rx
      obtain ⟨c, ys, rfl, hc, r2⟩ := ry
      cases hx
      cases hy
      rw [← hK] at ha hc
      exact catL I ha hc (by rw [r1.length, r2.length]; exact okSize_le hz) fun p hp => q.newL S hp (r1.append r2)
    · cases hf
  · cases hf
    rw [rx.int] at hx; rw [ry.int] at hy
    exact op_sub pins s σ H _ _ v u Q I hx hy ⟨_, _, rfl, rfl, q.same S (.int _)⟩
  · split at hf
    · rename_i hz
      cases hf
      rw [rx.int] at hx; rw [ry.int] at hy
      refine op_mul pins s σ H _ _ v u Q I hx hy ⟨_, _, rfl, rfl, ?_, q.same S (.int _)⟩
      rcases (Bool.or_eq_true _ _).mp hz with z | z
      · exact .inl (of_decide_eq_true z)
      · exact .inr (of_decide_eq_true z)
    · cases hf
  · split at hf
    · rename_i hz
      cases hf
      obtain ⟨hz, z3⟩ := Bool.and_eq_true_iff.mp hz
      obtain ⟨z1, z2⟩ := Bool.and_eq_true_iff.mp hz
      have z2 := of_decide_eq_true z2
      obtain ⟨a, xs, rfl, ha, r1⟩ := rx.tup
      rw [ry.int] at hy
      rw [← hK] at ha
      have hl := r1.length
      have h3 := of_decide_eq_true z3
      refine op_repT pins s σ H _ _ v u Q I hx hy ⟨a, _, xs, rfl, rfl, ha, fun e => ?_, z2.1, z2.2, by rw [hl]; exact h3, fun p hp => q.newT S hp (r1.rep _)⟩
      rw [e] at hl
      rw [List.length_eq_zero_iff.mp hl.symm] at z1
      cases z1
    · cases hf
  · split at hf
    · rename_i hz
      cases hf
      rw [rx.int] at hx; rw [ry.int] at hy
      exact op_fdiv pins s σ H _ _ v u Q I hx hy ⟨_, _, rfl, rfl, (show CDiv _ _ from of_decide_eq_true (p := 0 < _ ∧ _ < 1073741824) hz), q.same S (.int _)⟩
    · cases hf
  · split at hf
    · rename_i hz
      cases hf
      rw [rx.int] at hx; rw [ry.int] at hy
      exact op_mod pins s σ H _ _ v u Q I hx hy ⟨_, _, rfl, rfl, of_decide_eq_true hz, q.same S (.int _)⟩
    · cases hf
  · split at hf
    · rename_i hz
      cases hf
      rw [rx.int] at hx; rw [ry.int] at hy
      have z := Bool.and_eq_true_iff.mp hz
      have z1 := of_decide_eq_true z.1
      exact op_pow pins s σ H _ _ v u Q I hx hy ⟨_, _, rfl, rfl, ⟨z1.1, z1.2, of_decide_eq_true z.2⟩, q.same S (.int _)⟩
    · cases hf
  · cases hf
end
end Ev
set_option linter.all false
set_option maxRecDepth 100000
/-! Ev3: comparisons, items, slices, built-in functions. -/
namespace Ev
open PySem PySem.Spec PyProof.Rows L2
section
variable {X : Cx} {G : Gd} {b : Nat} {pins : List (Addr × Obj)} {s : Shared} {σ : L2.St} {H : Hp} {m : List Addr} {st : Store} {x y : V} {v u : Value} {Q : VK} {d e : D}
theorem room_small {n : Nat} {A : Around} (hu : A.units + 64 < cLine) {p q : PyData} (h : p.depth ≤ 60) : A.units + min p.depth q.depth < cLine := by
  have : min p.depth q.depth ≤ p.depth := Nat.min_le_left _ _
  omega
theorem eq_okb {k : Bool} (hk : eqD d e = some k) (hu : X.A.units + 64 < cLine) (hK : X.K = G.K) (rx : Rv G H m (Lv G m st) x d) (ry : Rv G H m (Lv G m st) y e)
    (I : Inv X pins σ H s) (hx : RelV x v) (hy : RelV y u) (neg : Bool) (q : Q (.bl (if neg then !k else k)) H) : wpAny (model X.prog X.w) X.A (compareOp (if neg then .NotEq else .Eq) v u) (EP X pins σ Q) X.xe s := by
  have scal_ : ∀ (w z : V), scal w z = true → x = w → y = z → k = decide (w = z) → wpAny (model X.prog X.w) X.A (compareOp (if neg then .NotEq else .Eq) v u) (EP X pins σ Q) X.xe s := by
    intro w z h1 h2 h3 h4
    subst h2 h3 h4
    cases neg with
    | false => exact op_eq pins s σ H _ _ v u Q I hx hy ⟨h1, q⟩
    | true => exact op_ne pins s σ H _ _ v u Q I hx hy ⟨h1, q⟩
  have gen : ∀ p r : PyData, d.toPy = some p → e.toPy = some r → SeqAt.shaped p = true → SeqAt.shaped r = true → k = PyData.eqv p r → wpAny (model X.prog X.w) X.A (compareOp (if neg then .NotEq else .Eq) v u) (EP X pins σ Q) X.xe s := by
    intro p r h1 h2 h3 h4 h5
    subst h5
    have d1 := rx.dp h1
    have d2 := ry.dp h2
    rw [← hK] at d1 d2
    cases neg with
    | false => exact op_eqD hu pins s σ H _ _ v u Q I hx hy ⟨p, r, d1, d2, h3, h4, q⟩
    | true => exact op_neD hu pins s σ H _ _ v u Q I hx hy ⟨p, r, d1, d2, h3, h4, q⟩
  unfold eqD at hk
  split at hk
  · cases hk
    exact scal_ _ _ rfl rx.int ry.int (by simp)
  · cases hk
    exact scal_ _ _ rfl rx.str ry.str (by simp)
  · cases hk
    exact scal_ _ _ rfl rx.bl ry.bl (by simp)
  · cases hk
    exact gen .none .none rfl rfl (by decide) (by decide) (by simp [PyData.eqv])
  · split at hk
    · rename_i p r h1 h2
      split at hk
      · rename_i h3
        cases hk
        have z := Bool.and_eq_true_iff.mp h3
        exact gen p r h1 h2 z.1 z.2 rfl
      · cases hk
    · cases hk
theorem in_okb {ys : List D} {k : Bool} (hk : inL d ys = some k) (hu : X.A.units + 66 < cLine) (hK : X.K = G.K) (rx : Rv G H m (Lv G m st) x d) (ry : Rv G H m (Lv G m st) y (.lst ys) ∨ Rv G H m (Lv G m st) y (.tup ys))
    (I : Inv X pins σ H s) (hx : RelV x v) (hy : RelV y u) (neg : Bool) (q : Q (.bl (if neg then !k else k)) H) : wpAny (model X.prog X.w) X.A (compareOp (if neg then .NotIn else .In) v u) (EP X pins σ Q) X.xe s := by
  unfold inL at hk
  split at hk
  · rename_i p ps h1 h2
    split at hk
    · rename_i h3
      cases hk
      have z := Bool.and_eq_true_iff.mp h3
      have d1 := rx.dp h1
      rw [← hK] at d1
      obtain ⟨as, r1⟩ := Dp.reads I p x v d1 hx
      have hd := SeqAt.depth_of_shaped z.1
      have hroom : X.A.units + 1 + min (PyData.depthAll ps) p.depth < cLine := by
        have : min (PyData.depthAll ps) p.depth ≤ p.depth := Nat.min_le_right _ _
        omega
      rcases ry with ry | ry
      · have d2 := ry.dp (p := .list ps) (by simp [D.toPy, h2])
        rw [← hK] at d2
        obtain ⟨bs, r2⟩ := Dp.reads I _ y u d2 hy
        cases neg with
        | false => exact SeqAt.in_list_reads r2 r1 z.2 (SeqAt.canLay_of_shaped z.1) hroom ⟨.bl _, H, I, rfl, q⟩
        | true => exact SeqAt.notIn_list_reads r2 r1 z.2 (SeqAt.canLay_of_shaped z.1) hroom ⟨.bl _, H, I, rfl, q⟩
      · have d2 := ry.dp (p := .tuple ps) (by simp [D.toPy, h2])
        rw [← hK] at d2
        obtain ⟨bs, r2⟩ := Dp.reads I _ y u d2 hy
        cases neg with
        | false => exact SeqAt.in_tuple_reads r2 r1 z.2 (SeqAt.canLay_of_shaped z.1) hroom ⟨.bl _, H, I, rfl, q⟩
        | true => exact SeqAt.notIn_tuple_reads r2 r1 z.2 (SeqAt.canLay_of_shaped z.1) hroom ⟨.bl _, H, I, rfl, q⟩
    · cases hk
  · cases hk
theorem lt_ok {k : Bool} (hk : ltD d e = some k) (hu : X.A.units + 64 < cLine) (hK : X.K = G.K) (rx : Rv G H m (Lv G m st) x d) (ry : Rv G H m (Lv G m st) y e)
    (I : Inv X pins σ H s) (hx : RelV x v) (hy : RelV y u) (q : Q (.bl k) H) : wpAny (model X.prog X.w) X.A (compareOp .Lt v u) (EP X pins σ Q) X.xe s := by
  unfold ltD at hk
  split at hk
  · cases hk
    rw [rx.int] at hx; rw [ry.int] at hy
    exact op_lt pins s σ H _ _ v u Q I hx hy ⟨_, _, rfl, rfl, q⟩
  · cases hk
    rw [rx.str] at hx; rw [ry.str] at hy
    exact op_lt_str pins s σ H _ _ v u Q I hx hy ⟨_, _, rfl, rfl, q⟩
  · split at hk
    · rename_i p r h1 h2
      split at hk
      · rename_i h3
        cases hk
        have z := Bool.and_eq_true_iff.mp h3
        have d1 := rx.dp h1
        have d2 := ry.dp h2
        rw [← hK] at d1 d2
        obtain ⟨as, r1⟩ := Dp.reads I _ x v d1 hx
        obtain ⟨bs, r2⟩ := Dp.reads I _ y u d2 hy
        refine PySem.W.lt_data r1 r2 z.1 (fun e => ?_) (room_small (n := 0) hu (of_decide_eq_true z.2)) ⟨.bl _, H, I, rfl, q⟩
        subst e
        obtain ⟨_, _, e2⟩ := Option.map_eq_some_iff.mp (show (D.toPys _).map PyData.tuple = some _ from h1)
        cases e2
      · cases hk
    · cases hk
  · cases hk
theorem gt_ok {k : Bool} (hk : ltD e d = some k) (hu : X.A.units + 64 < cLine) (hK : X.K = G.K) (rx : Rv G H m (Lv G m st) x d) (ry : Rv G H m (Lv G m st) y e)
    (I : Inv X pins σ H s) (hx : RelV x v) (hy : RelV y u) (q : Q (.bl k) H) : wpAny (model X.prog X.w) X.A (compareOp .Gt v u) (EP X pins σ Q) X.xe s := by
  unfold ltD at hk
  split at hk
  · cases hk
    rw [rx.int] at hx; rw [ry.int] at hy
    exact op_gt pins s σ H _ _ v u Q I hx hy ⟨_, _, rfl, rfl, q⟩
  · cases hk
    rw [rx.str] at hx; rw [ry.str] at hy
    obtain ⟨t, rfl⟩ := hx
    obtain ⟨t', rfl⟩ := hy
    exact PySem.P.gt_str (fin_bl I q rfl)
  · split at hk
    · rename_i p r h1 h2
      split at hk
      · rename_i h3
        cases hk
        have z := Bool.and_eq_true_iff.mp h3
        have d1 := rx.dp h2
        have d2 := ry.dp h1
        rw [← hK] at d1 d2
        obtain ⟨as, r1⟩ := Dp.reads I _ x v d1 hx
        obtain ⟨bs, r2⟩ := Dp.reads I _ y u d2 hy
        refine PySem.W.gt_data r1 r2 (by rw [PySem.W.alike_comm]; exact z.1) (fun e => ?_) ?_ ⟨.bl _, H, I, rfl, q⟩
        · subst e
          obtain ⟨_, _, e2⟩ := Option.map_eq_some_iff.mp (show (D.toPys _).map PyData.tuple = some _ from h2)
          cases e2
        · rw [Nat.min_comm]
          exact room_small (n := 0) hu (of_decide_eq_true z.2)
      · cases hk
    · cases hk
  · cases hk
theorem le_ok {k : Bool} (hk : leD d e = some k) (rx : Rv G H m (Lv G m st) x d) (ry : Rv G H m (Lv G m st) y e)
    (I : Inv X pins σ H s) (hx : RelV x v) (hy : RelV y u) (q : Q (.bl k) H) : wpAny (model X.prog X.w) X.A (compareOp .LtE v u) (EP X pins σ Q) X.xe s := by
  unfold leD at hk
  split at hk
  · cases hk
    rw [rx.int] at hx; rw [ry.int] at hy
    exact op_le pins s σ H _ _ v u Q I hx hy ⟨_, _, rfl, rfl, q⟩
  · cases hk
    rw [rx.str] at hx; rw [ry.str] at hy
    exact op_le_str pins s σ H _ _ v u Q I hx hy ⟨_, _, rfl, rfl, q⟩
  · cases hk
theorem ge_ok {k : Bool} (hk : leD e d = some k) (rx : Rv G H m (Lv G m st) x d) (ry : Rv G H m (Lv G m st) y e)
    (I : Inv X pins σ H s) (hx : RelV x v) (hy : RelV y u) (q : Q (.bl k) H) : wpAny (model X.prog X.w) X.A (compareOp .GtE v u) (EP X pins σ Q) X.xe s := by
  unfold leD at hk
  split at hk
  · cases hk
    rw [rx.int] at hx; rw [ry.int] at hy
    exact op_ge pins s σ H _ _ v u Q I hx hy ⟨_, _, rfl, rfl, q⟩
  · cases hk
    rw [rx.str] at hx; rw [ry.str] at hy
    obtain ⟨t, rfl⟩ := hx
    obtain ⟨t', rfl⟩ := hy
    exact PySem.P.ge_str (fin_bl I q rfl)
  · cases hk
theorem Rv.none_iff (rx : Rv G H m (Lv G m st) x d) : decide (x = .non) = isNon d := by
  cases d with
  | non => simp [rx.non, isNon]
  | lst ds => obtain ⟨a, xs, rfl, _⟩ := rx; rfl
  | _ => have rx' : Rp G H m (Lv G m st) x _ := rx; cases rx' <;> rfl
theorem cmp_ok {op : CmpOp} {k : Bool} (hk : cmpD op d e = some k) (hu : X.A.units + 66 < cLine) (hK : X.K = G.K) (rx : Rv G H m (Lv G m st) x d) (ry : Rv G H m (Lv G m st) y e)
    (I : Inv X pins σ H s) (hx : RelV x v) (hy : RelV y u) (q : Q (.bl k) H) : wpAny (model X.prog X.w) X.A (compareOp op v u) (EP X pins σ Q) X.xe s := by
  cases op with
  | Eq => exact eq_okb (by simpa only [cmpD] using hk) (by omega) hK rx ry I hx hy false q
  | NotEq =>
    obtain ⟨j, h1, h2⟩ := Option.map_eq_some_iff.mp (by simpa only [cmpD] using hk)
    exact eq_okb h1 (by omega) hK rx ry I hx hy true (by rw [← h2] at q; exact q)
  | Lt => exact lt_ok (by simpa only [cmpD] using hk) (by omega) hK rx ry I hx hy q
  | Gt => exact gt_ok (by simpa only [cmpD] using hk) (by omega) hK rx ry I hx hy q
  | LtE => exact le_ok (by simpa only [cmpD] using hk) rx ry I hx hy q
  | GtE => exact ge_ok (by simpa only [cmpD] using hk) rx ry I hx hy q
  | Is =>
    simp only [cmpD] at hk
    split at hk
    · cases hk
      rw [← rx.none_iff] at q
      exact op_isN pins s σ H _ _ v u Q I hx hy ⟨ry.non, q⟩
    · cases hk
      rw [ry.bl] at hy
      rw [rx.bl] at hx
      exact op_isBl pins s σ H _ _ v u Q I hx hy ⟨_, _, rfl, rfl, q⟩
    · cases hk
      rw [ry.bl] at hy
      rw [rx.non] at hx
      cases (show v = Value.none from hx)
      cases (show u = Value.bool _ from hy)
      exact wpAny_is_other rfl (fun z => by cases z) ⟨.bl false, H, I, rfl, q⟩
    · cases hk
  | IsNot =>
    simp only [cmpD] at hk
    split at hk
    · cases hk
      rw [← rx.none_iff] at q
      exact op_notN pins s σ H _ _ v u Q I hx hy ⟨ry.non, q⟩
    · cases hk
      rw [ry.bl] at hy
      rw [rx.bl] at hx
      exact op_notBl pins s σ H _ _ v u Q I hx hy ⟨_, _, rfl, rfl, q⟩
    · cases hk
      rw [ry.bl] at hy
      rw [rx.non] at hx
      cases (show v = Value.none from hx)
      cases (show u = Value.bool _ from hy)
      exact wpAny_isNot_other rfl (fun z => by cases z) ⟨.bl true, H, I, rfl, q⟩
    · cases hk
  | In =>
    simp only [cmpD] at hk
    split at hk
    · exact in_okb hk hu hK rx (.inl ry) I hx hy false q
    · exact in_okb hk hu hK rx (.inr ry) I hx hy false q
    · unfold inS at hk
      split at hk
      · cases hk
        have e1 := rx.str
        have e2 := ry.str
        subst e1; subst e2
        exact op_in_str pins s σ H _ _ v u Q I hx hy ⟨_, _, rfl, rfl, q⟩
      · cases hk
    · cases hk
  | NotIn =>
    simp only [cmpD] at hk
    split at hk
    · obtain ⟨j, h1, h2⟩ := Option.map_eq_some_iff.mp hk
      exact in_okb h1 hu hK rx (.inl ry) I hx hy true (by rw [← h2] at q; exact q)
    · obtain ⟨j, h1, h2⟩ := Option.map_eq_some_iff.mp hk
      exact in_okb h1 hu hK rx (.inr ry) I hx hy true (by rw [← h2] at q; exact q)
    · obtain ⟨j, h1, h2⟩ := Option.map_eq_some_iff.mp hk
      unfold inS at h1
      split at h1
      · cases h1
        have e1 := rx.str
        have e2 := ry.str
        subst e1; subst e2
        exact op_notin_str pins s σ H _ _ v u Q I hx hy ⟨_, _, rfl, rfl, by rw [← h2] at q; exact q⟩
      · cases h1
    · cases hk

/-! ### items, slices -/
theorem ixAt_of {vs : List V} {ds : List D} {i : Int} {L : Addr → Prop} (r : RpAll G H m L vs ds) (h : ixAt ds i = some d) : ∃ w, atI vs i = some w ∧ Rp G H m L w d := by
  have hl := r.length
  unfold ixAt at h
  unfold atI ixN
  split at h
  · rename_i h0
    obtain ⟨w, h1, h2⟩ := r.get h
    have : i < (vs.length : Int) := by have := (List.getElem?_eq_some_iff.mp h1).1; omega
    exact ⟨w, by rw [if_pos h0, if_pos this]; exact h1, h2⟩
  · rename_i h0
    split at h
    · rename_i h1
      obtain ⟨w, h2, h3⟩ := r.get h
      refine ⟨w, ?_, h3⟩
      rw [if_neg h0, if_pos (by omega)]
      rw [← hl] at h2
      exact h2
    · cases h
theorem idx_ok {f : D} (hf : idxD d e = some f) (hK : X.K = G.K) (S : Sim G H m st) (rx : Rv G H m (Lv G m st) x d) (ry : Rp G H m (Lv G m st) y e) : ∃ w, Rp G H m (Lv G m st) w f ∧ ∀ Q : VK, Q w H → rIx X.K x y H Q := by
  unfold idxD at hf
  split at hf
  · obtain ⟨a, xs, rfl, ha, r1⟩ := rx.tup
    cases ry
    obtain ⟨w, h1, h2⟩ := ixAt_of r1 hf
    rw [← hK] at ha
    exact ⟨w, h2, fun Q q => .inr (.inl ⟨a, xs, _, w, rfl, rfl, ha, h1, q⟩)⟩
  · obtain ⟨a, xs, rfl, ha, r1⟩ := rx
    cases ry
    obtain ⟨w, h1, h2⟩ := ixAt_of r1 hf
    rw [← hK] at ha
    exact ⟨w, h2, fun Q q => .inl ⟨a, xs, _, w, rfl, rfl, ha, h1, q⟩⟩
  · cases hf
theorem cut_of {vs : List V} {ds : List D} {lo hi : Option Int} {L : Addr → Prop} (r : RpAll G H m L vs ds) : RpAll G H m L (cutV vs lo hi) (cutL ds lo hi) := by
  unfold cutV cutL
  rw [r.length]
  exact (r.drop _).take _
def rSlD (K : PySem.W.Frag) : V → Option Int → Option Int → Hp → VK → Prop := fun x lo hi H Q => rSlL K x lo hi H Q ∨ rSlA K x lo hi H Q
theorem sl_D : SlR X (rSlD X.K) := sl_list.or sl_tupA
theorem slc_ok {lo hi : Option Int} {f : D} (hf : slcD d lo hi = some f) (hK : X.K = G.K) (S : Sim G H m st) (rx : Rv G H m (Lv G m st) x d) (q : Res2 G b H m st f Q) : rSlD X.K x lo hi H Q := by
  unfold slcD at hf
  split at hf
  · cases hf
    have rx0 := rx
    obtain ⟨a, xs, rfl, ha, r1⟩ := rx.tup
    rw [← hK] at ha
    refine .inr ⟨a, xs, rfl, ha, fun ⟨h1, h2⟩ => q.same S ?_, fun _ p hp => q.newT S hp (cut_of r1)⟩
    have e : ∀ zs : List D, zs.length = xs.length → cutL zs lo hi = zs := fun zs hz => by
      show (List.drop (HT.sIx _ 0 lo) _).take (HT.sIx _ _ hi - HT.sIx _ 0 lo) = _
      rw [hz, h1, h2, ← hz]
      simp
    rw [e _ r1.length.symm]
    exact rx0
  · cases hf
    obtain ⟨a, xs, rfl, ha, r1⟩ := rx
    rw [← hK] at ha
    exact .inl ⟨a, xs, rfl, ha, fun p hp => q.newL S hp (cut_of r1)⟩
  · cases hf

/-! ### built-in functions -/
theorem allI_of {L : Addr → Prop} : ∀ {ds : List D} {vs : List V} {is : List Int}, allI ds = some is → RpAll G H m L vs ds → vs = is.map V.int
  | [], _, _, e, .nil => by cases e; rfl
  | .int i :: ds, _, _, e, .cons r rs => by
    obtain ⟨js, h1, h2⟩ := Option.map_eq_some_iff.mp (show (allI ds).map (i :: ·) = some _ from e)
    subst h2
    cases r
    rw [allI_of h1 rs]; rfl
  | .non :: _, _, _, e, _ => by cases e
  | .bl _ :: _, _, _, e, _ => by cases e
  | .str _ :: _, _, _, e, _ => by cases e
  | .tup _ :: _, _, _, e, _ => by cases e
  | .lst _ :: _, _, _, e, _ => by cases e
  | .dct _ _ :: _, _, _, e, _ => by cases e
  | .ref _ :: _, _, _, e, _ => by cases e
  | .fn _ :: _, _, _, e, _ => by cases e
theorem allB_of {L : Addr → Prop} : ∀ {ds : List D} {vs : List V} {is : List Bool}, allB ds = some is → RpAll G H m L vs ds → vs = is.map V.bl
  | [], _, _, e, .nil => by cases e; rfl
  | .bl i :: ds, _, _, e, .cons r rs => by
    obtain ⟨js, h1, h2⟩ := Option.map_eq_some_iff.mp (show (allB ds).map (i :: ·) = some _ from e)
    subst h2
    cases r
    rw [allB_of h1 rs]; rfl
  | .non :: _, _, _, e, _ => by cases e
  | .int _ :: _, _, _, e, _ => by cases e
  | .str _ :: _, _, _, e, _ => by cases e
  | .tup _ :: _, _, _, e, _ => by cases e
  | .lst _ :: _, _, _, e, _ => by cases e
  | .dct _ _ :: _, _, _, e, _ => by cases e
  | .ref _ :: _, _, _, e, _ => by cases e
  | .fn _ :: _, _, _, e, _ => by cases e
theorem ty_of (hK : X.K = G.K) (rx : Rv G H m (Lv G m st) x d) (h : ∀ l, d ≠ .ref l) (h2 : ∀ f, d ≠ .fn f) (h3 : ∀ ks vs, d ≠ .dct ks vs) : TyX X.K H x (.type (tyD d)) := by
  cases d with
  | non => rw [rx.non]; exact .base .non
  | bl k => rw [rx.bl]; exact .base (.bl k)
  | int k => rw [rx.int]; exact .base (.int k)
  | str k => rw [rx.str]; exact .base (.str k)
  | tup ds =>
    obtain ⟨a, xs, rfl, ha, r1⟩ := rx.tup
    rw [← hK] at ha
    rcases ha with (h | ⟨o, h⟩) | ⟨o, its, n, h1, h2, _⟩
    · exact .base (.tup h)
    · exact .fTuple h
    · exact .kTuple h1 h2
  | lst ds =>
    obtain ⟨a, xs, rfl, ha, r1⟩ := rx
    rw [← hK] at ha
    rcases ha with (h | ⟨o, h⟩) | ⟨o, its, n, h1, h2, _⟩
    · exact .base (.lst h)
    · exact .base (.frz h)
    · exact .kList h1 h2
  | dct ks vs => exact absurd rfl (h3 ks vs)
  | ref l => exact absurd rfl (h l)
  | fn l => exact absurd rfl (h2 l)
theorem kit_D {K : PySem.W.Frag} (t : Ty) (ht : t ≠ .none) (hd : tyD d ≠ "") : PySem.W.kitOne K (.type (tyD d)) (.type t.name) = some (t.has d) := by
  have k : ∀ z : String, tyD d = z → kitB z t.name = some (t.has d) → PySem.W.kitOne K (.type (tyD d)) (.type t.name) = some (t.has d) := fun z e h => kit_ty (by rw [e]; exact h)
  cases d with
  | non => exact k "NoneType" rfl (by cases t <;> first | exact absurd rfl ht | (show _ = some false; decide +kernel))
  | bl _ => exact k "bool" rfl (by cases t <;> first | exact absurd rfl ht | (show _ = some false; decide +kernel) | (show _ = some true; decide +kernel))
  | int _ => exact k "int" rfl (by cases t <;> first | exact absurd rfl ht | (show _ = some false; decide +kernel) | (show _ = some true; decide +kernel))
  | str _ => exact k "str" rfl (by cases t <;> first | exact absurd rfl ht | (show _ = some false; decide +kernel) | (show _ = some true; decide +kernel))
  | tup _ => exact k "tuple" rfl (by cases t <;> first | exact absurd rfl ht | (show _ = some false; decide +kernel) | (show _ = some true; decide +kernel))
  | lst _ => exact k "list" rfl (by cases t <;> first | exact absurd rfl ht | (show _ = some false; decide +kernel) | (show _ = some true; decide +kernel))
  | _ => exact absurd rfl hd

/-- the built-in of a name -/
def bltV : Blt → Value
  | .len => .builtin "len" | .abs => .builtin "abs" | .int => .type "int" | .sum => .builtin "sum" | .max => .builtin "max" | .any => .builtin "any" | .all => .builtin "all" | .repr => .builtin "repr"
  | .isi _ => .builtin "isinstance" | .tuple => .type "tuple"
/-- what stands behind the first argument -/
def bltMore : Blt → List V
  | .isi t => [.ty t.name]
  | _ => []
mutual
theorem toPy_nod : ∀ (d : D) (p : PyData), d.toPy = some p → p.hasDict = false
  | .non, _, e => by cases e; rfl
  | .bl _, _, e => by cases e; rfl
  | .int _, _, e => by cases e; rfl
  | .str _, _, e => by cases e; rfl
  | .tup xs, _, e => by
    obtain ⟨ps, e1, e2⟩ := Option.map_eq_some_iff.mp (show (D.toPys xs).map PyData.tuple = some _ from e)
    subst e2
    rw [PyData.hasDict]; exact toPys_nod xs ps e1
  | .lst xs, _, e => by
    obtain ⟨ps, e1, e2⟩ := Option.map_eq_some_iff.mp (show (D.toPys xs).map PyData.list = some _ from e)
    subst e2
    rw [PyData.hasDict]; exact toPys_nod xs ps e1
  | .dct _ _, _, e => by cases e
  | .ref _, _, e => by cases e
  | .fn _, _, e => by cases e
theorem toPys_nod : ∀ (ds : List D) (ps : List PyData), D.toPys ds = some ps → PyData.hasDictAll ps = false
  | [], _, e => by cases e; rfl
  | d :: ds, _, e => by
    have e' : (match d.toPy, D.toPys ds with | some y, some ys => some (y :: ys) | _, _ => none) = some _ := e
    cases q : d.toPy with
    | none => rw [q] at e'; cases e'
    | some y =>
      cases q2 : D.toPys ds with
      | none => rw [q, q2] at e'; cases e'
      | some ys =>
        rw [q, q2] at e'
        cases e'
        rw [PyData.hasDictAll, toPy_nod d y q, toPys_nod ds ys q2]; rfl
end
theorem repr_ok (hu : X.A.units + 66 < cLine) (hg : X.A.guards = some []) (hK : X.K = G.K) {p : PyData} (hp : d.toPy = some p) (hs : p.showable = true) (hd : p.depth ≤ 60) (hz : okSize p.shown.length = true)
    (rx : Rv G H m (Lv G m st) x d) (I : Inv X pins σ H s) (hx : RelV x v) (q : Q (.str p.shown) H) : wpAny (model X.prog X.w) X.A (call (.builtin "repr") [v]) (EP X pins σ Q) X.xe s := by
  have hdp := rx.dp hp
  rw [← hK] at hdp
  obtain ⟨as, r⟩ := Dp.reads I p x v hdp hx
  have nod := toPy_nod d _ hp
  cases r with
  | none => exact PySem.P.repr_of_none ⟨.str _, H, I.tok _, ⟨_, rfl⟩, q⟩
  | bool k =>
    exact PySem.P.repr_of_bool ⟨.str _, H, I.tok _, ⟨s.toks, rfl⟩, q⟩
  | int i t =>
    exact PySem.P.repr_of_int (of_decide_eq_true (show decide _ = true from hs)) ⟨.str _, H, I.tok _, ⟨_, rfl⟩, q⟩
  | str y t => exact PySem.P.repr_of_str ⟨.str _, H, I.tok _, ⟨_, rfl⟩, q⟩ (okSize_le hz)
  | @list a o vs n xs as h1 h2 h3 h4 =>
    exact repr_of_reads' (.list h1 h2 h3 h4) hs (fun e => by rw [nod] at e; cases e) hg (by omega) (fun _ _ e => e) (fun h' u tk hk => ⟨.str _, H, I.kept hk, ⟨_, rfl⟩, q⟩) (okSize_le hz)
  | @tuple a o vs n xs as h1 h2 h3 h4 =>
    exact repr_of_reads' (.tuple h1 h2 h3 h4) hs (fun e => by rw [nod] at e; cases e) hg (by omega) (fun _ _ e => e) (fun h' u tk hk => ⟨.str _, H, I.kept hk, ⟨_, rfl⟩, q⟩) (okSize_le hz)
  | dict h1 h2 h3 h4 h5 => cases hdp
theorem maxI_of : ∀ (l : List Int) (i m : Int), m ∈ i :: l → (∀ y, y ∈ i :: l → y ≤ m) → m = maxI i l
  | [], i, m, h1, _ => by rw [show maxI i [] = i from rfl]; simpa using h1
  | x :: xs, i, m, h1, h2 => by
    have e : maxI i (x :: xs) = maxI (if x > i then x else i) xs := rfl
    rw [e]
    have a1 := h2 i List.mem_cons_self
    have a2 := h2 x (List.mem_cons_of_mem _ List.mem_cons_self)
    refine maxI_of xs _ m ?_ fun y hy => ?_
    · rcases List.mem_cons.mp h1 with e | h1
      · by_cases hx : x > i
        · omega
        · rw [if_neg hx, e]; exact List.mem_cons_self
      · rcases List.mem_cons.mp h1 with e | h1
        · by_cases hx : x > i
          · rw [if_pos hx, e]; exact List.mem_cons_self
          · rw [if_neg hx]
            have : m = i := by omega
            rw [this]; exact List.mem_cons_self
        · exact List.mem_cons_of_mem _ h1
    · rcases List.mem_cons.mp hy with e | hy
      · rw [e]; split <;> assumption
      · exact h2 y (List.mem_cons_of_mem _ (List.mem_cons_of_mem _ hy))
theorem blt_ok {bl : Blt} {f : D} (hf : bltD bl d = some f) (hu : X.A.units + 66 < cLine) (hg : bl = .repr → X.A.guards = some []) (hc : X.calm = true) (hK : X.K = G.K) (S : Sim G H m st) (rx : Rv G H m (Lv G m st) x d)
    (q : Res2 G b H m st f Q) (I : Inv X pins σ H s) {us : List Value} (hx : Vals (x :: bltMore bl) us) : wpAny (model X.prog X.w) X.A (call (bltV bl) us) (EP X pins σ Q) X.xe s := by
  unfold bltD at hf
  split at hf
  · cases hf
    obtain ⟨a, xs, rfl, ha, r1⟩ := rx
    rw [← hK] at ha
    exact call_len_seq pins s σ H _ us Q I hx ⟨a, xs, rfl, .inl ha, by rw [r1.length]; exact q.same S (.int _)⟩
  · cases hf
    obtain ⟨a, xs, rfl, ha, r1⟩ := rx.tup
    rw [← hK] at ha
    exact call_len_seq pins s σ H _ us Q I hx ⟨a, xs, rfl, .inr ha, by rw [r1.length]; exact q.same S (.int _)⟩
  · split at hf
    · rename_i hz
      cases hf
      rw [rx.str] at hx
      exact call_len_str pins s σ H _ us Q I hx ⟨_, rfl, okSize_le hz, q.same S (.int _)⟩
    · cases hf
  · cases hf
    rw [rx.int] at hx
    exact call_abs pins s σ H _ us Q I hx ⟨_, rfl, q.same S (.int _)⟩
  · cases hf
    rw [rx.int] at hx
    exact call_int1 pins s σ H _ us Q I hx (.inl ⟨_, rfl, q.same S (.int _)⟩)
  · cases hf
    rw [rx.bl] at hx
    exact call_int1 pins s σ H _ us Q I hx (.inr ⟨_, rfl, q.same S (.int _)⟩)
  · obtain ⟨l, h1, h2⟩ := Option.map_eq_some_iff.mp hf
    subst h2
    obtain ⟨a, xs, rfl, ha, r1⟩ := rx
    rw [allI_of h1 r1, ← hK] at ha
    exact cr_sum hc pins s σ H _ us Q I hx ⟨a, l, rfl, ha, q.same S (.int _)⟩
  · split at hf
    · rename_i i l h1
      cases hf
      obtain ⟨a, xs, rfl, ha, r1⟩ := rx
      rw [allI_of h1 r1, ← hK] at ha
      refine cr_max hc pins s σ H _ us Q I hx ⟨a, i :: l, rfl, ha, Nat.succ_pos _, fun m hm1 hm2 => ?_⟩
      rw [maxI_of l i m hm1 hm2]
      exact q.same S (.int _)
    · cases hf
  · obtain ⟨l, h1, h2⟩ := Option.map_eq_some_iff.mp hf
    subst h2
    obtain ⟨a, xs, rfl, ha, r1⟩ := rx
    rw [allB_of h1 r1, ← hK] at ha
    exact cr_any hc pins s σ H _ us Q I hx ⟨a, l, rfl, ha, q.same S (.bl _)⟩
  · obtain ⟨l, h1, h2⟩ := Option.map_eq_some_iff.mp hf
    subst h2
    obtain ⟨a, xs, rfl, ha, r1⟩ := rx
    rw [allB_of h1 r1, ← hK] at ha
    exact cr_all hc pins s σ H _ us Q I hx ⟨a, l, rfl, ha, q.same S (.bl _)⟩
  · cases hf
  · split at hf
    · rename_i ht
      cases hf
      have hz := Bool.and_eq_true_iff.mp ht
      have h1 := of_decide_eq_true hz.1
      have h2 := of_decide_eq_true hz.2
      have hT := ty_of hK rx (fun l e => h1 (by rw [e]; rfl)) (fun l e => h1 (by rw [e]; rfl)) (fun ks vs e => h1 (by rw [e]; rfl))
      exact call_isi pins s σ H _ us Q I hx ⟨x, _, _, _, _, rfl, .ty _, hT, kit_D _ h2 h1, q.same S (.bl _)⟩
    · cases hf
  · cases hf
    obtain ⟨a, xs, rfl, ha, r1⟩ := rx
    rw [← hK] at ha
    exact call_tuple_of pins s σ H _ us Q I hx ⟨a, xs, rfl, .inl ⟨ha, fun p hp => q.newT S hp r1⟩⟩
  · cases hf
    have rx0 := rx
    obtain ⟨a, xs, rfl, ha, r1⟩ := rx.tup
    rw [← hK] at ha
    exact call_tuple_of pins s σ H _ us Q I hx ⟨a, xs, rfl, .inr ⟨ha, q.same S rx0⟩⟩
  · split at hf
    · rename_i p hp
      split at hf
      · rename_i hz
        cases hf
        have h1 := Bool.and_eq_true_iff.mp hz
        have h2 := Bool.and_eq_true_iff.mp h1.1
        obtain ⟨u, rfl, ru⟩ := vals1 hx
        exact repr_ok hu (hg rfl) hK hp h2.1 (of_decide_eq_true h2.2) h1.2 rx I ru (q.same S (.str _))
      · cases hf
    · cases hf
  · cases hf
end
end Ev
set_option linter.all false
set_option maxRecDepth 100000
/-! Ev4: expressions of the text read as the small language says, construct by construct. -/
namespace Ev
open PySem PySem.Spec PyProof.Rows L2

theorem thn_assoc {α β γ : Type} (x : M α) (f : α → M β) (g : β → M γ) : M.thn (M.thn x f) g = M.thn x (fun a => M.thn (f a) g) := by
  funext st
  simp only [M.thn]
  cases x st <;> rfl
theorem thn_ret {α β : Type} (a : α) (f : α → M β) : M.thn (M.ret a) f = f a := rfl
section
variable {G : Gd} {b : Nat} {W : WX} {σ : L2.St} {H : Hp} {m : List Addr} {st : Store} {ρ : Env}
/-- the wish about errors at some slots -/
abbrev We (G : Gd) (W : WX) (σ : L2.St) : Nat → Hp → Prop := fun c H' => ∀ a, G.ec c a → W (.ref a) none σ H'
theorem tE.go {β : Type} {R : Hp → List Addr → Store → β → Prop} {f : Env → M D} {g : D → M β} (er : EnvR G H m st σ ρ) (S : Sim G H m st) (h : After G b H m st (We G W σ) R (M.thn (f ρ) g st)) :
    tE G b W f σ H (fun v H' => ∃ m' st' d, Sim G H' m' st' ∧ Ext G b H m st H' m' st' ∧ Rp G H' m' (Lv G m' st') v d ∧ After G b H' m' st' (We G W σ) R (g d st')) :=
  ⟨ρ, m, st, er, S, (h.thn S).mono (fun H' m' st' d s' e h v r => ⟨m', st', d, s', e, r, h⟩) fun _ _ h => h⟩
theorem tB.go {β : Type} {R : Hp → List Addr → Store → β → Prop} {f : Env → M Bool} {g : Bool → M β} (er : EnvR G H m st σ ρ) (S : Sim G H m st) (h : After G b H m st (We G W σ) R (M.thn (f ρ) g st)) :
    tB G b W f σ H (fun k H' => ∃ m' st', Sim G H' m' st' ∧ Ext G b H m st H' m' st' ∧ After G b H' m' st' (We G W σ) R (g k st')) :=
  ⟨ρ, m, st, er, S, (h.thn S).mono (fun H' m' st' d s' e h => ⟨m', st', s', e, h⟩) fun _ _ h => h⟩
theorem tEs.go {β : Type} {R : Hp → List Addr → Store → β → Prop} {f : Env → M (List D)} {g : List D → M β} (er : EnvR G H m st σ ρ) (S : Sim G H m st) (h : After G b H m st (We G W σ) R (M.thn (f ρ) g st)) :
    tEs G b W f σ H (fun vs H' => ∃ m' st' ds, Sim G H' m' st' ∧ Ext G b H m st H' m' st' ∧ RpAll G H' m' (Lv G m' st') vs ds ∧ After G b H' m' st' (We G W σ) R (g ds st')) :=
  ⟨ρ, m, st, er, S, (h.thn S).mono (fun H' m' st' d s' e h v r => ⟨m', st', d, s', e, r, h⟩) fun _ _ h => h⟩
theorem tE.mono {f : Env → M D} {Q Q' : VK} (h : tE G b W f σ H Q) (q : ∀ v H', Q v H' → Q' v H') : tE G b W f σ H Q' := by
  obtain ⟨ρ, m, st, er, S, h⟩ := h
  exact ⟨ρ, m, st, er, S, h.mono (fun H' m' st' d _ _ h v r => q _ _ (h v r)) fun _ _ h => h⟩
theorem After.ret {β : Type} {R : Hp → List Addr → Store → β → Prop} {Wσ : Nat → Hp → Prop} {d : β} (S : Sim G H m st) (h : After G b H m st Wσ R (M.ret d st)) : R H m st d := h H m S .refl
theorem After.ofO {β : Type} {R : Hp → List Addr → Store → β → Prop} {Wσ : Nat → Hp → Prop} {o : Option β} (h : After G b H m st Wσ R (M.ofO o st)) : ∃ d, o = some d ∧ After G b H m st Wσ R (M.ret d st) := by
  cases o with
  | none => exact h.elim
  | some d => exact ⟨d, rfl, h⟩
theorem After.if_ {β : Type} {R : Hp → List Addr → Store → β → Prop} {Wσ : Nat → Hp → Prop} {k : Bool} {x : M β} (h : After G b H m st Wσ R ((if k then x else M.bad) st)) : k = true ∧ After G b H m st Wσ R (x st) := by
  cases k with
  | true => exact ⟨rfl, h⟩
  | false => exact h.elim
end

section
variable {X : Cx} {G : Gd} {b : Nat} {W : WX} {pins : List (Addr × Obj)} {s : Shared} {σ : L2.St} {H : Hp} {m : List Addr} {st : Store} {ρ : Env} {f g : Env → M D} {e e' e2 : Expr} {pos : Pos}
theorem ofE {t t' : TE} (h : PE X e t) (i : ∀ σ H Q, t' σ H Q → t σ H Q) : PE X e t' := ⟨fun pins s σ H Q I q => h.run pins s σ H Q I (i σ H Q q)⟩
theorem ofT {t t' : TT} (h : PT X e t) (i : ∀ σ H Q, t' σ H Q → t σ H Q) : PT X e t' := ⟨fun pins s σ H Q I q => h.run pins s σ H Q I (i σ H Q q)⟩
theorem ofW {t t' : TT} (h : PW X e t) (i : ∀ σ H Q, t' σ H Q → t σ H Q) : PW X e t' := ⟨fun wh pins s σ H Q I q => h.run wh pins s σ H Q I (i σ H Q q)⟩
theorem ofA {es : List Expr} {t t' : TA} (h : PA X es t) (i : ∀ σ H Q, t' σ H Q → t σ H Q) : PA X es t' := ⟨fun pos pins s σ H Q I q => h.run pos pins s σ H Q I (i σ H Q q)⟩

theorem se_var {i : Nat} {x : Str} (hN : X.N[i]? = some x) (hv : Vis X.env.scope x) (hd : (x == ("__debug__" : Str)) = false) (hcd : (x == ("__classdict__" : Str)) = false) : PE X (.Name x pos) (tE G b W fun ρ => getE ρ i) := by
  refine ofE (pe_var hN hv hd hcd) fun σ H Q h => ?_
  obtain ⟨ρ, m, st, er, S, h⟩ := h
  replace h : After G b H m st (We G W σ) (fun H' m' st' d => ∀ v, Rp G H' m' (Lv G m' st') v d → Q v H') (getE ρ i st) := h
  cases q : ρ[i]? with
  | none => simp only [getE, q] at h; exact h.elim
  | some o =>
    cases o with
    | none => simp only [getE, q] at h; exact h.elim
    | some d =>
      simp only [getE, q] at h
      obtain ⟨v, e, r⟩ := er.at_ i d q
      exact ⟨v, e, h.ret S v r⟩
theorem se_const {t : TE} {d : D} {v : V} (h : PE X e (tC v)) (r : ∀ G H m L, Rp G H m L v d) : PE X e (tE G b W fun _ => M.ret d) := by
  refine ofE h fun σ H Q h => ?_
  obtain ⟨ρ, m, st, er, S, h⟩ := h
  exact h.ret S v (r _ _ _ _)
/-- two expressions, then something of their values -/
theorem two {α : Type} {R : Hp → List Addr → Store → α → Prop} {k : D → D → M α} (ha : PE X e (tE G b W f)) (hb : PE X e' (tE G b W g)) (I : Inv X pins σ H s) (er : EnvR G H m st σ ρ) (S : Sim G H m st)
    (h : After G b H m st (We G W σ) R (M.thn (f ρ) (fun x => M.thn (g ρ) (k x)) st)) {β : Type} {Q' : β → Shared → Prop} {F : Value → Value → Sem β}
    (hf : ∀ v u s2 x y H2 m2 st2 dx dy, Inv X pins σ H2 s2 → RelV x v → RelV y u → Sim G H2 m2 st2 → EnvR G H2 m2 st2 σ ρ → Rp G H2 m2 (Lv G m2 st2) x dx → Rp G H2 m2 (Lv G m2 st2) y dy → After G b H2 m2 st2 (We G W σ) R (k dx dy st2) →
      wpAny (model X.prog X.w) X.A (F v u) Q' X.xe s2) :
    wpAny (model X.prog X.w) X.A (eval e X.env) (fun v s₁ => wpAny (model X.prog X.w) X.A (eval e' X.env) (fun u s₂ => wpAny (model X.prog X.w) X.A (F v u) Q' X.xe s₂) X.xe s₁) X.xe s := by
  refine bin ha hb I (R := fun x y H2 => ∃ m2 st2 dx dy, Sim G H2 m2 st2 ∧ EnvR G H2 m2 st2 σ ρ ∧ Rp G H2 m2 (Lv G m2 st2) x dx ∧ Rp G H2 m2 (Lv G m2 st2) y dy ∧ After G b H2 m2 st2 (We G W σ) R (k dx dy st2)) ?_ ?_
  · refine (tE.go er S h).mono fun x H1 q => ?_
    obtain ⟨m1, st1, dx, S1, E1, rx, h1⟩ := q
    refine (tE.go (er.ext E1) S1 h1).mono fun y H2 q => ?_
    obtain ⟨m2, st2, dy, S2, E2, ry, h2⟩ := q
    exact ⟨m2, st2, dx, dy, S2, (er.ext E1).ext E2, rx.ext E2, ry, h2⟩
  · rintro v u s2 x y H2 I2 rx ry ⟨m2, st2, dx, dy, S2, er2, r1, r2, h2⟩
    exact hf v u s2 x y H2 m2 st2 dx dy I2 rx ry S2 er2 r1 r2 h2
theorem se_bin {op : Operator} (hK : X.K = G.K) (ha : PE X e (tE G b W f)) (hb : PE X e' (tE G b W g)) :
    PE X (.BinOp e op e' pos) (tE G b W fun ρ => M.thn (f ρ) fun x => M.thn (g ρ) fun y => fun st => M.ofO (binD op (view st x) (view st y)) st) := by
  refine ⟨fun pins s σ H Q I h => ?_⟩
  obtain ⟨ρ, m, st, er, S, h⟩ := h
  refine wpAny_BinOp (two ha hb I er S h fun v u s2 x y H2 m2 st2 dx dy I2 rx ry S2 er2 r1 r2 h2 => ?_)
  obtain ⟨d, hd, h3⟩ := h2.ofO
  exact bin_ok hd hK S2 (view_ok S2 r1) (view_ok S2 r2) (fun H' v S' E' r => h3 H' m2 S' E' v r) I2 rx ry
theorem se_cmpC {op : CmpOp} (hK : X.K = G.K) (hu : X.A.units + 66 < cLine) (ha : PE X e (tE G b W f)) (hb : PE X e' (tE G b W g)) (pins s σ H) (Q : VK) (I : Inv X pins σ H s)
    (h : tE G b W (fun ρ => M.thn (f ρ) fun x => M.thn (g ρ) fun y => fun st => M.ofO ((cmpD op (view st x) (view st y)).map .bl) st) σ H Q) :
    wpAny (model X.prog X.w) X.A (eval e X.env) (fun v s₁ => wpAny (model X.prog X.w) X.A (eval e' X.env) (fun u s₂ => wpAny (model X.prog X.w) X.A (compareOp op v u) (fun w s₃ => ∃ k H', w = .bool k ∧ Inv X pins σ H' s₃ ∧ Q (.bl k) H') X.xe s₂) X.xe s₁) X.xe s := by
  obtain ⟨ρ, m, st, er, S, h⟩ := h
  refine two ha hb I er S h fun v u s2 x y H2 m2 st2 dx dy I2 rx ry S2 er2 r1 r2 h2 => ?_
  obtain ⟨d, hd, h3⟩ := h2.ofO
  obtain ⟨k, hk, rfl⟩ := Option.map_eq_some_iff.mp hd
  refine thn (cmp_ok (Q := fun v H' => v = .bl k ∧ Q (.bl k) H') hk hu hK (view_ok S2 r1) (view_ok S2 r2) I2 rx ry ⟨rfl, h3.ret S2 _ (.bl k)⟩) fun w s3 hw => ?_
  obtain ⟨v', H', I', r', e1, q⟩ := hw
  subst e1
  exact ⟨k, H', r', I', q⟩
theorem se_cmp {op : CmpOp} (hK : X.K = G.K) (hu : X.A.units + 66 < cLine) (ha : PE X e (tE G b W f)) (hb : PE X e' (tE G b W g)) (hm : behindInMarks op e' = false) :
    PE X (.Compare e [op] [e'] pos) (tE G b W fun ρ => M.thn (f ρ) fun x => M.thn (g ρ) fun y => fun st => M.ofO ((cmpD op (view st x) (view st y)).map .bl) st) := by
  refine ⟨fun pins s σ H Q I h => wpAny_Compare1 ?_ hm⟩
  refine thn (se_cmpC hK hu ha hb pins s σ H Q I h) fun v s1 h1 => thn h1 fun u s2 h2 => thn h2 fun w s3 h3 => ?_
  obtain ⟨k, H', rfl, I', q⟩ := h3
  exact ⟨.bl k, H', I', rfl, q⟩
/-- an expression asked for a truth -/
theorem tB.asE {fb : Env → M D} {Q : Bool → Hp → Prop} (h : Ev.tB G b W (fun ρ => M.thn (fb ρ) asB) σ H Q) : tE G b W fb σ H (fun x H1 => ∃ c, x = .bl c ∧ Q c H1) := by
  obtain ⟨ρ, m, st, er, S, h⟩ := h
  refine (tE.go er S h).mono fun x H1 q => ?_
  obtain ⟨m1, st1, dx, S1, E1, rx, h1⟩ := q
  cases dx with
  | bl k =>
    cases rx
    exact ⟨k, rfl, h1.ret S1⟩
  | _ => exact h1.elim
theorem st_cmp {op : CmpOp} (hK : X.K = G.K) (hu : X.A.units + 66 < cLine) (ha : PE X e (tE G b W f)) (hb : PE X e' (tE G b W g)) (hm : behindInMarks op e' = false) :
    PT X (.Compare e [op] [e'] pos) (Ev.tB G b W fun ρ => M.thn (M.thn (f ρ) fun x => M.thn (g ρ) fun y => fun st => M.ofO ((cmpD op (view st x) (view st y)).map .bl) st) asB) := by
  refine ⟨fun pins s σ H Q I h => ?_⟩
  have h' := tB.asE h
  refine wpAny_isTrue_Compare1 ?_ hm
  refine thn (se_cmpC hK hu ha hb pins s σ H _ I h') fun v s1 h1 => thn h1 fun u s2 h2 => thn h2 fun w s3 h3 => ?_
  obtain ⟨k, H', rfl, I', c, e1, q⟩ := h3
  cases e1
  exact wpAny_truthy_bool ⟨H', I', q⟩
theorem st_val {fb : Env → M D} (h : PE X e (tE G b W fb)) (he : ∀ whole, isTrue e X.env whole = (do let v ← whole; standAt e.pos; holding [v] (truthy v))) : PT X e (Ev.tB G b W fun ρ => M.thn (fb ρ) asB) :=
  ofT (pt_val h he) fun σ H Q q => tB.asE q
theorem se_not {t : Env → M Bool} {fb : Env → M D} (h : PE X e (tE G b W fb)) : PE X (.UnaryOp .Not e pos) (tE G b W fun ρ => M.thn (M.thn (fb ρ) asB) fun k => M.ret (.bl (!k))) := by
  refine ofE (pe_not h) fun σ H Q q => ?_
  obtain ⟨ρ, m, st, er, S, h⟩ := q
  have h1 := tB.asE (tB.go (f := fun ρ => M.thn (fb ρ) asB) er S h)
  refine h1.mono fun x H1 q => ?_
  obtain ⟨c, rfl, m1, st1, S1, E1, h2⟩ := q
  exact ⟨c, rfl, h2.ret S1 _ (.bl _)⟩
theorem st_not {fb : Env → M D} (h : PT X e (Ev.tB G b W fun ρ => M.thn (fb ρ) asB)) : PT X (.UnaryOp .Not e pos) (Ev.tB G b W fun ρ => M.thn (M.thn (M.thn (fb ρ) asB) fun k => M.ret (.bl (!k))) asB) := by
  refine ofT (pt_not h) fun σ H Q q => ?_
  obtain ⟨ρ, m, st, er, S, h⟩ := q
  have h0 : After G b H m st (We G W σ) (fun H' m' st' k => Q k H') (M.thn (M.thn (fb ρ) asB) (fun k => M.ret (!k)) st) := by
    have h' := h
    simp only [thn_assoc] at h' ⊢
    exact h'
  obtain ⟨ρ', m', st', er', S', h'⟩ := tB.go (f := fun ρ => M.thn (fb ρ) asB) er S h0
  refine ⟨ρ', m', st', er', S', h'.mono (fun H1 m1 st1 k _ _ q => ?_) fun _ _ h => h⟩
  obtain ⟨m2, st2, S2, E2, h2⟩ := q
  exact h2.ret S2
end
end Ev
set_option linter.all false
set_option maxRecDepth 100000
/-! Ev5: truths, chains, items, displays, calls of built-ins. -/
namespace Ev
open PySem PySem.Spec PyProof.Rows L2
section
variable {X : Cx} {G : Gd} {b : Nat} {W : WX} {pins : List (Addr × Obj)} {s : Shared} {σ : L2.St} {H : Hp} {m : List Addr} {st : Store} {ρ : Env} {f g k : Env → M D} {e e' e2 : Expr} {pos : Pos} {es : List Expr}
abbrev bE (f : Env → M D) (ρ : Env) : M Bool := M.thn (f ρ) asB
abbrev andE (f g : Env → M D) (ρ : Env) : M D := M.thn (bE f ρ) fun k => if k then M.thn (bE g ρ) fun j => M.ret (.bl j) else M.ret (.bl false)
abbrev orE (f g : Env → M D) (ρ : Env) : M D := M.thn (bE f ρ) fun k => if k then M.ret (.bl true) else M.thn (bE g ρ) fun j => M.ret (.bl j)
theorem After.unB {R : Hp → List Addr → Store → D → Prop} {Wσ : Nat → Hp → Prop} {x : M D} (h : After G b H m st Wσ R (M.thn (M.thn x asB) (fun j => M.ret (.bl j)) st)) : After G b H m st Wσ R (x st) := by
  simp only [M.thn] at h
  cases q : x st with
  | ok d st' =>
    rw [q] at h
    cases d with
    | bl j => exact h
    | _ => exact h.elim
  | exc c st' => rw [q] at h; exact h
  | bad => rw [q] at h; exact h
theorem andB (f g : Env → M D) (ρ : Env) : M.thn (andE f g ρ) asB = M.thn (bE f ρ) fun k => if k then bE g ρ else M.ret false := by
  rw [andE, thn_assoc]
  congr 1
  funext k
  cases k with
  | true =>
    simp only [if_true, thn_assoc, thn_ret]
    congr 1
    funext d
    cases d <;> rfl
  | false => rfl
theorem orB (f g : Env → M D) (ρ : Env) : M.thn (orE f g ρ) asB = M.thn (bE f ρ) fun k => if k then M.ret true else bE g ρ := by
  rw [orE, thn_assoc]
  congr 1
  funext k
  cases k with
  | false =>
    simp only [Bool.false_eq_true, if_false, thn_assoc, thn_ret]
    congr 1
    funext d
    cases d <;> rfl
  | true => rfl
theorem se_and (ha : PE X e (tE G b W f)) (hb : PE X (.BoolOp .And (e' :: es) pos) (tE G b W g)) : PE X (.BoolOp .And (e :: e' :: es) pos) (tE G b W (andE f g)) := by
  refine ofE (pe_and ha hb) fun σ H Q q => ?_
  obtain ⟨ρ, m, st, er, S, h⟩ := q
  refine (tB.asE (tB.go (f := bE f) er S h)).mono fun x H1 q => ?_
  obtain ⟨c, rfl, m1, st1, S1, E1, h2⟩ := q
  refine ⟨c, rfl, ?_⟩
  cases c with
  | true =>
    rw [if_pos rfl]
    exact ⟨ρ, m1, st1, er.ext E1, S1, h2.unB⟩
  | false =>
    rw [if_neg Bool.false_ne_true]
    exact h2.ret S1 _ (.bl _)
theorem se_or (ha : PE X e (tE G b W f)) (hb : PE X (.BoolOp .Or (e' :: es) pos) (tE G b W g)) : PE X (.BoolOp .Or (e :: e' :: es) pos) (tE G b W (orE f g)) := by
  refine ofE (pe_or ha hb) fun σ H Q q => ?_
  obtain ⟨ρ, m, st, er, S, h⟩ := q
  refine (tB.asE (tB.go (f := bE f) er S h)).mono fun x H1 q => ?_
  obtain ⟨c, rfl, m1, st1, S1, E1, h2⟩ := q
  refine ⟨c, rfl, ?_⟩
  cases c with
  | false =>
    rw [if_neg Bool.false_ne_true]
    exact ⟨ρ, m1, st1, er.ext E1, S1, h2.unB⟩
  | true =>
    rw [if_pos rfl]
    exact h2.ret S1 _ (.bl _)
theorem sw_and (ha : PT X e (Ev.tB G b W (bE f))) (hb : PW X (.BoolOp .And (e' :: es) pos) (Ev.tB G b W (bE g))) : PW X (.BoolOp .And (e :: e' :: es) pos) (Ev.tB G b W (bE (andE f g))) := by
  refine ofW (pw_and ha hb) fun σ H Q q => ?_
  obtain ⟨ρ, m, st, er, S, h⟩ := q
  have h0 : After G b H m st (We G W σ) (fun H' m' st' k => Q k H') (M.thn (andE f g ρ) asB st) := h
  rw [andB] at h0
  obtain ⟨ρ', m', st', er', S', h'⟩ := tB.go (f := bE f) er S h0
  refine ⟨ρ', m', st', er', S', h'.mono (fun H1 m1 st1 k _ _ q => ?_) fun _ _ h => h⟩
  obtain ⟨m2, st2, S2, E2, h2⟩ := q
  cases k with
  | true => rw [if_pos rfl]; exact ⟨ρ, m2, st2, er.ext E2, S2, h2⟩
  | false => rw [if_neg Bool.false_ne_true]; exact h2.ret S2
theorem sw_or (ha : PT X e (Ev.tB G b W (bE f))) (hb : PW X (.BoolOp .Or (e' :: es) pos) (Ev.tB G b W (bE g))) : PW X (.BoolOp .Or (e :: e' :: es) pos) (Ev.tB G b W (bE (orE f g))) := by
  refine ofW (pw_or ha hb) fun σ H Q q => ?_
  obtain ⟨ρ, m, st, er, S, h⟩ := q
  have h0 : After G b H m st (We G W σ) (fun H' m' st' k => Q k H') (M.thn (orE f g ρ) asB st) := h
  rw [orB] at h0
  obtain ⟨ρ', m', st', er', S', h'⟩ := tB.go (f := bE f) er S h0
  refine ⟨ρ', m', st', er', S', h'.mono (fun H1 m1 st1 k _ _ q => ?_) fun _ _ h => h⟩
  obtain ⟨m2, st2, S2, E2, h2⟩ := q
  cases k with
  | false => rw [if_neg Bool.false_ne_true]; exact ⟨ρ, m2, st2, er.ext E2, S2, h2⟩
  | true => rw [if_pos rfl]; exact h2.ret S2
theorem se_ite {t : Env → M D} (hc : PT X e2 (Ev.tB G b W (bE t))) (ha : PE X e (tE G b W f)) (hb : PE X e' (tE G b W g)) : PE X (.IfExp e2 e e' pos) (tE G b W fun ρ => M.thn (bE t ρ) fun k => if k then f ρ else g ρ) := by
  refine ofE (pe_ifExp hc ha hb) fun σ H Q q => ?_
  obtain ⟨ρ, m, st, er, S, h⟩ := q
  obtain ⟨ρ', m', st', er', S', h'⟩ := tB.go (f := bE t) er S h
  refine ⟨ρ', m', st', er', S', h'.mono (fun H1 m1 st1 k _ _ q => ?_) fun _ _ h => h⟩
  obtain ⟨m2, st2, S2, E2, h2⟩ := q
  cases k with
  | true => rw [if_pos rfl]; exact ⟨ρ, m2, st2, er.ext E2, S2, h2⟩
  | false => rw [if_neg Bool.false_ne_true]; exact ⟨ρ, m2, st2, er.ext E2, S2, h2⟩
theorem st_ite {t : Env → M D} (hc : PT X e2 (Ev.tB G b W (bE t))) (ha : PT X e (Ev.tB G b W (bE f))) (hb : PT X e' (Ev.tB G b W (bE g))) :
    PT X (.IfExp e2 e e' pos) (Ev.tB G b W (bE fun ρ => M.thn (bE t ρ) fun k => if k then f ρ else g ρ)) := by
  refine ⟨fun pins s σ H Q I q => ?_⟩
  obtain ⟨ρ, m, st, er, S, h⟩ := q
  have h0 : After G b H m st (We G W σ) (fun H' m' st' k => Q k H') (M.thn (M.thn (bE t ρ) fun k => if k then f ρ else g ρ) asB st) := h
  rw [thn_assoc] at h0
  have hd : wpAny (model X.prog X.w) X.A (do if ← PySem.isTrue e2 X.env (eval e2 X.env) then PySem.isTrue e X.env (eval e X.env) else PySem.isTrue e' X.env (eval e' X.env)) (TP X pins σ Q) X.xe s := by
    refine wpAny_bind (thn (hc.run pins s σ H _ I (tB.go (f := bE t) er S h0)) fun k s1 hk => ?_)
    obtain ⟨H1, I1, m2, st2, S2, E2, h2⟩ := hk
    cases k with
    | true => exact ha.run pins s1 σ H1 Q I1 ⟨ρ, m2, st2, er.ext E2, S2, h2⟩
    | false => exact hb.run pins s1 σ H1 Q I1 ⟨ρ, m2, st2, er.ext E2, S2, h2⟩
  simpa only [PySem.isTrue] using hd
theorem se_neg (ha : PE X e (tE G b W f)) : PE X (.UnaryOp .USub e pos) (tE G b W fun ρ => M.thn (f ρ) fun x => match x with | .int i => M.ret (.int (-i)) | _ => M.bad) := by
  refine ofE (pe_un un_neg ha) fun σ H Q q => ?_
  obtain ⟨ρ, m, st, er, S, h⟩ := q
  refine (tE.go er S h).mono fun x H1 q => ?_
  obtain ⟨m1, st1, dx, S1, E1, rx, h2⟩ := q
  cases dx with
  | int i => cases rx; exact ⟨i, rfl, h2.ret S1 _ (.int _)⟩
  | _ => exact h2.elim
theorem se_idx (hK : X.K = G.K) (ha : PE X e (tE G b W f)) (hb : PE X e' (tE G b W g)) (hp : PlainIx e') :
    PE X (.Subscript e e' pos) (tE G b W fun ρ => M.thn (f ρ) fun x => M.thn (g ρ) fun y => fun st => M.ofO (idxD (view st x) y) st) := by
  refine ofE (pe_ix ix_seq ha hb hp) fun σ H Q q => ?_
  obtain ⟨ρ, m, st, er, S, h⟩ := q
  refine (tE.go er S h).mono fun x H1 q => ?_
  obtain ⟨m1, st1, dx, S1, E1, rx, h1⟩ := q
  refine (tE.go (er.ext E1) S1 h1).mono fun y H2 q => ?_
  obtain ⟨m2, st2, dy, S2, E2, ry, h2⟩ := q
  obtain ⟨d, hd, h3⟩ := h2.ofO
  obtain ⟨w, hw, hq⟩ := idx_ok hd hK S2 (view_ok S2 (rx.ext E2)) ry
  exact hq Q (h3.ret S2 w hw)
/-- a part of a slice -/
def tOp_ (G : Gd) (b : Nat) (W : WX) (f : Env → M (Option Int)) : TO := fun σ H Q => ∃ ρ m st, EnvR G H m st σ ρ ∧ Sim G H m st ∧ After G b H m st (We G W σ) (fun H' m' st' k => Q k H') (f ρ st)
theorem tOp_.go {β : Type} {R : Hp → List Addr → Store → β → Prop} {f : Env → M (Option Int)} {g : Option Int → M β} (er : EnvR G H m st σ ρ) (S : Sim G H m st) (h : After G b H m st (We G W σ) R (M.thn (f ρ) g st)) :
    tOp_ G b W f σ H (fun k H' => ∃ m' st', Sim G H' m' st' ∧ Ext G b H m st H' m' st' ∧ After G b H' m' st' (We G W σ) R (g k st')) :=
  ⟨ρ, m, st, er, S, (h.thn S).mono (fun H' m' st' d s' e h => ⟨m', st', s', e, h⟩) fun _ _ h => h⟩
theorem tOp_.mono {f : Env → M (Option Int)} {Q Q' : Option Int → Hp → Prop} (h : tOp_ G b W f σ H Q) (q : ∀ k H', Q k H' → Q' k H') : tOp_ G b W f σ H Q' := by
  obtain ⟨ρ, m, st, er, S, h⟩ := h
  exact ⟨ρ, m, st, er, S, h.mono (fun H' m' st' d _ _ h => q _ _ h) fun _ _ h => h⟩
theorem so_none : PO X none (tOp_ G b W fun _ => M.ret none) := ⟨fun pins s σ H Q I h => by
  obtain ⟨ρ, m, st, er, S, h⟩ := h
  exact po_none.run pins s σ H Q I (h.ret S)⟩
theorem so_some (ha : PE X e (tE G b W f)) : PO X (some e) (tOp_ G b W fun ρ => M.thn (f ρ) asI) := ⟨fun pins s σ H Q I h => by
  obtain ⟨ρ, m, st, er, S, h⟩ := h
  refine (po_some ha).run pins s σ H Q I ((tE.go er S h).mono fun x H1 q => ?_)
  obtain ⟨m1, st1, dx, S1, E1, rx, h2⟩ := q
  cases dx with
  | int i => cases rx; exact ⟨i, rfl, h2.ret S1⟩
  | _ => exact h2.elim⟩
theorem se_slc {lo hi : Option Expr} {fl fh : Env → M (Option Int)} {p2 : Pos} (hK : X.K = G.K) (ha : PE X e (tE G b W f)) (hl : PO X lo (tOp_ G b W fl)) (hh : PO X hi (tOp_ G b W fh)) :
    PE X (.Subscript e (.Slice lo hi none p2) pos) (tE G b W fun ρ => M.thn (f ρ) fun x => M.thn (fl ρ) fun l => M.thn (fh ρ) fun h => fun st => M.ofO (slcD (view st x) l h) st) := by
  refine ofE (pe_slice sl_D ha hl hh) fun σ H Q q => ?_
  obtain ⟨ρ, m, st, er, S, h⟩ := q
  refine (tE.go er S h).mono fun x H1 q => ?_
  obtain ⟨m1, st1, dx, S1, E1, rx, h1⟩ := q
  refine (tOp_.go (er.ext E1) S1 h1).mono fun l H2 q => ?_
  obtain ⟨m2, st2, S2, E2, h2⟩ := q
  refine (tOp_.go ((er.ext E1).ext E2) S2 h2).mono fun u H3 q => ?_
  obtain ⟨m3, st3, S3, E3, h3⟩ := q
  obtain ⟨d, hd, h4⟩ := h3.ofO
  exact slc_ok hd hK S3 (view_ok S3 ((rx.ext E2).ext E3)) fun H' v S' E' r => h4 H' m3 S' E' v r
/-! ### arguments, displays -/
theorem sa_nil : PA X [] (tEs G b W fun _ => M.ret []) := ofA pa_nil fun σ H Q q => by
  obtain ⟨ρ, m, st, er, S, h⟩ := q
  exact h.ret S [] .nil
theorem sa_cons {fs : Env → M (List D)} (ha : PE X e (tE G b W f)) (hr : PA X es (tEs G b W fs)) (hs : starEach (e :: es) X.env = (false, eval e X.env) :: starEach es X.env) :
    PA X (e :: es) (tEs G b W fun ρ => M.thn (f ρ) fun x => M.thn (fs ρ) fun xs => M.ret (x :: xs)) := by
  refine ofA (pa_cons ha hr hs) fun σ H Q q => ?_
  obtain ⟨ρ, m, st, er, S, h⟩ := q
  refine (tE.go er S h).mono fun x H1 q => ?_
  obtain ⟨m1, st1, dx, S1, E1, rx, h1⟩ := q
  obtain ⟨ρ', m', st', er', S', h'⟩ := tEs.go (er.ext E1) S1 h1
  refine ⟨ρ', m', st', er', S', h'.mono (fun H2 m2 st2 ds _ _ q vs r => ?_) fun _ _ h => h⟩
  obtain ⟨m3, st3, ds', S3, E3, r3, h3⟩ := q vs r
  exact h3.ret S3 _ (.cons (rx.ext E3) r3)
theorem tEs.mono {f : Env → M (List D)} {Q Q' : List V → Hp → Prop} (h : tEs G b W f σ H Q) (q : ∀ v H', Q v H' → Q' v H') : tEs G b W f σ H Q' := by
  obtain ⟨ρ, m, st, er, S, h⟩ := h
  exact ⟨ρ, m, st, er, S, h.mono (fun H' m' st' d _ _ h v r => q _ _ (h v r)) fun _ _ h => h⟩
theorem se_tup {fs : Env → M (List D)} {x1 : Nat} (ha : PA X es (tEs G b W fs)) : PE X (.Tuple es x1 pos) (tE G b W fun ρ => M.thn (fs ρ) fun xs => if okSize xs.length then M.ret (.tup xs) else M.bad) := by
  refine ofE (pe_tup ha) fun σ H Q q => ?_
  obtain ⟨ρ, m, st, er, S, h⟩ := q
  refine (tEs.go er S h).mono fun vs H1 q => ?_
  obtain ⟨m1, st1, ds, S1, E1, r, h1⟩ := q
  obtain ⟨hz, h2⟩ := h1.if_
  refine ⟨by rw [r.length]; exact okSize_le hz, fun p hp => ?_⟩
  exact Res2.newT (b := b) S1 (fun H' v S' E' r' => h2 H' m1 S' E' v r') hp r
/-- a list just made, at a place of its own -/
def tN (G : Gd) (b : Nat) (W : WX) (f : Env → M (List D)) : TE := fun σ H Q => ∃ ρ m st, EnvR G H m st σ ρ ∧ Sim G H m st ∧
  After G b H m st (We G W σ) (fun H' m' st' ds => ∀ p vs, H' p = none → RpAll G H' m' (Lv G m' st') vs ds → Q (.ref p) (upd H' p (.lst vs))) (f ρ st)
theorem tN.new {fs : Env → M (List D)} {Q : VK} (h : tE G b W (fun ρ => M.thn (fs ρ) fun xs => M.ret (.lst xs)) σ H Q) : tN G b W fs σ H Q := by
  obtain ⟨ρ, m, st, er, S, h⟩ := h
  refine ⟨ρ, m, st, er, S, (h.thn S).mono (fun H' m' st' ds S' E' q p vs hp r => ?_) fun _ _ h => h⟩
  exact Res2.newL (b := b) S' (fun H'' v S'' E'' r' => q H'' m' S'' E'' v r') hp r
theorem tN.newm {fs : Env → M (List D)} {Q : VK} (h : tE G b W (fun ρ => M.thn (fs ρ) fun xs => alloc (.lst xs)) σ H Q) : tN G b W fs σ H Q := by
  obtain ⟨ρ, m, st, er, S, h⟩ := h
  refine ⟨ρ, m, st, er, S, (h.thn S).mono (fun H' m' st' ds S' E' q p vs hp r => ?_) fun _ _ h => h⟩
  obtain ⟨S2, E2⟩ := S'.alloc (b := b) hp r
  refine q _ _ S2 E2 _ (.ref ?_)
  rw [← S'.len]
  simp
theorem sn_lst {fs : Env → M (List D)} (ha : PA X es (tEs G b W fs)) : PE X (.List es pos) (tN G b W fun ρ => M.thn (fs ρ) fun xs => if okSize xs.length then M.ret xs else M.bad) := by
  refine ofE (pe_lst ha) fun σ H Q q => ?_
  obtain ⟨ρ, m, st, er, S, h⟩ := q
  refine (tEs.go er S h).mono fun vs H1 q => ?_
  obtain ⟨m1, st1, ds, S1, E1, r, h1⟩ := q
  obtain ⟨hz, h2⟩ := h1.if_
  exact ⟨by rw [r.length]; exact okSize_le hz, fun p hp => h2.ret S1 p vs hp r⟩
end
end Ev
set_option linter.all false
set_option maxRecDepth 100000
/-! Ev6: chains, built-ins by name, defs of the program called. -/
namespace Ev
open PySem PySem.Spec PyProof.Rows L2
section
variable {X : Cx} {G : Gd} {b : Nat} {W : WX} {pins : List (Addr × Obj)} {s : Shared} {σ : L2.St} {H : Hp} {m : List Addr} {st : Store} {ρ : Env} {f g k : Env → M D} {e e' e2 : Expr} {pos p : Pos} {es : List Expr}
/-- a comparison by values -/
def rC (G : Gd) (op : CmpOp) : R2 := fun x y H Q => ∃ m st d e k, Rv G H m (Lv G m st) x d ∧ Rv G H m (Lv G m st) y e ∧ cmpD op d e = some k ∧ Q (.bl k) H
theorem op_C {op : CmpOp} (hK : X.K = G.K) (hu : X.A.units + 66 < cLine) : OpR X (compareOp op) (rC G op) := by
  intro pins s σ H x y v u Q I rx ry h
  obtain ⟨m, st, d, e, k, r1, r2, hk, q⟩ := h
  exact cmp_ok hk hu hK r1 r2 I rx ry q
abbrev chE (op op' : CmpOp) (f g k : Env → M D) (ρ : Env) : M D := M.thn (f ρ) fun x => M.thn (g ρ) fun y => fun st => M.thn (M.ofO (cmpD op (view st x) (view st y))) (fun c => if c then
  M.thn (k ρ) fun z => fun st => M.ofO ((cmpD op' (view st y) (view st z)).map .bl) st else M.ret (.bl false)) st
theorem ch_read {op op' : CmpOp} {Q : VK} (hK : X.K = G.K) (h : tE G b W (chE op op' f g k) σ H Q) : tChain (rC G op) (rC G op') (tE G b W f) (tE G b W g) (tE G b W k) σ H Q := by
  obtain ⟨ρ, m, st, er, S, h⟩ := h
  refine (tE.go er S h).mono fun x H1 q => ?_
  obtain ⟨m1, st1, dx, S1, E1, rx, h1⟩ := q
  refine (tE.go (er.ext E1) S1 h1).mono fun y H2 q => ?_
  obtain ⟨m2, st2, dy, S2, E2, ry, h2⟩ := q
  have h3 := h2.thn S2
  obtain ⟨c, hc, h4⟩ := h3.ofO
  refine ⟨m2, st2, _, _, c, view_ok S2 (rx.ext E2), view_ok S2 ry, hc, c, rfl, ?_⟩
  have h5 := h4.ret S2
  cases c with
  | true =>
    rw [if_pos rfl]
    refine (tE.go ((er.ext E1).ext E2) S2 h5).mono fun z H3 q => ?_
    obtain ⟨m3, st3, dz, S3, E3, rz, h6⟩ := q
    obtain ⟨d, hd, h7⟩ := h6.ofO
    obtain ⟨j, hj, rfl⟩ := Option.map_eq_some_iff.mp hd
    exact ⟨m3, st3, _, _, j, view_ok S3 (ry.ext E3), view_ok S3 rz, hj, h7.ret S3 _ (.bl j)⟩
  | false =>
    rw [if_neg Bool.false_ne_true]
    exact h5.ret S2 _ (.bl false)
theorem se_ch {op op' : CmpOp} (hK : X.K = G.K) (hu : X.A.units + 66 < cLine) (ha : PE X e (tE G b W f)) (hb : PE X e' (tE G b W g)) (hc : PE X e2 (tE G b W k)) (hm : lastMarks [op, op'] [e', e2] = false) :
    PE X (.Compare e [op, op'] [e', e2] pos) (tE G b W (chE op op' f g k)) := ofE (pe_chain (op_C hK hu) (op_C hK hu) ha hb hc hm) fun σ H Q q => ch_read hK q
theorem st_ch {op op' : CmpOp} (hK : X.K = G.K) (hu : X.A.units + 66 < cLine) (ha : PE X e (tE G b W f)) (hb : PE X e' (tE G b W g)) (hc : PE X e2 (tE G b W k)) (hm : lastMarks [op, op'] [e', e2] = false) :
    PT X (.Compare e [op, op'] [e', e2] pos) (Ev.tB G b W (bE (chE op op' f g k))) := ofT (pt_chain (op_C hK hu) (op_C hK hu) ha hb hc hm) fun σ H Q q => by
  exact ch_read hK (tB.asE q)
theorem se_frz (ha : PE X e (tE G b W f)) : PE X e (tE G b W fun ρ => M.thn (f ρ) fun x => fun st => match x with
    | .ref l => match st[l]? with
      | some (.lst xs) => .ok (.lst xs) (st.set l .dead)
      | some (.dct ks vs) => .ok (.dct ks vs) (st.set l .dead)
      | _ => .bad
    | _ => .bad) := by
  refine ofE ha fun σ H Q q => ?_
  obtain ⟨ρ, m, st, er, S, h⟩ := q
  refine (tE.go er S h).mono fun x H1 q => ?_
  obtain ⟨m1, st1, dx, S1, E1, rx, h1⟩ := q
  cases dx with
  | ref l =>
    cases rx with
    | ref hm =>
      cases q : st1[l]? with
      | none => simp only [q] at h1; exact h1.elim
      | some c =>
        cases c with
        | dead => simp only [q] at h1; exact h1.elim
        | lst ds =>
          simp only [q] at h1
          obtain ⟨S2, E2, r2⟩ := S1.freeze (b := b) q hm
          exact h1 _ _ S2 E2 _ r2
        | dct ks vs => exact (S1.cell l _ _ q hm).elim
  | _ => exact h1.elim

/-! ### built-ins -/
def bltN : Blt → Str
  | .len => "len" | .abs => "abs" | .int => "int" | .sum => "sum" | .max => "max" | .any => "any" | .all => "all" | .repr => "repr" | .isi _ => "isinstance" | .tuple => "tuple"
theorem bltN_boot (bl : Blt) : bootBuiltins (bltN bl) = some (bltV bl) := by
  cases bl <;> first | (show bootBuiltins _ = some _; decide +kernel) | exact (show bootBuiltins "isinstance" = some (.builtin "isinstance") by decide +kernel)
theorem bltN_ok (bl : Blt) : bltN bl ≠ "__name__" ∧ (bltN bl == ("__debug__" : Str)) = false := by
  cases bl <;> (constructor <;> (show _; simp only [bltN]; decide +kernel))
theorem tyN_boot (t : Ty) (ht : t ≠ .none) : bootBuiltins (Str.ofString t.name) = some (.type t.name) := by
  cases t <;> first | exact absurd rfl ht | (show bootBuiltins _ = some _; simp only [Ty.name]; decide +kernel)
theorem tyN_ok (t : Ty) : Str.ofString t.name ≠ "__name__" ∧ (Str.ofString t.name == ("__debug__" : Str)) = false := by
  cases t <;> (constructor <;> (simp only [Ty.name]; decide +kernel))
/-- the written arguments of a built-in -/
inductive BltArgs : Blt → Expr → List Expr → Prop
  | one {bl : Blt} {e : Expr} : bltMore bl = [] → BltArgs bl e [e]
  | isi {t : Ty} {e : Expr} {p : Pos} : t ≠ .none → BltArgs (.isi t) e [e, .Name (Str.ofString t.name) p]
theorem se_blt {bl : Blt} (hK : X.K = G.K) (hu : X.A.units + 66 < cLine) (hg : bl = .repr → X.A.guards = some []) (hc : X.calm = true) (ha : PE X e (tE G b W f)) (hs : ∀ es, starEach (e :: es) X.env = (false, eval e X.env) :: starEach es X.env)
    (h1 : Gl X (bltN bl)) (h2 : X.mg (bltN bl) = none) (hes : BltArgs bl e es) (h3 : ∀ t, bl = .isi t → Gl X (Str.ofString t.name) ∧ X.mg (Str.ofString t.name) = none) :
    PE X (.Call (.Name (bltN bl) p) es [] pos) (tE G b W fun ρ => M.thn (f ρ) fun x => fun st => M.ofO (bltD bl (view st x)) st) := by
  refine ⟨fun pins s σ H Q I h => ?_⟩
  obtain ⟨ρ, m, st, er, S, h⟩ := h
  have hst : ∃ rest, es = e :: rest ∧ (backTo pos (starEach rest X.env)).any (·.1) = false := by
    cases hes with
    | one _ => exact ⟨[], rfl, rfl⟩
    | isi _ => exact ⟨_, rfl, rfl⟩
  have args : ∃ ta : TA, PA X es ta ∧ ∀ (Q : List V → Hp → Prop), tE G b W f σ H (fun x H1 => Q (x :: bltMore bl) H1) → ta σ H Q := by
    cases hes with
    | one hm => exact ⟨_, pa_cons ha pa_nil (hs _), fun Q q => q.mono fun x H1 q => by rw [hm] at q; exact q⟩
    | @isi t _ p' ht =>
      have hT := h3 t rfl
      have pT : PE X (.Name (Str.ofString t.name) p') (tC (.ty t.name)) := pe_bltn hT.1 hT.2 (tyN_boot t ht) rfl (tyN_ok t).1 (tyN_ok t).2
      exact ⟨_, pa_cons ha (pa_cons pT pa_nil rfl) (hs _), fun Q q => q⟩
  obtain ⟨ta, hta, hread⟩ := args
  obtain ⟨rest, he, hpl⟩ := hst
  have run : wpAny (model X.prog X.w) X.A (spliced (backTo pos (starEach es X.env))) (fun us s1 => wpAny (model X.prog X.w) X.A (call (bltV bl) us) (EP X pins σ Q) X.xe s1) X.xe s := by
    have q0 : ta σ H (fun vs H1 => ∃ x, vs = x :: bltMore bl ∧ ∃ m' st' d, Sim G H1 m' st' ∧ Ext G b H m st H1 m' st' ∧ Rp G H1 m' (Lv G m' st') x d ∧
        After G b H1 m' st' (We G W σ) (fun H' m' st' d => ∀ v, Rp G H' m' (Lv G m' st') v d → Q v H') (M.ofO (bltD bl (view st' d)) st')) :=
      hread _ ((tE.go er S h).mono fun x H1 q => ⟨x, rfl, q⟩)
    refine thn (hta.run pos pins s σ H _ I q0) fun us s1 hh => ?_
    obtain ⟨vs, H1, I1, r, x, rfl, m1, st1, d, S1, E1, rx, h2⟩ := hh
    obtain ⟨o, ho, h3⟩ := h2.ofO
    exact blt_ok ho hu hg hc hK S1 (view_ok S1 rx) (fun H' v S' E' r => h3 H' m1 S' E' v r) I1 r
  refine wpAny_Call_Name_kw (ld_blt I h1 h2 (bltN_boot bl) ?_ (bltN_ok bl).1 (bltN_ok bl).2)
  subst he
  have builtin : ∀ id, bltV bl = .builtin id → wpAny (model X.prog X.w) X.A (callWith pos (bltV bl) [] (backTo pos (starEach (e :: rest) X.env)) (backToKw pos (keywordEach [] X.env))) (EP X pins σ Q) X.xe s := fun id q => by
    rw [q] at run ⊢
    exact PyProof.Rows.callWith_builtin1 run (hs _) hpl
  have typ : ∀ T, bltV bl = .type T → wpAny (model X.prog X.w) X.A (callWith pos (bltV bl) [] (backTo pos (starEach (e :: rest) X.env)) (backToKw pos (keywordEach [] X.env))) (EP X pins σ Q) X.xe s := fun T q => by
    rw [q] at run ⊢
    exact PyProof.Rows.callWith_type1 run (hs _) hpl
  cases bl with
  | int => exact typ _ rfl
  | tuple => exact typ _ rfl
  | len => exact builtin _ rfl
  | abs => exact builtin _ rfl
  | sum => exact builtin _ rfl
  | max => exact builtin _ rfl
  | any => exact builtin _ rfl
  | all => exact builtin _ rfl
  | repr => exact builtin _ rfl
  | isi t => exact builtin _ rfl
end
end Ev
set_option linter.all false
set_option maxRecDepth 100000
/-! Ev7: a def of the program: called, run, left. -/
namespace Ev
open PySem PySem.Spec PyProof.Rows L2
section
variable {G : Gd} {b : Nat} {H H' : Hp} {m m' : List Addr} {st st' : Store}
theorem Ext.any (e : Ext G st.length H m st H' m' st') : Ext G b H m st H' m' st' :=
  ⟨e.keep, e.pre, e.res, fun l n c c' _ h1 h2 h3 => e.low l n c c' (List.getElem?_eq_some_iff.mp h1).1 h1 h2 h3⟩
theorem After.any {α : Type} {R : Hp → List Addr → Store → α → Prop} {W : Nat → Hp → Prop} {r : Res α} (h : After G b H m st W R r) : After G st.length H m st W R r := by
  cases r with
  | ok d st' => exact fun H' m' s e => h H' m' s e.any
  | exc c st' => exact fun H' m' s e => h H' m' s e.any
  | bad => exact h
theorem Cell.low_of (S : Sim G H m st) {l : Nat} {c : Cell} (h : st[l]? = some c) : c.low st.length = true := by
  obtain ⟨a, ha⟩ := S.addr h
  have r := S.cell l c a h ha
  cases c with
  | dead => rfl
  | lst ds =>
    obtain ⟨xs, _, r⟩ := r
    have := r.low
    rw [S.len] at this
    exact this
  | dct _ _ => exact r.elim
theorem take_get {α : Type} {l : List α} {n i : Nat} {x : α} (h : (l.take n)[i]? = some x) : i < n ∧ l[i]? = some x := by
  rw [List.getElem?_take] at h
  split at h
  · exact ⟨by assumption, h⟩
  · cases h
/-- what a frame made is let go -/
theorem Sim.cut (S : Sim G H m st) (S' : Sim G H' m' st') (E : Ext G st.length H m st H' m' st') :
    Sim G H' (m'.take st.length) (st'.take st.length) ∧ Ext G st.length H m st H' (m'.take st.length) (st'.take st.length) ∧ ∀ {v : V} {d : D}, d.low st.length = true → Rp G H' m' (Lv G m' st') v d → Rp G H' (m'.take st.length) (Lv G (m'.take st.length) (st'.take st.length)) v d := by
  have lv : ∀ a, Lv G (m'.take st.length) (st'.take st.length) a → Lv G m' st' a := fun a h => by
    rcases h with ⟨l, xs, h1, h2⟩ | h
    · exact .inl ⟨l, xs, (take_get h1).2, (take_get h2).2⟩
    · exact .inr h
  have hlen := E.length S S'
  have hm : m'.length = st'.length := S'.len
  refine ⟨⟨by simp [hm], ?_, fun a h => S'.dom a (List.mem_of_mem_take h), fun l c a h1 h2 => ?_, fun a h => ⟨(S'.res a h).1, fun q => (S'.res a h).2 (List.mem_of_mem_take q)⟩, fun a h => S'.nt a (h.imp List.mem_of_mem_take id), S'.tab⟩, ⟨fun a f => ⟨(E.keep a f).1, fun q => (E.keep a f).2 (lv a q)⟩, fun l a h => ?_, E.res, fun l n c c' hl h1 h2 h3 => E.low l n c c' hl h1 (take_get h2).2 h3⟩,
    fun {v d} hd r => (r.cut hd).mono (fun a f => ⟨rfl, fun q => f.2 (lv a q)⟩) fun _ _ h => h⟩
  · exact S'.nd.sublist (List.take_sublist _ _)
  · obtain ⟨hl, h1'⟩ := take_get h1
    obtain ⟨_, h2'⟩ := take_get h2
    have r := S'.cell l c a h1' h2'
    cases c with
    | dead => trivial
    | lst ds =>
      obtain ⟨xs, e, r⟩ := r
      have hlow : D.lows st.length ds = true := E.low l st.length st[l] (.lst ds) hl (List.getElem?_eq_getElem hl) h1' (Cell.low_of S (List.getElem?_eq_getElem hl))
      exact ⟨xs, e, (r.cut hlow).mono (fun a f => ⟨rfl, fun q => f.2 (lv a q)⟩) fun _ _ h => h⟩
    | dct _ _ => exact r
  · have hl : l < st.length := by rw [← S.len]; exact (List.getElem?_eq_some_iff.mp h).1
    rw [List.getElem?_take, if_pos hl]
    exact E.pre l a h
/-- .. but one thing, which is handed out -/
theorem Sim.cutMove (S : Sim G H m st) (S' : Sim G H' m' st') (E : Ext G st.length H m st H' m' st') {l : Nat} {c : Cell} {a : Addr} (hl : st.length ≤ l) (h1 : st'[l]? = some c) (h2 : m'[l]? = some a) (hc : c.plain = true) :
    Sim G H' (m'.take st.length ++ [a]) (st'.take st.length ++ [c]) ∧ Ext G st.length H m st H' (m'.take st.length ++ [a]) (st'.take st.length ++ [c]) ∧
      Rp G H' (m'.take st.length ++ [a]) (Lv G (m'.take st.length ++ [a]) (st'.take st.length ++ [c])) (.ref a) (.ref st.length) := by
  obtain ⟨S2, E2, _⟩ := S.cut S' E
  have hlen := E.length S S'
  have hml : (m'.take st.length).length = st.length := by rw [List.length_take, S'.len]; omega
  have hsl : (st'.take st.length).length = st.length := by rw [List.length_take]; omega
  have na : a ∉ m'.take st.length := fun q => by
    obtain ⟨i, hi⟩ := List.getElem?_of_mem q
    obtain ⟨hi1, hi2⟩ := take_get hi
    obtain ⟨i1, e1⟩ := List.getElem?_eq_some_iff.mp hi2
    obtain ⟨i2, e2⟩ := List.getElem?_eq_some_iff.mp h2
    have := (List.getElem_inj S'.nd).mp (e1.trans e2.symm)
    omega
  have lv : ∀ p, Lv G (m'.take st.length ++ [a]) (st'.take st.length ++ [c]) p → Lv G m' st' p := fun p h => by
    rcases h with ⟨k, xs, g1, g2⟩ | h
    · left
      by_cases hk : k < st.length
      · rw [List.getElem?_append_left (by rw [hsl]; exact hk)] at g1
        rw [List.getElem?_append_left (by rw [hml]; exact hk)] at g2
        exact ⟨k, xs, (take_get g1).2, (take_get g2).2⟩
      · rw [List.getElem?_append_right (by rw [hsl]; omega), hsl] at g1
        rw [List.getElem?_append_right (by rw [hml]; omega), hml] at g2
        cases q : k - st.length with
        | zero =>
          rw [q] at g1 g2
          simp at g1 g2
          subst g1; subst g2
          exact ⟨l, xs, h1, h2⟩
        | succ j => rw [q] at g1; simp at g1
    · exact .inr h
  have mono : ∀ {vs : List V} {ds : List D}, D.lows st.length ds = true → RpAll G H' m' (Lv G m' st') vs ds → RpAll G H' (m'.take st.length ++ [a]) (Lv G (m'.take st.length ++ [a]) (st'.take st.length ++ [c])) vs ds := fun {vs ds} hd r =>
    (r.cut hd).mono (fun p f => ⟨rfl, fun q => f.2 (lv p q)⟩) fun i p h => by rw [List.getElem?_append_left (List.getElem?_eq_some_iff.mp h).1]; exact h
  have hlt : l < st'.length := (List.getElem?_eq_some_iff.mp h1).1
  refine ⟨⟨by simp [hml, hsl], nodup_snoc S2.nd na, fun p h => ?_, fun k c' p g1 g2 => ?_, fun p h => ⟨(S'.res p h).1, fun q => ?_⟩, fun p h => S'.nt p (h.imp (fun h => (List.mem_append.mp h).elim List.mem_of_mem_take fun z => by simp at z; subst z; exact List.mem_of_getElem? h2) id), S'.tab⟩, ⟨fun p f => ⟨(E.keep p f).1, fun q => (E.keep p f).2 (lv p q)⟩, fun k p h => ?_, E.res, fun k n c1 c2 hk g1 g2 g3 => ?_⟩, .ref ?_⟩
  · rcases List.mem_append.mp h with h | h
    · exact S2.dom p h
    · simp at h; subst h; exact S'.dom _ (List.mem_of_getElem? h2)
  · by_cases hk : k < st.length
    · rw [List.getElem?_append_left (by rw [hsl]; exact hk)] at g1
      rw [List.getElem?_append_left (by rw [hml]; exact hk)] at g2
      have r := S'.cell k c' p (take_get g1).2 (take_get g2).2
      cases c' with
      | dead => trivial
      | lst ds =>
        obtain ⟨xs, e, r⟩ := r
        exact ⟨xs, e, mono (E.low k st.length st[k] (.lst ds) hk (List.getElem?_eq_getElem hk) (take_get g1).2 (Cell.low_of S (List.getElem?_eq_getElem hk))) r⟩
      | dct _ _ => exact r
    · rw [List.getElem?_append_right (by rw [hsl]; omega), hsl] at g1
      rw [List.getElem?_append_right (by rw [hml]; omega), hml] at g2
      cases q : k - st.length with
      | zero =>
        rw [q] at g1 g2
        simp at g1 g2
        subst g1; subst g2
        have r := S'.cell l c a h1 h2
        cases c with
        | dead => trivial
        | lst ds =>
          obtain ⟨xs, e, r⟩ := r
          exact ⟨xs, e, mono (D.lows_plain _ _ hc) r⟩
        | dct _ _ => exact r
      | succ j => rw [q] at g1; simp at g1
  · rcases List.mem_append.mp q with q | q
    · exact (S'.res p h).2 (List.mem_of_mem_take q)
    · simp at q; subst q; exact (S'.res _ h).2 (List.mem_of_getElem? h2)
  · have hk : k < st.length := by rw [← S.len]; exact (List.getElem?_eq_some_iff.mp h).1
    rw [List.getElem?_append_left (by rw [hml]; exact hk), List.getElem?_take, if_pos hk]
    exact E.pre k p h
  · have hk' : k < st.length := (List.getElem?_eq_some_iff.mp g1).1
    rw [List.getElem?_append_left (by rw [hsl]; exact hk')] at g2
    exact E.low k n c1 c2 hk g1 (take_get g2).2 g3
  · have e : (m'.take st.length)[st.length]? = none := List.getElem?_eq_none_iff.mpr (by rw [hml]; exact Nat.le_refl _)
    rw [List.getElem?_append_right (by rw [hml]; exact Nat.le_refl _), hml]
    simp
/-- a frame is left -/
theorem leave_ok {W : Nat → Hp → Prop} {R : Hp → List Addr → Store → D → Prop} {d : D} (S : Sim G H m st) (h : After G st.length H m st W R (leave st.length d st')) (S' : Sim G H' m' st') (E : Ext G st.length H m st H' m' st') {v : V} (r : Rp G H' m' (Lv G m' st') v d) :
    ∃ m2 st2 d2, R H' m2 st2 d2 ∧ Rp G H' m2 (Lv G m2 st2) v d2 := by
  obtain ⟨S2, E2, C2⟩ := S.cut S' E
  unfold leave at h
  split at h
  · exact ⟨m', st', d, h H' m' S' E, r⟩
  · split at h
    · rename_i hp
      exact ⟨_, _, d, h H' _ S2 E2, C2 (D.low_plain _ _ hp) r⟩
    · split at h
      · rename_i l
        split at h
        · rename_i hl
          exact ⟨_, _, _, h H' _ S2 E2, C2 (decide_eq_true hl) r⟩
        · rename_i hl
          split at h
          · rename_i c hc
            split at h
            · rename_i hp
              cases r with
              | ref ha =>
                obtain ⟨S3, E3, r3⟩ := S.cutMove S' E (by omega) hc ha hp
                exact ⟨_, _, _, h H' _ S3 E3, r3⟩
            · exact h.elim
          · exact h.elim
      · exact h.elim
end

/-- a def's run, by the small language -/
def RunG (Pr : Program) (w : World) (K : PySem.W.Frag) (mg : Str → Option Value) (base : Heap) (fa : Nat → Addr → Prop) (ec : Ecl) (gq : Bool) (call : List D → M D) (k : Nat) (a : Addr) (fd : FuncData) (ps : List Str) : Prop :=
  ∀ (A : Around) (outer : List PySem.Env) (s : Shared) (H : Hp) (us : List Value) (vs : List V) (Q : VK) (E : XK) (ex : List Addr) (ds : List D) (m : List Addr) (st : Store),
    Room k A → (gq = true → A.guards = some []) → Env0 Pr w K mg base A outer s H → BindsTo s fd ⟨us, []⟩ (ps.zip us) → Vals vs us → us.length = ps.length →
    Sim ⟨K, fa, ec, ex⟩ H m st → RpAll ⟨K, fa, ec, ex⟩ H m (Lv ⟨K, fa, ec, ex⟩ m st) vs ds →
    After ⟨K, fa, ec, ex⟩ st.length H m st (fun c H' => ∀ a, ec c a → E (.ref a) none H') (fun H' m' st' d => ∀ v, Rp ⟨K, fa, ec, ex⟩ H' m' (Lv ⟨K, fa, ec, ex⟩ m' st') v d → Q v H') (call ds st) →
    codeAny (model Pr w) A (.call (.ref a) ⟨us, []⟩) (CR (L2.CX Pr w) outer Pr w H s Q E) s
/-- a def as it stands, and how it runs -/
structure CallG (Pr : Program) (w : World) (K : PySem.W.Frag) (mg : Str → Option Value) (base : Heap) (fa : Nat → Addr → Prop) (ec : Ecl) (gq : Bool) (call : Nat → List D → M D) (k : Nat) (f : Nat) (F : Fn) : Prop where
  there : ∃ (a : Addr) (fd : FuncData), mg F.name = some (.ref a) ∧ fa f a ∧ PySem.W.keepIn K (.ref a) = true ∧ Binds K fd F.ps [] ∧ RunG Pr w K mg base fa ec gq (call f) k a fd F.ps
  len : ∀ ds st, call f ds st ≠ .bad → ds.length = F.ps.length
  uniq : ∀ a a', fa f a → fa f a' → a = a'
section
variable {X : Cx} {fa : Nat → Addr → Prop} {ec : Ecl} {ex : List Addr} {b k : Nat} {gq : Bool} {W : WX} {call : Nat → List D → M D} {f : Nat} {F : Fn} {fs : Ev.Env → M (List D)} {es : List Expr} {p pos : Pos}
theorem run_call {pins : List (Addr × Obj)} {s : Shared} {σ : L2.St} {H : Hp} {m : List Addr} {st : Store} {Q : VK} {a : Addr} {fd : FuncData} {us : List Value} {vs : List V} {ds : List D} (run : RunG X.prog X.w X.K X.mg X.base fa ec gq (call f) k a fd F.ps) (bi : Binds X.K fd F.ps [])
    (len : ∀ ds st, call f ds st ≠ .bad → ds.length = F.ps.length) (hr : Room k X.A) (hg : gq = true → X.A.guards = some []) (tk : Takes X W) (I : Inv X pins σ H s) (r : Vals vs us) (S : Sim ⟨X.K, fa, ec, ex⟩ H m st) (rp : RpAll ⟨X.K, fa, ec, ex⟩ H m (Lv ⟨X.K, fa, ec, ex⟩ m st) vs ds)
    (h : After ⟨X.K, fa, ec, ex⟩ b H m st (We ⟨X.K, fa, ec, ex⟩ W σ) (fun H' m' st' d => ∀ v, Rp ⟨X.K, fa, ec, ex⟩ H' m' (Lv ⟨X.K, fa, ec, ex⟩ m' st') v d → Q v H') (call f ds st)) :
    wpAny (model X.prog X.w) X.A (PySem.call (.ref a) us) (EP X pins σ Q) X.xe s := by
  have hne : call f ds st ≠ .bad := fun q => by rw [q] at h; exact h
  have hl : us.length = F.ps.length := by rw [← r.length, rp.length]; exact len ds st hne
  have hb := bi s us I.kIn (by rw [List.append_nil]; exact hl)
  rw [List.append_nil] at hb
  refine wpAny_call (codeAny_mono (run X.A X.stack s H us vs Q (fun cls d H' => W cls d σ H') ex ds m st hr hg I.env0 hb r hl S rp h.any) fun r' s' hq => ?_)
  cases r' with
  | error e => exact tk e s' (XE.of_call I (fun _ _ _ h => h) hq)
  | ok fl =>
    cases fl with
    | ret u => exact I.after hq
    | next => exact hq.elim
    | brk => exact hq.elim
    | cont => exact hq.elim
theorem se_call (C : CallG X.prog X.w X.K X.mg X.base fa ec gq call k f F) (hr : Room k X.A) (hg : gq = true → X.A.guards = some []) (tk : Takes X W) (hgl : Gl X F.name) (hdb : (F.name == ("__debug__" : Str)) = false) {e : Expr}
    (ha : PA X (e :: es) (tEs ⟨X.K, fa, ec, ex⟩ b W fs)) (hst : starEach (e :: es) X.env = (false, eval e X.env) :: starEach es X.env) (hst2 : (backTo pos (starEach es X.env)).any (·.1) = false) :
    PE X (.Call (.Name F.name p) (e :: es) [] pos) (tE ⟨X.K, fa, ec, ex⟩ b W fun ρ => M.thn (fs ρ) fun xs => call f xs) := by
  refine ⟨fun pins s σ H Q I h => ?_⟩
  obtain ⟨ρ, m, st, er, S, h⟩ := h
  obtain ⟨a, fd, h1, h2, h3, h4, run⟩ := C.there
  refine wpAny_Call_Name_kw (ld_glob I hgl h1 ?_ hdb)
  refine PySem.W.callWith_K (h₀ := X.base) I.ok.mod.kin h3 (thn (ha.run pos pins s σ H _ I (tEs.go er S h)) fun us s1 hh => ?_) hst hst2
  obtain ⟨vs, H1, I1, r, m1, st1, ds, S1, E1, rp, h5⟩ := hh
  exact ⟨I1.kIn, run_call run h4 C.len hr hg tk I1 r S1 rp h5⟩
theorem se_call0 (C : CallG X.prog X.w X.K X.mg X.base fa ec gq call k f F) (hr : Room k X.A) (hg : gq = true → X.A.guards = some []) (tk : Takes X W) (hgl : Gl X F.name) (hdb : (F.name == ("__debug__" : Str)) = false) :
    PE X (.Call (.Name F.name p) [] [] pos) (tE ⟨X.K, fa, ec, ex⟩ b W fun ρ => call f []) := by
  refine ⟨fun pins s σ H Q I h => ?_⟩
  obtain ⟨ρ, m, st, er, S, h⟩ := h
  obtain ⟨a, fd, h1, h2, h3, h4, run⟩ := C.there
  refine wpAny_Call_Name_kw (ld_glob I hgl h1 ?_ hdb)
  exact PySem.W.callWith_K0 I.kIn h3 (run_call (us := []) run h4 C.len hr hg tk I .nil S .nil h)
end
end Ev
set_option linter.all false
set_option maxRecDepth 100000
/-! Ev8: what loops and comprehensions walk. -/
namespace PySem
set_option maxHeartbeats 1000000 in
theorem ev_meets_enum {v : Value} {o : Obj} {H : Heap → Prop} (B : Begins v o H) :
    Meets (Builtin.«enumerate.__new__» ⟨[.type "enumerate", v], []⟩) (fun _ R s => H s.heap ∧
      R (.ok (.ret (.ref (s.heap.push o).objs.size))) { s with heap := (s.heap.push o).push { cls := .type "enumerate", data := .fields #[.none, .bool false, .ref s.heap.objs.size, rawInt 0, .none, .none] } }) :=
  .of_wp fun prog w A R s h => by
    obtain ⟨hp, gn, dr, tk, os⟩ := s
    obtain ⟨h1, h2⟩ := h
    have hsub := sub_enumerate
    have begins : ∀ {A' : Around} {E : Value → Shared → Prop} {Q : Value → Shared → Prop}, Q (.ref hp.objs.size) ⟨hp.push o, gn, dr, tk, os⟩ → wpAny (model prog w) A' (pyIter v) Q E ⟨hp, gn, dr, tk, os⟩ :=
      fun q => B.iter prog w _ _ ⟨hp, gn, dr, tk, os⟩ _ h1 q
    wp_walk using begins
    refine wpAny_stack_any fun _ => wpAny_pure ?_
    split
    · rename_i c _ _ _ _ _
      cases (c == Value.type "enumerate")
      · wp_walk using begins
        exact ⟨_, rfl, h2⟩
      · wp_walk using begins
        exact ⟨_, rfl, h2⟩
    · wp_walk using begins
      exact ⟨_, rfl, h2⟩
theorem ev_call_enum {prog : Program} {w : World} {A : Around} {E : Value → Shared → Prop} {s : Shared} {v : Value} {o : Obj} {H : Heap → Prop} {Q : Value → Shared → Prop} (B : Begins v o H) (h1 : H s.heap)
    (h : ∀ h', IsEnum h' (s.heap.objs.size + 1) s.heap.objs.size 0 .none → h'.get? s.heap.objs.size = some o → (∀ b o, s.heap.get? b = some o → h'.get? b = some o) → Q (.ref (s.heap.objs.size + 1)) { s with heap := h' }) :
    wpAny (model prog w) A (call (.type "enumerate") [v]) Q E s := by
  refine callType_new F.called_enumerate (by decide) (F.typeCall_enumerate_1 _) (F.newCall_enumerate_1 _) (fun obj => F.args_object_init_2 obj _) F.entry_enumerate_new (ev_meets_enum B) ⟨h1, ?_⟩
  have sz : (s.heap.push o).objs.size = s.heap.objs.size + 1 := Heap.size_push ..
  have at2 := Heap.get?_push_size (s.heap.push o) (o := { cls := .type "enumerate", data := .fields #[.none, .bool false, .ref s.heap.objs.size, rawInt 0, .none, .none] }) rfl
  rw [sz] at at2
  show _ ∧ _
  rw [sz]
  exact ⟨⟨_, at2, rfl⟩, h _ at2 (Heap.get?_push_of_some _ (Heap.get?_push_size _ B.free)) fun b o' x => Heap.get?_push_of_some _ (Heap.get?_push_of_some _ x)⟩
end PySem
namespace Ev
open PySem PySem.Spec PyProof.Rows L2

/-- a tuple walked, each item in a new pair with its number -/
def IteT (K : PySem.W.Frag) (a : Addr) : L2.It :=
  ⟨fun i H => ∃ (xs : List V) (x : V), SqT K H a xs ∧ xs[i]? = some x, fun i H v H' => ∃ T x, v = .ref T ∧ H T = none ∧ H' = upd H T (.tup [.int (i : Nat), x]) ∧ ∀ xs, SqT K H a xs → xs[i]? = some x, fun i H => ∃ xs : List V, SqT K H a xs ∧ xs.length = i⟩
theorem turn_enumT {P : Program} {w : World} {K : PySem.W.Frag} {elts : List Expr} {kk : Nat} {tpos : Pos} (a e it : Addr) :
    Turn P w K (.Tuple elts kk tpos) (IteT K a) [e, it] e (fun i h => (∃ old, IsEnum h e it ((i : Nat) : Int) old) ∧ h.IsTupleIter it a i ∧ e ≠ it ∧ a ≠ it ∧ e ≠ a) where
  mem := by simp
  obj := fun i h st c hc => by
    obtain ⟨⟨old, he⟩, ⟨o, ho, _, hd⟩, _⟩ := st
    rcases (show c = e ∨ c = it by simpa using hc) with rfl | rfl
    · exact ⟨_, he, fun v q => nomatch q⟩
    · exact ⟨o, ho, fun v q => by rw [hd] at q; cases q⟩
  keep := fun i h h' ⟨⟨old, he⟩, hi, ne⟩ k => ⟨⟨old, k e (by simp) _ he⟩, hi.at fun o q => k it (by simp) o q, ne⟩
  item := by
    intro X hP hw hK hc i pins s σ H E I hf st hg
    subst hP hw hK
    obtain ⟨⟨old, he⟩, hit, ne, nai, nea⟩ := st
    obtain ⟨xs, x, hq, hx⟩ := hg
    obtain ⟨its, rv, tup, hz⟩ := I.tuple hq
    obtain ⟨u, hu, ru⟩ := rv.get hx
    have hel : e < s.heap.objs.size := Heap.lt_size he
    have hil : it < s.heap.objs.size := by obtain ⟨_, q, _⟩ := hit; exact Heap.lt_size q
    have hlt : i < its.toArray.size := by rw [List.size_toArray]; exact (List.getElem?_eq_some_iff.mp hu).1
    refine wpAny_pyNext_enum_itemC (Draws.tuple (A := X.A.in1) (I.ok.hd hc) it a nai its.toArray) he ⟨hit, tup⟩ hlt ne (by simp [ne, nea]) fun y h' tk hy ho st' hT hsz hk => ?_
    have ey : y = u := by
      have q : its[i]? = some y := by simpa using hy
      rw [hu] at q
      exact (Option.some.inj q).symm
    subst ey
    refine ⟨_, rfl, wpAny_letOwnedTupleGo_enum (s := { s with heap := h', toks := tk + 1 }) ho fun h'' he' sb => ?_⟩
    have hT2 : h''.get? s.heap.objs.size = some { cls := .type "tuple", data := .seq #[.int i tk, y] } := (sb.2 _ (Nat.ne_of_gt hel)).trans hT
    have I1 : Inv X pins σ (upd H s.heap.objs.size (.tup [.int (i : Nat), x])) { s with heap := h'', toks := tk + 1 } :=
      I.turnedNew (ch := [e, it]) (fun c ob hb q => (sb.2 c (fun z => hb (by simp [z]))).trans (hk c ob (fun z => hb (by simp [z])) (fun z => hb (by simp [z])) q)) hf (Nat.le_refl _)
        ⟨by show 2 ≤ sizeLine; decide, [.int i tk, y], .cons ⟨_, rfl⟩ (.cons ru .nil), ⟨_, hT2, rfl, _, rfl⟩⟩
    refine ⟨.ref s.heap.objs.size, _, I1, rfl, ⟨_, x, rfl, I.hok.fresh (Nat.le_refl _), rfl, fun ys hy => by rw [I.tuple_inj hy hq]; exact hx⟩, ⟨⟨y, ?_⟩, st'.1.at fun o q => (sb.2 it (Ne.symm ne)).trans q, ne, nai, nea⟩, fun c hcm => ?_⟩
    · have e1 : ((i + 1 : Nat) : Int) = (i : Int) + 1 := by omega
      rw [e1]; exact he'
    · have hcl : c < s.heap.objs.size := by
        rcases (show c = e ∨ c = it by simpa using hcm) with z | z
        · rw [z]; exact hel
        · rw [z]; exact hil
      rw [upd_ne (Nat.ne_of_lt hcl)]
      exact (hf c hcm).1
  done := by
    intro X hP hw hK hc i pins s σ H E I hf st hg
    subst hP hw hK
    obtain ⟨⟨old, he⟩, hit, ne, nai, nea⟩ := st
    obtain ⟨xs, hq, hx⟩ := hg
    obtain ⟨its, rv, tup, hz⟩ := I.tuple hq
    obtain ⟨f0, f1, f2, f3, f4, f5⟩ := hf it (by simp)
    have hl := rv.length
    have en : its.toArray.size = i := by rw [List.size_toArray]; omega
    have D := Draws.tuple (prog := X.prog) (w := X.w) (A := X.A.in1) (I.ok.hd hc) it a nai its.toArray
    refine wpAny_pyNext_enum_endD D he (by rw [en]; exact ⟨hit, tup⟩) fun h' eb => ⟨rfl, I.turned (t' := s.toks) (fun b o hb q => eb b o hb q) f0 f1 f3 f4 f5⟩
  self := fun A i s Q E st h => let ⟨⟨_, he⟩, _⟩ := st; wpAny_pyIter_enum he h
theorem walk_enumT {K : PySem.W.Frag} {a : Addr} {xs : List V} : Walk (IteT K a) xs.length (fun H => SqT K H a xs) (YPair (fun i => some (.int (i : Nat))) (fun i => xs[i]?)) := by
  refine ⟨fun i _ hi q => ⟨xs, xs[i], q, by simp [hi]⟩, fun _ q => ⟨xs, q, rfl⟩, fun i H v H' _ q y => ?_⟩
  obtain ⟨T, x, h1, h2, h3, h4⟩ := y
  exact ⟨T, .int (i : Nat), x, h1, h2, h3, rfl, h4 xs q⟩
theorem walk_zipT {K : PySem.W.Frag} {a b : Addr} {xs ys : List V} {n : Nat} (hn : n = min xs.length ys.length) : Walk (RZ.ItzT K a b) n (fun H => SqT K H a xs ∧ SqT K H b ys) (YPair (fun i => xs[i]?) (fun i => ys[i]?)) := by
  subst hn
  refine ⟨fun i _ hi q => ?_, fun _ q => ⟨xs, ys, q.1, q.2, by omega⟩, fun i H v H' _ q y => ?_⟩
  · have h1 : i < xs.length := by omega
    have h2 : i < ys.length := by omega
    exact ⟨xs, ys, xs[i], ys[i], q.1, q.2, by simp [h1], by simp [h2]⟩
  · obtain ⟨T, x, z, h1, h2, h3, h4, h5⟩ := y
    exact ⟨T, x, z, h1, h2, h3, h4 xs q.1, h5 ys q.2⟩
section
variable {X : Cx} {e e2 : Expr} {ta : TA} {p pos tpos : Pos} {elts : List Expr} {kk : Nat}
def iEnumA (K : PySem.W.Frag) (ta : TA) : TI := fun σ H R => ta σ H fun vs H1 => ∃ a xs, vs = [.ref a] ∧ ((SqL K H1 a xs ∧ R (Ite K a) H1) ∨ (SqT K H1 a xs ∧ R (IteT K a) H1))
theorem pi_enumA (hg : Gl X "enumerate") (hm : X.mg "enumerate" = none) (ha : PA X [e] ta) (hs : starEach [e] X.env = [(false, eval e X.env)]) :
    PI X (.Tuple elts kk tpos) (.Call (.Name "enumerate" p) [e] [] pos) (iEnumA X.K ta) := by
  refine ⟨fun pins s σ H R I h => ?_⟩
  refine Call_ (ld_blt I hg hm boot_enumerate (PyProof.Rows.callWith_type1 (thn (ha.run pos pins s σ H _ I h) fun us s1 ⟨vs, H1, I1, r1, q1⟩ => ?_) hs rfl))
  obtain ⟨a, xs, ex, q1⟩ := q1
  subst ex
  cases r1 with
  | cons r rr =>
    cases rr
    cases r
    have fresh2 : ∀ b ∈ [s1.heap.objs.size + 1, s1.heap.objs.size], FpOk X pins H1 b := fun b hb => by
      have e' : b = s1.heap.objs.size + 1 ∨ b = s1.heap.objs.size := by simpa using hb
      have hle : s1.heap.objs.size ≤ b := by
        rcases e' with z | z
        · rw [z]; exact Nat.le_add_right _ _
        · rw [z]; exact Nat.le_refl _
      exact I1.fpOk hle (I1.hok.fresh hle)
    rcases q1 with ⟨hq, q⟩ | ⟨hq, q⟩
    · obtain ⟨its, rv, p', hz⟩ := I1.list hq
      refine call_enumerate_list p'.isList fun h' he hit hsz hk => wpAny_pyIter_enum he ?_
      exact ⟨s1.heap.objs.size + 1, [s1.heap.objs.size + 1, s1.heap.objs.size], _, _, H1, rfl, I1.kept (t' := s1.toks) hk, turn_enum a (s1.heap.objs.size + 1) s1.heap.objs.size, ⟨⟨.none, he⟩, hit, Nat.succ_ne_self _⟩, fresh2, q⟩
    · obtain ⟨its, rv, p', hz⟩ := I1.tuple hq
      obtain ⟨o1, ho1, _⟩ := id p'
      have la := Heap.lt_size ho1
      refine ev_call_enum (begins_tuple a its.toArray) (show s1.heap.IsTuple a its.toArray from p') fun h' he hit hk => wpAny_pyIter_enum he ?_
      exact ⟨s1.heap.objs.size + 1, [s1.heap.objs.size + 1, s1.heap.objs.size], _, _, H1, rfl, I1.kept (t' := s1.toks) hk, turn_enumT a (s1.heap.objs.size + 1) s1.heap.objs.size, ⟨⟨.none, he⟩, ⟨_, hit, rfl, rfl⟩, Nat.succ_ne_self _, Nat.ne_of_lt la, Nat.ne_of_gt (Nat.lt_succ_of_lt la)⟩, fresh2, q⟩
/-- a list or a tuple walked -/
def iSeq (K : PySem.W.Frag) (tl : TE) : TI := fun σ H R => tl σ H fun x H1 => (∃ z, x = .str z ∧ R (Its z) H1) ∨ ∃ a xs, x = .ref a ∧ ((SqL K H1 a xs ∧ R (Itl K a) H1) ∨ (SqT K H1 a xs ∧ R (Itt K a) H1))
theorem pi_seq {tg : Expr} {tl : TE} (hl : PE X e tl) : PI X tg e (iSeq X.K tl) := by
  refine ⟨fun pins s σ H R I h => ?_⟩
  refine thn (hl.run pins s σ H _ I h) fun v s1 ⟨x, H1, I1, r1, q1⟩ => ?_
  rcases q1 with ⟨z, ex, q⟩ | ⟨a, xs, ex, q1⟩
  · subst ex
    obtain ⟨t, rfl⟩ := r1
    cases ha : z.cps.all (· < 128)
    · exact wpAny_pyIter_wide ha (pi_one (tk := s1.toks) I1 _ (turn_str _ z t "str_iterator" (.inr rfl)) ⟨_, Heap.get?_push_size _ rfl, rfl, rfl⟩ q)
    · exact wpAny_pyIter_ascii ha (pi_one (tk := s1.toks) I1 _ (turn_str _ z t "str_ascii_iterator" (.inl rfl)) ⟨_, Heap.get?_push_size _ rfl, rfl, rfl⟩ q)
  subst ex
  cases r1
  have fresh1 : ∀ b ∈ [s1.heap.objs.size], FpOk X pins H1 b := fun b hb => by
    have e : b = s1.heap.objs.size := by simpa using hb
    subst e
    exact I1.fpOk (Nat.le_refl _) (I1.hok.fresh (Nat.le_refl _))
  rcases q1 with ⟨hq, q⟩ | ⟨hq, q⟩
  · obtain ⟨its, rv, p, hz⟩ := I1.list hq
    refine wpAny_pyIter_list p.isList ?_
    exact ⟨s1.heap.objs.size, [s1.heap.objs.size], _, _, H1, rfl, I1.kept (t' := s1.toks) fun b o e => Heap.get?_push_of_some _ e, turn_list a _, ⟨_, Heap.get?_push_size _ rfl, rfl, rfl⟩, fresh1, q⟩
  · obtain ⟨its, rv, p, hz⟩ := I1.tuple hq
    refine wpAny_pyIter_tuple (show s1.heap.IsTuple a its.toArray from p) ?_
    exact ⟨s1.heap.objs.size, [s1.heap.objs.size], _, _, H1, rfl, I1.kept (t' := s1.toks) fun b o e => Heap.get?_push_of_some _ e, turn_tuple a _, ⟨_, Heap.get?_push_size _ rfl, rfl, rfl⟩, fresh1, q⟩
end
end Ev
set_option linter.all false
set_option maxRecDepth 100000
/-! Ev9: what a loop walks, by the small language. -/
namespace Ev
open PySem PySem.Spec PyProof.Rows L2

abbrev Gd.rs (G : Gd) (ex : List Addr) : Gd := { G with ex := ex }
section
variable {G : Gd} {H H' : Hp} {m m' : List Addr} {st st' : Store} {L L' : Addr → Prop} {ex : List Addr}
mutual
theorem Rp.exch (ex : List Addr) : ∀ {v : V} {d : D}, Rp G H m L v d → Rp (G.rs ex) H m L v d
  | _, _, .non => .non
  | _, _, .bl b => .bl b
  | _, _, .int i => .int i
  | _, _, .str s => .str s
  | _, _, .tup h hs => .tup h (RpAll.exch ex hs)
  | _, _, .lst h hs => .lst h (RpAll.exch ex hs)
  | _, _, .ref h => .ref h
  | _, _, .fn h => .fn h
  | _, _, .dct e f k => .dct e f k
theorem RpAll.exch (ex : List Addr) : ∀ {vs : List V} {ds : List D}, RpAll G H m L vs ds → RpAll (G.rs ex) H m L vs ds
  | _, _, .nil => .nil
  | _, _, .cons h hs => .cons (Rp.exch ex h) (RpAll.exch ex hs)
end
/-- later, perhaps with other lists under way -/
structure Since (G : Gd) (H : Hp) (m : List Addr) (st : Store) (ex : List Addr) (H' : Hp) (m' : List Addr) (st' : Store) : Prop where
  keep : ∀ a, Fz H (Lv G m st) a → H' a = H a ∧ ¬ Lv (G.rs ex) m' st' a
  pre : ∀ (l : Nat) (a : Addr), m[l]? = some a → m'[l]? = some a
theorem Rp.since {v : V} {d : D} (e : Since G H m st ex H' m' st') (h : Rp G H m (Lv G m st) v d) : Rp (G.rs ex) H' m' (Lv (G.rs ex) m' st') v d := (h.mono e.keep e.pre).exch ex
theorem RpAll.since {vs : List V} {ds : List D} (e : Since G H m st ex H' m' st') (h : RpAll G H m (Lv G m st) vs ds) : RpAll (G.rs ex) H' m' (Lv (G.rs ex) m' st') vs ds := (h.mono e.keep e.pre).exch ex
theorem EnvR.since {σ : List (Option V)} {ρ : Env} (e : Since G H m st ex H' m' st') (h : EnvR G H m st σ ρ) : EnvR (G.rs ex) H' m' st' σ ρ :=
  ⟨h.len, fun i d q => let ⟨v, h1, h2⟩ := h.at_ i d q; ⟨v, h1, h2.since e⟩⟩
theorem Since.of {b : Nat} (e : Ext G b H m st H' m' st') : Since G H m st G.ex H' m' st' := ⟨e.keep, e.pre⟩
theorem Since.trans {b : Nat} {H'' : Hp} {m'' : List Addr} {st'' : Store} (e : Since G H m st ex H' m' st') (e' : Ext (G.rs ex) b H' m' st' H'' m'' st'') : Since G H m st ex H'' m'' st'' :=
  ⟨fun a f => by
    have f' : Fz H' (Lv (G.rs ex) m' st') a := ⟨by rw [(e.keep a f).1]; exact f.1, (e.keep a f).2⟩
    exact ⟨((e'.keep a f').1).trans (e.keep a f).1, (e'.keep a f').2⟩, fun l a h => e'.pre l a (e.pre l a h)⟩
theorem SqLF.mono {K : PySem.W.Frag} {a : Addr} {xs : List V} (hk : ∀ a, Fz H L a → H' a = H a ∧ ¬ L' a) (h : SqLF K H L a xs) : SqLF K H' L' a xs :=
  h.elim (fun ⟨f, q⟩ => .inl ⟨⟨by rw [(hk _ f).1]; exact f.1, (hk _ f).2⟩, by
      have e := (hk _ f).1
      rcases q with q | q
      · exact .inl (by unfold Rd at q ⊢; rw [e]; exact q)
      · exact .inr q⟩) .inr
theorem SqTF.mono {K : PySem.W.Frag} {a : Addr} {xs : List V} (hk : ∀ a, Fz H L a → H' a = H a ∧ ¬ L' a) (h : SqTF K H L a xs) : SqTF K H' L' a xs :=
  h.elim (fun ⟨f, q⟩ => .inl ⟨⟨by rw [(hk _ f).1]; exact f.1, (hk _ f).2⟩, by
      have e := (hk _ f).1
      rcases q with q | q
      · exact .inl (by unfold Rd at q ⊢; rw [e]; exact q)
      · exact .inr q⟩) .inr
/-- what J gives from here on is ds -/
structure Yields (G : Gd) (H : Hp) (m : List Addr) (st : Store) (J : L2.It) (ds : List D) : Prop where
  out : ∃ (Gp : Hp → Prop) (Y : Nat → Hp → V → Hp → Prop), Walk J ds.length Gp Y ∧ ∀ ex H' m' st', Since G H m st ex H' m' st' → Sim (G.rs ex) H' m' st' → Gp H' ∧ ∀ i x H'', i < ds.length → Y i H' x H'' →
    ∃ d, ds[i]? = some d ∧ Sim (G.rs ex) H'' m' st' ∧ (∀ b, Ext (G.rs ex) b H' m' st' H'' m' st') ∧ Rp (G.rs ex) H'' m' (Lv (G.rs ex) m' st') x d
theorem RpAll.getV : ∀ {vs : List V} {ds : List D} {i : Nat} {v : V}, RpAll G H m L vs ds → vs[i]? = some v → ∃ d, ds[i]? = some d ∧ Rp G H m L v d
  | _, _, _, _, .nil, e => by simp at e
  | _, _, 0, _, .cons h _, e => by simp at e; subst e; exact ⟨_, rfl, h⟩
  | _, _, i + 1, d, .cons _ hs, e => by
    obtain ⟨v, h1, h2⟩ := RpAll.getV (i := i) (v := d) hs (by simpa using e)
    exact ⟨v, by simpa using h1, h2⟩
theorem yl_list {a : Addr} {xs : List V} {ds : List D} (hq : SqLF G.K H (Lv G m st) a xs) (r : RpAll G H m (Lv G m st) xs ds) : Yields G H m st (Itl G.K a) ds := by
  refine ⟨_, _, by rw [← r.length]; exact walk_list (xs := xs), fun ex H' m' st' e S => ⟨(hq.mono e.keep).now, fun i x H'' hi y => ?_⟩⟩
  obtain ⟨rfl, hx⟩ := y
  obtain ⟨d, hd, hr⟩ := (r.since e).getV hx
  exact ⟨d, hd, S, fun b => .refl, hr⟩
theorem yl_tup {a : Addr} {xs : List V} {ds : List D} (hq : SqTF G.K H (Lv G m st) a xs) (r : RpAll G H m (Lv G m st) xs ds) : Yields G H m st (Itt G.K a) ds := by
  refine ⟨_, _, by rw [← r.length]; exact walk_tup (xs := xs), fun ex H' m' st' e S => ⟨(hq.mono e.keep).now, fun i x H'' hi y => ?_⟩⟩
  obtain ⟨rfl, hx⟩ := y
  obtain ⟨d, hd, hr⟩ := (r.since e).getV hx
  exact ⟨d, hd, S, fun b => .refl, hr⟩
theorem yl_str {z : Str} : Yields G H m st (Its z) (z.cps.toList.map fun c => .str ⟨#[c]⟩) := by
  refine ⟨_, _, by rw [List.length_map, Array.length_toList]; exact walk_str, fun ex H' m' st' e S => ⟨trivial, fun i x H'' hi y => ?_⟩⟩
  obtain ⟨rfl, c, hc, rfl⟩ := y
  exact ⟨.str ⟨#[c]⟩, by rw [List.getElem?_map, Array.getElem?_toList, hc]; rfl, S, fun b => .refl, .str _⟩
theorem rngUp_length : ∀ (n : Nat) (lo : Int), (rngUp lo n).length = n
  | 0, _ => rfl
  | n + 1, lo => by rw [rngUp, List.length_cons, rngUp_length n]
theorem rngUp_get : ∀ (n : Nat) (lo : Int) (i : Nat), i < n → (rngUp lo n)[i]? = some (.int (lo + i))
  | 0, _, _, h => absurd h (Nat.not_lt_zero _)
  | n + 1, lo, 0, _ => by simp [rngUp]
  | n + 1, lo, i + 1, h => by
    rw [rngUp, List.getElem?_cons_succ, rngUp_get n (lo + 1) i (by omega)]
    congr 2
    have : ((i + 1 : Nat) : Int) = (i : Int) + 1 := by omega
    omega
theorem yl_rng {lo : Int} {n : Nat} : Yields G H m st (Itr lo n) (rngUp lo n) := by
  refine ⟨_, _, by rw [rngUp_length]; exact walk_range, fun ex H' m' st' e S => ⟨trivial, fun i x H'' hi y => ?_⟩⟩
  obtain ⟨rfl, rfl⟩ := y
  rw [rngUp_length] at hi
  exact ⟨_, rngUp_get n lo i hi, S, fun b => .refl, .int _⟩
theorem numUp_length : ∀ (ds : List D) (k : Nat), (numUp k ds).length = ds.length
  | [], _ => rfl
  | _ :: ds, k => by rw [numUp, List.length_cons, numUp_length ds, List.length_cons]
theorem numUp_get : ∀ (ds : List D) (k i : Nat) (d : D), ds[i]? = some d → (numUp k ds)[i]? = some (.tup [.int (k + i : Nat), d])
  | [], _, _, _, h => by simp at h
  | x :: ds, k, 0, d, h => by simp at h; subst h; rfl
  | x :: ds, k, i + 1, d, h => by
    rw [numUp, List.getElem?_cons_succ, numUp_get ds (k + 1) i d (by simpa using h)]
    have : k + 1 + i = k + (i + 1) := by omega
    rw [this]
theorem pairUp_length : ∀ (ds es : List D), (pairUp ds es).length = min ds.length es.length
  | [], _ => by simp [pairUp]
  | _ :: _, [] => by simp [pairUp]
  | _ :: ds, _ :: es => by rw [pairUp, List.length_cons, pairUp_length ds es, List.length_cons, List.length_cons]; omega
theorem pairUp_get : ∀ (ds es : List D) (i : Nat) (d e : D), ds[i]? = some d → es[i]? = some e → (pairUp ds es)[i]? = some (.tup [d, e])
  | [], _, _, _, _, h, _ => by simp at h
  | _ :: _, [], _, _, _, _, h => by simp at h
  | x :: ds, y :: es, 0, d, e, h, g => by simp at h g; subst h; subst g; rfl
  | x :: ds, y :: es, i + 1, d, e, h, g => by rw [pairUp, List.getElem?_cons_succ]; exact pairUp_get ds es i d e (by simpa using h) (by simpa using g)
/-- a new pair -/
theorem pair_new {T : Addr} {x y : V} {d e : D} (S : Sim G H m st) (hT : H T = none) (rx : Rp G H m (Lv G m st) x d) (ry : Rp G H m (Lv G m st) y e) :
    Sim G (upd H T (.tup [x, y])) m st ∧ (∀ b, Ext G b H m st (upd H T (.tup [x, y])) m st) ∧ Rp G (upd H T (.tup [x, y])) m (Lv G m st) (.ref T) (.tup [d, e]) := by
  obtain ⟨S1, E1, F1⟩ := S.new (b := 0) hT (.tup [x, y])
  refine ⟨S1, fun b => (S.new (b := b) hT (.tup [x, y])).2.1, .tup (.inl ⟨F1, SqT.of upd_same⟩) (.cons (rx.ext E1) (.cons (ry.ext E1) .nil))⟩
theorem yl_enum {a : Addr} {xs : List V} {ds : List D} (hq : SqLF G.K H (Lv G m st) a xs) (r : RpAll G H m (Lv G m st) xs ds) : Yields G H m st (Ite G.K a) (numUp 0 ds) := by
  refine ⟨_, _, by rw [numUp_length, ← r.length]; exact walk_enum (xs := xs), fun ex H' m' st' e S => ⟨(hq.mono e.keep).now, fun i x H'' hi y => ?_⟩⟩
  obtain ⟨T, u, w, rfl, hT, rfl, hu, hw⟩ := y
  cases hu
  obtain ⟨d, hd, hr⟩ := (r.since e).getV hw
  obtain ⟨S2, E2, R2⟩ := pair_new S hT (.int (i : Nat)) hr
  refine ⟨_, numUp_get ds 0 i d hd, S2, E2, ?_⟩
  rw [Nat.zero_add]; exact R2
theorem yl_enumT {a : Addr} {xs : List V} {ds : List D} (hq : SqTF G.K H (Lv G m st) a xs) (r : RpAll G H m (Lv G m st) xs ds) : Yields G H m st (IteT G.K a) (numUp 0 ds) := by
  refine ⟨_, _, by rw [numUp_length, ← r.length]; exact walk_enumT (xs := xs), fun ex H' m' st' e S => ⟨(hq.mono e.keep).now, fun i x H'' hi y => ?_⟩⟩
  obtain ⟨T, u, w, rfl, hT, rfl, hu, hw⟩ := y
  cases hu
  obtain ⟨d, hd, hr⟩ := (r.since e).getV hw
  obtain ⟨S2, E2, R2⟩ := pair_new S hT (.int (i : Nat)) hr
  refine ⟨_, numUp_get ds 0 i d hd, S2, E2, ?_⟩
  rw [Nat.zero_add]; exact R2
theorem yl_zip {a c : Addr} {xs ys : List V} {ds es : List D} (hq : SqLF G.K H (Lv G m st) a xs) (r : RpAll G H m (Lv G m st) xs ds) (hq2 : SqLF G.K H (Lv G m st) c ys) (r2 : RpAll G H m (Lv G m st) ys es) : Yields G H m st (Itz G.K a c) (pairUp ds es) := by
  refine ⟨_, _, walk_zip (xs := xs) (ys := ys) (by rw [pairUp_length, r.length, r2.length]), fun ex H' m' st' e S => ⟨⟨(hq.mono e.keep).now, (hq2.mono e.keep).now⟩, fun i x H'' hi y => ?_⟩⟩
  obtain ⟨T, u, w, rfl, hT, rfl, hu, hw⟩ := y
  obtain ⟨d, hd, hr⟩ := (r.since e).getV hu
  obtain ⟨d2, hd2, hr2⟩ := (r2.since e).getV hw
  obtain ⟨S2, E2, R2⟩ := pair_new S hT hr hr2
  exact ⟨_, pairUp_get ds es i d d2 hd hd2, S2, E2, R2⟩
theorem yl_zipT {a c : Addr} {xs ys : List V} {ds es : List D} (hq : SqTF G.K H (Lv G m st) a xs) (r : RpAll G H m (Lv G m st) xs ds) (hq2 : SqTF G.K H (Lv G m st) c ys) (r2 : RpAll G H m (Lv G m st) ys es) : Yields G H m st (RZ.ItzT G.K a c) (pairUp ds es) := by
  refine ⟨_, _, walk_zipT (xs := xs) (ys := ys) (by rw [pairUp_length, r.length, r2.length]), fun ex H' m' st' e S => ⟨⟨(hq.mono e.keep).now, (hq2.mono e.keep).now⟩, fun i x H'' hi y => ?_⟩⟩
  obtain ⟨T, u, w, rfl, hT, rfl, hu, hw⟩ := y
  obtain ⟨d, hd, hr⟩ := (r.since e).getV hu
  obtain ⟨d2, hd2, hr2⟩ := (r2.since e).getV hw
  obtain ⟨S2, E2, R2⟩ := pair_new S hT hr hr2
  exact ⟨_, pairUp_get ds es i d d2 hd hd2, S2, E2, R2⟩
end
/-- a source of items -/
def tI (G : Gd) (b : Nat) (W : WX) (f : Env → M (List D)) : TI := fun σ H R => ∃ ρ m st, EnvR G H m st σ ρ ∧ Sim G H m st ∧ After G b H m st (We G W σ) (fun H' m' st' ds => ∀ J, Yields G H' m' st' J ds → R J H') (f ρ st)
section
variable {X : Cx} {G : Gd} {b : Nat} {W : WX} {σ : L2.St} {H : Hp} {m : List Addr} {st : Store} {ρ : Env} {f g : Env → M D} {e e' tg : Expr} {pos p tpos : Pos} {es elts : List Expr} {kk : Nat}
theorem tI.go {β : Type} {R : Hp → List Addr → Store → β → Prop} {f : Env → M (List D)} {g : List D → M β} (er : EnvR G H m st σ ρ) (S : Sim G H m st) (h : After G b H m st (We G W σ) R (M.thn (f ρ) g st)) :
    tI G b W f σ H (fun J H' => ∃ m' st' ds, Sim G H' m' st' ∧ Ext G b H m st H' m' st' ∧ Yields G H' m' st' J ds ∧ After G b H' m' st' (We G W σ) R (g ds st')) :=
  ⟨ρ, m, st, er, S, (h.thn S).mono (fun H' m' st' d s' e h v r => ⟨m', st', d, s', e, r, h⟩) fun _ _ h => h⟩
theorem ofI {t t' : TI} (h : PI X tg e t) (i : ∀ σ H R, t' σ H R → t σ H R) : PI X tg e t' := ⟨fun pins s σ H Q I q => h.run pins s σ H Q I (i σ H Q q)⟩
theorem si_val (hK : X.K = G.K) (ha : PE X e (tE G b W f)) : PI X tg e (tI G b W fun ρ => M.thn (f ρ) fun x => M.ofO (walkD x)) := by
  refine ofI (pi_seq ha) fun σ H R q => ?_
  obtain ⟨ρ, m, st, er, S, h⟩ := q
  refine (tE.go er S h).mono fun x H1 q => ?_
  obtain ⟨m1, st1, dx, S1, E1, rx, h1⟩ := q
  obtain ⟨ds, hd, h2⟩ := h1.ofO
  rw [hK]
  cases dx with
  | lst xs =>
    cases hd
    cases rx with
    | lst hq r => exact .inr ⟨_, _, rfl, .inl ⟨hq.now, h2.ret S1 _ (yl_list hq r)⟩⟩
  | tup xs =>
    cases hd
    cases rx with
    | tup hq r => exact .inr ⟨_, _, rfl, .inr ⟨hq.now, h2.ret S1 _ (yl_tup hq r)⟩⟩
  | str z =>
    cases hd
    cases rx
    exact .inl ⟨z, rfl, h2.ret S1 _ yl_str⟩
  | _ => cases hd
theorem okRng_of {i : Int} (h : okRng i = true) : -(2 ^ 62) ≤ i ∧ i < 2 ^ 62 := of_decide_eq_true h
theorem si_rng1 (hg : Gl X "range") (hm : X.mg "range" = none) (ha : PE X e (tE G b W f)) (hs : starEach [e] X.env = [(false, eval e X.env)]) :
    PI X tg (.Call (.Name "range" p) [e] [] pos) (tI G b W fun ρ => M.thn (f ρ) fun x => match x with
      | .int i => if okRng i then M.ret (rngUp 0 i.toNat) else M.bad
      | _ => M.bad) := by
  refine ofI (pi_range1 hg hm (pa_cons ha pa_nil (by rw [hs]; rfl)) hs) fun σ H R q => ?_
  obtain ⟨ρ, m, st, er, S, h⟩ := q
  refine (tE.go er S h).mono fun x H1 q => ?_
  obtain ⟨m1, st1, dx, S1, E1, rx, h1⟩ := q
  cases dx with
  | int i =>
    cases rx
    obtain ⟨hz, h3⟩ := h1.if_
    exact ⟨i, rfl, (okRng_of hz).1, (okRng_of hz).2, h3.ret S1 _ yl_rng⟩
  | _ => exact h1.elim
theorem si_rng2 (hg : Gl X "range") (hm : X.mg "range" = none) (ha : PE X e (tE G b W f)) (hb : PE X e' (tE G b W g)) (hs : starEach [e, e'] X.env = [(false, eval e X.env), (false, eval e' X.env)]) (hs2 : starEach [e'] X.env = [(false, eval e' X.env)]) :
    PI X tg (.Call (.Name "range" p) [e, e'] [] pos) (tI G b W fun ρ => M.thn (f ρ) fun x => M.thn (g ρ) fun y => match x, y with
      | .int i, .int j => if okRng i && okRng j then M.ret (rngUp i (j - i).toNat) else M.bad
      | _, _ => M.bad) := by
  refine ofI (pi_range2 hg hm (pa_cons ha (pa_cons hb pa_nil (by rw [hs2]; rfl)) (by rw [hs, hs2])) hs hs2) fun σ H R q => ?_
  obtain ⟨ρ, m, st, er, S, h⟩ := q
  refine (tE.go er S h).mono fun x H1 q => ?_
  obtain ⟨m1, st1, dx, S1, E1, rx, h1⟩ := q
  refine (tE.go (er.ext E1) S1 h1).mono fun y H2 q => ?_
  obtain ⟨m2, st2, dy, S2, E2, ry, h2⟩ := q
  cases dx with
  | int i =>
    cases dy with
    | int j =>
      cases rx; cases ry
      obtain ⟨hz, h3⟩ := h2.if_
      obtain ⟨z1, z2⟩ := Bool.and_eq_true_iff.mp hz
      exact ⟨i, j, rfl, ⟨(okRng_of z1).1, (okRng_of z1).2, (okRng_of z2).1, (okRng_of z2).2⟩, h3.ret S2 _ yl_rng⟩
    | _ => exact h2.elim
  | _ => exact h2.elim
theorem si_enum (hK : X.K = G.K) (hg : Gl X "enumerate") (hm : X.mg "enumerate" = none) (ha : PE X e (tE G b W f)) (hs : starEach [e] X.env = [(false, eval e X.env)]) :
    PI X (.Tuple elts kk tpos) (.Call (.Name "enumerate" p) [e] [] pos) (tI G b W fun ρ => M.thn (f ρ) fun x => M.thn (M.ofO (seqOf x)) fun xs => M.ret (numUp 0 xs)) := by
  refine ofI (pi_enumA hg hm (pa_cons ha pa_nil (by rw [hs]; rfl)) hs) fun σ H R q => ?_
  obtain ⟨ρ, m, st, er, S, h⟩ := q
  refine (tE.go er S h).mono fun x H1 q => ?_
  obtain ⟨m1, st1, dx, S1, E1, rx, h1⟩ := q
  have h1' := h1.thn S1
  obtain ⟨ds, hd, h2⟩ := h1'.ofO
  have h3 := h2.ret S1
  rw [hK]
  cases dx with
  | lst xs =>
    cases hd
    cases rx with
    | lst hq r => exact ⟨_, _, rfl, .inl ⟨hq.now, h3.ret S1 _ (yl_enum hq r)⟩⟩
  | tup xs =>
    cases hd
    cases rx with
    | tup hq r => exact ⟨_, _, rfl, .inr ⟨hq.now, h3.ret S1 _ (yl_enumT hq r)⟩⟩
  | _ => cases hd
theorem si_zip (hK : X.K = G.K) (hg : Gl X "zip") (hm : X.mg "zip" = none) (ha : PE X e (tE G b W f)) (hb : PE X e' (tE G b W g)) (hs : starEach [e, e'] X.env = (false, eval e X.env) :: starEach [e'] X.env) (hs2 : starEach [e'] X.env = [(false, eval e' X.env)]) :
    PI X (.Tuple elts kk tpos) (.Call (.Name "zip" p) [e, e'] [] pos) (tI G b W fun ρ => M.thn (f ρ) fun x => M.thn (g ρ) fun y => M.ofO (zipD x y)) := by
  refine ofI (RZ.pi_zipA hg hm (pa_cons ha (pa_cons hb pa_nil (by rw [hs2]; rfl)) hs) hs (by rw [hs2]; rfl)) fun σ H R q => ?_
  obtain ⟨ρ, m, st, er, S, h⟩ := q
  refine (tE.go er S h).mono fun x H1 q => ?_
  obtain ⟨m1, st1, dx, S1, E1, rx, h1⟩ := q
  refine (tE.go (er.ext E1) S1 h1).mono fun y H2 q => ?_
  obtain ⟨m2, st2, dy, S2, E2, ry, h2⟩ := q
  obtain ⟨ds, hd, h3⟩ := h2.ofO
  have rx := rx.ext E2
  rw [hK]
  cases dx with
  | lst xs =>
    cases dy with
    | lst ys =>
      cases hd
      cases rx with
      | lst hq r =>
        cases ry with
        | lst hq2 r2 => exact ⟨_, _, _, _, rfl, .inl ⟨hq.now, hq2.now, h3.ret S2 _ (yl_zip hq r hq2 r2)⟩⟩
    | _ => cases hd
  | tup xs =>
    cases dy with
    | tup ys =>
      cases hd
      cases rx with
      | tup hq r =>
        cases ry with
        | tup hq2 r2 => exact ⟨_, _, _, _, rfl, .inr ⟨hq.now, hq2.now, h3.ret S2 _ (yl_zipT hq r hq2 r2)⟩⟩
    | _ => cases hd
  | _ => cases hd
end
end Ev
set_option linter.all false
set_option maxRecDepth 100000
/-! Ev10: targets, list comprehensions. -/
namespace Ev
open PySem PySem.Spec PyProof.Rows L2

def Tg.vars : Tg → List Nat
  | .name i => [i]
  | .two a b => a.vars ++ b.vars
  | .three a b c => a.vars ++ b.vars ++ c.vars
  | .four a b c d => a.vars ++ b.vars ++ c.vars ++ d.vars
  | .five a b c d e => a.vars ++ b.vars ++ c.vars ++ d.vars ++ e.vars
theorem wipe_set {σ : L2.St} {i : Nat} {x : Option V} : ∀ {vs : List Nat}, i ∈ vs → wipe (σ.set i x) vs = wipe σ vs
  | [], h => absurd h (by simp)
  | v :: vs, h => by
    unfold wipe
    by_cases hi : i ∈ vs
    · rw [wipe_set hi]
    · have e : i = v := (List.mem_cons.mp h).resolve_right hi
      subst e
      apply List.ext_getElem?
      intro j
      by_cases hj : i = j
      · subst hj
        by_cases hl : i < σ.length
        · rw [List.getElem?_set_self (by rw [wipe_length, List.length_set]; exact hl), List.getElem?_set_self (by rw [wipe_length]; exact hl)]
        · rw [List.getElem?_eq_none (by rw [List.length_set, wipe_length, List.length_set]; omega), List.getElem?_eq_none (by rw [List.length_set, wipe_length]; omega)]
      · rw [List.getElem?_set_ne hj, List.getElem?_set_ne hj]
        by_cases hjv : j ∈ vs
        · have z : ∀ (τ : L2.St), τ.length = σ.length → (wipe τ vs)[j]? = if j < σ.length then some none else none := fun τ hτ => by
            clear h hi
            induction vs with
            | nil => simp at hjv
            | cons w ws ih =>
              unfold wipe
              by_cases hw : w = j
              · subst hw
                by_cases hl : w < σ.length
                · rw [List.getElem?_set_self (by rw [wipe_length, hτ]; exact hl), if_pos hl]
                · rw [List.getElem?_eq_none (by rw [List.length_set, wipe_length, hτ]; omega), if_neg hl]
              · rw [List.getElem?_set_ne hw]
                exact ih ((List.mem_cons.mp hjv).resolve_left (Ne.symm hw))
          rw [z _ (List.length_set ..), z _ rfl]
        · rw [wipe_out hjv, wipe_out hjv, List.getElem?_set_ne hj]
theorem wipe_wipe (σ : L2.St) (us : List Nat) : ∀ vs : List Nat, (∀ i ∈ us, i ∈ vs) → wipe (wipe σ us) vs = wipe σ vs := by
  induction us with
  | nil => intro vs _; rfl
  | cons u us ih =>
    intro vs h
    show wipe ((wipe σ us).set u none) vs = _
    rw [wipe_set (h u List.mem_cons_self)]
    exact ih vs fun i hi => h i (List.mem_cons_of_mem _ hi)
section
variable {G : Gd} {H : Hp} {m : List Addr} {st : Store} {σ : List (Option V)} {ρ : Env}
theorem EnvR.set {i : Nat} {v : V} {d : D} (er : EnvR G H m st σ ρ) (r : Rp G H m (Lv G m st) v d) : EnvR G H m st (σ.set i (some v)) (ρ.set i (some d)) := by
  refine ⟨by rw [List.length_set, List.length_set]; exact er.len, fun j e q => ?_⟩
  by_cases hj : i = j
  · subst hj
    by_cases hl : i < ρ.length
    · rw [List.getElem?_set_self hl] at q
      cases q
      exact ⟨v, List.getElem?_set_self (by rw [er.len]; exact hl), r⟩
    · rw [List.getElem?_eq_none (by rw [List.length_set]; omega)] at q; cases q
  · rw [List.getElem?_set_ne hj] at q
    rw [List.getElem?_set_ne hj]
    exact er.at_ j e q
theorem EnvR.unset {i : Nat} (er : EnvR G H m st σ ρ) : EnvR G H m st (σ.set i none) (ρ.set i none) := by
  refine ⟨by rw [List.length_set, List.length_set]; exact er.len, fun j e q => ?_⟩
  by_cases hj : i = j
  · subst hj
    by_cases hl : i < ρ.length
    · rw [List.getElem?_set_self hl] at q; cases q
    · rw [List.getElem?_eq_none (by rw [List.length_set]; omega)] at q; cases q
  · rw [List.getElem?_set_ne hj] at q
    rw [List.getElem?_set_ne hj]
    exact er.at_ j e q
theorem EnvR.wipe (er : EnvR G H m st σ ρ) : ∀ vs : List Nat, EnvR G H m st (L2.wipe σ vs) (wipeE ρ vs)
  | [] => er
  | v :: vs => (er.wipe vs).unset
end

theorem setTg_two {a b : Tg} {d : D} {ρ ρ' : Env} (h : setTg (.two a b) d ρ = some ρ') : ∃ x y ρ1, d = .tup [x, y] ∧ setTg a x ρ = some ρ1 ∧ setTg b y ρ1 = some ρ' := by
  match d, h with
  | .tup [x, y], h =>
    unfold setTg at h
    cases q : setTg a x ρ with
    | none => simp only [q] at h; cases h
    | some ρ1 => simp only [q] at h; exact ⟨x, y, ρ1, rfl, q, h⟩
  | .non, h => unfold setTg at h; cases h
  | .bl _, h => unfold setTg at h; cases h
  | .int _, h => unfold setTg at h; cases h
  | .str _, h => unfold setTg at h; cases h
  | .lst _, h => unfold setTg at h; cases h
  | .dct _ _, h => unfold setTg at h; cases h
  | .ref _, h => unfold setTg at h; cases h
  | .fn _, h => unfold setTg at h; cases h
  | .tup [], h => unfold setTg at h; cases h
  | .tup [_], h => unfold setTg at h; cases h
  | .tup (_ :: _ :: _ :: _), h => unfold setTg at h; cases h
theorem setTg_four {a b c d0 : Tg} : ∀ {d : D} {ρ ρ' : Env}, setTg (.four a b c d0) d ρ = some ρ' → ∃ x y z u ρ1 ρ2 ρ3, d = .tup [x, y, z, u] ∧ setTg a x ρ = some ρ1 ∧ setTg b y ρ1 = some ρ2 ∧ setTg c z ρ2 = some ρ3 ∧ setTg d0 u ρ3 = some ρ'
  | .tup [x, y, z, u], ρ, ρ', h => by
    unfold setTg at h
    cases q : setTg a x ρ with
    | none => simp only [q] at h; cases h
    | some ρ1 =>
      simp only [q] at h
      cases q2 : setTg b y ρ1 with
      | none => simp only [q2] at h; cases h
      | some ρ2 =>
        simp only [q2] at h
        cases q3 : setTg c z ρ2 with
        | none => simp only [q3] at h; cases h
        | some ρ3 => simp only [q3] at h; exact ⟨x, y, z, u, ρ1, ρ2, ρ3, rfl, q, q2, q3, h⟩
  | .non, _, _, h => by unfold setTg at h; cases h
  | .bl _, _, _, h => by unfold setTg at h; cases h
  | .int _, _, _, h => by unfold setTg at h; cases h
  | .str _, _, _, h => by unfold setTg at h; cases h
  | .lst _, _, _, h => by unfold setTg at h; cases h
  | .dct _ _, _, _, h => by unfold setTg at h; cases h
  | .ref _, _, _, h => by unfold setTg at h; cases h
  | .fn _, _, _, h => by unfold setTg at h; cases h
  | .tup [], _, _, h => by unfold setTg at h; cases h
  | .tup [_], _, _, h => by unfold setTg at h; cases h
  | .tup [_, _], _, _, h => by unfold setTg at h; cases h
  | .tup [_, _, _], _, _, h => by unfold setTg at h; cases h
  | .tup (_ :: _ :: _ :: _ :: _ :: _), _, _, h => by unfold setTg at h; cases h
theorem setTg_five {a b c d0 e0 : Tg} : ∀ {d : D} {ρ ρ' : Env}, setTg (.five a b c d0 e0) d ρ = some ρ' → ∃ x y z u v ρ1 ρ2 ρ3 ρ4, d = .tup [x, y, z, u, v] ∧ setTg a x ρ = some ρ1 ∧ setTg b y ρ1 = some ρ2 ∧ setTg c z ρ2 = some ρ3 ∧ setTg d0 u ρ3 = some ρ4 ∧ setTg e0 v ρ4 = some ρ'
  | .tup [x, y, z, u, v], ρ, ρ', h => by
    unfold setTg at h
    cases q : setTg a x ρ with
    | none => simp only [q] at h; cases h
    | some ρ1 =>
      simp only [q] at h
      cases q2 : setTg b y ρ1 with
      | none => simp only [q2] at h; cases h
      | some ρ2 =>
        simp only [q2] at h
        cases q3 : setTg c z ρ2 with
        | none => simp only [q3] at h; cases h
        | some ρ3 =>
          simp only [q3] at h
          cases q4 : setTg d0 u ρ3 with
          | none => simp only [q4] at h; cases h
          | some ρ4 => simp only [q4] at h; exact ⟨x, y, z, u, v, ρ1, ρ2, ρ3, ρ4, rfl, q, q2, q3, q4, h⟩
  | .non, _, _, h => by unfold setTg at h; cases h
  | .bl _, _, _, h => by unfold setTg at h; cases h
  | .int _, _, _, h => by unfold setTg at h; cases h
  | .str _, _, _, h => by unfold setTg at h; cases h
  | .lst _, _, _, h => by unfold setTg at h; cases h
  | .dct _ _, _, _, h => by unfold setTg at h; cases h
  | .ref _, _, _, h => by unfold setTg at h; cases h
  | .fn _, _, _, h => by unfold setTg at h; cases h
  | .tup [], _, _, h => by unfold setTg at h; cases h
  | .tup [_], _, _, h => by unfold setTg at h; cases h
  | .tup [_, _], _, _, h => by unfold setTg at h; cases h
  | .tup [_, _, _], _, _, h => by unfold setTg at h; cases h
  | .tup [_, _, _, _], _, _, h => by unfold setTg at h; cases h
  | .tup (_ :: _ :: _ :: _ :: _ :: _ :: _), _, _, h => by unfold setTg at h; cases h
theorem setTg_three {a b c : Tg} {d : D} {ρ ρ' : Env} (h : setTg (.three a b c) d ρ = some ρ') : ∃ x y z ρ1 ρ2, d = .tup [x, y, z] ∧ setTg a x ρ = some ρ1 ∧ setTg b y ρ1 = some ρ2 ∧ setTg c z ρ2 = some ρ' := by
  match d, h with
  | .tup [x, y, z], h =>
    unfold setTg at h
    cases q : setTg a x ρ with
    | none => simp only [q] at h; cases h
    | some ρ1 =>
      simp only [q] at h
      cases q2 : setTg b y ρ1 with
      | none => simp only [q2] at h; cases h
      | some ρ2 => simp only [q2] at h; exact ⟨x, y, z, ρ1, ρ2, rfl, q, q2, h⟩
  | .non, h => unfold setTg at h; cases h
  | .bl _, h => unfold setTg at h; cases h
  | .int _, h => unfold setTg at h; cases h
  | .str _, h => unfold setTg at h; cases h
  | .lst _, h => unfold setTg at h; cases h
  | .dct _ _, h => unfold setTg at h; cases h
  | .ref _, h => unfold setTg at h; cases h
  | .fn _, h => unfold setTg at h; cases h
  | .tup [], h => unfold setTg at h; cases h
  | .tup [_], h => unfold setTg at h; cases h
  | .tup [_, _], h => unfold setTg at h; cases h
  | .tup (_ :: _ :: _ :: _ :: _), h => unfold setTg at h; cases h
/-- a target is stored -/
def gS (G : Gd) (tg : Tg) : TG := fun v σ H Q => ∃ ρ m st d ρ', EnvR G H m st σ ρ ∧ Sim G H m st ∧ Rp G H m (Lv G m st) v d ∧ setTg tg d ρ = some ρ' ∧
  ∀ σ', EnvR G H m st σ' ρ' → (∀ vs, (∀ i ∈ tg.vars, i ∈ vs) → wipe σ' vs = wipe σ vs) → Q σ' H
section
variable {X : Cx} {G : Gd} {pos : Pos} {e e' e2 : Expr} {ta tb tc : Tg} {kk : Nat}
theorem ofG {t t' : TG} (h : PG X e t) (i : ∀ v σ H Q, t' v σ H Q → t v σ H Q) : PG X e t' := ⟨fun pins s σ H v u Q I r q => h.run pins s σ H v u Q I r (i v σ H Q q)⟩
theorem sg_name {i : Nat} {x : Str} (hN : X.N.Nodup) (hi : X.N[i]? = some x) (hx : Loc X.env.scope x) (hf : X.fn x = true ∨ X.env.scope.names.lookup x = some .local) : PG X (.Name x pos) (gS G (.name i)) := by
  refine ofG (pg_name hN hi hx hf) fun v σ H Q h => ?_
  obtain ⟨ρ, m, st, d, ρ', er, S, r, hs, q⟩ := h
  have e : ρ.set i (some d) = ρ' := Option.some.inj hs
  subst e
  exact q _ (er.set r) fun vs hv => wipe_set (hv i (by simp [Tg.vars]))
theorem sg_two (hK : X.K = G.K) (hc : X.calm = true) (ha : PG X e (gS G ta)) (hb : PG X e' (gS G tb)) (h1 : assignEach [e, e'] X.env = [(false, assign e X.env), (false, assign e' X.env)]) (h2 : assignEach [e'] X.env = [(false, assign e' X.env)]) :
    PG X (.Tuple [e, e'] kk pos) (gS G (.two ta tb)) := by
  have h0 : assignEach [] X.env = [] := rfl
  refine ofG (pg_tup (n := 2) hc (pgs_cons ha (pgs_cons hb pgs_nil (by rw [h2, h0]; rfl)) (by rw [h1, h2]; rfl)) (by rw [h1]; rfl) (by rw [h1]; rfl)) fun v σ H Q h => ?_
  obtain ⟨ρ, m, st, d, ρ', er, S, r, hs, q⟩ := h
  obtain ⟨x, y, ρ1, rfl, hs1, hs⟩ := setTg_two hs
  cases r with
  | tup hq rr =>
    cases rr with
    | cons rx rr =>
      cases rr with
      | cons ry rr =>
        cases rr
        rw [hK]
        refine ⟨_, _, rfl, hq.now, rfl, _, _, rfl, ρ, m, st, _, ρ1, er, S, rx, hs1, fun σ1 er1 w1 => ?_⟩
        refine ⟨_, _, rfl, ρ1, m, st, _, ρ', er1, S, ry, hs, fun σ2 er2 w2 => ⟨rfl, q σ2 er2 fun vs hv => ?_⟩⟩
        rw [w2 vs fun i hi => hv i (by simp [Tg.vars, hi]), w1 vs fun i hi => hv i (by simp [Tg.vars, hi])]
theorem sg_three (hK : X.K = G.K) (hc : X.calm = true) (ha : PG X e (gS G ta)) (hb : PG X e' (gS G tb)) (hd : PG X e2 (gS G tc)) (h1 : assignEach [e, e', e2] X.env = [(false, assign e X.env), (false, assign e' X.env), (false, assign e2 X.env)])
    (h2 : assignEach [e', e2] X.env = [(false, assign e' X.env), (false, assign e2 X.env)]) (h3 : assignEach [e2] X.env = [(false, assign e2 X.env)]) :
    PG X (.Tuple [e, e', e2] kk pos) (gS G (.three ta tb tc)) := by
  have h0 : assignEach [] X.env = [] := rfl
  refine ofG (pg_tup (n := 3) hc (pgs_cons ha (pgs_cons hb (pgs_cons hd pgs_nil (by rw [h3, h0]; rfl)) (by rw [h2, h3]; rfl)) (by rw [h1, h2]; rfl)) (by rw [h1]; rfl) (by rw [h1]; rfl)) fun v σ H Q h => ?_
  obtain ⟨ρ, m, st, d, ρ', er, S, r, hs, q⟩ := h
  obtain ⟨x, y, z, ρ1, ρ2, rfl, hs1, hs2, hs⟩ := setTg_three hs
  cases r with
  | tup hq rr =>
    cases rr with
    | cons rx rr =>
      cases rr with
      | cons ry rr =>
        cases rr with
        | cons rz rr =>
          cases rr
          rw [hK]
          refine ⟨_, _, rfl, hq.now, rfl, _, _, rfl, ρ, m, st, _, ρ1, er, S, rx, hs1, fun σ1 er1 w1 => ?_⟩
          refine ⟨_, _, rfl, ρ1, m, st, _, ρ2, er1, S, ry, hs2, fun σ2 er2 w2 => ?_⟩
          refine ⟨_, _, rfl, ρ2, m, st, _, ρ', er2, S, rz, hs, fun σ3 er3 w3 => ⟨rfl, q σ3 er3 fun vs hv => ?_⟩⟩
          rw [w3 vs fun i hi => hv i (by simp [Tg.vars, hi]), w2 vs fun i hi => hv i (by simp [Tg.vars, hi]), w1 vs fun i hi => hv i (by simp [Tg.vars, hi])]
theorem sg_four {e0 e1 e2 e3 : Expr} {t0 t1 t2 t3 : Tg} (hK : X.K = G.K) (hc : X.calm = true) (h0 : PG X e0 (gS G t0)) (h1 : PG X e1 (gS G t1)) (h2 : PG X e2 (gS G t2)) (h3 : PG X e3 (gS G t3)) (a0 : assignEach [e0, e1, e2, e3] X.env = [(false, assign e0 X.env), (false, assign e1 X.env), (false, assign e2 X.env), (false, assign e3 X.env)]) (a1 : assignEach [e1, e2, e3] X.env = [(false, assign e1 X.env), (false, assign e2 X.env), (false, assign e3 X.env)]) (a2 : assignEach [e2, e3] X.env = [(false, assign e2 X.env), (false, assign e3 X.env)]) (a3 : assignEach [e3] X.env = [(false, assign e3 X.env)]) :
    PG X (.Tuple [e0, e1, e2, e3] kk pos) (gS G (.four t0 t1 t2 t3)) := by
  have h0n : assignEach [] X.env = [] := rfl
  refine ofG (pg_tup (n := 4) hc (pgs_cons h0 (pgs_cons h1 (pgs_cons h2 (pgs_cons h3 pgs_nil (by rw [a3, h0n]; rfl)) (by rw [a2, a3]; rfl)) (by rw [a1, a2]; rfl)) (by rw [a0, a1]; rfl)) (by rw [a0]; rfl) (by rw [a0]; rfl)) fun v σ H Q h => ?_
  obtain ⟨ρ, m, st, d, ρ', er, S, r, hs, q⟩ := h
  obtain ⟨x, y, z, u, ρ1, ρ2, ρ3, rfl, hs1, hs2, hs3, hs4⟩ := setTg_four hs
  cases r with
  | tup hq rr =>
    cases rr with
    | cons r0 rr =>
      cases rr with
      | cons r1 rr =>
        cases rr with
        | cons r2 rr =>
          cases rr with
          | cons r3 rr =>
            cases rr
            rw [hK]
            refine ⟨_, _, rfl, hq.now, rfl, _, _, rfl, ρ, m, st, _, ρ1, er, S, r0, hs1, fun σ1 er1 w1 => ?_⟩
            refine ⟨_, _, rfl, ρ1, m, st, _, ρ2, er1, S, r1, hs2, fun σ2 er2 w2 => ?_⟩
            refine ⟨_, _, rfl, ρ2, m, st, _, ρ3, er2, S, r2, hs3, fun σ3 er3 w3 => ?_⟩
            refine ⟨_, _, rfl, ρ3, m, st, _, ρ', er3, S, r3, hs4, fun σ4 er4 w4 => ⟨rfl, q σ4 er4 fun vs hv => ?_⟩⟩
            rw [w4 vs fun i hi => hv i (by simp [Tg.vars, hi]), w3 vs fun i hi => hv i (by simp [Tg.vars, hi]), w2 vs fun i hi => hv i (by simp [Tg.vars, hi]), w1 vs fun i hi => hv i (by simp [Tg.vars, hi])]
theorem sg_five {e0 e1 e2 e3 e4 : Expr} {t0 t1 t2 t3 t4 : Tg} (hK : X.K = G.K) (hc : X.calm = true) (h0 : PG X e0 (gS G t0)) (h1 : PG X e1 (gS G t1)) (h2 : PG X e2 (gS G t2)) (h3 : PG X e3 (gS G t3)) (h4 : PG X e4 (gS G t4)) (a0 : assignEach [e0, e1, e2, e3, e4] X.env = [(false, assign e0 X.env), (false, assign e1 X.env), (false, assign e2 X.env), (false, assign e3 X.env), (false, assign e4 X.env)]) (a1 : assignEach [e1, e2, e3, e4] X.env = [(false, assign e1 X.env), (false, assign e2 X.env), (false, assign e3 X.env), (false, assign e4 X.env)]) (a2 : assignEach [e2, e3, e4] X.env = [(false, assign e2 X.env), (false, assign e3 X.env), (false, assign e4 X.env)]) (a3 : assignEach [e3, e4] X.env = [(false, assign e3 X.env), (false, assign e4 X.env)]) (a4 : assignEach [e4] X.env = [(false, assign e4 X.env)]) :
    PG X (.Tuple [e0, e1, e2, e3, e4] kk pos) (gS G (.five t0 t1 t2 t3 t4)) := by
  have h0n : assignEach [] X.env = [] := rfl
  refine ofG (pg_tup (n := 5) hc (pgs_cons h0 (pgs_cons h1 (pgs_cons h2 (pgs_cons h3 (pgs_cons h4 pgs_nil (by rw [a4, h0n]; rfl)) (by rw [a3, a4]; rfl)) (by rw [a2, a3]; rfl)) (by rw [a1, a2]; rfl)) (by rw [a0, a1]; rfl)) (by rw [a0]; rfl) (by rw [a0]; rfl)) fun v σ H Q h => ?_
  obtain ⟨ρ, m, st, d, ρ', er, S, r, hs, q⟩ := h
  obtain ⟨x, y, z, u, w, ρ1, ρ2, ρ3, ρ4, rfl, hs1, hs2, hs3, hs4, hs5⟩ := setTg_five hs
  cases r with
  | tup hq rr =>
    cases rr with
    | cons r0 rr =>
      cases rr with
      | cons r1 rr =>
        cases rr with
        | cons r2 rr =>
          cases rr with
          | cons r3 rr =>
            cases rr with
            | cons r4 rr =>
              cases rr
              rw [hK]
              refine ⟨_, _, rfl, hq.now, rfl, _, _, rfl, ρ, m, st, _, ρ1, er, S, r0, hs1, fun σ1 er1 w1 => ?_⟩
              refine ⟨_, _, rfl, ρ1, m, st, _, ρ2, er1, S, r1, hs2, fun σ2 er2 w2 => ?_⟩
              refine ⟨_, _, rfl, ρ2, m, st, _, ρ3, er2, S, r2, hs3, fun σ3 er3 w3 => ?_⟩
              refine ⟨_, _, rfl, ρ3, m, st, _, ρ4, er3, S, r3, hs4, fun σ4 er4 w4 => ?_⟩
              refine ⟨_, _, rfl, ρ4, m, st, _, ρ', er4, S, r4, hs5, fun σ5 er5 w5 => ⟨rfl, q σ5 er5 fun vs hv => ?_⟩⟩
              rw [w5 vs fun i hi => hv i (by simp [Tg.vars, hi]), w4 vs fun i hi => hv i (by simp [Tg.vars, hi]), w3 vs fun i hi => hv i (by simp [Tg.vars, hi]), w2 vs fun i hi => hv i (by simp [Tg.vars, hi]), w1 vs fun i hi => hv i (by simp [Tg.vars, hi])]
end

/-! ### a list under way -/
section
variable {G : Gd} {b : Nat} {H H' : Hp} {m m' : List Addr} {st st' : Store} {ex : List Addr} {Dd : Addr}
structure Ext2 (G : Gd) (ex : List Addr) (b : Nat) (H : Hp) (m : List Addr) (st : Store) (H' : Hp) (m' : List Addr) (st' : Store) : Prop where
  sc : Since G H m st ex H' m' st'
  res : ∀ a ∈ G.ex, H' a = H a
  low : ∀ (l n : Nat) (c c' : Cell), l < b → st[l]? = some c → st'[l]? = some c' → c.low n = true → c'.low n = true
  len : st.length ≤ st'.length
theorem Sim.reserve {xs : List V} (S : Sim G H m st) (hD : H Dd = none) : Sim (G.rs (Dd :: G.ex)) (upd H Dd (.lst xs)) m st ∧ Ext2 G (Dd :: G.ex) b H m st (upd H Dd (.lst xs)) m st := by
  obtain ⟨S1, E1, F1⟩ := S.new (b := b) hD (.lst xs)
  have sc : Since G H m st (Dd :: G.ex) (upd H Dd (.lst xs)) m st := ⟨fun a f => ⟨(E1.keep a f).1, fun q => by
    rcases q with q | q
    · exact f.2 (.inl q)
    · rcases List.mem_cons.mp q with q | q
      · obtain ⟨o, e⟩ := f.there
        rw [q, hD] at e; cases e
      · exact f.2 (.inr q)⟩, fun _ _ h => h⟩
  refine ⟨⟨S.len, S.nd, S1.dom, fun l c a h1 h2 => ?_, fun a h => ?_, fun a h => ?_, tabs_new S.tab hD⟩, ⟨sc, E1.res, E1.low, Nat.le_refl _⟩⟩
  · have r := S.cell l c a h1 h2
    cases c with
    | dead => trivial
    | lst ds =>
      obtain ⟨ys, e, r⟩ := r
      have na : a ≠ Dd := ne_of_none e hD
      exact ⟨ys, by rw [upd_ne na]; exact e, r.since sc⟩
    | dct _ _ => exact r
  · rcases List.mem_cons.mp h with h | h
    · rw [h]
      exact ⟨⟨_, upd_same⟩, fun q => by
        obtain ⟨o, e⟩ := S.dom _ q
        rw [hD] at e; cases e⟩
    · exact S1.res a h
  · rcases h with h | h
    · exact S1.nt a (.inl h)
    · rcases List.mem_cons.mp h with h | h
      · rw [h]; exact ⟨_, upd_same⟩
      · exact S1.nt a (.inr h)
/-- the heap without a place -/
def era (H : Hp) (p : Addr) : Hp := fun a => if a = p then none else H a
theorem era_same {H : Hp} {p : Addr} : era H p p = none := if_pos rfl
theorem era_ne {H : Hp} {p a : Addr} (h : a ≠ p) : era H p a = H a := if_neg h
theorem upd_era {H : Hp} {p : Addr} {o : HO} (h : H p = some o) : upd (era H p) p o = H := by
  funext a
  by_cases e : a = p
  · rw [e, upd_same, h]
  · rw [upd_ne e, era_ne e]
theorem Sim.release {vs : List V} {ds : List D} (hD : H Dd = none) (hex : ∀ a ∈ G.ex, a ≠ Dd) (S' : Sim (G.rs (Dd :: G.ex)) H' m' st') (E : Ext2 G (Dd :: G.ex) b H m st H' m' st') (r : RpAll (G.rs (Dd :: G.ex)) H' m' (Lv (G.rs (Dd :: G.ex)) m' st') vs ds) :
    Sim G (era H' Dd) m' st' ∧ Ext G b H m st (era H' Dd) m' st' ∧ RpAll G (era H' Dd) m' (Lv G m' st') vs ds := by
  have mono : ∀ {ws : List V} {es : List D}, RpAll (G.rs (Dd :: G.ex)) H' m' (Lv (G.rs (Dd :: G.ex)) m' st') ws es → RpAll G (era H' Dd) m' (Lv G m' st') ws es := fun {ws es} q =>
    (q.mono (H' := era H' Dd) (m' := m') (L' := Lv G m' st') (fun a f => ⟨era_ne fun e => f.2 (.inr (by rw [e]; exact List.mem_cons_self)), fun q => f.2 (q.elim .inl fun z => .inr (List.mem_cons_of_mem _ z))⟩) fun _ _ h => h).exch G.ex
  have dn : Dd ∉ m' := (S'.res Dd List.mem_cons_self).2
  have tb : LamX.Tabs G.ec.tb (era H' Dd) := by
    obtain ⟨xs, e⟩ := S'.nt Dd (.inr List.mem_cons_self)
    refine tabs_of S'.tab fun b u e2 n => ?_
    have nb : b ≠ Dd := fun z => by rw [z, e] at e2; cases e2; exact n xs rfl
    rw [era_ne nb]; exact e2
  refine ⟨⟨S'.len, S'.nd, fun a h => ?_, fun l c a h1 h2 => ?_, fun a h => ?_, fun a h => ?_, tb⟩, ⟨fun a f => ?_, E.sc.pre, fun a h => ?_, E.low⟩, mono r⟩
  · rw [era_ne (p := Dd) (a := a) fun e => dn (by rw [← e]; exact h)]; exact S'.dom a h
  · have q := S'.cell l c a h1 h2
    cases c with
    | dead => trivial
    | lst es =>
      obtain ⟨ys, e, q⟩ := q
      exact ⟨ys, by rw [era_ne (p := Dd) (a := a) fun e => dn (by rw [← e]; exact List.mem_of_getElem? h2)]; exact e, mono q⟩
    | dct _ _ => exact q
  · have := S'.res a (List.mem_cons_of_mem _ h)
    rw [era_ne (hex a h)]; exact this
  · rcases h with h | h
    · rw [era_ne (p := Dd) (a := a) fun e => dn (by rw [← e]; exact h)]; exact S'.nt a (.inl h)
    · rw [era_ne (hex a h)]; exact S'.nt a (.inr (List.mem_cons_of_mem _ h))
  · have na : a ≠ Dd := fun e => by
      obtain ⟨o, q⟩ := f.there
      rw [e, hD] at q; cases q
    exact ⟨by rw [era_ne na]; exact (E.sc.keep a f).1, fun q => (E.sc.keep a f).2 (q.elim .inl fun z => .inr (List.mem_cons_of_mem _ z))⟩
  · rw [era_ne (hex a h)]; exact E.res a h
/-- a list under way is written -/
theorem Sim.put {xs ys : List V} (S : Sim G H m st) (hD : Dd ∈ G.ex) (h : H Dd = some (.lst xs)) : Sim G (upd H Dd (.lst ys)) m st ∧ ∀ a, Fz H (Lv G m st) a → upd H Dd (.lst ys) a = H a ∧ ¬ Lv G m st a := by
  have ld : Lv G m st Dd := .inr hD
  have hk : ∀ a, Fz H (Lv G m st) a → upd H Dd (.lst ys) a = H a ∧ ¬ Lv G m st a := fun a f => ⟨upd_ne fun e => f.2 (by rw [e]; exact ld), f.2⟩
  have dn : Dd ∉ m := (S.res Dd hD).2
  refine ⟨⟨S.len, S.nd, fun a q => ?_, fun l c a h1 h2 => ?_, fun a q => ?_, fun a q => ?_, tabs_wr S.tab h⟩, hk⟩
  · rw [upd_ne (a := Dd) (b := a) fun e => dn (by rw [← e]; exact q)]; exact S.dom a q
  · have q := S.cell l c a h1 h2
    cases c with
    | dead => trivial
    | lst es =>
      obtain ⟨zs, e, q⟩ := q
      exact ⟨zs, by rw [upd_ne (a := Dd) (b := a) fun e => dn (by rw [← e]; exact List.mem_of_getElem? h2)]; exact e, q.mono hk fun _ _ h => h⟩
    | dct _ _ => exact q
  · by_cases e : a = Dd
    · rw [e]; exact ⟨⟨_, upd_same⟩, dn⟩
    · rw [upd_ne e]; exact S.res a q
  · by_cases e : a = Dd
    · rw [e]; exact ⟨_, upd_same⟩
    · rw [upd_ne e]; exact S.nt a q
/-- a wish that lasts -/
structure Closed (G : Gd) (Dd : Addr) (b : Nat) (B : Hp → List Addr → Store → Prop) : Prop where
  ext : ∀ {H m st H' m' st'}, B H m st → Sim G H m st → Sim G H' m' st' → Ext G b H m st H' m' st' → B H' m' st'
  wr : ∀ {H m st xs} (ys : List V), B H m st → Sim G H m st → H Dd = some (.lst xs) → B (upd H Dd (.lst ys)) m st
theorem Closed.and {B C : Hp → List Addr → Store → Prop} (h : Closed G Dd b B) (h' : Closed G Dd b C) : Closed G Dd b fun H m st => B H m st ∧ C H m st :=
  ⟨fun q s s' e => ⟨h.ext q.1 s s' e, h'.ext q.2 s s' e⟩, fun ys q s e => ⟨h.wr ys q.1 s e, h'.wr ys q.2 s e⟩⟩
theorem Closed.env {σ : L2.St} {ρ : Env} (hD : Dd ∈ G.ex) : Closed G Dd b fun H m st => EnvR G H m st σ ρ :=
  ⟨fun q _ _ e => q.ext e, fun ys q s e => ⟨q.len, fun i d h => let ⟨v, h1, h2⟩ := q.at_ i d h; ⟨v, h1, h2.mono (s.put hD e).2 fun _ _ h => h⟩⟩⟩
theorem Closed.since {H0 : Hp} {m0 : List Addr} {st0 : Store} (hD : Dd ∈ G.ex) : Closed G Dd b fun H m st => Since G H0 m0 st0 G.ex H m st :=
  ⟨fun q _ _ e => q.trans e, fun {H m st xs} ys q s e => ⟨fun a f => by
    have f' : Fz H (Lv G m st) a := ⟨by rw [(q.keep a f).1]; exact f.1, (q.keep a f).2⟩
    exact ⟨((s.put hD e).2 a f').1.trans (q.keep a f).1, (q.keep a f).2⟩, q.pre⟩⟩
theorem Closed.ext2 {H0 : Hp} {m0 : List Addr} {st0 : Store} (hn : H0 Dd = none) (hne : ∀ a ∈ G.ex, a ≠ Dd) : Closed (G.rs (Dd :: G.ex)) Dd b fun H m st => Ext2 G (Dd :: G.ex) b H0 m0 st0 H m st :=
  ⟨fun {H m st H' m' st'} q s s' e => ⟨q.sc.trans e, fun a h => (e.res a (List.mem_cons_of_mem _ h)).trans (q.res a h), fun l n c c'' hb h1 h2 h3 => by
      have hl' : l < st.length := Nat.lt_of_lt_of_le (List.getElem?_eq_some_iff.mp h1).1 q.len
      exact e.low l n st[l] c'' hb (List.getElem?_eq_getElem hl') h2 (q.low l n c _ hb h1 (List.getElem?_eq_getElem hl') h3), Nat.le_trans q.len (e.length s s')⟩,
    fun ys q s e => ⟨⟨fun a f => ⟨by
      have na : a ≠ Dd := fun z => by
        obtain ⟨o, w⟩ := f.there
        rw [z, hn] at w; cases w
      rw [upd_ne na]; exact (q.sc.keep a f).1, (q.sc.keep a f).2⟩, q.sc.pre⟩, fun a h => by rw [upd_ne (hne a h)]; exact q.res a h, q.low, q.len⟩⟩
/-- the end of a run, wherever it stands, as long as B holds -/
def Fin (G : Gd) (B : Hp → List Addr → Store → Prop) {β : Type} (R : Hp → List Addr → Store → β → Prop) : Res β → Prop
  | .ok d st' => ∀ H' m', Sim G H' m' st' → B H' m' st' → R H' m' st' d
  | _ => False
section
variable {β α : Type} {B C : Hp → List Addr → Store → Prop} {R : Hp → List Addr → Store → β → Prop} {Wσ : Nat → Hp → Prop}
theorem Fin.thn {x : M α} {f : α → M β} (cB : Closed G Dd b B) (hB : B H m st) (S : Sim G H m st) (h : Fin G B R (M.thn x f st)) : After G b H m st Wσ (fun H' m' st' a => B H' m' st' ∧ Fin G B R (f a st')) (x st) := by
  have e : M.thn x f st = (match x st with | .ok a st' => f a st' | .exc c st' => .exc c st' | .bad => .bad) := rfl
  rw [e] at h
  cases q : x st with
  | ok a st' => rw [q] at h; exact fun H' m' s' e => ⟨cB.ext hB S s' e, h⟩
  | exc c st' => rw [q] at h; exact h.elim
  | bad => rw [q] at h; exact h.elim
/-- a list under way, and what is to come -/
def Cur (G : Gd) (Dd : Addr) (B C : Hp → List Addr → Store → Prop) (R : Hp → List Addr → Store → β → Prop) (k : List D → M β) (H : Hp) : Prop :=
  ∃ m st acc accD, B H m st ∧ C H m st ∧ Sim G H m st ∧ H Dd = some (.lst acc) ∧ RpAll G H m (Lv G m st) acc accD ∧ Fin G B R (k accD st)
def Bound (G : Gd) (B : Hp → List Addr → Store → Prop) (R : Hp → List Addr → Store → β → Prop) (k : List D → M β) : Prop := ∀ a st, Fin G B R (k a st) → a.length ≤ 10000000
theorem Bound.loop {k : List D → M β} {x : M (List D)} (h : Bound G B R k) : Bound G B R fun a => M.thn x fun ys => k (a ++ ys) := fun a st q => by
  simp only [M.thn] at q
  cases z : x st with
  | ok ys st' =>
    rw [z] at q
    have := h _ _ q
    rw [List.length_append] at this
    omega
  | exc c st' => rw [z] at q; exact q.elim
  | bad => rw [z] at q; exact q.elim
theorem loop_lc {J : L2.It} {ds : List D} {f : D → M (List D)} {k : List D → M β} {Body : V → Hp → (Hp → Prop) → Prop} {Qd : Hp → Prop} {Hs H0 : Hp} {m0 : List Addr} {st0 : Store} {G0 : Gd} {ex : List Addr} (hG : G0.rs ex = G) (cB : Closed G Dd b B) (cC : Closed G Dd b C)
    (hD : Dd ∈ G.ex) (Yl : Yields G0 H0 m0 st0 J ds) (hC : ∀ H m st, B H m st → C H m st → Since G0 H0 m0 st0 ex H m st) (bk : Bound G B R k)
    (h0 : Cur G Dd B C R (fun a => M.thn (loopC f ds) fun ys => k (a ++ ys)) Hs)
    (hs : ∀ x d k' H m st acc accD, Bound G B R k' → B H m st → C H m st → Sim G H m st → H Dd = some (.lst acc) → RpAll G H m (Lv G m st) acc accD → Rp G H m (Lv G m st) x d → Fin G B R (M.thn (f d) (fun ys => k' (accD ++ ys)) st) → Body x H (Cur G Dd B C R k'))
    (hd : ∀ H, Cur G Dd B C R k H → Qd H) :
    ∃ W : Nat → Nat → Hp → Prop, (∃ m, W 0 m Hs) ∧ ∀ i m H, W i m H → (J.stop i H ∧ Qd H) ∨ (J.go i H ∧ ∃ Nx : Hp → Prop, (∀ H', Nx H' → ∃ m', m' < m ∧ W (i + 1) m' H') ∧ ∀ x H', J.yld i H x H' → Body x H' Nx) := by
  obtain ⟨Gp, Y, w, hw⟩ := Yl.out
  refine ⟨fun i n H => n = ds.length - i ∧ i ≤ ds.length ∧ Cur G Dd B C R (fun a => M.thn (loopC f (ds.drop i)) fun ys => k (a ++ ys)) H, ⟨ds.length, by simp, Nat.zero_le _, h0⟩, ?_⟩
  rintro i n H ⟨rfl, hi, m, st, acc, accD, hB, hCc, S, hd1, ra, fin⟩
  subst hG
  have q := hw ex H m st (hC H m st hB hCc) S
  by_cases hlt : i < ds.length
  · refine .inr ⟨w.goes i H hlt q.1, _, fun H' p' => ⟨ds.length - (i + 1), by omega, rfl, hlt, p'⟩, fun x H' y => ?_⟩
    obtain ⟨d, hdi, S', E', rx⟩ := q.2 i x H' hlt (w.yields i H x H' hlt q.1 y)
    have hdr : ds.drop i = d :: ds.drop (i + 1) := by
      rw [List.drop_eq_getElem_cons hlt]
      congr 1
      rw [List.getElem?_eq_getElem hlt] at hdi
      exact Option.some.inj hdi
    have hB' := cB.ext hB S S' (E' b)
    have hC' := cC.ext hCc S S' (E' b)
    refine hs x d _ H' m st acc accD (bk.loop (x := loopC f (ds.drop (i + 1)))) hB' hC' S' (((E' b).res Dd hD).trans hd1) (ra.ext (E' b)) rx ?_
    have e : M.thn (f d) (fun ys => M.thn (loopC f (ds.drop (i + 1))) fun zs => k ((accD ++ ys) ++ zs)) = M.thn (loopC f (ds.drop i)) (fun ys => k (accD ++ ys)) := by
      rw [hdr, loopC, thn_assoc]
      congr 1
      funext ys
      rw [thn_assoc]
      congr 1
      funext zs
      rw [thn_ret, List.append_assoc]
    rw [e]
    exact fin
  · have e : i = ds.length := by omega
    subst e
    refine .inl ⟨w.stops H q.1, hd H ⟨m, st, acc, accD, hB, hCc, S, hd1, ra, ?_⟩⟩
    have e : M.thn (loopC f (ds.drop ds.length)) (fun ys => k (accD ++ ys)) = k accD := by
      rw [List.drop_length, loopC, thn_ret, List.append_nil]
    rw [← e]
    exact fin
/-- the errors that no one waits for -/
abbrev WF : WX := fun _ _ _ _ => False
/-- one turn of the last clause -/
theorem turn_lc {tg : Tg} {cf : Env → M Bool} {ef : Env → M D} {vs : List Nat} {σp : L2.St} {ρb : Env} {k' : List D → M β} {x : V} {d : D} {acc : List V} {accD : List D} (cB : Closed G Dd b B) (cC : Closed G Dd b C) (hD : Dd ∈ G.ex) (hv : ∀ i ∈ tg.vars, i ∈ vs)
    (hE : ∀ H m st, C H m st → EnvR G H m st (wipe σp vs) ρb) (bk : Bound G B R k') (hB : B H m st) (hC : C H m st) (S : Sim G H m st) (hd1 : H Dd = some (.lst acc)) (ra : RpAll G H m (Lv G m st) acc accD) (rx : Rp G H m (Lv G m st) x d)
    (fin : Fin G B R (M.thn (match setTg tg d ρb with | some ρ => M.thn (cf ρ) fun k => if k then M.thn (ef ρ) fun y => M.ret [y] else M.ret [] | none => M.bad) (fun ys => k' (accD ++ ys)) st)) :
    gS G tg x (wipe σp vs) H fun σ2 H2 => wipe σ2 vs = wipe σp vs ∧ Ev.tB G b WF cf σ2 H2 fun c H3 =>
      if c = true then tE G b WF ef σ2 H3 fun y H4 => ∃ acc, H4 Dd = some (.lst acc) ∧ acc.length < sizeLine ∧ Cur G Dd B C R k' (upd H4 Dd (.lst (acc ++ [y]))) else Cur G Dd B C R k' H3 := by
  cases hs : setTg tg d ρb with
  | none => rw [hs] at fin; exact fin.elim
  | some ρ' =>
    rw [hs] at fin
    refine ⟨ρb, m, st, d, ρ', hE H m st hC, S, rx, hs, fun σ' er' hw => ⟨by rw [hw vs hv]; exact wipe_wipe σp vs vs fun _ h => h, ?_⟩⟩
    have fin : Fin G B R (M.thn (M.thn (cf ρ') fun k => if k then M.thn (ef ρ') fun y => M.ret [y] else M.ret []) (fun ys => k' (accD ++ ys)) st) := fin
    rw [thn_assoc] at fin
    refine ⟨ρ', m, st, er', S, (Fin.thn cB hB S fin).mono (fun H1 m1 st1 c S1 E1 q => ?_) fun _ _ (h : False) => h.elim⟩
    obtain ⟨hB1, fin⟩ := q
    have hC1 := cC.ext hC S S1 E1
    cases c with
    | true =>
      have fin : Fin G B R (M.thn (M.thn (ef ρ') fun y => M.ret [y]) (fun ys => k' (accD ++ ys)) st1) := fin
      rw [thn_assoc] at fin
      rw [if_pos rfl]
      refine ⟨ρ', m1, st1, er'.ext E1, S1, (Fin.thn cB hB1 S1 fin).mono (fun H2 m2 st2 y S2 E2 q v r => ?_) fun _ _ (h : False) => h.elim⟩
      obtain ⟨hB2, fin⟩ := q
      have fin : Fin G B R (k' (accD ++ [y]) st2) := fin
      have hC2 := cC.ext hC1 S1 S2 E2
      have hd2 : H2 Dd = some (.lst acc) := ((E2.res Dd hD).trans (E1.res Dd hD)).trans hd1
      have ra2 := (ra.ext E1).ext E2
      obtain ⟨S3, hk⟩ := S2.put (ys := acc ++ [v]) hD hd2
      have hb := bk _ _ fin
      refine ⟨acc, hd2, ?_, m2, st2, acc ++ [v], accD ++ [y], cB.wr _ hB2 S2 hd2, cC.wr _ hC2 S2 hd2, S3, upd_same, (ra2.append (.cons r .nil)).mono hk fun _ _ h => h, fin⟩
      rw [List.length_append] at hb
      have h9 : (10000000 : Nat) ≤ sizeLine := okSize_le (by decide)
      rw [ra2.length]
      simp at hb
      omega
    | false =>
      have fin : Fin G B R (k' (accD ++ []) st1) := fin
      rw [List.append_nil] at fin
      rw [if_neg Bool.false_ne_true]
      exact ⟨m1, st1, acc, accD, hB1, hC1, S1, (E1.res Dd hD).trans hd1, ra.ext E1, fin⟩
end
end
end Ev
set_option linter.all false
set_option maxRecDepth 100000
/-! Ev11: list comprehensions, one clause and two. -/
namespace Ev
open PySem PySem.Spec PyProof.Rows L2

def gSx (G : Gd) (tg : Tg) : TG := fun v σ H Q => ∃ ex, gS (G.rs ex) tg v σ H Q
def tBx (G : Gd) (b : Nat) (W : WX) (f : Env → M Bool) : TT := fun σ H Q => ∃ ex, Ev.tB (G.rs ex) b W f σ H Q
def tEx (G : Gd) (b : Nat) (W : WX) (f : Env → M D) : TE := fun σ H Q => ∃ ex, tE (G.rs ex) b W f σ H Q
def tIx (G : Gd) (b : Nat) (W : WX) (f : Env → M (List D)) : TI := fun σ H R => ∃ ex, tI (G.rs ex) b W f σ H R
abbrev turnF (own : List Nat) (tg : Tg) (cf : Env → M Bool) (ef : Env → M D) (ρ : Env) : D → M (List D) := fun x => match setTg tg x (wipeE ρ own) with
  | some σ => M.thn (cf σ) fun k => if k then M.thn (ef σ) fun y => M.ret [y] else M.ret []
  | none => M.bad
abbrev compF (own : List Nat) (tg : Tg) (itf : Env → M (List D)) (cf : Env → M Bool) (ef : Env → M D) (ρ : Env) : M (List D) :=
  M.thn (itf ρ) fun xs => M.calm (M.thn (loopC (turnF own tg cf ef ρ) xs) fun ys => if okSize ys.length then M.ret ys else M.bad)
abbrev turnF2 (own own1 : List Nat) (tg tg1 : Tg) (cf : Env → M Bool) (itf1 : Env → M (List D)) (cf1 : Env → M Bool) (ef : Env → M D) (ρ : Env) : D → M (List D) := fun x => match setTg tg x (wipeE ρ own) with
  | some σ => M.thn (cf σ) fun k => if k then M.thn (itf1 σ) fun zs => loopC (turnF own1 tg1 cf1 ef σ) zs else M.ret []
  | none => M.bad
abbrev compF2 (own own1 : List Nat) (tg tg1 : Tg) (itf : Env → M (List D)) (cf : Env → M Bool) (itf1 : Env → M (List D)) (cf1 : Env → M Bool) (ef : Env → M D) (ρ : Env) : M (List D) :=
  M.thn (itf ρ) fun xs => M.calm (M.thn (loopC (turnF2 own own1 tg tg1 cf itf1 cf1 ef ρ) xs) fun ys => if okSize ys.length then M.ret ys else M.bad)
theorem TB.mono {G : Gd} {b : Nat} {W : WX} {σ : L2.St} {H : Hp} {f : Env → M Bool} {Q Q' : Bool → Hp → Prop} (h : Ev.tB G b W f σ H Q) (q : ∀ c H', Q c H' → Q' c H') : Ev.tB G b W f σ H Q' := by
  obtain ⟨ρ, m, st, er, S, h⟩ := h
  exact ⟨ρ, m, st, er, S, h.mono (fun H' m' st' d _ _ h => q _ _ h) fun _ _ h => h⟩
theorem tI.mono {G : Gd} {b : Nat} {W : WX} {σ : L2.St} {H : Hp} {f : Env → M (List D)} {Q Q' : L2.It → Hp → Prop} (h : tI G b W f σ H Q) (q : ∀ c H', Q c H' → Q' c H') : tI G b W f σ H Q' := by
  obtain ⟨ρ, m, st, er, S, h⟩ := h
  exact ⟨ρ, m, st, er, S, h.mono (fun H' m' st' d _ _ h J y => q _ _ (h J y)) fun _ _ h => h⟩
theorem gS.mono {G : Gd} {σ : L2.St} {H : Hp} {tg : Tg} {v : V} {Q Q' : L2.St → Hp → Prop} (h : gS G tg v σ H Q) (q : ∀ c H', Q c H' → Q' c H') : gS G tg v σ H Q' := by
  obtain ⟨ρ, m, st, d, ρ', er, S, r, hs, h⟩ := h
  exact ⟨ρ, m, st, d, ρ', er, S, r, hs, fun σ' e w => q _ _ (h σ' e w)⟩
section
variable {G : Gd} {b : Nat} {W : WX} {σ : L2.St} {H : Hp} {Q : VK} {own own1 : List Nat} {tg tg1 : Tg} {itf itf1 : Env → M (List D)} {cf cf1 : Env → M Bool} {ef : Env → M D}
abbrev capF : List D → M (List D) := fun ys => if okSize ys.length then M.ret ys else M.bad
/-- the frame of both -/
theorem lc_frame {f : Env → D → M (List D)} {Body : Addr → V → Hp → (Hp → Prop) → Prop} (h : tN G b W (fun ρ => M.thn (itf ρ) fun xs => M.calm (M.thn (loopC (f ρ) xs) capF)) σ H Q)
    (hbody : ∀ (ρ : Env) (Dd : Addr) (B C : Hp → List Addr → Store → Prop) (R : Hp → List Addr → Store → List D → Prop), Closed (G.rs (Dd :: G.ex)) Dd b B → Closed (G.rs (Dd :: G.ex)) Dd b C → (∀ H m st, C H m st → EnvR (G.rs (Dd :: G.ex)) H m st (wipe σ own) (wipeE ρ own)) →
      ∀ x d k' H m st acc accD, Bound (G.rs (Dd :: G.ex)) B R k' → B H m st → C H m st → Sim (G.rs (Dd :: G.ex)) H m st → H Dd = some (.lst acc) → RpAll (G.rs (Dd :: G.ex)) H m (Lv (G.rs (Dd :: G.ex)) m st) acc accD → Rp (G.rs (Dd :: G.ex)) H m (Lv (G.rs (Dd :: G.ex)) m st) x d →
        Fin (G.rs (Dd :: G.ex)) B R (M.thn (f ρ d) (fun ys => k' (accD ++ ys)) st) → Body Dd x H (Cur (G.rs (Dd :: G.ex)) Dd B C R k')) :
    tI G b W itf σ H (fun J H1 => ∀ Dd, H1 Dd = none → ∃ Wm : Nat → Nat → Hp → Prop, (∃ m, Wm 0 m (upd H1 Dd (.lst []))) ∧ ∀ i m H, Wm i m H → (J.stop i H ∧ Q (.ref Dd) H) ∨ (J.go i H ∧ ∃ Nx : Hp → Prop, (∀ H', Nx H' → ∃ m', m' < m ∧ Wm (i + 1) m' H') ∧ ∀ x H', J.yld i H x H' → Body Dd x H' Nx)) := by
  obtain ⟨ρ, m, st, er, S, h⟩ := h
  refine (tI.go er S h).mono fun J H1 q => ?_
  obtain ⟨m1, st1, ds, S1, E1, Yl, h1⟩ := q
  intro Dd hD
  have hex : ∀ a ∈ G.ex, a ≠ Dd := fun a ha => by
    obtain ⟨⟨o, q⟩, _⟩ := S1.res a ha
    exact ne_of_none q hD
  obtain ⟨S2, E2⟩ := S1.reserve (b := b) (xs := []) hD
  refine loop_lc (G := G.rs (Dd :: G.ex)) (f := f ρ) (Dd := Dd) (b := b) (B := fun H m st => Ext2 G (Dd :: G.ex) b H1 m1 st1 H m st) (C := fun H m st => EnvR (G.rs (Dd :: G.ex)) H m st (wipe σ own) (wipeE ρ own)) (k := capF)
    (R := fun H' m' st' d => ∀ vs, H' Dd = some (.lst vs) → RpAll (G.rs (Dd :: G.ex)) H' m' (Lv (G.rs (Dd :: G.ex)) m' st') vs d → Q (.ref Dd) H') rfl (Closed.ext2 hD hex) (Closed.env List.mem_cons_self) List.mem_cons_self Yl (fun H m st hB _ => hB.sc) ?_ ?_ ?_ ?_
  · intro a st' q
    by_cases z : okSize a.length = true
    · exact of_decide_eq_true z
    · have q : Fin _ _ _ ((if okSize a.length = true then M.ret a else M.bad) st') := q
      rw [if_neg z] at q
      exact q.elim
  · refine ⟨m1, st1, [], [], E2, ((er.ext E1).since E2.sc).wipe own, S2, upd_same, .nil, ?_⟩
    show Fin _ _ _ (M.thn (loopC (f ρ) ds) (fun ys => capF ([] ++ ys)) st1)
    have e : (fun ys => capF ([] ++ ys)) = capF := by funext ys; rfl
    rw [e]
    simp only [M.calm] at h1
    cases q : M.thn (loopC (f ρ) ds) capF st1 with
    | ok ds' st' =>
      rw [q] at h1
      intro H' m' S' B' vs hv r
      obtain ⟨S3, E3, r3⟩ := S'.release hD hex B' r
      have q3 := h1 (era H' Dd) m' S3 E3 Dd vs era_same r3
      rw [upd_era hv] at q3
      exact q3
    | exc c st' => rw [q] at h1; exact h1.elim
    | bad => rw [q] at h1; exact h1.elim
  · intro x d k' H m st acc accD bk hB hC S hd ra rx fin
    exact hbody ρ Dd _ _ _ (Closed.ext2 hD hex) (Closed.env List.mem_cons_self) (fun _ _ _ h => h) x d k' H m st acc accD bk hB hC S hd ra rx fin
  · rintro H ⟨m, st, acc, accD, hB, hC, S, hd, ra, fin⟩
    have q : Fin _ _ _ ((if okSize accD.length = true then M.ret accD else M.bad) st) := fin
    by_cases z : okSize accD.length = true
    · rw [if_pos z] at q
      exact q H m S hB acc hd ra
    · rw [if_neg z] at q
      exact q.elim
theorem lc_read (hv : ∀ i ∈ tg.vars, i ∈ own) (h : tN G b W (compF own tg itf cf ef) σ H Q) : tLc (tI G b W itf) (gSx G tg) (tBx G b WF cf) (tEx G b WF ef) own σ H Q := by
  refine lc_frame (own := own) (f := fun ρ => turnF own tg cf ef ρ) (Body := fun Dd x H' Nx => gSx G tg x (wipe σ own) H' fun σ2 H2 => wipe σ2 own = wipe σ own ∧ tBx G b WF cf σ2 H2 fun c H3 =>
    if c = true then tEx G b WF ef σ2 H3 fun y H4 => ∃ acc, H4 Dd = some (.lst acc) ∧ acc.length < sizeLine ∧ Nx (upd H4 Dd (.lst (acc ++ [y]))) else Nx H3) h fun ρ Dd B C R cB cC hE x d k' H m st acc accD bk hB hC S hd ra rx fin => ?_
  have q := turn_lc cB cC List.mem_cons_self hv hE bk hB hC S hd ra rx fin
  refine ⟨_, q.mono fun σ2 H2 ⟨e, q⟩ => ⟨e, _, TB.mono q fun c H3 q => ?_⟩⟩
  cases c with
  | true => rw [if_pos rfl] at q ⊢; exact ⟨_, q⟩
  | false => rw [if_neg Bool.false_ne_true] at q ⊢; exact q
theorem lc_read2 (hv : ∀ i ∈ tg.vars, i ∈ own) (hv1 : ∀ i ∈ tg1.vars, i ∈ own1) (h : tN G b W (compF2 own own1 tg tg1 itf cf itf1 cf1 ef) σ H Q) :
    tLc2 (tI G b W itf) (gSx G tg) (tBx G b WF cf) (tIx G b WF itf1) (gSx G tg1) (tBx G b WF cf1) (tEx G b WF ef) own own1 σ H Q := by
  refine lc_frame (own := own) (f := fun ρ => turnF2 own own1 tg tg1 cf itf1 cf1 ef ρ) (Body := fun Dd x H' Nx => gSx G tg x (wipe σ own) H' fun σ2 H2 => wipe σ2 own = wipe σ own ∧ tBx G b WF cf σ2 H2 fun c H3 =>
    if c = true then tIx G b WF itf1 σ2 H3 fun J1 H4 => ∃ W1 : Nat → Nat → Hp → Prop, (∃ m, W1 0 m H4) ∧ ∀ j k H, W1 j k H →
      (J1.stop j H ∧ Nx H) ∨ (J1.go j H ∧ ∃ Nx1 : Hp → Prop, (∀ H', Nx1 H' → ∃ k', k' < k ∧ W1 (j + 1) k' H') ∧ ∀ x H', J1.yld j H x H' → gSx G tg1 x (wipe σ2 own1) H' fun σ3 H5 => wipe σ3 own1 = wipe σ2 own1 ∧ tBx G b WF cf1 σ3 H5 fun c H6 =>
        if c = true then tEx G b WF ef σ3 H6 fun y H7 => ∃ acc, H7 Dd = some (.lst acc) ∧ acc.length < sizeLine ∧ Nx1 (upd H7 Dd (.lst (acc ++ [y]))) else Nx1 H6)
    else Nx H3) h fun ρ Dd B C R cB cC hE x d k' H m st acc accD bk hB hC S hd1 ra rx fin => ?_
  cases hs : setTg tg d (wipeE ρ own) with
  | none =>
    simp only [turnF2, hs] at fin
    exact fin.elim
  | some ρ' =>
    simp only [turnF2, hs] at fin
    refine ⟨Dd :: G.ex, wipeE ρ own, m, st, d, ρ', hE H m st hC, S, rx, hs, fun σ' er' hw => ⟨by rw [hw own hv]; exact wipe_wipe σ own own fun _ h => h, Dd :: G.ex, ?_⟩⟩
    rw [thn_assoc] at fin
    refine ⟨ρ', m, st, er', S, (Fin.thn cB hB S fin).mono (fun H1 m1 st1 c S1 E1 q => ?_) fun _ _ (h : False) => h.elim⟩
    obtain ⟨hB1, fin⟩ := q
    have hC1 := cC.ext hC S S1 E1
    cases c with
    | false =>
      rw [if_neg Bool.false_ne_true] at fin ⊢
      have fin : Fin (G.rs (Dd :: G.ex)) B R (k' (accD ++ []) st1) := fin
      rw [List.append_nil] at fin
      exact ⟨m1, st1, acc, accD, hB1, hC1, S1, (E1.res Dd List.mem_cons_self).trans hd1, ra.ext E1, fin⟩
    | true =>
      rw [if_pos rfl] at fin ⊢
      rw [thn_assoc] at fin
      refine ⟨Dd :: G.ex, ρ', m1, st1, er'.ext E1, S1, (Fin.thn cB hB1 S1 fin).mono (fun H2 m2 st2 zs S2 E2 q J Yl => ?_) fun _ _ (h : False) => h.elim⟩
      obtain ⟨hB2, fin⟩ := q
      have hC2 := cC.ext hC1 S1 S2 E2
      have er2 := (er'.ext E1).ext E2
      refine loop_lc (G := G.rs (Dd :: G.ex)) (G0 := G.rs (Dd :: G.ex)) (ex := Dd :: G.ex) (f := turnF own1 tg1 cf1 ef ρ') (Dd := Dd) (b := b) (B := B) (R := R) (k := k')
        (C := fun H m st => C H m st ∧ EnvR (G.rs (Dd :: G.ex)) H m st (wipe σ' own1) (wipeE ρ' own1) ∧ Since (G.rs (Dd :: G.ex)) H2 m2 st2 (Dd :: G.ex) H m st) rfl cB (cC.and ((Closed.env List.mem_cons_self).and (Closed.since (G := G.rs (Dd :: G.ex)) List.mem_cons_self))) List.mem_cons_self Yl (fun H m st _ hC => hC.2.2) bk ?_ ?_ ?_
      · exact ⟨m2, st2, acc, accD, hB2, ⟨hC2, er2.wipe own1, ⟨fun a f => ⟨rfl, f.2⟩, fun _ _ h => h⟩⟩, S2, ((E2.res Dd List.mem_cons_self).trans (E1.res Dd List.mem_cons_self)).trans hd1, (ra.ext E1).ext E2, fin⟩
      · intro x d k'' H m st acc accD bk hB hC S hd ra rx fin
        have q := turn_lc (σp := σ') (ρb := wipeE ρ' own1) cB (cC.and ((Closed.env List.mem_cons_self).and (Closed.since (G := G.rs (Dd :: G.ex)) List.mem_cons_self))) List.mem_cons_self hv1 (fun _ _ _ h => h.2.1) bk hB hC S hd ra rx fin
        refine ⟨_, q.mono fun σ2 H2 ⟨e, q⟩ => ⟨e, _, TB.mono q fun c H3 q => ?_⟩⟩
        cases c with
        | true => rw [if_pos rfl] at q ⊢; exact ⟨_, q⟩
        | false => rw [if_neg Bool.false_ne_true] at q ⊢; exact q
      · rintro H ⟨m, st, acc, accD, hB, hC, S, hd, ra, fin⟩
        exact ⟨m, st, acc, accD, hB, hC.1, S, hd, ra, fin⟩
end
section
variable {X : Cx} {G : Gd} {b : Nat} {W : WX} {own : List (Str × Nat)} {own1 : List Nat} {tg tg1 : Tg} {itf itf1 : Env → M (List D)} {cf cf1 : Env → M Bool} {ef : Env → M D} {elt tge iter tge1 iter1 : Expr} {ifs ifs1 : List Expr} {scope : Scope} {pos : Pos}
theorem gx (h : ∀ ex, PG X tge (gS (G.rs ex) tg)) : PG X tge (gSx G tg) := ⟨fun pins s σ H v u Q I r q => let ⟨ex, q⟩ := q; (h ex).run pins s σ H v u Q I r q⟩
theorem tx (h : ∀ ex, PTs X ifs (Ev.tB (G.rs ex) b W cf)) : PTs X ifs (tBx G b W cf) := ⟨fun pins s σ H Q I q => let ⟨ex, q⟩ := q; (h ex).run pins s σ H Q I q⟩
theorem exx (h : ∀ ex, PE X elt (tE (G.rs ex) b W ef)) : PE X elt (tEx G b W ef) := ⟨fun pins s σ H Q I q => let ⟨ex, q⟩ := q; (h ex).run pins s σ H Q I q⟩
theorem ix (h : ∀ ex, PI X tge iter (tI (G.rs ex) b W itf)) : PI X tge iter (tIx G b W itf) := ⟨fun pins s σ H Q I q => let ⟨ex, q⟩ := q; (h ex).run pins s σ H Q I q⟩
theorem spts_nil : PTs X [] (Ev.tB G b W fun _ => M.ret true) := ⟨fun pins s σ H Q I q => pts_nil.run pins s σ H Q I (by obtain ⟨ρ, m, st, er, S, h⟩ := q; exact h.ret S)⟩
/-- a comprehension's parts, in its block -/
structure CompOk (X : Cx) (G : Gd) (b : Nat) (W : WX) (elt tge iter : Expr) (ifs : List Expr) (scope : Scope) (own : List (Str × Nat)) (tg : Tg) (itf : Env → M (List D)) (cf : Env → M Bool) (ef : Env → M D) : Prop where
  it : PI X tge iter (tI G b W itf)
  ok : BlkOk X.N X.env.scope scope own
  vars : ∀ i ∈ tg.vars, i ∈ own.map (·.2)
  tgt : ∀ (s : Shared) (H : Hp) (C : Addr) (cl : List (Str × Addr)) (fp : List Addr) (ex : List Addr), PG (X.blk s H scope (compEnvC scope cl C X.env) fp) tge (gS (G.rs ex) tg)
  tst : ∀ (s : Shared) (H : Hp) (C : Addr) (cl : List (Str × Addr)) (fp : List Addr) (ex : List Addr), PTs (X.blk s H scope (compEnvC scope cl C X.env) fp) ifs (Ev.tB (G.rs ex) b WF cf)
  el : ∀ (s : Shared) (H : Hp) (C : Addr) (cl : List (Str × Addr)) (fp : List Addr) (ex : List Addr), PE (X.blk s H scope (compEnvC scope cl C X.env) fp) elt (tE (G.rs ex) b WF ef)
  src : ∀ x, foldedSetIterable iter X.env x = pure x
structure CompOk2 (X : Cx) (G : Gd) (b : Nat) (W : WX) (elt tge iter : Expr) (ifs : List Expr) (tge1 iter1 : Expr) (ifs1 : List Expr) (scope : Scope) (own : List (Str × Nat)) (own1 : List Nat) (tg tg1 : Tg) (itf : Env → M (List D)) (cf : Env → M Bool) (itf1 : Env → M (List D)) (cf1 : Env → M Bool) (ef : Env → M D) : Prop
    extends CompOk X G b W elt tge iter ifs scope own tg itf cf ef where
  vars1 : ∀ i ∈ tg1.vars, i ∈ own1
  sub1 : ∀ i ∈ own1, i ∈ own.map (·.2)
  it1 : ∀ (s : Shared) (H : Hp) (C : Addr) (cl : List (Str × Addr)) (fp : List Addr) (ex : List Addr), PI (X.blk s H scope (compEnvC scope cl C X.env) fp) tge1 iter1 (tI (G.rs ex) b WF itf1)
  tgt1 : ∀ (s : Shared) (H : Hp) (C : Addr) (cl : List (Str × Addr)) (fp : List Addr) (ex : List Addr), PG (X.blk s H scope (compEnvC scope cl C X.env) fp) tge1 (gS (G.rs ex) tg1)
  tst1 : ∀ (s : Shared) (H : Hp) (C : Addr) (cl : List (Str × Addr)) (fp : List Addr) (ex : List Addr), PTs (X.blk s H scope (compEnvC scope cl C X.env) fp) ifs1 (Ev.tB (G.rs ex) b WF cf1)
  src1 : ∀ env x, foldedSetIterable iter1 env x = pure x
theorem sn_comp (hc : X.calm = true) (hN : X.N.Nodup) (h : CompOk X G b W elt tge iter ifs scope own tg itf cf ef) : PE X (.ListComp elt [⟨tge, iter, ifs, 0⟩] scope pos) (tN G b W (compF (own.map (·.2)) tg itf cf ef)) :=
  ofE (pe_lc hc hN h.it h.ok (fun s H C cl fp => gx (h.tgt s H C cl fp)) (fun s H C cl fp => tx (h.tst s H C cl fp)) (fun s H C cl fp => exx (h.el s H C cl fp)) h.src) fun σ H Q q => lc_read h.vars q
theorem sn_comp2 (hc : X.calm = true) (hN : X.N.Nodup) (h : CompOk2 X G b W elt tge iter ifs tge1 iter1 ifs1 scope own own1 tg tg1 itf cf itf1 cf1 ef) : PE X (.ListComp elt [⟨tge, iter, ifs, 0⟩, ⟨tge1, iter1, ifs1, 0⟩] scope pos) (tN G b W (compF2 (own.map (·.2)) own1 tg tg1 itf cf itf1 cf1 ef)) :=
  ofE (pe_lc2 hc hN h.it h.ok h.sub1 (fun s H C cl fp => gx (h.tgt s H C cl fp)) (fun s H C cl fp => tx (h.tst s H C cl fp)) (fun s H C cl fp => ix (h.it1 s H C cl fp)) (fun s H C cl fp => gx (h.tgt1 s H C cl fp)) (fun s H C cl fp => tx (h.tst1 s H C cl fp)) (fun s H C cl fp => exx (h.el s H C cl fp)) h.src h.src1) fun σ H Q q => lc_read2 h.vars h.vars1 q
end
end Ev
set_option linter.all false
set_option maxRecDepth 100000
/-! Ev12: statements. -/
namespace Ev
open PySem PySem.Spec PyProof.Rows L2

abbrev wE (E : XK) : WX := fun c d _ H => E c d H
abbrev XW (G : Gd) (E : XK) : Nat → Hp → Prop := fun c H' => ∀ a, G.ec c a → E (.ref a) none H'
def FlowR (G : Gd) (D : Ends) (H : Hp) (m : List Addr) (st : Store) : Flow → Prop
  | .next ρ => ∀ σ, EnvR G H m st σ ρ → D.nx σ H
  | .brk ρ => ∀ σ, EnvR G H m st σ ρ → D.bk σ H
  | .ret d => ∀ v, Rp G H m (Lv G m st) v d → D.rt v H
def tS (G : Gd) (b : Nat) (E : XK) (f : Env → M Flow) : TS := fun D σ H => ∃ ρ m st, EnvR G H m st σ ρ ∧ Sim G H m st ∧ After G b H m st (XW G E) (FlowR G D) (f ρ st)
/-- what follows a flow -/
abbrev flowK (g : Env → M Flow) : Flow → M Flow := fun fl => match fl with
  | .next ρ => g ρ
  | fl => M.ret fl
section
variable {X : Cx} {G : Gd} {b : Nat} {E : XK} {f g k : Env → M D} {fs gs : Env → M Flow} {e e' e2 : Expr} {pos p : Pos} {es : List Expr} {stm : Stmt} {rest rest' : List Stmt}
theorem ofS {t t' : TS} (h : PS X stm t) (i : ∀ D σ H, t' D σ H → t D σ H) : PS X stm t' := ⟨fun pins s σ H D I q => h.run pins s σ H D I (i D σ H q)⟩
theorem ofSs {t t' : TS} (h : PSs X rest t) (i : ∀ D σ H, t' D σ H → t D σ H) : PSs X rest t' := ⟨fun pins s σ H D I q => h.run pins s σ H D I (i D σ H q)⟩
theorem sss_nil : PSs X [] (tS G b E fun ρ => M.ret (.next ρ)) := ofSs pss_nil fun D σ H q => by
  obtain ⟨ρ, m, st, er, S, h⟩ := q
  exact h.ret S σ er
theorem sss_cons (h1 : PS X stm (tS G b E fs)) (h2 : PSs X rest (tS G b E gs)) : PSs X (stm :: rest) (tS G b E fun ρ => M.thn (fs ρ) (flowK gs)) := by
  refine ofSs (pss_cons h1 h2) fun D σ H q => ?_
  obtain ⟨ρ, m, st, er, S, h⟩ := q
  refine ⟨ρ, m, st, er, S, (h.thn S).mono (fun H' m' st' fl S' E' h => ?_) fun _ _ h => h⟩
  cases fl with
  | next ρ' => exact fun σ' er' => ⟨ρ', m', st', er', S', h⟩
  | brk ρ' => exact fun σ' er' => After.ret (Wσ := XW G E) (R := FlowR G D) (d := Flow.brk ρ') S' h σ' er'
  | ret d => exact fun v r => After.ret (Wσ := XW G E) (R := FlowR G D) (d := Flow.ret d) S' h v r
/-- a step of ours alone -/
theorem sss_ours (h2 : PSs X rest (tS G b E gs)) (ok : ∀ (D : Ends) (σ : L2.St) (H : Hp) (ρ : Env) (m : List Addr) (st : Store), EnvR G H m st σ ρ → Sim G H m st → After G b H m st (XW G E) (FlowR G D) (M.thn (fs ρ) (flowK gs) st) → ∃ ρ' m' st', EnvR G H m' st' σ ρ' ∧ Sim G H m' st' ∧ After G b H m' st' (XW G E) (FlowR G D) (gs ρ' st')) :
    PSs X rest (tS G b E fun ρ => M.thn (fs ρ) (flowK gs)) := by
  refine ofSs h2 fun D σ H q => ?_
  obtain ⟨ρ, m, st, er, S, h⟩ := q
  exact ok D σ H ρ m st er S h
theorem sss_freeze {i : Nat} (h2 : PSs X rest (tS G b E gs)) : PSs X rest (tS G b E fun ρ => M.thn (M.thn (getE ρ i) fun x => fun st => match x with
    | .ref l => match st[l]? with
      | some (.lst xs) => .ok (.next (ρ.set i (some (.lst xs)))) (st.set l .dead)
      | some (.dct ks vs) => .ok (.next (ρ.set i (some (.dct ks vs)))) (st.set l .dead)
      | _ => .bad
    | _ => .bad) (flowK gs)) := by
  refine sss_ours h2 fun D σ H ρ m st er S h => ?_
  rw [thn_assoc] at h
  cases q : ρ[i]? with
  | none => simp only [getE, q] at h; exact h.elim
  | some o =>
    cases o with
    | none => simp only [getE, q] at h; exact h.elim
    | some d =>
      simp only [getE, q, thn_ret] at h
      cases d with
      | ref l =>
        simp only [M.thn] at h
        cases hl : st[l]? with
        | none => simp only [hl] at h; exact h.elim
        | some c =>
          cases c with
          | dead => simp only [hl] at h; exact h.elim
          | dct ks vs =>
            obtain ⟨a, ha⟩ := S.addr hl
            exact (S.cell l _ a hl ha).elim
          | lst xs =>
            simp only [hl] at h
            obtain ⟨a, ha⟩ := S.addr hl
            obtain ⟨S2, E2, r2⟩ := S.freeze (b := b) hl ha
            refine ⟨_, m, _, ?_, S2, After.from S S2 E2 h⟩
            obtain ⟨v, hv, rv⟩ := er.at_ i _ q
            cases rv with
            | ref ha' =>
              rw [ha] at ha'
              cases ha'
              have e3 := (er.ext E2).set (i := i) r2
              have e4 : σ.set i (some (V.ref a)) = σ := by
                apply List.ext_getElem?
                intro j
                by_cases hj : i = j
                · subst hj
                  rw [List.getElem?_set_self (List.getElem?_eq_some_iff.mp hv).1, hv]
                · rw [List.getElem?_set_ne hj]
              rw [e4] at e3
              exact e3
      | _ => exact h.elim
theorem ss_expr (he : PE X e (tE G b (wE E) f)) (hs : swapsWith e none pos.line X.env = pure false) : PS X (.Expr e pos) (tS G b E fun ρ => M.thn (f ρ) fun _ => M.ret (.next ρ)) := by
  refine ofS (ps_expr he hs) fun D σ H q => ?_
  obtain ⟨ρ, m, st, er, S, h⟩ := q
  refine (tE.go er S h).mono fun v H1 q => ?_
  obtain ⟨m1, st1, d, S1, E1, r, h1⟩ := q
  exact h1.ret S1 σ (er.ext E1)
theorem ss_pass : PS X (.Pass pos) (tS G b E fun ρ => M.ret (.next ρ)) := ofS ps_pass fun D σ H q => by
  obtain ⟨ρ, m, st, er, S, h⟩ := q
  exact h.ret S σ er
theorem ss_brk : PS X (.Break pos) (tS G b E fun ρ => M.ret (.brk ρ)) := ofS ps_break fun D σ H q => by
  obtain ⟨ρ, m, st, er, S, h⟩ := q
  exact h.ret S σ er
theorem ss_ret (he : PE X e (tE G b (wE E) f)) : PS X (.Return (some e) pos) (tS G b E fun ρ => M.thn (f ρ) fun d => M.ret (.ret d)) := ofS (ps_ret he) fun D σ H q => by
  obtain ⟨ρ, m, st, er, S, h⟩ := q
  refine (tE.go er S h).mono fun v H1 q => ?_
  obtain ⟨m1, st1, d, S1, E1, r, h1⟩ := q
  exact h1.ret S1 v r
theorem ss_retN : PS X (.Return none pos) (tS G b E fun ρ => M.ret (.ret .non)) := ofS ps_retN fun D σ H q => by
  obtain ⟨ρ, m, st, er, S, h⟩ := q
  exact h.ret S .non .non
theorem ss_if {c : Env → M Bool} (hc : PT X e (Ev.tB G b (wE E) c)) (ha : PSs X rest (tS G b E fs)) (hb : PSs X rest' (tS G b E gs)) : PS X (.If e rest rest' pos) (tS G b E fun ρ => M.thn (c ρ) fun k => if k then fs ρ else gs ρ) := ofS (ps_if hc ha hb) fun D σ H q => by
  obtain ⟨ρ, m, st, er, S, h⟩ := q
  refine TB.mono (tB.go er S h) fun k H1 q => ?_
  obtain ⟨m1, st1, S1, E1, h1⟩ := q
  cases k with
  | true => rw [if_pos rfl] at h1 ⊢; exact ⟨ρ, m1, st1, er.ext E1, S1, h1⟩
  | false => rw [if_neg Bool.false_ne_true] at h1 ⊢; exact ⟨ρ, m1, st1, er.ext E1, S1, h1⟩
theorem ss_set {i : Nat} {x : Str} (hN : X.N.Nodup) (hi : X.N[i]? = some x) (hx : Loc X.env.scope x) (he : PE X e (tE G b (wE E) f)) (hs : swapsWith e (some (.Name x p)) pos.line X.env = pure false) (hf : X.fn x = true ∨ X.env.scope.names.lookup x = some .local) :
    PS X (.Assign [.Name x p] e pos) (tS G b E fun ρ => M.thn (f ρ) fun d => M.thn (M.ret (ρ.set i (some d))) fun ρ => M.ret (.next ρ)) := by
  refine ofS (ps_set hN hi hx he hs hf) fun D σ H q => ?_
  obtain ⟨ρ, m, st, er, S, h⟩ := q
  refine (tE.go er S h).mono fun v H1 q => ?_
  obtain ⟨m1, st1, d, S1, E1, r, h1⟩ := q
  exact h1.ret S1 _ ((er.ext E1).set r)
theorem ss_asg {tg : Tg} (he : PE X e (tE G b (wE E) f)) (hg : PG X e' (gS G tg)) (hs : swapsWithSole [e'] e pos.line X.env = pure false) (hw : swappedStores [e'] e X.env = pure none) (h1 : (assignEach [e'] X.env).map (·.2) = [assign e' X.env]) :
    PS X (.Assign [e'] e pos) (tS G b E fun ρ => M.thn (f ρ) fun d => M.thn (M.ofO (setTg tg d ρ)) fun ρ => M.ret (.next ρ)) := by
  refine ofS (ps_asg he hg hs hw h1) fun D σ H q => ?_
  obtain ⟨ρ, m, st, er, S, h⟩ := q
  refine (tE.go er S h).mono fun v H1 q => ?_
  obtain ⟨m1, st1, d, S1, E1, r, h1⟩ := q
  obtain ⟨ρ', hs, h2⟩ := (h1.thn S1).ofO
  exact ⟨ρ, m1, st1, d, ρ', er.ext E1, S1, r, hs, fun σ' er' _ => (h2.ret S1).ret S1 σ' er'⟩
/-- name = [..], the comprehension's own frame around the store -/
theorem ss_lc {i : Nat} {x : Str} {own : List (Str × Nat)} {tg : Tg} {itf : Env → M (List D)} {cf : Env → M Bool} {elt tge iter : Expr} {ifs : List Expr} {scope : Scope} {p2 : Pos} {nf : List D → M D} (hc : X.calm = true) (hN : X.N.Nodup) (h : CompOk X G b (wE E) elt tge iter ifs scope own tg itf cf f)
    (hi : X.N[i]? = some x) (hx : X.env.scope.names.lookup x = some .local) (hs : swapsWith (.ListComp elt [⟨tge, iter, ifs, 0⟩] scope p2) (some (.Name x p)) pos.line X.env = pure true)
    (hn : ∀ {σ H Q}, tE G b (wE E) (fun ρ => M.thn (compF (own.map (·.2)) tg itf cf f ρ) nf) σ H Q → tN G b (wE E) (compF (own.map (·.2)) tg itf cf f) σ H Q) :
    PS X (.Assign [.Name x p] (.ListComp elt [⟨tge, iter, ifs, 0⟩] scope p2) pos) (tS G b E fun ρ => M.thn (M.thn (compF (own.map (·.2)) tg itf cf f ρ) nf) fun d => M.thn (M.ret (ρ.set i (some d))) fun ρ => M.ret (.next ρ)) := by
  refine ofS (ps_setLc hc hN hi hx hs h.it h.ok (fun s H C cl fp => gx (h.tgt s H C cl fp)) (fun s H C cl fp => tx (h.tst s H C cl fp)) (fun s H C cl fp => exx (h.el s H C cl fp)) h.src) fun D σ H q => ?_
  obtain ⟨ρ, m, st, er, S, q⟩ := q
  refine lc_read h.vars (hn ((tE.go (f := fun ρ => M.thn (compF (own.map (·.2)) tg itf cf f ρ) nf) er S q).mono fun v H1 q => ?_))
  obtain ⟨m1, st1, d, S1, E1, r, h1⟩ := q
  exact h1.ret S1 _ ((er.ext E1).set r)
theorem ss_lc2 {i : Nat} {x : Str} {own : List (Str × Nat)} {own1 : List Nat} {tg tg1 : Tg} {itf itf1 : Env → M (List D)} {cf cf1 : Env → M Bool} {elt tge iter tge1 iter1 : Expr} {ifs ifs1 : List Expr} {scope : Scope} {p2 : Pos} {nf : List D → M D} (hc : X.calm = true) (hN : X.N.Nodup)
    (h : CompOk2 X G b (wE E) elt tge iter ifs tge1 iter1 ifs1 scope own own1 tg tg1 itf cf itf1 cf1 f)
    (hi : X.N[i]? = some x) (hx : X.env.scope.names.lookup x = some .local) (hs : swapsWith (.ListComp elt [⟨tge, iter, ifs, 0⟩, ⟨tge1, iter1, ifs1, 0⟩] scope p2) (some (.Name x p)) pos.line X.env = pure true)
    (hn : ∀ {σ H Q}, tE G b (wE E) (fun ρ => M.thn (compF2 (own.map (·.2)) own1 tg tg1 itf cf itf1 cf1 f ρ) nf) σ H Q → tN G b (wE E) (compF2 (own.map (·.2)) own1 tg tg1 itf cf itf1 cf1 f) σ H Q) :
    PS X (.Assign [.Name x p] (.ListComp elt [⟨tge, iter, ifs, 0⟩, ⟨tge1, iter1, ifs1, 0⟩] scope p2) pos) (tS G b E fun ρ => M.thn (M.thn (compF2 (own.map (·.2)) own1 tg tg1 itf cf itf1 cf1 f ρ) nf) fun d => M.thn (M.ret (ρ.set i (some d))) fun ρ => M.ret (.next ρ)) := by
  refine ofS (ps_setLc2 hc hN hi hx hs h.it h.ok h.sub1 (fun s H C cl fp => gx (h.tgt s H C cl fp)) (fun s H C cl fp => tx (h.tst s H C cl fp)) (fun s H C cl fp => ix (h.it1 s H C cl fp)) (fun s H C cl fp => gx (h.tgt1 s H C cl fp)) (fun s H C cl fp => tx (h.tst1 s H C cl fp)) (fun s H C cl fp => exx (h.el s H C cl fp)) h.src h.src1) fun D σ H q => ?_
  obtain ⟨ρ, m, st, er, S, q⟩ := q
  refine lc_read2 h.vars h.vars1 (hn ((tE.go (f := fun ρ => M.thn (compF2 (own.map (·.2)) own1 tg tg1 itf cf itf1 cf1 f ρ) nf) er S q).mono fun v H1 q => ?_))
  obtain ⟨m1, st1, d, S1, E1, r, h1⟩ := q
  exact h1.ret S1 _ ((er.ext E1).set r)
theorem ixN_of {n : Nat} {k : Int} (h : 0 ≤ k ∧ k < n) : ixN n k = some k.toNat := by
  unfold ixN
  first
    | (rw [if_pos h.1, if_pos]; omega)
    | (split <;> first | (congr 1) | (exfalso; omega))
/-- o[i] = e, a mutable list -/
theorem ss_ix {C : Cfg} (hC : C.base = b) (he : PE X e (tE G b (wE E) f)) (ho : PE X e' (tE G b (wE E) g)) (hi : PE X e2 (tE G b (wE E) k))
    (ha : ∀ v, assign (.Subscript e' e2 p) X.env v = (do
      let ov ← holding [v] (eval e' X.env)
      let iv ← holding [v, ov] (eval e2 X.env)
      standAt p
      holding [v, ov, iv] (setItem ov iv v)
      release [v, ov, iv] []))
    (hs : swapsWithSole [.Subscript e' e2 p] e pos.line X.env = pure false) (hw : swappedStores [.Subscript e' e2 p] e X.env = pure none) (h1 : (assignEach [.Subscript e' e2 p] X.env).map (·.2) = [assign (.Subscript e' e2 p) X.env]) :
    PS X (.Assign [.Subscript e' e2 p] e pos) (tS G b E fun ρ => M.thn (f ρ) fun d => M.thn (M.thn (g ρ) fun x => M.thn (k ρ) fun y => M.thn (setIx C x y d) fun _ => M.ret ρ) fun ρ => M.ret (.next ρ)) := by
  refine ofS (ps_asg he (pg_sub ho hi set_list ha) hs hw h1) fun DD σ H q => ?_
  obtain ⟨ρ, m, st, er, S, h⟩ := q
  refine (tE.go er S h).mono fun v H1 q => ?_
  obtain ⟨m1, st1, d, S1, E1, r1, h1⟩ := q
  rw [thn_assoc] at h1
  refine (tE.go (er.ext E1) S1 h1).mono fun o H2 q => ?_
  obtain ⟨m2, st2, dx, S2, E2, rx, h2⟩ := q
  rw [thn_assoc] at h2
  refine (tE.go ((er.ext E1).ext E2) S2 h2).mono fun i H3 q => ?_
  obtain ⟨m3, st3, dy, S3, E3, ry, h3⟩ := q
  rw [thn_assoc] at h3
  have rx := rx.ext E3
  have r1 := (r1.ext E2).ext E3
  have er3 := ((er.ext E1).ext E2).ext E3
  cases dx with
  | ref l =>
    cases dy with
    | int j =>
      cases ry
      cases rx with
      | ref ha =>
        simp only [M.thn, setIx] at h3
        cases hl : st3[l]? with
        | none => simp only [hl] at h3; exact h3.elim
        | some c =>
          cases c with
          | dead => simp only [hl] at h3; exact h3.elim
          | dct ks vs => exact (S3.cell l _ _ hl ha).elim
          | lst xs =>
            simp only [hl] at h3
            obtain ⟨ys, hy, ry⟩ := S3.cell l _ _ hl ha
            by_cases hj : 0 ≤ j ∧ j < xs.length
            · rw [if_pos (decide_eq_true hj)] at h3
              simp only [setCell] at h3
              by_cases hb : (decide (C.base ≤ l) || d.plain) = true
              · rw [if_pos hb] at h3
                obtain ⟨S4, E4⟩ := S3.write (b := b) (ys := ys.set j.toNat v) (es := xs.set j.toNat d) hl ha (ry.set r1 j.toNat) (fun hlb n hn => by
                  have hb' : d.plain = true := by
                    rcases Bool.or_eq_true_iff.mp hb with z | z
                    · have := of_decide_eq_true z; omega
                    · exact z
                  exact Ev.D.lows_set n d (Ev.D.low_plain n d hb') xs j.toNat hn)
                refine ⟨_, ys, j, j.toNat, rfl, rfl, hy, ixN_of (by rw [ry.length]; exact hj), ?_⟩
                exact After.ret (Wσ := XW G E) (R := FlowR G DD) (d := Flow.next ρ) S4 (After.from S3 S4 E4 h3) σ (er3.ext E4)
              · rw [if_neg hb] at h3
                exact h3.elim
            · rw [if_neg (by simpa using hj)] at h3
              exact h3.elim
    | _ => exact h3.elim
  | _ => exact h3.elim
theorem lst_at {β : Type} {R : Hp → List Addr → Store → β → Prop} {Wσ : Nat → Hp → Prop} {H : Hp} {m : List Addr} {st : Store} {d : D} {k : Unit → M β} (h : After G b H m st Wσ R (M.thn (lstAt d) k st)) : ∃ l xs, d = .ref l ∧ st[l]? = some (.lst xs) ∧ After G b H m st Wσ R (k () st) := by
  cases d with
  | ref l =>
    cases hl : st[l]? with
    | none => simp only [M.thn, lstAt, hl] at h; exact h.elim
    | some c =>
      cases c with
      | lst xs =>
        have e : M.thn (lstAt (.ref l)) k st = k () st := by simp only [M.thn, lstAt, hl]
        rw [e] at h
        exact ⟨l, xs, rfl, hl, h⟩
      | dead => simp only [M.thn, lstAt, hl] at h; exact h.elim
      | dct _ _ => simp only [M.thn, lstAt, hl] at h; exact h.elim
  | _ => exact h.elim
/-- o.append(e), a mutable list -/
theorem ss_app {C : Cfg} (hK : X.K = G.K) (hC : C.base = b) {apos cpos : Pos} (ho : PE X e' (tE G b (wE E) g)) (he : PE X e (tE G b (wE E) f))
    (hbase : attributeBase e' "append" X.env (eval e' X.env) = eval e' X.env)
    (hfew : ((backTo cpos (starEach [e] X.env)).all (fun x => !x.1) && (backToKw cpos (keywordEach [] X.env)).all (fun x => x.1.isSome)
      && decide ([e].length + ([] : List Keyword).length + (if ([] : List Keyword).isEmpty then 0 else 1) < 30)) = true)
    (hline : (apos.endLine == cpos.line) = true) (hst : starEach [e] X.env = [(false, eval e X.env)]) (hsw : swapsWith (.Call (.Attribute e' "append" apos) [e] [] cpos) none pos.line X.env = pure false) :
    PS X (.Expr (.Call (.Attribute e' "append" apos) [e] [] cpos) pos) (tS G b E fun ρ => M.thn (g ρ) fun x => M.thn (lstAt x) fun _ => M.thn (f ρ) fun y => M.thn (appD C x y) fun _ => M.ret (.next ρ)) := by
  refine ofS (ps_expr (pe_bm PySem.F.plainAttrs_list PySem.F.slot_list_append rfl (fun pins s σ H x xs v us Q => mt_append pins s σ H x xs v us Q) ho (pa_cons he pa_nil (by rw [hst]; rfl)) hbase hfew hline (by rw [hst]; rfl) (by rfl)) hsw) fun DD σ H q => ?_
  obtain ⟨ρ, m, st, er, S, h⟩ := q
  refine (tE.go er S h).mono fun o H1 q => ?_
  obtain ⟨m1, st1, dx, S1, E1, rx, h1⟩ := q
  obtain ⟨l, xs0, rfl, hl, h1⟩ := lst_at h1
  cases rx with
  | ref ha =>
      rename_i a
      obtain ⟨ys0, hy0, _⟩ := S1.cell l _ _ hl ha
      refine ⟨.inl ⟨rfl, ys0, SqL.of hy0⟩, (tE.go (β := Flow) (R := FlowR G DD) (g := fun y => M.thn (appD C (D.ref l) y) fun _ => M.ret (Flow.next ρ)) (er.ext E1) S1 h1).mono fun v H2 q => ?_⟩
      obtain ⟨m2, st2, d, S2, E2, r2, h2⟩ := q
      have ha2 := E2.pre l a ha
      simp only [M.thn, appD] at h2
      cases hl2 : st2[l]? with
      | none => simp only [hl2] at h2; exact h2.elim
      | some c =>
        cases c with
        | dead => simp only [hl2] at h2; exact h2.elim
        | dct ks vs => exact (S2.cell l _ _ hl2 ha2).elim
        | lst xs =>
          simp only [hl2] at h2
          obtain ⟨ys, hy, ry⟩ := S2.cell l _ _ hl2 ha2
          by_cases hz : okSize (xs.length + 1) = true
          · rw [if_pos hz] at h2
            simp only [setCell] at h2
            by_cases hb : (decide (C.base ≤ l) || d.plain) = true
            · rw [if_pos hb] at h2
              obtain ⟨S4, E4⟩ := S2.write (b := b) (ys := ys ++ [v]) (es := xs ++ [d]) hl2 ha2 (ry.append (.cons r2 .nil)) (fun hlb n hn => by
                have hb' : d.plain = true := by
                  rcases Bool.or_eq_true_iff.mp hb with z | z
                  · have := of_decide_eq_true z; omega
                  · exact z
                show Ev.D.lows n (xs ++ [d]) = true
                rw [Ev.D.lows_append, show Ev.D.lows n xs = true from hn, Ev.D.lows, Ev.D.low_plain n d hb']; rfl)
              have hz' := okSize_le hz
              refine ⟨_, ys, v, rfl, rfl, hy, by rw [ry.length]; omega, ?_⟩
              exact After.ret (Wσ := XW G E) (R := FlowR G DD) (d := Flow.next ρ) S4 (After.from S2 S4 E4 h2) σ (((er.ext E1).ext E2).ext E4)
            · rw [if_neg hb] at h2
              exact h2.elim
          · rw [if_neg hz] at h2
            exact h2.elim
  | _ => exact h1.elim
end
end Ev
set_option linter.all false
set_option maxRecDepth 100000
/-! Ev13: loops, pairs of stores, sums in place, errors raised. -/
namespace Ev
open PySem PySem.Spec PyProof.Rows L2
section
variable {X : Cx} {G : Gd} {b : Nat} {E : XK} {f g k : Env → M D} {fs gs : Env → M Flow} {e e' e2 : Expr} {pos p : Pos} {es : List Expr} {stm : Stmt} {rest rest' : List Stmt}
theorem ss_aug {op : Operator} {i : Nat} {x : Str} (hop : op = .Add ∨ op = .Sub) (hN : X.N.Nodup) (hi : X.N[i]? = some x) (hx : Loc X.env.scope x) (he : PE X e (tE G b (wE E) f)) (hf : X.fn x = true ∨ X.env.scope.names.lookup x = some .local) :
    PS X (.AugAssign (.Name x p) op e pos) (tS G b E fun ρ => M.thn (getE ρ i) fun x => M.thn (f ρ) fun y => match x, y with
      | .int _, .int _ => M.thn (M.ofO (binD op x y)) fun z => M.ret (.next (ρ.set i (some z)))
      | _, _ => M.bad) := by
  have key : ∀ (h1 : Int → Int → Int), PIp X op (ipI h1) → (∀ i j, binD op (.int i) (.int j) = some (.int (h1 i j))) → PS X (.AugAssign (.Name x p) op e pos) (tS G b E fun ρ => M.thn (getE ρ i) fun x => M.thn (f ρ) fun y => match x, y with
      | .int _, .int _ => M.thn (M.ofO (binD op x y)) fun z => M.ret (.next (ρ.set i (some z)))
      | _, _ => M.bad) := fun h1 hp hb => by
    refine ofS (ps_aug hN hi hx he hp hf) fun DD σ H q => ?_
    obtain ⟨ρ, m, st, er, S, h⟩ := q
    cases q : ρ[i]? with
    | none => simp only [getE, q] at h; exact h.elim
    | some o =>
      cases o with
      | none => simp only [getE, q] at h; exact h.elim
      | some d =>
        simp only [getE, q, thn_ret] at h
        obtain ⟨v, hv, rv⟩ := er.at_ i d q
        refine ⟨v, hv, (tE.go er S h).mono fun y H1 q => ?_⟩
        obtain ⟨m1, st1, dy, S1, E1, ry, h2⟩ := q
        cases d with
        | int z =>
          cases dy with
          | int w =>
            cases rv; cases ry
            have h2 : After G b H1 m1 st1 (XW G E) (FlowR G DD) (M.thn (M.ofO (binD op (.int z) (.int w))) (fun z => M.ret (.next (ρ.set i (some z)))) st1) := h2
            rw [hb] at h2
            exact ⟨z, w, rfl, rfl, After.ret (Wσ := XW G E) (R := FlowR G DD) (d := Flow.next (ρ.set i (some (.int (h1 z w))))) S1 h2 _ ((er.ext E1).set (.int _))⟩
          | _ => exact h2.elim
        | _ => exact h2.elim
  rcases hop with rfl | rfl
  · exact key _ ip_add fun _ _ => rfl
  · exact key _ ip_sub fun _ _ => rfl
theorem ss_par {i j : Nat} {x y : Str} {px py pt : Pos} {kt k2 pt2} (hc : X.calm = true) (hN : X.N.Nodup) (hi : X.N[i]? = some x) (hj : X.N[j]? = some y) (hij : i ≠ j)
    (hx : X.env.scope.names.lookup x = some .local) (hy : X.env.scope.names.lookup y = some .local) {fa : Env → M (List D)} (ha : PA X [e, e'] (tEs G b (wE E) fa))
    (hw : swappedStores [.Tuple [.Name x px, .Name y py] kt pt] (.Tuple [e, e'] k2 pt2) X.env = pure (some [x, y]))
    (hs : swapsWithSole [.Tuple [.Name x px, .Name y py] kt pt] (.Tuple [e, e'] k2 pt2) pos.line X.env = pure false) :
    PS X (.Assign [.Tuple [.Name x px, .Name y py] kt pt] (.Tuple [e, e'] k2 pt2) pos) (tS G b E fun ρ => M.thn (fa ρ) fun ds => match setMany ρ [i, j] ds with
      | some ρ => M.ret (.next ρ)
      | none => M.bad) := by
  refine ofS (ps_par hc hN hi hj hij hx hy ha hw hs) fun DD σ H q => ?_
  obtain ⟨ρ, m, st, er, S, h⟩ := q
  refine (tEs.go er S h).mono fun vs H1 q => ?_
  obtain ⟨m1, st1, ds, S1, E1, r, h1⟩ := q
  match ds, r, h1 with
  | [d1, d2], .cons r1 (.cons r2 .nil), h1 =>
    refine ⟨_, _, rfl, ?_⟩
    exact After.ret (Wσ := XW G E) (R := FlowR G DD) (d := Flow.next _) S1 h1 _ (((er.ext E1).set r1).set r2)
  | [], _, h1 => exact h1.elim
  | [_], _, h1 => exact h1.elim
  | _ :: _ :: _ :: _, _, h1 => exact h1.elim
theorem ss_par3 {i j l : Nat} {x y z : Str} {px py pz pt : Pos} {kt k2 pt2} (hc : X.calm = true) (hN : X.N.Nodup) (hi : X.N[i]? = some x) (hj : X.N[j]? = some y) (hl : X.N[l]? = some z) (hij : i ≠ j) (hil : i ≠ l) (hjl : j ≠ l)
    (hx : X.env.scope.names.lookup x = some .local) (hy : X.env.scope.names.lookup y = some .local) (hz : X.env.scope.names.lookup z = some .local) {fa : Env → M (List D)} (ha : PA X [e, e', e2] (tEs G b (wE E) fa))
    (hw : swappedStores [.Tuple [.Name x px, .Name y py, .Name z pz] kt pt] (.Tuple [e, e', e2] k2 pt2) X.env = pure (some [x, y, z]))
    (hs : swapsWithSole [.Tuple [.Name x px, .Name y py, .Name z pz] kt pt] (.Tuple [e, e', e2] k2 pt2) pos.line X.env = pure false) :
    PS X (.Assign [.Tuple [.Name x px, .Name y py, .Name z pz] kt pt] (.Tuple [e, e', e2] k2 pt2) pos) (tS G b E fun ρ => M.thn (fa ρ) fun ds => match setMany ρ [i, j, l] ds with
      | some ρ => M.ret (.next ρ)
      | none => M.bad) := by
  refine ofS (ps_par3 hc hN hi hj hl hij hil hjl hx hy hz ha hw hs) fun DD σ H q => ?_
  obtain ⟨ρ, m, st, er, S, h⟩ := q
  refine (tEs.go er S h).mono fun vs H1 q => ?_
  obtain ⟨m1, st1, ds, S1, E1, r, h1⟩ := q
  match ds, r, h1 with
  | [d1, d2, d3], .cons r1 (.cons r2 (.cons r3 .nil)), h1 =>
    refine ⟨_, _, _, rfl, ?_⟩
    exact After.ret (Wσ := XW G E) (R := FlowR G DD) (d := Flow.next _) S1 h1 _ ((((er.ext E1).set r1).set r2).set r3)
  | [], _, h1 => exact h1.elim
  | [_], _, h1 => exact h1.elim
  | [_, _], _, h1 => exact h1.elim
  | _ :: _ :: _ :: _ :: _, _, h1 => exact h1.elim
theorem ss_for {tg : Tg} {itf : Env → M (List D)} {tge iter : Expr} {body : List Stmt} (hp : PassesOwn (model X.prog X.w) X.A X.env X.xe) (hc : X.calm = true) (hi : PI X tge iter (tI G b (wE E) itf)) (hg : PG X tge (gS G tg)) (hb : PSs X body (tS G b E fs)) (hs : ∀ x, foldedSetIterable iter X.env x = pure x) :
    PS X (.For tge iter body [] pos) (tS G b E fun ρ => M.thn (itf ρ) fun xs => forL (fun x ρ => match setTg tg x ρ with
      | some ρ => fs ρ
      | none => M.bad) xs ρ) := by
  refine ofS (ps_for hp hc hi hg hb hs) fun DD σ H q => ?_
  obtain ⟨ρ, m, st, er, S, h⟩ := q
  refine (tI.go er S h).mono fun J H1 q => ?_
  obtain ⟨m1, st1, ds, S1, E1, Yl, h1⟩ := q
  obtain ⟨Gp, Y, w, hw⟩ := Yl.out
  refine ⟨fun i n σ H => n = ds.length - i ∧ i ≤ ds.length ∧ ∃ ρ m st, EnvR G H m st σ ρ ∧ Sim G H m st ∧ Since G H1 m1 st1 G.ex H m st ∧ After G b H m st (XW G E) (FlowR G DD) (forL (fun x ρ => match setTg tg x ρ with
      | some ρ => fs ρ
      | none => M.bad) (ds.drop i) ρ st), ⟨ds.length, by simp, Nat.zero_le _, ρ, m1, st1, er.ext E1, S1, Since.of (b := b) Ext.refl, h1⟩, ?_⟩
  rintro i n σ H ⟨rfl, hi, ρ, m, st, er, S, sc, h⟩
  have q := hw G.ex H m st sc S
  by_cases hlt : i < ds.length
  · refine .inr ⟨w.goes i H hlt q.1, _, fun σ' H' p' => ⟨ds.length - (i + 1), by omega, rfl, hlt, p'⟩, fun x H' y => ?_⟩
    obtain ⟨d, hdi, S', E', rx⟩ := q.2 i x H' hlt (w.yields i H x H' hlt q.1 y)
    have hdr : ds.drop i = d :: ds.drop (i + 1) := by
      rw [List.drop_eq_getElem_cons hlt]
      congr 1
      rw [List.getElem?_eq_getElem hlt] at hdi
      exact Option.some.inj hdi
    rw [hdr, forL] at h
    have h := After.from S S' (E' b) h
    have er' := er.ext (E' b)
    cases hs : setTg tg d ρ with
    | none => simp only [hs] at h; exact h.elim
    | some ρ' =>
      simp only [hs] at h
      refine ⟨ρ, m, st, d, ρ', er', S', rx, hs, fun σ2 er2 _ => ⟨ρ', m, st, er2, S', (After.thn S' h).mono (fun H2 m2 st2 fl S2 E2 h => ?_) fun _ _ h => h⟩⟩
      cases fl with
      | next ρ2 => exact fun σ3 er3 => ⟨ρ2, m2, st2, er3, S2, (sc.trans (E' b)).trans E2, h⟩
      | ret d => exact fun v r => After.ret (Wσ := XW G E) (R := FlowR G DD) (d := Flow.ret d) S2 h v r
      | brk ρ2 => exact fun σ3 er3 => After.ret (Wσ := XW G E) (R := FlowR G DD) (d := Flow.next ρ2) S2 h σ3 er3
  · have e : i = ds.length := by omega
    subst e
    refine .inl ⟨w.stops H q.1, ?_⟩
    rw [List.drop_length, forL] at h
    exact After.ret (Wσ := XW G E) (R := FlowR G DD) (d := Flow.next ρ) S h σ er
theorem ss_while {c : Env → M Bool} {body : List Stmt} {n : Nat} (hp : PassesOwn (model X.prog X.w) X.A X.env X.xe) (hc : PT X e (Ev.tB G b (wE E) c)) (hb : PSs X body (tS G b E fs)) :
    PS X (.While e body [] pos) (tS G b E fun ρ => whlL c fs n ρ) := by
  refine ofS (ps_while hp hc hb) fun DD σ H q => ?_
  obtain ⟨ρ, m, st, er, S, h⟩ := q
  refine ⟨fun n σ H => ∃ ρ m st, EnvR G H m st σ ρ ∧ Sim G H m st ∧ After G b H m st (XW G E) (FlowR G DD) (whlL c fs n ρ st), ⟨n, ρ, m, st, er, S, h⟩, ?_⟩
  rintro n σ H ⟨ρ, m, st, er, S, h⟩
  cases n with
  | zero => exact h.elim
  | succ n =>
    rw [whlL] at h
    refine TB.mono (tB.go (W := wE E) er S h) fun k H1 q => ?_
    obtain ⟨m1, st1, S1, E1, h1⟩ := q
    cases k with
    | true =>
      rw [if_pos rfl] at h1 ⊢
      refine ⟨_, fun σ' H' p' => ⟨n, Nat.lt_succ_self _, p'⟩, ρ, m1, st1, er.ext E1, S1, (After.thn S1 h1).mono (fun H2 m2 st2 fl S2 E2 h => ?_) fun _ _ h => h⟩
      cases fl with
      | next ρ2 => exact fun σ3 er3 => ⟨ρ2, m2, st2, er3, S2, h⟩
      | ret d => exact fun v r => After.ret (Wσ := XW G E) (R := FlowR G DD) (d := Flow.ret d) S2 h v r
      | brk ρ2 => exact fun σ3 er3 => After.ret (Wσ := XW G E) (R := FlowR G DD) (d := Flow.next ρ2) S2 h σ3 er3
    | false =>
      rw [if_neg Bool.false_ne_true] at h1 ⊢
      exact After.ret (Wσ := XW G E) (R := FlowR G DD) (d := Flow.next ρ) S1 h1 σ (er.ext E1)
/-- an own error, raised -/
theorem ss_raise {x msg : Str} {j : Nat} {p2 p3 : Pos} {C : Addr} {bmB : List Value} {B newId initId : String} {c : Nat} (hc : X.calm = true) (tk : Takes X (wE E)) (F : ExcBaseFacts B newId initId bmB) (q : PySem.W.excIn X.K C bmB newId = true) (gC : X.mg x = some (.ref C)) (kC : PySem.W.keepIn X.K (.ref C) = true) (r : Raises X (.ref C)) (hg : Gl X x)
    (hdb : (x == ("__debug__" : Str)) = false) (hec : G.ec c C) : PS X (.Raise (some (.Call (.Name x p) [.Constant (.str msg) j p2] [] p3)) none pos) (tS G b E fun ρ => fun st => .exc c st) := by
  refine ofS (ps_raise hc tk (pmk_own F q gC kC r hg hdb)) fun DD σ H q => ?_
  obtain ⟨ρ, m, st, er, S, h⟩ := q
  exact h H m S .refl C hec
end
end Ev
set_option linter.all false
set_option maxRecDepth 100000
/-! Ev13b: pop, list(..), [..] * n, xs += ys, errors caught. -/
namespace Ev
open PySem PySem.Spec PyProof.Rows L2
theorem and0 {a b : Bool} (h : (a && b) = true) : a = true ∧ b = true := Bool.and_eq_true_iff.mp h
theorem D.lows_take (n : Nat) : ∀ (xs : List D) (k : Nat), D.lows n xs = true → D.lows n (xs.take k) = true
  | [], k, h => by simpa using h
  | x :: xs, 0, h => by simp [D.lows]
  | x :: xs, k + 1, h => by
    have h' : D.low n x = true ∧ D.lows n xs = true := by simpa [D.lows] using h
    simp [D.lows, h'.1, D.lows_take n xs k h'.2]
section
variable {X : Cx} {G : Gd} {b : Nat} {W : WX} {E : XK} {f g k : Env → M D} {fs gs : Env → M Flow} {e e' e2 : Expr} {pos p : Pos} {es : List Expr} {stm : Stmt} {rest rest' : List Stmt}
theorem se_pop {apos cpos : Pos} (hK : X.K = G.K) (ho : PE X e (tE G b W f)) (hbase : attributeBase e "pop" X.env (eval e X.env) = eval e X.env) (hline : (apos.endLine == cpos.line) = true) :
    PE X (.Call (.Attribute e "pop" apos) [] [] cpos) (tE G b W fun ρ => M.thn (f ρ) popD) := by
  refine ofE (pe_bm0 PySem.F.plainAttrs_list PySem.F.slot_list_pop rfl (fun pins s σ H x xs v us Q => mt_pop pins s σ H x xs v us Q) ho hbase hline) fun σ H Q q => ?_
  obtain ⟨ρ, m, st, er, S, h⟩ := q
  refine (tE.go er S h).mono fun x H1 q => ?_
  obtain ⟨m1, st1, dx, S1, E1, rx, h1⟩ := q
  cases dx with
  | ref l =>
    cases rx with
    | ref ha =>
      rename_i a
      simp only [popD] at h1
      cases hl : st1[l]? with
      | none => simp only [hl] at h1; exact h1.elim
      | some c =>
        cases c with
        | dead => simp only [hl] at h1; exact h1.elim
        | dct ks vs => exact (S1.cell l _ _ hl ha).elim
        | lst xs =>
          simp only [hl] at h1
          obtain ⟨ys, hy, ry⟩ := S1.cell l _ _ hl ha
          cases hg : xs.getLast? with
          | none => simp only [hg] at h1; exact h1.elim
          | some d =>
            simp only [hg] at h1
            have hlen := ry.length
            obtain ⟨y, y1, y2⟩ := ry.get (i := xs.length - 1) (d := d) (by rw [← List.getLast?_eq_getElem?]; exact hg)
            obtain ⟨S4, E4⟩ := S1.write (b := b) (ys := ys.dropLast) (es := xs.dropLast) hl ha (by
              rw [List.dropLast_eq_take, List.dropLast_eq_take, hlen]; exact ry.take _) (fun _ n hn => by
              show Ev.D.lows n xs.dropLast = true
              rw [List.dropLast_eq_take]
              exact Ev.D.lows_take n xs _ hn)
            exact ⟨.inl ⟨rfl, ys, SqL.of hy⟩, _, ys, y, rfl, rfl, hy, by rw [hlen]; exact y1, h1 _ _ S4 E4 y (y2.ext E4)⟩
  | _ => exact h1.elim
theorem sn_listOf (hK : X.K = G.K) (hg : Gl X "list") (hm : X.mg "list" = none) (ha : PE X e (tE G b W f)) (hs : starEach [e] X.env = [(false, eval e X.env)]) :
    PE X (.Call (.Name "list" p) [e] [] pos) (tN G b W fun ρ => M.thn (f ρ) fun x => fun st => M.ofO (seqOf (view st x)) st) := by
  refine ofE (pe_callTy call_list_of hg hm boot_list (pa_cons ha pa_nil (by rw [hs]; rfl)) (by decide) (by decide) (by rw [hs]; rfl) rfl) fun σ H Q q => ?_
  obtain ⟨ρ, m, st, er, S, h⟩ := q
  refine (tE.go er S h).mono fun x H1 q => ?_
  obtain ⟨m1, st1, dx, S1, E1, rx, h1⟩ := q
  obtain ⟨ds, hd, h2⟩ := h1.ofO
  have rv := view_ok S1 rx
  rw [hK]
  cases hv : view st1 dx with
  | lst xs =>
    rw [hv] at hd rv
    cases hd
    obtain ⟨a, ys, rfl, hq, r⟩ := rv
    exact ⟨a, ys, rfl, .inl hq, fun l hl => h2.ret S1 l ys hl r⟩
  | tup xs =>
    rw [hv] at hd rv
    cases hd
    obtain ⟨a, ys, rfl, hq, r⟩ := Rv.tup rv
    exact ⟨a, ys, rfl, .inr hq, fun l hl => h2.ret S1 l ys hl r⟩
  | _ => rw [hv] at hd; cases hd
theorem sn_rep {fN : Env → M (List D)} (ha : PE X e (tN G b W fN)) (hb : PE X e' (tE G b W f)) : PE X (.BinOp e .Mult e' pos) (tN G b W fun ρ => M.thn (fN ρ) fun xs => M.thn (f ρ) (repL xs)) := by
  refine ofE (pe_op op_rep ha hb) fun σ H Q q => ?_
  obtain ⟨ρ, m, st, er, S, h⟩ := q
  refine ⟨ρ, m, st, er, S, (h.thn S).mono (fun H1 m1 st1 ds S1 E1 q pl vs hp r => ?_) fun _ _ h => h⟩
  obtain ⟨S2, E2, F2⟩ := S1.new (b := b) hp (.lst vs)
  have q := After.from S1 S2 E2 q
  refine (tE.go ((er.ext E1).ext E2) S2 q).mono fun y H3 q => ?_
  obtain ⟨m3, st3, dy, S3, E3, ry, h3⟩ := q
  cases dy with
  | int j =>
    cases ry
    obtain ⟨hz, h4⟩ := After.if_ h3
    obtain ⟨hz, z3⟩ := and0 hz
    obtain ⟨z1, z2⟩ := and0 hz
    have z1 := of_decide_eq_true z1
    have z2' : j.toNat ≤ 10000000 := of_decide_eq_true z2
    have hp3 : H3 pl = some (.lst vs) := ((E3.keep pl F2).1).trans upd_same
    refine ⟨pl, j, vs, rfl, rfl, hp3, by omega, by omega, ?_, fun p2 hp2 => ?_⟩
    · rw [r.length, Nat.mul_comm]
      exact okSize_le z3
    · exact h4.ret S3 p2 _ hp2 (((r.ext E2).ext E3).rep _)
  | _ => exact h3.elim
theorem ss_augl {C : Cfg} {i : Nat} {x : Str} (hC : C.base = b) (hN : X.N.Nodup) (hi : X.N[i]? = some x) (hx : Loc X.env.scope x) (he : PE X e (tE G b (wE E) f)) (hf : X.fn x = true ∨ X.env.scope.names.lookup x = some .local) :
    PS X (.AugAssign (.Name x p) .Add e pos) (tS G b E fun ρ => M.thn (getE ρ i) fun x => M.thn (f ρ) fun y => M.thn (extD C x y) fun _ => M.ret (.next (ρ.set i (some x)))) := by
  have hp : PIp X .Add rExt2 := fun pins s σ H x y v u Q I r1 r2 h => iop_ext pins s σ H x y v u Q I r1 r2 h
  refine ofS (ps_aug hN hi hx he hp hf) fun DD σ H q => ?_
  obtain ⟨ρ, m, st, er, S, h⟩ := q
  cases q : ρ[i]? with
  | none => simp only [getE, q] at h; exact h.elim
  | some o =>
    cases o with
    | none => simp only [getE, q] at h; exact h.elim
    | some d =>
      simp only [getE, q, thn_ret] at h
      obtain ⟨v, hv, rv⟩ := er.at_ i d q
      refine ⟨v, hv, (tE.go er S h).mono fun y H1 q => ?_⟩
      obtain ⟨m1, st1, dy, S1, E1, ry, h2⟩ := q
      have rv1 := rv.ext E1
      cases d with
      | ref l =>
        cases dy with
        | ref k =>
          cases rv1 with
          | ref ha =>
            cases ry with
            | ref hb =>
              have h3 := h2.thn S1
              simp only [extD] at h3
              cases hl : st1[l]? with
              | none => simp only [hl] at h3; exact h3.elim
              | some c =>
                cases c with
                | dead => simp only [hl] at h3; exact h3.elim
                | dct ks vs => exact (S1.cell l _ _ hl ha).elim
                | lst xs =>
                  cases hk : st1[k]? with
                  | none => simp only [hl, hk] at h3; exact h3.elim
                  | some c =>
                    cases c with
                    | dead => simp only [hl, hk] at h3; exact h3.elim
                    | dct ks vs => exact (S1.cell k _ _ hk hb).elim
                    | lst ys =>
                      simp only [hl, hk] at h3
                      obtain ⟨us, hu, ru⟩ := S1.cell l _ _ hl ha
                      obtain ⟨ws, hw, rw'⟩ := S1.cell k _ _ hk hb
                      by_cases hz : (okSize (xs.length + ys.length) && (decide (C.base ≤ l) || Ev.D.plains ys)) = true
                      · rw [if_pos hz] at h3
                        obtain ⟨z1, z2⟩ := and0 hz
                        obtain ⟨S4, E4⟩ := S1.write (b := b) (ys := us ++ ws) (es := xs ++ ys) hl ha (ru.append rw') (fun hlb n hn => by
                          have hb' : Ev.D.plains ys = true := by
                            rcases Bool.or_eq_true_iff.mp z2 with z | z
                            · have := of_decide_eq_true z; omega
                            · exact z
                          show Ev.D.lows n (xs ++ ys) = true
                          rw [Ev.D.lows_append, show Ev.D.lows n xs = true from hn, Ev.D.lows_plain n ys hb']; rfl)
                        refine ⟨_, _, us, ws, rfl, rfl, hu, hw, by rw [ru.length, rw'.length]; exact okSize_le z1, ?_⟩
                        have q4 := h3 _ _ S4 E4
                        exact After.ret (Wσ := XW G E) (R := FlowR G DD) (d := Flow.next (ρ.set i (some (.ref l)))) S4 q4 _ (((er.ext E1).ext E4).set (.ref ha))
                      · rw [if_neg hz] at h3
                        exact h3.elim
        | _ => exact h2.elim
      | _ => exact h2.elim
end
end Ev
set_option linter.all false
set_option maxRecDepth 100000
/-! Ev13c: an own error caught, told by isinstance. -/
namespace Ev
open PySem PySem.Spec PyProof.Rows L2
/-- a constant, as a value -/
def dV : D → V
  | .bl b => .bl b
  | .int i => .int i
  | .str s => .str s
  | _ => .non
def isC : D → Bool
  | .non => true
  | .bl _ => true
  | .int _ => true
  | .str _ => true
  | _ => false
theorem rp_dV {G : Gd} {H : Hp} {m : List Addr} {L : Addr → Prop} {d : D} (h : isC d = true) : Rp G H m L (dV d) d := by
  cases d <;> first | exact .non | exact .bl _ | exact .int _ | exact .str _ | (cases h)
def constC : Const → D → Bool
  | .none, .non => true
  | .bool b, .bl c => b == c
  | .int i, .int j => decide (i = j)
  | .str s, .str t => decide (s = t)
  | _, _ => false
theorem constC_isC {c : Const} {d : D} (h : constC c d = true) : isC d = true := by
  unfold constC at h
  split at h <;> first | rfl | (cases h)
theorem pe_cst {X : Cx} {c : Const} {d : D} {k : Nat} {pos : Pos} (h : constC c d = true) : PE X (.Constant c k pos) (tC (dV d)) := by
  unfold constC at h
  split at h
  · exact pe_non
  · have e := eq_of_beq h
    subst e
    exact pe_bl
  · have e := of_decide_eq_true h
    subst e
    exact pe_int
  · have e := of_decide_eq_true h
    subst e
    exact pe_str
  · cases h
/-- return d1 if isinstance(x, C1) else d2 if .. else d -/
inductive Chain (X : Cx) (ec : Nat → Addr → Prop) (x : Str) : List (Nat × D) → D → Expr → Prop
  | last {c : Const} {d : D} {k : Nat} {pos : Pos} (h : constC c d = true) : Chain X ec x [] d (.Constant c k pos)
  | more {n : Nat} {d1 d : D} {r : List (Nat × D)} {cn : Str} {Ck : Addr} {p1 p2 p3 p4 p5 pos : Pos} {c : Const} {k : Nat} {y : Expr} (gi : Gl X "isinstance") (mi : X.mg "isinstance" = none) (gc : Gl X cn) (mc : X.mg cn = some (.ref Ck)) (db : (cn == ("__debug__" : Str)) = false) (hk : ec n Ck) (h : constC c d1 = true) (hr : Chain X ec x r d y) :
      Chain X ec x ((n, d1) :: r) d (.IfExp (.Call (.Name "isinstance" p1) [.Name x p2, .Name cn p3] [] p4) (.Constant c k p5) y pos)
section
variable {X : Cx} {G : Gd} {b : Nat} {E : XK} {fs : Env → M Flow} {body : List Stmt} {exm : Nat → Nat → Option Bool}
theorem Chain.isC {ec : Ecl} {x : Str} {cs : List (Nat × D)} {d : D} {e : Expr} (h : Chain X ec x cs d e) {c : Nat} {d' : D} (q : catchD exm c cs d = some d') : Ev.isC d' = true := by
  induction h with
  | last h => cases q; exact constC_isC h
  | @more n d1 d r cn Ck p1 p2 p3 p4 p5 pos cc k y gi mi gc mc db hk h hr ih =>
    unfold catchD at q
    cases z : exm c n with
    | none => rw [z] at q; cases q
    | some t =>
      rw [z] at q
      cases t with
      | true => cases q; exact constC_isC h
      | false => exact ih q
theorem chain_pe {ec : Ecl} {x : Str} {i : Nat} {a Dc : Addr} {oe : Obj} {pn : List (Addr × Obj)} {c : Nat} (hi : X.N[i]? = some x) (hx : X.env.scope.names.lookup x = some .local) (hdb : (x == ("__debug__" : Str)) = false) (hcd : (x == ("__classdict__" : Str)) = false)
    (exmK : ∀ k r Dk, exm c k = some r → ec k Dk → PySem.W.kitOne X.K (.ref Dc) (.ref Dk) = some r) (ex : ExcC X.K Dc) (hz : Zc (.ref Dc) none oe) (hf : ∃ vs, oe.data = .fields vs) :
    ∀ {cs : List (Nat × D)} {d : D} {e : Expr}, Chain X ec x cs d e → PE (X.suite a ((a, oe) :: pn)) e (fun σ H Q => (∃ σ0 : L2.St, σ = σ0.set i (some (.ref a))) ∧ ∃ d', catchD exm c cs d = some d' ∧ Q (dV d') H)
  | _, _, _, .last h => ofE (pe_cst h) fun σ H Q ⟨_, d', e, q⟩ => by cases e; exact q
  | _, _, _, .more (n := n) (d1 := d1) (d := d) (r := r) (Ck := Ck) gi mi gc mc db hk h hr => by
    have ih := chain_pe (a := a) (pn := pn) hi hx hdb hcd exmK ex hz hf hr
    have pv : ∀ pp, PE (X.suite a ((a, oe) :: pn)) (.Name x pp) (fun σ H Q => (∃ σ0 : L2.St, σ = σ0.set i (some (.ref a))) ∧ Q (.ref a) H) := fun pp => ⟨fun pins s σ H Q I ⟨⟨σ0, e⟩, q⟩ => (pe_var (pos := pp) (X := X.suite a ((a, oe) :: pn)) hi (.inl hx) hdb hcd).run pins s σ H Q I ⟨.ref a, by
      have l : σ.length = X.N.length := I.len
      have hil : i < X.N.length := (List.getElem?_eq_some_iff.mp hi).1
      rw [e] at l ⊢
      rw [List.length_set] at l
      exact List.getElem?_set_self (by omega), q⟩⟩
    have pc : ∀ pp, PE (X.suite a ((a, oe) :: pn)) (.Name _ pp) (tC (.ref Ck)) := fun pp => pe_glob (X := X.suite a ((a, oe) :: pn)) gc mc rfl db
    refine ofE (pe_ifExp (pt_val (pe_callB (call_isE ex hz hf) gi mi (by decide +kernel) (pa_cons (pv _) (pa_cons (pc _) pa_nil rfl) rfl) (by decide) (by decide) rfl rfl) fun _ => rfl) (pe_cst h) ih) fun σ H Q ⟨hs, d', e, q⟩ => ?_
    unfold catchD at e
    cases z : exm c n with
    | none => rw [z] at e; cases e
    | some t =>
      rw [z] at e
      refine ⟨hs, _, .ref Ck, t, rfl, fun u r => r, exmK n t Ck z hk, t, rfl, ?_⟩
      cases t with
      | true => cases e; exact q
      | false => exact ⟨hs, d', e, q⟩
theorem ss_tryA {i : Nat} {x hn : Str} {hall : Nat} {cs : List (Nat × D)} {d : D} {e : Expr} {Ch : Addr} {np p2 pos' pos : Pos} (hs : X.stack = X.env :: X.outer) (hf : X.env.frame = some X.env.locals) (hN : X.N.Nodup) (hi : X.N[i]? = some x) (hx : X.env.scope.names.lookup x = some .local)
    (hdb : (x == ("__debug__" : Str)) = false) (hcd : (x == ("__classdict__" : Str)) = false) (tk : Takes X (wE E)) (gh : Gl X hn) (mh : X.mg hn = some (.ref Ch)) (dbh : (hn == ("__debug__" : Str)) = false) (hh : G.ec hall Ch) (ch : Chain X G.ec x cs d e)
    (exmK : ∀ c k r Dc Dk, exm c k = some r → G.ec c Dc → G.ec k Dk → PySem.W.exmOne X.K (.ref Dc) (.ref Dk) = some r ∧ PySem.W.kitOne X.K (.ref Dc) (.ref Dk) = some r) (exc : ∀ c Dc, G.ec c Dc → ExcC X.K Dc)
    (hb : ∀ (E' : XK) (pn : List (Addr × Obj)) (xe : Value → Shared → Prop), Takes (X.tr pn xe) (wE E') → PassesOwn (model X.prog X.w) X.A X.env xe → PSs (X.tr pn xe) body (tS G b E' fs)) :
    PS X (.Try body [.ExceptHandler (some (.Name hn np)) (some x) [.Return (some e) p2] pos'] [] [] pos) (tS G b E fun ρ => fun st => match fs ρ st with
      | .exc c st' => (match exm c hall with
        | some true => (match catchD exm c cs d with
          | some d' => .ok (.ret d') st'
          | none => .bad)
        | some false => .exc c st'
        | none => .bad)
      | r => r) := by
  refine ofS (ps_try_as (tb := fun W D σ H => ∃ E' : XK, (∀ cls d σ H, E' cls d H → W cls d σ H) ∧ tS G b E' fs D σ H) (c := .ref Ch) (Wout := wE E)
    (ts := fun (a : Addr) (cls : Value) (dc : Option Addr) (D : Ends) (σ : L2.St) (H : Hp) => (∃ σ0 : L2.St, σ = σ0.set i (some (.ref a))) ∧ ∃ c Dc d', cls = .ref Dc ∧ dc = none ∧ G.ec c Dc ∧ catchD exm c cs d = some d' ∧ D.rt (dV d') H)
    hs hf hN hi hx ⟨gh, dbh, .inl mh⟩ tk ?_ ?_) fun DD σ H q => ?_
  · intro W pn xe tkW own
    refine ⟨fun pins s σ H D I ⟨E', hE, q⟩ => (hb E' pn xe (tkW.imp fun c d σ H h => hE c d σ H h) own).run pins s σ H D I q⟩
  · intro a oe cls dc pn hz hf
    refine pss_one ⟨fun pins s σ H D I ⟨hσ, c, Dc, d', e1, e2, hc, hd, q⟩ => ?_⟩
    subst e1; subst e2
    exact (ps_ret (chain_pe (a := a) (pn := pn) hi hx hdb hcd (fun k r Dk z hk => (exmK c k r Dc Dk z hc hk).2) (exc c Dc hc) hz hf ch)).run pins s σ H D I ⟨hσ, d', hd, q⟩
  · obtain ⟨ρ, m, st, er, S, h⟩ := q
    refine ⟨fun cls dc H' => ∀ σ', wAs X.K (.ref Ch) i (fun (a : Addr) (cls : Value) (dc : Option Addr) (D : Ends) (σ : L2.St) (H : Hp) => (∃ σ0 : L2.St, σ = σ0.set i (some (.ref a))) ∧ ∃ c Dc d', cls = .ref Dc ∧ dc = none ∧ G.ec c Dc ∧ catchD exm c cs d = some d' ∧ D.rt (dV d') H) (wE E) DD cls dc σ' H', fun cls dc σ H h => h σ, ρ, m, st, er, S, ?_⟩
    replace h : After G b H m st (XW G E) (FlowR G DD) (match fs ρ st with
      | .exc c st' => (match exm c hall with
        | some true => (match catchD exm c cs d with
          | some d' => .ok (.ret d') st'
          | none => .bad)
        | some false => .exc c st'
        | none => .bad)
      | r => r) := h
    cases q : fs ρ st with
    | bad => rw [q] at h; exact h
    | ok fl st' => rw [q] at h; exact h
    | exc c st' =>
      rw [q] at h
      intro H' m' S' E' Dc hc σ'
      cases z : exm c hall with
      | none => simp only [z] at h; exact h.elim
      | some t =>
        refine ⟨t, (exmK c hall t Dc Ch z hc hh).1, fun et a ha => ?_, fun et => ?_⟩
        · subst et
          simp only [z] at h
          cases z2 : catchD exm c cs d with
          | none => simp only [z2] at h; exact h.elim
          | some d' =>
            simp only [z2] at h
            exact ⟨⟨σ', rfl⟩, c, Dc, d', rfl, rfl, hc, z2, h H' m' S' E' _ (rp_dV (ch.isC z2))⟩
        · subst et
          simp only [z] at h
          exact h H' m' S' E' Dc hc
end
end Ev
set_option linter.all false
set_option maxRecDepth 100000
/-! Ev13d: xs[::-1]. -/
namespace Ev
open PySem PySem.Spec PyProof.Rows L2
section
variable {prog : Program} {w : World} {A : Around} {E : Value → Shared → Prop} {s : Shared}
theorem adjust_rev (n : Nat) : Builtin.Slice.sliceAdjust none none (-1) (n : Int) = ((n : Int) - 1, -1) := rfl
theorem places_rev (n : Nat) : Builtin.Slice.slicePlaces ((n : Int) - 1) (-1) (-1) = n := by
  unfold Builtin.Slice.slicePlaces
  have h1 : ¬ ((-1 : Int) > 0) := by omega
  simp only [h1, if_false]
  by_cases h : (n : Int) - 1 > -1
  · rw [if_pos h, show (-(-1) : Int) = 1 by decide, Int.ediv_one]
    omega
  · rw [if_neg h]
    omega
theorem sliceApplied_rev {sl : Addr} {vk : Value} {n : Nat} {Q : Int × Int × Nat → Shared → Prop} (hs : s.heap.IsSliceOf sl .none .none vk) (pk : IsPart vk (some (-1)))
    (h : Q ((n : Int) - 1, -1, n) s) : wpAny (model prog w) A (Builtin.Slice.sliceApplied (.ref sl) (pure (n : Int))) Q E s := by
  obtain ⟨os, hos, hcs, hds⟩ := id hs
  unfold Builtin.Slice.sliceApplied Builtin.Slice.sliceFields
  refine wpAny_bind (wpAny_bind (wpAny_field hos hds (x := .none) rfl (wpAny_bind (wpAny_field hos hds (x := .none) rfl (wpAny_bind (wpAny_field hos hds (x := vk) rfl (wpAny_pure ?_)))))))
  refine wpAny_bind (HT.slicePart_ pk ?_)
  show wpAny _ _ (if ((-1 : Int) == 0) = true then _ else _) _ _ s
  rw [if_neg (by decide)]
  refine wpAny_bind (slicePart_none (wpAny_bind (slicePart_none (wpAny_bind (wpAny_pure ?_)))))
  show wpAny _ _ (match Builtin.Slice.sliceAdjust none none (-1) (n : Int) with | (lo, hi) => pure (lo, (-1 : Int), Builtin.Slice.slicePlaces lo hi (-1))) _ _ s
  rw [adjust_rev n]
  show wpAny _ _ (pure ((n : Int) - 1, (-1 : Int), Builtin.Slice.slicePlaces ((n : Int) - 1) (-1) (-1))) _ _ s
  rw [places_rev]
  exact wpAny_pure h
theorem pick_rev (xs : Array Value) : ((List.range xs.size).filterMap fun (m : Nat) => xs[(((xs.size : Nat) : Int) - 1 + (m : Int) * (-1)).toNat]?).toArray = xs.toList.reverse.toArray := by
  have e : (List.range xs.size).filterMap (fun (m : Nat) => xs[(((xs.size : Nat) : Int) - 1 + (m : Int) * (-1)).toNat]?) = ((List.range xs.size).map fun k => xs.size - 1 - k).filterMap (xs[·]?) := by
    rw [List.filterMap_map]
    have key : ∀ l : List Nat, (∀ m ∈ l, m < xs.size) → l.filterMap (fun (m : Nat) => xs[(((xs.size : Nat) : Int) - 1 + (m : Int) * (-1)).toNat]?) = l.filterMap ((xs[·]?) ∘ fun k => xs.size - 1 - k) := by
      intro l hl
      induction l with
      | nil => rfl
      | cons m l ih =>
        have h1 := hl m List.mem_cons_self
        have h2 : (((xs.size : Nat) : Int) - 1 + (m : Int) * (-1)).toNat = xs.size - 1 - m := by omega
        rw [List.filterMap_cons, List.filterMap_cons, ih fun z hz => hl z (List.mem_cons_of_mem _ hz), h2]
        rfl
    exact key _ fun m hm => List.mem_range.mp hm
  rw [e, PySem.W.krv_range, List.filterMap_reverse, PySem.W.krv_all]
theorem getItem_tuple_rev {t sl : Addr} {items : Array Value} {vk : Value} {Q : Value → Shared → Prop} (ht : IsTup s.heap t items) (hs : s.heap.IsSliceOf sl .none .none vk) (pk : IsPart vk (some (-1)))
    (h : Q (.ref s.heap.objs.size) { s with heap := s.heap.push { cls := .type "tuple", data := .seq items.toList.reverse.toArray } })
    (hsz : items.size ≤ sizeLine) : wpAny (model prog w) A (getItem (.ref t) (.ref sl)) Q E s := by
  have htake : sizeOk (.seq items.toList.reverse.toArray) := by
    show items.toList.reverse.toArray.size ≤ sizeLine
    rw [List.size_toArray, List.length_reverse, Array.length_toList]
    omega
  obtain ⟨os, hos, hcs, hds⟩ := id hs
  have hTs : s.TypeIs (.ref sl) "slice" := ⟨os, hos, hcs⟩
  unfold getItem
  try with_reducible refine wpAny_holding ?_
  first | refine wpAny_bind (wpAny_pure ?_) | skip
  refine wpAny_bind (wpAny_sequenceKey ht.typeIs (by decide) ?_)
  refine wpAny_bind (wpAny_callSpecial?_slot (name := Str.ofString "__getitem__") ht.typeIs PyProof.Rows.slot_tuple_getitem
    (wpAny_call_entry PyProof.Rows.slot_tuple_getitem ht.typeIs entry_tuple_getitem ?_ (args_tuple_getitem _ _)))
  show wpAny _ _ (Builtin.Tuple.tupleItemsOf (.ref t) >>= _) _ _ s
  refine wpAny_bind (tupleItemsOf_ ht ?_)
  refine wpAny_bind (wpAny_typeOf hTs ?_)
  rw [if_pos (by decide)]
  refine wpAny_bind (sliceApplied_rev hs pk ?_)
  have hno : ¬ ((((items.size : Nat) : Int) - 1 == 0 && (-1 : Int) == 1 && items.size == items.size) = true) := by
    intro q
    rw [Bool.and_eq_true, Bool.and_eq_true] at q
    exact absurd (eq_of_beq q.1.2) (by decide)
  show wpAny _ _ (if ((((items.size : Nat) : Int) - 1 == 0 && (-1 : Int) == 1 && items.size == items.size) = true) then _ else _) _ _ s
  rw [if_neg hno, pick_rev]
  first
    | exact wpAny_bind (m := Builtin.Tuple.tupleExact _) (wpAny_newObj_type (wpAny_pure ⟨_, rfl, wpAny_pure h⟩) htake)
    | exact wpAny_bind (m := Builtin.Tuple.tupleExact _) (wpAny_newObj_type (wpAny_bind (wpAny_pure (wpAny_pure ⟨_, rfl, wpAny_pure h⟩))) htake)
    | exact wpAny_bind (wpAny_bind (m := Builtin.Tuple.tupleExact _) (wpAny_newObj_type (wpAny_pure (wpAny_pure ⟨_, rfl, wpAny_pure h⟩)) htake))
    | exact wpAny_bind (wpAny_bind (m := Builtin.Tuple.tupleExact _) (wpAny_newObj_type (wpAny_pure ⟨_, rfl, wpAny_pure h⟩) htake))
end
section
variable {X : Cx} {G : Gd} {b : Nat} {W : WX} {H : Hp} {m : List Addr} {st : Store} {e : Expr} {f : Env → M D} {pos p2 pk1 pk2 : Pos}
def rRv (K : PySem.W.Frag) : V → Hp → VK → Prop := fun x H Q => ∃ a xs, x = .ref a ∧ ((SqT K H a xs ∧ ∀ p, H p = none → Q (.ref p) (upd H p (.tup xs.reverse))) ∨ (SqL K H a xs ∧ ∀ p, H p = none → Q (.ref p) (upd H p (.lst xs.reverse))))
theorem vals_rev : ∀ {xs : List V} {us : List Value}, Vals xs us → Vals xs.reverse us.reverse := fun r => r.reverse
/-- e[::-1] -/
theorem pe_rev {te : TE} (he : PE X e te) : PE X (.Subscript e (.Slice none none (some (.UnaryOp .USub (.Constant (.int 1) 0 pk1) pk2)) p2) pos) (fun σ H Q => te σ H fun x H1 => rRv X.K x H1 Q) := by
  refine ⟨fun pins s σ H Q I h => ?_⟩
  refine Subscript_ (thn (he.run pins s σ H _ I h) fun v s1 ⟨x, H1, I1, r1, q1⟩ => ?_)
  refine wpAny_Slice ?_
  rw [evalPart_none]
  refine wpAny_pure (wpAny_pure ?_)
  rw [evalPart_some]
  refine thn ((pe_un (pos := pk2) un_neg (pe_int (X := X) (i := 1) (j := 0) (pos := pk1))).run pins s1 σ H1 (fun y H2 => y = .int (-1) ∧ H2 = H1) I1 ⟨1, rfl, rfl, rfl⟩) fun vk s3 ⟨y, H3, I3, r3, q3⟩ => ?_
  obtain ⟨rfl, rfl⟩ := q3
  obtain ⟨tk, rfl⟩ := r3
  have I4 : Inv X pins σ H3 { s3 with heap := s3.heap.push { cls := .type "slice", data := .fields #[.none, .none, .int (-1) tk] } } := I3.kept (t' := s3.toks) fun b ob q => Heap.get?_push_of_some _ q
  have hs : ({ s3 with heap := s3.heap.push { cls := .type "slice", data := .fields #[.none, .none, .int (-1) tk] } } : Shared).heap.IsSliceOf s3.heap.objs.size .none .none (.int (-1) tk) := Heap.IsSliceOf.new ..
  show wpAny (model X.prog X.w) X.A (subscriptTail e _ v (.ref s3.heap.objs.size)) (EP X pins σ Q) X.xe { s3 with heap := s3.heap.push { cls := .type "slice", data := .fields #[.none, .none, .int (-1) tk] } }
  obtain ⟨a, xs, rfl, ⟨hx, q⟩ | ⟨hx, q⟩⟩ := q1
  · cases r1
    obtain ⟨its, r, ht, hz⟩ := I4.tuple hx
    refine tail_any (T := "tuple") (ops := [.ref a, .ref s3.heap.objs.size]) ht.typeIs PyProof.Rows.slot_tuple_getitem.lookup ?_ (by with_unfolding_all rfl)
    have hlen : its.toArray.size = xs.length := by rw [List.size_toArray]; exact r.length.symm
    refine getItem_tuple_rev ht hs (.int _ _) ?_ (by rw [hlen]; exact hz)
    refine ⟨.ref _, _, I4.laid (t' := s3.toks) (o := .tup xs.reverse) (fun b ob q => Heap.get?_push_of_some _ q) (Nat.le_refl _) ?_, rfl, q _ (I4.hok.fresh (Nat.le_refl _))⟩
    exact ⟨by rw [List.length_reverse]; exact hz, _, r.reverse, IsTup.new _ _⟩
  · cases r1
    obtain ⟨its, r, ht, hz⟩ := I4.list hx
    have hlen := r.length
    refine tail_any (T := "list") (ops := [.ref a, .ref s3.heap.objs.size]) ht.isList.typeIs slot_list_getitem.lookup ?_ (by with_unfolding_all rfl)
    refine wpAny_getItem_list_slice ht.isList hs .none .none (.int _ _) (by decide) ?_ (by rw [List.size_toArray] <;> omega)
    rw [PySem.W.krv_pick]
    refine ⟨.ref _, _, I4.laid (t' := s3.toks) (o := .lst xs.reverse) (fun b ob q => Heap.get?_push_of_some _ q) (Nat.le_refl _) ?_, rfl, q _ (I4.hok.fresh (Nat.le_refl _))⟩
    exact ⟨by rw [List.length_reverse]; exact hz, _, 0, r.reverse, Heap.get?_push_size _ rfl⟩
theorem RpAll.rev {L : Addr → Prop} : ∀ {vs : List V} {ds : List D}, RpAll G H m L vs ds → RpAll G H m L vs.reverse ds.reverse
  | _, _, .nil => .nil
  | _, _, .cons h hs => by
    rw [List.reverse_cons, List.reverse_cons]
    exact (RpAll.rev hs).append (.cons h .nil)
theorem se_rev (hK : X.K = G.K) (ha : PE X e (tE G b W f)) :
    PE X (.Subscript e (.Slice none none (some (.UnaryOp .USub (.Constant (.int 1) 0 pk1) pk2)) p2) pos) (tE G b W fun ρ => M.thn (f ρ) fun x => fun st => M.ofO (revD (view st x)) st) := by
  refine ofE (pe_rev ha) fun σ H Q q => ?_
  obtain ⟨ρ, m, st, er, S, h⟩ := q
  refine (tE.go er S h).mono fun x H1 q => ?_
  obtain ⟨m1, st1, dx, S1, E1, rx, h1⟩ := q
  obtain ⟨d, hd, h2⟩ := h1.ofO
  have rv := view_ok S1 rx
  generalize hv : view st1 dx = dv at hd rv
  unfold revD at hd
  split at hd
  · cases hd
    obtain ⟨a, xs, rfl, ha, r1⟩ := rv.tup
    rw [← hK] at ha
    exact ⟨a, xs, rfl, .inl ⟨ha, fun p hp => Res2.newT S1 (fun H' v S' E' r => h2 H' m1 S' E' v r) hp r1.rev⟩⟩
  · cases hd
    obtain ⟨a, xs, rfl, ha, r1⟩ := rv
    rw [← hK] at ha
    exact ⟨a, xs, rfl, .inr ⟨ha, fun p hp => Res2.newL S1 (fun H' v S' E' r => h2 H' m1 S' E' v r) hp r1.rev⟩⟩
  · cases hd
end
end Ev
set_option linter.all false
set_option maxRecDepth 100000
/-! Ev13e: f(lambda: e), where f tells by a constant which error e raises. -/
namespace Ev
open PySem PySem.Spec PyProof.Rows L2
/-- the clauses of such a def -/
inductive Clauses (sg : Scope) (mg : Str → Option Value) (ec : Ecl) : List ExceptHandler → List (Nat × D) → Prop
  | nil : Clauses sg mg ec [] []
  | cons {n : Str} {Ch : Addr} {k j : Nat} {c : Const} {d : D} {p1 p2 p3 p4 : Pos} {hds : List ExceptHandler} {hs : List (Nat × D)} (gh : sg.names.lookup n = some .globalImplicit) (mh : mg n = some (.ref Ch)) (db : (n == ("__debug__" : Str)) = false) (hk : ec k Ch) (hc : constC c d = true)
      (r : Clauses sg mg ec hds hs) : Clauses sg mg ec (.ExceptHandler (some (.Name n p1)) none [.Return (some (.Constant c j p2)) p3] p4 :: hds) ((k, d) :: hs)
section
variable {ec : Ecl} {exm : Nat → Nat → Option Bool}
theorem clauses_ok {X : Cx} {hds : List ExceptHandler} {hs : List (Nat × D)} (h : Clauses X.env.scope X.mg ec hds hs)
    (exmK : ∀ c k r Dc Dk, exm c k = some r → ec c Dc → ec k Dk → PySem.W.exmOne X.K (.ref Dc) (.ref Dk) = some r) :
    ∃ l, HdsOk X hds l ∧ ∀ (DD : Ends) (Wout : WX) (c : Nat) (Dc : Addr) (d' : D) (σ : L2.St) (H : Hp), ec c Dc → catchW exm c hs = some d' → DD.rt (dV d') H → wMany X.K Wout DD l (.ref Dc) none σ H := by
  induction h with
  | nil => exact ⟨[], .nil, fun DD Wout c Dc d' σ H hc e q => by cases e⟩
  | @cons n Ch k j c d p1 p2 p3 p4 hds hs gh mh db hk hc r ih =>
    obtain ⟨l, h1, h2⟩ := ih
    refine ⟨(.ref Ch, fun _ _ _ D σ H => D.rt (dV d) H) :: l, .cons ⟨gh, db, .inl mh⟩ (fun a oe cls dd pn _ _ => ?_) h1, fun DD Wout c' Dc d' σ H hcc e q => ?_⟩
    · refine pss_one ⟨fun pins s σ H D I q => ?_⟩
      exact (ps_ret (pe_cst (X := X.suite a ((a, oe) :: pn)) hc)).run pins s σ H D I q
    · unfold catchW at e
      cases z : exm c' k with
      | none => rw [z] at e; cases e
      | some t =>
        rw [z] at e
        refine ⟨t, exmK c' k t Dc Ch z hcc hk, fun et a _ => ?_, fun et => ?_⟩
        · subst et; cases e; exact q
        · subst et; exact h2 DD Wout c' Dc d' σ H hcc e q
theorem catchW_isC {sg : Scope} {mg : Str → Option Value} {hds : List ExceptHandler} {hs : List (Nat × D)} (h : Clauses sg mg ec hds hs) {c : Nat} {d' : D} (q : catchW exm c hs = some d') : isC d' = true := by
  induction h with
  | nil => cases q
  | @cons n Ch k j cc d p1 p2 p3 p4 hds hs gh mh db hk hc r ih =>
    unfold catchW at q
    cases z : exm c k with
    | none => rw [z] at q; cases q
    | some t =>
      rw [z] at q
      cases t with
      | true => cases q; exact constC_isC hc
      | false => exact ih q
end
section
variable {X : Cx} {fa : Nat → Addr → Prop} {ec : Ecl} {ex : List Addr} {b : Nat} {W : WX} {exm : Nat → Nat → Option Bool}
/-- x(), in the def that was given the lambda: the lambda's body runs two frames deeper -/
theorem act_at {pins : List (Addr × Obj)} {σ : L2.St} {H : Hp} {s : Shared} {CXg : CXT} {Eg : XK} {Ng : List Str} {qg : Str} {sg : Scope} {g f c' : Addr} {cdg pm ctv : Value} {params : Arguments} {body : Expr} {scope : Scope} {k i : Nat} {a : Str} {pn : List (Addr × Obj)} {xe : Value → Shared → Prop} {W : WX} {E : XK} {tb : TE} {p1 p2 : Pos}
    (I : Inv X pins σ H s) (L : LamX.LamS X.env.scope scope) (hf : s.heap.get? f = some (PySem.W.kla_obj "<lambda>" (X.env.qual ++ "<lambda>") params body scope (cloFrom X.env.cells scope.names []) pm c' ctv)) (hfn : H f = none) (hfr : f ∉ frs X.stack)
    (hbind : bindArgs (PySem.W.kla_fn "<lambda>" (X.env.qual ++ "<lambda>") params body scope (cloFrom X.env.cells scope.names []) pm (.ref c') ctv) ⟨[], []⟩ = pure [])
    (tk : Takes ((cxOf CXg X.prog X.w X.K X.mg X.base Ng qg sg g cdg X.A X.stack s H Eg).tr pn xe) W) (hW : ∀ cls d σ' H', E cls d H' → W cls d σ' H') (hr : Room (k + 1) (X.A.deeper (envOfC qg sg s.heap.objs.size g cdg)))
    (hbody : ∀ (s2 : Shared) (H2 : Hp), Room k ((X.A.deeper (envOfC qg sg s.heap.objs.size g cdg)).deeper (LamX.lamEnv X scope s2.heap.objs.size f c')) → PE (LamX.lamCx X (X.A.deeper (envOfC qg sg s.heap.objs.size g cdg)) (envOfC qg sg s.heap.objs.size g cdg :: X.stack) s2 H2 E scope f c') body tb)
    (hN : Ng[i]? = some a) (hv : Vis sg a) (hd : (a == ("__debug__" : Str)) = false) (hcd : (a == ("__classdict__" : Str)) = false) :
    PE ((cxOf CXg X.prog X.w X.K X.mg X.base Ng qg sg g cdg X.A X.stack s H Eg).tr pn xe) (.Call (.Name a p1) [] [] p2)
      (fun σZ HZ Q => σZ[i]? = some (some (.ref f)) ∧ HZ c' = some (LamX.CodeO c' (X.env.qual ++ "<lambda>")) ∧ tb σ HZ Q) := by
  refine ⟨fun pinsZ sZ σZ HZ Q IZ ⟨hs, hc, ht⟩ => ?_⟩
  refine wpAny_Call_Name_kw (thn ((pe_var (pos := p1) (i := i) hN hv hd hcd).run pinsZ sZ σZ HZ (fun v H1 => v = .ref f ∧ H1 = HZ) IZ ⟨.ref f, hs, rfl, rfl⟩) fun u s1 q => ?_)
  obtain ⟨v, H1, I1, r1, rfl, rfl⟩ := q
  obtain rfl : u = Value.ref f := r1
  have of1 := I1.base.keep f _ hf hfn hfr (fun z => nomatch (show f ∈ ([] : List Addr) from z))
  refine PySem.W.callWith_F0 ⟨_, _, _, _, of1⟩ ?_
  have un : Un (frs X.stack) [] H H1 s.heap s1.heap := I1.base
  obtain ⟨⟨oc, vs, t, hoc, hdc, hvc⟩, _, _⟩ := I1.hok c' _ hc
  have run : codeAny (model X.prog X.w) (X.A.deeper (envOfC qg sg s.heap.objs.size g cdg)) (.call (.ref f) ⟨[], []⟩) (CR (L2.CX X.prog X.w) (envOfC qg sg s.heap.objs.size g cdg :: X.stack) X.prog X.w H1 s1 Q E) s1 := by
    refine PySem.W.kla_callFunE hr.depth of1 rfl L.co L.gen rfl ⟨c', oc, vs, t, rfl, hoc, hdc, hvc⟩ ?_
    rw [hbind]
    refine wpAny_pure (wpAny_newFunctionEnv (fun y hy => (L.own y hy).2) (fun y hy => absurd hy (by simp)) (fun h₁ hns hsb => ⟨I1.nolimit.fresh _ hsb, ?_⟩) L.kind)
    have kp : ∀ b o, s1.heap.get? b = some o → h₁.get? b = some o := fun b o e => hsb.extBut b o (Nat.ne_of_lt (Heap.lt_size e)) (Heap.get?_push_of_some _ e)
    have J := LamX.lam_start2 (f := f) (c' := c') (E := E) (tk := s1.toks + ([] : List (Str × Value)).length) I L I1.env0 hr.hd un hns kp
    refine PySem.W.kla_codeExpr (wpAny_mono ((hbody s1 H1 (hr.deeper _)).run [] _ _ H1 Q J ht) (fun v s' hq => ?_) fun e s' hq => hq)
    obtain ⟨w', H', J', rv, q⟩ := hq
    exact ⟨w', H', J'.os, J'.bare, J'.base, J'.hok, rv, q⟩
  refine wpAny_call (codeAny_mono run fun r s' hq => ?_)
  cases r with
  | error e => exact passes_call tk hW pinsZ σZ H1 s1 e s' I1 hq
  | ok fl =>
    cases fl with
    | ret u => exact I1.after hq
    | next => exact hq.elim
    | brk => exact hq.elim
    | cont => exact hq.elim
theorem se_word {x a : Str} {g c P : Addr} {k : Nat} {pg : Arguments} {sg : Scope} {fd : FuncData} {Ng : List Str} {c0 : Const} {d0 : D} {hs : List (Nat × D)} {h₀ : ExceptHandler} {hds : List ExceptHandler} {j : Nat}
    {params : Arguments} {body : Expr} {scope : Scope} {fe : Env → M D} {p lpos pos q1 q2 q3 q4 q5 q6 : Pos} (hg : Gl X x) (hm : X.mg x = some (.ref g))
    (Fd : FunD X.K x x pg [.Try [.Expr (.Call (.Name a q1) [] [] q2) q3] (h₀ :: hds) [] [] q4, .Return (some (.Constant c0 j q5)) q6] sg [] [] g fd) (hb : L2.Binds X.K fd [a] []) (Sg : FnScope Ng [a] sg) (hNg : Ng[0]? = some a) (hva : Vis sg a)
    (hcl : Clauses sg X.mg ec (h₀ :: hds) hs) (hc0 : constC c0 d0 = true)
    (TB : LamX.TabB X.base X.mg c P) (hcode : X.env.code = .ref c) (hmT : (P, X.env.qual ++ "<lambda>") ∈ ec.tb) (hu : ∀ p ∈ ec.tb, p.1 = P → p.2 = X.env.qual ++ "<lambda>") (hr : Room (k + 2) X.A) (L : LamX.LamS X.env.scope scope) (hdef : defaultsOf params X.env = ([], []))
    (hbind : ∀ (q : Str) (cl : List (Str × Addr)) (pm cv ctv : Value), bindArgs (PySem.W.kla_fn "<lambda>" q params body scope cl pm cv ctv) ⟨[], []⟩ = pure [])
    (exmK : ∀ c k r Dc Dk, exm c k = some r → ec c Dc → ec k Dk → PySem.W.exmOne X.K (.ref Dc) (.ref Dk) = some r)
    (hbody : ∀ (A : Around) (outer : List PySem.Env) (s : Shared) (H : Hp) (E : XK) (f c' : Addr) (b' : Nat), Room k (A.deeper (LamX.lamEnv X scope s.heap.objs.size f c')) → A.guards = X.A.guards → PE (LamX.lamCx X A outer s H E scope f c') body (tE ⟨X.K, fa, ec, ex⟩ b' (wE E) fe))
    (hdb : (x == ("__debug__" : Str)) = false) (hd : (a == ("__debug__" : Str)) = false) (hcd : (a == ("__classdict__" : Str)) = false) :
    PE X (.Call (.Name x p) [.Lambda params body scope lpos] [] pos) (tE ⟨X.K, fa, ec, ex⟩ b W fun ρ => wordM exm hs d0 (fe ρ)) := by
  refine ⟨fun pins s σ H Q I h => ?_⟩
  obtain ⟨ρ, m, st, er, S, h⟩ := h
  obtain ⟨oc, od, dV', kV, doc, pm, an, cdv, ct, osl, rfl, lk, hcg, _, _⟩ := Fd.ex
  refine wpAny_Call_Name_kw (ld_glob I hg hm ?_ hdb)
  refine PySem.W.callWith_K (h₀ := X.base) I.ok.mod.kin Fd.kp ?_ (by rfl) (by rfl)
  show wpAny _ _ (spliced ((false, eval (.Lambda params body scope lpos) X.env) :: backTo pos (starEach [] X.env))) _ _ s
  refine Calls.spliced_cons (LamX.lam_make2 I TB hcode hmT hu S.tab hdef (L.has I.ok) fun f c' pm' ctv H1 s' I1 eN T1 hf hfn hfr hco => ?_)
  refine Calls.spliced_nil ⟨I1.kIn, ?_⟩
  -- behind the making
  have E1 : ∀ b', Ext ⟨X.K, fa, ec, ex⟩ b' H m st H1 m st := fun b' => ⟨fun a fz => by
      obtain ⟨⟨o, ho, hn⟩, nl⟩ := fz
      exact ⟨by rw [eN a o ho hn, ho], nl⟩, fun _ _ h => h, fun a ha => by
      obtain ⟨xs, e⟩ := S.nt a (.inr ha)
      rw [eN a _ e (nt_lst xs), e], fun l n c c' _ h1 h2 h3 => by rw [h1] at h2; cases h2; exact h3⟩
  have stay : ∀ a, a ∈ m ∨ a ∈ ex → H1 a = H a := fun a ha => by
    obtain ⟨xs, e⟩ := S.nt a ha
    rw [eN a _ e (nt_lst xs), e]
  have S1 : Sim ⟨X.K, fa, ec, ex⟩ H1 m st := by
    refine ⟨S.len, S.nd, fun a ha => by rw [stay a (.inl ha)]; exact S.dom a ha, fun l cc a h1 h2 => ?_, fun a ha => ⟨by rw [stay a (.inr ha)]; exact (S.res a ha).1, (S.res a ha).2⟩, fun a ha => by rw [stay a ha]; exact S.nt a ha, T1⟩
    have r := S.cell l cc a h1 h2
    cases cc with
    | dead => trivial
    | lst ds =>
      obtain ⟨xs, e, r⟩ := r
      exact ⟨xs, by rw [stay a (.inl (List.mem_of_getElem? h2))]; exact e, r.ext (E1 0)⟩
    | dct _ _ => exact r
  have er1 : EnvR ⟨X.K, fa, ec, ex⟩ H1 m st σ ρ := er.ext (E1 0)
  have rc : codeAny (model X.prog X.w) X.A (.call (.ref g) ⟨[.ref f], []⟩) (CR C8.CX0 X.stack X.prog X.w H1 s' Q C8.E0) s' := by
    refine LamX.run_ofS (N := Ng) (ps := [a]) (us := [.ref f]) (vs := [.ref f]) lk hcg Sg hr I1.env0 (hb s' [.ref f] I1.kIn rfl) (.cons rfl .nil) rfl fun hr' => ?_
    -- the def's own context
    obtain ⟨Z, hZ⟩ : ∃ Z, Z = (cxOf C8.CX0 X.prog X.w X.K X.mg X.base Ng x sg g cdv X.A X.stack s' H1 C8.E0).nox := ⟨_, rfl⟩
    obtain ⟨l, hl1, hl2⟩ := clauses_ok (X := (cxOf C8.CX0 X.prog X.w X.K X.mg X.base Ng x sg g cdv X.A X.stack s' H1 C8.E0).nox) (exm := exm) hcl exmK
    -- what the thunk's reading says, where an error is wished of by Ech
    have key : PSs (cxOf C8.CX0 X.prog X.w X.K X.mg X.base Ng x sg g cdv X.A X.stack s' H1 C8.E0).nox [.Try [.Expr (.Call (.Name a q1) [] [] q2) q3] (h₀ :: hds) [] [] q4, .Return (some (.Constant c0 j q5)) q6] _ :=
      pss_cons (ps_try_many (X := (cxOf C8.CX0 X.prog X.w X.K X.mg X.base Ng x sg g cdv X.A X.stack s' H1 C8.E0).nox)
        (tb := fun W D σZ HZ => ∃ Ech : XK, (∀ cls d σ' H', Ech cls d H' → W cls d σ' H') ∧ σZ[0]? = some (some (.ref f)) ∧ HZ c' = some (LamX.CodeO c' (X.env.qual ++ "<lambda>")) ∧ tE ⟨X.K, fa, ec, ex⟩ st.length (wE Ech) fe σ HZ fun _ H' => D.nx σZ H')
        rfl rfl LamX.takes0 (fun W pn xe tk _ => by
          refine ⟨fun pins s'' σZ HZ D IZ h' => ?_⟩
          obtain ⟨Ech, hW, h1, h2, h3⟩ := h'
          have hp := act_at (CXg := C8.CX0) (Eg := C8.E0) (Ng := Ng) (qg := x) (sg := sg) (cdg := cdv) (i := 0) (E := Ech) (W := W) (pn := pn) (xe := xe) (p1 := q1) (p2 := q2) I1 L hf hfn hfr (hbind _ _ _ _ _) tk hW hr' (fun s2 H2 hr2 => hbody _ _ s2 H2 Ech f c' st.length hr2 rfl) hNg hva hd hcd
          have hq := pss_one (ps_expr (pos := q3) hp)
          exact hq.run pins s'' σZ HZ D IZ ⟨h1, h2, h3⟩) hl1)
        (pss_one (ps_ret (pe_cst hc0)))
    refine ⟨_, key.nox, ?_⟩
    have slot : (L2.start Ng [V.ref f])[0]? = some (some (V.ref f)) := rfl
    have cut : ∀ {H2 : Hp} {m2 : List Addr} {st2 : Store} {d' : D}, constC c0 d0 = true ∨ True → isC d' = true → Sim ⟨X.K, fa, ec, ex⟩ H2 m2 st2 → Ext ⟨X.K, fa, ec, ex⟩ st.length H1 m st H2 m2 st2 → (∀ H' m', Sim ⟨X.K, fa, ec, ex⟩ H' m' (st2.take st.length) → Ext ⟨X.K, fa, ec, ex⟩ b H m st H' m' (st2.take st.length) → ∀ v, Rp ⟨X.K, fa, ec, ex⟩ H' m' (Lv ⟨X.K, fa, ec, ex⟩ m' (st2.take st.length)) v d' → Q v H') → Q (dV d') H2 := fun {H2 m2 st2 d'} _ hcd' S2 E2 q => by
      obtain ⟨S3, E3, _⟩ := S1.cut S2 E2
      exact q H2 _ S3 ((E1 b).trans (Nat.le_refl _) E3.any) _ (rp_dV hcd')
    show ∃ Ech : XK, _
    refine ⟨fun cls dd H' => ∀ σ', wMany _ _ _ l cls dd σ' H', fun cls dd σ' H' z => z σ', slot, hco, ρ, m, st, er1, S1, ?_⟩
    · replace h : After ⟨X.K, fa, ec, ex⟩ b H m st _ _ (wordM exm hs d0 (fe ρ) st) := h
      unfold wordM at h
      cases z : fe ρ st with
      | bad => rw [z] at h; exact h.elim
      | ok d' st' =>
        rw [z] at h
        intro H2 m2 S2 E2 v rv
        exact cut (.inl hc0) (constC_isC hc0) S2 E2 h
      | exc cc st' =>
        rw [z] at h
        intro H2 m2 S2 E2 Dc hDc σ'
        simp only at h
        cases y : catchW exm cc hs with
        | none => rw [y] at h; exact h.elim
        | some d' =>
          rw [y] at h
          refine hl2 _ _ cc Dc d' σ' H2 hDc y ?_
          exact cut (.inr trivial) (catchW_isC hcl y) S2 E2 h
  refine wpAny_call (codeAny_mono rc fun r s2 hq => ?_)
  cases r with
  | error e => exact (show False from hq).elim
  | ok fl =>
    cases fl with
    | ret u => exact I1.after hq
    | next => exact False.elim hq
    | brk => exact False.elim hq
    | cont => exact False.elim hq
end
end Ev
set_option linter.all false
set_option maxRecDepth 100000
/-! Ev13f: max(a, b), min(a, b); a + b, a list just made. -/
namespace Ev
open PySem PySem.Spec PyProof.Rows L2
section
variable {X : Cx} {G : Gd} {b : Nat} {W : WX} {f g : Env → M D} {e e' : Expr} {pos p : Pos}
def mmN : Bool → Str
  | true => "max"
  | false => "min"
def mmV : Bool → String
  | true => "max"
  | false => "min"
theorem mmN_boot (mx : Bool) : bootBuiltins (mmN mx) = some (.builtin (mmV mx)) := by
  cases mx <;> (show bootBuiltins _ = some _; simp only [mmN, mmV]; decide +kernel)
theorem mmN_ok (mx : Bool) : mmN mx ≠ "__name__" ∧ (mmN mx == ("__debug__" : Str)) = false := by
  cases mx <;> (constructor <;> (show _; simp only [mmN]; decide +kernel))
theorem call_mm (mx : Bool) (hc : X.calm = true) : CallR X (.builtin (mmV mx)) (fun xs H Q => ∃ i j, xs = [.int i, .int j] ∧ Q (.int (mm2 mx i j)) H) := by
  cases mx with
  | true => exact call_max2 hc
  | false => exact call_min2 hc
theorem se_mm {mx : Bool} (hc : X.calm = true) (hg : Gl X (mmN mx)) (hm : X.mg (mmN mx) = none) (ha : PE X e (tE G b W f)) (hb : PE X e' (tE G b W g)) (hs : starEach [e, e'] X.env = (false, eval e X.env) :: starEach [e'] X.env) (hs' : starEach [e'] X.env = [(false, eval e' X.env)]) :
    PE X (.Call (.Name (mmN mx) p) [e, e'] [] pos) (tE G b W fun ρ => M.thn (f ρ) fun x => M.thn (g ρ) fun y => match x, y with
      | .int i, .int j => M.ret (.int (mm2 mx i j))
      | _, _ => M.bad) := by
  refine ofE (pe_callB (call_mm mx hc) hg hm (mmN_boot mx) (pa_cons ha (pa_cons hb pa_nil hs') hs) (mmN_ok mx).1 (mmN_ok mx).2 hs (by rw [hs']; rfl)) fun σ H Q q => ?_
  obtain ⟨ρ, m, st, er, S, h⟩ := q
  refine (tE.go er S h).mono fun x H1 q => ?_
  obtain ⟨m1, st1, dx, S1, E1, rx, h1⟩ := q
  refine (tE.go (er.ext E1) S1 h1).mono fun y H2 q => ?_
  obtain ⟨m2, st2, dy, S2, E2, ry, h2⟩ := q
  split at h2
  · cases rx
    cases ry
    exact ⟨_, _, rfl, h2.ret S2 _ (.int _)⟩
  · exact h2.elim
theorem sn_cat (hK : X.K = G.K) (ha : PE X e (tE G b W f)) (hb : PE X e' (tE G b W g)) :
    PE X (.BinOp e .Add e' pos) (tN G b W fun ρ => M.thn (f ρ) fun x => M.thn (g ρ) fun y => fun st => M.ofO (catD (view st x) (view st y)) st) := by
  refine ⟨fun pins s σ H Q I h => ?_⟩
  obtain ⟨ρ, m, st, er, S, h⟩ := h
  refine wpAny_BinOp (two ha hb I er S h fun v u s2 x y H2 m2 st2 dx dy I2 rx ry S2 er2 r1 r2 h2 => ?_)
  obtain ⟨ds, hd, h3⟩ := h2.ofO
  have v1 := view_ok S2 r1
  have v2 := view_ok S2 r2
  generalize view st2 dx = d1 at hd v1
  generalize view st2 dy = d2 at hd v2
  unfold catD at hd
  split at hd
  · split at hd
    · rename_i hz
      cases hd
      obtain ⟨a, xs, rfl, ha, q1⟩ := v1
      obtain ⟨c, ys, rfl, hc, q2⟩ := v2
      cases rx
      cases ry
      rw [← hK] at ha hc
      exact catL I2 ha hc (by rw [q1.length, q2.length]; exact okSize_le hz) fun p hp => h3.ret S2 p _ hp (q1.append q2)
    · cases hd
  · cases hd
end
end Ev
set_option linter.all false
set_option maxRecDepth 100000
set_option maxHeartbeats 4000000
/-! Ev13g: sorted(set(xs)), xs a list of ints. -/
namespace Ev
open PySem PySem.Spec PyProof.Rows L2
section
variable {P : Program} {w : World} {A : Around} {E : Value → Shared → Prop} {s : Shared}
/-- an empty set, new -/
abbrev bare (w : World) : Obj := { cls := .type "set", dict := none, data := .set #[] 0 (.fresh 0 0 (!w.params.followText "set-order")) }
abbrev with0 (w : World) (s : Shared) : Shared := { s with heap := s.heap.push (bare w) }
theorem set_of_list {l : Addr} {its : Array Value} (ns : List Int) {Q : Value → Shared → Prop} (calm : A.handled = none) (hl : s.heap.IsList l its) (hi : IntsAre its.toList ns) (few : ns.length + 1 < scanBound)
    (q : ∀ (h' : Heap) (tk c : Nat), SetR w h' s.heap.objs.size (fun j => decide (j ∈ ns)) c → c ≤ ns.length → (∀ b o, s.heap.get? b = some o → h'.get? b = some o) → Q (.ref s.heap.objs.size) { s with heap := h', toks := tk }) :
    wpAny (model P w) A (call (.type "set") [.ref l]) Q E s := by
  have size : its.size = ns.length := by
    have z := IntsAre.length hi
    rw [Array.length_toList] at z
    exact z
  obtain ⟨c, tl, mro⟩ := F.called_set.mro
  have made := F.called_set.made
  have sub := F.called_set.sub
  refine wpAny_call (codeAny_of_tree ?_)
  show wpAny _ _ (callAny (.type "set") _) _ _ _
  refine wpAny_pure ⟨Code.quiet_builtin _ (by decide +kernel), codeAny_builtin F.entry_type_call ?_⟩
  rw [Around.under_plain (weight_type_call_type "set" [.ref l] []) rfl]
  have k1 := F.called_set.notType
  have k2 := F.called_set.canCreate
  have k3 := F.typeCall_set_1 (.ref l)
  repeat (any_goals (first | assumption | wp_step))
  refine codeAny_mono (code_set_led1 (.ref l) (E := E) (Q₁ := fun obj s₁ => obj = .ref s.heap.objs.size ∧ s₁ = with0 w s) ⟨rfl, rfl⟩) fun r s₁ hr => ?_
  cases r with
  | error e => exact hr
  | ok fl =>
    cases fl with
    | ret obj =>
      obtain ⟨rfl, rfl⟩ := hr
      have new : (with0 w s).heap.get? s.heap.objs.size = some (bare w) := Heap.get?_push_size _ rfl
      have typ : Shared.TypeIs (with0 w s) (.ref s.heap.objs.size) "set" := ⟨_, new, rfl⟩
      have j1 := F.called_set.init.lookup
      have j2 := F.called_set.init.bind (.ref s.heap.objs.size)
      repeat (any_goals (first | assumption | wp_step))
      refine codeAny_mono (codeAny_call_builtin (R := wants (fun r s₂ => r = .none ∧ ∃ h' tk c, s₂ = { s with heap := h', toks := tk } ∧ SetR w h' s.heap.objs.size (fun j => decide (j ∈ ns)) c ∧ c ≤ ns.length ∧
          (∀ b o, s.heap.get? b = some o → h'.get? b = some o)) E) F.called_set.init.plain F.entry_set_init (check_set_init_1 typ ?_)) fun r₂ s₂ hr₂ => ?_
      · obtain ⟨ol, hol, e1, nl, e2⟩ := hl
        obtain ⟨ocls, odict, odata, oslots⟩ := ol
        simp only at e1 e2
        subst e1; subst e2
        have old : (with0 w s).heap.get? l = some { cls := .type "list", dict := odict, data := .seq its nl, slots := oslots } := Heap.get?_push_of_some _ hol
        have m1 := F.sub_list_set
        have m2 := F.sub_list_frozenset
        have m3 : (Value.type "list" == Value.type "dict") = false := by decide
        have lst : (with0 w s).heap.IsList l its := ⟨_, old, rfl, nl, rfl⟩
        unfold Builtin.«set.__init__» noKeywords Builtin.Frozenset.updateFrom
        generalize hPI : pyIter = PI
        wp_walk
        subst hPI
        refine wpAny_pyIter_list lst ?_
        refine wpAny_bind (wpAny_runValue ?_)
        have below : l < s.heap.objs.size := Heap.lt_size hol
        have calm3 : A.in1.in1.in1.handled = none := by simp [calm]
        have apart : l ≠ (with0 w s).heap.objs.size := by
          rw [Heap.size_push]; exact Nat.ne_of_lt (Nat.lt_succ_of_lt below)
        have off : s.heap.objs.size ∉ [(with0 w s).heap.objs.size, l] := by
          rw [Heap.size_push]; simp only [List.mem_cons, List.mem_singleton, List.not_mem_nil, or_false, not_or]
          exact ⟨Nat.ne_of_lt (Nat.lt_succ_self _), Nat.ne_of_gt below⟩
        have val : ∀ (i : Nat) (v : Value), its[i]? = some v → ∃ k t, ns[i]? = some k ∧ v = .int k t := fun i v hv => by
          have hi' : i < ns.length := by rw [← size]; exact (Array.getElem?_eq_some_iff.mp hv).1
          obtain ⟨t, e⟩ := PyProof.Rows.IntsAre.int_at hi i v (by rw [Array.getElem?_toList]; exact hv)
          refine ⟨ns[i], t, List.getElem?_eq_getElem hi', ?_⟩
          rw [e, List.getD_eq_getElem?_getD, List.getElem?_eq_getElem hi'] <;> rfl
        refine set_update_ints ((Walks.list calm3 _ l apart its).toS) s.heap.objs.size
          off ns size few val (its.size - 0) 0 _ (by omega) (Nat.zero_le _)
          ⟨⟨_, Heap.get?_push_size _ rfl, rfl, rfl⟩, (lst.push _)⟩ ?hS0 ?hR
        case hS0 =>
          exact ⟨0, Nat.le_refl 0, setR_new_at (Heap.get?_push_of_some _ new)⟩
        case hR =>
          intro s' c' hm hc' hS'
          obtain ⟨h', g2, d', tk', os'⟩ := s'
          have eg : g2 = s.gens := hm.gens
          have ed : d' = s.drawn := hm.drawn
          have eo : os' = s.os := hm.os
          subst eg; subst ed; subst eo
          show wpAny _ _ _ _ _ _
          refine wpAny_pure ?_
          show wpAny _ _ (ret Value.none) _ _ _
          rw [size] at hc'
          refine wpAny_pure ⟨rfl, h', tk', c', rfl, hS', hc', fun b o e => ?_⟩
          have b0 : b < s.heap.objs.size := Heap.lt_size e
          have b2 : b ≠ (with0 w s).heap.objs.size := by
            rw [Heap.size_push]; exact Nat.ne_of_lt (Nat.lt_succ_of_lt b0)
          exact hm.heap b o (by simp only [List.mem_cons, List.mem_singleton, List.not_mem_nil, or_false, not_or]; exact ⟨Nat.ne_of_lt b0, b2⟩) (Heap.get?_push_of_some _ (Heap.get?_push_of_some _ e))
      · cases r₂ with
        | error e => exact hr₂
        | ok fl₂ =>
          cases fl₂ with
          | ret r =>
            obtain ⟨rfl, h', tk, c', rfl, hS', hc', hk'⟩ := hr₂
            repeat (any_goals (first | assumption | wp_step))
            exact q _ _ _ hS' hc' hk'
          | _ => exact hr₂.elim
    | _ => exact hr.elim
end
/-! ### in order, each once -/
theorem mem_insU (x k : Int) : ∀ ys, k ∈ insU x ys ↔ k = x ∨ k ∈ ys
  | [] => by simp [insU]
  | y :: ys => by
    unfold insU
    split
    · simp
    · split
      · rename_i h; subst h; simp
      · rw [List.mem_cons, mem_insU x k ys, List.mem_cons]
        constructor
        · rintro (h | h | h)
          · exact .inr (.inl h)
          · exact .inl h
          · exact .inr (.inr h)
        · rintro (h | h | h)
          · exact .inr (.inl h)
          · exact .inl h
          · exact .inr (.inr h)
theorem mem_sortU (k : Int) : ∀ xs, k ∈ sortU xs ↔ k ∈ xs
  | [] => by simp [sortU]
  | x :: xs => by rw [sortU, mem_insU, mem_sortU k xs, List.mem_cons]
theorem up_insU (x : Int) : ∀ ys : List Int, ys.Pairwise (· < ·) → (insU x ys).Pairwise (· < ·)
  | [], _ => by simp [insU]
  | y :: ys, h => by
    obtain ⟨h1, h2⟩ := List.pairwise_cons.mp h
    unfold insU
    split
    · rename_i hx
      exact List.pairwise_cons.mpr ⟨fun z hz => by
        rcases List.mem_cons.mp hz with e | hz
        · omega
        · have := h1 z hz; omega, h⟩
    · split
      · exact h
      · rename_i h3 h4
        refine List.pairwise_cons.mpr ⟨fun z hz => ?_, up_insU x ys h2⟩
        rcases (mem_insU x z ys).mp hz with e | hz
        · omega
        · exact h1 z hz
theorem up_sortU : ∀ xs : List Int, (sortU xs).Pairwise (· < ·)
  | [] => .nil
  | x :: xs => up_insU x _ (up_sortU xs)
/-- two such lists of the same members are one -/
theorem up_one : ∀ {xs ys : List Int}, xs.Pairwise (· < ·) → ys.Pairwise (· < ·) → (∀ k, k ∈ xs ↔ k ∈ ys) → xs = ys
  | [], [], _, _, _ => rfl
  | [], y :: ys, _, _, h => by have := (h y).mpr List.mem_cons_self; cases this
  | x :: xs, [], _, _, h => by have := (h x).mp List.mem_cons_self; cases this
  | x :: xs, y :: ys, hx, hy, h => by
    obtain ⟨x1, x2⟩ := List.pairwise_cons.mp hx
    obtain ⟨y1, y2⟩ := List.pairwise_cons.mp hy
    have e : x = y := by
      rcases List.mem_cons.mp ((h x).mp List.mem_cons_self) with e | h1
      · exact e
      · rcases List.mem_cons.mp ((h y).mpr List.mem_cons_self) with e | h2
        · exact e.symm
        · have a := y1 x h1
          have c := x1 y h2
          omega
    subst e
    rw [up_one x2 y2 fun k => ?_]
    constructor
    · intro hk
      rcases List.mem_cons.mp ((h k).mp (List.mem_cons_of_mem _ hk)) with e | h1
      · have := x1 k hk; omega
      · exact h1
    · intro hk
      rcases List.mem_cons.mp ((h k).mpr (List.mem_cons_of_mem _ hk)) with e | h1
      · have := y1 k hk; omega
      · exact h1
end Ev
set_option linter.all false
set_option maxRecDepth 100000
set_option maxHeartbeats 2000000
/-! Ev13h: sorted(set(e)). -/
namespace Ev
open PySem PySem.Spec PyProof.Rows L2
section
variable {X : Cx} {G : Gd} {b : Nat} {W : WX} {f : Env → M D} {e : Expr} {pos p pos2 p2 : Pos}
def rSetL (K : PySem.W.Frag) (w : World) : List V → Hp → VK → Prop := fun xs H Q => ∃ (a : Addr) (ns : List Int), xs = [V.ref a] ∧ SqL K H a (ns.map V.int) ∧ ns.length < 64 ∧
  ∀ p c, H p = none → c ≤ ns.length → Q (.ref p) (upd H p (SetO w p (fun j => decide (j ∈ ns)) c))
theorem cr_setL (hc : X.calm = true) : CallR X (.type "set") (rSetL X.K X.w) := by
  intro pins s σ H xs us Q I r h
  obtain ⟨a, ns, rfl, hs, h64, q⟩ := h
  obtain ⟨its, rv, hl, _⟩ := I.list hs
  rw [Vals.ref1 r]
  have hi := rv.ints
  refine set_of_list ns (I.ok.hd hc) hl.isList hi (by show ns.length + 1 < scanBound; unfold scanBound; omega) fun h' tk c R hle kp => ?_
  have hn : H s.heap.objs.size = none := I.hok.fresh (Nat.le_refl _)
  exact ⟨.ref _, upd H s.heap.objs.size (SetO X.w s.heap.objs.size (fun j => decide (j ∈ ns)) c), I.laid (t' := tk) kp (Nat.le_refl _) (setO_new R), rfl, q _ c hn hle⟩
theorem ints_rp {H : Hp} {m : List Addr} {L : Addr → Prop} : ∀ l : List Int, RpAll G H m L (l.map V.int) (l.map D.int)
  | [] => .nil
  | i :: l => .cons (.int i) (ints_rp l)
theorem se_srt (hK : X.K = G.K) (hc : X.calm = true) (hg : Gl X "sorted") (hm : X.mg "sorted" = none) (hg2 : Gl X "set") (hm2 : X.mg "set" = none) (ha : PE X e (tE G b W f)) (hs : starEach [e] X.env = [(false, eval e X.env)]) :
    PE X (.Call (.Name "sorted" p) [.Call (.Name "set" p2) [e] [] pos2] [] pos) (tE G b W fun ρ => M.thn (f ρ) fun x => fun st => M.ofO (srtD (view st x)) st) := by
  have h1 := pe_callTy (pos := pos2) (p := p2) (cr_setL hc) hg2 hm2 (by show bootBuiltins _ = some _; decide +kernel) (pa_cons ha pa_nil (by rw [hs]; rfl)) (by decide) (by decide) (by rw [hs]; rfl) rfl
  refine ofE (pe_callB (pos := pos) (p := p) (cr_sortedSet hc) hg hm (by show bootBuiltins _ = some _; decide +kernel) (pa_cons h1 pa_nil rfl) (by decide) (by decide) rfl rfl) fun σ H Q q => ?_
  obtain ⟨ρ, m, st, er, S, h⟩ := q
  refine (tE.go er S h).mono fun x H1 q => ?_
  obtain ⟨m1, st1, dx, S1, E1, rx, h1⟩ := q
  obtain ⟨d, hd, h2⟩ := h1.ofO
  have rv := view_ok S1 rx
  generalize hv : view st1 dx = dv at hd rv
  unfold srtD at hd
  split at hd
  · split at hd
    · rename_i l hl
      split at hd
      · rename_i h64
        cases hd
        have h64 := of_decide_eq_true h64
        obtain ⟨a, xs, rfl, ha, r1⟩ := rv
        rw [allI_of hl r1, ← hK] at ha
        refine ⟨a, l, rfl, ha, h64, fun p c hp hle => ?_⟩
        obtain ⟨S2, E2, F2⟩ := S1.new (b := b) hp (SetO X.w p (fun j => decide (j ∈ l)) c) (by intro ps; simp [SetO])
        refine ⟨p, _, c, rfl, upd_same, by omega, fun ns p3 up mem len hp3 => ?_⟩
        have e : ns = sortU l := up_one up (up_sortU l) fun k => by rw [mem_sortU, mem]; simp
        subst e
        have h3 := After.from S1 S2 E2 h2
        exact Res2.newL (b := b) S2 (fun H'' v S'' E'' r' => h3 H'' m1 S'' E'' v r') hp3 (ints_rp _)
      · cases hd
    · cases hd
  · cases hd
end
end Ev
set_option linter.all false
set_option maxRecDepth 100000
set_option maxHeartbeats 2000000
/-! Ev13i: sorted(e, key=lambda v: v[i]), the keys ints. -/
namespace Ev
open PySem PySem.Spec PyProof.Rows L2
section
variable {prog : Program} {w : World} {A : Around} {E : Value → Shared → Prop} {s : Shared}
/-- the parameters of such a lambda -/
def onePar (n : Str) : Arguments → Bool
  | ⟨[], [⟨m, none, _⟩], none, [], [], none, []⟩ => decide (m = n) && (decide (n = ("row" : Str)) || (decide (n = ("one" : Str)) || decide (n = ("pair" : Str))))
  | _ => false
theorem bind_one {n : Str} {params : Arguments} {q : Str} {body : Expr} {scope : Scope} {cl : List (Str × Addr)} {pm cv ctv v : Value} (h : onePar n params = true) : bindArgs (PySem.W.kla_fn "<lambda>" q params body scope cl pm cv ctv) ⟨[v], []⟩ = pure [(n, v)] := by
  unfold onePar at h
  split at h
  · rw [Bool.and_eq_true, Bool.or_eq_true] at h
    have e := of_decide_eq_true h.1
    subst e
    rcases h.2 with h | h
    · have e := of_decide_eq_true h
      subst e
      rfl
    · rw [Bool.or_eq_true] at h
      rcases h with h | h
      · have e := of_decide_eq_true h
        subst e
        rfl
      · have e := of_decide_eq_true h
        subst e
        rfl
  · cases h
theorem key_call {f c' t : Addr} {qual n : Str} {params : Arguments} {scope : Scope} {cl : List (Str × Addr)} {pm ctv : Value} {p1 p2 p3 : Pos} {j i : Nat} {its : Array Value} {k : Int} {tk0 : Tok}
    (hroom : A.depth < recursionLimit) (hlim : s.heap.NoLimit) (hf : s.heap.get? f = some (PySem.W.kla_obj "<lambda>" qual params (.Subscript (.Name n p1) (.Constant (.int i) j p2) p3) scope cl pm c' ctv)) (hcr : s.heap.CodeRec (.ref c') qual)
    (hp : onePar n params = true) (hk : scope.kind = .function) (hco : scope.isCoroutine = false) (hgen : scope.isGenerator = false) (hn : scope.names.lookup n = some .local) (hcell : ∀ x ∈ scope.names, x.2 ≠ .cell) (hdb : (n == ("__debug__" : Str)) = false)
    (ht : IsTup s.heap t its) (h0 : its[i]? = some (.int k tk0)) (hi : i < 1000) (hz : its.size ≤ sizeLine) :
    wpAny (model prog w) A (call (.ref f) [.ref t]) (PySem.W.KeyPure (.int k) s) (fun _ _ => False) s := by
  have rc : codeAny (model prog w) A (.call (.ref f) ⟨[.ref t], []⟩) (fun r s' => match r with
    | .ok (.ret v) => PySem.W.KeyPure (.int k) s v s'
    | _ => False) s := by
    refine PySem.W.kla_callFunE hroom hf rfl hco hgen rfl hcr ?_
    rw [bind_one hp]
    refine wpAny_pure (wpAny_newFunctionEnv hcell (fun y hy => ?_) (fun h₁ hns hsb => ⟨hlim.fresh _ hsb, ?_⟩) hk)
    · rcases List.mem_cons.mp hy with rfl | hy
      · exact hn
      · cases hy
    have kp : ∀ b o, s.heap.get? b = some o → h₁.get? b = some o := fun b o e => hsb.extBut b o (Nat.ne_of_lt (Heap.lt_size e)) (Heap.get?_push_of_some _ e)
    refine PySem.W.kla_codeExpr (wpAny_mono (Q := PySem.W.KeyPure (.int k) s) (E := fun _ _ => False) ?_ (fun v s' h => h) fun e s' h => h.elim)
    refine Subscript_ (wpAny_Name (wpAny_loadName_local (v := .ref t) hk hn hns (by simp [List.lookup]) ?_) hdb)
    refine wpAny_Constant_int ?_
    have ht1 : IsTup h₁ t its := by
      obtain ⟨o, ho, q⟩ := ht
      exact ⟨o, kp _ _ ho, q⟩
    have sq : seqIndex? (i : Int) its.size = some i := PySem.StrLaws.seqIndex_nonneg (by omega) (by have := (Array.getElem?_eq_some_iff.mp h0).1; omega)
    refine tail_any (T := "tuple") (ops := _) ht1.typeIs slot_tuple_getitem.lookup (getItem_tuple ht1 (by omega) (by omega) sq h0 ?_) (by with_unfolding_all rfl)
    exact ⟨h₁, _, rfl, kp, .int _ _⟩
  refine wpAny_call (codeAny_mono rc fun r s' hq => ?_)
  cases r with
  | error e => exact hq.elim
  | ok fl =>
    cases fl with
    | ret v => exact hq
    | next => exact hq.elim
    | brk => exact hq.elim
    | cont => exact hq.elim
end
section
variable {β : Type} {k : β → Int}
theorem ins_at (x : β) : ∀ {l r : List β}, (∀ b ∈ l, ¬ k x ≤ k b) → (∀ b ∈ r.head?, k x ≤ k b) → insBy k x (l ++ r) = l ++ x :: r
  | [], [], _, _ => rfl
  | [], b :: r, _, h => by
    have : k x ≤ k b := h b rfl
    simp [insBy, this]
  | c :: l, r, h, h2 => by
    have h1 := h c List.mem_cons_self
    rw [List.cons_append, insBy, if_neg h1, ins_at x (fun b hb => h b (List.mem_cons_of_mem _ hb)) h2]
    rfl
theorem srtBy_eq : ∀ l : List β, srtBy k l = l.mergeSort (fun a b => decide (k a ≤ k b))
  | [] => by simp [srtBy]
  | x :: xs => by
    have tr : ∀ a b c : β, decide (k a ≤ k b) = true → decide (k b ≤ k c) = true → decide (k a ≤ k c) = true := fun a b c h1 h2 => by
      have h1 := of_decide_eq_true h1
      have h2 := of_decide_eq_true h2
      exact decide_eq_true (Int.le_trans h1 h2)
    have tot : ∀ a b : β, (decide (k a ≤ k b) || decide (k b ≤ k a)) = true := fun a b => by
      rcases Int.le_total (k a) (k b) with h | h <;> simp [h]
    obtain ⟨l, r, e1, e2, e3⟩ := List.mergeSort_cons tr tot x xs
    rw [srtBy, srtBy_eq xs, e2, e1]
    have sd := List.pairwise_mergeSort tr tot (x :: xs)
    rw [e1] at sd
    refine ins_at x (fun b hb h => ?_) fun b hb => ?_
    · have := e3 b hb
      simp [h] at this
    · have h2 := (List.pairwise_append.mp sd).2.1
      cases r with
      | nil => cases hb
      | cons c r =>
        have e : c = b := by simpa using hb
        subst e
        exact of_decide_eq_true ((List.pairwise_cons.mp h2).1 c List.mem_cons_self)
theorem insBy_map {γ : Type} (f : γ → β) (x : γ) : ∀ l : List γ, (insBy (fun b => k (f b)) x l).map f = insBy k (f x) (l.map f)
  | [] => rfl
  | y :: ys => by
    simp only [insBy, List.map_cons]
    split
    · rfl
    · rw [List.map_cons, insBy_map f x ys]
theorem srtBy_map {γ : Type} (f : γ → β) : ∀ l : List γ, (srtBy (fun b => k (f b)) l).map f = srtBy k (l.map f)
  | [] => rfl
  | x :: xs => by
    show (insBy (fun b => k (f b)) x (srtBy (fun b => k (f b)) xs)).map f = _
    rw [insBy_map, srtBy_map f xs]; rfl
theorem mem_insBy {x y : β} : ∀ {l : List β}, y ∈ insBy k x l → y = x ∨ y ∈ l
  | [], h => by simpa [insBy] using h
  | z :: l, h => by
    unfold insBy at h
    split at h
    · simpa using h
    · rcases List.mem_cons.mp h with rfl | h
      · exact .inr List.mem_cons_self
      · exact (mem_insBy h).imp id (List.mem_cons_of_mem _)
theorem mem_srtBy {y : β} : ∀ {l : List β}, y ∈ srtBy k l → y ∈ l
  | [], h => h
  | x :: l, h => by
    rcases mem_insBy h with rfl | h
    · exact List.mem_cons_self
    · exact List.mem_cons_of_mem _ (mem_srtBy h)
theorem len_insBy (x : β) : ∀ l : List β, (insBy k x l).length = l.length + 1
  | [] => rfl
  | z :: l => by
    unfold insBy
    split
    · rfl
    · rw [List.length_cons, len_insBy x l]; rfl
theorem len_srtBy : ∀ l : List β, (srtBy k l).length = l.length
  | [] => rfl
  | x :: l => by
    show (insBy k x (srtBy k l)).length = _
    rw [len_insBy, len_srtBy l]; rfl
end
section
variable {prog : Program} {w : World} {A : Around} {E : Value → Shared → Prop} {s : Shared}
/-- a list or a tuple, collected -/
theorem collect_lt {l : Addr} {o : Obj} {vs : List Value} {n : Nat} {Q : List Value → Shared → Prop} (ho : s.heap.get? l = some o) (hc : o.cls = .type "list" ∨ o.cls = .type "tuple") (hd : o.data = .seq vs.toArray n) (few : vs.length ≤ sizeLine)
    (q : Q vs { s with heap := (s.heap.push (seqObj "list" #[] 0)).update s.heap.objs.size (Obj.mapSeq (· ++ vs.toArray)) }) : wpAny (model prog w) A (collect (.ref l)) Q E s := by
  rcases hc with hc | hc
  · exact collect_list ⟨o, ho, hc, n, hd⟩ q few
  · unfold collect
    refine wpAny_bind (wpAny_runValue (codeAny_builtin entry_proto_collect' ?_))
    show wpAny _ _ (do again (.builtin "list.__iadd__" ⟨[← newList [], .ref l], []⟩)) _ _ s
    refine wpAny_bind (wpAny_newList (wpAny_pure ⟨Code.quiet_builtin _ (by decide +kernel), codeAny_builtin entry_list_iadd' ?_⟩))
    show wpAny _ _ (Builtin.List.listExtendWith (.ref s.heap.objs.size) (.ref l) (.ref s.heap.objs.size)) _ _ { s with heap := s.heap.push (seqObj "list" #[] 0) }
    unfold Builtin.List.listExtendWith
    have hl : (s.heap.push (seqObj "list" #[] 0)).get? l = some o := Heap.get?_push_of_some _ ho
    refine wpAny_bind (wpAny_typeOf (T := "tuple") ⟨o, hl, hc⟩ ?_)
    have tt : (Value.type "tuple" == Value.type "tuple") = true := by rfl
    rw [if_pos (by rw [tt]; simp)]
    refine wpAny_bind (listItems_at hl hd ?_)
    refine wpAny_bind (listItems_at (xs := #[]) (n := 0) (Heap.get?_push_size _ rfl) rfl ?_)
    rw [if_neg (by simp)]
    refine wpAny_bind (listUpdate_at (xs := #[]) (n := 0) (Heap.get?_push_size _ rfl) rfl ?_ (Nat.zero_le _) ?_)
    · refine wpAny_pure ?_
      show wpAny (model prog w) A (do
          let o ← load s.heap.objs.size
          match o.data with
          | .seq xs _ => pure xs.toList
          | _ => unsupported "internal:collect") Q E { s with heap := (s.heap.push (seqObj "list" #[] 0)).update s.heap.objs.size (Obj.mapSeq (· ++ vs.toArray)) }
      refine wpAny_bind (wpAny_load (get?_update_seq (Heap.get?_push_size _ rfl) _) ?_)
      show wpAny _ _ (pure ((#[] : Array Value) ++ vs.toArray).toList) Q E _
      rw [show ((#[] : Array Value) ++ vs.toArray).toList = vs by simp]
      exact wpAny_pure q
    · show (#[] ++ vs.toArray).size ≤ sizeLine + 1
      simp only [Array.size_append, List.size_toArray, List.length_nil]
      omega
open PySem.W in
/-- sorted(xs, key=f), xs a list or a tuple, f's answers ints -/
theorem sorted_lt {β : Type} {l : Addr} {o : Obj} {f : Value} {vs : List Value} {bs : List β} {R : Value → β → Prop} {n : Nat} {kw : List (Str × Value)} {Q : Value → Shared → Prop} (k : β → Int) (ho : s.heap.get? l = some o) (hc : o.cls = .type "list" ∨ o.cls = .type "tuple") (hd : o.data = .seq vs.toArray n)
    (e : EachIs R vs bs) (few : bs.length ≤ sizeLine) (hu : A.units + 66 < cLine) (ha1 : argsOk "sorted" ⟨[.ref l], kw⟩) (ha2 : ∀ x, argsOk "list.sort" ⟨[.ref x], kw⟩) (ht : ∀ x, Builtin.«list.sort» ⟨[.ref x], kw⟩ = ksk_tree x f false)
    (turn : ∀ (v : Value) (x : β), R v x → x ∈ bs → ∀ (h : Heap) (tk : Nat), (∀ b o, s.heap.get? b = some o → h.get? b = some o) →
      wpAny (model prog w) A.in1.in1 (call f [v]) (KeyPure (.int (k x)) { s with heap := h, toks := tk }) (fun _ _ => False) { s with heap := h, toks := tk })
    (h : ∀ out c h' tk, (∀ b o, s.heap.get? b = some o → h'.get? b = some o) → h'.get? (s.heap.objs.size + 1) = some (seqObj "list" (List.toArray out) c) → out.length = bs.length → EachIs R out (srtBy k bs) →
      Q (.ref (s.heap.objs.size + 1)) { s with heap := h', toks := tk }) :
    wpAny (model prog w) A (call (.builtin "sorted") [.ref l] kw) Q E s := by
  have len := e.length
  have lim : vs.length ≤ sizeLine := by rw [len]; exact few
  have up : ∀ {g : Heap}, KeepsBut (s.heap.objs.size + 1) (copyHeap s.heap vs) g → ∀ b o, s.heap.get? b = some o → g.get? b = some o := fun {g} kp b o q =>
    kp b o (Nat.ne_of_lt (Nat.lt_succ_of_lt (Heap.lt_size q))) (copyHeap_old q)
  refine call_function_entry_kw kind_sorted plain_sorted entry_sorted ha1 ?_
  unfold Builtin.«sorted»
  refine wpAny_bind (m := checkCount "sorted" 1 1 _) (wpAny_pure (wpAny_bind (collect_lt ho hc hd lim (wpAny_bind (wpAny_newList ?_ lim)))))
  have hsz : ((s.heap.push (seqObj "list" #[] 0)).update s.heap.objs.size (Obj.mapSeq (· ++ vs.toArray))).objs.size = s.heap.objs.size + 1 := (Heap.size_update _ _ _).trans (size_push' _ _)
  show wpAny _ _ _ _ _ { s with heap := copyHeap s.heap vs }
  rw [hsz]
  refine wpAny_bind (wpAny_holding (wpAny_call_entry_kw slot_list_sort ⟨_, copyHeap_at s.heap vs, rfl⟩ entry_list_sort ?body (ha2 _)))
  case body =>
    show wpAny (model prog w) A.in1.in1 (Builtin.«list.sort» ⟨[.ref (s.heap.objs.size + 1)], kw⟩) _ _ _
    rw [ht]
    have al : AllAlike (bs.map fun b => PyData.int (k b)) := AllAlike.of fun b b' => by simp [alike]
    have so : Sortable (bs.map fun b => PyData.int (k b)) := Sortable.others fun b => ⟨by simp, fun xs => by simp⟩
    have bd : ∀ d ∈ bs.map (fun b => PyData.int (k b)), A.in1.in1.units + d.depth < cLine := fun d hd => by
      obtain ⟨b, _, rfl⟩ := List.mem_map.mp hd
      show A.units + 1 + 1 + PyData.depth (.int (k b)) < cLine
      simp only [PyData.depth]
      omega
    refine keyH_tree (kz := bs.map fun b => PyData.int (k b)) (s := { s with heap := copyHeap s.heap vs }) (copyHeap_at s.heap vs) (by rw [List.length_map]; exact len.symm) lim al so bd
      (keyH_turns (s := { s with heap := copyHeap s.heap vs }) (k := fun b => PyData.int (k b)) e fun v x hR hx g tk kp => turn v x hR hx g tk (up kp)) fun h' tk out c kp hD ko => ?_
    refine ⟨_, rfl, wpAny_pure ⟨_, rfl, ?_⟩⟩
    have z := keyedOut_each (fun b => PyData.int (k b)) ko e
    rw [dataLe_int k, ← srtBy_eq] at z
    exact h out c h' tk (up kp) hD ((ko.length (by rw [List.length_map]; exact len.symm)).trans len) z
end
end Ev
set_option linter.all false
set_option maxRecDepth 100000
set_option maxHeartbeats 2000000
/-! Ev13j: sorted(e, key=lambda v: v[i]) runs so. -/
namespace Ev
open PySem PySem.Spec PyProof.Rows L2
/-- such a lambda, its parameter, the place within -/
def keyLam (n : Str) (i : Nat) (params : Arguments) (body : Expr) (scope : Scope) : Bool :=
  onePar n params && decide (scope.kind = .function) && !scope.isCoroutine && !scope.isGenerator && decide (scope.names.lookup n = some .local) && (scope.names.all fun x => decide (x.2 = .local)) && !(n == ("__debug__" : Str)) && decide (i < 1000) && (match body with
  | .Subscript (.Name m _) (.Constant (.int j) _ _) _ => decide (m = n) && decide (j = (i : Int))
  | _ => false)
section
variable {X : Cx} {G : Gd} {b : Nat} {W : WX} {f : Env → M D} {e : Expr} {pos p lpos kpos : Pos} {H H1 : Hp} {m : List Addr} {st : Store} {L : Addr → Prop}
theorem keyed_rp {i : Nat} : ∀ {xs : List V} {ds : List D} {ps : List (Int × D)}, RpAll G H m L xs ds → keysD i ds = some ps →
    ∃ bs : List (V × Int × D), bs.map (·.1) = xs ∧ bs.map (fun b => (b.2.1, b.2.2)) = ps ∧ ∀ b ∈ bs, Rp G H m L b.1 b.2.2 ∧ ∃ t its, b.1 = .ref t ∧ SqT G.K H t its ∧ its[i]? = some (.int b.2.1)
  | _, _, _, .nil, e => by
    cases e
    exact ⟨[], rfl, rfl, fun b hb => by cases hb⟩
  | _, _, ps, .cons (v := v) (d := d) h hs, e => by
    cases d with
    | tup ys =>
      simp only [keysD] at e
      split at e
      · rename_i k hk
        obtain ⟨ps', e1, e2⟩ := Option.map_eq_some_iff.mp e
        obtain ⟨bs, h1, h2, h3⟩ := keyed_rp hs e1
        obtain ⟨a, its, rfl, ha, r⟩ := Rv.tup (show Rv G H m L v (.tup ys) from h)
        refine ⟨(.ref a, k, .tup ys) :: bs, by simp [h1], by simp [h2, ← e2], fun b hb => ?_⟩
        rcases List.mem_cons.mp hb with rfl | hb
        · obtain ⟨w, hw, rw'⟩ := r.get hk
          cases rw'
          exact ⟨h, a, its, rfl, ha, hw⟩
        · exact h3 b hb
      · cases e
    | _ => simp [keysD] at e
/-- a lambda made takes nothing -/
theorem lam_sim (eN : LamX.ExtN H H1) (T1 : LamX.Tabs G.ec.tb H1) (S : Sim G H m st) : Sim G H1 m st ∧ ∀ b', Ext G b' H m st H1 m st := by
  have E1 : ∀ b', Ext G b' H m st H1 m st := fun b' => ⟨fun a fz => by
      obtain ⟨⟨o, ho, hn⟩, nl⟩ := fz
      exact ⟨by rw [eN a o ho hn, ho], nl⟩, fun _ _ h => h, fun a ha => by
      obtain ⟨xs, e⟩ := S.nt a (.inr ha)
      rw [eN a _ e (nt_lst xs), e], fun l n c c' _ h1 h2 h3 => by rw [h1] at h2; cases h2; exact h3⟩
  have stay : ∀ a, a ∈ m ∨ a ∈ G.ex → H1 a = H a := fun a ha => by
    obtain ⟨xs, e⟩ := S.nt a ha
    rw [eN a _ e (nt_lst xs), e]
  refine ⟨⟨S.len, S.nd, fun a ha => by rw [stay a (.inl ha)]; exact S.dom a ha, fun l cc a h1 h2 => ?_, fun a ha => ⟨by rw [stay a (.inr ha)]; exact (S.res a ha).1, (S.res a ha).2⟩, fun a ha => by rw [stay a ha]; exact S.nt a ha, T1⟩, E1⟩
  have r := S.cell l cc a h1 h2
  cases cc with
  | dead => trivial
  | lst ds =>
    obtain ⟨xs, e, r⟩ := r
    exact ⟨xs, by rw [stay a (.inl (List.mem_of_getElem? h2))]; exact e, r.ext (E1 0)⟩
  | dct _ _ => exact r
theorem rpAll_map {β : Type} (u : β → V) (d : β → D) : ∀ bs : List β, (∀ b ∈ bs, Rp G H m L (u b) (d b)) → RpAll G H m L (bs.map u) (bs.map d)
  | [], _ => .nil
  | b :: bs, h => .cons (h b List.mem_cons_self) (rpAll_map u d bs fun c hc => h c (List.mem_cons_of_mem _ hc))
theorem each_vals : ∀ {vs : List Value} {bs : List (V × Int × D)}, Vals (bs.map (·.1)) vs → PySem.W.EachIs (fun v (b : V × Int × D) => RelV b.1 v) vs bs
  | [], [], _ => .nil
  | v :: vs, b :: bs, r => by
    cases r with
    | cons h hs => exact .cons h (each_vals hs)
  | [], _ :: _, r => by cases r
  | _ :: _, [], r => by cases r
theorem vals_each : ∀ {vs : List Value} {bs : List (V × Int × D)}, PySem.W.EachIs (fun v (b : V × Int × D) => RelV b.1 v) vs bs → Vals (bs.map (·.1)) vs
  | _, _, .nil => .nil
  | _, _, .cons h t => .cons h (vals_each t)
/-- the sort itself -/
theorem run_srtk {pins : List (Addr × Obj)} {σ : L2.St} {s : Shared} {f0 c' a : Addr} {n qual : Str} {i : Nat} {params : Arguments} {body : Expr} {scope : Scope} {cl : List (Str × Addr)} {pm ctv : Value} {xs : List V} {ds : List D} {ps : List (Int × D)} {Q : VK}
    (I : Inv X pins σ H s) (S : Sim G H m st) (hK : X.K = G.K) (hr : Room 2 X.A) (hl : keyLam n i params body scope = true)
    (hf : s.heap.get? f0 = some (PySem.W.kla_obj "<lambda>" qual params body scope cl pm c' ctv)) (hco : H c' = some (LamX.CodeO c' qual))
    (ha : SqL X.K H a xs ∨ SqT X.K H a xs) (r : RpAll G H m (Lv G m st) xs ds) (hk : keysD i ds = some ps) (q : Res2 G b H m st (.lst ((srtBy (·.1) ps).map (·.2))) Q) :
    wpAny (model X.prog X.w) X.A (call (.builtin "sorted") [.ref a] [(Str.ofString "key", .ref f0)]) (EP X pins σ Q) X.xe s := by
  obtain ⟨bs, h1, h2, h3⟩ := keyed_rp r hk
  unfold keyLam at hl
  simp only [Bool.and_eq_true, decide_eq_true_eq, Bool.not_eq_true', List.all_eq_true] at hl
  obtain ⟨⟨⟨⟨⟨⟨⟨⟨k1, k2⟩, k3⟩, k4⟩, k5⟩, k6⟩, k7⟩, k8⟩, k9⟩ := hl
  split at k9
  case h_2 => cases k9
  rename_i nm p1 jv j2 p2 p3
  simp only [Bool.and_eq_true, decide_eq_true_eq] at k9
  obtain ⟨rfl, rfl⟩ := k9
  -- what is sorted, as it stands
  obtain ⟨its, o, nn, rv, ho, hc, hd, hz⟩ : ∃ (its : List Value) (o : Obj) (nn : Nat), Vals xs its ∧ s.heap.get? a = some o ∧ (o.cls = .type "list" ∨ o.cls = .type "tuple") ∧ o.data = .seq its.toArray nn ∧ xs.length ≤ sizeLine := by
    rcases ha with ha | ha
    · obtain ⟨its, rv, ⟨o, nn, ho, hc, _, hd⟩, hz⟩ := I.list ha
      exact ⟨its, o, nn, rv, ho, .inl hc, hd, hz⟩
    · obtain ⟨its, rv, ⟨o, ho, hc, nn, hd⟩, hz⟩ := I.tuple ha
      exact ⟨its, o, nn, rv, ho, .inr hc, hd, hz⟩
  rw [← h1] at rv
  have hlen : bs.length = xs.length := by rw [← h1, List.length_map]
  have cr : s.heap.CodeRec (.ref c') qual := by
    obtain ⟨⟨oc, vs, t, hoc, hdc, hvc⟩, _, _⟩ := I.hok c' _ hco
    exact ⟨c', oc, vs, t, rfl, hoc, hdc, hvc⟩
  refine sorted_lt (β := V × Int × D) (R := fun v b => RelV b.1 v) (f := .ref f0) (k := fun b => b.2.1) ho hc hd (each_vals rv) (by rw [hlen]; exact hz) (by have := hr.un; omega) (PyProof.Rows.ksk_s1 _ _) (fun _ => PyProof.Rows.ksk_l1 _ _) (fun _ => PyProof.Rows.ksk_t1 _ _) (fun v x hR hx h tk kp => ?_) fun out c h' tk kp hp ho' he => ?_
  · obtain ⟨_, t, us, e1, e2, e3⟩ := h3 x hx
    rw [e1] at hR
    cases hR
    rw [← hK] at e2
    obtain ⟨ws, rw1, ht, hz1⟩ := I.tuple e2
    obtain ⟨u, hu, ru⟩ := rw1.get e3
    obtain ⟨tk0, rfl⟩ := ru
    have ht' : IsTup h t ws.toArray := by
      obtain ⟨o1, ho1, q1⟩ := ht
      exact ⟨o1, kp _ _ ho1, q1⟩
    have cr' : h.CodeRec (.ref c') qual := by
      obtain ⟨c2, oc, vs, t2, e, hoc, hdc, hvc⟩ := cr
      exact ⟨c2, oc, vs, t2, e, kp _ _ hoc, hdc, hvc⟩
    refine key_call (s := { s with heap := h, toks := tk }) (A := X.A.in1.in1) (hr.in1.in1.depth) (I.nolimit.keeps kp) (kp _ _ hf) cr' k1 k2 k3 k4 k5 (fun y hy e => ?_) k7 ht' (by simpa using hu) k8 (by rw [List.size_toArray, ← rw1.length]; exact hz1)
    have := k6 y hy
    rw [this] at e
    cases e
  · have rv' := vals_each he
    have en : H (s.heap.objs.size + 1) = none := I.hok.fresh (Nat.le_succ _)
    have e0 : (srtBy (fun b : V × Int × D => b.2.1) bs).length = bs.length := len_srtBy bs
    refine ⟨.ref _, upd H (s.heap.objs.size + 1) (.lst ((srtBy (fun b : V × Int × D => b.2.1) bs).map (·.1))), I.laid (t' := tk) kp (Nat.le_succ _) ⟨by rw [List.length_map, e0, hlen]; exact hz, out, c, rv', hp⟩, rfl, ?_⟩
    have e5 : (srtBy (fun b : V × Int × D => b.2.1) bs).map (fun b => b.2.2) = (srtBy (fun p : Int × D => p.1) ps).map (fun p => p.2) := by
      rw [← h2, ← srtBy_map (k := fun p : Int × D => p.1) (fun b : V × Int × D => (b.2.1, b.2.2)) bs, List.map_map]
      rfl
    rw [← e5] at q
    exact Res2.newL S q en (rpAll_map (fun b : V × Int × D => b.1) (fun b => b.2.2) _ fun x hx => (h3 x (mem_srtBy hx)).1)
theorem se_srtk {c P : Addr} {n : Str} {i : Nat} {params : Arguments} {body : Expr} {scope : Scope} (hK : X.K = G.K) (hg : Gl X "sorted") (hm : X.mg "sorted" = none) (ha : PE X e (tE G b W f)) (hs : starEach [e] X.env = [(false, eval e X.env)])
    (TB : LamX.TabB X.base X.mg c P) (hcode : X.env.code = .ref c) (hmT : (P, X.env.qual ++ "<lambda>") ∈ G.ec.tb) (hu : ∀ p ∈ G.ec.tb, p.1 = P → p.2 = X.env.qual ++ "<lambda>") (hr : Room 2 X.A) (hl : keyLam n i params body scope = true) :
    PE X (.Call (.Name "sorted" p) [e] [⟨some "key", .Lambda params body scope lpos, kpos⟩] pos) (tE G b W fun ρ => M.thn (f ρ) fun x => fun st => M.ofO (srtkD i (view st x)) st) := by
  have hdef : defaultsOf params X.env = ([], []) := by
    unfold keyLam at hl
    simp only [Bool.and_eq_true] at hl
    have k1 := hl.1.1.1.1.1.1.1.1
    unfold onePar at k1
    split at k1
    · rfl
    · cases k1
  have hfree : ∀ y ∈ scope.names, y.2 = .free → ∃ c, X.env.cells.lookup y.1 = some c := by
    intro y hy e
    unfold keyLam at hl
    simp only [Bool.and_eq_true, decide_eq_true_eq, List.all_eq_true] at hl
    have := hl.1.1.1.2 y hy
    rw [this] at e
    cases e
  refine ⟨fun pins s σ H Q I h => ?_⟩
  obtain ⟨ρ, m, st, er, S, h⟩ := h
  refine wpAny_Call_Name_kw (ld_blt (u := .builtin "sorted") I hg hm (by show bootBuiltins _ = some _; decide +kernel) ?_ (by decide) (by decide))
  refine PyProof.Rows.callWith_kw (thn ((pa_cons ha pa_nil hs).run pos pins s σ H (fun vs H1 => ∃ x m1 st1 dx, vs = [x] ∧ Sim G H1 m1 st1 ∧ Ext G b H m st H1 m1 st1 ∧ Rp G H1 m1 (Lv G m1 st1) x dx ∧ After G b H1 m1 st1 (We G W σ) (fun H' m' st' d => ∀ v, Rp G H' m' (Lv G m' st') v d → Q v H') (M.ofO (srtkD i (view st1 dx)) st1)) I ?_) fun us s1 ⟨vs, H1, I1, r1, q1⟩ => ?_) (by rw [hs]; rfl) (by rw [hs]; rfl) rfl rfl
  · exact (tE.go er S h).mono fun x H1 q => by
      obtain ⟨m1, st1, dx, S1, E1, rx, h1⟩ := q
      exact ⟨x, m1, st1, dx, rfl, S1, E1, rx, h1⟩
  obtain ⟨x, m1, st1, dx, rfl, S1, E1, rx, h1⟩ := q1
  show wpAny _ _ (evalAll [do let v ← eval (.Lambda params body scope lpos) X.env; standAt pos; pure v]) _ _ s1
  refine wpAny_evalAll_cons (wpAny_bind (LamX.lam_make2 I1 TB hcode hmT hu S1.tab hdef hfree fun f0 c' pm ctv H2 s2 I2 eN T1 hf hfn hfr hco => wpAny_bind (wpAny_standAt (wpAny_pure (wpAny_evalAll_nil ?_)))))
  obtain ⟨S2, E2⟩ := lam_sim eN T1 S1
  have rx2 := rx.ext (E2 b)
  have hv := view_ok S2 rx2
  obtain ⟨d, hd, h2⟩ := h1.ofO
  have q2 : Res2 G b H2 m1 st1 d Q := fun H' v S' E' r' => h2 H' m1 S' ((E2 b).trans (Nat.le_refl _) E') v r'
  generalize view st1 dx = dv at hd hv
  show wpAny (model X.prog X.w) X.A (call (.builtin "sorted") us [(Str.ofString "key", .ref f0)]) (EP X pins σ Q) X.xe _
  cases dv with
  | lst ds =>
    obtain ⟨ps, e1, e2⟩ := Option.map_eq_some_iff.mp hd
    obtain ⟨a, xs, rfl, h4, h5⟩ := hv
    rw [Vals.ref1 r1]
    subst e2
    rw [← hK] at h4
    exact run_srtk I2 S2 hK hr hl hf hco (.inl h4) h5 e1 q2
  | tup ds =>
    obtain ⟨ps, e1, e2⟩ := Option.map_eq_some_iff.mp hd
    obtain ⟨a, xs, rfl, h4, h5⟩ := hv.tup
    rw [Vals.ref1 r1]
    subst e2
    rw [← hK] at h4
    exact run_srtk I2 S2 hK hr hl hf hco (.inr h4) h5 e1 q2
  | _ => cases hd
end
end Ev
set_option linter.all false
set_option maxRecDepth 100000
set_option maxHeartbeats 2000000
/-! Ev13k: sorted(ints), sorted(pairs of ints); tables of defs, calls by them. -/
namespace Ev
open PySem PySem.Spec PyProof.Rows L2
section
theorem pw_srtBy {β : Type} {k : β → Int} (l : List β) : (srtBy k l).Pairwise (fun a b => k a ≤ k b) := by
  have tr : ∀ a b c : β, decide (k a ≤ k b) = true → decide (k b ≤ k c) = true → decide (k a ≤ k c) = true := fun a b c h1 h2 => by
    have h1 := of_decide_eq_true h1
    have h2 := of_decide_eq_true h2
    exact decide_eq_true (Int.le_trans h1 h2)
  have tot : ∀ a b : β, (decide (k a ≤ k b) || decide (k b ≤ k a)) = true := fun a b => by
    rcases Int.le_total (k a) (k b) with h | h <;> simp [h]
  rw [srtBy_eq]
  exact (List.pairwise_mergeSort tr tot l).imp fun h => of_decide_eq_true h
theorem perm_srtBy {β : Type} {k : β → Int} (l : List β) : (srtBy k l).Perm l := by
  rw [srtBy_eq]; exact List.mergeSort_perm _ _
theorem lexP_tr (a b c : Int × Int) (h1 : lexP a b = true) (h2 : lexP b c = true) : lexP a c = true := by
  simp only [lexP, Bool.or_eq_true, Bool.and_eq_true, decide_eq_true_eq] at h1 h2 ⊢
  omega
theorem lexP_tot (a b : Int × Int) : (lexP a b || lexP b a) = true := by
  simp only [lexP, Bool.or_eq_true, Bool.and_eq_true, decide_eq_true_eq]
  omega
theorem lexP_anti {a b : Int × Int} (h1 : lexP a b = true) (h2 : lexP b a = true) : a = b := by
  simp only [lexP, Bool.or_eq_true, Bool.and_eq_true, decide_eq_true_eq] at h1 h2
  have e1 : a.1 = b.1 := by omega
  have e2 : a.2 = b.2 := by omega
  exact Prod.ext e1 e2
theorem insP_at (x : Int × Int) : ∀ {l r : List (Int × Int)}, (∀ b ∈ l, ¬ lexP x b = true) → (∀ b ∈ r.head?, lexP x b = true) → insP x (l ++ r) = l ++ x :: r
  | [], [], _, _ => rfl
  | [], b :: r, _, h => by
    have : lexP x b = true := h b rfl
    simp [insP, this]
  | c :: l, r, h, h2 => by
    have h1 := h c List.mem_cons_self
    rw [List.cons_append, insP, if_neg h1, insP_at x (fun b hb => h b (List.mem_cons_of_mem _ hb)) h2]
    rfl
theorem srtP_eq : ∀ l : List (Int × Int), srtP l = l.mergeSort lexP
  | [] => by simp [srtP]
  | x :: xs => by
    obtain ⟨l, r, e1, e2, e3⟩ := List.mergeSort_cons lexP_tr lexP_tot x xs
    rw [srtP, srtP_eq xs, e2, e1]
    have sd := List.pairwise_mergeSort lexP_tr lexP_tot (x :: xs)
    rw [e1] at sd
    refine insP_at x (fun b hb h => ?_) fun b hb => ?_
    · have := e3 b hb
      simp [h] at this
    · have h2 := (List.pairwise_append.mp sd).2.1
      cases r with
      | nil => cases hb
      | cons c r =>
        have e : c = b := by simpa using hb
        subst e
        exact (List.pairwise_cons.mp h2).1 c List.mem_cons_self
end
section
variable {X : Cx} {G : Gd} {b : Nat} {W : WX} {f : Env → M D} {e : Expr} {pos p : Pos} {H : Hp} {m : List Addr} {st : Store} {L : Addr → Prop}
def rSrtI (K : PySem.W.Frag) : List V → Hp → VK → Prop := fun vs H Q => ∃ (a : Addr) (ns : List Int), vs = [V.ref a] ∧ SqL K H a (ns.map V.int) ∧ ∀ p : Addr, H p = none → Q (.ref p) (upd H p (.lst ((srtBy (fun i : Int => i) ns).map V.int)))
theorem cr_srti : CallR X (.builtin "sorted") (rSrtI X.K) := by
  intro pins s σ H vs us Q I r h
  obtain ⟨a, ns, rfl, hs, q⟩ := h
  rw [Vals.ref1 r]
  refine sorted_run (b := false) (kw := []) I hs (fun a => PySem.W.plain_is_rev a) (args_sorted1 _) (fun _ => args_list_sort _) fun ns' p hp ho hn => ?_
  have e : ns' = srtBy (fun i : Int => i) ns := by
    refine List.Perm.eq_of_pairwise (le := fun a b : Int => a ≤ b) (fun a b _ _ h1 h2 => Int.le_antisymm h1 h2) ho (pw_srtBy ns) (hp.trans (perm_srtBy ns).symm)
  rw [e]
  exact q p hn
theorem se_srti (hK : X.K = G.K) (hg : Gl X "sorted") (hm : X.mg "sorted" = none) (ha : PE X e (tE G b W f)) (hs : starEach [e] X.env = [(false, eval e X.env)]) :
    PE X (.Call (.Name "sorted" p) [e] [] pos) (tE G b W fun ρ => M.thn (f ρ) fun x => fun st => M.ofO (srtiD (view st x)) st) := by
  refine ofE (pe_callB (pos := pos) (p := p) cr_srti hg hm (by show bootBuiltins _ = some _; decide +kernel) (pa_cons ha pa_nil (by rw [hs]; rfl)) (by decide) (by decide) (by rw [hs]; rfl) (by rfl)) fun σ H Q q => ?_
  obtain ⟨ρ, m, st, er, S, h⟩ := q
  refine (tE.go er S h).mono fun x H1 q => ?_
  obtain ⟨m1, st1, dx, S1, E1, rx, h1⟩ := q
  obtain ⟨d, hd, h2⟩ := h1.ofO
  have rv := view_ok S1 rx
  generalize hv : view st1 dx = dv at hd rv
  cases dv with
  | lst xs =>
    obtain ⟨l, hl, e2⟩ := Option.map_eq_some_iff.mp hd
    obtain ⟨a, ys, rfl, ha, r1⟩ := rv
    rw [allI_of hl r1, ← hK] at ha
    subst e2
    exact ⟨a, l, rfl, ha, fun p hp => Res2.newL (b := b) S1 (fun H'' v S'' E'' r' => h2 H'' m1 S'' E'' v r') hp (ints_rp _)⟩
  | _ => cases hd
/-- pairs of ints, as they stand -/
theorem pairs_rp : ∀ {xs : List V} {ds : List D} {l : List (Int × Int)}, RpAll G H m L xs ds → allP ds = some l →
    ∃ bs : List (V × Int × Int), bs.map (·.1) = xs ∧ bs.map (·.2) = l ∧ ∀ b ∈ bs, Rp G H m L b.1 (pairD b.2) ∧ ∃ t, b.1 = .ref t ∧ SqT G.K H t [.int b.2.1, .int b.2.2]
  | _, _, _, .nil, e => by
    cases e
    exact ⟨[], rfl, rfl, fun b hb => by cases hb⟩
  | _, _, l, .cons (v := v) (d := d) h hs, e => by
    unfold allP at e
    split at e
    · rename_i he; cases he
    · rename_i i j r he
      cases he
      obtain ⟨l', e1, e2⟩ := Option.map_eq_some_iff.mp e
      obtain ⟨bs, h1, h2, h3⟩ := pairs_rp hs e1
      obtain ⟨a, its, rfl, ha, r⟩ := Rv.tup (show Rv G H m L v (.tup [.int i, .int j]) from h)
      refine ⟨(.ref a, i, j) :: bs, by simp [h1], by simp [h2, ← e2], fun b hb => ?_⟩
      rcases List.mem_cons.mp hb with rfl | hb
      · cases r with
        | cons r1 r2 =>
          cases r2 with
          | cons r2 r3 =>
            cases r3; cases r1; cases r2
            exact ⟨h, a, rfl, ha⟩
      · exact h3 b hb
    · cases e
theorem each_valsP : ∀ {vs : List Value} {bs : List (V × Int × Int)}, Vals (bs.map (·.1)) vs → PySem.W.EachIs (fun v (b : V × Int × Int) => RelV b.1 v) vs bs
  | [], [], _ => .nil
  | v :: vs, b :: bs, r => by
    cases r with
    | cons h hs => exact .cons h (each_valsP hs)
  | [], _ :: _, r => by cases r
  | _ :: _, [], r => by cases r
theorem vals_eachP : ∀ {vs : List Value} {bs : List (V × Int × Int)}, PySem.W.EachIs (fun v (b : V × Int × Int) => RelV b.1 v) vs bs → Vals (bs.map (·.1)) vs
  | _, _, .nil => .nil
  | _, _, .cons h t => .cons h (vals_eachP t)
theorem each_mem {R : Value → V × Int × Int → Prop} : ∀ {vs : List Value} {bs : List (V × Int × Int)}, PySem.W.EachIs R vs bs → PySem.W.EachIs (fun v b => R v b ∧ b ∈ bs) vs bs
  | _, _, .nil => .nil
  | _, _, .cons h t => .cons ⟨h, List.mem_cons_self⟩ ((each_mem t).mono fun _ _ q => ⟨q.1, List.mem_cons_of_mem _ q.2⟩)
theorem map_srtP (bs : List (V × Int × Int)) : (bs.mergeSort (fun p q => lexP p.2 q.2)).map (·.2) = srtP (bs.map (·.2)) := by
  rw [srtP_eq]
  refine List.Perm.eq_of_pairwise (le := fun a b => lexP a b = true) (fun a b _ _ h1 h2 => lexP_anti h1 h2) ?_ (List.pairwise_mergeSort lexP_tr lexP_tot _) (((List.mergeSort_perm bs _).map _).trans (List.mergeSort_perm _ _).symm)
  rw [List.pairwise_map]
  exact List.pairwise_mergeSort (fun a b c h1 h2 => lexP_tr a.2 b.2 c.2 h1 h2) (fun a b => lexP_tot a.2 b.2) bs
open PySem.W in
theorem se_srtp (hK : X.K = G.K) (hu : X.A.units + 66 < cLine) (hg : Gl X "sorted") (hm : X.mg "sorted" = none) (ha : PE X e (tE G b W f)) (hs : starEach [e] X.env = [(false, eval e X.env)]) :
    PE X (.Call (.Name "sorted" p) [e] [] pos) (tE G b W fun ρ => M.thn (f ρ) fun x => fun st => M.ofO (srtpD (view st x)) st) := by
  have cr : CallR X (.builtin "sorted") (fun vs H Q => ∃ (m1 : List Addr) (st1 : Store) (a : Addr) (xs : List V) (ds : List D) (l : List (Int × Int)), vs = [.ref a] ∧ Sim G H m1 st1 ∧ SqL X.K H a xs ∧ RpAll G H m1 (Lv G m1 st1) xs ds ∧ allP ds = some l ∧ Res2 G b H m1 st1 (.lst ((srtP l).map pairD)) Q) := by
    intro pins s σ H vs us Q I r h
    obtain ⟨m1, st1, a, xs, ds, l, rfl, S, ha, rp, hl, q⟩ := h
    rw [Vals.ref1 r]
    obtain ⟨bs, h1, h2, h3⟩ := pairs_rp rp hl
    obtain ⟨its, rv, hL, hz⟩ := I.list ha
    rw [← h1] at rv
    have hlen : bs.length = xs.length := by rw [← h1, List.length_map]
    have ev := each_valsP rv
    have er : EachIs (fun v (b : V × Int × Int) => ∃ as, Reads s.heap v (.tuple [.int b.2.1, .int b.2.2]) as) its bs := (each_mem ev).mono fun v b ⟨hv, hb⟩ => by
      obtain ⟨_, t, e1, e2⟩ := h3 b hb
      rw [e1] at hv
      cases hv
      rw [← hK] at e2
      obtain ⟨ws, rw1, ⟨o, ho, hc, n, hd⟩, _⟩ := I.tuple e2
      obtain ⟨u1, u2, rfl, ru1, ru2⟩ := vals2 rw1
      obtain ⟨t1, rfl⟩ := ru1
      obtain ⟨t2, rfl⟩ := ru2
      exact ⟨_, .tuple ho hc hd (.cons (.int _ _) (.cons (.int _ _) .nil))⟩
    refine sorted_data (R := fun v (b : V × Int × Int) => RelV b.1 v) (enc := fun b : V × Int × Int => .tuple [.int b.2.1, .int b.2.2]) hL.isList ev er (AllAlike.of fun b b' => by simp [alike, alikeAll]) (Sortable.tuples fun b => ⟨_, _, rfl⟩) (by rw [hlen]; exact hz) (fun b _ => by simp only [PyData.depth, PyData.depthAll]; omega) fun out ho he => ?_
    rw [dataLe_ii (fun b : V × Int × Int => b.2.1) (fun b => b.2.2)] at he
    have ele : (fun p q : V × Int × Int => decide (p.2.1 < q.2.1 ∨ (p.2.1 = q.2.1 ∧ p.2.2 ≤ q.2.2))) = fun p q => lexP p.2 q.2 := by
      funext p q
      simp only [lexP, Bool.decide_or, Bool.decide_and]
    rw [ele] at he
    have rv' := vals_eachP he
    obtain ⟨ep, hp⟩ := PyProof.Rows.sortedAll_at s.heap its out.toArray
    have e0 : (bs.mergeSort (fun p q => lexP p.2 q.2)).length = bs.length := List.length_mergeSort _
    refine ⟨.ref _, upd H (s.heap.objs.size + 1) (.lst ((bs.mergeSort (fun p q => lexP p.2 q.2)).map (·.1))), I.laid (t' := s.toks) (fun _ _ => PyProof.Rows.sortedAll_old) (Nat.le_succ _) ⟨by rw [List.length_map, e0, hlen]; exact hz, out, ep, rv', hp⟩, rfl, ?_⟩
    rw [← h2, ← map_srtP, List.map_map] at q
    exact Res2.newL S q (I.hok.fresh (Nat.le_succ _)) (rpAll_map (fun b : V × Int × Int => b.1) (pairD ∘ fun b => b.2) _ fun x hx => (h3 x ((List.mergeSort_perm _ _).mem_iff.mp hx)).1)
  refine ofE (pe_callB (pos := pos) (p := p) cr hg hm (by show bootBuiltins _ = some _; decide +kernel) (pa_cons ha pa_nil (by rw [hs]; rfl)) (by decide) (by decide) (by rw [hs]; rfl) (by rfl)) fun σ H Q q => ?_
  obtain ⟨ρ, m, st, er, S, h⟩ := q
  refine (tE.go er S h).mono fun x H1 q => ?_
  obtain ⟨m1, st1, dx, S1, E1, rx, h1⟩ := q
  obtain ⟨d, hd, h2⟩ := h1.ofO
  have rv := view_ok S1 rx
  generalize hv : view st1 dx = dv at hd rv
  cases dv with
  | lst xs =>
    obtain ⟨l, hl, e2⟩ := Option.map_eq_some_iff.mp hd
    obtain ⟨a, ys, rfl, ha, r1⟩ := rv
    rw [← hK] at ha
    subst e2
    exact ⟨m1, st1, a, ys, xs, l, rfl, S1, ha, r1, hl, fun H'' v S'' E'' r' => h2 H'' m1 S'' E'' v r'⟩
  | _ => cases hd
end
end Ev
set_option linter.all false
set_option maxRecDepth 100000
set_option maxHeartbeats 2000000
/-! Ev13l: tables of defs by texts, calls by them; calls of a def that a name holds. -/
namespace Ev
open PySem PySem.Spec PyProof.Rows L2
section
variable {X : Cx} {G : Gd} {b : Nat} {W : WX} {pos p : Pos}
/-- the pairs of such a display -/
inductive DspOk (X : Cx) (fa : Nat → Addr → Prop) : List (Str × Nat) → List (Key × V) → List (Option Expr) → List Expr → List (TE × TE) → Prop
  | nil : DspOk X fa [] [] [] [] []
  | cons {s n : Str} {f : Nat} {a : Addr} {j : Nat} {p1 p2 : Pos} {kf : List (Str × Nat)} {kvs : List (Key × V)} {ks : List (Option Expr)} {vs : List Expr} {trs : List (TE × TE)} (hg : Gl X n) (hm : X.mg n = some (.ref a)) (hf : fa f a) (db : (n == ("__debug__" : Str)) = false) (r : DspOk X fa kf kvs ks vs trs) :
      DspOk X fa ((s, f) :: kf) ((.inr s, .ref a) :: kvs) (some (.Constant (.str s) j p1) :: ks) (.Name n p2 :: vs) ((tC (.str s), tC (.ref a)) :: trs)
theorem DspOk.pps {fa : Nat → Addr → Prop} {kf : List (Str × Nat)} {kvs : List (Key × V)} {ks : List (Option Expr)} {vs : List Expr} {trs : List (TE × TE)} (h : DspOk X fa kf kvs ks vs trs) : PPs X pos ks vs trs := by
  induction h with
  | nil => exact pps_nil
  | cons hg hm hf db r ih => exact pps_cons pe_str (pe_glob hg hm rfl db) ih
theorem DspOk.kd {fa : Nat → Addr → Prop} {kf : List (Str × Nat)} {kvs : List (Key × V)} {ks : List (Option Expr)} {vs : List Expr} {trs : List (TE × TE)} (h : DspOk X fa kf kvs ks vs trs) :
    KD fa kvs (kf.map fun q => .str q.1) (kf.map fun q => .fn q.2) ∧ kvs.map (·.1) = kf.map (fun q => Sum.inr q.1) ∧ ks.all (·.isSome) = true ∧ ks.length = vs.length ∧ ks.length = kf.length := by
  induction h with
  | nil => exact ⟨.nil, rfl, rfl, rfl, rfl⟩
  | cons hg hm hf db r ih =>
    obtain ⟨h1, h2, h3, h4, h5⟩ := ih
    exact ⟨.cons hf h1, by simp [h2], by simpa using h3, by simp [h4], by simp [h5]⟩
theorem DspOk.tp {fa : Nat → Addr → Prop} {kf : List (Str × Nat)} {kvs : List (Key × V)} {ks : List (Option Expr)} {vs : List Expr} {trs : List (TE × TE)} (h : DspOk X fa kf kvs ks vs trs) (σ : L2.St) (H : Hp) (Q : List (V × V) → Hp → Prop) (q : Q (kvs.map fun kv => (kV kv.1, kv.2)) H) : tPairs trs σ H Q := by
  induction h generalizing Q with
  | nil => exact q
  | cons hg hm hf db r ih => exact ih _ q
theorem putK_new {k : Key} {v : V} {kvs : List (Key × V)} (h : k ∉ kvs.map (·.1)) : putK kvs k v = kvs ++ [(k, v)] := by
  unfold putK
  rw [if_neg]
  intro q
  obtain ⟨x, hx, e⟩ := List.any_eq_true.mp q
  exact h (List.mem_map.mpr ⟨x, hx, of_decide_eq_true e⟩)
theorem mergeK_new : ∀ {more kvs : List (Key × V)}, (kvs.map (·.1) ++ more.map (·.1)).Nodup → mergeK kvs more = kvs ++ more
  | [], kvs, _ => by simp [mergeK]
  | (k, v) :: more, kvs, h => by
    have h0 := List.nodup_append.mp h
    have hk : k ∉ kvs.map (·.1) := fun q => h0.2.2 k q k List.mem_cons_self rfl
    show mergeK (putK kvs k v) more = _
    rw [putK_new hk, mergeK_new (by rw [List.map_append, List.append_assoc]; exact h), List.append_assoc]
    rfl
theorem se_dsp {kf : List (Str × Nat)} {kvs : List (Key × V)} {ks : List (Option Expr)} {vs : List Expr} {trs : List (TE × TE)} (h : DspOk X G.fa kf kvs ks vs trs) (nd : (kf.map (·.1)).Nodup) (h0 : kf ≠ []) (h15 : kf.length ≤ 15) :
    PE X (.Dict ks vs pos) (tE G b W fun _ => M.ret (.dct (kf.map fun q => .str q.1) (kf.map fun q => .fn q.2))) := by
  obtain ⟨h1, h2, h3, h4, h5⟩ := h.kd
  have n0 : ks ≠ [] := fun e => by
    rw [e] at h5
    exact h0 (List.length_eq_zero_iff.mp h5.symm)
  have lk : kvs.length = kf.length := by
    have := congrArg List.length h2
    simpa using this
  have ndk : (kvs.map (·.1)).Nodup := by
    rw [h2]
    have : (kf.map fun q => (Sum.inr q.1 : Key)) = (kf.map (·.1)).map Sum.inr := by rw [List.map_map]; rfl
    rw [this]
    exact List.Pairwise.map _ (fun a b hab e => hab (by injection e)) nd
  refine ofE (pe_disp h.pps h3 h4 n0 (by omega)) fun σ H Q q => ?_
  obtain ⟨ρ, m, st, er, S, q⟩ := q
  intro p hp
  refine h.tp σ _ _ ⟨upd_same, kvs, rfl, by omega, ?_⟩
  rw [mergeK_new (kvs := []) (by simpa using ndk), upd_upd, List.nil_append]
  obtain ⟨S', E', F⟩ := S.new (b := b) hp (.dK kvs) (by intro ps; simp)
  exact q _ _ S' E' _ (.dct upd_same F h1)
/-- the def at a text -/
theorem KD.look {fa : Nat → Addr → Prop} {kvs : List (Key × V)} {ks vs : List D} (h : KD fa kvs ks vs) {s : Str} {f : Nat} (q : dctF.lookF s ks vs = some f) : ∃ a, valV kvs (Sum.inr s) = some (V.ref a) ∧ fa f a := by
  induction h with
  | nil => simp [dctF.lookF] at q
  | @cons k g a kvs ks vs h r ih =>
    unfold dctF.lookF at q
    by_cases e : k = s
    · rw [if_pos e] at q
      cases q
      exact ⟨a, valV_pos (by rw [e]), h⟩
    · rw [if_neg e] at q
      obtain ⟨a', h1, h2⟩ := ih q
      exact ⟨a', by rw [valV_neg (fun z => e (by injection z))]; exact h1, h2⟩
end
section
variable {X : Cx} {fa : Nat → Addr → Prop} {ec : Ecl} {ex : List Addr} {b k i : Nat} {gq : Bool} {W : WX} {call : Nat → List D → M D} {fs : Ev.Env → M (List D)} {fsel : Ev.Env → M D} {es : List Expr} {p p1 p3 pos : Pos} {x : Str} {sx e : Expr}
theorem arm_callSub (a c : Expr) (q : Pos) (args : List Expr) (pos : Pos) (env : PySem.Env) : eval (.Call (.Subscript a c q) args [] pos) env = (do
    callWith pos (← eval (.Subscript a c q) env) [] (backTo pos (starEach args env)) (backToKw pos (keywordEach [] env))) := rfl
theorem se_calld (C : ∀ f a, fa f a → ∃ F, CallG X.prog X.w X.K X.mg X.base fa ec gq call k f F) (hr : Room k X.A) (hg : gq = true → X.A.guards = some []) (tk : Takes X W) (hN : X.N[i]? = some x) (hv : Vis X.env.scope x) (hdb : (x == ("__debug__" : Str)) = false) (hcd : (x == ("__classdict__" : Str)) = false)
    (hsel : PE X sx (tE ⟨X.K, fa, ec, ex⟩ b W fsel)) (hix : PlainIx sx) (ha : PA X (e :: es) (tEs ⟨X.K, fa, ec, ex⟩ b W fs)) (hst : starEach (e :: es) X.env = (false, eval e X.env) :: starEach es X.env) (hst2 : (backTo pos (starEach es X.env)).any (·.1) = false) :
    PE X (.Call (.Subscript (.Name x p1) sx p3) (e :: es) [] pos) (tE ⟨X.K, fa, ec, ex⟩ b W fun ρ => M.thn (getE ρ i) fun u => M.thn (fsel ρ) fun y => M.thn (M.ofO (dctF u y)) fun f => M.thn (fs ρ) fun xs => call f xs) := by
  refine ⟨fun pins s σ H Q I h => ?_⟩
  obtain ⟨ρ, m, st, er, S, h⟩ := h
  rw [arm_callSub]
  refine wpAny_bind (thn ((pe_dget (pos := p3) (by have := hr.un; omega) (se_var (pos := p1) (G := ⟨X.K, fa, ec, ex⟩) (b := b) (W := W) hN hv hdb hcd) hsel hix).run pins s σ H (fun v H2 => ∃ a f m2 st2, v = .ref a ∧ fa f a ∧ Sim ⟨X.K, fa, ec, ex⟩ H2 m2 st2 ∧ EnvR ⟨X.K, fa, ec, ex⟩ H2 m2 st2 σ ρ ∧ Ext ⟨X.K, fa, ec, ex⟩ b H m st H2 m2 st2 ∧
      After ⟨X.K, fa, ec, ex⟩ b H2 m2 st2 (We ⟨X.K, fa, ec, ex⟩ W σ) (fun H' m' st' d => ∀ v, Rp ⟨X.K, fa, ec, ex⟩ H' m' (Lv ⟨X.K, fa, ec, ex⟩ m' st') v d → Q v H') (M.thn (fs ρ) (fun xs => call f xs) st2)) I ?_) fun fv s1 ⟨v, H1, I1, r1, q1⟩ => ?_)
  · refine (tE.go er S h).mono fun u H1 q => ?_
    obtain ⟨m1, st1, du, S1, E1, ru, h1⟩ := q
    refine (tE.go (er.ext E1) S1 h1).mono fun y H2 q => ?_
    obtain ⟨m2, st2, dy, S2, E2, ry, h2⟩ := q
    replace h2 : After ⟨X.K, fa, ec, ex⟩ b H2 m2 st2 (We ⟨X.K, fa, ec, ex⟩ W σ) _ (M.thn (M.ofO (dctF du dy)) (fun f => M.thn (fs ρ) fun xs => call f xs) st2) := h2
    cases hf : dctF du dy with
    | none => rw [hf] at h2; exact h2.elim
    | some f =>
      rw [hf] at h2
      have ru2 := ru.ext E2
      cases du with
      | dct ks vs =>
        cases dy with
        | str z =>
          cases ru2 with
          | dct e1 f1 k1 =>
            cases ry
            obtain ⟨a, h3, h4⟩ := k1.look hf
            have g := DGet.k (k := .inr z) e1
            rw [h3] at g
            exact ⟨_, _, rfl, g, a, f, m2, st2, rfl, h4, S2, (er.ext E1).ext E2, E1.trans (E1.length S S1) E2, h2⟩
        | _ => cases hf
      | _ => cases hf
  · obtain ⟨a, f, m2, st2, rfl, hfa, S2, er2, E2, h2⟩ := q1
    obtain rfl : fv = Value.ref a := r1
    obtain ⟨F, CF⟩ := C f a hfa
    obtain ⟨a', fd, z1, z2, z3, z4, run⟩ := CF.there
    obtain rfl := CF.uniq a a' hfa z2
    refine PySem.W.callWith_K (h₀ := X.base) I.ok.mod.kin z3 (thn (ha.run pos pins s1 σ H1 _ I1 (tEs.go er2 S2 h2)) fun us s2 hh => ?_) hst hst2
    obtain ⟨vs, H3, I3, r, m3, st3, ds, S3, E3, rp, h5⟩ := hh
    exact ⟨I3.kIn, run_call run z4 CF.len hr hg tk I3 r S3 rp h5⟩
theorem se_callv (C : ∀ f a, fa f a → ∃ F, CallG X.prog X.w X.K X.mg X.base fa ec gq call k f F) (hr : Room k X.A) (hg : gq = true → X.A.guards = some []) (tk : Takes X W) (hN : X.N[i]? = some x) (hv : Vis X.env.scope x) (hdb : (x == ("__debug__" : Str)) = false) (hcd : (x == ("__classdict__" : Str)) = false)
    (ha : PA X (e :: es) (tEs ⟨X.K, fa, ec, ex⟩ b W fs)) (hst : starEach (e :: es) X.env = (false, eval e X.env) :: starEach es X.env) (hst2 : (backTo pos (starEach es X.env)).any (·.1) = false) :
    PE X (.Call (.Name x p1) (e :: es) [] pos) (tE ⟨X.K, fa, ec, ex⟩ b W fun ρ => M.thn (getE ρ i) fun u => match u with
      | .fn f => M.thn (fs ρ) fun xs => call f xs
      | _ => M.bad) := by
  refine ⟨fun pins s σ H Q I h => ?_⟩
  obtain ⟨ρ, m, st, er, S, h⟩ := h
  refine wpAny_Call_Name_kw (thn ((se_var (pos := p1) (G := ⟨X.K, fa, ec, ex⟩) (b := b) (W := W) hN hv hdb hcd).run pins s σ H (fun v H2 => ∃ a f m2 st2, v = .ref a ∧ fa f a ∧ Sim ⟨X.K, fa, ec, ex⟩ H2 m2 st2 ∧ EnvR ⟨X.K, fa, ec, ex⟩ H2 m2 st2 σ ρ ∧
      After ⟨X.K, fa, ec, ex⟩ b H2 m2 st2 (We ⟨X.K, fa, ec, ex⟩ W σ) (fun H' m' st' d => ∀ v, Rp ⟨X.K, fa, ec, ex⟩ H' m' (Lv ⟨X.K, fa, ec, ex⟩ m' st') v d → Q v H') (M.thn (fs ρ) (fun xs => call f xs) st2)) I ?_) fun fv s1 ⟨v, H1, I1, r1, q1⟩ => ?_)
  · refine (tE.go er S h).mono fun u H1 q => ?_
    obtain ⟨m1, st1, du, S1, E1, ru, h1⟩ := q
    cases du with
    | fn f =>
      cases ru with
      | fn h4 => exact ⟨_, f, m1, st1, rfl, h4, S1, er.ext E1, h1⟩
    | _ => exact h1.elim
  · obtain ⟨a, f, m2, st2, rfl, hfa, S2, er2, h2⟩ := q1
    obtain rfl : fv = Value.ref a := r1
    obtain ⟨F, CF⟩ := C f a hfa
    obtain ⟨a', fd, z1, z2, z3, z4, run⟩ := CF.there
    obtain rfl := CF.uniq a a' hfa z2
    refine PySem.W.callWith_K (h₀ := X.base) I.ok.mod.kin z3 (thn (ha.run pos pins s1 σ H1 _ I1 (tEs.go er2 S2 h2)) fun us s2 hh => ?_) hst hst2
    obtain ⟨vs, H3, I3, r, m3, st3, ds, S3, E3, rp, h5⟩ := hh
    exact ⟨I3.kIn, run_call run z4 CF.len hr hg tk I3 r S3 rp h5⟩
end
end Ev
set_option linter.all false
set_option maxRecDepth 100000
/-! Ev14: a text is the small language's: by a Bool. -/
namespace Ev
open PySem PySem.Spec PyProof.Rows L2

mutual
def D.beq : D → D → Bool
  | .non, .non => true
  | .bl a, .bl b => a == b
  | .int a, .int b => decide (a = b)
  | .str a, .str b => decide (a = b)
  | .tup a, .tup b => D.beqs a b
  | _, _ => false
def D.beqs : List D → List D → Bool
  | [], [] => true
  | a :: as, b :: bs => D.beq a b && D.beqs as bs
  | _, _ => false
end
mutual
theorem D.beq_eq : ∀ {a b : D}, D.beq a b = true → a = b
  | .non, b, h => by cases b <;> first | rfl | (simp [D.beq] at h)
  | .bl a, b, h => by cases b <;> first | (simp [D.beq] at h; rw [h]) | (simp [D.beq] at h)
  | .int a, b, h => by cases b <;> first | (simp [D.beq] at h; rw [h]) | (simp [D.beq] at h)
  | .str a, b, h => by cases b <;> first | (simp [D.beq] at h; rw [h]) | (simp [D.beq] at h)
  | .tup a, b, h => by
    cases b with
    | tup b => rw [D.beqs_eq (show D.beqs a b = true by simpa [D.beq] using h)]
    | _ => simp [D.beq] at h
  | .lst a, b, h => by cases b <;> simp [D.beq] at h
  | .dct a c, b, h => by cases b <;> simp [D.beq] at h
  | .ref a, b, h => by cases b <;> simp [D.beq] at h
  | .fn a, b, h => by cases b <;> simp [D.beq] at h
theorem D.beqs_eq : ∀ {a b : List D}, D.beqs a b = true → a = b
  | [], [], _ => rfl
  | [], _ :: _, h => by simp [D.beqs] at h
  | _ :: _, [], h => by simp [D.beqs] at h
  | a :: as, b :: bs, h => by
    have h' : D.beq a b = true ∧ D.beqs as bs = true := by simpa [D.beqs] using h
    rw [D.beq_eq h'.1, D.beqs_eq h'.2]
end

/-- a def that tells by constants which error its argument raises -/
structure WFn where
  name : Str
  par : Str
  hs : List (Nat × D)
  d : D
def hsB : List (Nat × D) → List (Nat × D) → Bool
  | [], [] => true
  | a :: as, b :: bs => decide (a.1 = b.1) && D.beq a.2 b.2 && hsB as bs
  | _, _ => false
theorem hsB_eq : ∀ {as bs : List (Nat × D)}, hsB as bs = true → as = bs
  | [], [], _ => rfl
  | [], _ :: _, h => by simp [hsB] at h
  | _ :: _, [], h => by simp [hsB] at h
  | (a, x) :: as, (b, y) :: bs, h => by
    have h' : (a = b ∧ D.beq x y = true) ∧ hsB as bs = true := by simpa [hsB] using h
    rw [h'.1.1, D.beq_eq h'.1.2, hsB_eq h'.2]
/-- what the whole text knows -/
structure Tab where
  P : Prog
  consts : List (Str × D)
  excs : List (Str × Nat)
  bl : List Str
  rp : Bool
  exm : List (Nat × Nat × Bool)
  words : List WFn
  lams : List Str
/-- which error class is under which -/
def Tab.exmF (T : Tab) (c k : Nat) : Option Bool := (T.exm.find? fun q => decide (q.1 = c) && decide (q.2.1 = k)).map fun q => q.2.2
/-- where we stand -/
structure Scp where
  N : List Str
  sc : Scope
  st : List Str
  lam : Bool
def kOf (S : Scp) (x : Str) : Option NameKind := S.sc.names.lookup x
def visB (S : Scp) (x : Str) : Bool := match kOf S x with
  | some .local => true
  | some .cell => true
  | some .free => true
  | _ => false
def glB (S : Scp) (x : Str) : Bool := match kOf S x with
  | some .globalImplicit => true
  | _ => false
def locB (S : Scp) (x : Str) : Bool := match kOf S x with
  | some .local => true
  | _ => false
def cellKB (S : Scp) (x : Str) : Bool := match kOf S x with
  | some .cell => true
  | _ => false
def okN (x : Str) : Bool := !(x == ("__debug__" : Str)) && !(x == ("__classdict__" : Str))
def constB : Const → D → Bool
  | .none, .non => true
  | .bool b, .bl c => b == c
  | .int i, .int j => decide (i = j)
  | .str s, .str t => decide (s = t)
  | _, _ => false
def notStar : Expr → Bool
  | .Starred _ _ => false
  | _ => true
def notSlice : Expr → Bool
  | .Slice _ _ _ _ => false
  | _ => true
def notSet : Expr → Bool
  | .Set _ _ _ => false
  | _ => true
def notComp : Expr → Bool
  | .ListComp _ _ _ _ => false
  | .SetComp _ _ _ _ => false
  | .DictComp _ _ _ _ _ => false
  | _ => true
def notTuple : Expr → Bool
  | .Tuple _ _ _ => false
  | _ => true
def isTuple : Expr → Bool
  | .Tuple _ _ _ => true
  | _ => false
def isName : Expr → Bool
  | .Name _ _ => true
  | _ => false
/-- a truth taken of the value -/
def valT : Expr → Bool
  | .ListComp _ _ _ _ => true
  | .Name _ _ => true
  | .Call _ _ _ _ => true
  | .List _ _ => true
  | .BinOp _ _ _ _ => true
  | _ => false
def tailB (op : BoolOp) (y : Expr) (zs : List Expr) (p : Pos) : Expr := match zs with
  | [] => y
  | z :: zs => .BoolOp op (y :: z :: zs) p
def relab (scope sc : Scope) : Scope := relS scope sc
def blkS (S : Scp) (scope : Scope) : Scp := ⟨S.N, relS scope S.sc, (scope.names.filter fun y => match y.2 with
  | .local => true
  | .cell => true
  | _ => false).map (·.1), S.lam⟩
/-- no parameters -/
def noPar : Arguments → Bool
  | ⟨[], [], none, [], [], none, []⟩ => true
  | _ => false
def wordB (T : Tab) (x : Str) (hs : List (Nat × D)) (d : D) : Bool := T.words.any fun w => decide (w.name = x) && hsB w.hs hs && D.beq w.d d
def ownS (N : List Str) (own : List Nat) : List (Str × Nat) := own.map fun i => ((N[i]?).getD ⟨#[]⟩, i)
def conB (T : Tab) (x : Str) (d : D) : Bool := T.consts.any fun p => decide (p.1 = x) && D.beq p.2 d
def chkTg (S : Scp) : Tg → Expr → Bool
  | .name i, x₀ => (match x₀ with
    | .Name x _ => decide (S.N[i]? = some x) && decide (x ∈ S.st)
    | _ => false)
  | .two a b, x₀ => (match x₀ with
    | .Tuple [x, y] _ _ => notStar x && notStar y && chkTg S a x && chkTg S b y
    | _ => false)
  | .three a b c, x₀ => (match x₀ with
    | .Tuple [x, y, z] _ _ => notStar x && notStar y && notStar z && chkTg S a x && chkTg S b y && chkTg S c z
    | _ => false)
  | .four a b c d, x₀ => (match x₀ with
    | .Tuple [x, y, z, u] _ _ => notStar x && notStar y && notStar z && notStar u && chkTg S a x && chkTg S b y && chkTg S c z && chkTg S d u
    | _ => false)
  | .five a b c d e, x₀ => (match x₀ with
    | .Tuple [x, y, z, u, w] _ _ => notStar x && notStar y && notStar z && notStar u && notStar w && chkTg S a x && chkTg S b y && chkTg S c z && chkTg S d u && chkTg S e w
    | _ => false)
def bltB (T : Tab) (S : Scp) (n : Str) : Bool := glB S n && decide (n ∈ T.bl)
/-- repr asks more of the caller -/
def reprB (T : Tab) : Blt → Bool
  | .repr => T.rp
  | _ => true
/-- the name of a lambda's parameter -/
def lamN : Arguments → Str
  | ⟨_, [⟨m, _, _⟩], _, _, _, _, _⟩ => m
  | _ => ⟨#[]⟩
/-- the def of a number bears this name -/
def fnB (T : Tab) (S : Scp) (f : Nat) (n : Str) : Bool := (match T.P.find f with
    | some F => decide (F.name = n)
    | none => false) && glB S n && okN n
def chkDsp (T : Tab) (S : Scp) : List (Str × Nat) → List (Option Expr) → List Expr → Bool
  | [], [], [] => true
  | (s, f) :: kf, some (.Constant (.str z) _ _) :: ks, .Name n _ :: vs => decide (z = s) && fnB T S f n && chkDsp T S kf ks vs
  | _, _, _ => false
mutual
def chkE (T : Tab) (S : Scp) : E → Expr → Bool
  | .var i, x₀ => (match x₀ with
    | .Name x _ => decide (S.N[i]? = some x) && visB S x && okN x
    | _ => false)
  | .const d, x₀ => (match x₀ with
    | .Constant c _ _ => constB c d
    | _ => false)
  | .gc y d, x₀ => (match x₀ with
    | .Name x _ => decide (x = y) && glB S x && okN x && conB T x d
    | _ => false)
  | .tup es, x₀ => (match x₀ with
    | .Tuple xs _ _ => chkEs T S es xs
    | _ => false)
  | .bin op a b, x₀ => (match x₀ with
    | .BinOp x op' y _ => decide (op = op') && chkE T S a x && chkE T S b y
    | _ => false)
  | .neg a, x₀ => (match x₀ with
    | .UnaryOp .USub x _ => chkE T S a x
    | _ => false)
  | .not a, x₀ => (match x₀ with
    | .UnaryOp .Not x _ => chkE T S a x
    | _ => false)
  | .and a b, x₀ => (match x₀ with
    | .BoolOp .And (x :: y :: zs) p => chkE T S a x && chkE T S b (tailB .And y zs p)
    | _ => false)
  | .or a b, x₀ => (match x₀ with
    | .BoolOp .Or (x :: y :: zs) p => chkE T S a x && chkE T S b (tailB .Or y zs p)
    | _ => false)
  | .ite c a b, x₀ => (match x₀ with
    | .IfExp t x y _ => chkE T S c t && chkE T S a x && chkE T S b y
    | _ => false)
  | .cmp op a b, x₀ => (match x₀ with
    | .Compare x [op'] [y] _ => decide (op = op') && !behindInMarks op y && chkE T S a x && chkE T S b y
    | _ => false)
  | .cmp2 op op2 a b c, x₀ => (match x₀ with
    | .Compare x [o1, o2] [y, z] _ => decide (op = o1) && decide (op2 = o2) && !lastMarks [op, op2] [y, z] && chkE T S a x && chkE T S b y && chkE T S c z
    | _ => false)
  | .idx a b, x₀ => (match x₀ with
    | .Subscript x y _ => notSlice y && chkE T S a x && chkE T S b y
    | _ => false)
  | .slc a lo hi, x₀ => (match x₀ with
    | .Subscript x (.Slice l h none _) _ => chkE T S a x && chkO T S lo l && chkO T S hi h
    | _ => false)
  | .call f es, x₀ => (match x₀ with
    | .Call (.Name n _) xs [] _ => (match T.P.find f with
    | some F => decide (F.name = n)
    | none => false) && glB S n && okN n && chkEs T S es xs
    | _ => false)
  | .blt b a, x₀ => (match x₀ with
    | .Call (.Name n _) xs [] _ => decide (n = bltN b) && reprB T b && bltB T S n && (match xs with
    | [x] => decide (bltMore b = []) && notStar x && chkE T S a x
    | [x, .Name ty _] => (match b with
      | .isi t => decide (t ≠ .none) && decide (ty = Str.ofString t.name) && bltB T S ty && notStar x && chkE T S a x
      | _ => false)
    | _ => false)
    | _ => false)
  | .new n, x => chkN T S n x
  | .newm n, x => chkN T S n x
  | .frz a, x => valT x && chkE T S a x
  | .pop a, x₀ => (match x₀ with
    | .Call (.Attribute ox n apos) [] [] cpos => decide (n = ("pop" : Str)) && isName ox && (apos.endLine == cpos.line) && chkE T S a ox
    | _ => false)
  | .word x hs d e, x₀ => (match x₀ with
    | .Call (.Name n _) [.Lambda params body scope _] [] _ => decide (n = x) && glB S n && okN n && S.lam && noPar params && LamX.lamSB S.sc scope && wordB T x hs d && chkE T ⟨S.N, scope, [], false⟩ e body
    | _ => false)
  | .srt a, x₀ => (match x₀ with
    | .Call (.Name n _) [.Call (.Name n2 _) [x] [] _] [] _ => decide (n = ("sorted" : Str)) && bltB T S n && decide (n2 = ("set" : Str)) && bltB T S n2 && notStar x && chkE T S a x
    | _ => false)
  | .srtk a i, x₀ => (match x₀ with
    | .Call (.Name n _) [x] [⟨some kn, .Lambda params body scope _, _⟩] _ => decide (n = ("sorted" : Str)) && decide (kn = ("key" : Str)) && bltB T S n && S.lam && notStar x && keyLam (lamN params) i params body scope && chkE T S a x
    | _ => false)
  | .srti a, x₀ => (match x₀ with
    | .Call (.Name n _) [x] [] _ => decide (n = ("sorted" : Str)) && bltB T S n && notStar x && chkE T S a x
    | _ => false)
  | .srtp a, x₀ => (match x₀ with
    | .Call (.Name n _) [x] [] _ => decide (n = ("sorted" : Str)) && bltB T S n && notStar x && chkE T S a x
    | _ => false)
  | .gf f, x₀ => (match x₀ with
    | .Name n _ => fnB T S f n
    | _ => false)
  | .dsp kf, x₀ => (match x₀ with
    | .Dict ks vs _ => chkDsp T S kf ks vs && decide ((kf.map (·.1)).Nodup) && decide (kf ≠ []) && decide (kf.length ≤ 15)
    | _ => false)
  | .calld i sel es, x₀ => (match x₀ with
    | .Call (.Subscript (.Name n _) sx _) xs [] _ => decide (S.N[i]? = some n) && visB S n && okN n && notSlice sx && chkE T S sel sx && !xs.isEmpty && chkEs T S es xs
    | _ => false)
  | .callv i es, x₀ => (match x₀ with
    | .Call (.Name n _) xs [] _ => decide (S.N[i]? = some n) && visB S n && okN n && !xs.isEmpty && chkEs T S es xs
    | _ => false)
  | .mm mx a b, x₀ => (match x₀ with
    | .Call (.Name n _) [x, y] [] _ => decide (n = mmN mx) && bltB T S n && notStar x && notStar y && chkE T S a x && chkE T S b y
    | _ => false)
  | .rev a, x₀ => (match x₀ with
    | .Subscript x (.Slice none none (some (.UnaryOp .USub (.Constant (.int 1) 0 _) _)) _) _ => chkE T S a x
    | _ => false)
def chkO (T : Tab) (S : Scp) : O → Option Expr → Bool
  | .no, x₀ => (match x₀ with
    | none => true
    | _ => false)
  | .is e, x₀ => (match x₀ with
    | some x => chkE T S e x
    | _ => false)
def chkC (T : Tab) (S : Scp) : O → List Expr → Bool
  | .no, x₀ => (match x₀ with
    | [] => true
    | _ => false)
  | .is e, x₀ => (match x₀ with
    | [x] => chkE T S e x
    | _ => false)
def chkEs (T : Tab) (S : Scp) : Es → List Expr → Bool
  | .nil, x₀ => (match x₀ with
    | [] => true
    | _ => false)
  | .cons e es, x₀ => (match x₀ with
    | x :: xs => notStar x && chkE T S e x && chkEs T S es xs
    | _ => false)
def chkN (T : Tab) (S : Scp) : N → Expr → Bool
  | .lst es, x₀ => (match x₀ with
    | .List xs _ => chkEs T S es xs
    | _ => false)
  | .comp own elt tg it c, x₀ => (match x₀ with
    | .ListComp el [⟨tx, ix, ifs, a⟩] scope _ => decide (a = 0) && blkC S.N S.sc scope (ownS S.N own) && (tg.vars.all fun i => decide (i ∈ own)) && notSet ix && chkIt T S it tx ix && chkTg (blkS S scope) tg tx && chkC T (blkS S scope) c ifs && chkE T (blkS S scope) elt el
    | _ => false)
  | .comp2 own own1 elt tg it c tg1 it1 c1, x₀ => (match x₀ with
    | .ListComp el [⟨tx, ix, ifs, a⟩, ⟨tx1, ix1, ifs1, a1⟩] scope _ => decide (a = 0) && decide (a1 = 0) && blkC S.N S.sc scope (ownS S.N own) && (tg.vars.all fun i => decide (i ∈ own)) && (tg1.vars.all fun i => decide (i ∈ own1)) && (own1.all fun i => decide (i ∈ own)) &&
      notSet ix && notSet ix1 && chkIt T S it tx ix && chkTg (blkS S scope) tg tx && chkC T (blkS S scope) c ifs && chkIt T (blkS S scope) it1 tx1 ix1 && chkTg (blkS S scope) tg1 tx1 && chkC T (blkS S scope) c1 ifs1 && chkE T (blkS S scope) elt el
    | _ => false)
  | .listOf a, x₀ => (match x₀ with
    | .Call (.Name n _) [x] [] _ => decide (n = ("list" : Str)) && bltB T S n && notStar x && chkE T S a x
    | _ => false)
  | .rep n k, x₀ => (match x₀ with
    | .BinOp x .Mult y _ => chkN T S n x && chkE T S k y
    | _ => false)
  | .cat a b, x₀ => (match x₀ with
    | .BinOp x .Add y _ => chkE T S a x && chkE T S b y
    | _ => false)
def chkIt (T : Tab) (S : Scp) : It → Expr → Expr → Bool
  | .val a, _, x => chkE T S a x
  | .rng1 a, _, x₀ => (match x₀ with
    | .Call (.Name n _) [x] [] _ => decide (n = ("range" : Str)) && bltB T S n && notStar x && chkE T S a x
    | _ => false)
  | .rng2 a b, _, x₀ => (match x₀ with
    | .Call (.Name n _) [x, y] [] _ => decide (n = ("range" : Str)) && bltB T S n && notStar x && notStar y && chkE T S a x && chkE T S b y
    | _ => false)
  | .enum a, t, x₀ => (match x₀ with
    | .Call (.Name n _) [x] [] _ => isTuple t && decide (n = ("enumerate" : Str)) && bltB T S n && notStar x && chkE T S a x
    | _ => false)
  | .zip a b, t, x₀ => (match x₀ with
    | .Call (.Name n _) [x, y] [] _ => isTuple t && decide (n = ("zip" : Str)) && bltB T S n && notStar x && notStar y && chkE T S a x && chkE T S b y
    | _ => false)
end
/-- the names that a pair of stores goes to -/
def parB (S : Scp) (x y : Str) (px py pos : Pos) (a b : Expr) : Bool :=
  locB S x && locB S y && decide (px.line = py.line) && !(x == y) && !(([a, b] : List Expr).all (foldedForSure 8)) && !(([a, b] : List Expr).all (constantsAlone 8))
def parB3 (S : Scp) (x y z : Str) (px py pz pos : Pos) (a b c : Expr) : Bool :=
  locB S x && locB S y && locB S z && decide (px.line = py.line) && decide (px.line = pz.line) && !(x == y) && !(x == z) && !(y == z) && !(([a, b, c] : List Expr).all (foldedForSure 8)) && !(([a, b, c] : List Expr).all (constantsAlone 8))
/-- name = a comprehension, on one line, the name a local that is not the block's -/
def lcB (S : Scp) (x : Str) (p : Pos) (scope : Scope) (p2 : Pos) : Bool := locB S x && (p.line == p2.line) && !(scope.names.any fun (n, k) => n == x && (k == .local || k == .cell))
/-- some name of the pair is no local: the pair is a tuple then -/
def anyCell (S : Scp) (tx v : Expr) : Bool := match tx, v with
  | .Tuple ts _ _, .Tuple _ _ _ => ts.any fun x => match x with
    | .Name n _ => !locB S n
    | _ => true
  | _, _ => false
def isNew : E → Bool
  | .new _ => true
  | .newm _ => true
  | _ => false
def isCompN : N → Bool
  | .comp _ _ _ _ _ => true
  | .comp2 _ _ _ _ _ _ _ _ _ => true
  | _ => false
/-- a chain of isinstance -/
def chkCh (T : Tab) (S : Scp) (x : Str) : List (Nat × D) → D → Expr → Bool
  | [], d, x₀ => (match x₀ with
    | .Constant c _ _ => constC c d
    | _ => false)
  | (n, d1) :: r, d, x₀ => (match x₀ with
    | .IfExp (.Call (.Name i _) [.Name v _, .Name cn _] [] _) (.Constant c _ _) y _ => decide (i = ("isinstance" : Str)) && bltB T S i && decide (v = x) && glB S cn && okN cn && decide ((cn, n) ∈ T.excs) && constC c d1 && chkCh T S x r d y
    | _ => false)
def isFreeze : Ev.S → Bool
  | .freeze _ => true
  | _ => false
mutual
def chkS (T : Tab) (S : Scp) : Ev.S → Stmt → Bool
  | .expr e, x₀ => (match x₀ with
    | .Expr x _ => notComp x && chkE T S e x
    | _ => false)
  | .asg t e, x₀ => (match t with
    | .name i => (match x₀ with
      | .Assign [.Name x p] v _ => decide (S.N[i]? = some x) && decide (x ∈ S.st) && chkE T S e v && (match v with
        | .ListComp _ _ scope p2 => isNew e && (lcB S x p scope p2 || cellKB S x)
        | v => notComp v)
      | _ => false)
    | .tg t => (match x₀ with
      | .Assign [tx] v _ => isTuple tx && (notTuple v || anyCell S tx v) && notComp v && chkTg S t tx && chkE T S e v
      | _ => false)
    | .idx o i => (match x₀ with
      | .Assign [.Subscript ox ix _] v _ => notSlice ix && notComp v && chkE T S o ox && chkE T S i ix && chkE T S e v
      | _ => false))
  | .par ts es, x₀ => (match ts with
    | [i, j] => (match x₀ with
      | .Assign [.Tuple [.Name x px, .Name y py] _ _] (.Tuple [a, b] _ _) pos => decide (S.N[i]? = some x) && decide (S.N[j]? = some y) && decide (i ≠ j) && parB S x y px py pos a b && notStar a && notStar b && chkEs T S es [a, b]
      | _ => false)
    | [i, j, l] => (match x₀ with
      | .Assign [.Tuple [.Name x px, .Name y py, .Name z pz] _ _] (.Tuple [a, b, c] _ _) pos => decide (S.N[i]? = some x) && decide (S.N[j]? = some y) && decide (S.N[l]? = some z) && decide (i ≠ j) && decide (i ≠ l) && decide (j ≠ l) && parB3 S x y z px py pz pos a b c && notStar a && notStar b && notStar c && chkEs T S es [a, b, c]
      | _ => false)
    | _ => false)
  | .augn op i e, x₀ => (match x₀ with
    | .AugAssign (.Name x _) op' v _ => decide (op = op') && (decide (op = .Add) || decide (op = .Sub)) && decide (S.N[i]? = some x) && decide (x ∈ S.st) && chkE T S e v
    | _ => false)
  | .app o e, x₀ => (match x₀ with
    | .Expr (.Call (.Attribute ox n apos) [x] [] cpos) _ => decide (n = ("append" : Str)) && isName ox && (apos.endLine == cpos.line) && notStar x && chkE T S o ox && chkE T S e x
    | _ => false)
  | .ret e, x₀ => (match x₀ with
    | .Return (some x) _ => chkE T S e x
    | _ => false)
  | .retN, x₀ => (match x₀ with
    | .Return none _ => true
    | _ => false)
  | .pass, x₀ => (match x₀ with
    | .Pass _ => true
    | _ => false)
  | .brk, x₀ => (match x₀ with
    | .Break _ => true
    | _ => false)
  | .iff c a b, x₀ => (match x₀ with
    | .If x xs ys _ => chkE T S c x && chkSs T S a xs && chkSs T S b ys
    | _ => false)
  | .for t it b, x₀ => (match x₀ with
    | .For tx ix xs [] _ => notSet ix && chkTg S t tx && chkIt T S it tx ix && chkSs T S b xs
    | _ => false)
  | .whl c b, x₀ => (match x₀ with
    | .While x xs [] _ => chkE T S c x && chkSs T S b xs
    | _ => false)
  | .raise c m, x₀ => (match x₀ with
    | .Raise (some (.Call (.Name n _) [.Constant (.str msg) _ _] [] _)) none _ => decide ((n, c) ∈ T.excs) && glB S n && okN n
    | _ => false)
  | .freeze _, _ => false
  | .augl i e, x₀ => (match x₀ with
    | .AugAssign (.Name x _) .Add v _ => decide (S.N[i]? = some x) && decide (x ∈ S.st) && chkE T S e v
    | _ => false)
  | .tryA i b hall cs d, x₀ => (match x₀ with
    | .Try xs [.ExceptHandler (some (.Name hn _)) (some x) [.Return (some e) _] _] [] [] _ => decide (S.N[i]? = some x) && locB S x && okN x && glB S hn && okN hn && decide ((hn, hall) ∈ T.excs) && chkCh T S x cs d e && chkSs T S b xs
    | _ => false)
def chkSs (T : Tab) (S : Scp) : Ss → List Stmt → Bool
  | .nil, xs => xs.isEmpty
  | .cons s ss, xs => (isFreeze s && chkSs T S ss xs) || (match xs with
    | x :: xs => chkS T S s x && chkSs T S ss xs
    | [] => false)
end
end Ev
set_option linter.all false
set_option maxRecDepth 100000
set_option maxHeartbeats 2000000
/-! Ev15: what is checked runs so: expressions. -/
namespace Ev
open PySem PySem.Spec PyProof.Rows L2

/-- a word's def, as it stands -/
structure WordG (K : PySem.W.Frag) (mg : Str → Option Value) (ec : Ecl) (w : WFn) : Prop where
  there : ∃ (g : Addr) (fd : FuncData) (pg : Arguments) (sg : Scope) (h₀ : ExceptHandler) (hds : List ExceptHandler) (c0 : Const) (j : Nat) (q1 q2 q3 q4 q5 q6 : Pos),
    mg w.name = some (.ref g) ∧ FunD K w.name w.name pg [.Try [.Expr (.Call (.Name w.par q1) [] [] q2) q3] (h₀ :: hds) [] [] q4, .Return (some (.Constant c0 j q5)) q6] sg [] [] g fd ∧ Binds K fd [w.par] [] ∧
    FnScope [w.par] [w.par] sg ∧ Vis sg w.par ∧ Clauses sg mg ec (h₀ :: hds) w.hs ∧ constC c0 w.d = true ∧ okN w.par = true
/-- what a place in the text may lean on -/
structure XOk (T : Tab) (S : Scp) (X : Cx) (fa : Nat → Addr → Prop) (ec : Ecl) (b : Nat) (W : WX) (C : Cfg) : Prop where
  calm : X.calm = true
  hu : X.A.units + 66 < cLine
  hg : T.rp = true → X.A.guards = some []
  nd : X.N.Nodup
  hN : X.N = S.N
  sc : X.env.scope = S.sc
  st : ∀ x ∈ S.st, Loc X.env.scope x ∧ (X.fn x = true ∨ X.env.scope.names.lookup x = some .local)
  tk : Takes X W
  call : ∃ k, Room (k + (if S.lam then 2 else 0)) X.A ∧ ∀ f F, T.P.find f = some F → CallG X.prog X.w X.K X.mg X.base fa ec T.rp C.call k f F
  blt : ∀ x ∈ T.bl, X.mg x = none
  con : ∀ p ∈ T.consts, ∃ u v, X.mg p.1 = some u ∧ RelV v u ∧ ∀ ex H m L, Rp ⟨X.K, fa, ec, ex⟩ H m L v p.2
  exmE : ∀ c k r Dc Dk, C.exm c k = some r → ec c Dc → ec k Dk → PySem.W.exmOne X.K (.ref Dc) (.ref Dk) = some r
  wd : ∀ w ∈ T.words, WordG X.K X.mg ec w
  lamc : S.lam = true → ∃ c P, X.env.code = .ref c ∧ (P, X.env.qual ++ "<lambda>") ∈ ec.tb ∧ (∀ p ∈ ec.tb, p.1 = P → p.2 = X.env.qual ++ "<lambda>") ∧ LamX.TabB X.base X.mg c P
  faF : ∀ f a, fa f a → ∃ F, T.P.find f = some F
theorem and1 {a b : Bool} (h : (a && b) = true) : a = true ∧ b = true := Bool.and_eq_true_iff.mp h
theorem star_cons {e : Expr} {es : List Expr} {env : PySem.Env} (h : notStar e = true) : starEach (e :: es) env = (false, eval e env) :: starEach es env := by
  cases e <;> first | rfl | (exact absurd h (by simp [notStar]))
theorem star_one {e : Expr} {env : PySem.Env} (h : notStar e = true) : starEach [e] env = [(false, eval e env)] := star_cons h
theorem plain_ix {e : Expr} (h : notSlice e = true) : PlainIx e := by
  intro o i
  cases e <;> first | rfl | (exact absurd h (by simp [notSlice]))
theorem folded {e : Expr} (h : notSet e = true) (env : PySem.Env) (x : Value) : foldedSetIterable e env x = pure x := by
  cases e <;> first | rfl | (exact absurd h (by simp [notSet]))
theorem okN_db {x : Str} (h : okN x = true) : (x == ("__debug__" : Str)) = false := by
  have := (and1 h).1
  simpa using this
theorem okN_cd {x : Str} (h : okN x = true) : (x == ("__classdict__" : Str)) = false := by
  have := (and1 h).2
  simpa using this
section
variable {T : Tab} {S : Scp} {X : Cx} {fa : Nat → Addr → Prop} {ec : Ecl} {b : Nat} {W : WX} {C : Cfg}
theorem XOk.gl (h : XOk T S X fa ec b W C) {x : Str} (q : glB S x = true) : Gl X x := by
  unfold glB kOf at q
  show X.env.scope.names.lookup x = some .globalImplicit
  rw [h.sc]
  split at q
  · assumption
  · cases q
theorem XOk.vis (h : XOk T S X fa ec b W C) {x : Str} (q : visB S x = true) : Vis X.env.scope x := by
  unfold visB kOf at q
  rw [h.sc]
  split at q
  · exact .inl (by assumption)
  · exact .inr (.inl (by assumption))
  · exact .inr (.inr (by assumption))
  · cases q
theorem XOk.loc (h : XOk T S X fa ec b W C) {x : Str} (q : locB S x = true) : X.env.scope.names.lookup x = some .local := by
  unfold locB kOf at q
  rw [h.sc]
  split at q
  · assumption
  · cases q
theorem XOk.ix (h : XOk T S X fa ec b W C) {i : Nat} {x : Str} (q : decide (S.N[i]? = some x) = true) : X.N[i]? = some x := by
  rw [h.hN]; exact of_decide_eq_true q
theorem XOk.blk (h : XOk T S X fa ec b W C) {scope : Scope} {own : List (Str × Nat)} (ok : BlkOk X.N X.env.scope scope own) (s : Shared) (H : Hp) (Cc : Addr) (cl : List (Str × Addr)) (fp : List Addr) : XOk T (blkS S scope) (X.blk s H scope (compEnvC scope cl Cc X.env) fp) fa ec b WF C where
  calm := h.calm
  hu := h.hu
  hg := h.hg
  nd := h.nd
  hN := h.hN
  sc := by
    show relS scope X.env.scope = relS scope S.sc
    rw [h.sc]
  st := fun x hx => by
    obtain ⟨y, hy, rfl⟩ := List.mem_map.mp hx
    obtain ⟨hm, hk⟩ := List.mem_filter.mp hy
    have lk := ok.uniq y hm
    show Loc (relS scope X.env.scope) y.1 ∧ ((scope.names.lookup y.1 == some .cell) = true ∨ (relS scope X.env.scope).names.lookup y.1 = some .local)
    have kp : ∀ k, y.2 = k → k ≠ .free → (relS scope X.env.scope).names.lookup y.1 = some k := fun k e ne => lookup_relS_keep (sc := X.env.scope) ne (by rw [lk, e])
    rcases y with ⟨n, k⟩
    cases k with
    | «local» => exact ⟨.inl (kp _ rfl (by simp)), .inr (kp _ rfl (by simp))⟩
    | cell => exact ⟨.inr (kp _ rfl (by simp)), .inl (by rw [lk]; rfl)⟩
    | free => exact absurd hk (by simp)
    | globalExplicit => exact absurd hk (by simp)
    | globalImplicit => exact absurd hk (by simp)
  tk := by
    rintro u s' ⟨a, B, sI, pins, σ, H, cls, d, e, I, nb, up, sky, na, os, ag, w⟩
    exact w.elim
  call := h.call
  blt := h.blt
  con := h.con
  exmE := h.exmE
  wd := h.wd
  lamc := h.lamc
  faF := h.faF
theorem XOk.wk (h : XOk T S X fa ec b W C) : XOk T S X fa ec b W C := h
theorem own_snd (N : List Str) (own : List Nat) : (ownS N own).map (·.2) = own := by
  unfold ownS
  rw [List.map_map]
  exact List.map_id own
theorem tg_star {e : Expr} {env : PySem.Env} {es : List Expr} (h : notStar e = true) : assignEach (e :: es) env = (false, assign e env) :: assignEach es env := by
  cases e <;> first | rfl | (exact absurd h (by simp [notStar]))
theorem snd_Tg (h : XOk T S X fa ec b W C) (ex : List Addr) : ∀ (tg : Tg) (x : Expr), chkTg S tg x = true → PG X x (gS ⟨X.K, fa, ec, ex⟩ tg)
  | .name i, x, q => by
    simp only [chkTg] at q
    split at q
    · obtain ⟨q1, q2⟩ := and1 q
      obtain ⟨l1, l2⟩ := h.st _ (of_decide_eq_true q2)
      exact sg_name h.nd (h.ix q1) l1 l2
    · cases q
  | .two a c, x, q => by
    simp only [chkTg] at q
    split at q
    · obtain ⟨q, q4⟩ := and1 q
      obtain ⟨q, q3⟩ := and1 q
      obtain ⟨q1, q2⟩ := and1 q
      have e0 : assignEach [] X.env = [] := rfl
      exact sg_two rfl h.calm (snd_Tg h ex a _ q3) (snd_Tg h ex c _ q4) (by rw [tg_star q1, tg_star q2, e0]) (by rw [tg_star q2, e0])
    · cases q
  | .three a c d, x, q => by
    simp only [chkTg] at q
    split at q
    · obtain ⟨q, q6⟩ := and1 q
      obtain ⟨q, q5⟩ := and1 q
      obtain ⟨q, q4⟩ := and1 q
      obtain ⟨q, q3⟩ := and1 q
      obtain ⟨q1, q2⟩ := and1 q
      have e0 : assignEach [] X.env = [] := rfl
      exact sg_three rfl h.calm (snd_Tg h ex a _ q4) (snd_Tg h ex c _ q5) (snd_Tg h ex d _ q6) (by rw [tg_star q1, tg_star q2, tg_star q3, e0]) (by rw [tg_star q2, tg_star q3, e0]) (by rw [tg_star q3, e0])
    · cases q
  | .four a c d e, x, q => by
    simp only [chkTg] at q
    split at q
    · obtain ⟨q, q8⟩ := and1 q
      obtain ⟨q, q7⟩ := and1 q
      obtain ⟨q, q6⟩ := and1 q
      obtain ⟨q, q5⟩ := and1 q
      obtain ⟨q, q4⟩ := and1 q
      obtain ⟨q, q3⟩ := and1 q
      obtain ⟨q1, q2⟩ := and1 q
      have e0 : assignEach [] X.env = [] := rfl
      exact sg_four rfl h.calm (snd_Tg h ex a _ q5) (snd_Tg h ex c _ q6) (snd_Tg h ex d _ q7) (snd_Tg h ex e _ q8) (by rw [tg_star q1, tg_star q2, tg_star q3, tg_star q4, e0]) (by rw [tg_star q2, tg_star q3, tg_star q4, e0]) (by rw [tg_star q3, tg_star q4, e0]) (by rw [tg_star q4, e0])
    · cases q
  | .five a c d e f, x, q => by
    simp only [chkTg] at q
    split at q
    · obtain ⟨q, q10⟩ := and1 q
      obtain ⟨q, q9⟩ := and1 q
      obtain ⟨q, q8⟩ := and1 q
      obtain ⟨q, q7⟩ := and1 q
      obtain ⟨q, q6⟩ := and1 q
      obtain ⟨q, q5⟩ := and1 q
      obtain ⟨q, q4⟩ := and1 q
      obtain ⟨q, q3⟩ := and1 q
      obtain ⟨q1, q2⟩ := and1 q
      have e0 : assignEach [] X.env = [] := rfl
      exact sg_five rfl h.calm (snd_Tg h ex a _ q6) (snd_Tg h ex c _ q7) (snd_Tg h ex d _ q8) (snd_Tg h ex e _ q9) (snd_Tg h ex f _ q10) (by rw [tg_star q1, tg_star q2, tg_star q3, tg_star q4, tg_star q5, e0]) (by rw [tg_star q2, tg_star q3, tg_star q4, tg_star q5, e0]) (by rw [tg_star q3, tg_star q4, tg_star q5, e0]) (by rw [tg_star q4, tg_star q5, e0]) (by rw [tg_star q5, e0])
    · cases q
theorem const_ok {c : Const} {d : D} {k : Nat} {pos : Pos} {ex : List Addr} (h : constB c d = true) : PE X (.Constant c k pos) (tE ⟨X.K, fa, ec, ex⟩ b W fun _ => M.ret d) := by
  unfold constB at h
  split at h
  · exact se_const (t := tC .non) pe_non fun _ _ _ _ => .non
  · have e := eq_of_beq h
    subst e
    exact se_const (t := tC .non) pe_bl fun _ _ _ _ => .bl _
  · have e := of_decide_eq_true h
    subst e
    exact se_const (t := tC .non) pe_int fun _ _ _ _ => .int _
  · have e := of_decide_eq_true h
    subst e
    exact se_const (t := tC .non) pe_str fun _ _ _ _ => .str _
  · cases h
theorem tail_pe {op : BoolOp} {y : Expr} {zs : List Expr} {p : Pos} {t : TE} (h : PE X (tailB op y zs p) t) : PE X (.BoolOp op (y :: zs) p) t := by
  cases zs with
  | nil => exact pe_one h
  | cons z zs => exact h
/-- a test, and a test of and, or whatever it is a part of -/
def PTW (X : Cx) (x : Expr) (t : TT) : Prop := PT X x t ∧ ∀ op es p, x = .BoolOp op es p → PW X x t
theorem PTW.of {x : Expr} {t : TT} (h : PT X x t) (n : ∀ op es p, x ≠ .BoolOp op es p) : PTW X x t := ⟨h, fun op es p e => absurd e (n op es p)⟩
theorem tail_pwA {y : Expr} {zs : List Expr} {p : Pos} {t : TT} (h : PTW X (tailB .And y zs p) t) : PW X (.BoolOp .And (y :: zs) p) t := by
  cases zs with
  | nil => exact pw_and1 h.1
  | cons z zs => exact h.2 _ _ _ rfl
theorem tail_pwO {y : Expr} {zs : List Expr} {p : Pos} {t : TT} (h : PTW X (tailB .Or y zs p) t) : PW X (.BoolOp .Or (y :: zs) p) t := by
  cases zs with
  | nil => exact pw_or1 h.1
  | cons z zs => exact h.2 _ _ _ rfl
theorem bltB1 (h : XOk T S X fa ec b W C) {n : Str} (q : bltB T S n = true) : Gl X n ∧ X.mg n = none := by
  obtain ⟨q1, q2⟩ := and1 q
  exact ⟨h.gl q1, h.blt _ (of_decide_eq_true q2)⟩
theorem valT_is {x : Expr} (h : valT x = true) : (∀ op es p, x ≠ .BoolOp op es p) ∧ ∀ (env : PySem.Env) whole, isTrue x env whole = (do let v ← whole; standAt x.pos; holding [v] (truthy v)) := by
  cases x <;> first | exact ⟨fun _ _ _ e => (by cases e), fun _ _ => rfl⟩ | (exact absurd h (by simp [valT]))
theorem base_name {o : Expr} {n : Str} {env : PySem.Env} {w : Sem Value} (h : isName o = true) : attributeBase o n env w = w := by
  cases o <;> first | rfl | (exact absurd h (by simp [isName]))
theorem chkN_val : ∀ (n : N) (x : Expr), chkN T S n x = true → valT x = true
  | .lst _, x, q => by
    simp only [chkN] at q
    split at q
    · rfl
    · cases q
  | .comp _ _ _ _ _, x, q => by
    simp only [chkN] at q
    split at q
    · rfl
    · cases q
  | .comp2 _ _ _ _ _ _ _ _ _, x, q => by
    simp only [chkN] at q
    split at q
    · rfl
    · cases q
  | .listOf _, x, q => by
    simp only [chkN] at q
    split at q
    · rfl
    · cases q
  | .rep _ _, x, q => by
    simp only [chkN] at q
    split at q
    · rfl
    · cases q
  | .cat _ _, x, q => by
    simp only [chkN] at q
    split at q
    · rfl
    · cases q
theorem chkEs_star : ∀ (es : Es) (xs : List Expr), chkEs T S es xs = true → ∀ x ∈ xs, notStar x = true
  | .nil, xs, q => by
    simp only [chkEs] at q
    split at q
    · intro x hx; cases hx
    · cases q
  | .cons e es, xs, q => by
    simp only [chkEs] at q
    split at q
    · obtain ⟨q, q3⟩ := and1 q
      obtain ⟨q1, q2⟩ := and1 q
      intro x hx
      rcases List.mem_cons.mp hx with e | hx
      · rw [e]; exact q1
      · exact chkEs_star es _ q3 x hx
    · cases q
theorem star_any {pos : Pos} {env : PySem.Env} : ∀ (xs : List Expr), (∀ x ∈ xs, notStar x = true) → (backTo pos (starEach xs env)).any (·.1) = false
  | [], _ => rfl
  | x :: xs, h => by
    have ih := star_any (pos := pos) (env := env) xs fun y hy => h y (List.mem_cons_of_mem _ hy)
    rw [star_cons (h x List.mem_cons_self)]
    show (false || (backTo pos (starEach xs env)).any (·.1)) = false
    rw [ih] <;> rfl
theorem fnB_ok {f : Nat} {n : Str} (q : fnB T S f n = true) : ∃ F, T.P.find f = some F ∧ F.name = n ∧ glB S n = true ∧ okN n = true := by
  unfold fnB at q
  obtain ⟨q, q3⟩ := and1 q
  obtain ⟨q1, q2⟩ := and1 q
  split at q1
  · rename_i F hF
    exact ⟨F, hF, of_decide_eq_true q1, q2, q3⟩
  · cases q1
theorem dsp_ok (h : XOk T S X fa ec b W C) : ∀ {kf : List (Str × Nat)} {ks : List (Option Expr)} {vs : List Expr}, chkDsp T S kf ks vs = true → ∃ kvs trs, DspOk X fa kf kvs ks vs trs := by
  intro kf ks vs q
  fun_induction chkDsp T S kf ks vs with
  | case1 => exact ⟨[], [], .nil⟩
  | case2 s f kf z j p1 ks n p2 vs ih =>
    obtain ⟨q, q3⟩ := and1 q
    obtain ⟨q1, q2⟩ := and1 q
    obtain ⟨kvs, trs, r⟩ := ih q3
    obtain ⟨F, hF, en, g1, g2⟩ := fnB_ok q2
    obtain ⟨k, hr, Cg⟩ := h.call
    obtain ⟨a, fd, m1, m2, _⟩ := (Cg f F hF).there
    rw [en] at m1
    have ez := of_decide_eq_true q1
    subst ez
    exact ⟨_, _, .cons (h.gl g1) m1 m2 (okN_db g2) r⟩
  | case3 => cases q
mutual
theorem snd_E {S : Scp} {X : Cx} {b : Nat} {W : WX} (h : XOk T S X fa ec b W C) : ∀ (e : E) (x : Expr), chkE T S e x = true → ∀ ex, PE X x (tE ⟨X.K, fa, ec, ex⟩ b W fun ρ => evE C ρ e)
  | .var i, x, q, ex => by
    simp only [chkE] at q
    split at q
    · obtain ⟨q, q3⟩ := and1 q
      obtain ⟨q1, q2⟩ := and1 q
      simp only [evE]
      exact se_var (h.ix q1) (h.vis q2) (okN_db q3) (okN_cd q3)
    · cases q
  | .const d, x, q, ex => by
    simp only [chkE] at q
    split at q
    · simp only [evE]; exact const_ok q
    · cases q
  | .gc y d, x, q, ex => by
    simp only [chkE] at q
    split at q
    · obtain ⟨q, q4⟩ := and1 q
      obtain ⟨q, q3⟩ := and1 q
      obtain ⟨q1, q2⟩ := and1 q
      obtain ⟨p, hp, hd⟩ := List.any_eq_true.mp q4
      obtain ⟨e1, e2⟩ := and1 hd
      have e1 := of_decide_eq_true e1
      have e2 := D.beq_eq e2
      obtain ⟨u, v, h1, h2, h3⟩ := h.con p hp
      rw [e1] at h1
      simp only [evE]
      rw [← e2]
      refine ofE (pe_glob (h.gl q2) h1 h2 (okN_db q3)) fun σ H Q h => ?_
      obtain ⟨ρ, m, st, er, S, h⟩ := h
      exact h.ret S v (h3 _ _ _ _)
    · cases q
  | .gf f, x, q, ex => by
    simp only [chkE] at q
    split at q
    · obtain ⟨F, hF, en, g1, g2⟩ := fnB_ok q
      obtain ⟨k, hr, Cg⟩ := h.call
      obtain ⟨a, fd, m1, m2, _⟩ := (Cg f F hF).there
      rw [en] at m1
      simp only [evE]
      refine ofE (pe_glob (v := .ref a) (h.gl g1) m1 rfl (okN_db g2)) fun σ H Q q => ?_
      obtain ⟨ρ, m, st, er, S, q⟩ := q
      exact q.ret S _ (.fn m2)
    · cases q
  | .tup es, x, q, ex => by
    simp only [chkE] at q
    split at q
    · simp only [evE]; exact se_tup (snd_Es h es _ q ex)
    · cases q
  | .bin op a b, x, q, ex => by
    simp only [chkE] at q
    split at q
    · obtain ⟨q, q3⟩ := and1 q
      obtain ⟨q1, q2⟩ := and1 q
      have e := of_decide_eq_true q1
      subst e
      simp only [evE]
      exact se_bin rfl (snd_E h a _ q2 ex) (snd_E h b _ q3 ex)
    · cases q
  | .neg a, x, q, ex => by
    simp only [chkE] at q
    split at q
    · simp only [evE]; exact se_neg (snd_E h a _ q ex)
    · cases q
  | .not a, x, q, ex => by
    simp only [chkE] at q
    split at q
    · simp only [evE]; exact se_not (t := fun _ => M.bad) (snd_E h a _ q ex)
    · cases q
  | .and a b, x, q, ex => by
    simp only [chkE] at q
    split at q
    · obtain ⟨q1, q2⟩ := and1 q
      simp only [evE]
      exact se_and (snd_E h a _ q1 ex) (tail_pe (snd_E h b _ q2 ex))
    · cases q
  | .or a b, x, q, ex => by
    simp only [chkE] at q
    split at q
    · obtain ⟨q1, q2⟩ := and1 q
      simp only [evE]
      exact se_or (snd_E h a _ q1 ex) (tail_pe (snd_E h b _ q2 ex))
    · cases q
  | .ite c a b, x, q, ex => by
    simp only [chkE] at q
    split at q
    · obtain ⟨q, q3⟩ := and1 q
      obtain ⟨q1, q2⟩ := and1 q
      simp only [evE]
      exact se_ite (snd_T h c _ q1 ex).1 (snd_E h a _ q2 ex) (snd_E h b _ q3 ex)
    · cases q
  | .cmp op a b, x, q, ex => by
    simp only [chkE] at q
    split at q
    · obtain ⟨q, q4⟩ := and1 q
      obtain ⟨q, q3⟩ := and1 q
      obtain ⟨q1, q2⟩ := and1 q
      have e := of_decide_eq_true q1
      subst e
      simp only [evE]
      exact se_cmp rfl h.hu (snd_E h a _ q3 ex) (snd_E h b _ q4 ex) (by simpa using q2)
    · cases q
  | .cmp2 op op2 a b c, x, q, ex => by
    simp only [chkE] at q
    split at q
    · obtain ⟨q, q6⟩ := and1 q
      obtain ⟨q, q5⟩ := and1 q
      obtain ⟨q, q4⟩ := and1 q
      obtain ⟨q, q3⟩ := and1 q
      obtain ⟨q1, q2⟩ := and1 q
      have e := of_decide_eq_true q1
      have e2 := of_decide_eq_true q2
      subst e; subst e2
      simp only [evE]
      exact se_ch rfl h.hu (snd_E h a _ q4 ex) (snd_E h b _ q5 ex) (snd_E h c _ q6 ex) (by simpa using q3)
    · cases q
  | .idx a b, x, q, ex => by
    simp only [chkE] at q
    split at q
    · obtain ⟨q, q3⟩ := and1 q
      obtain ⟨q1, q2⟩ := and1 q
      simp only [evE]
      exact se_idx rfl (snd_E h a _ q2 ex) (snd_E h b _ q3 ex) (plain_ix q1)
    · cases q
  | .slc a lo hi, x, q, ex => by
    simp only [chkE] at q
    split at q
    · obtain ⟨q, q3⟩ := and1 q
      obtain ⟨q1, q2⟩ := and1 q
      simp only [evE]
      exact se_slc rfl (snd_E h a _ q1 ex) (snd_O h lo _ q2 ex) (snd_O h hi _ q3 ex)
    · cases q
  | .call f es, x, q, ex => by
    simp only [chkE] at q
    split at q
    · obtain ⟨q, q4⟩ := and1 q
      obtain ⟨q, q3⟩ := and1 q
      obtain ⟨q1, q2⟩ := and1 q
      cases hf : T.P.find f with
      | none => rw [hf] at q1; cases q1
      | some F =>
        rw [hf] at q1
        have e := of_decide_eq_true q1
        subst e
        obtain ⟨k, hr, Cg⟩ := h.call
        replace Cg := Cg f F hf
        replace hr : Room k X.A := hr.mono (Nat.le_add_right _ _)
        simp only [evE]
        have hes := snd_Es h es _ q4 ex
        have hst := chkEs_star _ _ q4
        cases es with
        | nil =>
          simp only [chkEs] at q4
          split at q4
          · exact se_call0 Cg hr h.hg h.tk (h.gl q2) (okN_db q3)
          · cases q4
        | cons e es =>
          simp only [chkEs] at q4
          split at q4
          · rename_i x xs
            exact se_call Cg hr h.hg h.tk (h.gl q2) (okN_db q3) hes (star_cons (hst x List.mem_cons_self)) (star_any _ fun y hy => hst y (List.mem_cons_of_mem _ hy))
          · cases q4
    · cases q
  | .blt bl a, x, q, ex => by
    simp only [chkE] at q
    split at q
    · obtain ⟨q, q3⟩ := and1 q
      obtain ⟨q, q2⟩ := and1 q
      obtain ⟨q1, qr⟩ := and1 q
      have e := of_decide_eq_true q1
      have hr : bl = .repr → X.A.guards = some [] := fun e => h.hg (by rw [e] at qr; exact qr)
      subst e
      simp only [evE]
      split at q3
      · obtain ⟨q, q6⟩ := and1 q3
        obtain ⟨q4, q5⟩ := and1 q
        have g := bltB1 h q2
        exact se_blt rfl h.hu hr h.calm (snd_E h a _ q6 ex) (fun es => star_cons q5) g.1 g.2 (.one (of_decide_eq_true q4)) (fun t e => by rw [e] at q4; exact absurd (of_decide_eq_true q4) (by simp [bltMore]))
      · split at q3
        · obtain ⟨q, q8⟩ := and1 q3
          obtain ⟨q, q7⟩ := and1 q
          obtain ⟨q, q6⟩ := and1 q
          obtain ⟨q4, q5⟩ := and1 q
          have e := of_decide_eq_true q5
          subst e
          have g := bltB1 h q2
          exact se_blt rfl h.hu hr h.calm (snd_E h a _ q8 ex) (fun es => star_cons q7) g.1 g.2 (.isi (of_decide_eq_true q4)) (fun t e => by cases e; exact bltB1 h q6)
        · cases q3
      · cases q3
    · cases q
  | .new n, x, q, ex => by
    simp only [chkE] at q
    simp only [evE]
    exact ofE (snd_N h n x q ex) fun σ H Q q => tN.new q
  | .newm n, x, q, ex => by
    simp only [chkE] at q
    simp only [evE]
    exact ofE (snd_N h n x q ex) fun σ H Q q => tN.newm q
  | .frz a, x, q, ex => by
    simp only [chkE] at q
    simp only [evE]
    exact se_frz (snd_E h a x (and1 q).2 ex)
  | .pop a, x, q, ex => by
    simp only [chkE] at q
    split at q
    · obtain ⟨q, q4⟩ := and1 q
      obtain ⟨q, q3⟩ := and1 q
      obtain ⟨q1, q2⟩ := and1 q
      have e := of_decide_eq_true q1
      subst e
      simp only [evE]
      exact se_pop rfl (snd_E h a _ q4 ex) (base_name q2) q3
    · cases q
  | .rev a, x, q, ex => by
    simp only [chkE] at q
    split at q
    · simp only [evE]
      exact se_rev rfl (snd_E h a _ q ex)
    · cases q
  | .srt a, x, q, ex => by
    simp only [chkE] at q
    split at q
    · obtain ⟨q, q6⟩ := and1 q
      obtain ⟨q, q5⟩ := and1 q
      obtain ⟨q, q4⟩ := and1 q
      obtain ⟨q, q3⟩ := and1 q
      obtain ⟨q1, q2⟩ := and1 q
      have e1 := of_decide_eq_true q1
      have e2 := of_decide_eq_true q3
      subst e1; subst e2
      have g := bltB1 h q2
      have g2 := bltB1 h q4
      simp only [evE]
      exact se_srt rfl h.calm g.1 g.2 g2.1 g2.2 (snd_E h a _ q6 ex) (star_one q5)
    · cases q
  | .srtk a i, x, q, ex => by
    simp only [chkE] at q
    split at q
    · obtain ⟨q, q7⟩ := and1 q
      obtain ⟨q, q6⟩ := and1 q
      obtain ⟨q, q5⟩ := and1 q
      obtain ⟨q, q4⟩ := and1 q
      obtain ⟨q, q3⟩ := and1 q
      obtain ⟨q1, q2⟩ := and1 q
      have e1 := of_decide_eq_true q1
      have e2 := of_decide_eq_true q2
      subst e1; subst e2
      have g := bltB1 h q3
      obtain ⟨c, P, l1, l2, l3, l4⟩ := h.lamc q4
      obtain ⟨k, hr, Cg⟩ := h.call
      rw [q4] at hr
      have hr2 : Room 2 X.A := hr.mono (by simp)
      simp only [evE]
      exact se_srtk rfl g.1 g.2 (snd_E h a _ q7 ex) (star_one q5) l4 l1 l2 l3 hr2 q6
    · cases q
  | .srti a, x, q, ex => by
    simp only [chkE] at q
    split at q
    · obtain ⟨q, q4⟩ := and1 q
      obtain ⟨q, q3⟩ := and1 q
      obtain ⟨q1, q2⟩ := and1 q
      have e1 := of_decide_eq_true q1
      subst e1
      have g := bltB1 h q2
      simp only [evE]
      exact se_srti rfl g.1 g.2 (snd_E h a _ q4 ex) (star_one q3)
    · cases q
  | .srtp a, x, q, ex => by
    simp only [chkE] at q
    split at q
    · obtain ⟨q, q4⟩ := and1 q
      obtain ⟨q, q3⟩ := and1 q
      obtain ⟨q1, q2⟩ := and1 q
      have e1 := of_decide_eq_true q1
      subst e1
      have g := bltB1 h q2
      simp only [evE]
      exact se_srtp rfl h.hu g.1 g.2 (snd_E h a _ q4 ex) (star_one q3)
    · cases q
  | .dsp kf, x, q, ex => by
    simp only [chkE] at q
    split at q
    · obtain ⟨q, q4⟩ := and1 q
      obtain ⟨q, q3⟩ := and1 q
      obtain ⟨q1, q2⟩ := and1 q
      obtain ⟨kvs, trs, r⟩ := dsp_ok h q1
      simp only [evE]
      exact se_dsp (G := ⟨X.K, fa, ec, ex⟩) r (of_decide_eq_true q2) (of_decide_eq_true q3) (of_decide_eq_true q4)
    · cases q
  | .calld i sel es, x, q, ex => by
    simp only [chkE] at q
    split at q
    · rename_i n p1 sx p3 xs pos
      obtain ⟨q, q7⟩ := and1 q
      obtain ⟨q, q6⟩ := and1 q
      obtain ⟨q, q5⟩ := and1 q
      obtain ⟨q, q4⟩ := and1 q
      obtain ⟨q, q3⟩ := and1 q
      obtain ⟨q1, q2⟩ := and1 q
      obtain ⟨k, hr, Cg⟩ := h.call
      have st := chkEs_star es xs q7
      cases xs with
      | nil => cases q6
      | cons e xs =>
        simp only [evE]
        exact se_calld (fun f a z => let ⟨F, hF⟩ := h.faF f a z; ⟨F, Cg f F hF⟩) (hr.mono (by omega)) h.hg h.tk (h.ix q1) (h.vis q2) (okN_db q3) (okN_cd q3) (snd_E h sel _ q5 ex) (plain_ix q4) (snd_Es h es _ q7 ex) (star_cons (st e List.mem_cons_self)) (star_any xs fun y hy => st y (List.mem_cons_of_mem _ hy))
    · cases q
  | .callv i es, x, q, ex => by
    simp only [chkE] at q
    split at q
    · rename_i n p1 xs pos
      obtain ⟨q, q5⟩ := and1 q
      obtain ⟨q, q4⟩ := and1 q
      obtain ⟨q, q3⟩ := and1 q
      obtain ⟨q1, q2⟩ := and1 q
      obtain ⟨k, hr, Cg⟩ := h.call
      have st := chkEs_star es xs q5
      cases xs with
      | nil => cases q4
      | cons e xs =>
        simp only [evE]
        exact se_callv (fun f a z => let ⟨F, hF⟩ := h.faF f a z; ⟨F, Cg f F hF⟩) (hr.mono (by omega)) h.hg h.tk (h.ix q1) (h.vis q2) (okN_db q3) (okN_cd q3) (snd_Es h es _ q5 ex) (star_cons (st e List.mem_cons_self)) (star_any xs fun y hy => st y (List.mem_cons_of_mem _ hy))
    · cases q
  | .mm mx a c, x, q, ex => by
    simp only [chkE] at q
    split at q
    · obtain ⟨q, q6⟩ := and1 q
      obtain ⟨q, q5⟩ := and1 q
      obtain ⟨q, q4⟩ := and1 q
      obtain ⟨q, q3⟩ := and1 q
      obtain ⟨q1, q2⟩ := and1 q
      have e := of_decide_eq_true q1
      subst e
      have g := bltB1 h q2
      simp only [evE]
      exact se_mm h.calm g.1 g.2 (snd_E h a _ q5 ex) (snd_E h c _ q6 ex) (by rw [star_cons q3]) (star_one q4)
    · cases q
  | .word x hs d e, x₀, q, ex => by
    simp only [chkE] at q
    split at q
    · rename_i n pn params body scope lpos pos
      obtain ⟨q, q8⟩ := and1 q
      obtain ⟨q, q7⟩ := and1 q
      obtain ⟨q, q6⟩ := and1 q
      obtain ⟨q, q5⟩ := and1 q
      obtain ⟨q, q4⟩ := and1 q
      obtain ⟨q, q3⟩ := and1 q
      obtain ⟨q1, q2⟩ := and1 q
      have en := of_decide_eq_true q1
      subst en
      obtain ⟨w, hw, q7⟩ := List.any_eq_true.mp q7
      obtain ⟨q7, q10⟩ := and1 q7
      obtain ⟨q7, q9⟩ := and1 q7
      have ew := of_decide_eq_true q7
      have eh := hsB_eq q9
      have ed := D.beq_eq q10
      obtain ⟨g, fd, pg, sg, h₀, hds, c0, j, p1, p2, p3, p4, p5, p6, g1, g2, g3, g4, g5, g6, g7, g8⟩ := (h.wd w hw).there
      obtain ⟨c, P, l1, l2, l3, l4⟩ := h.lamc q4
      obtain ⟨k, hr, Cg⟩ := h.call
      rw [q4] at hr
      subst eh; subst ed
      rw [ew] at g1 g2
      have np : params = ⟨[], [], none, [], [], none, []⟩ := by
        unfold noPar at q5
        split at q5
        · rfl
        · cases q5
      subst np
      simp only [evE]
      refine se_word (ex := ex) (k := k) (h.gl q2) g1 g2 g3 g4 rfl g5 g6 g7 l4 l1 l2 l3 hr (LamX.lamS_by (by rw [h.sc]; exact q6)) rfl (fun _ _ _ _ _ => rfl) h.exmE (fun A outer s H E f c' b' hr' hgd => ?_) (okN_db q3) (okN_db g8) (okN_cd g8)
      exact snd_E (X := LamX.lamCx X A outer s H E scope f c') (S := ⟨S.N, scope, [], false⟩) (b := b') (W := wE E) ⟨rfl, by have := hr'.un; show (A.deeper _).units + 66 < cLine; omega, fun z => hgd.trans (h.hg z), h.nd, h.hN, rfl, fun x hx => by simp at hx, takes_of rfl rfl rfl rfl, ⟨k, hr', Cg⟩, h.blt, h.con, h.exmE, h.wd, fun z => (by cases z), h.faF⟩ e _ q8 ex
    · cases q
theorem snd_T {S : Scp} {X : Cx} {b : Nat} {W : WX} (h : XOk T S X fa ec b W C) : ∀ (e : E) (x : Expr), chkE T S e x = true → ∀ ex, PTW X x (Ev.tB ⟨X.K, fa, ec, ex⟩ b W fun ρ => M.thn (evE C ρ e) asB)
  | .not a, x, q, ex => by
    simp only [chkE] at q
    split at q
    · simp only [evE]
      exact .of (st_not (snd_T h a _ q ex).1) fun _ _ _ e => by cases e
    · cases q
  | .and a b, x, q, ex => by
    simp only [chkE] at q
    split at q
    · obtain ⟨q1, q2⟩ := and1 q
      simp only [evE]
      have w := sw_and (f := fun ρ => evE C ρ a) (g := fun ρ => evE C ρ b) (snd_T h a _ q1 ex).1 (tail_pwA (snd_T h b _ q2 ex))
      exact ⟨w.pt, fun op es p e => by cases e; exact w⟩
    · cases q
  | .or a b, x, q, ex => by
    simp only [chkE] at q
    split at q
    · obtain ⟨q1, q2⟩ := and1 q
      simp only [evE]
      have w := sw_or (f := fun ρ => evE C ρ a) (g := fun ρ => evE C ρ b) (snd_T h a _ q1 ex).1 (tail_pwO (snd_T h b _ q2 ex))
      exact ⟨w.pt, fun op es p e => by cases e; exact w⟩
    · cases q
  | .ite c a b, x, q, ex => by
    simp only [chkE] at q
    split at q
    · obtain ⟨q, q3⟩ := and1 q
      obtain ⟨q1, q2⟩ := and1 q
      simp only [evE]
      exact .of (st_ite (t := fun ρ => evE C ρ c) (f := fun ρ => evE C ρ a) (g := fun ρ => evE C ρ b) (snd_T h c _ q1 ex).1 (snd_T h a _ q2 ex).1 (snd_T h b _ q3 ex).1) fun _ _ _ e => by cases e
    · cases q
  | .cmp op a b, x, q, ex => by
    simp only [chkE] at q
    split at q
    · obtain ⟨q, q4⟩ := and1 q
      obtain ⟨q, q3⟩ := and1 q
      obtain ⟨q1, q2⟩ := and1 q
      have e := of_decide_eq_true q1
      subst e
      simp only [evE]
      exact .of (st_cmp rfl h.hu (snd_E h a _ q3 ex) (snd_E h b _ q4 ex) (by simpa using q2)) fun _ _ _ e => by cases e
    · cases q
  | .cmp2 op op2 a b c, x, q, ex => by
    simp only [chkE] at q
    split at q
    · obtain ⟨q, q6⟩ := and1 q
      obtain ⟨q, q5⟩ := and1 q
      obtain ⟨q, q4⟩ := and1 q
      obtain ⟨q, q3⟩ := and1 q
      obtain ⟨q1, q2⟩ := and1 q
      have e := of_decide_eq_true q1
      have e2 := of_decide_eq_true q2
      subst e; subst e2
      simp only [evE]
      exact .of (st_ch rfl h.hu (snd_E h a _ q4 ex) (snd_E h b _ q5 ex) (snd_E h c _ q6 ex) (by simpa using q3)) fun _ _ _ e => by cases e
    · cases q
  | .var i, x, q, ex => by
    have q0 := q
    simp only [chkE] at q
    split at q
    · exact .of (st_val (snd_E h _ _ q0 ex) fun _ => rfl) fun _ _ _ e => by cases e
    · cases q
  | .const d, x, q, ex => by
    have q0 := q
    simp only [chkE] at q
    split at q
    · exact .of (st_val (snd_E h _ _ q0 ex) fun _ => rfl) fun _ _ _ e => by cases e
    · cases q
  | .gc y d, x, q, ex => by
    have q0 := q
    simp only [chkE] at q
    split at q
    · exact .of (st_val (snd_E h _ _ q0 ex) fun _ => rfl) fun _ _ _ e => by cases e
    · cases q
  | .tup es, x, q, ex => by
    have q0 := q
    simp only [chkE] at q
    split at q
    · exact .of (st_val (snd_E h _ _ q0 ex) fun _ => rfl) fun _ _ _ e => by cases e
    · cases q
  | .bin op a b, x, q, ex => by
    have q0 := q
    simp only [chkE] at q
    split at q
    · exact .of (st_val (snd_E h _ _ q0 ex) fun _ => rfl) fun _ _ _ e => by cases e
    · cases q
  | .neg a, x, q, ex => by
    have q0 := q
    simp only [chkE] at q
    split at q
    · exact .of (st_val (snd_E h _ _ q0 ex) fun _ => rfl) fun _ _ _ e => by cases e
    · cases q
  | .idx a b, x, q, ex => by
    have q0 := q
    simp only [chkE] at q
    split at q
    · exact .of (st_val (snd_E h _ _ q0 ex) fun _ => rfl) fun _ _ _ e => by cases e
    · cases q
  | .slc a lo hi, x, q, ex => by
    have q0 := q
    simp only [chkE] at q
    split at q
    · exact .of (st_val (snd_E h _ _ q0 ex) fun _ => rfl) fun _ _ _ e => by cases e
    · cases q
  | .call f es, x, q, ex => by
    have q0 := q
    simp only [chkE] at q
    split at q
    · exact .of (st_val (snd_E h _ _ q0 ex) fun _ => rfl) fun _ _ _ e => by cases e
    · cases q
  | .blt bl a, x, q, ex => by
    have q0 := q
    simp only [chkE] at q
    split at q
    · exact .of (st_val (snd_E h _ _ q0 ex) fun _ => rfl) fun _ _ _ e => by cases e
    · cases q
  | .gf f, x, q, ex => by
    have q0 := q
    simp only [chkE] at q
    split at q
    · exact .of (st_val (snd_E h _ _ q0 ex) fun _ => rfl) fun _ _ _ e => by cases e
    · cases q
  | .pop a, x, q, ex => by
    have q0 := q
    simp only [chkE] at q
    split at q
    · exact .of (st_val (snd_E h _ _ q0 ex) fun _ => rfl) fun _ _ _ e => by cases e
    · cases q
  | .rev a, x, q, ex => by
    have q0 := q
    simp only [chkE] at q
    split at q
    · exact .of (st_val (snd_E h _ _ q0 ex) fun _ => rfl) fun _ _ _ e => by cases e
    · cases q
  | .srt a, x, q, ex => by
    have q0 := q
    simp only [chkE] at q
    split at q
    · exact .of (st_val (snd_E h _ _ q0 ex) fun _ => rfl) fun _ _ _ e => by cases e
    · cases q
  | .srtk a i, x, q, ex => by
    have q0 := q
    simp only [chkE] at q
    split at q
    · exact .of (st_val (snd_E h _ _ q0 ex) fun _ => rfl) fun _ _ _ e => by cases e
    · cases q
  | .srti a, x, q, ex => by
    have q0 := q
    simp only [chkE] at q
    split at q
    · exact .of (st_val (snd_E h _ _ q0 ex) fun _ => rfl) fun _ _ _ e => by cases e
    · cases q
  | .srtp a, x, q, ex => by
    have q0 := q
    simp only [chkE] at q
    split at q
    · exact .of (st_val (snd_E h _ _ q0 ex) fun _ => rfl) fun _ _ _ e => by cases e
    · cases q
  | .dsp kf, x, q, ex => by
    have q0 := q
    simp only [chkE] at q
    split at q
    · exact .of (st_val (snd_E h _ _ q0 ex) fun _ => rfl) fun _ _ _ e => by cases e
    · cases q
  | .calld i sel es, x, q, ex => by
    have q0 := q
    simp only [chkE] at q
    split at q
    · exact .of (st_val (snd_E h _ _ q0 ex) fun _ => rfl) fun _ _ _ e => by cases e
    · cases q
  | .callv i es, x, q, ex => by
    have q0 := q
    simp only [chkE] at q
    split at q
    · exact .of (st_val (snd_E h _ _ q0 ex) fun _ => rfl) fun _ _ _ e => by cases e
    · cases q
  | .mm mx a c, x, q, ex => by
    have q0 := q
    simp only [chkE] at q
    split at q
    · exact .of (st_val (snd_E h _ _ q0 ex) fun _ => rfl) fun _ _ _ e => by cases e
    · cases q
  | .word w hs d e, x, q, ex => by
    have q0 := q
    simp only [chkE] at q
    split at q
    · exact .of (st_val (snd_E h _ _ q0 ex) fun _ => rfl) fun _ _ _ e => by cases e
    · cases q
  | .frz a, x, q, ex => by
    have q0 := q
    simp only [chkE] at q
    have v := valT_is (and1 q).1
    exact .of (st_val (snd_E h _ _ q0 ex) fun _ => v.2 _ _) v.1
  | .new n, x, q, ex => by
    have q0 := q
    simp only [chkE] at q
    have v := valT_is (chkN_val _ _ q)
    exact .of (st_val (snd_E h _ _ q0 ex) fun _ => v.2 _ _) v.1
  | .newm n, x, q, ex => by
    have q0 := q
    simp only [chkE] at q
    have v := valT_is (chkN_val _ _ q)
    exact .of (st_val (snd_E h _ _ q0 ex) fun _ => v.2 _ _) v.1
theorem snd_O {S : Scp} {X : Cx} {b : Nat} {W : WX} (h : XOk T S X fa ec b W C) : ∀ (e : O) (x : Option Expr), chkO T S e x = true → ∀ ex, PO X x (tOp_ ⟨X.K, fa, ec, ex⟩ b W fun ρ => evO C ρ e)
  | .no, x, q, ex => by
    simp only [chkO] at q
    split at q
    · simp only [evO]; exact so_none
    · cases q
  | .is e, x, q, ex => by
    simp only [chkO] at q
    split at q
    · simp only [evO]; exact so_some (snd_E h e _ q ex)
    · cases q
theorem snd_C {S : Scp} {X : Cx} {b : Nat} {W : WX} (h : XOk T S X fa ec b W C) : ∀ (e : O) (x : List Expr), chkC T S e x = true → ∀ ex, PTs X x (Ev.tB ⟨X.K, fa, ec, ex⟩ b W fun ρ => evC C ρ e)
  | .no, x, q, ex => by
    simp only [chkC] at q
    split at q
    · simp only [evC]; exact spts_nil
    · cases q
  | .is e, x, q, ex => by
    simp only [chkC] at q
    split at q
    · simp only [evC]; exact pts_one (snd_T h e _ q ex).1
    · cases q
theorem snd_Es {S : Scp} {X : Cx} {b : Nat} {W : WX} (h : XOk T S X fa ec b W C) : ∀ (e : Es) (x : List Expr), chkEs T S e x = true → ∀ ex, PA X x (tEs ⟨X.K, fa, ec, ex⟩ b W fun ρ => evEs C ρ e)
  | .nil, x, q, ex => by
    simp only [chkEs] at q
    split at q
    · simp only [evEs]; exact sa_nil
    · cases q
  | .cons e es, x, q, ex => by
    simp only [chkEs] at q
    split at q
    · obtain ⟨q, q3⟩ := and1 q
      obtain ⟨q1, q2⟩ := and1 q
      simp only [evEs]
      exact sa_cons (snd_E h e _ q2 ex) (snd_Es h es _ q3 ex) (star_cons q1)
    · cases q
theorem snd_N {S : Scp} {X : Cx} {b : Nat} {W : WX} (h : XOk T S X fa ec b W C) : ∀ (e : N) (x : Expr), chkN T S e x = true → ∀ ex, PE X x (tN ⟨X.K, fa, ec, ex⟩ b W fun ρ => evN C ρ e)
  | .lst es, x, q, ex => by
    simp only [chkN] at q
    split at q
    · simp only [evN]; exact sn_lst (snd_Es h es _ q ex)
    · cases q
  | .comp own elt tg it c, x, q, ex => by
    simp only [chkN] at q
    split at q
    · obtain ⟨q, q8⟩ := and1 q
      obtain ⟨q, q7⟩ := and1 q
      obtain ⟨q, q6⟩ := and1 q
      obtain ⟨q, q5⟩ := and1 q
      obtain ⟨q, q4⟩ := and1 q
      obtain ⟨q, q3⟩ := and1 q
      obtain ⟨q1, q2⟩ := and1 q
      have e := of_decide_eq_true q1
      subst e
      have ok := blkOk_by (by rw [← h.hN, ← h.sc] at q2; exact q2)
      have key := fun pos => sn_comp (pos := pos) h.calm h.nd (⟨snd_It h it _ _ q5 ex, ok, fun i hi => by rw [own_snd]; exact of_decide_eq_true (List.all_eq_true.mp q3 i hi), fun s H C cl fp ex' => snd_Tg (h.blk ok s H C cl fp) ex' tg _ q6, fun s H C cl fp ex' => snd_C (h.blk ok s H C cl fp) c _ q7 ex', fun s H C cl fp ex' => snd_E (h.blk ok s H C cl fp) elt _ q8 ex', folded q4 _⟩ :
        CompOk X ⟨X.K, fa, ec, ex⟩ b W _ _ _ _ _ _ tg (fun ρ => evIt C ρ it) (fun ρ => evC C ρ c) (fun ρ => evE C ρ elt))
      simp only [own_snd] at key
      simp only [evN]
      exact key _
    · cases q
  | .comp2 own own1 elt tg it c tg1 it1 c1, x, q, ex => by
    simp only [chkN] at q
    split at q
    · obtain ⟨q, qE⟩ := and1 q
      obtain ⟨q, qC1⟩ := and1 q
      obtain ⟨q, qT1⟩ := and1 q
      obtain ⟨q, qI1⟩ := and1 q
      obtain ⟨q, qC⟩ := and1 q
      obtain ⟨q, qT⟩ := and1 q
      obtain ⟨q, qI⟩ := and1 q
      obtain ⟨q, qn1⟩ := and1 q
      obtain ⟨q, qn⟩ := and1 q
      obtain ⟨q, qs⟩ := and1 q
      obtain ⟨q, qv1⟩ := and1 q
      obtain ⟨q, qv⟩ := and1 q
      obtain ⟨q, qb⟩ := and1 q
      obtain ⟨q1, q2⟩ := and1 q
      have e := of_decide_eq_true q1
      have e2 := of_decide_eq_true q2
      subst e; subst e2
      have ok := blkOk_by (by rw [← h.hN, ← h.sc] at qb; exact qb)
      have key := fun pos => sn_comp2 (pos := pos) h.calm h.nd (⟨⟨snd_It h it _ _ qI ex, ok, fun i hi => by rw [own_snd]; exact of_decide_eq_true (List.all_eq_true.mp qv i hi), fun s H C cl fp ex' => snd_Tg (h.blk ok s H C cl fp) ex' tg _ qT, fun s H C cl fp ex' => snd_C (h.blk ok s H C cl fp) c _ qC ex', fun s H C cl fp ex' => snd_E (h.blk ok s H C cl fp) elt _ qE ex', folded qn _⟩,
          fun i hi => of_decide_eq_true (List.all_eq_true.mp qv1 i hi), fun i hi => by rw [own_snd]; exact of_decide_eq_true (List.all_eq_true.mp qs i hi), fun s H C cl fp ex' => snd_It (h.blk ok s H C cl fp) it1 _ _ qI1 ex', fun s H C cl fp ex' => snd_Tg (h.blk ok s H C cl fp) ex' tg1 _ qT1, fun s H C cl fp ex' => snd_C (h.blk ok s H C cl fp) c1 _ qC1 ex', fun env => folded qn1 env⟩ :
        CompOk2 X ⟨X.K, fa, ec, ex⟩ b W _ _ _ _ _ _ _ _ _ own1 tg tg1 (fun ρ => evIt C ρ it) (fun ρ => evC C ρ c) (fun ρ => evIt C ρ it1) (fun ρ => evC C ρ c1) (fun ρ => evE C ρ elt))
      simp only [own_snd] at key
      simp only [evN]
      exact key _
    · cases q
  | .listOf a, x, q, ex => by
    simp only [chkN] at q
    split at q
    · obtain ⟨q, q4⟩ := and1 q
      obtain ⟨q, q3⟩ := and1 q
      obtain ⟨q1, q2⟩ := and1 q
      have e := of_decide_eq_true q1
      subst e
      have g := bltB1 h q2
      simp only [evN]
      exact sn_listOf rfl g.1 g.2 (snd_E h a _ q4 ex) (star_one q3)
    · cases q
  | .rep n k, x, q, ex => by
    simp only [chkN] at q
    split at q
    · obtain ⟨q1, q2⟩ := and1 q
      simp only [evN]
      exact sn_rep (snd_N h n _ q1 ex) (snd_E h k _ q2 ex)
    · cases q
  | .cat a c, x, q, ex => by
    simp only [chkN] at q
    split at q
    · obtain ⟨q1, q2⟩ := and1 q
      simp only [evN]
      exact sn_cat rfl (snd_E h a _ q1 ex) (snd_E h c _ q2 ex)
    · cases q
theorem snd_It {S : Scp} {X : Cx} {b : Nat} {W : WX} (h : XOk T S X fa ec b W C) : ∀ (e : It) (t x : Expr), chkIt T S e t x = true → ∀ ex, PI X t x (tI ⟨X.K, fa, ec, ex⟩ b W fun ρ => evIt C ρ e)
  | .val a, t, x, q, ex => by
    simp only [chkIt] at q
    simp only [evIt]
    exact si_val rfl (snd_E h a _ q ex)
  | .rng1 a, t, x, q, ex => by
    simp only [chkIt] at q
    split at q
    · obtain ⟨q, q4⟩ := and1 q
      obtain ⟨q, q3⟩ := and1 q
      obtain ⟨q1, q2⟩ := and1 q
      have e := of_decide_eq_true q1
      subst e
      have g := bltB1 h q2
      simp only [evIt]
      exact si_rng1 g.1 g.2 (snd_E h a _ q4 ex) (star_one q3)
    · cases q
  | .rng2 a c, t, x, q, ex => by
    simp only [chkIt] at q
    split at q
    · obtain ⟨q, q6⟩ := and1 q
      obtain ⟨q, q5⟩ := and1 q
      obtain ⟨q, q4⟩ := and1 q
      obtain ⟨q, q3⟩ := and1 q
      obtain ⟨q1, q2⟩ := and1 q
      have e := of_decide_eq_true q1
      subst e
      have g := bltB1 h q2
      simp only [evIt]
      exact si_rng2 g.1 g.2 (snd_E h a _ q5 ex) (snd_E h c _ q6 ex) (by rw [star_cons q3, star_one q4]) (star_one q4)
    · cases q
  | .enum a, t, x, q, ex => by
    simp only [chkIt] at q
    split at q
    · obtain ⟨q, q4⟩ := and1 q
      obtain ⟨q, q3⟩ := and1 q
      obtain ⟨q, q2⟩ := and1 q
      obtain ⟨q0, q1⟩ := and1 q
      have e := of_decide_eq_true q1
      subst e
      have g := bltB1 h q2
      simp only [evIt]
      cases t <;> first | (cases q0; done) | exact si_enum rfl g.1 g.2 (snd_E h a _ q4 ex) (star_one q3)
    · cases q
  | .zip a c, t, x, q, ex => by
    simp only [chkIt] at q
    split at q
    · obtain ⟨q, q6⟩ := and1 q
      obtain ⟨q, q5⟩ := and1 q
      obtain ⟨q, q4⟩ := and1 q
      obtain ⟨q, q3⟩ := and1 q
      obtain ⟨q, q2⟩ := and1 q
      obtain ⟨q0, q1⟩ := and1 q
      have e := of_decide_eq_true q1
      subst e
      have g := bltB1 h q2
      simp only [evIt]
      cases t <;> first | (cases q0; done) | exact si_zip rfl g.1 g.2 (snd_E h a _ q5 ex) (snd_E h c _ q6 ex) (star_cons q3) (star_one q4)
    · cases q
end
end
end Ev
set_option linter.all false
set_option maxRecDepth 100000
set_option maxHeartbeats 2000000
/-! Ev16: what is checked runs so: statements. -/
namespace Ev
open PySem PySem.Spec PyProof.Rows L2
structure XOkS (T : Tab) (S : Scp) (X : Cx) (fa : Nat → Addr → Prop) (ec : Ecl) (b : Nat) (E : XK) (C : Cfg) : Prop extends XOk T S X fa ec b (wE E) C where
  kind : X.env.scope.kind = .function
  base : C.base = b
  own : PassesOwn (model X.prog X.w) X.A X.env X.xe
  exc : ∀ n c, (n, c) ∈ T.excs → ∃ (Cls : Addr) (bmB : List Value) (B newId initId : String), ExcBaseFacts B newId initId bmB ∧ PySem.W.excIn X.K Cls bmB newId = true ∧ X.mg n = some (.ref Cls) ∧ PySem.W.keepIn X.K (.ref Cls) = true ∧ Raises X (.ref Cls) ∧ ec c Cls
  stk : X.stack = X.env :: X.outer
  frm : X.env.frame = some X.env.locals
  exm : ∀ c k r Dc Dk, C.exm c k = some r → ec c Dc → ec k Dk → PySem.W.exmOne X.K (.ref Dc) (.ref Dk) = some r ∧ PySem.W.kitOne X.K (.ref Dc) (.ref Dk) = some r
  exC : ∀ c Dc, ec c Dc → ExcC X.K Dc
section
variable {T : Tab} {S : Scp} {X : Cx} {fa : Nat → Addr → Prop} {ec : Ecl} {b : Nat} {E : XK} {C : Cfg}
theorem sw_plain {v : Expr} {t : Option Expr} {l : Nat} {env : PySem.Env} (h : notComp v = true) : swapsWith v t l env = pure false := by
  cases v <;> first | rfl | (exact absurd h (by simp [notComp]))
theorem par_none {tx v : Expr} {env : PySem.Env} (h : notTuple v = true) : swappedStores [tx] v env = pure none := by
  cases v <;> first | (cases tx <;> rfl) | (exact absurd h (by simp [notTuple]))
theorem filter_lt {α β : Type} {f : α → Option β} : ∀ {l : List α}, (∃ x ∈ l, f x = none) → (l.filterMap f).length < l.length
  | [], ⟨_, h, _⟩ => by cases h
  | y :: l, ⟨x, h, e⟩ => by
    have le : (l.filterMap f).length ≤ l.length := List.length_filterMap_le f l
    cases q : f y with
    | none => rw [List.filterMap_cons_none q, List.length_cons]; omega
    | some z =>
      rw [List.filterMap_cons_some q, List.length_cons, List.length_cons]
      have : x ∈ l := (List.mem_cons.mp h).resolve_left fun z => by rw [z, q] at e; cases e
      have := filter_lt ⟨x, this, e⟩
      omega
theorem block_fn {env : PySem.Env} (h : env.scope.kind = .function) : env.blockKind = .function := by
  unfold Env.blockKind; rw [h]; rfl
theorem not1 {a : Bool} (h : (!a) = true) : a = false := by cases a <;> simp_all
def starB : Expr → Bool
  | .Starred _ _ => true
  | _ => false
def nmB (env : PySem.Env) (l : Nat) : Expr → Option Str
  | .Name id pos => if env.kindOf id == some .local && pos.line == l then some id else none
  | _ => none
theorem no_star {e : Expr} (h : notStar e = true) : starB e = false := by
  cases e <;> first | rfl | (exact absurd h (by simp [notStar]))
theorem swapped_some {ts vs : List Expr} {kt k2 : Nat} {pt p2 : Pos} {env : PySem.Env} {names : List Str} (h1 : (!(ts.length == 2 || ts.length == 3) || vs.length != ts.length || env.blockKind != .function) = false) (h2 : vs.any starB = false)
    (h3 : ts.filterMap (nmB env ((ts.head?.map (·.pos.line)).getD 0)) = names) (h4 : (names.length != ts.length || names.eraseDups.length != names.length) = false) (h5 : vs.all (foldedForSure 8) = false) (h6 : vs.all (constantsAlone 8) = false) :
    swappedStores [.Tuple ts kt pt] (.Tuple vs k2 p2) env = pure (some names) := by
  unfold swappedStores
  refine (if_neg (by rw [h1]; exact Bool.false_ne_true)).trans ?_
  refine (if_neg (fun z => ?_)).trans ?_
  · have z : vs.any starB = true := z
    rw [h2] at z; cases z
  refine (if_neg (fun z => ?_)).trans ?_
  · have z : ((ts.filterMap (nmB env ((ts.head?.map (·.pos.line)).getD 0))).length != ts.length || (ts.filterMap (nmB env ((ts.head?.map (·.pos.line)).getD 0))).eraseDups.length != (ts.filterMap (nmB env ((ts.head?.map (·.pos.line)).getD 0))).length) = true := z
    rw [h3, h4] at z; cases z
  refine (if_neg (by rw [h5]; exact Bool.false_ne_true)).trans ?_
  refine (if_neg (by rw [h6]; exact Bool.false_ne_true)).trans ?_
  show pure (some (ts.filterMap (nmB env ((ts.head?.map (·.pos.line)).getD 0)))) = _
  rw [h3]
theorem par_cell (h : XOkS T S X fa ec b E C) {tx v : Expr} (q : anyCell S tx v = true) : swappedStores [tx] v X.env = pure none := by
  unfold anyCell at q
  split at q
  · rename_i ts kt pt vs k2 p2
    obtain ⟨x, hx, hn⟩ := List.any_eq_true.mp q
    have z : ∀ l, nmB X.env l x = none := fun l => by
      cases x with
      | Name n p =>
        have hn' : locB S n = false := not1 hn
        show (if (X.env.kindOf n == some NameKind.local && p.line == l) = true then some n else none) = none
        rw [if_neg]
        intro c
        have c1 := (Bool.and_eq_true_iff.mp c).1
        have c2 : X.env.scope.names.lookup n = some .local := by simpa [Env.kindOf] using c1
        rw [h.sc] at c2
        unfold locB kOf at hn'
        rw [c2] at hn'
        cases hn'
      | _ => rfl
    have lt : ∀ l, (ts.filterMap (nmB X.env l)).length < ts.length := fun l => filter_lt ⟨x, hx, z l⟩
    unfold swappedStores
    by_cases c1 : (!(ts.length == 2 || ts.length == 3) || vs.length != ts.length || X.env.blockKind != .function) = true
    · exact if_pos c1
    · refine (if_neg c1).trans ?_
      by_cases c2 : (vs.any starB) = true
      · exact if_pos c2
      · refine (if_neg c2).trans (if_pos ?_)
        show ((ts.filterMap (nmB X.env ((ts.head?.map (·.pos.line)).getD 0))).length != ts.length || _) = true
        have := lt ((ts.head?.map (·.pos.line)).getD 0)
        rw [show ((ts.filterMap (nmB X.env ((ts.head?.map (·.pos.line)).getD 0))).length != ts.length) = true from bne_iff_ne.mpr (Nat.ne_of_lt this)]
        rfl
  · cases q
theorem nm_is {env : PySem.Env} {x : Str} {p : Pos} {l : Nat} (h : env.kindOf x = some .local) (hl : p.line = l) : nmB env l (.Name x p) = some x := by
  show (if (env.kindOf x == some NameKind.local && p.line == l) = true then some x else none) = some x
  rw [h, hl, if_pos (by simp)]
theorem ne_of {x y : Str} (h : (!(x == y)) = true) : x ≠ y := fun e => by rw [e] at h; simp at h
theorem par_two (h : XOkS T S X fa ec b E C) {x y : Str} {px py pt pos : Pos} {a c : Expr} {kt k2 : Nat} {p2 : Pos} (q : parB S x y px py pos a c = true) (sa : notStar a = true) (sc : notStar c = true) :
    swappedStores [.Tuple [.Name x px, .Name y py] kt pt] (.Tuple [a, c] k2 p2) X.env = pure (some [x, y]) := by
  obtain ⟨q, q6⟩ := and1 q
  obtain ⟨q, q5⟩ := and1 q
  obtain ⟨q, q4⟩ := and1 q
  obtain ⟨q, q3⟩ := and1 q
  obtain ⟨q1, q2⟩ := and1 q
  have hl := of_decide_eq_true q3
  refine swapped_some (by rw [block_fn h.kind]; rfl) (by simp only [List.any_cons, List.any_nil, no_star sa, no_star sc]; rfl) ?_ ?_ (not1 q5) (not1 q6)
  · show [Expr.Name x px, Expr.Name y py].filterMap (nmB X.env px.line) = _
    simp only [List.filterMap_cons, List.filterMap_nil, nm_is (h.loc q1) rfl, nm_is (h.loc q2) hl.symm]
  · have e1 : (y == x) = false := by
      rw [beq_eq_false_iff_ne]; exact fun e => ne_of q4 e.symm
    simp [List.eraseDups, List.eraseDupsBy, List.eraseDupsBy.loop, e1]
theorem par_three (h : XOkS T S X fa ec b E C) {x y z : Str} {px py pz pt pos : Pos} {a c d : Expr} {kt k2 : Nat} {p2 : Pos} (q : parB3 S x y z px py pz pos a c d = true) (sa : notStar a = true) (sc : notStar c = true) (sd : notStar d = true) :
    swappedStores [.Tuple [.Name x px, .Name y py, .Name z pz] kt pt] (.Tuple [a, c, d] k2 p2) X.env = pure (some [x, y, z]) := by
  obtain ⟨q, q10⟩ := and1 q
  obtain ⟨q, q9⟩ := and1 q
  obtain ⟨q, q8⟩ := and1 q
  obtain ⟨q, q7⟩ := and1 q
  obtain ⟨q, q6⟩ := and1 q
  obtain ⟨q, q5⟩ := and1 q
  obtain ⟨q, q4⟩ := and1 q
  obtain ⟨q, q3⟩ := and1 q
  obtain ⟨q1, q2⟩ := and1 q
  have hl := of_decide_eq_true q4
  have hl2 := of_decide_eq_true q5
  refine swapped_some (by rw [block_fn h.kind]; rfl) (by simp only [List.any_cons, List.any_nil, no_star sa, no_star sc, no_star sd]; rfl) ?_ ?_ (not1 q9) (not1 q10)
  · show [Expr.Name x px, Expr.Name y py, Expr.Name z pz].filterMap (nmB X.env px.line) = _
    simp only [List.filterMap_cons, List.filterMap_nil, nm_is (h.loc q1) rfl, nm_is (h.loc q2) hl.symm, nm_is (h.loc q3) hl2.symm]
  · have e1 : (y == x) = false := by
      rw [beq_eq_false_iff_ne]; exact fun e => ne_of q6 e.symm
    have e2 : (z == x) = false := by
      rw [beq_eq_false_iff_ne]; exact fun e => ne_of q7 e.symm
    have e3 : (z == y) = false := by
      rw [beq_eq_false_iff_ne]; exact fun e => ne_of q8 e.symm
    simp [List.eraseDups, List.eraseDupsBy, List.eraseDupsBy.loop, e1, e2, e3]
theorem lc_sw (h : XOkS T S X fa ec b E C) {x : Str} {p p2 : Pos} {elt : Expr} {gs : List Comprehension} {scope : Scope} {l : Nat} (q : lcB S x p scope p2 = true) : X.env.scope.names.lookup x = some .local ∧ swapsWith (.ListComp elt gs scope p2) (some (.Name x p)) l X.env = pure true := by
  obtain ⟨q, q3⟩ := and1 q
  obtain ⟨q1, q2⟩ := and1 q
  exact ⟨h.loc q1, sw_true h.kind (h.loc q1) q2 (not1 q3)⟩
theorem cons_eq (C : Cfg) (s : Ev.S) (ss : Ss) : (fun ρ => exSs C ρ (.cons s ss)) = fun ρ => M.thn (exS C ρ s) (flowK fun ρ => exSs C ρ ss) := by
  funext ρ
  rw [exSs]
  all_goals (congr 1)
theorem frz_eq (C : Cfg) (i : Nat) (ss : Ss) : (fun ρ => exSs C ρ (.cons (.freeze i) ss)) = fun ρ => M.thn (M.thn (getE ρ i) fun x => fun st => match x with
    | .ref l => match st[l]? with
      | some (.lst xs) => .ok (.next (ρ.set i (some (.lst xs)))) (st.set l .dead)
      | some (.dct ks vs) => .ok (.next (ρ.set i (some (.dct ks vs)))) (st.set l .dead)
      | _ => .bad
    | _ => .bad) (flowK fun ρ => exSs C ρ ss) := by
  rw [cons_eq]
  funext ρ
  rw [exS]
  all_goals rfl
theorem try_eq (C : Cfg) (i : Nat) (b : Ss) (hall : Nat) (cs : List (Nat × D)) (d : D) : (fun ρ => exS C ρ (.tryA i b hall cs d)) = fun ρ => fun st => match (fun ρ => exSs C ρ b) ρ st with
      | .exc c st' => (match C.exm c hall with
        | some true => (match catchD C.exm c cs d with
          | some d' => .ok (.ret d') st'
          | none => .bad)
        | some false => .exc c st'
        | none => .bad)
      | r => r := by
  funext ρ st
  rw [exS]
  all_goals rfl
theorem tup_one {tx : Expr} {env : PySem.Env} (h : isTuple tx = true) : (assignEach [tx] env).map (·.2) = [assign tx env] := by
  cases tx <;> first | rfl | (exact absurd h (by simp [isTuple]))
theorem asg_sub {o i : Expr} {p : Pos} {env : PySem.Env} {v : Value} (h : notSlice i = true) : assign (.Subscript o i p) env v = (do
      let ov ← holding [v] (eval o env)
      let iv ← holding [v, ov] (eval i env)
      standAt p
      holding [v, ov, iv] (setItem ov iv v)
      release [v, ov, iv] []) := by
  cases i <;> first | rfl | (exact absurd h (by simp [notSlice]))
theorem sole_plain {v t : Expr} {l : Nat} {env : PySem.Env} (h : notComp v = true) : swapsWithSole [t] v l env = pure false := sw_plain (t := some t) (l := l) (env := env) h
theorem sub_none {o i v : Expr} {p : Pos} {env : PySem.Env} : swappedStores [.Subscript o i p] v env = pure none := by
  cases v <;> rfl
theorem comp_ok {W : WX} (h : XOk T S X fa ec b W C) {own : List Nat} {elt : Ev.E} {tg : Tg} {it : It} {c : O} {el tx ix : Expr} {ifs : List Expr} {a : Int} {scope : Scope} {p : Pos} (q : chkN T S (.comp own elt tg it c) (.ListComp el [⟨tx, ix, ifs, a⟩] scope p) = true) (ex : List Addr) :
    a = 0 ∧ CompOk X ⟨X.K, fa, ec, ex⟩ b W el tx ix ifs scope (ownS X.N own) tg (fun ρ => evIt C ρ it) (fun ρ => evC C ρ c) (fun ρ => evE C ρ elt) := by
  simp only [chkN] at q
  obtain ⟨q, q8⟩ := and1 q
  obtain ⟨q, q7⟩ := and1 q
  obtain ⟨q, q6⟩ := and1 q
  obtain ⟨q, q5⟩ := and1 q
  obtain ⟨q, q4⟩ := and1 q
  obtain ⟨q, q3⟩ := and1 q
  obtain ⟨q1, q2⟩ := and1 q
  have ok := blkOk_by (by rw [← h.hN, ← h.sc] at q2; exact q2)
  exact ⟨of_decide_eq_true q1, snd_It h it _ _ q5 ex, ok, fun i hi => by rw [own_snd]; exact of_decide_eq_true (List.all_eq_true.mp q3 i hi), fun s H C cl fp ex' => snd_Tg (h.blk ok s H C cl fp) ex' tg _ q6, fun s H C cl fp ex' => snd_C (h.blk ok s H C cl fp) c _ q7 ex', fun s H C cl fp ex' => snd_E (h.blk ok s H C cl fp) elt _ q8 ex', folded q4 _⟩
theorem comp_ok2 {W : WX} (h : XOk T S X fa ec b W C) {own own1 : List Nat} {elt : Ev.E} {tg tg1 : Tg} {it it1 : It} {c c1 : O} {el tx ix tx1 ix1 : Expr} {ifs ifs1 : List Expr} {a a1 : Int} {scope : Scope} {p : Pos} (q : chkN T S (.comp2 own own1 elt tg it c tg1 it1 c1) (.ListComp el [⟨tx, ix, ifs, a⟩, ⟨tx1, ix1, ifs1, a1⟩] scope p) = true) (ex : List Addr) :
    a = 0 ∧ a1 = 0 ∧ CompOk2 X ⟨X.K, fa, ec, ex⟩ b W el tx ix ifs tx1 ix1 ifs1 scope (ownS X.N own) own1 tg tg1 (fun ρ => evIt C ρ it) (fun ρ => evC C ρ c) (fun ρ => evIt C ρ it1) (fun ρ => evC C ρ c1) (fun ρ => evE C ρ elt) := by
  simp only [chkN] at q
  obtain ⟨q, qE⟩ := and1 q
  obtain ⟨q, qC1⟩ := and1 q
  obtain ⟨q, qT1⟩ := and1 q
  obtain ⟨q, qI1⟩ := and1 q
  obtain ⟨q, qC⟩ := and1 q
  obtain ⟨q, qT⟩ := and1 q
  obtain ⟨q, qI⟩ := and1 q
  obtain ⟨q, qn1⟩ := and1 q
  obtain ⟨q, qn⟩ := and1 q
  obtain ⟨q, qs⟩ := and1 q
  obtain ⟨q, qv1⟩ := and1 q
  obtain ⟨q, qv⟩ := and1 q
  obtain ⟨q, qb⟩ := and1 q
  obtain ⟨q1, q2⟩ := and1 q
  have ok := blkOk_by (by rw [← h.hN, ← h.sc] at qb; exact qb)
  exact ⟨of_decide_eq_true q1, of_decide_eq_true q2, ⟨snd_It h it _ _ qI ex, ok, fun i hi => by rw [own_snd]; exact of_decide_eq_true (List.all_eq_true.mp qv i hi), fun s H C cl fp ex' => snd_Tg (h.blk ok s H C cl fp) ex' tg _ qT, fun s H C cl fp ex' => snd_C (h.blk ok s H C cl fp) c _ qC ex', fun s H C cl fp ex' => snd_E (h.blk ok s H C cl fp) elt _ qE ex', folded qn _⟩,
    fun i hi => of_decide_eq_true (List.all_eq_true.mp qv1 i hi), fun i hi => by rw [own_snd]; exact of_decide_eq_true (List.all_eq_true.mp qs i hi), fun s H C cl fp ex' => snd_It (h.blk ok s H C cl fp) it1 _ _ qI1 ex', fun s H C cl fp ex' => snd_Tg (h.blk ok s H C cl fp) ex' tg1 _ qT1, fun s H C cl fp ex' => snd_C (h.blk ok s H C cl fp) c1 _ qC1 ex', fun env => folded qn1 env⟩
theorem sw_cell (h : XOkS T S X fa ec b E C) {x : Str} {p p2 : Pos} {elt : Expr} {gs : List Comprehension} {scope : Scope} {l : Nat} (q : cellKB S x = true) : swapsWith (.ListComp elt gs scope p2) (some (.Name x p)) l X.env = pure false := by
  unfold cellKB kOf at q
  have hk : X.env.kindOf x = some .cell := by
    show X.env.scope.names.lookup x = _
    rw [h.sc]
    split at q
    · assumption
    · cases q
  show (pure (X.env.blockKind == .function && X.env.kindOf x == some .local && _ && _) : Sem Bool) = _
  rw [hk]
  have : ((some NameKind.cell : Option NameKind) == some .local) = false := by decide
  rw [this, Bool.and_false, Bool.false_and, Bool.false_and]
/-- a comprehension, as a new list -/
theorem snd_lc (h : XOkS T S X fa ec b E C) {i : Nat} {x : Str} {p p2 pos : Pos} {el : Expr} {gs : List Comprehension} {scope : Scope} (n : N) (nf : List D → M D) (hi : X.N[i]? = some x) (q6 : lcB S x p scope p2 = true) (q : chkN T S n (.ListComp el gs scope p2) = true) (ex : List Addr)
    (hn : ∀ {f : Ev.Env → M (List D)} {σ H Q}, tE ⟨X.K, fa, ec, ex⟩ b (wE E) (fun ρ => M.thn (f ρ) nf) σ H Q → tN ⟨X.K, fa, ec, ex⟩ b (wE E) f σ H Q) :
    PS X (.Assign [.Name x p] (.ListComp el gs scope p2) pos) (tS ⟨X.K, fa, ec, ex⟩ b E fun ρ => M.thn (M.thn (evN C ρ n) nf) fun d => M.thn (M.ret (ρ.set i (some d))) fun ρ => M.ret (.next ρ)) := by
  obtain ⟨hx, hsw⟩ := lc_sw (gs := gs) (elt := el) (l := pos.line) h q6
  cases n with
  | lst es => simp [chkN] at q
  | listOf a =>
    simp only [chkN] at q
    cases q
  | rep n k =>
    simp only [chkN] at q
    cases q
  | cat a c =>
    simp only [chkN] at q
    cases q
  | comp own elt tg it c =>
    have q0 := q
    simp only [chkN] at q
    split at q
    · rename_i heq
      cases heq
      obtain ⟨rfl, ok⟩ := comp_ok h.toXOk q0 ex
      have key := ss_lc (pos := pos) h.calm h.nd ok hi hx hsw hn
      simp only [own_snd] at key
      simp only [evN]
      exact key
    · cases q
  | comp2 own own1 elt tg it c tg1 it1 c1 =>
    have q0 := q
    simp only [chkN] at q
    split at q
    · rename_i heq
      cases heq
      obtain ⟨rfl, rfl, ok⟩ := comp_ok2 h.toXOk q0 ex
      have key := ss_lc2 (pos := pos) h.calm h.nd ok hi hx hsw hn
      simp only [own_snd] at key
      simp only [evN]
      exact key
    · cases q
theorem chain_ok (h : XOkS T S X fa ec b E C) {x : Str} : ∀ (cs : List (Nat × D)) (d : D) (e : Expr), chkCh T S x cs d e = true → Chain X ec x cs d e
  | [], d, e, q => by
    simp only [chkCh] at q
    split at q
    · exact .last q
    · cases q
  | (n, d1) :: r, d, e, q => by
    simp only [chkCh] at q
    split at q
    · obtain ⟨q, q8⟩ := and1 q
      obtain ⟨q, q7⟩ := and1 q
      obtain ⟨q, q6⟩ := and1 q
      obtain ⟨q, q5⟩ := and1 q
      obtain ⟨q, q4⟩ := and1 q
      obtain ⟨q, q3⟩ := and1 q
      obtain ⟨q1, q2⟩ := and1 q
      have e1 := of_decide_eq_true q1
      have e3 := of_decide_eq_true q3
      subst e1; subst e3
      have g := bltB1 h.toXOk q2
      obtain ⟨Cls, bmB, B, newId, initId, F, f1, f2, f3, f4, f5⟩ := h.exc _ _ (of_decide_eq_true q6)
      exact .more g.1 g.2 (h.gl q4) f2 (okN_db q5) f5 q7 (chain_ok h r d _ q8)
    · cases q
theorem XOkS.tr {E' : XK} (h : XOkS T S X fa ec b E C) {pn : List (Addr × Obj)} {xe : Value → Shared → Prop} (tk : Takes (X.tr pn xe) (wE E')) (own : PassesOwn (model X.prog X.w) X.A X.env xe) : XOkS T S (X.tr pn xe) fa ec b E' C :=
  ⟨⟨h.calm, h.hu, h.hg, h.nd, h.hN, h.sc, h.st, tk, h.call, h.blt, h.con, h.exmE, h.wd, h.lamc, h.faF⟩, h.kind, h.base, own, h.exc, h.stk, h.frm, h.exm, h.exC⟩
mutual
theorem snd_S {X : Cx} {E : XK} (h : XOkS T S X fa ec b E C) : ∀ (s : Ev.S) (x : Stmt), chkS T S s x = true → ∀ ex, PS X x (tS ⟨X.K, fa, ec, ex⟩ b E fun ρ => exS C ρ s)
  | .expr e, x, q, ex => by
    simp only [chkS] at q
    split at q
    · obtain ⟨q1, q2⟩ := and1 q
      simp only [exS]
      exact ss_expr (snd_E h.toXOk e _ q2 ex) (sw_plain q1)
    · cases q
  | .asg (.name i) e, x, q, ex => by
    simp only [chkS] at q
    split at q
    · obtain ⟨q, q4⟩ := and1 q
      obtain ⟨q, q3⟩ := and1 q
      obtain ⟨q1, q2⟩ := and1 q
      have hi := h.ix q1
      obtain ⟨l1, l2⟩ := h.st _ (of_decide_eq_true q2)
      simp only [exS, putT]
      split at q4
      · obtain ⟨q5, q6⟩ := and1 q4
        rcases Bool.or_eq_true_iff.mp q6 with q6 | q6
        case inr => exact ss_set h.nd hi l1 (snd_E h.toXOk e _ q3 ex) (sw_cell h q6) l2
        cases e with
        | new n =>
          simp only [chkE] at q3
          simp only [evE]
          exact snd_lc h n _ hi q6 q3 ex fun q => tN.new q
        | newm n =>
          simp only [chkE] at q3
          simp only [evE]
          exact snd_lc h n _ hi q6 q3 ex fun q => tN.newm q
        | _ => cases q5
      · exact ss_set h.nd hi l1 (snd_E h.toXOk e _ q3 ex) (sw_plain q4) l2
    · cases q
  | .asg (.tg t) e, x, q, ex => by
    simp only [chkS] at q
    split at q
    · obtain ⟨q, q5⟩ := and1 q
      obtain ⟨q, q4⟩ := and1 q
      obtain ⟨q, q3⟩ := and1 q
      obtain ⟨q1, q2⟩ := and1 q
      simp only [exS, putT]
      exact ss_asg (snd_E h.toXOk e _ q5 ex) (snd_Tg h.toXOk ex t _ q4) (sole_plain q3) ((Bool.or_eq_true_iff.mp q2).elim par_none (par_cell h)) (tup_one q1)
    · cases q
  | .asg (.idx o i) e, x, q, ex => by
    simp only [chkS] at q
    split at q
    · obtain ⟨q, q5⟩ := and1 q
      obtain ⟨q, q4⟩ := and1 q
      obtain ⟨q, q3⟩ := and1 q
      obtain ⟨q1, q2⟩ := and1 q
      simp only [exS, putT]
      exact ss_ix h.base (snd_E h.toXOk e _ q5 ex) (snd_E h.toXOk o _ q3 ex) (snd_E h.toXOk i _ q4 ex) (fun v => asg_sub q1) (sole_plain q2) sub_none rfl
    · cases q
  | .par ts es, x, q, ex => by
    simp only [chkS] at q
    split at q
    · split at q
      · obtain ⟨q, q7⟩ := and1 q
        obtain ⟨q, q6⟩ := and1 q
        obtain ⟨q, q5⟩ := and1 q
        obtain ⟨q, q4⟩ := and1 q
        obtain ⟨q, q3⟩ := and1 q
        obtain ⟨q1, q2⟩ := and1 q
        have hp := and1 (and1 (and1 (and1 (and1 q4).1).1).1).1
        simp only [exS]
        exact ss_par h.calm h.nd (h.ix q1) (h.ix q2) (of_decide_eq_true q3) (h.loc hp.1) (h.loc hp.2) (snd_Es h.toXOk es _ q7 ex) (par_two h q4 q5 q6) rfl
      · cases q
    · split at q
      · obtain ⟨q, q11⟩ := and1 q
        obtain ⟨q, q10⟩ := and1 q
        obtain ⟨q, q9⟩ := and1 q
        obtain ⟨q, q8⟩ := and1 q
        obtain ⟨q, q7⟩ := and1 q
        obtain ⟨q, q6⟩ := and1 q
        obtain ⟨q, q5⟩ := and1 q
        obtain ⟨q, q4⟩ := and1 q
        obtain ⟨q, q3⟩ := and1 q
        obtain ⟨q1, q2⟩ := and1 q
        have hp := and1 (and1 (and1 (and1 (and1 (and1 (and1 (and1 q7).1).1).1).1).1).1).1
        have hp2 := and1 hp.1
        simp only [exS]
        exact ss_par3 h.calm h.nd (h.ix q1) (h.ix q2) (h.ix q3) (of_decide_eq_true q4) (of_decide_eq_true q5) (of_decide_eq_true q6) (h.loc hp2.1) (h.loc hp2.2) (h.loc hp.2) (snd_Es h.toXOk es _ q11 ex) (par_three h q7 q8 q9 q10) rfl
      · cases q
    · cases q
  | .augn op i e, x, q, ex => by
    simp only [chkS] at q
    split at q
    · obtain ⟨q, q5⟩ := and1 q
      obtain ⟨q, q4⟩ := and1 q
      obtain ⟨q, q3⟩ := and1 q
      obtain ⟨q1, q2⟩ := and1 q
      have e1 := of_decide_eq_true q1
      subst e1
      obtain ⟨l1, l2⟩ := h.st _ (of_decide_eq_true q4)
      simp only [exS]
      exact ss_aug ((Bool.or_eq_true_iff.mp q2).elim (fun z => .inl (of_decide_eq_true z)) fun z => .inr (of_decide_eq_true z)) h.nd (h.ix q3) l1 (snd_E h.toXOk e _ q5 ex) l2
    · cases q
  | .app o e, x, q, ex => by
    simp only [chkS] at q
    split at q
    · obtain ⟨q, q6⟩ := and1 q
      obtain ⟨q, q5⟩ := and1 q
      obtain ⟨q, q4⟩ := and1 q
      obtain ⟨q, q3⟩ := and1 q
      obtain ⟨q1, q2⟩ := and1 q
      have e1 := of_decide_eq_true q1
      subst e1
      simp only [exS]
      exact ss_app rfl h.base (snd_E h.toXOk o _ q5 ex) (snd_E h.toXOk e _ q6 ex) (base_name q2) (by rw [star_one q4]; rfl) q3 (star_one q4) rfl
    · cases q
  | .ret e, x, q, ex => by
    simp only [chkS] at q
    split at q
    · simp only [exS]; exact ss_ret (snd_E h.toXOk e _ q ex)
    · cases q
  | .retN, x, q, ex => by
    simp only [chkS] at q
    split at q
    · simp only [exS]; exact ss_retN
    · cases q
  | .pass, x, q, ex => by
    simp only [chkS] at q
    split at q
    · simp only [exS]; exact ss_pass
    · cases q
  | .brk, x, q, ex => by
    simp only [chkS] at q
    split at q
    · simp only [exS]; exact ss_brk
    · cases q
  | .iff c a d, x, q, ex => by
    simp only [chkS] at q
    split at q
    · obtain ⟨q, q3⟩ := and1 q
      obtain ⟨q1, q2⟩ := and1 q
      simp only [exS]
      exact ss_if (snd_T h.toXOk c _ q1 ex).1 (snd_Ss h a _ q2 ex) (snd_Ss h d _ q3 ex)
    · cases q
  | .for t it d, x, q, ex => by
    simp only [chkS] at q
    split at q
    · obtain ⟨q, q4⟩ := and1 q
      obtain ⟨q, q3⟩ := and1 q
      obtain ⟨q1, q2⟩ := and1 q
      simp only [exS]
      exact ss_for h.own h.calm (snd_It h.toXOk it _ _ q3 ex) (snd_Tg h.toXOk ex t _ q2) (snd_Ss h d _ q4 ex) (folded q1 _)
    · cases q
  | .whl c d, x, q, ex => by
    simp only [chkS] at q
    split at q
    · obtain ⟨q1, q2⟩ := and1 q
      simp only [exS]
      exact ss_while h.own (snd_T h.toXOk c _ q1 ex).1 (snd_Ss h d _ q2 ex)
    · cases q
  | .raise c msg, x, q, ex => by
    simp only [chkS] at q
    split at q
    · obtain ⟨q, q3⟩ := and1 q
      obtain ⟨q1, q2⟩ := and1 q
      obtain ⟨Cls, bmB, B, newId, initId, F, e1, e2, e3, e4, e5⟩ := h.exc _ _ (of_decide_eq_true q1)
      simp only [exS]
      exact ss_raise h.calm h.tk F e1 e2 e3 e4 (h.gl q2) (okN_db q3) e5
    · cases q
  | .freeze i, x, q, ex => by simp [chkS] at q
  | .augl i e, x, q, ex => by
    simp only [chkS] at q
    split at q
    · obtain ⟨q, q3⟩ := and1 q
      obtain ⟨q1, q2⟩ := and1 q
      obtain ⟨l1, l2⟩ := h.st _ (of_decide_eq_true q2)
      simp only [exS]
      exact ss_augl h.base h.nd (h.ix q1) l1 (snd_E h.toXOk e _ q3 ex) l2
    · cases q
  | .tryA i d hall cs dd, x, q, ex => by
    simp only [chkS] at q
    split at q
    · obtain ⟨q, q8⟩ := and1 q
      obtain ⟨q, q7⟩ := and1 q
      obtain ⟨q, q6⟩ := and1 q
      obtain ⟨q, q5⟩ := and1 q
      obtain ⟨q, q4⟩ := and1 q
      obtain ⟨q, q3⟩ := and1 q
      obtain ⟨q1, q2⟩ := and1 q
      obtain ⟨Cls, bmB, B, newId, initId, F, f1, f2, f3, f4, f5⟩ := h.exc _ _ (of_decide_eq_true q6)
      have key := fun np p2 pos' pos => ss_tryA (G := ⟨X.K, fa, ec, ex⟩) (exm := C.exm) (np := np) (p2 := p2) (pos' := pos') (pos := pos) h.stk h.frm h.nd (h.ix q1) (h.loc q2) (okN_db q3) (okN_cd q3) h.tk (h.gl q4) f2 (okN_db q5) f5 (chain_ok h cs dd _ q7) (fun c k r Dc Dk z h1 h2 => h.exm c k r Dc Dk z h1 h2) (fun c Dc h1 => h.exC c Dc h1)
        (fun E' pn xe tk own => snd_Ss (h.tr tk own) d _ q8 ex)
      have e1 : (fun ρ => exS C ρ (.tryA i d hall cs dd)) = _ := try_eq C i d hall cs dd
      rw [e1]
      exact key _ _ _ _
    · cases q
theorem snd_Ss {X : Cx} {E : XK} (h : XOkS T S X fa ec b E C) : ∀ (s : Ss) (x : List Stmt), chkSs T S s x = true → ∀ ex, PSs X x (tS ⟨X.K, fa, ec, ex⟩ b E fun ρ => exSs C ρ s)
  | .nil, x, q, ex => by
    simp only [chkSs] at q
    cases x with
    | nil => simp only [exSs]; exact sss_nil
    | cons _ _ => cases q
  | .cons s ss, x, q, ex => by
    simp only [chkSs] at q
    rcases Bool.or_eq_true_iff.mp q with q | q
    · obtain ⟨q1, q2⟩ := and1 q
      cases s with
      | freeze i =>
        have key := sss_freeze (i := i) (snd_Ss h ss _ q2 ex)
        have e1 : (fun ρ => exSs C ρ (.cons (.freeze i) ss)) = _ := frz_eq C i ss
        rw [e1]
        exact key
      | _ => cases q1
    · split at q
      · obtain ⟨q1, q2⟩ := and1 q
        have key := sss_cons (snd_S h s _ q1 ex) (snd_Ss h ss _ q2 ex)
        rw [cons_eq C s ss]
        exact key
      · cases q
end
end
end Ev
set_option linter.all false
set_option maxRecDepth 100000
/-! Ev17: defs entered, the whole program. -/
namespace Ev
open PySem PySem.Spec PyProof.Rows L2
section
variable {Pr : Program} {w : World} {K : PySem.W.Frag} {mg : Str → Option Value} {base : Heap} {fa : Nat → Addr → Prop} {ec : Ecl} {gq : Bool}
theorem env_start {G : Gd} {H : Hp} {m : List Addr} {st : Store} {N : List Str} {vs : List V} {ds : List D} (r : RpAll G H m (Lv G m st) vs ds) : EnvR G H m st (L2.start N vs) (ds.map some ++ List.replicate (N.length - ds.length) none) := by
  have hl := r.length
  refine ⟨?_, fun i d q => ?_⟩
  · unfold L2.start
    simp [hl]
  · by_cases hi : i < ds.length
    · rw [List.getElem?_append_left (by rw [List.length_map]; exact hi), List.getElem?_map, List.getElem?_eq_getElem hi] at q
      obtain ⟨v, h1, h2⟩ := r.get (i := i) (d := d) (by rw [List.getElem?_eq_getElem hi]; simpa using q)
      refine ⟨v, ?_, h2⟩
      unfold L2.start
      rw [List.getElem?_append_left (by rw [List.length_map, hl]; exact hi), List.getElem?_map, h1]
      rfl
    · rw [List.getElem?_append_right (by rw [List.length_map]; omega), List.getElem?_replicate] at q
      split at q <;> cases q
/-- a def of the text, run by its body -/
theorem run_body {call' : Nat → List D → M D} {fuel k : Nat} {exm : Nat → Nat → Option Bool} {F : Fn} {a : Addr} {fd : FuncData} {x qual : Str} {params : Arguments} {body : List Stmt} {scope : Scope} {kws : List (Str × V)} (Fd : FunD K x qual params body scope [] kws a fd) (Sc : FnScope F.slots F.ps scope)
    (hbody : ∀ (cdv : Value) (A : Around) (outer : List PySem.Env) (s : Shared) (H : Hp) (E : XK) (b : Nat) (ex : List Addr), Room k (A.deeper (envOfC qual scope s.heap.objs.size a cdv)) → (gq = true → A.guards = some []) →
      (∃ (oc : Value) (od : Option Addr) (dV kV doc pm : Value) (an : Option Addr) (ct : Value) (osl : Array (Option Value)), K.lookup a = some ⟨oc, od, .func (PySem.W.fnOf x qual params body scope dV kV doc pm an cdv ct), osl⟩) →
      PSs (cxOf (L2.CX Pr w) Pr w K mg base F.slots qual scope a cdv A outer s H E) body (tS ⟨K, fa, ec, ex⟩ b E fun ρ => exSs ⟨call', b, fuel, exm⟩ ρ F.body)) :
    RunG Pr w K mg base fa ec gq (runF call' fuel exm F) (k + 1) a fd F.ps := by
  obtain ⟨oc, od, dV, kV, doc, pm, an, cdv, ct, osl, rfl, lk, hcd, _, _⟩ := Fd.ex
  intro A outer s H us vs Q E ex ds m st hr hgd e0 hb rv hl S rp hq
  have inK : K.In s.heap := e0.mod.kin.keeps fun c o e => (e0.bs c o e).1
  have noLim : s.heap.NoLimit := e0.mod.nolimit.keeps fun c o e => (e0.bs c o e).1
  have kinds : ∀ y ∈ F.ps.zip us, scope.names.lookup y.1 = some .local ∨ (scope.names.lookup y.1 = some .cell ∧ ((cellsFrom (s.heap.objs.size + 1) scope.names []).lookup y.1).isSome = true) := by
    rintro ⟨n, v⟩ hy
    exact (Sc.par n (List.of_mem_zip hy).1).elim .inl fun z => .inr ⟨z, PySem.W.cellsFrom_some _ _ _ (.inl z)⟩
  refine codeAny_call_function hr.depth (inK _ _ lk) rfl Sc.co Sc.gen rfl (PySem.W.codeRec_of inK hcd) (hb _ _ _ _ ?_)
  refine wpAny_newFunctionEnv_cells Sc.kind kinds fun env he s1 xx => ?_
  subst he
  refine ⟨noLim.keeps xx.toInCall.keep, codeAny_func ?_⟩
  have I := inv_start (CX := L2.CX Pr w) (N := F.slots) (E := E) Sc hr.hd e0 (rv.length.trans hl) rv xx
  have hp := hbody cdv A outer s H E st.length ex (hr.deeper _) hgd ⟨oc, od, dV, kV, doc, pm, an, ct, osl, lk⟩
  have hlen : ds.length = F.ps.length := by rw [← rp.length, rv.length, hl]
  have hq' : tS ⟨K, fa, ec, ex⟩ st.length E (fun ρ => exSs ⟨call', st.length, fuel, exm⟩ ρ F.body) { nx := fun _ H' => Q .non H', rt := Q } (L2.start F.slots vs) H := by
    refine ⟨_, m, st, env_start rp, S, ?_⟩
    simp only [runF, if_pos hlen] at hq
    show After _ _ _ _ _ _ _ (exSs ⟨call', st.length, fuel, exm⟩ (ds.map some ++ List.replicate (F.slots.length - ds.length) none) F.body st)
    cases q : exSs ⟨call', st.length, fuel, exm⟩ (ds.map some ++ List.replicate (F.slots.length - ds.length) none) F.body st with
    | bad => rw [q] at hq; exact hq.elim
    | exc c st' =>
      rw [q] at hq
      intro H' m' S' E'
      obtain ⟨S2, E2, _⟩ := S.cut S' E'
      exact hq H' _ S2 E2
    | ok fl st' =>
      rw [q] at hq
      intro H' m' S' E'
      cases fl with
      | brk ρ => exact hq.elim
      | next ρ =>
        intro σ er
        obtain ⟨m2, st2, d2, h1, h2⟩ := leave_ok (v := .non) S hq S' E' .non
        exact h1 _ h2
      | ret d =>
        intro v r
        obtain ⟨m2, st2, d2, h1, h2⟩ := leave_ok S hq S' E' r
        exact h1 _ h2
  refine wpAny_mono (hp.run [] s1 _ H _ I hq') (fun fl s' hs => ?_) fun e s' hs => hs
  cases fl with
  | ret u =>
    obtain ⟨v, σ', H', J, ru, q⟩ := hs
    exact ⟨v, H', J.os, J.bare, J.base, J.hok, ru, q⟩
  | next =>
    obtain ⟨σ', H', J, q⟩ := hs
    exact ⟨V.non, H', J.os, J.bare, J.base, J.hok, rfl, q⟩
  | brk => obtain ⟨_, _, _, q⟩ := hs; exact q.elim
  | cont => obtain ⟨_, _, _, q⟩ := hs; exact q.elim
end
/-- what may be stored to in a def -/
def stOf (sc : Scope) : List Str := (sc.names.filter fun y => decide (sc.names.lookup y.1 = some .local) || decide (sc.names.lookup y.1 = some .cell)).map (·.1)
/-- plain parameters -/
def parsB (p : Arguments) (ps : List Str) : Bool := p.posonlyargs.isEmpty && p.vararg.isNone && p.kwonlyargs.isEmpty && p.kwarg.isNone && p.defaults.isEmpty
def chkF (T : Tab) (F : Fn) (d : He.DefD) : Bool := decide (d.name = F.name) && C8.scC F.slots F.ps d.scope && (!decide (F.name ∈ T.lams) || decide (d.qual = F.name)) && chkSs T ⟨F.slots, d.scope, stOf d.scope, decide (F.name ∈ T.lams)⟩ F.body d.body
theorem st_of {sc : Scope} {x : Str} (h : x ∈ stOf sc) : Loc sc x := by
  obtain ⟨y, hy, rfl⟩ := List.mem_map.mp h
  have := (List.mem_filter.mp hy).2
  exact (Bool.or_eq_true_iff.mp this).elim (fun z => .inl (of_decide_eq_true z)) fun z => .inr (of_decide_eq_true z)
/-- what is known of the text as it stands behind the top -/
structure Head (T : Tab) (Pr : Program) (w : World) (K : PySem.W.Frag) (mg : Str → Option Value) (base : Heap) (fa : Nat → Addr → Prop) (ec : Ecl) : Prop where
  fn : ∀ f F, T.P.find f = some F → ∃ (d : He.DefD) (a : Addr) (fd : FuncData), chkF T F d = true ∧ mg F.name = some (.ref a) ∧ fa f a ∧ FunD K d.name d.qual d.params d.body d.scope [] [] a fd ∧ Binds K fd F.ps []
  blt : ∀ x ∈ T.bl, mg x = none
  con : ∀ p ∈ T.consts, ∃ u v, mg p.1 = some u ∧ RelV v u ∧ ∀ ex H m L, Rp ⟨K, fa, ec, ex⟩ H m L v p.2
  exc : ∀ n c, (n, c) ∈ T.excs → ∃ (Cls : Addr) (bmB : List Value) (B newId initId : String), ExcBaseFacts B newId initId bmB ∧ PySem.W.excIn K Cls bmB newId = true ∧ mg n = some (.ref Cls) ∧ PySem.W.keepIn K (.ref Cls) = true ∧ (∀ X : Cx, X.K = K → X.mg = mg → X.base = base → Raises X (.ref Cls)) ∧ ec c Cls
  exm : ∀ c k r Dc Dk, T.exmF c k = some r → ec c Dc → ec k Dk → PySem.W.exmOne K (.ref Dc) (.ref Dk) = some r ∧ PySem.W.kitOne K (.ref Dc) (.ref Dk) = some r
  exC : ∀ c Dc, ec c Dc → ExcC K Dc
  wd : ∀ w ∈ T.words, WordG K mg ec w
  faU : ∀ f a a', fa f a → fa f a' → a = a'
  faF : ∀ f a, fa f a → ∃ F, T.P.find f = some F
  lams : ∀ n ∈ T.lams, ∃ c P, (∀ (a : Addr) (oc : Value) (od : Option Addr) (x q : Str) (p : Arguments) (bd : List Stmt) (sc : Scope) (dV kV doc pm : Value) (an : Option Addr) (cdv ct : Value) (osl : Array (Option Value)),
      mg n = some (.ref a) → K.lookup a = some ⟨oc, od, .func (PySem.W.fnOf x q p bd sc dV kV doc pm an cdv ct), osl⟩ → cdv = .ref c) ∧
    (P, n ++ ".<locals>." ++ "<lambda>") ∈ ec.tb ∧ (∀ p ∈ ec.tb, p.1 = P → p.2 = n ++ ".<locals>." ++ "<lambda>") ∧ LamX.TabB base mg c P
theorem calls {T : Tab} {Pr : Program} {w : World} {K : PySem.W.Frag} {mg : Str → Option Value} {base : Heap} {fa : Nat → Addr → Prop} {ec : Ecl} {fuel : Nat} (h : Head T Pr w K mg base fa ec) :
    ∀ (n f : Nat) (F : Fn), T.P.find f = some F → CallG Pr w K mg base fa ec T.rp (callN T.P fuel T.exmF n) (3 * n) f F
  | 0, f, F, hf => by
    obtain ⟨d, a, fd, hc, hm, ha, Fd, bi⟩ := h.fn f F hf
    refine ⟨⟨a, fd, hm, ha, Fd.kp, bi, ?_⟩, fun ds st q => absurd rfl q, h.faU f⟩
    intro A outer s H us vs Q E ex ds m st hr hgd e0 hb rv hl S rp hq
    exact hq.elim
  | n + 1, f, F, hf => by
    obtain ⟨d, a, fd, hc, hm, ha, Fd, bi⟩ := h.fn f F hf
    have e1 : callN T.P fuel T.exmF (n + 1) f = runF (callN T.P fuel T.exmF n) fuel T.exmF F := by
      funext ds
      simp only [callN, hf]
    refine ⟨⟨a, fd, hm, ha, Fd.kp, bi, ?_⟩, fun ds st q => ?_, h.faU f⟩
    · rw [e1]
      obtain ⟨hc, c3⟩ := and1 hc
      obtain ⟨hc, c4⟩ := and1 hc
      obtain ⟨c1, c2⟩ := and1 hc
      refine run_body (k := 3 * n + 2) Fd (C8.fnScope_by c2) fun cdv A outer s H E b ex hr hgd hlk => ?_
      refine snd_Ss (T := T) (S := ⟨F.slots, d.scope, stOf d.scope, decide (F.name ∈ T.lams)⟩) (fa := fa) (ec := ec) (C := ⟨callN T.P fuel T.exmF n, b, fuel, T.exmF⟩) ⟨⟨rfl, ?_, hgd, (C8.fnScope_by c2).nd, rfl, rfl, fun x hx => ⟨st_of hx, .inl rfl⟩, ?_, ⟨3 * n, hr.mono (by split <;> omega), fun f F hf => calls h n f F hf⟩, h.blt, h.con, fun c k r Dc Dk e1 e2 e3 => (h.exm c k r Dc Dk e1 e2 e3).1, h.wd, fun hl => ?_, h.faF⟩, (C8.fnScope_by c2).kind, rfl, ?_, fun nm c hx => ?_, rfl, rfl, h.exm, h.exC⟩ F.body d.body c3 ex
      · have := hr.un
        show (A.deeper _).units + 66 < cLine
        omega
      · exact takes_of rfl rfl rfl rfl
      · have hl' : F.name ∈ T.lams := of_decide_eq_true hl
        have eq : d.qual = F.name := by
          have hl2 : decide (F.name ∈ T.lams) = true := hl
          rw [hl2] at c4
          exact of_decide_eq_true (by simpa using c4)
        obtain ⟨c, P, k1, k2, k3, k4⟩ := h.lams F.name hl'
        obtain ⟨oc, od, dV, kV, doc, pm, an, ct, osl, lk⟩ := hlk
        refine ⟨c, P, k1 a oc od _ _ _ _ _ dV kV doc pm an cdv ct osl hm lk, ?_, ?_, k4⟩
        · show (P, (d.qual ++ ".<locals>.") ++ "<lambda>") ∈ ec.tb
          rw [eq]; exact k2
        · show ∀ p ∈ ec.tb, p.1 = P → p.2 = (d.qual ++ ".<locals>.") ++ "<lambda>"
          rw [eq]; exact k3
      · exact passes_of rfl
      · obtain ⟨Cls, bmB, B, newId, initId, g1, g2, g3, g4, g5, g6⟩ := h.exc nm c hx
        exact ⟨Cls, bmB, B, newId, initId, g1, g2, g3, g4, g5 _ rfl rfl rfl, g6⟩
    · rw [e1] at q
      simp only [runF] at q
      by_cases hl : ds.length = F.ps.length
      · exact hl
      · rw [if_neg hl] at q; exact absurd rfl q
end Ev
set_option linter.all false
set_option maxRecDepth 100000
/-! Ev18: the law's def called by the claim, tables of code objects standing empty. -/
namespace Ev
open PySem PySem.Spec PyProof.Rows L2 LamX
/-- the promise of the claim's call -/
abbrev Kept (s₁ : Shared) : Result → Shared → Prop := fun r s' => r = .ok (.ret (.bool true)) ∧ OldK s₁.heap s'.heap ∧ s'.os = s₁.os ∧ AllBare s'.gens
theorem claim_call {P : Program} {w : World} {K : PySem.W.Frag} {mg mb : Str → Option Value} {fa : Nat → Addr → Prop} {ec : Ecl} {gq : Bool} {call : Nat → List D → M D} {k f : Nat} {F : Fn} {fl a : Addr} {x : Str} {cs : List (Addr × Addr)} {s₁ : Shared} {vs : List Value} {ns : List Int}
    (KX : K.In s₁.heap) (hns : s₁.heap.Ns mainGlobals mg) (hb : s₁.heap.Ns builtinsNs mb) (hbb : ∀ x : Str, x ≠ "__name__" → mb x = bootBuiltins x) (hlim : s₁.heap.NoLimit) (hg : s₁.gens = #[])
    (hT : ∀ p ∈ cs, s₁.heap.get? p.2 = some { cls := .none, data := .fields #[] }) (nT : ∀ p ∈ cs, K.lookup p.2 = none) (C : ∀ p ∈ cs, PySem.W.CodeHd s₁.heap p.1 p.2)
    (hbm : ∃ (bm : Addr) (ob : Obj), mg "__builtins__" = some (.ref bm) ∧ bm ≠ builtinsNs ∧ s₁.heap.get? bm = some ob ∧ ob.cls = .type "module" ∧ ob.dict = some builtinsNs ∧ ob.data = .plain)
    (htb : ∀ p ∈ ec.tb, p.1 ∈ cs.map (·.2))
    (ha : s₁.heap.get? a = some { cls := .type "list", data := .seq vs.toArray }) (hi : IntsAre vs ns) (hl : ns.length ≤ sizeLine) (hr : Room k callerA)
    (cg : ∀ base : Heap, K.In base → base.Ns mainGlobals mg → (∀ p ∈ cs, TabB base mg p.1 p.2) → CallG P w K mg base fa ec gq call k f F) (hps : F.ps = [x]) (hfl : mg F.name = some (.ref fl))
    (law : call f [.lst (ns.map .int)] [] = .ok (.bl true) []) :
    codeAny (model P w) callerA (.call (.ref fl) ⟨[.ref a], []⟩) (Kept s₁) s₁ := by
  have rv := vals_ints hi
  have lenV := hi.length
  have isT : ∀ b : Addr, b ∈ cs.map (·.2) → s₁.heap.get? b = some { cls := .none, data := .fields #[] } := fun b hb => by
    obtain ⟨p, hp, e⟩ := List.mem_map.mp hb
    rw [← e]
    exact hT p hp
  have aT : a ∉ cs.map (·.2) := fun z => by
    have q := isT a z
    rw [ha] at q
    have z' : Data.seq vs.toArray _ = Data.fields #[] := congrArg Obj.data (Option.some.inj q)
    cases z'
  have memT : ∀ p ∈ cs, p.2 ∈ cs.map (·.2) := fun p hp => List.mem_map.mpr ⟨p, hp, rfl⟩
  -- from an abstract heap in which nothing but the script and the tables may be tracked
  have core : ∀ H : Hp, (∀ p ∈ cs, H p.2 = some (.tbl #[])) → (∀ b, H b = none ∨ b ∈ cs.map (·.2) ∨ ∃ o xs, H b = some (.frz o (.lst xs))) → SqL K H a (ns.map V.int) → HOk P w H s₁.heap → (∀ b, H b ≠ none → b = a ∨ b ∈ cs.map (·.2)) → (H a ≠ none → K.lookup a = none) →
      codeAny (model P w) callerA (.call (.ref fl) ⟨[.ref a], []⟩) (Kept s₁) s₁ := by
    intro H hH hO hS hok hA hK
    have base_of : ∀ {b : Addr} {o : Obj}, s₁.heap.get? b = some o → H b = none → (hidT s₁.heap H).get? b = some o := fun e n => hidT_get e n
    have noD : ∀ {b : Addr} {o : Obj}, s₁.heap.get? b = some o → (∀ vs n, o.data ≠ .seq vs n) → o.data ≠ .fields #[] → H b = none := fun {b o} e h1 h2 => by
      cases q : H b with
      | none => rfl
      | some u =>
        rcases hA b (by rw [q]; simp) with e' | e'
        · rw [e', ha] at e
          cases e
          exact (h1 _ _ rfl).elim
        · rw [isT b e'] at e
          cases e
          exact (h2 rfl).elim
    have noA : ∀ {b : Addr} {o : Obj} {es : Array DictEntry} {ep : Nat}, s₁.heap.get? b = some o → o.data = .dict es ep → H b = none := fun {b o es ep} e d => by
      refine noD e (fun vs n z => ?_) fun z => ?_
      · rw [d] at z
        cases z
      · rw [d] at z
        cases z
    have nsK : ∀ {b : Addr} {m : Str → Option Value}, s₁.heap.Ns b m → (hidT s₁.heap H).Ns b m := fun {b m} ⟨o, es, ep, e, d, r⟩ => ⟨o, es, ep, base_of e (noA e d), d, r⟩
    have hKb : K.In (hidT s₁.heap H) := fun b o e => base_of (KX b o e) (by
      cases q : H b with
      | none => rfl
      | some u =>
        rcases hA b (by rw [q]; simp) with e' | e'
        · rw [e'] at e q
          rw [hK (by rw [q]; simp)] at e
          cases e
        · obtain ⟨p, hp, ep⟩ := List.mem_map.mp e'
          rw [← ep, nT p hp] at e
          cases e)
    have hM : L2.Mod K mg (hidT s₁.heap H) := ⟨hKb, nsK hns, ⟨mb, nsK hb, hbb⟩, let ⟨mc, h1, h2⟩ := hlim; ⟨mc, nsK h1, h2⟩⟩
    have TB : ∀ p ∈ cs, TabB (hidT s₁.heap H) mg p.1 p.2 := fun p hp => by
      have hTp := hT p hp
      refine ⟨?_, ?_, fun z => ?_⟩
      · obtain ⟨o, us, file, tf, flags, tg, inF, text, tt, e1, r1, r2, r3, r4, r5, r6, r7, r8, hne⟩ := C p hp
        refine ⟨o, us, file, tf, flags, tg, inF, text, tt, base_of e1 (noD e1 (fun vs n z => ?_) fun z => ?_), r1, r2, r3, r4, r5, r6, r7, r8, hne⟩
        · rw [r2] at z
          cases z
        · rw [r2] at z
          cases z
          simp at r3
      · obtain ⟨bm, ob, b1, b2, b3, b4, b5, b6⟩ := hbm
        have nG : bm ≠ mainGlobals := fun q => by
          obtain ⟨o, es, ep, e, hd, _⟩ := hns
          rw [q, e] at b3
          cases b3
          rw [hd] at b6
          cases b6
        have nP : bm ≠ p.2 := fun q => by
          rw [q, hTp] at b3
          cases b3
          cases b6
        refine ⟨bm, ob, b1, b2, nG, nP, base_of b3 (noD b3 (fun vs n z => ?_) fun z => ?_), b4, b5, b6⟩
        · rw [b6] at z
          cases z
        · rw [b6] at z
          cases z
      · obtain ⟨o, es, ep, e, hd, _⟩ := hns
        rw [z, hTp] at e
        cases e
        cases hd
    have e0 : Env0 P w K mg (hidT s₁.heap H) callerA [] s₁ H := ⟨rfl, hM, fun b o e => of_hidT e, Nat.le_of_eq (hidT_size _ _), trivial, fun b hb => absurd (show b ∈ ([] : List Addr) from hb) (by simp), hok, .of_eq hg⟩
    have none_in : ∀ b : Addr, b ∉ ([] : List Addr) := fun b => by simp
    have tabs : LamX.Tabs ec.tb H := fun p hp => by
      obtain ⟨q, hq, e⟩ := List.mem_map.mp (htb p hp)
      exact LamX.TabS.nil (by rw [← e]; exact hH q hq)
    have S : Sim ⟨K, fa, ec, []⟩ H [] [] := ⟨rfl, List.nodup_nil, fun a h => (none_in a h).elim, fun l c a h => by simp at h, fun a h => (none_in a h).elim, fun a h => h.elim (fun h => (none_in a h).elim) fun h => (none_in a h).elim, tabs⟩
    have nolv : ¬ Lv ⟨K, fa, ec, []⟩ [] [] a := fun h => by
      rcases h with ⟨l, xs, h, _⟩ | h
      · simp at h
      · exact (none_in a h).elim
    have asInts : ∀ l : List Int, RpAll ⟨K, fa, ec, []⟩ H [] (Lv ⟨K, fa, ec, []⟩ [] []) (l.map V.int) (l.map D.int) := fun l => by
      induction l with
      | nil => exact .nil
      | cons i l ih => exact .cons (.int i) ih
    have sq : SqLF K H (Lv ⟨K, fa, ec, []⟩ [] []) a (ns.map V.int) := by
      rcases hS with q | q
      · refine .inl ⟨⟨?_, nolv⟩, .inl q⟩
        rcases q with q | ⟨o, q⟩
        · exact ⟨_, q, fun ps z => by cases z⟩
        · exact ⟨_, q, fun ps z => by cases z⟩
      · exact .inr fun H' => .inr q
    have rp : RpAll ⟨K, fa, ec, []⟩ H [] (Lv ⟨K, fa, ec, []⟩ [] []) [.ref a] [.lst (ns.map .int)] := .cons (.lst sq (asInts ns)) .nil
    obtain ⟨fl', fd, e1, _, _, bi, run1⟩ := (cg _ hKb (nsK hns) TB).there
    rw [hfl] at e1
    cases e1
    have bd : BindsTo s₁ fd ⟨[.ref a], []⟩ (F.ps.zip [.ref a]) := by
      have := bi s₁ [.ref a] KX (by rw [hps]; rfl)
      simpa using this
    refine codeAny_mono (run1 callerA [] s₁ H [.ref a] [.ref a] (fun v _ => v = .bl true) (fun _ _ _ => False) [] [.lst (ns.map .int)] [] [] hr (fun _ => rfl) e0 bd (.cons rfl .nil) (by rw [hps]; rfl) S rp (by
      rw [law]
      intro H' m' S' E' v r
      cases r
      rfl)) fun r s' h => ?_
    cases r with
    | error e =>
      obtain ⟨_, _, _, _, _, _, _, _, _, _, _, _, z⟩ := h
      exact z.elim
    | ok fl =>
      cases fl with
      | next => exact False.elim h
      | brk => exact False.elim h
      | cont => exact False.elim h
      | ret u =>
        obtain ⟨v, H', os, bare, un, hok', r', q⟩ := h
        have q' : v = .bl true := q
        subst q'
        obtain rfl : u = Value.bool true := r'
        have key : ∀ b o, b ∉ cs.map (·.2) → s₁.heap.get? b = some o → s'.heap.get? b = some o := fun b o nb e => by
          cases q : H b with
          | none => exact un.keep b o e q (by intro z; exact absurd (show b ∈ ([] : List Addr) from z) (by simp)) (by simp)
          | some u =>
            rcases hO b with z | z | ⟨ob, xs, z⟩
            · rw [q] at z; cases z
            · exact absurd z nb
            · have z2 := un.frzs b ob _ z
              obtain ⟨e1, _⟩ := hok b _ z
              obtain ⟨e2, _⟩ := hok' b _ z2
              rw [e] at e1; cases e1
              exact e2
        have grown : ∀ p ∈ cs, ∃ more : Array Value, s'.heap.get? p.2 = some { cls := .none, data := .fields more } := fun p hp => by
          obtain ⟨more, z⟩ := un.tbls p.2 #[] (hH p hp)
          exact ⟨_, hok' p.2 _ z⟩
        refine ⟨rfl, ⟨fun b o e => ?_, fun b o e => ?_⟩, os, bare⟩
        · by_cases hb : b ∈ cs.map (·.2)
          · obtain ⟨p, hp, ep⟩ := List.mem_map.mp hb
            obtain ⟨more, hm⟩ := grown p hp
            rw [← ep] at e ⊢
            rw [hT p hp] at e
            cases e
            exact .inr (.inl ⟨((C p hp).tab (hT p hp)).isCodeTable, rfl, #[], more, rfl, by rw [Array.empty_append]; exact hm⟩)
          · exact .inl (key b o hb e)
        · by_cases hb : b ∈ cs.map (·.2)
          · obtain ⟨p, hp, ep⟩ := List.mem_map.mp hb
            obtain ⟨more, hm⟩ := grown p hp
            rw [← ep]
            exact ⟨_, hm⟩
          · exact ⟨o, key b o hb e⟩
  cases hk : K.lookup a with
  | some o =>
    have e := KX a o hk
    rw [ha] at e
    cases e
    refine core (fun b => if b ∈ cs.map (·.2) then some (.tbl #[]) else none) (fun p hp => if_pos (memT p hp)) (fun b => ?_) (.inr ⟨_, vs.toArray, _, hk, rfl, rfl, rfl, by rw [List.size_toArray, lenV]; exact hl, by simpa using rv⟩) (fun b u z => ?_) (fun b z => ?_) fun z => absurd (show (if a ∈ cs.map (·.2) then some (HO.tbl #[]) else none) = none from if_neg aT) z
    · by_cases hb : b ∈ cs.map (·.2)
      · exact .inr (.inl hb)
      · exact .inl (if_neg hb)
    · by_cases hb : b ∈ cs.map (·.2)
      · have z' := (if_pos hb).symm.trans z
        cases z'
        exact isT b hb
      · have z' := (if_neg hb).symm.trans z
        cases z'
    · by_cases hb : b ∈ cs.map (·.2)
      · exact .inr hb
      · exact absurd (if_neg hb) z
  | none =>
    refine core (fun b => if b = a then some (.frz { cls := .type "list", data := .seq vs.toArray } (.lst (ns.map V.int))) else if b ∈ cs.map (·.2) then some (.tbl #[]) else none) (fun p hp => (if_neg (show ¬ p.2 = a from fun z => aT (by rw [← z]; exact memT p hp))).trans (if_pos (memT p hp))) (fun b => ?_)
      (.inl (.inr ⟨{ cls := .type "list", data := .seq vs.toArray }, if_pos rfl⟩)) (fun b u z => ?_) (fun b z => ?_) fun _ => hk
    · by_cases hb : b = a
      · exact .inr (.inr ⟨_, _, if_pos hb⟩)
      · by_cases hb2 : b ∈ cs.map (·.2)
        · exact .inr (.inl hb2)
        · exact .inl ((if_neg hb).trans (if_neg hb2))
    · by_cases hb : b = a
      · have z' := (if_pos hb).symm.trans z
        cases z'
        rw [hb]
        exact ⟨ha, by rw [List.length_map]; exact hl, vs, _, rv, ha⟩
      · have z1 := (if_neg hb).symm.trans z
        by_cases hb2 : b ∈ cs.map (·.2)
        · have z' := (if_pos hb2).symm.trans z1
          cases z'
          exact isT b hb2
        · have z' := (if_neg hb2).symm.trans z1
          cases z'
    · by_cases hb : b = a
      · exact .inl hb
      · by_cases hb2 : b ∈ cs.map (·.2)
        · exact .inr hb2
        · exact absurd ((if_neg hb).trans (if_neg hb2)) z
/-- what is known of the law's promise at the head's heap h -/
def LawAtS (l : PySem.W.OpenLaw) (w : World) (K : PySem.W.Frag) (CX : CXT) (k n : Nat) (x : Str) (mg : Str → Option Value) (fa : Addr) (h : Heap) : Prop :=
  ∃ (fd : FuncData) (cs : List (Addr × Addr)) (sp : Sp), (∀ p ∈ cs, h.get? p.2 = some { cls := .none, data := .fields #[] }) ∧ (∀ p ∈ cs, K.lookup p.2 = none) ∧ (∀ p ∈ cs, PySem.W.CodeHd h p.1 p.2) ∧ (∀ (s : Shared) (u : Value), BindsTo s fd ⟨[u], []⟩ [(x, u)]) ∧
    (∀ (H : Hp) (a : Addr) (ns : List Int), ns.length ≤ n → (∀ z ∈ ns, Builtin.Int.intBits z ≤ 1048576) → (∀ p ∈ cs, H p.2 = some (.tbl #[])) → SqL K H a (ns.map V.int) → sp [.ref a] H (fun v _ => v = .bl true) fun _ _ _ => False) ∧
    ∀ base : Heap, K.In base → base.Ns mainGlobals mg → (∀ p ∈ cs, TabB base mg p.1 p.2) → FnOk l.prog w K mg base CX k fa fd [x] sp
/-- a law, by the small language -/
theorem claim_holds {l : PySem.W.OpenLaw} {n k f : Nat} {F : Fn} {q : Program} {loose : List Str} {XP : (Str → Option Value) → Heap → Prop} {YP : World → Heap → Prop} {d : DefRec} {x : Str} {gq : Bool} {call : Nat → List D → M D}
    (hn : l.most = some n) (hn2 : n ≤ sizeLine) (hdf : d.params.defaults = []) (hr : Room k callerA) (hps : F.ps = [x]) (hnm : d.name = F.name) (law : ∀ ns : List Int, ns.length ≤ n → call f [.lst (ns.map .int)] [] = .ok (.bl true) [])
    (H : ∀ (w : World) (mg : Str → Option Value) (h : Heap), YP w h → h.Ns mainGlobals mg → ∃ (K : PySem.W.Frag) (fa : Nat → Addr → Prop) (ec : Ecl) (cs : List (Addr × Addr)), K.In h ∧ (∀ p ∈ cs, ∃ x d, (recsOf q).find? (fun e => e.name == x) = some d ∧ PySem.W.tabIn K x = some p) ∧ (∀ p ∈ cs, K.lookup p.2 = none) ∧ (∀ p ∈ ec.tb, p.1 ∈ cs.map (·.2)) ∧ ∀ base : Heap, K.In base → base.Ns mainGlobals mg → (∀ p ∈ cs, TabB base mg p.1 p.2) → CallG l.prog w K mg base fa ec gq call k f F) :
    PySem.W.WalkO q loose XP YP l.row.toRowW d [] (fun f vs => PySem.call f vs) := by
  refine Att.attach_call hn hdf fun w s₀ s₁ mg mb fl o pm cd doc a vs ns G Y ho hd hcd hmg hobj hints hlen hg => ?_
  obtain ⟨K, fa, ec, cs, inK, hcs, nT, htb, cg⟩ := H w mg _ Y G.T.g
  have tab : ∀ p ∈ cs, PySem.W.CodeHd _ p.1 p.2 ∧ _ := fun p hp => by
    obtain ⟨x, d, h1, h2⟩ := hcs p hp
    exact PySem.W.tab_of G.T inK h1 h2
  exact claim_call inK G.T.g G.T.b G.T.builtins G.T.nolimit hg (fun p hp => (tab p hp).2) nT (fun p hp => (tab p hp).1) G.T.bmain htb hobj hints (Nat.le_trans hlen hn2) hr cg hps (by rw [← hnm]; exact hmg) (law ns hlen)
end Ev
set_option linter.all false
set_option maxRecDepth 100000
/-! Ev19: what the head tells, for the small language. -/
namespace Ev
open PySem PySem.Spec PyProof.Rows L2
abbrev Frg := PySem.W.Frag
mutual
/-- a constant of the module is d -/
def constK (K : Frg) : D → Value → Bool
  | .non, u => decide (u = .none)
  | .bl b, u => decide (u = .bool b)
  | .int i, u => (match u with
    | .int j _ => decide (j = i)
    | _ => false)
  | .str s, u => (match u with
    | .str t _ => decide (t = s)
    | _ => false)
  | .tup ds, u => (match u with
    | .ref a => (match K.lookup a with
      | some o => decide (o.cls = .type "tuple") && (match o.data with
        | .seq its _ => decide (its.size ≤ sizeLine) && constsK K ds its.toList
        | _ => false)
      | none => false)
    | _ => false)
  | _, _ => false
def constsK (K : Frg) : List D → List Value → Bool
  | [], us => us.isEmpty
  | d :: ds, us => (match us with
    | u :: us => constK K d u && constsK K ds us
    | [] => false)
end
mutual
theorem constK_ok {K : Frg} {fa : Nat → Addr → Prop} {ec : Ecl} : ∀ {d : D} {u : Value}, constK K d u = true → ∃ v, RelV v u ∧ ∀ ex H m L, Rp ⟨K, fa, ec, ex⟩ H m L v d
  | .non, u, h => by
    have e : u = Value.none := of_decide_eq_true (show decide (u = Value.none) = true from h)
    subst e
    exact ⟨.non, rfl, fun _ _ _ _ => .non⟩
  | .bl b, u, h => by
    have e : u = Value.bool b := of_decide_eq_true (show decide (u = Value.bool b) = true from h)
    subst e
    exact ⟨.bl b, rfl, fun _ _ _ _ => .bl b⟩
  | .int i, u, h => by
    simp only [constK] at h
    split at h
    · have e := of_decide_eq_true h
      subst e
      exact ⟨.int _, ⟨_, rfl⟩, fun _ _ _ _ => .int _⟩
    · cases h
  | .str s, u, h => by
    simp only [constK] at h
    split at h
    · have e := of_decide_eq_true h
      subst e
      exact ⟨.str _, ⟨_, rfl⟩, fun _ _ _ _ => .str _⟩
    · cases h
  | .tup ds, u, h => by
    simp only [constK] at h
    split at h
    · split at h
      · rename_i a _ o ho
        obtain ⟨h1, h2⟩ := and0 h
        split at h2
        · rename_i its n hd
          obtain ⟨h3, h4⟩ := and0 h2
          obtain ⟨vs, hv, hr⟩ := constsK_ok (fa := fa) (ec := ec) h4
          exact ⟨.ref a, rfl, fun ex H m L => .tup (.inr fun H' => .inr ⟨o, its, n, ho, of_decide_eq_true h1, hd, of_decide_eq_true h3, hv⟩) (hr ex H m L)⟩
        · cases h2
      · cases h
    · cases h
  | .lst _, u, h => by simp [constK] at h
  | .dct _ _, u, h => by simp [constK] at h
  | .ref _, u, h => by simp [constK] at h
  | .fn _, u, h => by simp [constK] at h
theorem constsK_ok {K : Frg} {fa : Nat → Addr → Prop} {ec : Ecl} : ∀ {ds : List D} {us : List Value}, constsK K ds us = true → ∃ vs, Vals vs us ∧ ∀ ex H m L, RpAll ⟨K, fa, ec, ex⟩ H m L vs ds
  | [], us, h => by
    cases us with
    | nil => exact ⟨[], .nil, fun _ _ _ _ => .nil⟩
    | cons _ _ => cases h
  | d :: ds, us, h => by
    simp only [constsK] at h
    split at h
    · obtain ⟨h1, h2⟩ := and0 h
      obtain ⟨v, r1, q1⟩ := constK_ok (fa := fa) (ec := ec) h1
      obtain ⟨vs, r2, q2⟩ := constsK_ok (fa := fa) (ec := ec) h2
      exact ⟨v :: vs, .cons r1 r2, fun ex H m L => .cons (q1 ex H m L) (q2 ex H m L)⟩
    · cases h
end
/-- a constant by its name -/
def conK (K : Frg) (p : Str × D) : Bool := match PySem.W.nsIn K mainGlobals p.1 with
  | some (some u) => constK K p.2 u
  | _ => false
/-- an error class, told apart by isinstance -/
def exCK (K : Frg) (D : Addr) : Bool :=
  decide (PySem.W.findIn K (.ref D) "__getattribute__" = some (some (.builtin "BaseException.__getattribute__"))) && decide (PySem.W.findIn K (.ref D) "__getattr__" = some none) && decide (PySem.W.subIn K (.ref D) (.type "BaseException") = some true) && PySem.W.hasDictIn K D &&
    decide (PySem.W.findIn K (.ref D) "__class__" = some (some (.builtin "object.__class__"))) && decide (PySem.W.specialIn K (.builtin "object.__class__") "__get__" = some (some (.builtin "getset_descriptor.__get__"))) && decide (PySem.W.takesIn K (.builtin "object.__class__") = some true) && decide (PySem.W.mroIn K D (.type "object") = some true)
theorem exCK_ok {K : Frg} {D : Addr} (h : exCK K D = true) : ExcC K D := by
  obtain ⟨h, h8⟩ := and0 h
  obtain ⟨h, h7⟩ := and0 h
  obtain ⟨h, h6⟩ := and0 h
  obtain ⟨h, h5⟩ := and0 h
  obtain ⟨h, h4⟩ := and0 h
  obtain ⟨h, h3⟩ := and0 h
  obtain ⟨h1, h2⟩ := and0 h
  exact ⟨of_decide_eq_true h1, of_decide_eq_true h2, of_decide_eq_true h3, h4, of_decide_eq_true h5, of_decide_eq_true h6, of_decide_eq_true h7, of_decide_eq_true h8⟩
/-- the tables of the defs that make lambdas -/
def csOf (T : Tab) (K : Frg) : List (Addr × Addr) := T.lams.filterMap fun n => PySem.W.tabIn K n
def lamsB (T : Tab) (K : Frg) : Bool := (T.lams.all fun n => match PySem.W.tabIn K n with
    | some p => (K.lookup p.2).isNone
    | none => false) && T.lams.all fun n => T.lams.all fun m => decide (n = m) || (match PySem.W.tabIn K n, PySem.W.tabIn K m with
    | some p, some q => !decide (p.2 = q.2)
    | _, _ => false)
/-- the facts of a text -/
def facts (T : Tab) (K : Frg) : Bool := lamsB T K && (T.words.all fun w => (He.Fa.glo w.name).ok K) && (T.P.all fun p => (He.Fa.glo p.2.name).ok K) && (T.bl.all fun x => (He.Fa.free x).ok K) && (T.consts.all (conK K)) && (T.excs.all fun p => (He.Fa.glo p.1).ok K && (He.Fa.exc p.1).ok K && exCK K (He.ga K p.1)) &&
  (T.excs.all fun p => T.excs.all fun r => match T.exmF p.2 r.2 with
    | some b => decide (PySem.W.exmOne K (.ref (He.ga K p.1)) (.ref (He.ga K r.1)) = some b) && decide (PySem.W.kitOne K (.ref (He.ga K p.1)) (.ref (He.ga K r.1)) = some b)
    | none => true)
/-! ### the Hook -/
def obsF (fx : Frg → Bool) (fn : List He.DefD) (K : Frg) : He.AlD := (fx K && (He.obsD [] fn K).1, (He.obsD [] fn K).2)
/-- what the module reaches, but these -/
def reach (n : Nat) (dr : Frg → List Addr) (g : Addr → Option Obj) : List Addr := (He.asD g n).filter fun a => !(dr (He.frG g (He.asD g n))).contains a
def obsFG (n : Nat) (fx : Frg → Bool) (fn : List He.DefD) (dr : Frg → List Addr) (g : Addr → Option Obj) : He.AlD := obsF fx fn (He.frG g (reach n dr g))
/-- the tables of code objects that lambdas go into -/
def tabsT (T : Tab) (K : Frg) : List Addr := (csOf T K).map (·.2)
def hookF (n : Nat) (fx : Frg → Bool) (fn : List He.DefD) (dr : Frg → List Addr) : PySem.W.Hook where
  α := He.AlD
  obs := fun s => obsFG n fx fn dr s.heap.get?
  val := fun _ => He.valD fn
  says := fun _ h => ∃ K : Frg, K.In h ∧ fx K = true ∧ He.SaysD [] fn K
  of := fun _ _ e => ⟨_, He.frG_in, by
    have e1 := congrArg (fun z : He.AlD => z.1) e
    have e2 := congrArg (fun z : He.AlD => z.2) e
    obtain ⟨h1, h2⟩ := and0 e1
    exact ⟨h1, Prod.ext h2 e2⟩⟩
  keeps := fun _ _ _ ⟨K, hK, c⟩ k => ⟨K, PySem.W.Frag.In.keeps hK k, c⟩
theorem obsFG_eq {n : Nat} {fx : Frg → Bool} {fn : List He.DefD} {dr : Frg → List Addr} {g : Addr → Option Obj} {s : Shared} (h : ∀ a, g a = s.heap.get? a) : obsFG n fx fn dr g = (hookF n fx fn dr).obs s := by
  have e : g = s.heap.get? := funext h
  rw [e] <;> rfl
/-- a def of the text and its datum -/
structure DefOk (T : Tab) (fn : List He.DefD) (F : Fn) : Prop where
  ex : ∃ (i : Nat) (d : He.DefD), fn[i]? = some d ∧ chkF T F d = true ∧ d.at_ = (F.name, none) ∧ d.dfl = [] ∧ d.kwd = [] ∧
    ∀ (kV doc pm : Value) (an : Option Addr) (cdv ct : Value) (us : List Value), us.length = F.ps.length → bindArgs (PySem.W.fnOf d.name d.qual d.params d.body d.scope .none kV doc pm an cdv ct) ⟨us, []⟩ = pure (F.ps.zip us)
theorem find_mem : ∀ {P : Prog} {f : Nat} {F : Fn}, P.find f = some F → (f, F) ∈ P
  | [], _, _, h => by cases h
  | (m, G) :: P, f, F, h => by
    unfold Prog.find at h
    split at h
    · rename_i e
      cases h
      rw [e]
      exact List.mem_cons_self
    · exact List.mem_cons_of_mem _ (find_mem h)
/-- clauses that tell by constants -/
def chkCl (T : Tab) (sg : Scope) : List ExceptHandler → List (Nat × D) → Bool
  | [], hs => hs.isEmpty
  | h :: hds, hs => match h, hs with
    | .ExceptHandler (some (.Name n _)) none [.Return (some (.Constant c _ _)) _] _, (k, d) :: hs => decide ((n, k) ∈ T.excs) && glB ⟨[], sg, [], false⟩ n && okN n && constC c d && chkCl T sg hds hs
    | _, _ => false
def chkW (T : Tab) (w : WFn) (d : He.DefD) : Bool := decide (d.name = w.name) && decide (d.qual = w.name) && C8.scC [w.par] [w.par] d.scope && visB ⟨[], d.scope, [], false⟩ w.par && okN w.par && match d.body with
  | [.Try [.Expr (.Call (.Name a _) [] [] _) _] (h₀ :: hds) [] [] _, .Return (some (.Constant c0 _ _)) _] => decide (a = w.par) && chkCl T d.scope (h₀ :: hds) w.hs && constC c0 w.d
  | _ => false
structure WordOk (T : Tab) (fn : List He.DefD) (w : WFn) : Prop where
  ex : ∃ (i : Nat) (d : He.DefD), fn[i]? = some d ∧ chkW T w d = true ∧ d.at_ = (w.name, none) ∧ d.dfl = [] ∧ d.kwd = [] ∧
    ∀ (kV doc pm : Value) (an : Option Addr) (cdv ct : Value) (us : List Value), us.length = [w.par].length → bindArgs (PySem.W.fnOf d.name d.qual d.params d.body d.scope .none kV doc pm an cdv ct) ⟨us, []⟩ = pure ([w.par].zip us)
theorem gl_of {sg : Scope} {n : Str} (q : glB ⟨[], sg, [], false⟩ n = true) : sg.names.lookup n = some .globalImplicit := by
  unfold glB kOf at q
  split at q
  · assumption
  · cases q
theorem vis_of {sg : Scope} {n : Str} (q : visB ⟨[], sg, [], false⟩ n = true) : Vis sg n := by
  unfold visB kOf at q
  split at q
  · exact .inl (by assumption)
  · exact .inr (.inl (by assumption))
  · exact .inr (.inr (by assumption))
  · cases q
theorem chkCl_ok {T : Tab} {sg : Scope} {mg : Str → Option Value} {ec : Ecl} (hx : ∀ n k, (n, k) ∈ T.excs → ∃ Ch, mg n = some (.ref Ch) ∧ ec k Ch) : ∀ {hds : List ExceptHandler} {hs : List (Nat × D)}, chkCl T sg hds hs = true → Clauses sg mg ec hds hs
  | [], hs, h => by
    cases hs with
    | nil => exact .nil
    | cons _ _ => simp [chkCl] at h
  | h0 :: hds, hs, h => by
    unfold chkCl at h
    split at h
    · obtain ⟨h, q5⟩ := and0 h
      obtain ⟨h, q4⟩ := and0 h
      obtain ⟨h, q3⟩ := and0 h
      obtain ⟨q1, q2⟩ := and0 h
      obtain ⟨Ch, e1, e2⟩ := hx _ _ (of_decide_eq_true q1)
      exact .cons (gl_of q2) e1 (okN_db q3) e2 q4 (chkCl_ok hx q5)
    · cases h
/-- the addresses of the text's defs, of its error classes -/
def faOf (T : Tab) (K : Frg) : Nat → Addr → Prop := fun f a => ∃ F, T.P.find f = some F ∧ a = He.ga K F.name
def lamQ (n : Str) : Str := n ++ ".<locals>." ++ "<lambda>"
def ecOf (T : Tab) (K : Frg) : Ecl := ⟨fun c a => ∃ n, (n, c) ∈ T.excs ∧ a = He.ga K n, T.lams.filterMap fun n => (PySem.W.tabIn K n).map fun p => (p.2, lamQ n)⟩
theorem head_of {T : Tab} {Pr : Program} {w : World} {K : Frg} {mg : Str → Option Value} {h base : Heap} {fn : List He.DefD} (inK : K.In h) (G : h.Ns mainGlobals mg) (hf : facts T K = true) (hd : He.SaysD [] fn K) (ds : ∀ p ∈ T.P, DefOk T fn p.2) (ws : ∀ w ∈ T.words, WordOk T fn w) (TB : ∀ p ∈ csOf T K, LamX.TabB base mg p.1 p.2) :
    Head T Pr w K mg base (faOf T K) (ecOf T K) := by
  obtain ⟨hf, f5⟩ := and0 hf
  obtain ⟨hf, f4⟩ := and0 hf
  obtain ⟨hf, f3⟩ := and0 hf
  obtain ⟨hf, f2⟩ := and0 hf
  obtain ⟨hf, f1⟩ := and0 hf
  obtain ⟨f6, f7⟩ := and0 hf
  have exf : ∀ n c, (n, c) ∈ T.excs → (He.Fa.glo n).ok K = true ∧ (He.Fa.exc n).ok K = true ∧ exCK K (He.ga K n) = true := fun n c hm => by
    obtain ⟨z, z3⟩ := and0 (List.all_eq_true.mp f4 (n, c) hm)
    obtain ⟨z1, z2⟩ := and0 z
    exact ⟨z1, z2, z3⟩
  refine ⟨fun f F hF => ?_, fun x hx => He.free_ok inK G (List.all_eq_true.mp f2 x hx), fun p hp => ?_, fun n c hm => ?_, fun c k r Dc Dk hr ⟨n, hn, e1⟩ ⟨n', hn', e2⟩ => ?_, fun c Dc ⟨n, hn, e1⟩ => ?_, fun w hw => ?_, fun f a a' ⟨F, h1, e1⟩ ⟨F', h2, e2⟩ => (by rw [h1] at h2; cases h2; rw [e1, e2]), fun f a ⟨F, h1, _⟩ => ⟨F, h1⟩, fun n hn => ?_⟩
  · obtain ⟨i, d, hi, hc, ha, h1, h2, hb⟩ := (ds (f, F) (find_mem hF)).ex
    obtain ⟨fd, Fd⟩ := hd.def_ i hi
    have ea : He.fAd K d.at_ = He.ga K F.name := by rw [ha]; rfl
    have e1 : d.dvs K = [] := by unfold He.DefD.dvs; rw [h1]; rfl
    have e2 : d.kws K = [] := by unfold He.DefD.kws; rw [h2]; rfl
    rw [ea, e1, e2] at Fd
    exact ⟨d, _, fd, hc, He.glo_ok inK G (List.all_eq_true.mp f1 (f, F) (find_mem hF)), ⟨F, hF, rfl⟩, Fd, Fd.bindsN hb⟩
  · have z := List.all_eq_true.mp f3 p hp
    unfold conK at z
    split at z
    · rename_i u hu
      obtain ⟨v, hv, hr⟩ := constK_ok (fa := faOf T K) (ec := ecOf T K) z
      exact ⟨u, v, PySem.W.mg_of inK G hu, hv, hr⟩
    · cases z
  · obtain ⟨z1, z2, z3⟩ := exf n c hm
    obtain ⟨k1, k2, k3, k4⟩ := He.exc_ok z2
    exact ⟨_, _, _, _, _, PySem.F.excBase_ValueError, k1, He.glo_ok inK G z1, k2, fun X e _ _ => raises_own (by rw [e]; exact k3) (by rw [e]; exact k4), ⟨n, hm, rfl⟩⟩
  · have z := List.all_eq_true.mp (List.all_eq_true.mp f5 (n, c) hn) (n', k) hn'
    simp only [hr] at z
    obtain ⟨z1, z2⟩ := and0 z
    rw [e1, e2]
    exact ⟨of_decide_eq_true z1, of_decide_eq_true z2⟩
  · rw [e1]
    exact exCK_ok (exf n c hn).2.2
  · obtain ⟨i, d, hi, hc, ha, h1, h2, hb⟩ := (ws w hw).ex
    obtain ⟨fd, Fd⟩ := hd.def_ i hi
    have ea : He.fAd K d.at_ = He.ga K w.name := by rw [ha]; rfl
    have e1 : d.dvs K = [] := by unfold He.DefD.dvs; rw [h1]; rfl
    have e2 : d.kws K = [] := by unfold He.DefD.kws; rw [h2]; rfl
    rw [ea, e1, e2] at Fd
    have bi := Fd.bindsN hb
    have gm := He.glo_ok inK G (List.all_eq_true.mp f7 w hw)
    unfold chkW at hc
    obtain ⟨hc, c6⟩ := and0 hc
    obtain ⟨hc, c5⟩ := and0 hc
    obtain ⟨hc, c4⟩ := and0 hc
    obtain ⟨hc, c3⟩ := and0 hc
    obtain ⟨c1, c2⟩ := and0 hc
    split at c6
    · rename_i a p1 p2 p3 h₀ hds p4 c0 j p5 p6 hbody
      obtain ⟨c6, c8⟩ := and0 c6
      obtain ⟨c6, c7⟩ := and0 c6
      have ea := of_decide_eq_true c6
      subst ea
      rw [of_decide_eq_true c1, of_decide_eq_true c2, hbody] at Fd
      exact ⟨_, fd, d.params, d.scope, h₀, hds, c0, j, p1, p2, p3, p4, p5, p6, gm, Fd, bi, C8.fnScope_by c3, vis_of c4, chkCl_ok (fun n k hm => ⟨_, He.glo_ok inK G (exf n k hm).1, show ∃ n', (n', k) ∈ T.excs ∧ He.ga K n = He.ga K n' from ⟨n, hm, rfl⟩⟩) c7, c8, c5⟩
    · cases c6
  · unfold lamsB at f6
    obtain ⟨l1, l2⟩ := and0 f6
    have z := List.all_eq_true.mp l1 n hn
    cases ht : PySem.W.tabIn K n with
    | none => rw [ht] at z; cases z
    | some cp =>
      obtain ⟨c, P⟩ := cp
      refine ⟨c, P, fun a oc od x q p bd sc dV kV doc pm an cdv ct osl hm lk => ?_, List.mem_filterMap.mpr ⟨n, hn, by rw [ht]; rfl⟩, fun p hp e => ?_, TB (c, P) (List.mem_filterMap.mpr ⟨n, hn, ht⟩)⟩
      · unfold PySem.W.tabIn at ht
        split at ht
        · rename_i f hf
          have e1 := PySem.W.mg_of inK G hf
          rw [hm] at e1
          cases e1
          rw [lk] at ht
          simp only at ht
          split at ht
          · skip
            split at ht
            · split at ht
              · cases ht
                first | rfl | assumption
              · cases ht
            · cases ht
          · cases ht
        · cases ht
      · obtain ⟨n', hn', e'⟩ := List.mem_filterMap.mp hp
        cases ht' : PySem.W.tabIn K n' with
        | none => rw [ht'] at e'; cases e'
        | some cp' =>
          rw [ht'] at e'
          cases e'
          have z2 := List.all_eq_true.mp (List.all_eq_true.mp l2 n hn) n' hn'
          rcases Bool.or_eq_true_iff.mp z2 with z3 | z3
          · rw [of_decide_eq_true z3]; rfl
          · rw [ht, ht'] at z3
            have e3 : cp'.2 = P := e
            simp [e3] at z3
theorem cs_ok {T : Tab} {K : Frg} {q : Program} (hf : facts T K = true) (hq : (T.lams.all fun n => ((recsOf q).find? fun e => e.name == n).isSome) = true) :
    (∀ p ∈ csOf T K, ∃ x d, (recsOf q).find? (fun e => e.name == x) = some d ∧ PySem.W.tabIn K x = some p) ∧ (∀ p ∈ csOf T K, K.lookup p.2 = none) ∧ ∀ p ∈ (ecOf T K).tb, p.1 ∈ (csOf T K).map (·.2) := by
  unfold facts at hf
  have f6 : lamsB T K = true := by
    obtain ⟨hf, _⟩ := and0 hf
    obtain ⟨hf, _⟩ := and0 hf
    obtain ⟨hf, _⟩ := and0 hf
    obtain ⟨hf, _⟩ := and0 hf
    obtain ⟨hf, _⟩ := and0 hf
    exact (and0 hf).1
  unfold lamsB at f6
  obtain ⟨l1, _⟩ := and0 f6
  refine ⟨fun p hp => ?_, fun p hp => ?_, fun p hp => ?_⟩
  · obtain ⟨n, hn, e⟩ := List.mem_filterMap.mp hp
    obtain ⟨d, hd⟩ := Option.isSome_iff_exists.mp (List.all_eq_true.mp hq n hn)
    exact ⟨n, d, hd, e⟩
  · obtain ⟨n, hn, e⟩ := List.mem_filterMap.mp hp
    have z := List.all_eq_true.mp l1 n hn
    rw [e] at z
    exact Option.isNone_iff_eq_none.mp z
  · obtain ⟨n, hn, e⟩ := List.mem_filterMap.mp hp
    cases ht : PySem.W.tabIn K n with
    | none => rw [ht] at e; cases e
    | some cp =>
      rw [ht] at e
      cases e
      exact List.mem_map.mpr ⟨cp, List.mem_filterMap.mpr ⟨n, hn, ht⟩, rfl⟩
end Ev
set_option maxRecDepth 100000
namespace K22
open Ev PySem
def c_ADDED : D := (.int 20)
def c_ANY : D := (.str "any")
def c_COLUMNS : D := (.int 6)
def c_COMPARED : D := (.tup [(.str "same"), (.str "less"), (.str "most")])
def c_DEEP : D := (.int 6)
def c_IN : D := (.int 6)
def c_INT : D := (.str "int")
def c_JOINED : D := (.tup [(.str "and"), (.str "or")])
def c_KEY : D := (.tup [(.str "int"), (.bl false)])
def c_LETTERS : D := (.str "abcdefghijklmnopqrstuvwxyz")
def c_NUMBER : D := (.int 1000000000)
def c_PARTS : D := (.int 30)
def c_ROWS : D := (.int 60)
def c_RULES : D := (.int 4)
def c_SETS : D := (.int 5)
def c_TABLES : D := (.int 4)
def c_TEXT : D := (.str "word")
def c_WORD : D := (.int 8)
def F_is_whole : Fn := ⟨"is_whole", ["value", "low", "high"], ["value", "low", "high"],
    (.cons (.ret (.and (.blt (.isi .int) (.var 0)) (.and (.not (.blt (.isi .bool) (.var 0))) (.cmp2 .LtE .LtE (.var 1) (.var 0) (.var 2)))))
    .nil)⟩
def F_is_tuple_of : Fn := ⟨"is_tuple_of", ["value", "low", "high"], ["value", "low", "high"],
    (.cons (.ret (.and (.blt (.isi .tuple) (.var 0)) (.cmp2 .LtE .LtE (.var 1) (.blt .len (.var 0)) (.var 2))))
    .nil)⟩
def F_is_word : Fn := ⟨"is_word", ["value"], ["value", "letter"],
    (.cons (.ret (.and (.blt (.isi .str) (.var 0)) (.and (.cmp2 .LtE .LtE (.const (.int 1)) (.blt .len (.var 0)) (.gc "WORD" c_WORD)) (.blt .all (.new (.comp [1] (.cmp .In (.var 1) (.gc "LETTERS" c_LETTERS)) (.name 1) (.val (.var 0)) .no))))))
    .nil)⟩
def F_is_number : Fn := ⟨"is_number", ["value"], ["value"],
    (.cons (.ret (.call 0 (.cons (.var 0) (.cons (.neg (.gc "NUMBER" c_NUMBER)) (.cons (.gc "NUMBER" c_NUMBER) .nil)))))
    .nil)⟩
def F_fits_value : Fn := ⟨"fits_value", ["value"], ["value"],
    (.cons (.ret (.or (.cmp .Is (.var 0) (.const .non)) (.or (.call 3 (.cons (.var 0) .nil)) (.call 2 (.cons (.var 0) .nil)))))
    .nil)⟩
def F_fits_sort : Fn := ⟨"fits_sort", ["sort", "value"], ["sort", "value"],
    (.cons (.ret (.ite (.cmp .Eq (.var 0) (.gc "INT" c_INT)) (.call 3 (.cons (.var 1) .nil)) (.call 2 (.cons (.var 1) .nil))))
    .nil)⟩
def F_fits_column : Fn := ⟨"fits_column", ["value"], ["value"],
    (.cons (.iff (.or (.not (.call 1 (.cons (.var 0) (.cons (.const (.int 2)) (.cons (.const (.int 2)) .nil))))) (.or (.not (.blt (.isi .str) (.idx (.var 0) (.const (.int 0))))) (.cmp .NotIn (.idx (.var 0) (.const (.int 0))) (.tup (.cons (.gc "INT" c_INT) (.cons (.gc "TEXT" c_TEXT) .nil)))))) (.cons (.ret (.const (.bl false)))
    .nil) .nil)
    (.cons (.ret (.blt (.isi .bool) (.idx (.var 0) (.const (.int 1)))))
    .nil))⟩
def F_fits_columns : Fn := ⟨"fits_columns", ["value"], ["value", "one"],
    (.cons (.ret (.and (.call 1 (.cons (.var 0) (.cons (.const (.int 1)) (.cons (.gc "COLUMNS" c_COLUMNS) .nil)))) (.and (.blt .all (.new (.comp [1] (.call 5 (.cons (.var 1) .nil)) (.name 1) (.val (.var 0)) .no))) (.cmp .Eq (.idx (.var 0) (.const (.int 0))) (.gc "KEY" c_KEY)))))
    .nil)⟩
def F_fits_rule_shape : Fn := ⟨"fits_rule_shape", ["columns", "many", "value"], ["columns", "many", "value"],
    (.cons (.iff (.or (.not (.call 1 (.cons (.var 2) (.cons (.const (.int 2)) (.cons (.const (.int 3)) .nil))))) (.not (.blt (.isi .str) (.idx (.var 2) (.const (.int 0)))))) (.cons (.ret (.const (.bl false)))
    .nil) .nil)
    (.cons (.iff (.cmp .Eq (.idx (.var 2) (.const (.int 0))) (.const (.str "check"))) (.cons (.ret (.cmp .Eq (.blt .len (.var 2)) (.const (.int 2))))
    .nil) .nil)
    (.cons (.iff (.not (.call 0 (.cons (.idx (.var 2) (.const (.int 1))) (.cons (.const (.int 1)) (.cons (.bin .Sub (.blt .len (.var 0)) (.const (.int 1))) .nil))))) (.cons (.ret (.const (.bl false)))
    .nil) .nil)
    (.cons (.iff (.cmp .Eq (.idx (.var 2) (.const (.int 0))) (.const (.str "unique"))) (.cons (.ret (.cmp .Eq (.blt .len (.var 2)) (.const (.int 2))))
    .nil) .nil)
    (.cons (.ret (.and (.cmp .Eq (.idx (.var 2) (.const (.int 0))) (.const (.str "refer"))) (.and (.cmp .Eq (.blt .len (.var 2)) (.const (.int 3))) (.and (.call 0 (.cons (.idx (.var 2) (.const (.int 2))) (.cons (.const (.int 0)) (.cons (.bin .Sub (.var 1) (.const (.int 1))) .nil)))) (.cmp .Eq (.idx (.idx (.var 0) (.idx (.var 2) (.const (.int 1)))) (.const (.int 0))) (.gc "INT" c_INT))))))
    .nil)))))⟩
def F_fits_row : Fn := ⟨"fits_row", ["columns", "value"], ["columns", "value", "many", "cell", "sort", "may"],
    (.cons (.asg (.name 2) (.blt .len (.var 0)))
    (.cons (.iff (.not (.call 1 (.cons (.var 1) (.cons (.var 2) (.cons (.var 2) .nil))))) (.cons (.ret (.const (.bl false)))
    .nil) .nil)
    (.cons (.ret (.blt .all (.new (.comp [3, 4, 5] (.or (.and (.cmp .Is (.var 3) (.const .non)) (.var 5)) (.call 54 (.cons (.var 4) (.cons (.var 3) .nil)))) (.two (.two (.name 4) (.name 5)) (.name 3)) (.zip (.var 0) (.var 1)) .no))))
    .nil)))⟩
def F_fits_rows : Fn := ⟨"fits_rows", ["columns", "value"], ["columns", "value", "one", "other"],
    (.cons (.iff (.or (.not (.call 1 (.cons (.var 1) (.cons (.const (.int 0)) (.cons (.gc "ROWS" c_ROWS) .nil))))) (.not (.blt .all (.new (.comp [2] (.call 55 (.cons (.var 0) (.cons (.var 2) .nil))) (.name 2) (.val (.var 1)) .no))))) (.cons (.ret (.const (.bl false)))
    .nil) .nil)
    (.cons (.ret (.blt .all (.new (.comp [2, 3] (.cmp .Lt (.idx (.var 2) (.const (.int 0))) (.idx (.var 3) (.const (.int 0)))) (.two (.name 2) (.name 3)) (.zip (.var 1) (.slc (.var 1) (.is (.const (.int 1))) .no)) .no))))
    .nil))⟩
def F_fits_state : Fn := ⟨"fits_state", ["schema", "value"], ["schema", "value", "many", "table", "rows"],
    (.cons (.asg (.name 2) (.blt .len (.var 0)))
    (.cons (.iff (.not (.call 1 (.cons (.var 1) (.cons (.var 2) (.cons (.var 2) .nil))))) (.cons (.ret (.const (.bl false)))
    .nil) .nil)
    (.cons (.ret (.blt .all (.new (.comp [3, 4] (.call 73 (.cons (.idx (.var 3) (.const (.int 0))) (.cons (.var 4) .nil))) (.two (.name 3) (.name 4)) (.zip (.var 0) (.var 1)) .no))))
    .nil)))⟩
def F_need_state : Fn := ⟨"need_state", ["schema", "value"], ["schema", "value"],
    (.cons (.iff (.not (.call 74 (.cons (.var 0) (.cons (.var 1) .nil)))) (.cons (.raise 5 "not a state of the schema")
    .nil) .nil)
    .nil)⟩
def F_refuse_schema : Fn := ⟨"refuse_schema", [], [],
    (.cons (.raise 1 "not a schema")
    .nil)⟩
def F_sort_of_value : Fn := ⟨"sort_of_value", ["value"], ["value"],
    (.cons (.ret (.ite (.cmp .Is (.var 0) (.const .non)) (.gc "ANY" c_ANY) (.ite (.call 3 (.cons (.var 0) .nil)) (.gc "INT" c_INT) (.gc "TEXT" c_TEXT))))
    .nil)⟩
def F_joined_sort : Fn := ⟨"joined_sort", ["one", "other"], ["one", "other"],
    (.cons (.iff (.or (.cmp .Is (.var 0) (.const .non)) (.cmp .Is (.var 1) (.const .non))) (.cons (.ret (.const .non))
    .nil) .nil)
    (.cons (.ret (.ite (.cmp .Eq (.var 0) (.gc "ANY" c_ANY)) (.var 1) (.ite (.cmp .In (.var 1) (.tup (.cons (.var 0) (.cons (.gc "ANY" c_ANY) .nil)))) (.var 0) (.const .non))))
    .nil))⟩
def F_sort_of : Fn := ⟨"sort_of", ["sources", "value", "deep"], ["sources", "value", "deep", "columns", "both", "one"],
    (.cons (.iff (.or (.cmp .Gt (.var 2) (.gc "DEEP" c_DEEP)) (.or (.not (.call 1 (.cons (.var 1) (.cons (.const (.int 2)) (.cons (.const (.int 3)) .nil))))) (.not (.blt (.isi .str) (.idx (.var 1) (.const (.int 0))))))) (.cons (.ret (.const .non))
    .nil) .nil)
    (.cons (.iff (.and (.cmp .Eq (.idx (.var 1) (.const (.int 0))) (.const (.str "value"))) (.cmp .Eq (.blt .len (.var 1)) (.const (.int 2)))) (.cons (.ret (.ite (.call 4 (.cons (.idx (.var 1) (.const (.int 1))) .nil)) (.call 9 (.cons (.idx (.var 1) (.const (.int 1))) .nil)) (.const .non)))
    .nil) .nil)
    (.cons (.iff (.and (.cmp .Eq (.idx (.var 1) (.const (.int 0))) (.const (.str "col"))) (.and (.cmp .Eq (.blt .len (.var 1)) (.const (.int 3))) (.call 0 (.cons (.idx (.var 1) (.const (.int 1))) (.cons (.const (.int 0)) (.cons (.bin .Sub (.blt .len (.var 0)) (.const (.int 1))) .nil)))))) (.cons (.asg (.name 3) (.idx (.var 0) (.idx (.var 1) (.const (.int 1)))))
    (.cons (.ret (.ite (.call 0 (.cons (.idx (.var 1) (.const (.int 2))) (.cons (.const (.int 0)) (.cons (.bin .Sub (.blt .len (.var 3)) (.const (.int 1))) .nil)))) (.idx (.idx (.var 3) (.idx (.var 1) (.const (.int 2)))) (.const (.int 0))) (.const .non)))
    .nil)) .nil)
    (.cons (.iff (.and (.cmp .Eq (.idx (.var 1) (.const (.int 0))) (.const (.str "plus"))) (.cmp .Eq (.blt .len (.var 1)) (.const (.int 3)))) (.cons (.asg (.name 4) (.new (.comp [5] (.call 10 (.cons (.gc "INT" c_INT) (.cons (.call 11 (.cons (.var 0) (.cons (.var 5) (.cons (.bin .Add (.var 2) (.const (.int 1))) .nil)))) .nil))) (.name 5) (.val (.slc (.var 1) (.is (.const (.int 1))) .no)) .no)))
    (.cons (.ret (.ite (.cmp .Eq (.var 4) (.new (.lst (.cons (.gc "INT" c_INT) (.cons (.gc "INT" c_INT) .nil))))) (.gc "INT" c_INT) (.const .non)))
    .nil)) .nil)
    (.cons (.ret (.const .non))
    .nil)))))⟩
def F_fits_leaf : Fn := ⟨"fits_leaf", ["sources", "value", "deep"], ["sources", "value", "deep", "sort", "one"],
    (.cons (.iff (.and (.cmp .In (.idx (.var 1) (.const (.int 0))) (.gc "COMPARED" c_COMPARED)) (.cmp .Eq (.blt .len (.var 1)) (.const (.int 3)))) (.cons (.ret (.cmp .IsNot (.call 10 (.cons (.call 11 (.cons (.var 0) (.cons (.idx (.var 1) (.const (.int 1))) (.cons (.bin .Add (.var 2) (.const (.int 1))) .nil)))) (.cons (.call 11 (.cons (.var 0) (.cons (.idx (.var 1) (.const (.int 2))) (.cons (.bin .Add (.var 2) (.const (.int 1))) .nil)))) .nil))) (.const .non)))
    .nil) .nil)
    (.cons (.iff (.and (.cmp .Eq (.idx (.var 1) (.const (.int 0))) (.const (.str "null"))) (.cmp .Eq (.blt .len (.var 1)) (.const (.int 2)))) (.cons (.ret (.cmp .IsNot (.call 11 (.cons (.var 0) (.cons (.idx (.var 1) (.const (.int 1))) (.cons (.bin .Add (.var 2) (.const (.int 1))) .nil)))) (.const .non)))
    .nil) .nil)
    (.cons (.iff (.or (.cmp .NotEq (.idx (.var 1) (.const (.int 0))) (.const (.str "in"))) (.or (.cmp .NotEq (.blt .len (.var 1)) (.const (.int 3))) (.not (.call 1 (.cons (.idx (.var 1) (.const (.int 2))) (.cons (.const (.int 0)) (.cons (.gc "IN" c_IN) .nil))))))) (.cons (.ret (.const (.bl false)))
    .nil) .nil)
    (.cons (.iff (.not (.blt .all (.new (.comp [4] (.call 4 (.cons (.var 4) .nil)) (.name 4) (.val (.idx (.var 1) (.const (.int 2)))) .no)))) (.cons (.ret (.const (.bl false)))
    .nil) .nil)
    (.cons (.asg (.name 3) (.call 11 (.cons (.var 0) (.cons (.idx (.var 1) (.const (.int 1))) (.cons (.bin .Add (.var 2) (.const (.int 1))) .nil)))))
    (.cons (.for (.name 4) (.val (.idx (.var 1) (.const (.int 2)))) (.cons (.asg (.name 3) (.call 10 (.cons (.var 3) (.cons (.call 9 (.cons (.var 4) .nil)) .nil))))
    .nil))
    (.cons (.ret (.cmp .IsNot (.var 3) (.const .non)))
    .nil)))))))⟩
def F_fits_test : Fn := ⟨"fits_test", ["sources", "value"], ["sources", "value", "line", "many", "one", "deep", "part"],
    (.cons (.par [2, 3] (.cons (.newm (.lst (.cons (.tup (.cons (.var 1) (.cons (.const (.int 1)) .nil))) .nil))) (.cons (.const (.int 0)) .nil)))
    (.cons (.whl (.cmp .NotEq (.var 2) (.new (.lst .nil))) (.cons (.asg (.tg (.two (.name 4) (.name 5))) (.pop (.var 2)))
    (.cons (.asg (.name 3) (.bin .Add (.var 3) (.const (.int 1))))
    (.cons (.iff (.or (.cmp .Gt (.var 3) (.gc "PARTS" c_PARTS)) (.or (.cmp .Gt (.var 5) (.gc "DEEP" c_DEEP)) (.or (.not (.call 1 (.cons (.var 4) (.cons (.const (.int 2)) (.cons (.const (.int 3)) .nil))))) (.not (.blt (.isi .str) (.idx (.var 4) (.const (.int 0)))))))) (.cons (.ret (.const (.bl false)))
    .nil) .nil)
    (.cons (.iff (.or (.and (.cmp .In (.idx (.var 4) (.const (.int 0))) (.gc "JOINED" c_JOINED)) (.cmp .Eq (.blt .len (.var 4)) (.const (.int 3)))) (.and (.cmp .Eq (.idx (.var 4) (.const (.int 0))) (.const (.str "not"))) (.cmp .Eq (.blt .len (.var 4)) (.const (.int 2))))) (.cons (.augl 2 (.newm (.comp [6] (.tup (.cons (.var 6) (.cons (.bin .Add (.var 5) (.const (.int 1))) .nil))) (.name 6) (.val (.slc (.var 4) (.is (.const (.int 1))) .no)) .no)))
    .nil) (.cons (.iff (.not (.call 12 (.cons (.var 0) (.cons (.var 4) (.cons (.var 5) .nil))))) (.cons (.ret (.const (.bl false)))
    .nil) .nil)
    .nil))
    .nil)))))
    (.cons (.ret (.const (.bl true)))
    .nil)))⟩
def F_worth_of : Fn := ⟨"worth_of", ["rows", "operand"], ["rows", "operand", "one", "other"],
    (.cons (.iff (.cmp .Eq (.idx (.var 1) (.const (.int 0))) (.const (.str "value"))) (.cons (.ret (.idx (.var 1) (.const (.int 1))))
    .nil) .nil)
    (.cons (.iff (.cmp .Eq (.idx (.var 1) (.const (.int 0))) (.const (.str "col"))) (.cons (.ret (.idx (.idx (.var 0) (.idx (.var 1) (.const (.int 1)))) (.idx (.var 1) (.const (.int 2)))))
    .nil) .nil)
    (.cons (.par [2, 3] (.cons (.call 56 (.cons (.var 0) (.cons (.idx (.var 1) (.const (.int 1))) .nil))) (.cons (.call 56 (.cons (.var 0) (.cons (.idx (.var 1) (.const (.int 2))) .nil))) .nil)))
    (.cons (.ret (.ite (.or (.cmp .Is (.var 2) (.const .non)) (.cmp .Is (.var 3) (.const .non))) (.const .non) (.bin .Add (.var 2) (.var 3))))
    .nil))))⟩
def F_turned : Fn := ⟨"turned", ["truth"], ["truth"],
    (.cons (.ret (.ite (.cmp .Is (.var 0) (.const .non)) (.const .non) (.not (.var 0))))
    .nil)⟩
def F_both_of : Fn := ⟨"both_of", ["one", "other"], ["one", "other"],
    (.cons (.iff (.or (.cmp .Is (.var 0) (.const (.bl false))) (.cmp .Is (.var 1) (.const (.bl false)))) (.cons (.ret (.const (.bl false)))
    .nil) .nil)
    (.cons (.ret (.ite (.or (.cmp .Is (.var 0) (.const .non)) (.cmp .Is (.var 1) (.const .non))) (.const .non) (.const (.bl true))))
    .nil))⟩
def F_either_of : Fn := ⟨"either_of", ["one", "other"], ["one", "other"],
    (.cons (.ret (.call 57 (.cons (.call 58 (.cons (.call 57 (.cons (.var 0) .nil)) (.cons (.call 57 (.cons (.var 1) .nil)) .nil))) .nil)))
    .nil)⟩
def F_same_of : Fn := ⟨"same_of", ["one", "other"], ["one", "other"],
    (.cons (.ret (.ite (.or (.cmp .Is (.var 0) (.const .non)) (.cmp .Is (.var 1) (.const .non))) (.const .non) (.cmp .Eq (.var 0) (.var 1))))
    .nil)⟩
def F_truth_of : Fn := ⟨"truth_of", ["rows", "test"], ["rows", "test", "word", "one", "other", "found", "value"],
    (.cons (.asg (.name 2) (.idx (.var 1) (.const (.int 0))))
    (.cons (.iff (.cmp .Eq (.var 2) (.const (.str "not"))) (.cons (.ret (.call 57 (.cons (.call 61 (.cons (.var 0) (.cons (.idx (.var 1) (.const (.int 1))) .nil))) .nil)))
    .nil) .nil)
    (.cons (.iff (.cmp .In (.var 2) (.gc "JOINED" c_JOINED)) (.cons (.par [3, 4] (.cons (.call 61 (.cons (.var 0) (.cons (.idx (.var 1) (.const (.int 1))) .nil))) (.cons (.call 61 (.cons (.var 0) (.cons (.idx (.var 1) (.const (.int 2))) .nil))) .nil)))
    (.cons (.ret (.ite (.cmp .Eq (.var 2) (.const (.str "and"))) (.call 58 (.cons (.var 3) (.cons (.var 4) .nil))) (.call 59 (.cons (.var 3) (.cons (.var 4) .nil)))))
    .nil)) .nil)
    (.cons (.asg (.name 3) (.call 56 (.cons (.var 0) (.cons (.idx (.var 1) (.const (.int 1))) .nil))))
    (.cons (.iff (.cmp .Eq (.var 2) (.const (.str "null"))) (.cons (.ret (.cmp .Is (.var 3) (.const .non)))
    .nil) .nil)
    (.cons (.iff (.cmp .Eq (.var 2) (.const (.str "in"))) (.cons (.asg (.name 5) (.const (.bl false)))
    (.cons (.for (.name 6) (.val (.idx (.var 1) (.const (.int 2)))) (.cons (.asg (.name 5) (.call 59 (.cons (.var 5) (.cons (.call 60 (.cons (.var 3) (.cons (.var 6) .nil))) .nil))))
    .nil))
    (.cons (.ret (.var 5))
    .nil))) .nil)
    (.cons (.asg (.name 4) (.call 56 (.cons (.var 0) (.cons (.idx (.var 1) (.const (.int 2))) .nil))))
    (.cons (.iff (.cmp .Eq (.var 2) (.const (.str "same"))) (.cons (.ret (.call 60 (.cons (.var 3) (.cons (.var 4) .nil))))
    .nil) .nil)
    (.cons (.iff (.or (.cmp .Is (.var 3) (.const .non)) (.cmp .Is (.var 4) (.const .non))) (.cons (.ret (.const .non))
    .nil) .nil)
    (.cons (.ret (.ite (.cmp .Eq (.var 2) (.const (.str "less"))) (.cmp .Lt (.var 3) (.var 4)) (.cmp .LtE (.var 3) (.var 4))))
    .nil))))))))))⟩
def F_fits_rule : Fn := ⟨"fits_rule", ["columns", "many", "value"], ["columns", "many", "value"],
    (.cons (.ret (.and (.call 7 (.cons (.var 0) (.cons (.var 1) (.cons (.var 2) .nil)))) (.or (.cmp .NotEq (.idx (.var 2) (.const (.int 0))) (.const (.str "check"))) (.call 13 (.cons (.tup (.cons (.var 0) .nil)) (.cons (.idx (.var 2) (.const (.int 1))) .nil))))))
    .nil)⟩
def F_fits_table : Fn := ⟨"fits_table", ["many", "value"], ["many", "value", "one"],
    (.cons (.iff (.or (.not (.call 1 (.cons (.var 1) (.cons (.const (.int 2)) (.cons (.const (.int 2)) .nil))))) (.or (.not (.call 6 (.cons (.idx (.var 1) (.const (.int 0))) .nil))) (.not (.call 1 (.cons (.idx (.var 1) (.const (.int 1))) (.cons (.const (.int 0)) (.cons (.gc "RULES" c_RULES) .nil))))))) (.cons (.ret (.const (.bl false)))
    .nil) .nil)
    (.cons (.ret (.blt .all (.new (.comp [2] (.call 14 (.cons (.idx (.var 1) (.const (.int 0))) (.cons (.var 0) (.cons (.var 2) .nil)))) (.name 2) (.val (.idx (.var 1) (.const (.int 1)))) .no))))
    .nil))⟩
def F_fits_schema : Fn := ⟨"fits_schema", ["value"], ["value", "one"],
    (.cons (.ret (.and (.call 1 (.cons (.var 0) (.cons (.const (.int 1)) (.cons (.gc "TABLES" c_TABLES) .nil)))) (.blt .all (.new (.comp [1] (.call 15 (.cons (.blt .len (.var 0)) (.cons (.var 1) .nil))) (.name 1) (.val (.var 0)) .no)))))
    .nil)⟩
def F_need_schema : Fn := ⟨"need_schema", ["value"], ["value"],
    (.cons (.iff (.not (.call 16 (.cons (.var 0) .nil))) (.cons (.expr (.call 8 .nil))
    .nil) .nil)
    .nil)⟩
def F_fits_wish : Fn := ⟨"fits_wish", ["columns", "value"], ["columns", "value"],
    (.cons (.ret (.or (.cmp .Is (.var 1) (.const .non)) (.call 13 (.cons (.tup (.cons (.var 0) .nil)) (.cons (.var 1) .nil)))))
    .nil)⟩
def F_fits_set : Fn := ⟨"fits_set", ["columns", "value"], ["columns", "value"],
    (.cons (.iff (.or (.not (.call 1 (.cons (.var 1) (.cons (.const (.int 2)) (.cons (.const (.int 2)) .nil))))) (.not (.call 0 (.cons (.idx (.var 1) (.const (.int 0))) (.cons (.const (.int 1)) (.cons (.bin .Sub (.blt .len (.var 0)) (.const (.int 1))) .nil)))))) (.cons (.ret (.const (.bl false)))
    .nil) .nil)
    (.cons (.ret (.cmp .IsNot (.call 10 (.cons (.idx (.idx (.var 0) (.idx (.var 1) (.const (.int 0)))) (.const (.int 0))) (.cons (.call 11 (.cons (.tup (.cons (.var 0) .nil)) (.cons (.idx (.var 1) (.const (.int 1))) (.cons (.const (.int 1)) .nil)))) .nil))) (.const .non)))
    .nil))⟩
def F_fits_sets : Fn := ⟨"fits_sets", ["columns", "value"], ["columns", "value", "one", "other"],
    (.cons (.iff (.or (.not (.call 1 (.cons (.var 1) (.cons (.const (.int 1)) (.cons (.gc "SETS" c_SETS) .nil))))) (.not (.blt .all (.new (.comp [2] (.call 81 (.cons (.var 0) (.cons (.var 2) .nil))) (.name 2) (.val (.var 1)) .no))))) (.cons (.ret (.const (.bl false)))
    .nil) .nil)
    (.cons (.ret (.blt .all (.new (.comp [2, 3] (.cmp .Lt (.idx (.var 2) (.const (.int 0))) (.idx (.var 3) (.const (.int 0)))) (.two (.name 2) (.name 3)) (.zip (.var 1) (.slc (.var 1) (.is (.const (.int 1))) .no)) .no))))
    .nil))⟩
def F_fits_statement : Fn := ⟨"fits_statement", ["schema", "value"], ["schema", "value", "columns", "one"],
    (.cons (.iff (.or (.not (.call 1 (.cons (.var 1) (.cons (.const (.int 3)) (.cons (.const (.int 4)) .nil))))) (.or (.not (.blt (.isi .str) (.idx (.var 1) (.const (.int 0))))) (.not (.call 0 (.cons (.idx (.var 1) (.const (.int 1))) (.cons (.const (.int 0)) (.cons (.bin .Sub (.blt .len (.var 0)) (.const (.int 1))) .nil))))))) (.cons (.ret (.const (.bl false)))
    .nil) .nil)
    (.cons (.asg (.name 2) (.idx (.idx (.var 0) (.idx (.var 1) (.const (.int 1)))) (.const (.int 0))))
    (.cons (.iff (.and (.cmp .Eq (.idx (.var 1) (.const (.int 0))) (.const (.str "add"))) (.cmp .Eq (.blt .len (.var 1)) (.const (.int 3)))) (.cons (.ret (.and (.call 1 (.cons (.idx (.var 1) (.const (.int 2))) (.cons (.const (.int 1)) (.cons (.gc "ADDED" c_ADDED) .nil)))) (.blt .all (.new (.comp [3] (.call 55 (.cons (.var 2) (.cons (.var 3) .nil))) (.name 3) (.val (.idx (.var 1) (.const (.int 2)))) .no)))))
    .nil) .nil)
    (.cons (.iff (.and (.cmp .Eq (.idx (.var 1) (.const (.int 0))) (.const (.str "set"))) (.cmp .Eq (.blt .len (.var 1)) (.const (.int 4)))) (.cons (.ret (.and (.call 80 (.cons (.var 2) (.cons (.idx (.var 1) (.const (.int 2))) .nil))) (.call 82 (.cons (.var 2) (.cons (.idx (.var 1) (.const (.int 3))) .nil)))))
    .nil) .nil)
    (.cons (.ret (.and (.cmp .Eq (.idx (.var 1) (.const (.int 0))) (.const (.str "take"))) (.and (.cmp .Eq (.blt .len (.var 1)) (.const (.int 3))) (.call 80 (.cons (.var 2) (.cons (.idx (.var 1) (.const (.int 2))) .nil))))))
    .nil)))))⟩
def F_meant_by : Fn := ⟨"meant_by", ["rows", "test"], ["rows", "test", "row"],
    (.cons (.ret (.new (.comp [2] (.var 2) (.name 2) (.val (.var 0)) (.is (.or (.cmp .Is (.var 1) (.const .non)) (.cmp .Is (.call 61 (.cons (.tup (.cons (.var 2) .nil)) (.cons (.var 1) .nil))) (.const (.bl true))))))))
    .nil)⟩
def F_with_rows : Fn := ⟨"with_rows", ["state", "table", "rows"], ["state", "table", "rows"],
    (.cons (.ret (.bin .Add (.bin .Add (.slc (.var 0) .no (.is (.var 1))) (.tup (.cons (.blt .tuple (.srtk (.var 2) 0)) .nil))) (.slc (.var 0) (.is (.bin .Add (.var 1) (.const (.int 1)))) .no)))
    .nil)⟩
def F_set_row : Fn := ⟨"set_row", ["columns", "row", "sets"], ["columns", "row", "sets", "found", "column", "operand", "value", "sort", "may"],
    (.cons (.asg (.name 3) (.newm (.listOf (.var 1))))
    (.cons (.for (.two (.name 4) (.name 5)) (.val (.var 2)) (.cons (.asg (.tg (.two (.name 6) (.two (.name 7) (.name 8)))) (.tup (.cons (.call 56 (.cons (.tup (.cons (.var 1) .nil)) (.cons (.var 5) .nil))) (.cons (.idx (.var 0) (.var 4)) .nil))))
    (.cons (.iff (.not (.ite (.cmp .IsNot (.var 6) (.const .non)) (.call 54 (.cons (.var 7) (.cons (.var 6) .nil))) (.var 8))) (.cons (.ret (.tup (.cons (.var 1) (.cons (.var 4) .nil))))
    .nil) .nil)
    (.cons (.asg (.idx (.var 3) (.var 4)) (.var 6))
    .nil))))
    (.cons (.ret (.tup (.cons (.blt .tuple (.var 3)) (.cons (.const .non) .nil))))
    .nil)))⟩
def F_breaks : Fn := ⟨"breaks", ["state", "table", "row", "rule"], ["state", "table", "row", "rule", "value", "one"],
    (.cons (.iff (.cmp .Eq (.idx (.var 3) (.const (.int 0))) (.const (.str "check"))) (.cons (.ret (.cmp .Is (.call 61 (.cons (.tup (.cons (.var 2) .nil)) (.cons (.idx (.var 3) (.const (.int 1))) .nil))) (.const (.bl false))))
    .nil) .nil)
    (.cons (.asg (.name 4) (.idx (.var 2) (.idx (.var 3) (.const (.int 1)))))
    (.cons (.iff (.cmp .Is (.var 4) (.const .non)) (.cons (.ret (.const (.bl false)))
    .nil) .nil)
    (.cons (.iff (.cmp .Eq (.idx (.var 3) (.const (.int 0))) (.const (.str "unique"))) (.cons (.ret (.blt .any (.new (.comp [5] (.and (.cmp .NotEq (.idx (.var 5) (.const (.int 0))) (.idx (.var 2) (.const (.int 0)))) (.cmp .Eq (.idx (.var 5) (.idx (.var 3) (.const (.int 1)))) (.var 4))) (.name 5) (.val (.idx (.var 0) (.var 1))) .no))))
    .nil) .nil)
    (.cons (.ret (.not (.blt .any (.new (.comp [5] (.cmp .Eq (.idx (.var 5) (.const (.int 0))) (.var 4)) (.name 5) (.val (.idx (.var 0) (.idx (.var 3) (.const (.int 2))))) .no)))))
    .nil)))))⟩
def F_first_broken : Fn := ⟨"first_broken", ["schema", "state", "table", "rows"], ["schema", "state", "table", "rows", "row", "at", "rule"],
    (.cons (.for (.name 4) (.val (.srtk (.var 3) 0)) (.cons (.for (.two (.name 5) (.name 6)) (.enum (.idx (.idx (.var 0) (.var 2)) (.const (.int 1)))) (.cons (.iff (.call 87 (.cons (.var 1) (.cons (.var 2) (.cons (.var 4) (.cons (.var 6) .nil))))) (.cons (.ret (.tup (.cons (.const (.str "refused")) (.cons (.idx (.var 6) (.const (.int 0))) (.cons (.var 2) (.cons (.idx (.var 4) (.const (.int 0))) (.cons (.var 5) .nil)))))))
    .nil) .nil)
    .nil))
    .nil))
    (.cons (.ret (.const .non))
    .nil))⟩
def F_first_left : Fn := ⟨"first_left", ["schema", "state", "table", "keys"], ["schema", "state", "table", "keys", "own", "row", "columns", "rules", "at", "rule"],
    (.cons (.for (.two (.name 4) (.two (.name 6) (.name 7))) (.enum (.var 0)) (.cons (.for (.name 5) (.val (.idx (.var 1) (.var 4))) (.cons (.for (.two (.name 8) (.name 9)) (.enum (.var 7)) (.cons (.iff (.and (.cmp .Eq (.idx (.var 9) (.const (.int 0))) (.const (.str "refer"))) (.and (.cmp .Eq (.idx (.var 9) (.const (.int 2))) (.var 2)) (.cmp .In (.idx (.var 5) (.idx (.var 9) (.const (.int 1)))) (.var 3)))) (.cons (.ret (.tup (.cons (.const (.str "refused")) (.cons (.const (.str "refer")) (.cons (.var 4) (.cons (.idx (.var 5) (.const (.int 0))) (.cons (.var 8) .nil)))))))
    .nil) .nil)
    .nil))
    .nil))
    .nil))
    (.cons (.ret (.const .non))
    .nil))⟩
def F_added_by : Fn := ⟨"added_by", ["schema", "state", "statement"], ["schema", "state", "statement", "known", "row", "behind", "refusal", "word", "table", "rows"],
    (.cons (.asg (.tg (.three (.name 7) (.name 8) (.name 9))) (.var 2))
    (.cons (.asg (.name 3) (.newm (.comp [4] (.idx (.var 4) (.const (.int 0))) (.name 4) (.val (.idx (.var 1) (.var 8))) .no)))
    (.cons (.for (.name 4) (.val (.var 9)) (.cons (.iff (.cmp .In (.idx (.var 4) (.const (.int 0))) (.var 3)) (.cons (.ret (.tup (.cons (.tup (.cons (.const (.str "refused")) (.cons (.const (.str "key")) (.cons (.var 8) (.cons (.idx (.var 4) (.const (.int 0))) (.cons (.const .non) .nil)))))) (.cons (.var 1) (.cons (.new (.lst .nil)) .nil)))))
    .nil) .nil)
    (.cons (.app (.var 3) (.idx (.var 4) (.const (.int 0))))
    .nil)))
    (.cons (.asg (.name 5) (.call 85 (.cons (.var 1) (.cons (.var 8) (.cons (.bin .Add (.idx (.var 1) (.var 8)) (.var 9)) .nil)))))
    (.cons (.asg (.name 6) (.call 88 (.cons (.var 0) (.cons (.var 5) (.cons (.var 8) (.cons (.var 9) .nil))))))
    (.cons (.iff (.cmp .IsNot (.var 6) (.const .non)) (.cons (.ret (.tup (.cons (.var 6) (.cons (.var 1) (.cons (.new (.lst .nil)) .nil)))))
    .nil) .nil)
    (.cons (.ret (.tup (.cons (.tup (.cons (.const (.str "done")) (.cons (.blt .len (.var 9)) .nil))) (.cons (.var 5) (.cons (.new (.comp [4] (.idx (.var 4) (.const (.int 0))) (.name 4) (.val (.var 9)) .no)) .nil)))))
    .nil)))))))⟩
def F_set_by : Fn := ⟨"set_by", ["schema", "state", "statement"], ["schema", "state", "statement", "row", "keys", "behind", "refusal", "word", "table", "test", "sets", "columns", "meant", "written", "found", "column"],
    (.cons (.asg (.tg (.four (.name 7) (.name 8) (.name 9) (.name 10))) (.var 2))
    (.cons (.par [11, 12, 13] (.cons (.idx (.idx (.var 0) (.var 8)) (.const (.int 0))) (.cons (.call 84 (.cons (.idx (.var 1) (.var 8)) (.cons (.var 9) .nil))) (.cons (.newm (.lst .nil)) .nil))))
    (.cons (.for (.name 3) (.val (.var 12)) (.cons (.asg (.tg (.two (.name 14) (.name 15))) (.call 86 (.cons (.var 11) (.cons (.var 3) (.cons (.var 10) .nil)))))
    (.cons (.iff (.cmp .IsNot (.var 15) (.const .non)) (.cons (.ret (.tup (.cons (.tup (.cons (.const (.str "refused")) (.cons (.const (.str "value")) (.cons (.var 8) (.cons (.idx (.var 3) (.const (.int 0))) (.cons (.var 15) .nil)))))) (.cons (.var 1) (.cons (.new (.lst .nil)) .nil)))))
    .nil) .nil)
    (.cons (.app (.var 13) (.var 14))
    .nil))))
    (.cons (.asg (.name 4) (.new (.comp [3] (.idx (.var 3) (.const (.int 0))) (.name 3) (.val (.var 12)) .no)))
    (.cons (.asg (.name 5) (.call 85 (.cons (.var 1) (.cons (.var 8) (.cons (.bin .Add (.new (.comp [3] (.var 3) (.name 3) (.val (.idx (.var 1) (.var 8))) (.is (.cmp .NotIn (.idx (.var 3) (.const (.int 0))) (.var 4))))) (.var 13)) .nil)))))
    (.cons (.asg (.name 6) (.call 88 (.cons (.var 0) (.cons (.var 5) (.cons (.var 8) (.cons (.var 13) .nil))))))
    (.cons (.ret (.ite (.cmp .IsNot (.var 6) (.const .non)) (.tup (.cons (.var 6) (.cons (.var 1) (.cons (.new (.lst .nil)) .nil)))) (.tup (.cons (.tup (.cons (.const (.str "done")) (.cons (.blt .len (.var 4)) .nil))) (.cons (.var 5) (.cons (.var 4) .nil))))))
    .nil)))))))⟩
def F_taken_by : Fn := ⟨"taken_by", ["schema", "state", "statement"], ["schema", "state", "statement", "keys", "behind", "refusal", "word", "table", "test", "row"],
    (.cons (.asg (.tg (.three (.name 6) (.name 7) (.name 8))) (.var 2))
    (.cons (.asg (.name 3) (.new (.comp [9] (.idx (.var 9) (.const (.int 0))) (.name 9) (.val (.call 84 (.cons (.idx (.var 1) (.var 7)) (.cons (.var 8) .nil)))) .no)))
    (.cons (.asg (.name 4) (.call 85 (.cons (.var 1) (.cons (.var 7) (.cons (.new (.comp [9] (.var 9) (.name 9) (.val (.idx (.var 1) (.var 7))) (.is (.cmp .NotIn (.idx (.var 9) (.const (.int 0))) (.var 3))))) .nil)))))
    (.cons (.asg (.name 5) (.call 89 (.cons (.var 0) (.cons (.var 4) (.cons (.var 7) (.cons (.var 3) .nil))))))
    (.cons (.ret (.ite (.cmp .IsNot (.var 5) (.const .non)) (.tup (.cons (.var 5) (.cons (.var 1) (.cons (.new (.lst .nil)) .nil)))) (.tup (.cons (.tup (.cons (.const (.str "done")) (.cons (.blt .len (.var 3)) .nil))) (.cons (.var 4) (.cons (.var 3) .nil))))))
    .nil)))))⟩
def F_changed_by : Fn := ⟨"changed_by", ["schema", "state", "statement"], ["schema", "state", "statement", "ways", "answer", "behind", "keys", "key"],
    (.cons (.asg (.name 3) (.dsp [("add", 90), ("set", 91), ("take", 92)]))
    (.cons (.asg (.tg (.three (.name 4) (.name 5) (.name 6))) (.calld 3 (.idx (.var 2) (.const (.int 0))) (.cons (.var 0) (.cons (.var 1) (.cons (.var 2) .nil)))))
    (.cons (.ret (.tup (.cons (.var 4) (.cons (.var 5) (.cons (.srtp (.new (.comp [7] (.tup (.cons (.idx (.var 2) (.const (.int 1))) (.cons (.var 7) .nil))) (.name 7) (.val (.var 6)) .no))) .nil)))))
    .nil)))⟩
def F_need_both : Fn := ⟨"need_both", ["schema", "state"], ["schema", "state"],
    (.cons (.expr (.call 17 (.cons (.var 0) .nil)))
    (.cons (.expr (.call 79 (.cons (.var 0) (.cons (.var 1) .nil))))
    .nil))⟩
def F_need_statement : Fn := ⟨"need_statement", ["schema", "value"], ["schema", "value"],
    (.cons (.iff (.not (.call 83 (.cons (.var 0) (.cons (.var 1) .nil)))) (.cons (.raise 10 "not a statement of the schema")
    .nil) .nil)
    .nil)⟩
def F_change_of : Fn := ⟨"change_of", ["schema", "state", "statement"], ["schema", "state", "statement"],
    (.cons (.expr (.call 94 (.cons (.var 0) (.cons (.var 1) .nil))))
    (.cons (.expr (.call 95 (.cons (.var 0) (.cons (.var 2) .nil))))
    (.cons (.ret (.slc (.call 93 (.cons (.var 0) (.cons (.var 1) (.cons (.var 2) .nil)))) .no (.is (.const (.int 2)))))
    .nil)))⟩
def F_places_of : Fn := ⟨"places_of", ["schema", "state", "statement"], ["schema", "state", "statement"],
    (.cons (.expr (.call 94 (.cons (.var 0) (.cons (.var 1) .nil))))
    (.cons (.expr (.call 95 (.cons (.var 0) (.cons (.var 2) .nil))))
    (.cons (.ret (.blt .tuple (.idx (.call 93 (.cons (.var 0) (.cons (.var 1) (.cons (.var 2) .nil)))) (.const (.int 2)))))
    .nil)))⟩
def F__law_cup : Fn := ⟨"_law_cup", ["script"], ["script", "cell"],
    (.cons (.asg (.name 1) (.blt .abs (.idx (.bin .Add (.new (.listOf (.var 0))) (.new (.lst (.cons (.const (.int 0)) .nil)))) (.const (.int 0)))))
    (.cons (.ret (.newm (.lst (.cons (.ite (.cmp .GtE (.var 1) (.bin .Pow (.const (.int 10)) (.const (.int 18)))) (.bin .FloorDiv (.var 1) (.const (.int 109))) (.const (.int 0))) (.cons (.bin .Add (.bin .Mod (.blt .int (.bin .Add (.bin .Mult (.var 1) (.const (.int 347))) (.const (.int 3701)))) (.const (.int 2077503017))) (.const (.int 223))) .nil)))))
    .nil))⟩
def F__law_roll : Fn := ⟨"_law_roll", ["cup", "many"], ["cup", "many", "deep", "found"],
    (.cons (.iff (.cmp .Gt (.idx (.var 0) (.const (.int 0))) (.const (.int 0))) (.cons (.asg (.name 3) (.bin .Mod (.blt .int (.idx (.var 0) (.const (.int 0)))) (.var 1)))
    (.cons (.asg (.idx (.var 0) (.const (.int 0))) (.bin .FloorDiv (.idx (.var 0) (.const (.int 0))) (.var 1)))
    (.cons (.ret (.var 3))
    .nil))) .nil)
    (.cons (.asg (.idx (.var 0) (.const (.int 1))) (.bin .Mod (.blt .int (.bin .Add (.bin .Mult (.idx (.var 0) (.const (.int 1))) (.const (.int 31147))) (.const (.int 8093)))) (.const (.int 2147483249))))
    (.cons (.asg (.name 2) (.bin .Mod (.blt .int (.bin .Mult (.idx (.var 0) (.const (.int 1))) (.bin .Add (.idx (.var 0) (.const (.int 1))) (.const (.int 281))))) (.const (.int 2147483587))))
    (.cons (.ret (.bin .Mod (.blt .int (.bin .FloorDiv (.var 2) (.const (.int 881)))) (.var 1)))
    .nil))))⟩
def F__law_some : Fn := ⟨"_law_some", ["cup", "things"], ["cup", "things"],
    (.cons (.ret (.idx (.var 1) (.call 30 (.cons (.var 0) (.cons (.blt .len (.var 1)) .nil)))))
    .nil)⟩
def F__law_worth : Fn := ⟨"_law_worth", ["rows", "operand"], ["rows", "operand", "one", "other"],
    (.cons (.iff (.cmp .Eq (.idx (.var 1) (.const (.int 0))) (.const (.str "value"))) (.cons (.ret (.idx (.var 1) (.const (.int 1))))
    .nil) .nil)
    (.cons (.iff (.cmp .Eq (.idx (.var 1) (.const (.int 0))) (.const (.str "col"))) (.cons (.ret (.idx (.idx (.var 0) (.idx (.var 1) (.const (.int 1)))) (.idx (.var 1) (.const (.int 2)))))
    .nil) .nil)
    (.cons (.par [2, 3] (.cons (.call 65 (.cons (.var 0) (.cons (.idx (.var 1) (.const (.int 1))) .nil))) (.cons (.call 65 (.cons (.var 0) (.cons (.idx (.var 1) (.const (.int 2))) .nil))) .nil)))
    (.cons (.ret (.ite (.or (.cmp .Is (.var 2) (.const .non)) (.cmp .Is (.var 3) (.const .non))) (.const .non) (.bin .Add (.var 2) (.var 3))))
    .nil))))⟩
def F__law_truth : Fn := ⟨"_law_truth", ["rows", "test"], ["rows", "test", "word", "one", "other", "value"],
    (.cons (.asg (.name 2) (.idx (.var 1) (.const (.int 0))))
    (.cons (.iff (.cmp .Eq (.var 2) (.const (.str "not"))) (.cons (.ret (.bin .Sub (.const (.int 2)) (.call 66 (.cons (.var 0) (.cons (.idx (.var 1) (.const (.int 1))) .nil)))))
    .nil) .nil)
    (.cons (.iff (.cmp .Eq (.var 2) (.const (.str "and"))) (.cons (.ret (.mm false (.call 66 (.cons (.var 0) (.cons (.idx (.var 1) (.const (.int 1))) .nil))) (.call 66 (.cons (.var 0) (.cons (.idx (.var 1) (.const (.int 2))) .nil)))))
    .nil) .nil)
    (.cons (.iff (.cmp .Eq (.var 2) (.const (.str "or"))) (.cons (.ret (.mm true (.call 66 (.cons (.var 0) (.cons (.idx (.var 1) (.const (.int 1))) .nil))) (.call 66 (.cons (.var 0) (.cons (.idx (.var 1) (.const (.int 2))) .nil)))))
    .nil) .nil)
    (.cons (.asg (.name 3) (.call 65 (.cons (.var 0) (.cons (.idx (.var 1) (.const (.int 1))) .nil))))
    (.cons (.iff (.cmp .Eq (.var 2) (.const (.str "null"))) (.cons (.ret (.ite (.cmp .Is (.var 3) (.const .non)) (.const (.int 2)) (.const (.int 0))))
    .nil) .nil)
    (.cons (.iff (.cmp .Eq (.var 2) (.const (.str "in"))) (.cons (.ret (.blt .max (.bin .Add (.new (.lst (.cons (.const (.int 0)) .nil))) (.new (.comp [5] (.ite (.or (.cmp .Is (.var 3) (.const .non)) (.cmp .Is (.var 5) (.const .non))) (.const (.int 1)) (.ite (.cmp .Eq (.var 3) (.var 5)) (.const (.int 2)) (.const (.int 0)))) (.name 5) (.val (.idx (.var 1) (.const (.int 2)))) .no)))))
    .nil) .nil)
    (.cons (.asg (.name 4) (.call 65 (.cons (.var 0) (.cons (.idx (.var 1) (.const (.int 2))) .nil))))
    (.cons (.iff (.or (.cmp .Is (.var 3) (.const .non)) (.cmp .Is (.var 4) (.const .non))) (.cons (.ret (.const (.int 1)))
    .nil) .nil)
    (.cons (.ret (.ite (.ite (.cmp .Eq (.var 2) (.const (.str "same"))) (.cmp .Eq (.var 3) (.var 4)) (.ite (.cmp .Eq (.var 2) (.const (.str "less"))) (.cmp .Lt (.var 3) (.var 4)) (.cmp .LtE (.var 3) (.var 4)))) (.const (.int 2)) (.const (.int 0))))
    .nil))))))))))⟩
def F__law_schema : Fn := ⟨"_law_schema", ["cup"], ["cup", "columns", "first", "rules"],
    (.cons (.asg (.name 1) (.tup (.cons (.tup (.cons (.const (.str "int")) (.cons (.const (.bl false)) .nil))) (.cons (.tup (.cons (.const (.str "word")) (.cons (.const (.bl true)) .nil))) (.cons (.tup (.cons (.const (.str "int")) (.cons (.call 31 (.cons (.var 0) (.cons (.new (.lst (.cons (.const (.bl true)) (.cons (.const (.bl false)) .nil)))) .nil))) .nil))) .nil)))))
    (.cons (.asg (.name 2) (.tup (.cons (.var 1) (.cons (.call 31 (.cons (.var 0) (.cons (.new (.lst (.cons (.tup .nil) (.cons (.tup (.cons (.tup (.cons (.const (.str "unique")) (.cons (.const (.int 1)) .nil))) .nil)) (.cons (.tup (.cons (.tup (.cons (.const (.str "check")) (.cons (.tup (.cons (.const (.str "less")) (.cons (.tup (.cons (.const (.str "value")) (.cons (.neg (.const (.int 9))) .nil))) (.cons (.tup (.cons (.const (.str "col")) (.cons (.const (.int 0)) (.cons (.const (.int 2)) .nil)))) .nil)))) .nil))) .nil)) .nil))))) .nil))) .nil))))
    (.cons (.asg (.name 3) (.call 31 (.cons (.var 0) (.cons (.new (.lst (.cons (.tup .nil) (.cons (.tup (.cons (.tup (.cons (.const (.str "refer")) (.cons (.const (.int 1)) (.cons (.const (.int 0)) .nil)))) .nil)) (.cons (.tup (.cons (.tup (.cons (.const (.str "refer")) (.cons (.const (.int 1)) (.cons (.const (.int 0)) .nil)))) (.cons (.tup (.cons (.const (.str "unique")) (.cons (.const (.int 2)) .nil))) .nil))) .nil))))) .nil))))
    (.cons (.ret (.tup (.cons (.var 2) (.cons (.tup (.cons (.tup (.cons (.tup (.cons (.const (.str "int")) (.cons (.const (.bl false)) .nil))) (.cons (.tup (.cons (.const (.str "int")) (.cons (.const (.bl true)) .nil))) (.cons (.tup (.cons (.const (.str "int")) (.cons (.const (.bl true)) .nil))) .nil)))) (.cons (.var 3) .nil))) .nil))))
    .nil))))⟩
def F__law_value : Fn := ⟨"_law_value", ["cup", "column"], ["cup", "column"],
    (.cons (.iff (.and (.idx (.var 1) (.const (.int 1))) (.cmp .Eq (.call 30 (.cons (.var 0) (.cons (.const (.int 4)) .nil))) (.const (.int 0)))) (.cons (.ret (.const .non))
    .nil) .nil)
    (.cons (.ret (.ite (.cmp .Eq (.idx (.var 1) (.const (.int 0))) (.const (.str "int"))) (.call 30 (.cons (.var 0) (.cons (.const (.int 5)) .nil))) (.call 31 (.cons (.var 0) (.cons (.new (.lst (.cons (.const (.str "a")) (.cons (.const (.str "b")) (.cons (.const (.str "ab")) (.cons (.const (.str "c")) .nil)))))) .nil)))))
    .nil))⟩
def F__law_state : Fn := ⟨"_law_state", ["cup", "schema", "most"], ["cup", "schema", "most", "tables", "columns", "rules", "keys", "turn", "key", "one"],
    (.cons (.asg (.name 3) (.newm (.lst .nil)))
    (.cons (.for (.two (.name 4) (.name 5)) (.val (.var 1)) (.cons (.asg (.name 6) (.srt (.new (.comp [7] (.call 30 (.cons (.var 0) (.cons (.bin .Add (.var 2) (.const (.int 2))) .nil))) (.name 7) (.rng1 (.call 30 (.cons (.var 0) (.cons (.bin .Add (.var 2) (.const (.int 1))) .nil)))) .no))))
    (.cons (.app (.var 3) (.blt .tuple (.new (.comp [8] (.bin .Add (.tup (.cons (.var 8) .nil)) (.blt .tuple (.new (.comp [9] (.call 67 (.cons (.var 0) (.cons (.var 9) .nil))) (.name 9) (.val (.slc (.var 4) (.is (.const (.int 1))) .no)) .no)))) (.name 8) (.val (.var 6)) .no))))
    .nil)))
    (.cons (.ret (.blt .tuple (.var 3)))
    .nil)))⟩
def F__law_rows : Fn := ⟨"_law_rows", ["cup", "schema", "most"], ["cup", "schema", "most", "state", "table", "columns", "rules", "row", "one"],
    (.cons (.asg (.name 3) (.call 77 (.cons (.var 0) (.cons (.var 1) (.cons (.var 2) .nil)))))
    (.cons (.for (.two (.name 4) (.two (.name 5) (.name 6))) (.enum (.var 1)) (.cons (.iff (.cmp .Eq (.call 30 (.cons (.var 0) (.cons (.const (.int 3)) .nil))) (.const (.int 0))) (.cons (.asg (.name 7) (.bin .Add (.tup (.cons (.call 31 (.cons (.var 0) (.cons (.new (.lst (.cons (.neg (.const (.int 11))) (.cons (.neg (.const (.int 2))) (.cons (.const (.int 10)) (.cons (.const (.int 57)) .nil)))))) .nil))) .nil)) (.blt .tuple (.new (.comp [8] (.call 67 (.cons (.var 0) (.cons (.var 8) .nil))) (.name 8) (.val (.slc (.var 5) (.is (.const (.int 1))) .no)) .no)))))
    (.cons (.asg (.name 3) (.bin .Add (.bin .Add (.slc (.var 3) .no (.is (.var 4))) (.tup (.cons (.blt .tuple (.srtk (.bin .Add (.idx (.var 3) (.var 4)) (.tup (.cons (.var 7) .nil))) 0)) .nil))) (.slc (.var 3) (.is (.bin .Add (.var 4) (.const (.int 1)))) .no)))
    .nil)) .nil)
    .nil))
    (.cons (.ret (.var 3))
    .nil)))⟩
def F__law_crossed_schema : Fn := ⟨"_law_crossed_schema", ["cup"], ["cup", "within", "first", "twice", "rules"],
    (.cons (.asg (.name 1) (.tup (.cons (.const (.str "or")) (.cons (.tup (.cons (.const (.str "null")) (.cons (.tup (.cons (.const (.str "col")) (.cons (.const (.int 0)) (.cons (.const (.int 5)) .nil)))) .nil))) (.cons (.tup (.cons (.const (.str "and")) (.cons (.tup (.cons (.const (.str "in")) (.cons (.tup (.cons (.const (.str "col")) (.cons (.const (.int 0)) (.cons (.const (.int 4)) .nil)))) (.cons (.tup (.cons (.const (.int 0)) (.cons (.const (.int 1)) (.cons (.const (.int 2)) (.cons (.const .non) .nil))))) .nil)))) (.cons (.tup (.cons (.const (.str "most")) (.cons (.tup (.cons (.const (.str "plus")) (.cons (.tup (.cons (.const (.str "col")) (.cons (.const (.int 0)) (.cons (.const (.int 4)) .nil)))) (.cons (.tup (.cons (.const (.str "value")) (.cons (.neg (.const (.int 1))) .nil))) .nil)))) (.cons (.tup (.cons (.const (.str "col")) (.cons (.const (.int 0)) (.cons (.const (.int 5)) .nil)))) .nil)))) .nil)))) .nil)))))
    (.cons (.asg (.name 2) (.tup (.cons (.tup (.cons (.const (.str "int")) (.cons (.const (.bl false)) .nil))) (.cons (.tup (.cons (.const (.str "int")) (.cons (.const (.bl true)) .nil))) (.cons (.tup (.cons (.const (.str "int")) (.cons (.const (.bl true)) .nil))) (.cons (.tup (.cons (.const (.str "word")) (.cons (.const (.bl true)) .nil))) (.cons (.tup (.cons (.const (.str "int")) (.cons (.const (.bl false)) .nil))) (.cons (.tup (.cons (.const (.str "int")) (.cons (.const (.bl true)) .nil))) .nil))))))))
    (.cons (.asg (.name 3) (.tup (.cons (.tup (.cons (.const (.str "refer")) (.cons (.const (.int 1)) (.cons (.const (.int 1)) .nil)))) (.cons (.tup (.cons (.const (.str "refer")) (.cons (.const (.int 2)) (.cons (.const (.int 1)) .nil)))) (.cons (.tup (.cons (.const (.str "check")) (.cons (.var 1) .nil))) .nil)))))
    (.cons (.asg (.name 4) (.call 31 (.cons (.var 0) (.cons (.new (.lst (.cons (.var 3) (.cons (.tup (.cons (.tup (.cons (.const (.str "refer")) (.cons (.const (.int 2)) (.cons (.const (.int 1)) .nil)))) (.cons (.tup (.cons (.const (.str "unique")) (.cons (.const (.int 3)) .nil))) (.cons (.tup (.cons (.const (.str "refer")) (.cons (.const (.int 1)) (.cons (.const (.int 1)) .nil)))) (.cons (.tup (.cons (.const (.str "check")) (.cons (.var 1) .nil))) .nil))))) (.cons (.tup (.cons (.tup (.cons (.const (.str "check")) (.cons (.var 1) .nil))) .nil)) .nil))))) .nil))))
    (.cons (.ret (.tup (.cons (.tup (.cons (.var 2) (.cons (.var 4) .nil))) (.cons (.tup (.cons (.tup (.cons (.tup (.cons (.const (.str "int")) (.cons (.const (.bl false)) .nil))) (.cons (.tup (.cons (.const (.str "int")) (.cons (.const (.bl true)) .nil))) (.cons (.tup (.cons (.const (.str "word")) (.cons (.const (.bl false)) .nil))) .nil)))) (.cons (.call 31 (.cons (.var 0) (.cons (.new (.lst (.cons (.tup (.cons (.tup (.cons (.const (.str "refer")) (.cons (.const (.int 1)) (.cons (.const (.int 0)) .nil)))) .nil)) (.cons (.tup (.cons (.tup (.cons (.const (.str "refer")) (.cons (.const (.int 1)) (.cons (.const (.int 0)) .nil)))) (.cons (.tup (.cons (.const (.str "unique")) (.cons (.const (.int 2)) .nil))) .nil))) .nil)))) .nil))) .nil))) .nil))))
    .nil)))))⟩
def F__law_any_schema : Fn := ⟨"_law_any_schema", ["cup"], ["cup", "way", "node", "checks", "link"],
    (.cons (.asg (.name 1) (.call 30 (.cons (.var 0) (.cons (.const (.int 5)) .nil))))
    (.cons (.iff (.or (.cmp .Lt (.var 1) (.const (.int 2))) (.cmp .Eq (.var 1) (.const (.int 4)))) (.cons (.ret (.ite (.cmp .Lt (.var 1) (.const (.int 2))) (.call 32 (.cons (.var 0) .nil)) (.call 99 (.cons (.var 0) .nil))))
    .nil) .nil)
    (.cons (.asg (.name 2) (.tup (.cons (.tup (.cons (.tup (.cons (.const (.str "int")) (.cons (.const (.bl false)) .nil))) (.cons (.tup (.cons (.const (.str "int")) (.cons (.const (.bl true)) .nil))) (.cons (.tup (.cons (.const (.str "word")) (.cons (.const (.bl true)) .nil))) .nil)))) (.cons (.call 31 (.cons (.var 0) (.cons (.new (.lst (.cons (.tup (.cons (.tup (.cons (.const (.str "refer")) (.cons (.const (.int 1)) (.cons (.const (.int 0)) .nil)))) .nil)) (.cons (.tup (.cons (.tup (.cons (.const (.str "refer")) (.cons (.const (.int 1)) (.cons (.const (.int 0)) .nil)))) (.cons (.tup (.cons (.const (.str "unique")) (.cons (.const (.int 2)) .nil))) .nil))) .nil)))) .nil))) .nil))))
    (.cons (.asg (.name 3) (.new (.lst (.cons (.tup (.cons (.const (.str "check")) (.cons (.tup (.cons (.const (.str "most")) (.cons (.tup (.cons (.const (.str "col")) (.cons (.const (.int 0)) (.cons (.const (.int 1)) .nil)))) (.cons (.tup (.cons (.const (.str "col")) (.cons (.const (.int 0)) (.cons (.const (.int 2)) .nil)))) .nil)))) .nil))) (.cons (.tup (.cons (.const (.str "check")) (.cons (.tup (.cons (.const (.str "not")) (.cons (.tup (.cons (.const (.str "same")) (.cons (.tup (.cons (.const (.str "col")) (.cons (.const (.int 0)) (.cons (.const (.int 1)) .nil)))) (.cons (.tup (.cons (.const (.str "col")) (.cons (.const (.int 0)) (.cons (.const (.int 2)) .nil)))) .nil)))) .nil))) .nil))) (.cons (.tup (.cons (.const (.str "unique")) (.cons (.const (.int 1)) .nil))) .nil))))))
    (.cons (.asg (.name 4) (.tup (.cons (.tup (.cons (.tup (.cons (.const (.str "int")) (.cons (.const (.bl false)) .nil))) (.cons (.tup (.cons (.const (.str "int")) (.cons (.call 31 (.cons (.var 0) (.cons (.new (.lst (.cons (.const (.bl true)) (.cons (.const (.bl false)) .nil)))) .nil))) .nil))) (.cons (.tup (.cons (.const (.str "int")) (.cons (.const (.bl true)) .nil))) .nil)))) (.cons (.tup (.cons (.tup (.cons (.const (.str "refer")) (.cons (.const (.int 1)) (.cons (.const (.int 0)) .nil)))) (.cons (.tup (.cons (.const (.str "refer")) (.cons (.const (.int 2)) (.cons (.const (.int 1)) .nil)))) (.cons (.call 31 (.cons (.var 0) (.cons (.var 3) .nil))) .nil)))) .nil))))
    (.cons (.ret (.tup (.cons (.var 2) (.cons (.var 4) (.cons (.tup (.cons (.tup (.cons (.tup (.cons (.const (.str "int")) (.cons (.const (.bl false)) .nil))) (.cons (.tup (.cons (.const (.str "word")) (.cons (.const (.bl false)) .nil))) (.cons (.tup (.cons (.const (.str "int")) (.cons (.const (.bl true)) .nil))) .nil)))) (.cons (.call 31 (.cons (.var 0) (.cons (.new (.lst (.cons (.tup .nil) (.cons (.tup (.cons (.tup (.cons (.const (.str "unique")) (.cons (.const (.int 1)) .nil))) .nil)) (.cons (.tup (.cons (.tup (.cons (.const (.str "refer")) (.cons (.const (.int 2)) (.cons (.const (.int 1)) .nil)))) (.cons (.tup (.cons (.const (.str "unique")) (.cons (.const (.int 2)) .nil))) .nil))) .nil))))) .nil))) .nil))) .nil)))))
    .nil))))))⟩
def F__law_broken : Fn := ⟨"_law_broken", ["state", "table", "row", "rule"], ["state", "table", "row", "rule", "one"],
    (.cons (.iff (.cmp .Eq (.idx (.var 3) (.const (.int 0))) (.const (.str "check"))) (.cons (.ret (.cmp .Eq (.call 66 (.cons (.tup (.cons (.var 2) .nil)) (.cons (.idx (.var 3) (.const (.int 1))) .nil))) (.const (.int 0))))
    .nil) .nil)
    (.cons (.iff (.cmp .Is (.idx (.var 2) (.idx (.var 3) (.const (.int 1)))) (.const .non)) (.cons (.ret (.const (.bl false)))
    .nil) .nil)
    (.cons (.iff (.cmp .Eq (.idx (.var 3) (.const (.int 0))) (.const (.str "unique"))) (.cons (.ret (.cmp .NotEq (.new (.comp [4] (.var 4) (.name 4) (.val (.idx (.var 0) (.var 1))) (.is (.and (.cmp .NotEq (.idx (.var 4) (.const (.int 0))) (.idx (.var 2) (.const (.int 0)))) (.cmp .Eq (.idx (.var 4) (.idx (.var 3) (.const (.int 1)))) (.idx (.var 2) (.idx (.var 3) (.const (.int 1))))))))) (.new (.lst .nil))))
    .nil) .nil)
    (.cons (.ret (.cmp .NotIn (.idx (.var 2) (.idx (.var 3) (.const (.int 1)))) (.new (.comp [4] (.idx (.var 4) (.const (.int 0))) (.name 4) (.val (.idx (.var 0) (.idx (.var 3) (.const (.int 2))))) .no))))
    .nil))))⟩
def F__law_all_broken : Fn := ⟨"_law_all_broken", ["schema", "state"], ["schema", "state", "found", "table", "row", "at", "rule"],
    (.cons (.asg (.name 2) (.new (.lst .nil)))
    (.cons (.for (.name 3) (.rng1 (.blt .len (.var 0))) (.cons (.for (.name 4) (.val (.idx (.var 1) (.var 3))) (.cons (.asg (.name 2) (.bin .Add (.var 2) (.new (.comp [5, 6] (.tup (.cons (.var 3) (.cons (.idx (.var 4) (.const (.int 0))) (.cons (.var 5) .nil)))) (.two (.name 5) (.name 6)) (.enum (.idx (.idx (.var 0) (.var 3)) (.const (.int 1)))) (.is (.call 101 (.cons (.var 1) (.cons (.var 3) (.cons (.var 4) (.cons (.var 6) .nil))))))))))
    .nil))
    .nil))
    (.cons (.ret (.var 2))
    .nil)))⟩
def F__law_kept_state : Fn := ⟨"_law_kept_state", ["cup", "schema", "most"], ["cup", "schema", "most", "state", "turn", "gone", "one", "table", "rows", "row"],
    (.cons (.asg (.name 3) (.call 98 (.cons (.var 0) (.cons (.var 1) (.cons (.var 2) .nil)))))
    (.cons (.for (.name 4) (.rng1 (.bin .Add (.bin .Mult (.const (.int 3)) (.var 2)) (.const (.int 3)))) (.cons (.asg (.name 5) (.new (.comp [6] (.slc (.var 6) .no (.is (.const (.int 2)))) (.name 6) (.val (.call 102 (.cons (.var 1) (.cons (.var 3) .nil)))) .no)))
    (.cons (.asg (.name 3) (.blt .tuple (.new (.comp [7, 8] (.blt .tuple (.new (.comp [9] (.var 9) (.name 9) (.val (.var 8)) (.is (.cmp .NotIn (.tup (.cons (.var 7) (.cons (.idx (.var 9) (.const (.int 0))) .nil))) (.var 5)))))) (.two (.name 7) (.name 8)) (.enum (.var 3)) .no))))
    .nil)))
    (.cons (.ret (.var 3))
    .nil)))⟩
def F__law_drawn_row : Fn := ⟨"_law_drawn_row", ["cup", "columns"], ["cup", "columns", "one"],
    (.cons (.ret (.bin .Add (.tup (.cons (.call 31 (.cons (.var 0) (.cons (.bin .Add (.new (.rep (.lst (.cons (.call 30 (.cons (.var 0) (.cons (.const (.int 8)) .nil))) .nil)) (.const (.int 4)))) (.new (.lst (.cons (.neg (.const (.int 11))) (.cons (.const (.int 10)) .nil))))) .nil))) .nil)) (.blt .tuple (.new (.comp [2] (.call 67 (.cons (.var 0) (.cons (.var 2) .nil))) (.name 2) (.val (.slc (.var 1) (.is (.const (.int 1))) .no)) .no)))))
    .nil)⟩
def F__law_same : Fn := ⟨"_law_same", ["value", "due"], ["value", "due"],
    (.cons (.ret (.cmp .Eq (.blt .repr (.var 0)) (.blt .repr (.var 1))))
    .nil)⟩
def F__law_meant : Fn := ⟨"_law_meant", ["rows", "test"], ["rows", "test", "row"],
    (.cons (.ret (.new (.comp [2] (.var 2) (.name 2) (.val (.var 0)) (.is (.or (.cmp .Is (.var 1) (.const .non)) (.cmp .Eq (.call 66 (.cons (.tup (.cons (.var 2) .nil)) (.cons (.var 1) .nil))) (.const (.int 2))))))))
    .nil)⟩
def F__law_put : Fn := ⟨"_law_put", ["state", "table", "rows"], ["state", "table", "rows", "key", "row"],
    (.cons (.ret (.bin .Add (.bin .Add (.slc (.var 0) .no (.is (.var 1))) (.tup (.cons (.blt .tuple (.new (.comp [3, 4] (.var 4) (.two (.name 3) (.name 4)) (.val (.srtk (.new (.comp [4] (.tup (.cons (.idx (.var 4) (.const (.int 0))) (.cons (.var 4) .nil))) (.name 4) (.val (.var 2)) .no)) 0)) .no))) .nil))) (.slc (.var 0) (.is (.bin .Add (.var 1) (.const (.int 1)))) .no)))
    .nil)⟩
def F__law_can_be : Fn := ⟨"_law_can_be", ["column", "value"], ["column", "value"],
    (.cons (.ret (.ite (.cmp .Is (.var 1) (.const .non)) (.idx (.var 0) (.const (.int 1))) (.or (.cmp .Eq (.idx (.var 0) (.const (.int 0))) (.const (.str "word"))) (.cmp2 .LtE .LtE (.neg (.bin .Pow (.const (.int 10)) (.const (.int 9)))) (.var 1) (.bin .Pow (.const (.int 10)) (.const (.int 9)))))))
    .nil)⟩
def F__law_goal : Fn := ⟨"_law_goal", ["schema", "state", "statement"], ["schema", "state", "statement", "meant", "left", "written", "row", "word", "table", "rows", "keys", "new", "at", "operand"],
    (.cons (.par [7, 8, 9] (.cons (.idx (.var 2) (.const (.int 0))) (.cons (.idx (.var 2) (.const (.int 1))) (.cons (.idx (.var 1) (.idx (.var 2) (.const (.int 1)))) .nil))))
    (.cons (.iff (.cmp .Eq (.var 7) (.const (.str "add"))) (.cons (.asg (.name 10) (.new (.comp [6] (.idx (.var 6) (.const (.int 0))) (.name 6) (.val (.var 9)) .no)))
    (.cons (.for (.name 6) (.val (.idx (.var 2) (.const (.int 2)))) (.cons (.iff (.cmp .In (.idx (.var 6) (.const (.int 0))) (.var 10)) (.cons (.ret (.tup (.cons (.tup (.cons (.const (.str "refused")) (.cons (.const (.str "key")) (.cons (.var 8) (.cons (.idx (.var 6) (.const (.int 0))) (.cons (.const .non) .nil)))))) (.cons (.const .non) .nil))))
    .nil) .nil)
    (.cons (.asg (.name 10) (.bin .Add (.var 10) (.new (.lst (.cons (.idx (.var 6) (.const (.int 0))) .nil)))))
    .nil)))
    (.cons (.ret (.tup (.cons (.new (.listOf (.idx (.var 2) (.const (.int 2))))) (.cons (.call 107 (.cons (.var 1) (.cons (.var 8) (.cons (.bin .Add (.new (.listOf (.var 9))) (.new (.listOf (.idx (.var 2) (.const (.int 2)))))) .nil)))) .nil))))
    .nil))) .nil)
    (.cons (.asg (.name 3) (.call 106 (.cons (.var 9) (.cons (.idx (.var 2) (.const (.int 2))) .nil))))
    (.cons (.asg (.name 4) (.new (.comp [6] (.var 6) (.name 6) (.val (.var 9)) (.is (.cmp .NotIn (.var 6) (.var 3))))))
    (.cons (.iff (.cmp .Eq (.var 7) (.const (.str "take"))) (.cons (.ret (.tup (.cons (.var 3) (.cons (.call 107 (.cons (.var 1) (.cons (.var 8) (.cons (.var 4) .nil)))) .nil))))
    .nil) .nil)
    (.cons (.asg (.name 5) (.newm (.lst .nil)))
    (.cons (.for (.name 6) (.val (.var 3)) (.cons (.asg (.name 11) (.newm (.listOf (.var 6))))
    (.cons (.for (.two (.name 12) (.name 13)) (.val (.idx (.var 2) (.const (.int 3)))) (.cons (.asg (.idx (.var 11) (.var 12)) (.call 65 (.cons (.tup (.cons (.var 6) .nil)) (.cons (.var 13) .nil))))
    (.cons (.iff (.not (.call 108 (.cons (.idx (.idx (.idx (.var 0) (.var 8)) (.const (.int 0))) (.var 12)) (.cons (.idx (.var 11) (.var 12)) .nil)))) (.cons (.ret (.tup (.cons (.tup (.cons (.const (.str "refused")) (.cons (.const (.str "value")) (.cons (.var 8) (.cons (.idx (.var 6) (.const (.int 0))) (.cons (.var 12) .nil)))))) (.cons (.const .non) .nil))))
    .nil) .nil)
    .nil)))
    (.cons (.app (.var 5) (.blt .tuple (.var 11)))
    .nil))))
    (.cons (.ret (.tup (.cons (.var 5) (.cons (.call 107 (.cons (.var 1) (.cons (.var 8) (.cons (.bin .Add (.var 4) (.var 5)) .nil)))) .nil))))
    .nil))))))))⟩
def F__law_change : Fn := ⟨"_law_change", ["schema", "state", "statement"], ["schema", "state", "statement", "table", "keys", "rows", "goal", "own", "key", "row", "at", "rule", "one"],
    (.cons (.asg (.name 3) (.idx (.var 2) (.const (.int 1))))
    (.cons (.asg (.tg (.two (.name 5) (.name 6))) (.call 109 (.cons (.var 0) (.cons (.var 1) (.cons (.var 2) .nil)))))
    (.cons (.iff (.cmp .Is (.var 6) (.const .non)) (.cons (.ret (.tup (.cons (.var 5) (.cons (.var 1) (.cons (.tup .nil) .nil)))))
    .nil) .nil)
    (.cons (.asg (.name 4) (.srti (.new (.comp [9] (.idx (.var 9) (.const (.int 0))) (.name 9) (.val (.var 5)) .no))))
    (.cons (.iff (.cmp .Eq (.idx (.var 2) (.const (.int 0))) (.const (.str "take"))) (.cons (.for (.name 7) (.rng1 (.blt .len (.var 0))) (.cons (.for (.name 9) (.val (.idx (.var 6) (.var 7))) (.cons (.for (.two (.name 10) (.name 11)) (.enum (.idx (.idx (.var 0) (.var 7)) (.const (.int 1)))) (.cons (.iff (.and (.cmp .Eq (.idx (.var 11) (.const (.int 0))) (.const (.str "refer"))) (.and (.cmp .Eq (.idx (.var 11) (.const (.int 2))) (.var 3)) (.cmp .In (.idx (.var 9) (.idx (.var 11) (.const (.int 1)))) (.var 4)))) (.cons (.ret (.tup (.cons (.tup (.cons (.const (.str "refused")) (.cons (.const (.str "refer")) (.cons (.var 7) (.cons (.idx (.var 9) (.const (.int 0))) (.cons (.var 10) .nil)))))) (.cons (.var 1) (.cons (.tup .nil) .nil)))))
    .nil) .nil)
    .nil))
    .nil))
    .nil))
    .nil) (.cons (.for (.name 8) (.val (.var 4)) (.cons (.asg (.name 9) (.idx (.new (.comp [12] (.var 12) (.name 12) (.val (.idx (.var 6) (.var 3))) (.is (.cmp .Eq (.idx (.var 12) (.const (.int 0))) (.var 8))))) (.const (.int 0))))
    (.cons (.for (.two (.name 10) (.name 11)) (.enum (.idx (.idx (.var 0) (.var 3)) (.const (.int 1)))) (.cons (.iff (.call 101 (.cons (.var 6) (.cons (.var 3) (.cons (.var 9) (.cons (.var 11) .nil))))) (.cons (.ret (.tup (.cons (.tup (.cons (.const (.str "refused")) (.cons (.idx (.var 11) (.const (.int 0))) (.cons (.var 3) (.cons (.var 8) (.cons (.var 10) .nil)))))) (.cons (.var 1) (.cons (.tup .nil) .nil)))))
    .nil) .nil)
    .nil))
    .nil)))
    .nil))
    (.cons (.ret (.tup (.cons (.tup (.cons (.const (.str "done")) (.cons (.blt .len (.var 4)) .nil))) (.cons (.var 6) (.cons (.blt .tuple (.new (.comp [8] (.tup (.cons (.var 3) (.cons (.var 8) .nil))) (.name 8) (.val (.var 4)) .no))) .nil)))))
    .nil))))))⟩
def F_law : Fn := ⟨"law", ["script"], ["script", "cup", "turn", "state", "rows", "schema", "table", "statement", "many", "plain", "answer", "behind", "places", "at", "row"],
    (.cons (.asg (.name 1) (.call 29 (.cons (.var 0) .nil)))
    (.cons (.for (.name 2) (.rng1 (.const (.int 4))) (.cons (.asg (.name 5) (.call 100 (.cons (.var 1) .nil)))
    (.cons (.asg (.name 3) (.ite (.cmp .Gt (.call 30 (.cons (.var 1) (.cons (.const (.int 3)) .nil))) (.const (.int 0))) (.call 103 (.cons (.var 1) (.cons (.var 5) (.cons (.const (.int 4)) .nil)))) (.call 98 (.cons (.var 1) (.cons (.var 5) (.cons (.const (.int 4)) .nil))))))
    (.cons (.asg (.name 6) (.call 30 (.cons (.var 1) (.cons (.blt .len (.var 5)) .nil))))
    (.cons (.asg (.name 7) (.tup (.cons (.const (.str "add")) (.cons (.var 6) (.cons (.blt .tuple (.new (.comp [14] (.call 104 (.cons (.var 1) (.cons (.idx (.idx (.var 5) (.var 6)) (.const (.int 0))) .nil))) (.name 14) (.rng1 (.call 31 (.cons (.var 1) (.cons (.new (.lst (.cons (.const (.int 1)) (.cons (.const (.int 1)) (.cons (.const (.int 2)) (.cons (.const (.int 3)) .nil)))))) .nil)))) .no))) .nil)))))
    (.cons (.asg (.tg (.three (.name 10) (.name 11) (.name 12))) (.call 110 (.cons (.var 5) (.cons (.var 3) (.cons (.var 7) .nil)))))
    (.cons (.iff (.or (.not (.call 105 (.cons (.call 96 (.cons (.var 5) (.cons (.var 3) (.cons (.var 7) .nil)))) (.cons (.tup (.cons (.var 10) (.cons (.var 11) .nil))) .nil)))) (.not (.call 105 (.cons (.call 97 (.cons (.var 5) (.cons (.var 3) (.cons (.var 7) .nil)))) (.cons (.var 12) .nil))))) (.cons (.ret (.const (.bl false)))
    .nil) .nil)
    .nil)))))))
    (.cons (.par [8, 9] (.cons (.bin .Add (.const (.int 1)) (.call 30 (.cons (.var 1) (.cons (.const (.int 20)) .nil)))) (.cons (.tup (.cons (.tup (.cons (.tup (.cons (.tup (.cons (.const (.str "int")) (.cons (.const (.bl false)) .nil))) (.cons (.tup (.cons (.const (.str "int")) (.cons (.const (.bl true)) .nil))) .nil))) (.cons (.tup (.cons (.tup (.cons (.const (.str "unique")) (.cons (.const (.int 1)) .nil))) .nil)) .nil))) .nil)) .nil)))
    (.cons (.asg (.name 3) (.tup (.cons (.blt .tuple (.new (.comp [13] (.tup (.cons (.var 13) (.cons (.var 13) .nil))) (.name 13) (.rng1 (.const (.int 58))) .no))) .nil)))
    (.cons (.asg (.name 4) (.blt .tuple (.new (.comp [13] (.tup (.cons (.bin .Sub (.const (.int 100)) (.var 13)) (.cons (.bin .Add (.const (.int 200)) (.var 13)) .nil))) (.name 13) (.rng1 (.var 8)) .no))))
    (.cons (.iff (.not (.call 105 (.cons (.call 96 (.cons (.var 9) (.cons (.var 3) (.cons (.tup (.cons (.const (.str "add")) (.cons (.const (.int 0)) (.cons (.var 4) .nil)))) .nil)))) (.cons (.tup (.cons (.tup (.cons (.const (.str "done")) (.cons (.var 8) .nil))) (.cons (.tup (.cons (.bin .Add (.idx (.var 3) (.const (.int 0))) (.rev (.var 4))) .nil)) .nil))) .nil)))) (.cons (.ret (.const (.bl false)))
    .nil) .nil)
    (.cons (.iff (.cmp .NotEq (.idx (.call 96 (.cons (.var 9) (.cons (.var 3) (.cons (.tup (.cons (.const (.str "add")) (.cons (.const (.int 0)) (.cons (.tup (.cons (.tup (.cons (.const (.int 70)) (.cons (.const (.int 1)) .nil))) (.cons (.tup (.cons (.const (.int 71)) (.cons (.const (.int 1)) .nil))) (.cons (.tup (.cons (.const (.int 57)) (.cons (.const (.int 1)) .nil))) .nil)))) .nil)))) .nil)))) (.const (.int 0))) (.tup (.cons (.const (.str "refused")) (.cons (.const (.str "key")) (.cons (.const (.int 0)) (.cons (.const (.int 57)) (.cons (.const .non) .nil))))))) (.cons (.ret (.const (.bl false)))
    .nil) .nil)
    (.cons (.iff (.cmp .NotEq (.idx (.call 96 (.cons (.var 9) (.cons (.var 3) (.cons (.tup (.cons (.const (.str "add")) (.cons (.const (.int 0)) (.cons (.tup (.cons (.tup (.cons (.const (.int 70)) (.cons (.const (.int 1)) .nil))) (.cons (.tup (.cons (.const (.int 71)) (.cons (.const (.int 99)) .nil))) (.cons (.tup (.cons (.const (.int 70)) (.cons (.const (.int 98)) .nil))) .nil)))) .nil)))) .nil)))) (.const (.int 0))) (.tup (.cons (.const (.str "refused")) (.cons (.const (.str "key")) (.cons (.const (.int 0)) (.cons (.const (.int 70)) (.cons (.const .non) .nil))))))) (.cons (.ret (.const (.bl false)))
    .nil) .nil)
    (.cons (.ret (.cmp .Eq (.idx (.call 96 (.cons (.var 9) (.cons (.var 3) (.cons (.tup (.cons (.const (.str "add")) (.cons (.const (.int 0)) (.cons (.tup (.cons (.tup (.cons (.const (.int 71)) (.cons (.const (.int 1)) .nil))) (.cons (.tup (.cons (.const (.int 70)) (.cons (.const (.int 2)) .nil))) .nil))) .nil)))) .nil)))) (.const (.int 0))) (.tup (.cons (.const (.str "refused")) (.cons (.const (.str "unique")) (.cons (.const (.int 0)) (.cons (.const (.int 70)) (.cons (.const (.int 0)) .nil))))))))
    .nil)))))))))⟩
def Pp : Prog := [(0, F_is_whole), (1, F_is_tuple_of), (2, F_is_word), (3, F_is_number), (4, F_fits_value), (54, F_fits_sort), (5, F_fits_column), (6, F_fits_columns), (7, F_fits_rule_shape), (55, F_fits_row), (73, F_fits_rows), (74, F_fits_state), (79, F_need_state), (8, F_refuse_schema), (9, F_sort_of_value), (10, F_joined_sort), (11, F_sort_of), (12, F_fits_leaf), (13, F_fits_test), (56, F_worth_of), (57, F_turned), (58, F_both_of), (59, F_either_of), (60, F_same_of), (61, F_truth_of), (14, F_fits_rule), (15, F_fits_table), (16, F_fits_schema), (17, F_need_schema), (80, F_fits_wish), (81, F_fits_set), (82, F_fits_sets), (83, F_fits_statement), (84, F_meant_by), (85, F_with_rows), (86, F_set_row), (87, F_breaks), (88, F_first_broken), (89, F_first_left), (90, F_added_by), (91, F_set_by), (92, F_taken_by), (93, F_changed_by), (94, F_need_both), (95, F_need_statement), (96, F_change_of), (97, F_places_of), (29, F__law_cup), (30, F__law_roll), (31, F__law_some), (65, F__law_worth), (66, F__law_truth), (32, F__law_schema), (67, F__law_value), (77, F__law_state), (98, F__law_rows), (99, F__law_crossed_schema), (100, F__law_any_schema), (101, F__law_broken), (102, F__law_all_broken), (103, F__law_kept_state), (104, F__law_drawn_row), (105, F__law_same), (106, F__law_meant), (107, F__law_put), (108, F__law_can_be), (109, F__law_goal), (110, F__law_change), (111, F_law)]
def T : Tab := ⟨Pp, [("ADDED", c_ADDED), ("ANY", c_ANY), ("COLUMNS", c_COLUMNS), ("COMPARED", c_COMPARED), ("DEEP", c_DEEP), ("IN", c_IN), ("INT", c_INT), ("JOINED", c_JOINED), ("KEY", c_KEY), ("LETTERS", c_LETTERS), ("NUMBER", c_NUMBER), ("PARTS", c_PARTS), ("ROWS", c_ROWS), ("RULES", c_RULES), ("SETS", c_SETS), ("TABLES", c_TABLES), ("TEXT", c_TEXT), ("WORD", c_WORD)], [("InvalidSchema", 1), ("InvalidState", 5), ("InvalidStatement", 10)], ["abs", "all", "any", "bool", "enumerate", "int", "isinstance", "len", "list", "max", "min", "range", "repr", "set", "sorted", "str", "tuple", "zip"], true, [(1, 1, true), (1, 5, false), (1, 10, false), (5, 1, false), (5, 5, true), (5, 10, false), (10, 1, false), (10, 5, false), (10, 10, true)], [], ["with_rows", "first_broken", "_law_rows", "_law_put"]⟩
def depth : Nat := 60
def fuel : Nat := 100
end K22
set_option linter.all false
set_option maxRecDepth 100000
set_option maxHeartbeats 0
namespace K22
open PySem PySem.Spec PyProof.Rows Ev

def top (i : Nat) : Stmt := PySem.Challenge.pw_snapshothall_k22_rows_added.main.body.getD i (.Pass ⟨0, 0, 0, 0⟩)
def dAt (x : Str) (i : Nat) : He.DefD := ⟨(x, none), x, x, L2.defArgs (top i), L2.defBody (top i), L2.defScope (top i), [], []⟩
def fn : List He.DefD := [dAt "is_whole" 16, dAt "is_tuple_of" 17, dAt "is_word" 18, dAt "is_number" 19, dAt "fits_value" 20, dAt "fits_sort" 21, dAt "fits_column" 22, dAt "fits_columns" 23, dAt "fits_rule_shape" 24, dAt "fits_row" 25, dAt "fits_rows" 26, dAt "fits_state" 27, dAt "need_state" 28, dAt "refuse_schema" 29, dAt "sort_of_value" 37, dAt "joined_sort" 38, dAt "sort_of" 39, dAt "fits_leaf" 40, dAt "fits_test" 41, dAt "worth_of" 42, dAt "turned" 43, dAt "both_of" 44, dAt "either_of" 45, dAt "same_of" 46, dAt "truth_of" 47, dAt "fits_rule" 48, dAt "fits_table" 49, dAt "fits_schema" 50, dAt "need_schema" 51, dAt "fits_wish" 55, dAt "fits_set" 56, dAt "fits_sets" 57, dAt "fits_statement" 58, dAt "meant_by" 59, dAt "with_rows" 60, dAt "set_row" 61, dAt "breaks" 62, dAt "first_broken" 63, dAt "first_left" 64, dAt "added_by" 65, dAt "set_by" 66, dAt "taken_by" 67, dAt "changed_by" 68, dAt "need_both" 69, dAt "need_statement" 70, dAt "change_of" 71, dAt "places_of" 72, dAt "_law_cup" 74, dAt "_law_roll" 75, dAt "_law_some" 76, dAt "_law_worth" 77, dAt "_law_truth" 78, dAt "_law_schema" 79, dAt "_law_value" 80, dAt "_law_state" 81, dAt "_law_rows" 82, dAt "_law_crossed_schema" 83, dAt "_law_any_schema" 84, dAt "_law_broken" 85, dAt "_law_all_broken" 86, dAt "_law_kept_state" 87, dAt "_law_drawn_row" 88, dAt "_law_same" 89, dAt "_law_meant" 90, dAt "_law_put" 91, dAt "_law_can_be" 92, dAt "_law_goal" 93, dAt "_law_change" 94, dAt "law" 95]
abbrev R : PySem.W.OpenRow := PySem.W.OpenLaw.row PySem.Challenge.rw_snapshothall_k22_rows_added
abbrev hk : PySem.W.Hook := hookF 4 (facts T) fn (tabsT T)
def ob (s : PySem.W.SharedT) : He.AlD := obsFG 4 (facts T) fn (tabsT T) (HandSHeadRun.getT s)
theorem ob_eq (s : PySem.W.SharedT) : ob s = hk.obs s.abs := obsFG_eq (HandSHeadRun.getT_eq s)
def loose : List Str := (["HallError", "InvalidSchema", "InvalidState", "InvalidStatement", "NUMBER", "LETTERS", "WORD", "COLUMNS", "RULES", "TABLES", "ROWS", "INT", "TEXT", "KEY", "is_whole", "is_tuple_of", "is_word", "is_number", "fits_value", "fits_sort", "fits_column", "fits_columns", "fits_rule_shape", "fits_row", "fits_rows", "fits_state", "need_state", "refuse_schema", "ANY", "DEEP"] : List Str) ++ (["PARTS", "IN", "COMPARED", "JOINED", "sort_of_value", "joined_sort", "sort_of", "fits_leaf", "fits_test", "worth_of", "turned", "both_of", "either_of", "same_of", "truth_of", "fits_rule", "fits_table", "fits_schema", "need_schema", "ADDED", "SETS", "fits_wish", "fits_set", "fits_sets", "fits_statement", "meant_by", "set_row", "breaks", "first_left", "added_by"] : List Str) ++ (["set_by", "taken_by", "changed_by", "need_both", "need_statement", "change_of", "places_of", "_law_cup", "_law_roll", "_law_some", "_law_worth", "_law_truth", "_law_schema", "_law_value", "_law_state", "_law_crossed_schema", "_law_any_schema", "_law_broken", "_law_all_broken", "_law_kept_state", "_law_drawn_row", "_law_same", "_law_meant", "_law_can_be", "_law_goal", "_law_change"] : List Str)
theorem run (w : World) : HandSHeadRun.RunEq R (PySem.W.view R.prog [60, 63, 82, 91, 95]) hk ob 15000 loose w := by
  intro os
  kernel_rfl

theorem ok_0 : DefOk T fn F_is_whole := ⟨0, dAt "is_whole" 16, rfl, by decide +kernel, rfl, rfl, rfl, fun _ _ _ _ _ _ us hl => match us, hl with | [_, _, _], _ => rfl⟩
theorem ok_1 : DefOk T fn F_is_tuple_of := ⟨1, dAt "is_tuple_of" 17, rfl, by decide +kernel, rfl, rfl, rfl, fun _ _ _ _ _ _ us hl => match us, hl with | [_, _, _], _ => rfl⟩
theorem ok_2 : DefOk T fn F_is_word := ⟨2, dAt "is_word" 18, rfl, by decide +kernel, rfl, rfl, rfl, fun _ _ _ _ _ _ us hl => match us, hl with | [_], _ => rfl⟩
theorem ok_3 : DefOk T fn F_is_number := ⟨3, dAt "is_number" 19, rfl, by decide +kernel, rfl, rfl, rfl, fun _ _ _ _ _ _ us hl => match us, hl with | [_], _ => rfl⟩
theorem ok_4 : DefOk T fn F_fits_value := ⟨4, dAt "fits_value" 20, rfl, by decide +kernel, rfl, rfl, rfl, fun _ _ _ _ _ _ us hl => match us, hl with | [_], _ => rfl⟩
theorem ok_5 : DefOk T fn F_fits_sort := ⟨5, dAt "fits_sort" 21, rfl, by decide +kernel, rfl, rfl, rfl, fun _ _ _ _ _ _ us hl => match us, hl with | [_, _], _ => rfl⟩
theorem ok_6 : DefOk T fn F_fits_column := ⟨6, dAt "fits_column" 22, rfl, by decide +kernel, rfl, rfl, rfl, fun _ _ _ _ _ _ us hl => match us, hl with | [_], _ => rfl⟩
theorem ok_7 : DefOk T fn F_fits_columns := ⟨7, dAt "fits_columns" 23, rfl, by decide +kernel, rfl, rfl, rfl, fun _ _ _ _ _ _ us hl => match us, hl with | [_], _ => rfl⟩
theorem ok_8 : DefOk T fn F_fits_rule_shape := ⟨8, dAt "fits_rule_shape" 24, rfl, by decide +kernel, rfl, rfl, rfl, fun _ _ _ _ _ _ us hl => match us, hl with | [_, _, _], _ => rfl⟩
theorem ok_9 : DefOk T fn F_fits_row := ⟨9, dAt "fits_row" 25, rfl, by decide +kernel, rfl, rfl, rfl, fun _ _ _ _ _ _ us hl => match us, hl with | [_, _], _ => rfl⟩
theorem ok_10 : DefOk T fn F_fits_rows := ⟨10, dAt "fits_rows" 26, rfl, by decide +kernel, rfl, rfl, rfl, fun _ _ _ _ _ _ us hl => match us, hl with | [_, _], _ => rfl⟩
theorem ok_11 : DefOk T fn F_fits_state := ⟨11, dAt "fits_state" 27, rfl, by decide +kernel, rfl, rfl, rfl, fun _ _ _ _ _ _ us hl => match us, hl with | [_, _], _ => rfl⟩
theorem ok_12 : DefOk T fn F_need_state := ⟨12, dAt "need_state" 28, rfl, by decide +kernel, rfl, rfl, rfl, fun _ _ _ _ _ _ us hl => match us, hl with | [_, _], _ => rfl⟩
theorem ok_13 : DefOk T fn F_refuse_schema := ⟨13, dAt "refuse_schema" 29, rfl, by decide +kernel, rfl, rfl, rfl, fun _ _ _ _ _ _ us hl => match us, hl with | [], _ => rfl⟩
theorem ok_14 : DefOk T fn F_sort_of_value := ⟨14, dAt "sort_of_value" 37, rfl, by decide +kernel, rfl, rfl, rfl, fun _ _ _ _ _ _ us hl => match us, hl with | [_], _ => rfl⟩
theorem ok_15 : DefOk T fn F_joined_sort := ⟨15, dAt "joined_sort" 38, rfl, by decide +kernel, rfl, rfl, rfl, fun _ _ _ _ _ _ us hl => match us, hl with | [_, _], _ => rfl⟩
theorem ok_16 : DefOk T fn F_sort_of := ⟨16, dAt "sort_of" 39, rfl, by decide +kernel, rfl, rfl, rfl, fun _ _ _ _ _ _ us hl => match us, hl with | [_, _, _], _ => rfl⟩
theorem ok_17 : DefOk T fn F_fits_leaf := ⟨17, dAt "fits_leaf" 40, rfl, by decide +kernel, rfl, rfl, rfl, fun _ _ _ _ _ _ us hl => match us, hl with | [_, _, _], _ => rfl⟩
theorem ok_18 : DefOk T fn F_fits_test := ⟨18, dAt "fits_test" 41, rfl, by decide +kernel, rfl, rfl, rfl, fun _ _ _ _ _ _ us hl => match us, hl with | [_, _], _ => rfl⟩
theorem ok_19 : DefOk T fn F_worth_of := ⟨19, dAt "worth_of" 42, rfl, by decide +kernel, rfl, rfl, rfl, fun _ _ _ _ _ _ us hl => match us, hl with | [_, _], _ => rfl⟩
theorem ok_20 : DefOk T fn F_turned := ⟨20, dAt "turned" 43, rfl, by decide +kernel, rfl, rfl, rfl, fun _ _ _ _ _ _ us hl => match us, hl with | [_], _ => rfl⟩
theorem ok_21 : DefOk T fn F_both_of := ⟨21, dAt "both_of" 44, rfl, by decide +kernel, rfl, rfl, rfl, fun _ _ _ _ _ _ us hl => match us, hl with | [_, _], _ => rfl⟩
theorem ok_22 : DefOk T fn F_either_of := ⟨22, dAt "either_of" 45, rfl, by decide +kernel, rfl, rfl, rfl, fun _ _ _ _ _ _ us hl => match us, hl with | [_, _], _ => rfl⟩
theorem ok_23 : DefOk T fn F_same_of := ⟨23, dAt "same_of" 46, rfl, by decide +kernel, rfl, rfl, rfl, fun _ _ _ _ _ _ us hl => match us, hl with | [_, _], _ => rfl⟩
theorem ok_24 : DefOk T fn F_truth_of := ⟨24, dAt "truth_of" 47, rfl, by decide +kernel, rfl, rfl, rfl, fun _ _ _ _ _ _ us hl => match us, hl with | [_, _], _ => rfl⟩
theorem ok_25 : DefOk T fn F_fits_rule := ⟨25, dAt "fits_rule" 48, rfl, by decide +kernel, rfl, rfl, rfl, fun _ _ _ _ _ _ us hl => match us, hl with | [_, _, _], _ => rfl⟩
theorem ok_26 : DefOk T fn F_fits_table := ⟨26, dAt "fits_table" 49, rfl, by decide +kernel, rfl, rfl, rfl, fun _ _ _ _ _ _ us hl => match us, hl with | [_, _], _ => rfl⟩
theorem ok_27 : DefOk T fn F_fits_schema := ⟨27, dAt "fits_schema" 50, rfl, by decide +kernel, rfl, rfl, rfl, fun _ _ _ _ _ _ us hl => match us, hl with | [_], _ => rfl⟩
theorem ok_28 : DefOk T fn F_need_schema := ⟨28, dAt "need_schema" 51, rfl, by decide +kernel, rfl, rfl, rfl, fun _ _ _ _ _ _ us hl => match us, hl with | [_], _ => rfl⟩
theorem ok_29 : DefOk T fn F_fits_wish := ⟨29, dAt "fits_wish" 55, rfl, by decide +kernel, rfl, rfl, rfl, fun _ _ _ _ _ _ us hl => match us, hl with | [_, _], _ => rfl⟩
theorem ok_30 : DefOk T fn F_fits_set := ⟨30, dAt "fits_set" 56, rfl, by decide +kernel, rfl, rfl, rfl, fun _ _ _ _ _ _ us hl => match us, hl with | [_, _], _ => rfl⟩
theorem ok_31 : DefOk T fn F_fits_sets := ⟨31, dAt "fits_sets" 57, rfl, by decide +kernel, rfl, rfl, rfl, fun _ _ _ _ _ _ us hl => match us, hl with | [_, _], _ => rfl⟩
theorem ok_32 : DefOk T fn F_fits_statement := ⟨32, dAt "fits_statement" 58, rfl, by decide +kernel, rfl, rfl, rfl, fun _ _ _ _ _ _ us hl => match us, hl with | [_, _], _ => rfl⟩
theorem ok_33 : DefOk T fn F_meant_by := ⟨33, dAt "meant_by" 59, rfl, by decide +kernel, rfl, rfl, rfl, fun _ _ _ _ _ _ us hl => match us, hl with | [_, _], _ => rfl⟩
theorem ok_34 : DefOk T fn F_with_rows := ⟨34, dAt "with_rows" 60, rfl, by decide +kernel, rfl, rfl, rfl, fun _ _ _ _ _ _ us hl => match us, hl with | [_, _, _], _ => rfl⟩
theorem ok_35 : DefOk T fn F_set_row := ⟨35, dAt "set_row" 61, rfl, by decide +kernel, rfl, rfl, rfl, fun _ _ _ _ _ _ us hl => match us, hl with | [_, _, _], _ => rfl⟩
theorem ok_36 : DefOk T fn F_breaks := ⟨36, dAt "breaks" 62, rfl, by decide +kernel, rfl, rfl, rfl, fun _ _ _ _ _ _ us hl => match us, hl with | [_, _, _, _], _ => rfl⟩
theorem ok_37 : DefOk T fn F_first_broken := ⟨37, dAt "first_broken" 63, rfl, by decide +kernel, rfl, rfl, rfl, fun _ _ _ _ _ _ us hl => match us, hl with | [_, _, _, _], _ => rfl⟩
theorem ok_38 : DefOk T fn F_first_left := ⟨38, dAt "first_left" 64, rfl, by decide +kernel, rfl, rfl, rfl, fun _ _ _ _ _ _ us hl => match us, hl with | [_, _, _, _], _ => rfl⟩
theorem ok_39 : DefOk T fn F_added_by := ⟨39, dAt "added_by" 65, rfl, by decide +kernel, rfl, rfl, rfl, fun _ _ _ _ _ _ us hl => match us, hl with | [_, _, _], _ => rfl⟩
theorem ok_40 : DefOk T fn F_set_by := ⟨40, dAt "set_by" 66, rfl, by decide +kernel, rfl, rfl, rfl, fun _ _ _ _ _ _ us hl => match us, hl with | [_, _, _], _ => rfl⟩
theorem ok_41 : DefOk T fn F_taken_by := ⟨41, dAt "taken_by" 67, rfl, by decide +kernel, rfl, rfl, rfl, fun _ _ _ _ _ _ us hl => match us, hl with | [_, _, _], _ => rfl⟩
theorem ok_42 : DefOk T fn F_changed_by := ⟨42, dAt "changed_by" 68, rfl, by decide +kernel, rfl, rfl, rfl, fun _ _ _ _ _ _ us hl => match us, hl with | [_, _, _], _ => rfl⟩
theorem ok_43 : DefOk T fn F_need_both := ⟨43, dAt "need_both" 69, rfl, by decide +kernel, rfl, rfl, rfl, fun _ _ _ _ _ _ us hl => match us, hl with | [_, _], _ => rfl⟩
theorem ok_44 : DefOk T fn F_need_statement := ⟨44, dAt "need_statement" 70, rfl, by decide +kernel, rfl, rfl, rfl, fun _ _ _ _ _ _ us hl => match us, hl with | [_, _], _ => rfl⟩
theorem ok_45 : DefOk T fn F_change_of := ⟨45, dAt "change_of" 71, rfl, by decide +kernel, rfl, rfl, rfl, fun _ _ _ _ _ _ us hl => match us, hl with | [_, _, _], _ => rfl⟩
theorem ok_46 : DefOk T fn F_places_of := ⟨46, dAt "places_of" 72, rfl, by decide +kernel, rfl, rfl, rfl, fun _ _ _ _ _ _ us hl => match us, hl with | [_, _, _], _ => rfl⟩
theorem ok_47 : DefOk T fn F__law_cup := ⟨47, dAt "_law_cup" 74, rfl, by decide +kernel, rfl, rfl, rfl, fun _ _ _ _ _ _ us hl => match us, hl with | [_], _ => rfl⟩
theorem ok_48 : DefOk T fn F__law_roll := ⟨48, dAt "_law_roll" 75, rfl, by decide +kernel, rfl, rfl, rfl, fun _ _ _ _ _ _ us hl => match us, hl with | [_, _], _ => rfl⟩
theorem ok_49 : DefOk T fn F__law_some := ⟨49, dAt "_law_some" 76, rfl, by decide +kernel, rfl, rfl, rfl, fun _ _ _ _ _ _ us hl => match us, hl with | [_, _], _ => rfl⟩
theorem ok_50 : DefOk T fn F__law_worth := ⟨50, dAt "_law_worth" 77, rfl, by decide +kernel, rfl, rfl, rfl, fun _ _ _ _ _ _ us hl => match us, hl with | [_, _], _ => rfl⟩
theorem ok_51 : DefOk T fn F__law_truth := ⟨51, dAt "_law_truth" 78, rfl, by decide +kernel, rfl, rfl, rfl, fun _ _ _ _ _ _ us hl => match us, hl with | [_, _], _ => rfl⟩
theorem ok_52 : DefOk T fn F__law_schema := ⟨52, dAt "_law_schema" 79, rfl, by decide +kernel, rfl, rfl, rfl, fun _ _ _ _ _ _ us hl => match us, hl with | [_], _ => rfl⟩
theorem ok_53 : DefOk T fn F__law_value := ⟨53, dAt "_law_value" 80, rfl, by decide +kernel, rfl, rfl, rfl, fun _ _ _ _ _ _ us hl => match us, hl with | [_, _], _ => rfl⟩
theorem ok_54 : DefOk T fn F__law_state := ⟨54, dAt "_law_state" 81, rfl, by decide +kernel, rfl, rfl, rfl, fun _ _ _ _ _ _ us hl => match us, hl with | [_, _, _], _ => rfl⟩
theorem ok_55 : DefOk T fn F__law_rows := ⟨55, dAt "_law_rows" 82, rfl, by decide +kernel, rfl, rfl, rfl, fun _ _ _ _ _ _ us hl => match us, hl with | [_, _, _], _ => rfl⟩
theorem ok_56 : DefOk T fn F__law_crossed_schema := ⟨56, dAt "_law_crossed_schema" 83, rfl, by decide +kernel, rfl, rfl, rfl, fun _ _ _ _ _ _ us hl => match us, hl with | [_], _ => rfl⟩
theorem ok_57 : DefOk T fn F__law_any_schema := ⟨57, dAt "_law_any_schema" 84, rfl, by decide +kernel, rfl, rfl, rfl, fun _ _ _ _ _ _ us hl => match us, hl with | [_], _ => rfl⟩
theorem ok_58 : DefOk T fn F__law_broken := ⟨58, dAt "_law_broken" 85, rfl, by decide +kernel, rfl, rfl, rfl, fun _ _ _ _ _ _ us hl => match us, hl with | [_, _, _, _], _ => rfl⟩
theorem ok_59 : DefOk T fn F__law_all_broken := ⟨59, dAt "_law_all_broken" 86, rfl, by decide +kernel, rfl, rfl, rfl, fun _ _ _ _ _ _ us hl => match us, hl with | [_, _], _ => rfl⟩
theorem ok_60 : DefOk T fn F__law_kept_state := ⟨60, dAt "_law_kept_state" 87, rfl, by decide +kernel, rfl, rfl, rfl, fun _ _ _ _ _ _ us hl => match us, hl with | [_, _, _], _ => rfl⟩
theorem ok_61 : DefOk T fn F__law_drawn_row := ⟨61, dAt "_law_drawn_row" 88, rfl, by decide +kernel, rfl, rfl, rfl, fun _ _ _ _ _ _ us hl => match us, hl with | [_, _], _ => rfl⟩
theorem ok_62 : DefOk T fn F__law_same := ⟨62, dAt "_law_same" 89, rfl, by decide +kernel, rfl, rfl, rfl, fun _ _ _ _ _ _ us hl => match us, hl with | [_, _], _ => rfl⟩
theorem ok_63 : DefOk T fn F__law_meant := ⟨63, dAt "_law_meant" 90, rfl, by decide +kernel, rfl, rfl, rfl, fun _ _ _ _ _ _ us hl => match us, hl with | [_, _], _ => rfl⟩
theorem ok_64 : DefOk T fn F__law_put := ⟨64, dAt "_law_put" 91, rfl, by decide +kernel, rfl, rfl, rfl, fun _ _ _ _ _ _ us hl => match us, hl with | [_, _, _], _ => rfl⟩
theorem ok_65 : DefOk T fn F__law_can_be := ⟨65, dAt "_law_can_be" 92, rfl, by decide +kernel, rfl, rfl, rfl, fun _ _ _ _ _ _ us hl => match us, hl with | [_, _], _ => rfl⟩
theorem ok_66 : DefOk T fn F__law_goal := ⟨66, dAt "_law_goal" 93, rfl, by decide +kernel, rfl, rfl, rfl, fun _ _ _ _ _ _ us hl => match us, hl with | [_, _, _], _ => rfl⟩
theorem ok_67 : DefOk T fn F__law_change := ⟨67, dAt "_law_change" 94, rfl, by decide +kernel, rfl, rfl, rfl, fun _ _ _ _ _ _ us hl => match us, hl with | [_, _, _], _ => rfl⟩
theorem ok_68 : DefOk T fn F_law := ⟨68, dAt "law" 95, rfl, by decide +kernel, rfl, rfl, rfl, fun _ _ _ _ _ _ us hl => match us, hl with | [_], _ => rfl⟩
theorem ds : ∀ p ∈ T.P, DefOk T fn p.2 := by
  intro p hp
  simp only [T, Pp, List.mem_cons, List.not_mem_nil, or_false] at hp
  rcases hp with rfl | rfl | rfl | rfl | rfl | rfl | rfl | rfl | rfl | rfl | rfl | rfl | rfl | rfl | rfl | rfl | rfl | rfl | rfl | rfl | rfl | rfl | rfl | rfl | rfl | rfl | rfl | rfl | rfl | rfl | rfl | rfl | rfl | rfl | rfl | rfl | rfl | rfl | rfl | rfl | rfl | rfl | rfl | rfl | rfl | rfl | rfl | rfl | rfl | rfl | rfl | rfl | rfl | rfl | rfl | rfl | rfl | rfl | rfl | rfl | rfl | rfl | rfl | rfl | rfl | rfl | rfl | rfl | rfl
  · exact ok_0
  · exact ok_1
  · exact ok_2
  · exact ok_3
  · exact ok_4
  · exact ok_5
  · exact ok_6
  · exact ok_7
  · exact ok_8
  · exact ok_9
  · exact ok_10
  · exact ok_11
  · exact ok_12
  · exact ok_13
  · exact ok_14
  · exact ok_15
  · exact ok_16
  · exact ok_17
  · exact ok_18
  · exact ok_19
  · exact ok_20
  · exact ok_21
  · exact ok_22
  · exact ok_23
  · exact ok_24
  · exact ok_25
  · exact ok_26
  · exact ok_27
  · exact ok_28
  · exact ok_29
  · exact ok_30
  · exact ok_31
  · exact ok_32
  · exact ok_33
  · exact ok_34
  · exact ok_35
  · exact ok_36
  · exact ok_37
  · exact ok_38
  · exact ok_39
  · exact ok_40
  · exact ok_41
  · exact ok_42
  · exact ok_43
  · exact ok_44
  · exact ok_45
  · exact ok_46
  · exact ok_47
  · exact ok_48
  · exact ok_49
  · exact ok_50
  · exact ok_51
  · exact ok_52
  · exact ok_53
  · exact ok_54
  · exact ok_55
  · exact ok_56
  · exact ok_57
  · exact ok_58
  · exact ok_59
  · exact ok_60
  · exact ok_61
  · exact ok_62
  · exact ok_63
  · exact ok_64
  · exact ok_65
  · exact ok_66
  · exact ok_67
  · exact ok_68
theorem ws : ∀ w ∈ T.words, WordOk T fn w := fun w hw => by cases hw
end K22
set_option linter.all false
set_option maxRecDepth 100000
/-! Ev20: the small language computed by simp. -/
namespace Ev
open PySem
section
variable {α β : Type}
@[simp] theorem s_ret (a : α) (f : α → M β) : M.thn (M.ret a) f = f a := rfl
@[simp] theorem s_ofO (a : α) : M.ofO (some a) = M.ret a := rfl
@[simp] theorem s_none : (M.ofO (none : Option α)) = M.bad := rfl
@[simp] theorem s_bad (f : α → M β) : M.thn (M.bad : M α) f = M.bad := rfl
@[simp] theorem s_assoc {γ : Type} (x : M α) (f : α → M β) (g : β → M γ) : M.thn (M.thn x f) g = M.thn x (fun a => M.thn (f a) g) := thn_assoc x f g
@[simp] theorem s_ite {p : Prop} [Decidable p] (x y : M α) (f : α → M β) : M.thn (if p then x else y) f = if p then M.thn x f else M.thn y f := by split <;> rfl
@[simp] theorem s_iteApp {p : Prop} [Decidable p] (x y : M α) (st : Store) : (if p then x else y) st = if p then x st else y st := by split <;> rfl
@[simp] theorem s_thnOk {x : M α} {f : α → M β} {st st' : Store} {a : α} (h : x st = .ok a st') : M.thn x f st = f a st' := by simp only [M.thn, h]
@[simp] theorem v_int (st : Store) (i : Int) : view st (.int i) = .int i := rfl
@[simp] theorem v_bl (st : Store) (i : Bool) : view st (.bl i) = .bl i := rfl
@[simp] theorem v_str (st : Store) (i : Str) : view st (.str i) = .str i := rfl
@[simp] theorem v_non (st : Store) : view st .non = .non := rfl
@[simp] theorem v_tup (st : Store) (i : List D) : view st (.tup i) = .tup i := rfl
@[simp] theorem v_lst (st : Store) (i : List D) : view st (.lst i) = .lst i := rfl
@[simp] theorem b_bl (b : Bool) : asB (.bl b) = M.ret b := rfl
@[simp] theorem i_int (b : Int) : asI (.int b) = M.ret (some b) := rfl
@[simp] theorem g_some {ρ : Env} {i : Nat} {d : D} (h : ρ[i]? = some (some d)) : getE ρ i = M.ret d := by simp only [getE, h]
@[simp] theorem lv_same (st : Store) (d : D) : leave st.length d st = M.ret d st := by simp [leave, M.ret]
end
@[simp] theorem q_str (i j : Str) : eqD (.str i) (.str j) = some (decide (i = j)) := rfl
@[simp] theorem q_int (i j : Int) : eqD (.int i) (.int j) = some (decide (i = j)) := rfl
@[simp] theorem q_bl (i j : Bool) : eqD (.bl i) (.bl j) = some (decide (i = j)) := rfl
@[simp] theorem q_non : eqD .non .non = some true := rfl
@[simp] theorem calm_ret {α : Type} (a : α) : M.calm (M.ret a) = M.ret a := rfl
/-- a frame's end -/
def fin (n : Nat) : Res Flow → Res D
  | .ok (.ret d) st' => leave n d st'
  | .ok (.next _) st' => leave n .non st'
  | .ok (.brk _) _ => .bad
  | .exc c st' => .exc c (st'.take n)
  | .bad => .bad
@[simp] theorem fin_ret (n : Nat) (d : D) (st : Store) : fin n (M.ret (.ret d) st) = leave n d st := rfl
@[simp] theorem fin_next (n : Nat) (ρ : Env) (st : Store) : fin n (M.ret (.next ρ) st) = leave n .non st := rfl
@[simp] theorem fin_exc (n c : Nat) (st : Store) : fin n (.exc c st) = .exc c (st.take n) := rfl
theorem runF_eq (call : Nat → List D → M D) (fuel : Nat) (exm : Nat → Nat → Option Bool) (F : Fn) (args : List D) (st : Store) (h : args.length = F.ps.length) :
    runF call fuel exm F args st = fin st.length (exSs ⟨call, st.length, fuel, exm⟩ (args.map some ++ List.replicate (F.slots.length - args.length) none) F.body st) := by
  unfold runF
  rw [if_pos h]
  cases exSs ⟨call, st.length, fuel, exm⟩ (args.map some ++ List.replicate (F.slots.length - args.length) none) F.body st with
  | ok fl st' => cases fl <;> rfl
  | exc c st' => rfl
  | bad => rfl
theorem ret_ok {α : Type} (a : α) (st : Store) : M.ret a st = .ok a st := rfl
theorem forL_ind {f : D → Env → M Flow} (I : Env → Prop) : ∀ {vs : List D}, (∀ v ∈ vs, ∀ ρ, I ρ → ∃ ρ', f v ρ = M.ret (.next ρ') ∧ I ρ') → ∀ ρ, I ρ → ∃ ρ', forL f vs ρ = M.ret (.next ρ') ∧ I ρ'
  | [], _, ρ, h => ⟨ρ, rfl, h⟩
  | v :: vs, hs, ρ, h => by
    obtain ⟨ρ1, e1, h1⟩ := hs v List.mem_cons_self ρ h
    obtain ⟨ρ2, e2, h2⟩ := forL_ind I (fun w hw => hs w (List.mem_cons_of_mem _ hw)) ρ1 h1
    refine ⟨ρ2, ?_, h2⟩
    rw [forL, e1, s_ret]
    exact e2
theorem fin_for {f : D → Env → M Flow} {vs : List D} {ρ0 : Env} {k : Flow → M Flow} {st : Store} {n : Nat} {R : Res D} (I : Env → Prop) (h0 : I ρ0) (hs : ∀ v ∈ vs, ∀ ρ, I ρ → ∃ ρ', f v ρ = M.ret (.next ρ') ∧ I ρ') (hk : ∀ ρ, I ρ → fin n (k (.next ρ) st) = R) :
    fin n (M.thn (forL f vs ρ0) k st) = R := by
  obtain ⟨ρ', e, h⟩ := forL_ind I hs ρ0 h0
  rw [e, s_ret]
  exact hk ρ' h
@[simp] theorem q_evE_0 : ∀ (C : Cfg) (ρ : Env) i, evE C ρ (.var i) = getE ρ i := by intros; rfl
@[simp] theorem q_evE_1 : ∀ (C : Cfg) (ρ : Env) d, evE C ρ (.const d) = M.ret d := by intros; rfl
@[simp] theorem q_evE_2 : ∀ (C : Cfg) (ρ : Env) u1 d, evE C ρ (.gc u1 d) = M.ret d := by intros; rfl
@[simp] theorem q_evE_3 : ∀ (C : Cfg) (ρ : Env) f, evE C ρ (.gf f) = M.ret (.fn f) := by intros; rfl
@[simp] theorem q_evE_4 : ∀ (C : Cfg) (ρ : Env) es, evE C ρ (.tup es) = M.thn (evEs C ρ es) fun xs => if okSize xs.length then M.ret (.tup xs) else M.bad := by intros; rfl
@[simp] theorem q_evE_5 : ∀ (C : Cfg) (ρ : Env) op a b, evE C ρ (.bin op a b) = M.thn (evE C ρ a) fun x => M.thn (evE C ρ b) fun y => fun st => M.ofO (binD op (view st x) (view st y)) st := by intros; rfl
@[simp] theorem q_evE_6 : ∀ (C : Cfg) (ρ : Env) a, evE C ρ (.neg a) = M.thn (evE C ρ a) fun x => match x with
    | .int i => M.ret (.int (-i))
    | _ => M.bad := by intros; rfl
@[simp] theorem q_evE_7 : ∀ (C : Cfg) (ρ : Env) a, evE C ρ (.not a) = M.thn (M.thn (evE C ρ a) asB) fun b => M.ret (.bl (!b)) := by intros; rfl
@[simp] theorem q_evE_8 : ∀ (C : Cfg) (ρ : Env) a b, evE C ρ (.and a b) = M.thn (M.thn (evE C ρ a) asB) fun k => if k then M.thn (M.thn (evE C ρ b) asB) fun j => M.ret (.bl j) else M.ret (.bl false) := by intros; rfl
@[simp] theorem q_evE_9 : ∀ (C : Cfg) (ρ : Env) a b, evE C ρ (.or a b) = M.thn (M.thn (evE C ρ a) asB) fun k => if k then M.ret (.bl true) else M.thn (M.thn (evE C ρ b) asB) fun j => M.ret (.bl j) := by intros; rfl
@[simp] theorem q_evE_10 : ∀ (C : Cfg) (ρ : Env) c a b, evE C ρ (.ite c a b) = M.thn (M.thn (evE C ρ c) asB) fun k => if k then evE C ρ a else evE C ρ b := by intros; rfl
@[simp] theorem q_evE_11 : ∀ (C : Cfg) (ρ : Env) op a b, evE C ρ (.cmp op a b) = M.thn (evE C ρ a) fun x => M.thn (evE C ρ b) fun y => fun st => M.ofO ((cmpD op (view st x) (view st y)).map .bl) st := by intros; rfl
@[simp] theorem q_evE_12 : ∀ (C : Cfg) (ρ : Env) op op' a b c, evE C ρ (.cmp2 op op' a b c) = M.thn (evE C ρ a) fun x => M.thn (evE C ρ b) fun y => fun st => M.thn (M.ofO (cmpD op (view st x) (view st y))) (fun k => if k then
      M.thn (evE C ρ c) fun z => fun st => M.ofO ((cmpD op' (view st y) (view st z)).map .bl) st else M.ret (.bl false)) st := by intros; rfl
@[simp] theorem q_evE_13 : ∀ (C : Cfg) (ρ : Env) a b, evE C ρ (.idx a b) = M.thn (evE C ρ a) fun x => M.thn (evE C ρ b) fun y => fun st => M.ofO (idxD (view st x) y) st := by intros; rfl
@[simp] theorem q_evE_14 : ∀ (C : Cfg) (ρ : Env) a lo hi, evE C ρ (.slc a lo hi) = M.thn (evE C ρ a) fun x => M.thn (evO C ρ lo) fun l => M.thn (evO C ρ hi) fun h => fun st => M.ofO (slcD (view st x) l h) st := by intros; rfl
@[simp] theorem q_evE_15 : ∀ (C : Cfg) (ρ : Env) f es, evE C ρ (.call f es) = M.thn (evEs C ρ es) fun xs => C.call f xs := by intros; rfl
@[simp] theorem q_evE_16 : ∀ (C : Cfg) (ρ : Env) b a, evE C ρ (.blt b a) = M.thn (evE C ρ a) fun x => fun st => M.ofO (bltD b (view st x)) st := by intros; rfl
@[simp] theorem q_evE_17 : ∀ (C : Cfg) (ρ : Env) n, evE C ρ (.new n) = M.thn (evN C ρ n) fun xs => M.ret (.lst xs) := by intros; rfl
@[simp] theorem q_evE_18 : ∀ (C : Cfg) (ρ : Env) n, evE C ρ (.newm n) = M.thn (evN C ρ n) fun xs => alloc (.lst xs) := by intros; rfl
@[simp] theorem q_evE_19 : ∀ (C : Cfg) (ρ : Env) a, evE C ρ (.frz a) = M.thn (evE C ρ a) fun x => fun st => match x with
    | .ref l => match st[l]? with
      | some (.lst xs) => .ok (.lst xs) (st.set l .dead)
      | some (.dct ks vs) => .ok (.dct ks vs) (st.set l .dead)
      | _ => .bad
    | _ => .bad := by intros; rfl
@[simp] theorem q_evE_20 : ∀ (C : Cfg) (ρ : Env) a, evE C ρ (.pop a) = M.thn (evE C ρ a) popD := by intros; rfl
@[simp] theorem q_evE_21 : ∀ (C : Cfg) (ρ : Env) a, evE C ρ (.rev a) = M.thn (evE C ρ a) fun x => fun st => M.ofO (revD (view st x)) st := by intros; rfl
@[simp] theorem q_evE_22 : ∀ (C : Cfg) (ρ : Env) u1 hs d e, evE C ρ (.word u1 hs d e) = wordM C.exm hs d (evE C ρ e) := by intros; rfl
@[simp] theorem q_evE_23 : ∀ (C : Cfg) (ρ : Env) mx a b, evE C ρ (.mm mx a b) = M.thn (evE C ρ a) fun x => M.thn (evE C ρ b) fun y => match x, y with
    | .int i, .int j => M.ret (.int (mm2 mx i j))
    | _, _ => M.bad := by intros; rfl
@[simp] theorem q_evE_24 : ∀ (C : Cfg) (ρ : Env) a, evE C ρ (.srt a) = M.thn (evE C ρ a) fun x => fun st => M.ofO (srtD (view st x)) st := by intros; rfl
@[simp] theorem q_evE_25 : ∀ (C : Cfg) (ρ : Env) a i, evE C ρ (.srtk a i) = M.thn (evE C ρ a) fun x => fun st => M.ofO (srtkD i (view st x)) st := by intros; rfl
@[simp] theorem q_evE_26 : ∀ (C : Cfg) (ρ : Env) a, evE C ρ (.srti a) = M.thn (evE C ρ a) fun x => fun st => M.ofO (srtiD (view st x)) st := by intros; rfl
@[simp] theorem q_evE_27 : ∀ (C : Cfg) (ρ : Env) a, evE C ρ (.srtp a) = M.thn (evE C ρ a) fun x => fun st => M.ofO (srtpD (view st x)) st := by intros; rfl
@[simp] theorem q_evE_28 : ∀ (C : Cfg) (ρ : Env) kvs, evE C ρ (.dsp kvs) = M.ret (.dct (kvs.map fun p => .str p.1) (kvs.map fun p => .fn p.2)) := by intros; rfl
@[simp] theorem q_evE_29 : ∀ (C : Cfg) (ρ : Env) i sel es, evE C ρ (.calld i sel es) = M.thn (getE ρ i) fun x => M.thn (evE C ρ sel) fun y => M.thn (M.ofO (dctF x y)) fun f => M.thn (evEs C ρ es) fun xs => C.call f xs := by intros; rfl
@[simp] theorem q_evE_30 : ∀ (C : Cfg) (ρ : Env) i es, evE C ρ (.callv i es) = M.thn (getE ρ i) fun x => match x with
    | .fn f => M.thn (evEs C ρ es) fun xs => C.call f xs
    | _ => M.bad := by intros; rfl
@[simp] theorem q_evO_0 : ∀ (C : Cfg) (ρ : Env), evO C ρ .no = M.ret none := by intros; rfl
@[simp] theorem q_evO_1 : ∀ (C : Cfg) (ρ : Env) e, evO C ρ (.is e) = M.thn (evE C ρ e) asI := by intros; rfl
@[simp] theorem q_evC_0 : ∀ (C : Cfg) (ρ : Env), evC C ρ .no = M.ret true := by intros; rfl
@[simp] theorem q_evC_1 : ∀ (C : Cfg) (ρ : Env) e, evC C ρ (.is e) = M.thn (evE C ρ e) asB := by intros; rfl
@[simp] theorem q_evEs_0 : ∀ (C : Cfg) (ρ : Env), evEs C ρ .nil = M.ret [] := by intros; rfl
@[simp] theorem q_evEs_1 : ∀ (C : Cfg) (ρ : Env) e es, evEs C ρ (.cons e es) = M.thn (evE C ρ e) fun x => M.thn (evEs C ρ es) fun xs => M.ret (x :: xs) := by intros; rfl
@[simp] theorem q_evN_0 : ∀ (C : Cfg) (ρ : Env) es, evN C ρ (.lst es) = M.thn (evEs C ρ es) fun xs => if okSize xs.length then M.ret xs else M.bad := by intros; rfl
@[simp] theorem q_evN_1 : ∀ (C : Cfg) (ρ : Env) own elt tg it c, evN C ρ (.comp own elt tg it c) = M.thn (evIt C ρ it) fun xs => M.calm (M.thn (loopC (fun x => match setTg tg x (wipeE ρ own) with
      | some σ => M.thn (evC C σ c) fun k => if k then M.thn (evE C σ elt) fun y => M.ret [y] else M.ret []
      | none => M.bad) xs) fun ys => if okSize ys.length then M.ret ys else M.bad) := by intros; rfl
@[simp] theorem q_evN_2 : ∀ (C : Cfg) (ρ : Env) own own1 elt tg it c tg1 it1 c1, evN C ρ (.comp2 own own1 elt tg it c tg1 it1 c1) = M.thn (evIt C ρ it) fun xs => M.calm (M.thn (loopC (fun x => match setTg tg x (wipeE ρ own) with
      | some σ => M.thn (evC C σ c) fun k => if k then M.thn (evIt C σ it1) fun zs => loopC (fun z => match setTg tg1 z (wipeE σ own1) with
          | some τ => M.thn (evC C τ c1) fun k => if k then M.thn (evE C τ elt) fun y => M.ret [y] else M.ret []
          | none => M.bad) zs else M.ret []
      | none => M.bad) xs) fun ys => if okSize ys.length then M.ret ys else M.bad) := by intros; rfl
@[simp] theorem q_evN_3 : ∀ (C : Cfg) (ρ : Env) a, evN C ρ (.listOf a) = M.thn (evE C ρ a) fun x => fun st => M.ofO (seqOf (view st x)) st := by intros; rfl
@[simp] theorem q_evN_4 : ∀ (C : Cfg) (ρ : Env) n k, evN C ρ (.rep n k) = M.thn (evN C ρ n) fun xs => M.thn (evE C ρ k) (repL xs) := by intros; rfl
@[simp] theorem q_evN_5 : ∀ (C : Cfg) (ρ : Env) a b, evN C ρ (.cat a b) = M.thn (evE C ρ a) fun x => M.thn (evE C ρ b) fun y => fun st => M.ofO (catD (view st x) (view st y)) st := by intros; rfl
@[simp] theorem q_evIt_0 : ∀ (C : Cfg) (ρ : Env) a, evIt C ρ (.val a) = M.thn (evE C ρ a) fun x => M.ofO (walkD x) := by intros; rfl
@[simp] theorem q_evIt_1 : ∀ (C : Cfg) (ρ : Env) a, evIt C ρ (.rng1 a) = M.thn (evE C ρ a) fun x => match x with
    | .int i => if okRng i then M.ret (rngUp 0 i.toNat) else M.bad
    | _ => M.bad := by intros; rfl
@[simp] theorem q_evIt_2 : ∀ (C : Cfg) (ρ : Env) a b, evIt C ρ (.rng2 a b) = M.thn (evE C ρ a) fun x => M.thn (evE C ρ b) fun y => match x, y with
    | .int i, .int j => if okRng i && okRng j then M.ret (rngUp i (j - i).toNat) else M.bad
    | _, _ => M.bad := by intros; rfl
@[simp] theorem q_evIt_3 : ∀ (C : Cfg) (ρ : Env) a, evIt C ρ (.enum a) = M.thn (evE C ρ a) fun x => M.thn (M.ofO (seqOf x)) fun xs => M.ret (numUp 0 xs) := by intros; rfl
@[simp] theorem q_evIt_4 : ∀ (C : Cfg) (ρ : Env) a b, evIt C ρ (.zip a b) = M.thn (evE C ρ a) fun x => M.thn (evE C ρ b) fun y => M.ofO (zipD x y) := by intros; rfl
@[simp] theorem q_exS_0 : ∀ (C : Cfg) (ρ : Env) e, exS C ρ (.expr e) = M.thn (evE C ρ e) fun _ => M.ret (.next ρ) := by intros; rfl
@[simp] theorem q_exS_1 : ∀ (C : Cfg) (ρ : Env) t e, exS C ρ (.asg t e) = M.thn (evE C ρ e) fun d => M.thn (putT C ρ d t) fun ρ => M.ret (.next ρ) := by intros; rfl
@[simp] theorem q_exS_2 : ∀ (C : Cfg) (ρ : Env) ts es, exS C ρ (.par ts es) = M.thn (evEs C ρ es) fun ds => match setMany ρ ts ds with
    | some ρ => M.ret (.next ρ)
    | none => M.bad := by intros; rfl
@[simp] theorem q_exS_3 : ∀ (C : Cfg) (ρ : Env) op i e, exS C ρ (.augn op i e) = M.thn (getE ρ i) fun x => M.thn (evE C ρ e) fun y => match x, y with
    | .int _, .int _ => M.thn (M.ofO (binD op x y)) fun z => M.ret (.next (ρ.set i (some z)))
    | _, _ => M.bad := by intros; rfl
@[simp] theorem q_exS_4 : ∀ (C : Cfg) (ρ : Env) o e, exS C ρ (.app o e) = M.thn (evE C ρ o) fun x => M.thn (lstAt x) fun _ => M.thn (evE C ρ e) fun y => M.thn (appD C x y) fun _ => M.ret (.next ρ) := by intros; rfl
@[simp] theorem q_exS_5 : ∀ (C : Cfg) (ρ : Env) e, exS C ρ (.ret e) = M.thn (evE C ρ e) fun d => M.ret (.ret d) := by intros; rfl
@[simp] theorem q_exS_6 : ∀ (C : Cfg) (ρ : Env), exS C ρ .retN = M.ret (.ret .non) := by intros; rfl
@[simp] theorem q_exS_7 : ∀ (C : Cfg) (ρ : Env), exS C ρ .pass = M.ret (.next ρ) := by intros; rfl
@[simp] theorem q_exS_8 : ∀ (C : Cfg) (ρ : Env), exS C ρ .brk = M.ret (.brk ρ) := by intros; rfl
@[simp] theorem q_exS_9 : ∀ (C : Cfg) (ρ : Env) c a b, exS C ρ (.iff c a b) = M.thn (M.thn (evE C ρ c) asB) fun k => if k then exSs C ρ a else exSs C ρ b := by intros; rfl
@[simp] theorem q_exS_10 : ∀ (C : Cfg) (ρ : Env) t it b, exS C ρ (.for t it b) = M.thn (evIt C ρ it) fun xs => forL (fun x ρ => match setTg t x ρ with
    | some ρ => exSs C ρ b
    | none => M.bad) xs ρ := by intros; rfl
@[simp] theorem q_exS_11 : ∀ (C : Cfg) (ρ : Env) c b, exS C ρ (.whl c b) = whlL (fun ρ => M.thn (evE C ρ c) asB) (fun ρ => exSs C ρ b) C.fuel ρ := by intros; rfl
@[simp] theorem q_exS_12 : ∀ (C : Cfg) (ρ : Env) c u1, exS C ρ (.raise c u1) = fun st => .exc c st := by intros; rfl
@[simp] theorem q_exS_13 : ∀ (C : Cfg) (ρ : Env) i, exS C ρ (.freeze i) = M.thn (getE ρ i) fun x => fun st => match x with
    | .ref l => match st[l]? with
      | some (.lst xs) => .ok (.next (ρ.set i (some (.lst xs)))) (st.set l .dead)
      | some (.dct ks vs) => .ok (.next (ρ.set i (some (.dct ks vs)))) (st.set l .dead)
      | _ => .bad
    | _ => .bad := by intros; rfl
@[simp] theorem q_exS_14 : ∀ (C : Cfg) (ρ : Env) i e, exS C ρ (.augl i e) = M.thn (getE ρ i) fun x => M.thn (evE C ρ e) fun y => M.thn (extD C x y) fun _ => M.ret (.next (ρ.set i (some x))) := by intros; rfl
@[simp] theorem q_exS_15 : ∀ (C : Cfg) (ρ : Env) u1 b hall cs d, exS C ρ (.tryA u1 b hall cs d) = fun st => match exSs C ρ b st with
    | .exc c st' => (match C.exm c hall with
      | some true => (match catchD C.exm c cs d with
        | some d' => .ok (.ret d') st'
        | none => .bad)
      | some false => .exc c st'
      | none => .bad)
    | r => r := by intros; rfl
@[simp] theorem q_exSs_0 : ∀ (C : Cfg) (ρ : Env), exSs C ρ .nil = M.ret (.next ρ) := by intros; rfl
@[simp] theorem q_exSs_1 : ∀ (C : Cfg) (ρ : Env) s ss, exSs C ρ (.cons s ss) = M.thn (exS C ρ s) fun fl => match fl with
    | .next ρ => exSs C ρ ss
    | fl => M.ret fl := by intros; rfl
@[simp] theorem q_putT_0 : ∀ (C : Cfg) (ρ : Env) (d : D) i, putT C ρ d (.name i) = M.ret (ρ.set i (some d)) := by intros; rfl
@[simp] theorem q_putT_1 : ∀ (C : Cfg) (ρ : Env) (d : D) t, putT C ρ d (.tg t) = M.ofO (setTg t d ρ) := by intros; rfl
@[simp] theorem q_putT_2 : ∀ (C : Cfg) (ρ : Env) (d : D) o i, putT C ρ d (.idx o i) = M.thn (evE C ρ o) fun x => M.thn (evE C ρ i) fun y => M.thn (setIx C x y d) fun _ => M.ret ρ := by intros; rfl
@[simp] theorem q_setTg_0 : ∀ i d ρ, setTg  (.name i) d ρ = some (ρ.set i (some d)) := by intros; rfl
@[simp] theorem q_setTg_1 : ∀ a b x y ρ, setTg  (.two a b) (.tup [x, y]) ρ = match setTg a x ρ with
    | some ρ => setTg b y ρ
    | none => none := by intros; rfl
@[simp] theorem q_setTg_2 : ∀ a b c x y z ρ, setTg  (.three a b c) (.tup [x, y, z]) ρ = match setTg a x ρ with
    | some ρ => match setTg b y ρ with
      | some ρ => setTg c z ρ
      | none => none
    | none => none := by intros; rfl
@[simp] theorem q_setTg_3 : ∀ a b c d x y z u ρ, setTg  (.four a b c d) (.tup [x, y, z, u]) ρ = match setTg a x ρ with
    | some ρ => match setTg b y ρ with
      | some ρ => match setTg c z ρ with
        | some ρ => setTg d u ρ
        | none => none
      | none => none
    | none => none := by intros; rfl
@[simp] theorem q_setTg_4 : ∀ a b c d e x y z u v ρ, setTg  (.five a b c d e) (.tup [x, y, z, u, v]) ρ = match setTg a x ρ with
    | some ρ => match setTg b y ρ with
      | some ρ => match setTg c z ρ with
        | some ρ => match setTg d u ρ with
          | some ρ => setTg e v ρ
          | none => none
        | none => none
      | none => none
    | none => none := by intros; rfl
@[simp] theorem q_wipeE_0 : ∀ (ρ : Env), wipeE ρ [] = ρ := by intros; rfl
@[simp] theorem q_wipeE_1 : ∀ (ρ : Env) v vs, wipeE ρ (v :: vs) = (wipeE ρ vs).set v none := by intros; rfl
end Ev
set_option linter.all false
set_option maxRecDepth 100000
set_option maxHeartbeats 1000000
namespace K22
open Ev PySem
theorem ofS_inj {a b : String} (h : Str.ofString a = Str.ofString b) : a = b := by
  rw [Str.ofString_eq_toList, Str.ofString_eq_toList] at h
  have h1 := congrArg (fun s : Str => s.cps.toList) h
  have h2 : a.toList.map Char.toNat = b.toList.map Char.toNat := by simpa using h1
  have h3 : a.toList = b.toList := List.map_inj_right (fun x y e => Char.toNat_inj.mp e) |>.mp h2
  exact String.toList_inj.mp h3
@[simp] theorem ofS_iff {a b : String} : (Str.ofString a = Str.ofString b) ↔ (a = b) := ⟨ofS_inj, fun h => by rw [h]⟩
abbrev cl (n : Nat) (f : Nat) (as : List D) : M D := callN Pp fuel T.exmF n f as
theorem cl_run {n f : Nat} {F : Fn} (h : Pp.find f = some F) (as : List D) (st : Store) (hl : as.length = F.ps.length) : cl (n + 1) f as st = fin st.length (exSs ⟨fun g xs => cl n g xs, st.length, fuel, T.exmF⟩ (as.map some ++ List.replicate (F.slots.length - as.length) none) F.body st) := by
  rw [← runF_eq _ _ _ _ _ _ hl]
  simp only [cl, callN, h]
theorem okv {n f : Nat} {as : List D} {d : D} (h : ∀ st, cl n f as st = .ok d st) : cl n f as = M.ret d := funext h
theorem is_whole_int (n : Nat) (v lo hi : Int) : cl (n + 1) 0 [.int v, .int lo, .int hi] = M.ret (.bl (decide (lo ≤ v) && decide (v ≤ hi))) := by
  funext st
  rw [cl_run (F := F_is_whole) rfl _ _ rfl]
  simp [F_is_whole, bltD, tyD, Ty.has, cmpD, leD]
  by_cases h1 : lo ≤ v <;> simp [h1]
theorem is_whole_no (n : Nat) (v : D) (lo hi : D) (h : tyD v ≠ "") (h2 : Ty.int.has v = false ∨ Ty.bool.has v = true) (hr : ∀ l, v ≠ .ref l) : cl (n + 1) 0 [v, lo, hi] = M.ret (.bl false) := by
  funext st
  rw [cl_run (F := F_is_whole) rfl _ _ rfl]
  cases v <;> simp_all [F_is_whole, bltD, tyD, Ty.has, cmpD, leD]
theorem is_tuple_of_tup (n : Nat) (xs : List D) (lo hi : Int) : cl (n + 1) 1 [.tup xs, .int lo, .int hi] = M.ret (.bl (decide (lo ≤ xs.length) && decide ((xs.length : Int) ≤ hi))) := by
  funext st
  rw [cl_run (F := F_is_tuple_of) rfl _ _ rfl]
  simp [F_is_tuple_of, bltD, tyD, Ty.has, cmpD, leD]
  by_cases h1 : lo ≤ xs.length <;> simp [h1]
theorem is_number_int (n : Nat) (v : Int) : cl (n + 2) 3 [.int v] = M.ret (.bl (decide (-1000000000 ≤ v) && decide (v ≤ 1000000000))) := by
  funext st
  rw [cl_run (F := F_is_number) rfl _ _ rfl]
  simp [F_is_number, c_NUMBER, is_whole_int]
theorem is_number_str (n : Nat) (v : Str) : cl (n + 2) 3 [.str v] = M.ret (.bl false) := by
  funext st
  rw [cl_run (F := F_is_number) rfl _ _ rfl]
  have h := is_whole_no n (.str v) (.int (-1000000000)) (.int 1000000000) (by simp [tyD]) (.inl rfl) (by simp)
  simp [F_is_number, c_NUMBER, h]
theorem sort_of_value_int (n : Nat) (v : Int) (h : -1000000000 ≤ v ∧ v ≤ 1000000000) : cl (n + 3) 9 [.int v] = M.ret (.str "int") := by
  funext st
  rw [cl_run (F := F_sort_of_value) rfl _ _ rfl]
  simp [F_sort_of_value, c_INT, is_number_int, cmpD, isNon, h]
theorem sort_of_value_non (n : Nat) : cl (n + 3) 9 [.non] = M.ret (.str "any") := by
  funext st
  rw [cl_run (F := F_sort_of_value) rfl _ _ rfl]
  simp [F_sort_of_value, c_ANY, cmpD, isNon]
theorem sort_of_value_str (n : Nat) (v : Str) : cl (n + 3) 9 [.str v] = M.ret (.str "word") := by
  funext st
  rw [cl_run (F := F_sort_of_value) rfl _ _ rfl]
  simp [F_sort_of_value, c_TEXT, is_number_str, cmpD, isNon]
end K22
set_option linter.all false
set_option maxRecDepth 100000
set_option maxHeartbeats 2000000
namespace K22
open Ev PySem
abbrev S (s : String) : D := .str (Str.ofString s)
theorem joined_any (n : Nat) (t : Str) : cl (n + 1) 10 [S "any", .str t] = M.ret (.str t) := by
  funext st
  rw [cl_run (F := F_joined_sort) rfl _ _ rfl]
  simp [F_joined_sort, c_ANY, cmpD, isNon]
theorem any_ok : PyData.strOk (Str.ofString "any") = true := by decide +kernel
theorem in_same (s : Str) (h : PyData.strOk s = true) : inL (.str s) [.str s, S "any"] = some true := by
  simp [inL, D.toPy, D.toPys, SeqAt.shaped, PyData.canLay0, PyData.canLayAll0, PyData.depth, PyData.eqv, h, any_ok]
theorem in_any (s : Str) (h : PyData.strOk s = true) : inL (S "any") [.str s, S "any"] = some true := by
  simp [inL, D.toPy, D.toPys, SeqAt.shaped, PyData.canLay0, PyData.canLayAll0, PyData.depth, PyData.eqv, h, any_ok]
theorem joined_same (n : Nat) (t : Str) (h : t ≠ Str.ofString "any") (ho : PyData.strOk t = true) : cl (n + 1) 10 [.str t, .str t] = M.ret (.str t) := by
  funext st
  rw [cl_run (F := F_joined_sort) rfl _ _ rfl]
  simp [F_joined_sort, c_ANY, cmpD, isNon, okSize, h, in_same, ho]
theorem joined_to_any (n : Nat) (t : Str) (h : t ≠ Str.ofString "any") (ho : PyData.strOk t = true) : cl (n + 1) 10 [.str t, S "any"] = M.ret (.str t) := by
  funext st
  rw [cl_run (F := F_joined_sort) rfl _ _ rfl]
  simp [F_joined_sort, c_ANY, cmpD, isNon, okSize, h, in_any, ho]
theorem joined_int (n : Nat) : cl (n + 1) 10 [S "int", S "int"] = M.ret (S "int") := joined_same n _ (by simp) (by decide +kernel)
theorem joined_int_any (n : Nat) : cl (n + 1) 10 [S "int", S "any"] = M.ret (S "int") := joined_to_any n _ (by simp) (by decide +kernel)
theorem is_word_one (n : Nat) (z : String) (h1 : walkD (S z) = some [S z]) (h2 : (Str.ofString z).length = 1) (h3 : inS (S z) (Str.ofString "abcdefghijklmnopqrstuvwxyz") = some true) : cl (n + 1) 2 [S z] = M.ret (.bl true) := by
  funext st
  rw [cl_run (F := F_is_word) rfl _ _ rfl]
  simp [F_is_word, c_WORD, c_LETTERS, cmpD, leD, bltD, tyD, Ty.has, okSize, h1, h2, h3, loopC, setTg, wipeE, allB]
theorem is_word_zz (n : Nat) : cl (n + 1) 2 [S "zz"] = M.ret (.bl true) := by
  funext st
  have h1 : walkD (S "zz") = some [S "z", S "z"] := by rfl
  have h2 : (Str.ofString "zz").length = 2 := by decide +kernel
  have h3 : inS (S "z") (Str.ofString "abcdefghijklmnopqrstuvwxyz") = some true := by decide +kernel
  rw [cl_run (F := F_is_word) rfl _ _ rfl]
  simp [F_is_word, c_WORD, c_LETTERS, cmpD, leD, bltD, tyD, Ty.has, okSize, h1, h2, h3, loopC, setTg, wipeE, allB]
theorem is_word_a (n : Nat) : cl (n + 1) 2 [S "a"] = M.ret (.bl true) := is_word_one n "a" rfl (by decide +kernel) (by decide +kernel)
theorem is_word_b (n : Nat) : cl (n + 1) 2 [S "b"] = M.ret (.bl true) := is_word_one n "b" rfl (by decide +kernel) (by decide +kernel)
theorem is_word_c (n : Nat) : cl (n + 1) 2 [S "c"] = M.ret (.bl true) := is_word_one n "c" rfl (by decide +kernel) (by decide +kernel)
/-- values that are drawn, by their sorts -/
inductive Val : String → D → Prop
  | non (s : String) : Val s .non
  | int (i : Int) (h : -1000000000 ≤ i ∧ i ≤ 1000000000) : Val "int" (.int i)
  | a : Val "word" (S "a")
  | b : Val "word" (S "b")
  | c : Val "word" (S "c")
  | zz : Val "word" (S "zz")
theorem fits_value_ok {s : String} {v : D} (h : Val s v) (n : Nat) : cl (n + 4) 4 [v] = M.ret (.bl true) := by
  funext st
  rw [cl_run (F := F_fits_value) rfl _ _ rfl]
  cases h with
  | non => simp [F_fits_value, cmpD, isNon]
  | int i h => simp [F_fits_value, cmpD, isNon, is_number_int, h]
  | a => simp [F_fits_value, cmpD, isNon, is_number_str, is_word_a]
  | b => simp [F_fits_value, cmpD, isNon, is_number_str, is_word_b]
  | c => simp [F_fits_value, cmpD, isNon, is_number_str, is_word_c]
  | zz => simp [F_fits_value, cmpD, isNon, is_number_str, is_word_zz]
theorem sort_of_value_ok {s : String} {v : D} (h : Val s v) (n : Nat) : ∃ σ, (σ = "any" ∨ σ = s) ∧ cl (n + 3) 9 [v] = M.ret (S σ) := by
  cases h with
  | non => exact ⟨"any", .inl rfl, sort_of_value_non n⟩
  | int i h => exact ⟨"int", .inr rfl, sort_of_value_int n i h⟩
  | a => exact ⟨"word", .inr rfl, sort_of_value_str n _⟩
  | b => exact ⟨"word", .inr rfl, sort_of_value_str n _⟩
  | c => exact ⟨"word", .inr rfl, sort_of_value_str n _⟩
  | zz => exact ⟨"word", .inr rfl, sort_of_value_str n _⟩
/-- sort_of tells a sort, at depth k -/
abbrev SortIs (cols o : D) (k : Int) (σ : String) (n : Nat) : Prop := cl n 11 [cols, o, .int k] = M.ret (S σ)
theorem sort_value {s : String} {v : D} (h : Val s v) (cols : D) (k : Int) (hk : k ≤ 6) (n : Nat) : ∃ σ, (σ = "any" ∨ σ = s) ∧ cl (n + 5) 11 [cols, .tup [S "value", v], .int k] = M.ret (S σ) := by
  obtain ⟨σ, hσ, e⟩ := sort_of_value_ok h (n + 1)
  refine ⟨σ, hσ, ?_⟩
  funext st
  rw [cl_run (F := F_sort_of) rfl _ _ rfl]
  have hk' : ¬ (6 < k) := by omega
  simp [F_sort_of, c_DEEP, cmpD, ltD, hk', is_tuple_of_tup, bltD, tyD, Ty.has, idxD, ixAt, fits_value_ok h, e]
theorem sort_col (xs : List D) (a c : Nat) (ys : List D) (s : String) (b : D) (hx : xs[a]? = some (.tup ys)) (hy : ys[c]? = some (.tup [S s, b])) (k : Int) (hk : k ≤ 6) (n : Nat) : cl (n + 5) 11 [.tup xs, .tup [S "col", .int a, .int c], .int k] = M.ret (S s) := by
  funext st
  rw [cl_run (F := F_sort_of) rfl _ _ rfl]
  have hk' : ¬ (6 < k) := by omega
  have ha := (List.getElem?_eq_some_iff.mp hx).1
  have hc := (List.getElem?_eq_some_iff.mp hy).1
  have ha' : (a : Int) ≤ (xs.length : Int) - 1 := by omega
  have hc' : (c : Int) ≤ (ys.length : Int) - 1 := by omega
  simp [F_sort_of, c_DEEP, cmpD, ltD, hk', is_tuple_of_tup, bltD, tyD, Ty.has, idxD, ixAt, binD, is_whole_int, ha', hc', hx, hy]
end K22
set_option linter.all false
set_option maxRecDepth 100000
set_option maxHeartbeats 2000000
namespace K22
open Ev PySem
/-- operands that are drawn: of a sort, over columns; ps: their places -/
inductive Op1 (cols : List D) : String → D → Prop
  | value {s : String} {v : D} (h : Val s v) : Op1 cols s (.tup [S "value", v])
  | col {s : String} {a c : Nat} {ys : List D} {b : D} (hx : cols[a]? = some (.tup ys)) (hy : ys[c]? = some (.tup [S s, b])) : Op1 cols s (.tup [S "col", .int a, .int c])
inductive Op (cols : List D) : String → D → Prop
  | one {s : String} {o : D} (h : Op1 cols s o) : Op cols s o
  | plus {o v : D} (h : Op1 cols "int" o) (hv : Val "int" v) : Op cols "int" (.tup [S "plus", o, .tup [S "value", v]])
/-- any, or s -/
def Of (s σ : String) : Prop := σ = "any" ∨ σ = s
theorem op1_sort {cols : List D} {s : String} {o : D} (h : Op1 cols s o) (k : Int) (hk : k ≤ 6) (n : Nat) : ∃ σ, Of s σ ∧ cl (n + 5) 11 [.tup cols, o, .int k] = M.ret (S σ) := by
  cases h with
  | value h => exact sort_value h _ k hk n
  | col hx hy => exact ⟨s, .inr rfl, sort_col cols _ _ _ s _ hx hy k hk n⟩
theorem joined_int_of {σ : String} (h : Of "int" σ) (n : Nat) : cl (n + 1) 10 [S "int", S σ] = M.ret (S "int") := by
  rcases h with rfl | rfl
  · exact joined_int_any n
  · exact joined_int n
theorem eq_ints : eqD (.lst [S "int", S "int"]) (.lst [S "int", S "int"]) = some true := by decide +kernel
theorem op_sort {cols : List D} {s : String} {o : D} (h : Op cols s o) (k : Int) (hk : k ≤ 5) (n : Nat) : ∃ σ, Of s σ ∧ cl (n + 6) 11 [.tup cols, o, .int k] = M.ret (S σ) := by
  cases h with
  | one h => exact op1_sort h k (by omega) (n + 1)
  | @plus o v h hv =>
    obtain ⟨σ1, h1, e1⟩ := op1_sort h (k + 1) (by omega) n
    obtain ⟨σ2, h2, e2⟩ := sort_value hv (.tup cols) (k + 1) (by omega) n
    refine ⟨"int", .inr rfl, ?_⟩
    have j1 := joined_int_of h1 (n + 4)
    have j2 := joined_int_of h2 (n + 4)
    have hk' : ¬ (6 < k) := by omega
    funext st
    rw [cl_run (F := F_sort_of) rfl _ _ rfl]
    simp [F_sort_of, c_DEEP, c_INT, cmpD, ltD, hk', is_tuple_of_tup, bltD, tyD, Ty.has, idxD, ixAt, binD, slcD, cutL, cutAt, walkD, loopC, setTg, wipeE, okSize, e1, e2, j1, j2, eq_ints]
theorem joined_of {s σ τ : String} (hs : s = "int" ∨ s = "word") (h1 : Of s σ) (h2 : Of s τ) (n : Nat) : ∃ υ, Of s υ ∧ cl (n + 1) 10 [S σ, S τ] = M.ret (S υ) := by
  have ho : PyData.strOk (Str.ofString s) = true := by rcases hs with rfl | rfl <;> decide +kernel
  have hn : Str.ofString s ≠ Str.ofString "any" := by rcases hs with rfl | rfl <;> simp
  rcases h1 with rfl | rfl
  · exact ⟨τ, h2, joined_any n _⟩
  · rcases h2 with rfl | rfl
    · exact ⟨_, .inr rfl, joined_to_any n _ hn ho⟩
    · exact ⟨_, .inr rfl, joined_same n _ hn ho⟩
/-- leaves of tests -/
inductive Leaf (cols : List D) : D → Prop
  | cmp {w s : String} {o p : D} (hw : w = "same" ∨ w = "less" ∨ w = "most") (hs : s = "int" ∨ s = "word") (h1 : Op cols s o) (h2 : Op cols s p) : Leaf cols (.tup [S w, o, p])
  | null {s : String} {o : D} (h : Op cols s o) : Leaf cols (.tup [S "null", o])
  | isin {s : String} {o : D} {vs : List D} (hs : s = "int" ∨ s = "word") (h : Op cols s o) (hv : ∀ v ∈ vs, Val s v) (hl : vs.length ≤ 6) : Leaf cols (.tup [S "in", o, .tup vs])
theorem in_cmp {w : String} (hw : w = "same" ∨ w = "less" ∨ w = "most") : inL (S w) [S "same", S "less", S "most"] = some true := by
  rcases hw with rfl | rfl | rfl <;> decide +kernel
theorem in_null : inL (S "null") [S "same", S "less", S "most"] = some false := by decide +kernel
theorem in_in : inL (S "in") [S "same", S "less", S "most"] = some false := by decide +kernel
theorem fits_all {s : String} {vs : List D} (hv : ∀ v ∈ vs, Val s v) (n : Nat) : loopC (fun x => M.thn (cl (n + 4) 4 [x]) fun y => M.ret [y]) vs = M.ret (vs.map fun _ => .bl true) := by
  induction vs with
  | nil => rfl
  | cons v vs ih =>
    rw [loopC, fits_value_ok (hv v List.mem_cons_self) n, ih fun v h => hv v (List.mem_cons_of_mem _ h)]
    simp
theorem all_true (vs : List D) : allB (vs.map fun _ => D.bl true) = some (vs.map fun _ => true) := by
  induction vs with
  | nil => rfl
  | cons v vs ih => simp [allB, ih]
theorem fits_leaf_cmp {cols : List D} {w s : String} {o p : D} (hw : w = "same" ∨ w = "less" ∨ w = "most") (hs : s = "int" ∨ s = "word") (h1 : Op cols s o) (h2 : Op cols s p) (k : Int) (hk : k ≤ 4) (n : Nat) : cl (n + 7) 12 [.tup cols, .tup [S w, o, p], .int k] = M.ret (.bl true) := by
  obtain ⟨σ, q1, e1⟩ := op_sort h1 (k + 1) (by omega) n
  obtain ⟨τ, q2, e2⟩ := op_sort h2 (k + 1) (by omega) n
  obtain ⟨υ, q3, e3⟩ := joined_of hs q1 q2 (n + 5)
  have i1 := in_cmp hw
  funext st
  rw [cl_run (F := F_fits_leaf) rfl _ _ rfl]
  simp [F_fits_leaf, c_COMPARED, cmpD, bltD, tyD, idxD, ixAt, binD, i1, e1, e2, e3, isNon]
theorem fits_leaf_null {cols : List D} {s : String} {o : D} (h1 : Op cols s o) (k : Int) (hk : k ≤ 4) (n : Nat) : cl (n + 7) 12 [.tup cols, .tup [S "null", o], .int k] = M.ret (.bl true) := by
  obtain ⟨σ, q1, e1⟩ := op_sort h1 (k + 1) (by omega) n
  funext st
  rw [cl_run (F := F_fits_leaf) rfl _ _ rfl]
  simp [F_fits_leaf, c_COMPARED, cmpD, bltD, tyD, idxD, ixAt, binD, in_null, e1, isNon]
theorem fits_leaf_in {cols : List D} {s : String} {o : D} {vs : List D} (hs : s = "int" ∨ s = "word") (h1 : Op cols s o) (hv : ∀ v ∈ vs, Val s v) (hl : vs.length ≤ 6) (k : Int) (hk : k ≤ 4) (n : Nat) : cl (n + 7) 12 [.tup cols, .tup [S "in", o, .tup vs], .int k] = M.ret (.bl true) := by
  obtain ⟨σ, q1, e1⟩ := op_sort h1 (k + 1) (by omega) n
  have hl' : (vs.length : Int) ≤ 6 := by omega
  have hz : okSize vs.length = true := by simp [okSize]; omega
  funext st
  rw [cl_run (F := F_fits_leaf) rfl _ _ rfl]
  have fa := fits_all hv (n + 2)
  simp [F_fits_leaf, c_COMPARED, c_IN, cmpD, leD, bltD, tyD, idxD, ixAt, binD, in_in, is_tuple_of_tup, hl', walkD, setTg, wipeE, fa, hz, all_true, e1, isNon]
  refine fin_for (fun ρ => ∃ υ x, Of s υ ∧ ρ = [some (.tup cols), some (.tup [S "in", o, .tup vs]), some (.int k), some (S υ), x]) ⟨σ, _, q1, rfl⟩ (fun v hm ρ ⟨υ, x, hu, e⟩ => ?_) (fun ρ ⟨υ, x, hu, e⟩ => ?_)
  · obtain ⟨τ, ht, et⟩ := sort_of_value_ok (hv v hm) (n + 3)
    obtain ⟨υ', hu', eu⟩ := joined_of hs hu ht (n + 5)
    subst e
    simp [et, eu]
    exact ⟨_, rfl, υ', hu', _, rfl⟩
  · subst e
    simp [cmpD, isNon]
theorem fits_leaf_ok {cols : List D} {t : D} (h : Leaf cols t) (k : Int) (hk : k ≤ 4) (n : Nat) : cl (n + 7) 12 [.tup cols, t, .int k] = M.ret (.bl true) := by
  cases h with
  | cmp hw hs h1 h2 => exact fits_leaf_cmp hw hs h1 h2 k hk n
  | null h => exact fits_leaf_null h k hk n
  | isin hs h hv hl => exact fits_leaf_in hs h hv hl k hk n
end K22
set_option linter.all false
set_option maxRecDepth 100000
/-! Ev21: plain data that may be compared. -/
namespace Ev
open PySem
/-- data no deeper than n -/
def Lay (d : D) (n : Nat) : Prop := ∃ p, d.toPy = some p ∧ p.canLay0 = true ∧ p.depth ≤ n
def LayAll (ds : List D) (n : Nat) : Prop := ∃ ps, D.toPys ds = some ps ∧ PyData.canLayAll0 ps = true ∧ PyData.depthAll ps ≤ n ∧ ps.length = ds.length
theorem LayAll.nil (n : Nat) : LayAll [] n := ⟨[], by simp [D.toPys], by simp [PyData.canLayAll0], by simp [PyData.depthAll], rfl⟩
theorem LayAll.cons {d : D} {ds : List D} {n : Nat} (h : Lay d n) (hs : LayAll ds n) : LayAll (d :: ds) n := by
  obtain ⟨p, h1, h2, h3⟩ := h
  obtain ⟨ps, g1, g2, g3, g4⟩ := hs
  exact ⟨p :: ps, by simp [D.toPys, h1, g1], by simp [PyData.canLayAll0, h2, g2], by simp [PyData.depthAll]; omega, by simp [g4]⟩
theorem LayAll.of {n : Nat} : ∀ {ds : List D}, (∀ d ∈ ds, Lay d n) → LayAll ds n
  | [], _ => .nil n
  | d :: ds, h => .cons (h d List.mem_cons_self) (LayAll.of fun e he => h e (List.mem_cons_of_mem _ he))
theorem LayAll.tup {ds : List D} {n : Nat} (h : LayAll ds n) : Lay (.tup ds) (n + 1) := by
  obtain ⟨ps, h1, h2, h3, _⟩ := h
  exact ⟨.tuple ps, by simp [D.toPy, h1], by simp [PyData.canLay0, h2], by simp [PyData.depth]; omega⟩
theorem LayAll.lst {ds : List D} {n : Nat} (h : LayAll ds n) : Lay (.lst ds) (n + 1) := by
  obtain ⟨ps, h1, h2, h3, _⟩ := h
  exact ⟨.list ps, by simp [D.toPy, h1], by simp [PyData.canLay0, h2], by simp [PyData.depth]; omega⟩
theorem Lay.le {d : D} {m n : Nat} (h : Lay d m) (hl : m ≤ n) : Lay d n := let ⟨p, h1, h2, h3⟩ := h; ⟨p, h1, h2, Nat.le_trans h3 hl⟩
theorem Lay.int (i : Int) (n : Nat) : Lay (.int i) n := ⟨.int i, by simp [D.toPy], by simp [PyData.canLay0], by simp [PyData.depth]⟩
theorem Lay.bl (i : Bool) (n : Nat) : Lay (.bl i) n := ⟨.bool i, by simp [D.toPy], by simp [PyData.canLay0], by simp [PyData.depth]⟩
theorem Lay.non (n : Nat) : Lay .non n := ⟨.none, by simp [D.toPy], by simp [PyData.canLay0], by simp [PyData.depth]⟩
theorem Lay.str {s : Str} (h : PyData.strOk s = true) (n : Nat) : Lay (.str s) n := ⟨.str s, by simp [D.toPy], by simp [PyData.canLay0, h], by simp [PyData.depth]⟩
theorem Lay.shaped {d : D} {n : Nat} (h : Lay d n) (hn : n ≤ 64) : ∃ p, d.toPy = some p ∧ SeqAt.shaped p = true := by
  obtain ⟨p, h1, h2, h3⟩ := h
  exact ⟨p, h1, by simp only [SeqAt.shaped, h2, Bool.true_and, decide_eq_true_eq]; omega⟩
theorem Lay.eq {d e : D} {m n : Nat} (h : Lay d m) (g : Lay e n) (hm : m ≤ 64) (hn : n ≤ 64) (h0 : ∀ i j, d = .int i → e ≠ .int j) (h1 : ∀ i j, d = .str i → e ≠ .str j) (h2 : ∀ i j, d = .bl i → e ≠ .bl j) (h3 : d = .non → e ≠ .non) :
    ∃ p q, d.toPy = some p ∧ e.toPy = some q ∧ eqD d e = some (PyData.eqv p q) := by
  obtain ⟨p, p1, p2⟩ := h.shaped hm
  obtain ⟨q, q1, q2⟩ := g.shaped hn
  refine ⟨p, q, p1, q1, ?_⟩
  unfold eqD
  split
  · exact absurd rfl (h0 _ _ rfl)
  · exact absurd rfl (h1 _ _ rfl)
  · exact absurd rfl (h2 _ _ rfl)
  · exact absurd rfl (h3 rfl)
  · simp [p1, q1, p2, q2]
/-- a list against the empty one -/
theorem eq_nil {ds : List D} {n : Nat} (h : LayAll ds n) (hn : n + 1 ≤ 64) : eqD (.lst ds) (.lst []) = some ds.isEmpty := by
  obtain ⟨p, q, p1, q1, e⟩ := Lay.eq h.lst (LayAll.nil 0).lst hn (by decide) (by intro i j z; cases z) (by intro i j z; cases z) (by intro i j z; cases z) (by intro z; cases z)
  rw [e]
  obtain ⟨ps, h1, _, _, h4⟩ := h
  have e1 : p = .list ps := by
    have : (D.lst ds).toPy = some (.list ps) := by simp [D.toPy, h1]
    rw [p1] at this; exact Option.some.inj this
  have e2 : q = .list [] := by
    have : (D.lst []).toPy = some (.list []) := by simp [D.toPy, D.toPys]
    rw [q1] at this; exact Option.some.inj this
  subst e1; subst e2
  cases ds with
  | nil =>
    have : ps = [] := List.length_eq_zero_iff.mp (by simpa using h4)
    subst this
    simp [PyData.eqv, PyData.eqvAll]
  | cons d ds =>
    cases ps with
    | nil => simp at h4
    | cons p ps => simp [PyData.eqv, PyData.eqvAll]
end Ev
set_option linter.all false
set_option maxRecDepth 100000
set_option maxHeartbeats 2000000
namespace K22
open Ev PySem
theorem str_ok (s : String) (h : PyData.strOk (Str.ofString s) = true) (n : Nat) : Lay (S s) n := Lay.str h n
theorem val_lay {s : String} {v : D} (h : Val s v) : Lay v 0 := by
  cases h with
  | non => exact .non 0
  | int i h => exact .int i 0
  | a => exact str_ok _ (by decide +kernel) 0
  | b => exact str_ok _ (by decide +kernel) 0
  | c => exact str_ok _ (by decide +kernel) 0
  | zz => exact str_ok _ (by decide +kernel) 0
theorem op1_lay {cols : List D} {s : String} {o : D} (h : Op1 cols s o) : Lay o 1 := by
  cases h with
  | value h => exact LayAll.tup (.cons (str_ok _ (by decide +kernel) 0) (.cons (val_lay h) (.nil 0)))
  | col hx hy => exact LayAll.tup (.cons (str_ok _ (by decide +kernel) 0) (.cons (.int _ 0) (.cons (.int _ 0) (.nil 0))))
theorem op_lay {cols : List D} {s : String} {o : D} (h : Op cols s o) : Lay o 2 := by
  cases h with
  | one h => exact (op1_lay h).le (by decide)
  | plus h hv => exact LayAll.tup (.cons (str_ok _ (by decide +kernel) 1) (.cons (op1_lay h) (.cons (LayAll.tup (.cons (str_ok _ (by decide +kernel) 0) (.cons (val_lay hv) (.nil 0)))) (.nil 1))))
theorem leaf_lay {cols : List D} {t : D} (h : Leaf cols t) : Lay t 3 := by
  cases h with
  | cmp hw hs h1 h2 => exact LayAll.tup (.cons (by rcases hw with rfl | rfl | rfl <;> exact str_ok _ (by decide +kernel) 2) (.cons (op_lay h1) (.cons (op_lay h2) (.nil 2))))
  | null h => exact LayAll.tup (.cons (str_ok _ (by decide +kernel) 2) (.cons (op_lay h) (.nil 2)))
  | isin hs h hv hl => exact LayAll.tup (.cons (str_ok _ (by decide +kernel) 2) (.cons (op_lay h) (.cons ((LayAll.tup (LayAll.of fun v hm => (val_lay (hv v hm)))).le (by decide)) (.nil 2))))
/-- tests: how deep their leaves are, how many parts -/
inductive Test (cols : List D) : Nat → Nat → D → Prop
  | leaf {t : D} (h : Leaf cols t) : Test cols 1 1 t
  | not {d s : Nat} {t : D} (h : Test cols d s t) : Test cols (d + 1) (s + 1) (.tup [S "not", t])
  | bin {d s e r : Nat} {w : String} {t u : D} (hw : w = "and" ∨ w = "or") (h : Test cols d s t) (g : Test cols e r u) : Test cols (max d e + 1) (s + r + 1) (.tup [S w, t, u])
theorem test_lay {cols : List D} {d s : Nat} {t : D} (h : Test cols d s t) : Lay t (d + 2) := by
  induction h with
  | leaf h => exact leaf_lay h
  | not h ih => exact LayAll.tup (.cons (str_ok _ (by decide +kernel) _) (.cons ih (.nil _)))
  | @bin d s e r w t u hw h g ih1 ih2 => exact LayAll.tup (.cons (by rcases hw with rfl | rfl <;> exact str_ok _ (by decide +kernel) _) (.cons (ih1.le (by omega)) (.cons (ih2.le (by omega)) (.nil _))))
theorem sq {C : Cfg} {ρ ρ' : Ev.Env} {s : Ev.S} {ss : Ss} {st st' : Store} (h : exS C ρ s st = .ok (.next ρ') st') : exSs C ρ (.cons s ss) st = exSs C ρ' ss st' := by
  rw [exSs]; simp only [M.thn, h]
theorem a_thn {α β : Type} (x : M α) (f : α → M β) (st : Store) : M.thn x f st = match x st with | .ok a st' => f a st' | .exc c st' => .exc c st' | .bad => .bad := rfl
/-- the stack of fits_test -/
def stk (ls : List (D × Int)) : List D := (ls.map fun p => D.tup [p.1, .int p.2]).reverse
theorem pop_run {C : Cfg} {ρ : Ev.Env} {l : Nat} {st : Store} {t : D} {k : Int} {ls : List (D × Int)} (h2 : ρ[2]? = some (some (.ref l))) (hl : st[l]? = some (.lst (stk ((t, k) :: ls)))) :
    exS C ρ (.asg (.tg (.two (.name 4) (.name 5))) (.pop (.var 2))) st = .ok (.next ((ρ.set 4 (some t)).set 5 (some (.int k)))) (st.set l (.lst (stk ls))) := by
  have e1 : popD (.ref l) st = .ok (.tup [t, .int k]) (st.set l (.lst (stk ls))) := by
    simp [popD, hl, stk]
  simp only [exS, evE, putT, g_some h2, s_ret, s_assoc]
  rw [a_thn, e1]
  rfl
end K22
set_option linter.all false
set_option maxRecDepth 100000
set_option maxHeartbeats 4000000
namespace K22
open Ev PySem
abbrev wc : E := (.cmp .NotEq (.var 2) (.new (.lst .nil)))
abbrev w2 : Ev.S := (.asg (.name 3) (.bin .Add (.var 3) (.const (.int 1))))
abbrev w3 : Ev.S := (.iff (.or (.cmp .Gt (.var 3) (.gc "PARTS" c_PARTS)) (.or (.cmp .Gt (.var 5) (.gc "DEEP" c_DEEP)) (.or (.not (.call 1 (.cons (.var 4) (.cons (.const (.int 2)) (.cons (.const (.int 3)) .nil))))) (.not (.blt (.isi .str) (.idx (.var 4) (.const (.int 0)))))))) (.cons (.ret (.const (.bl false)))
    .nil) .nil)
abbrev w4 : Ev.S := (.iff (.or (.and (.cmp .In (.idx (.var 4) (.const (.int 0))) (.gc "JOINED" c_JOINED)) (.cmp .Eq (.blt .len (.var 4)) (.const (.int 3)))) (.and (.cmp .Eq (.idx (.var 4) (.const (.int 0))) (.const (.str "not"))) (.cmp .Eq (.blt .len (.var 4)) (.const (.int 2))))) (.cons (.augl 2 (.newm (.comp [6] (.tup (.cons (.var 6) (.cons (.bin .Add (.var 5) (.const (.int 1))) .nil))) (.name 6) (.val (.slc (.var 4) (.is (.const (.int 1))) .no)) .no)))
    .nil) (.cons (.iff (.not (.call 12 (.cons (.var 0) (.cons (.var 4) (.cons (.var 5) .nil))))) (.cons (.ret (.const (.bl false)))
    .nil) .nil)
    .nil))
abbrev wb : Ss := .cons (.asg (.tg (.two (.name 4) (.name 5))) (.pop (.var 2))) (.cons w2 (.cons w3 (.cons w4 .nil)))
/-- the frame of fits_test -/
abbrev fr (n l : Nat) : Cfg := ⟨fun g xs => cl n g xs, l, fuel, T.exmF⟩
abbrev en (cols : List D) (t0 : D) (l : Nat) (many : Int) (x y z : Option D) : Ev.Env := [some (.tup cols), some t0, some (.ref l), some (.int many), x, y, z]
theorem run2 {n l : Nat} {cols : List D} {t0 : D} {many : Int} {x y z : Option D} {st : Store} : exS (fr n l) (en cols t0 l many x y z) w2 st = M.ret (.next (en cols t0 l (many + 1) x y z)) st := by
  simp [en, binD]
theorem run3 {n l : Nat} {cols : List D} {t0 : D} {many k : Int} {w : String} {rest : List D} {z : Option D} {st : Store} (hm : many ≤ 30) (hk : k ≤ 6) (hr : rest.length = 1 ∨ rest.length = 2) :
    exS (fr (n + 1) l) (en cols t0 l many (some (.tup (S w :: rest))) (some (.int k)) z) w3 st = M.ret (.next (en cols t0 l many (some (.tup (S w :: rest))) (some (.int k)) z)) st := by
  have h1 : ¬ (30 < many) := by omega
  have h2 : ¬ (6 < k) := by omega
  have h3 : (2 : Int) ≤ (rest.length : Int) + 1 ∧ (rest.length : Int) + 1 ≤ 3 := by omega
  simp [en, c_PARTS, c_DEEP, cmpD, ltD, h1, h2, is_tuple_of_tup, h3, bltD, tyD, Ty.has, idxD, ixAt]
theorem in_joined {w : String} (hw : w = "and" ∨ w = "or") : inL (S w) [S "and", S "or"] = some true := by
  rcases hw with rfl | rfl <;> decide +kernel
theorem nin_joined {w : String} (hw : w = "same" ∨ w = "less" ∨ w = "most" ∨ w = "null" ∨ w = "in" ∨ w = "not") : inL (S w) [S "and", S "or"] = some false := by
  rcases hw with rfl | rfl | rfl | rfl | rfl | rfl <;> decide +kernel
/-- a leaf -/
theorem run4_leaf {n l : Nat} {cols : List D} {t0 t : D} {many k : Int} {z : Option D} {st : Store} (h : Leaf cols t) (hk : k ≤ 4) :
    exS (fr (n + 7) l) (en cols t0 l many (some t) (some (.int k)) z) w4 st = M.ret (.next (en cols t0 l many (some t) (some (.int k)) z)) st := by
  have hf := fits_leaf_ok h k hk n
  have key : ∀ w rest, t = .tup (S w :: rest) → (w = "same" ∨ w = "less" ∨ w = "most" ∨ w = "null" ∨ w = "in") → exS (fr (n + 7) l) (en cols t0 l many (some t) (some (.int k)) z) w4 st = M.ret (.next (en cols t0 l many (some t) (some (.int k)) z)) st := by
    intro w rest e hw
    subst e
    have h1 := nin_joined (w := w) (by rcases hw with h | h | h | h | h <;> simp [h])
    have h2 : w ≠ "not" := by rcases hw with h | h | h | h | h <;> simp [h]
    simp [en, c_JOINED, cmpD, h1, h2, idxD, ixAt, hf]
  cases h with
  | cmp hw hs a b => exact key _ _ rfl (by rcases hw with h | h | h <;> simp [h])
  | null a => exact key _ _ rfl (by simp)
  | isin hs a hv hl => exact key _ _ rfl (by simp)
end K22
set_option linter.all false
set_option maxRecDepth 100000
set_option maxHeartbeats 4000000
namespace K22
open Ev PySem
theorem push_run {C : Cfg} {ρ : Ev.Env} {l : Nat} {st : Store} {xs ds : List D} {nn : N} (h2 : ρ[2]? = some (some (.ref l))) (hn : evN C ρ nn = M.ret ds) (hl : st[l]? = some (.lst xs)) (hz : okSize (xs.length + ds.length) = true) (hb : C.base ≤ l) :
    exS C ρ (.augl 2 (.newm nn)) st = M.ret (.next (ρ.set 2 (some (.ref l)))) ((st ++ [Cell.lst ds]).set l (Cell.lst (xs ++ ds))) := by
  have hlt : l < st.length := (List.getElem?_eq_some_iff.mp hl).1
  have e2 : extD C (.ref l) (.ref st.length) (st ++ [Cell.lst ds]) = .ok () ((st ++ [Cell.lst ds]).set l (Cell.lst (xs ++ ds))) := by
    have a1 : (st ++ [Cell.lst ds])[l]? = some (.lst xs) := by rw [List.getElem?_append_left hlt]; exact hl
    have a2 : (st ++ [Cell.lst ds])[st.length]? = some (.lst ds) := by simp
    simp only [extD, a1, a2, hz, hb, decide_true, Bool.true_or, Bool.and_self, if_true]
  simp only [exS, evE, g_some h2, s_ret, hn]
  have ea : Ev.alloc (Cell.lst ds) st = .ok (.ref st.length) (st ++ [Cell.lst ds]) := rfl
  rw [a_thn, ea]
  show M.thn (extD C (.ref l) (.ref st.length)) (fun _ => M.ret (Ev.Flow.next (ρ.set 2 (some (.ref l))))) (st ++ [Cell.lst ds]) = _
  rw [a_thn, e2]
/-- one[1:], a level deeper -/
theorem parts_not {n l : Nat} {cols : List D} {t0 t : D} {many k : Int} {w : String} {z : Option D} : evN (fr n l) (en cols t0 l many (some (.tup [S w, t])) (some (.int k)) z) (.comp [6] (.tup (.cons (.var 6) (.cons (.bin .Add (.var 5) (.const (.int 1))) .nil))) (.name 6) (.val (.slc (.var 4) (.is (.const (.int 1))) .no)) .no) = M.ret [.tup [t, .int (k + 1)]] := by
  simp [en, slcD, cutL, cutAt, walkD, loopC, binD, okSize]
theorem parts_bin {n l : Nat} {cols : List D} {t0 t u : D} {many k : Int} {w : String} {z : Option D} : evN (fr n l) (en cols t0 l many (some (.tup [S w, t, u])) (some (.int k)) z) (.comp [6] (.tup (.cons (.var 6) (.cons (.bin .Add (.var 5) (.const (.int 1))) .nil))) (.name 6) (.val (.slc (.var 4) (.is (.const (.int 1))) .no)) .no) = M.ret [.tup [t, .int (k + 1)], .tup [u, .int (k + 1)]] := by
  simp [en, slcD, cutL, cutAt, walkD, loopC, binD, okSize]
theorem stk_len (ls : List (D × Int)) : (stk ls).length = ls.length := by simp [stk]
theorem run4_not {n l : Nat} {cols : List D} {t0 t : D} {many k : Int} {z : Option D} {st : Store} {ls : List (D × Int)} (hl : st[l]? = some (.lst (stk ls))) (hz : ls.length ≤ 1000) :
    exS (fr n l) (en cols t0 l many (some (.tup [S "not", t])) (some (.int k)) z) w4 st = M.ret (.next (en cols t0 l many (some (.tup [S "not", t])) (some (.int k)) z)) ((st ++ [Cell.lst [D.tup [t, .int (k + 1)]]]).set l (Cell.lst (stk ((t, k + 1) :: ls)))) := by
  have h1 := nin_joined (w := "not") (by simp)
  have p := push_run (C := fr n l) (ρ := en cols t0 l many (some (.tup [S "not", t])) (some (.int k)) z) (st := st) rfl (parts_not (n := n) (l := l) (cols := cols) (t0 := t0) (many := many) (k := k) (w := "not") (z := z)) hl (by simp [okSize, stk_len]; omega) (Nat.le_refl _)
  have e : stk ls ++ [.tup [t, .int (k + 1)]] = stk ((t, k + 1) :: ls) := by simp [stk]
  rw [e] at p
  have c : exS (fr n l) (en cols t0 l many (some (.tup [S "not", t])) (some (.int k)) z) w4 = exSs (fr n l) (en cols t0 l many (some (.tup [S "not", t])) (some (.int k)) z) (.cons (.augl 2 (.newm (.comp [6] (.tup (.cons (.var 6) (.cons (.bin .Add (.var 5) (.const (.int 1))) .nil))) (.name 6) (.val (.slc (.var 4) (.is (.const (.int 1))) .no)) .no))) .nil) := by
    simp only [w4, exS, evE, evEs]
    simp [en, c_JOINED, cmpD, h1, idxD, ixAt, bltD]
  rw [c, sq p]
  rfl
theorem run4_bin {n l : Nat} {cols : List D} {t0 t u : D} {many k : Int} {w : String} {z : Option D} {st : Store} {ls : List (D × Int)} (hw : w = "and" ∨ w = "or") (hl : st[l]? = some (.lst (stk ls))) (hz : ls.length ≤ 1000) :
    exS (fr n l) (en cols t0 l many (some (.tup [S w, t, u])) (some (.int k)) z) w4 st = M.ret (.next (en cols t0 l many (some (.tup [S w, t, u])) (some (.int k)) z)) ((st ++ [Cell.lst [D.tup [t, .int (k + 1)], .tup [u, .int (k + 1)]]]).set l (Cell.lst (stk ((u, k + 1) :: (t, k + 1) :: ls)))) := by
  have h1 := in_joined hw
  have p := push_run (C := fr n l) (ρ := en cols t0 l many (some (.tup [S w, t, u])) (some (.int k)) z) (st := st) rfl (parts_bin (n := n) (l := l) (cols := cols) (t0 := t0) (many := many) (k := k) (w := w) (z := z)) hl (by simp [okSize, stk_len]; omega) (Nat.le_refl _)
  have e : stk ls ++ [.tup [t, .int (k + 1)], .tup [u, .int (k + 1)]] = stk ((u, k + 1) :: (t, k + 1) :: ls) := by simp [stk]
  rw [e] at p
  have c : exS (fr n l) (en cols t0 l many (some (.tup [S w, t, u])) (some (.int k)) z) w4 = exSs (fr n l) (en cols t0 l many (some (.tup [S w, t, u])) (some (.int k)) z) (.cons (.augl 2 (.newm (.comp [6] (.tup (.cons (.var 6) (.cons (.bin .Add (.var 5) (.const (.int 1))) .nil))) (.name 6) (.val (.slc (.var 4) (.is (.const (.int 1))) .no)) .no))) .nil) := by
    simp only [w4, exS, evE, evEs]
    simp [en, c_JOINED, cmpD, h1, idxD, ixAt, bltD]
  rw [c, sq p]
  rfl
/-- what is on the stack: how many parts -/
inductive Stk (cols : List D) : List (D × Int) → Nat → Prop
  | nil : Stk cols [] 0
  | cons {t : D} {k : Int} {ls : List (D × Int)} {d s m : Nat} (h : Test cols d s t) (h1 : 1 ≤ k) (h2 : k + d ≤ 5) (r : Stk cols ls m) : Stk cols ((t, k) :: ls) (s + m)
theorem Test.pos {cols : List D} {d s : Nat} {t : D} (h : Test cols d s t) : 1 ≤ d ∧ 1 ≤ s := by
  cases h with
  | leaf h => exact ⟨Nat.le_refl _, Nat.le_refl _⟩
  | not h => omega
  | bin hw h g => omega
theorem Stk.len {cols : List D} {ls : List (D × Int)} {m : Nat} (h : Stk cols ls m) : ls.length ≤ m := by
  induction h with
  | nil => exact Nat.le_refl _
  | cons h h1 h2 r ih =>
    have := h.pos
    rw [List.length_cons]
    omega
theorem Stk.lay {cols : List D} {ls : List (D × Int)} {m : Nat} (h : Stk cols ls m) : LayAll (stk ls) 10 := by
  refine LayAll.of fun x hx => ?_
  replace hx : ∃ p ∈ ls, x = .tup [p.1, .int p.2] := by
    simp only [stk, List.mem_reverse, List.mem_map] at hx
    obtain ⟨p, hp, e⟩ := hx
    exact ⟨p, hp, e.symm⟩
  obtain ⟨p, hp, rfl⟩ := hx
  induction h with
  | nil => cases hp
  | @cons t k ls d s m h h1 h2 r ih =>
    rcases List.mem_cons.mp hp with e | hp
    · subst e
      exact (LayAll.tup (.cons ((test_lay h).le (n := 8) (by have := h.pos; omega)) (.cons (.int _ _) (.nil _)))).le (by decide)
    · exact ih hp
theorem cond_run {n l : Nat} {cols : List D} {t0 : D} {many : Int} {x y z : Option D} {st : Store} {ls : List (D × Int)} {m : Nat} (hs : Stk cols ls m) (hl : st[l]? = some (.lst (stk ls))) :
    M.thn (evE (fr n l) (en cols t0 l many x y z) wc) asB st = .ok (!ls.isEmpty) st := by
  have e : eqD (.lst (stk ls)) (.lst []) = some (stk ls).isEmpty := eq_nil hs.lay (by decide)
  have e2 : (stk ls).isEmpty = ls.isEmpty := by cases ls <;> simp [stk]
  have h2 : (en cols t0 l many x y z)[2]? = some (some (.ref l)) := rfl
  simp only [wc, evE, g_some h2, s_ret, evN, evEs, s_assoc]
  have e3 : (if okSize ([] : List D).length = true then M.ret ([] : List D) else M.bad) = M.ret [] := by simp [okSize]
  rw [e3, s_ret, a_thn]
  have e4 : cmpD .NotEq (view st (.ref l)) (view st (.lst [])) = some (!ls.isEmpty) := by
    rw [view_lst hl, v_lst]
    simp only [cmpD, e, e2, Option.map_some]
  rw [e4]
  rfl
theorem fits_loop {n l : Nat} {cols : List D} {t0 : D} : ∀ (fu : Nat) (ls : List (D × Int)) (m : Nat) (many : Int) (x y z : Option D) (st : Store), Stk cols ls m → 0 ≤ many → m < fu → many + m ≤ 30 → st[l]? = some (.lst (stk ls)) →
    ∃ ρ' st', whlL (fun ρ => M.thn (evE (fr (n + 8) l) ρ wc) asB) (fun ρ => exSs (fr (n + 8) l) ρ wb) fu (en cols t0 l many x y z) st = .ok (.next ρ') st' ∧ st'.take l = st.take l ∧ l < st'.length
  | 0, _, _, _, _, _, _, _, _, _, h, _, _ => absurd h (Nat.not_lt_zero _)
  | fu + 1, ls, m, many, x, y, z, st, hs, h0, hm, hb, hl => by
    have hlt : l < st.length := (List.getElem?_eq_some_iff.mp hl).1
    rw [whlL, a_thn, cond_run hs hl]
    cases hs with
    | nil => exact ⟨_, st, rfl, rfl, hlt⟩
    | @cons t k ls d s m h h1 h2 r =>
      have hp := h.pos
      have e1 := pop_run (C := fr (n + 8) l) (ρ := en cols t0 l many x y z) rfl hl
      have hl1 : (st.set l (Cell.lst (stk ls)))[l]? = some (.lst (stk ls)) := List.getElem?_set_self hlt
      have tk : (st.set l (Cell.lst (stk ls))).take l = st.take l := List.take_set_of_le (Nat.le_refl _)
      have hlen := r.len
      have ls1000 : ls.length ≤ 1000 := by omega
      -- the rest of the body, then the loop again
      have go : ∀ (ls2 : List (D × Int)) (m2 : Nat) (st2 : Store), (∃ w rest, t = .tup (S w :: rest) ∧ (rest.length = 1 ∨ rest.length = 2)) → Stk cols ls2 m2 → m2 < fu → many + 1 + m2 ≤ 30 → st2[l]? = some (.lst (stk ls2)) → st2.take l = st.take l →
          exS (fr (n + 8) l) (en cols t0 l (many + 1) (some t) (some (.int k)) z) w4 (st.set l (Cell.lst (stk ls))) = M.ret (.next (en cols t0 l (many + 1) (some t) (some (.int k)) z)) st2 →
          ∃ ρ' st', (M.thn (fun st => exSs (fr (n + 8) l) (en cols t0 l many x y z) wb st) fun fl => match fl with
            | .next ρ => whlL (fun ρ => M.thn (evE (fr (n + 8) l) ρ wc) asB) (fun ρ => exSs (fr (n + 8) l) ρ wb) fu ρ
            | .ret d => M.ret (.ret d)
            | .brk ρ => M.ret (.next ρ)) st = .ok (.next ρ') st' ∧ st'.take l = st.take l ∧ l < st'.length := by
        rintro ls2 m2 st2 ⟨w, rest, et, hr⟩ hs2 hm2 hb2 hl2 htk r4
        subst et
        have r2 := run2 (n := n + 8) (l := l) (cols := cols) (t0 := t0) (many := many) (x := some (.tup (S w :: rest))) (y := some (.int k)) (z := z) (st := st.set l (Cell.lst (stk ls)))
        have r3 := run3 (n := n + 7) (l := l) (cols := cols) (t0 := t0) (many := many + 1) (k := k) (w := w) (rest := rest) (z := z) (st := st.set l (Cell.lst (stk ls))) (by omega) (by omega) hr
        have body : exSs (fr (n + 8) l) (en cols t0 l many x y z) wb st = .ok (.next (en cols t0 l (many + 1) (some (.tup (S w :: rest))) (some (.int k)) z)) st2 := by
          rw [wb, sq e1]
          rw [show ((en cols t0 l many x y z).set 4 (some (.tup (S w :: rest)))).set 5 (some (.int k)) = en cols t0 l many (some (.tup (S w :: rest))) (some (.int k)) z from rfl]
          rw [sq r2, sq r3, sq r4]
          rfl
        obtain ⟨ρ', st', g1, g2, g3⟩ := fits_loop fu ls2 m2 (many + 1) _ _ _ st2 hs2 (by omega) hm2 hb2 hl2
        refine ⟨ρ', st', ?_, g2.trans htk, g3⟩
        rw [a_thn, body]
        exact g1
      cases h with
      | leaf hf =>
        have sh : ∃ w rest, t = .tup (S w :: rest) ∧ (rest.length = 1 ∨ rest.length = 2) := by
          cases hf with
          | cmp hw hs a b => exact ⟨_, _, rfl, .inr rfl⟩
          | null a => exact ⟨_, _, rfl, .inl rfl⟩
          | isin hs a hv hl => exact ⟨_, _, rfl, .inr rfl⟩
        exact go ls m _ sh r (by omega) (by omega) hl1 tk (run4_leaf (n := n + 1) hf (by omega))
      | @not d s t h =>
        exact go ((t, k + 1) :: ls) (s + m) _ ⟨_, _, rfl, .inl rfl⟩ (.cons h (by omega) (by omega) r) (by omega) (by omega) (List.getElem?_set_self (by simp; omega)) (by
          rw [List.take_set_of_le (Nat.le_refl _), List.take_append_of_le_length (by simp; omega), tk]) (run4_not hl1 ls1000)
      | @bin d s e r2 w t u hw h g =>
        exact go ((u, k + 1) :: (t, k + 1) :: ls) (r2 + (s + m)) _ ⟨_, _, rfl, .inr rfl⟩ (.cons g (by omega) (by omega) (.cons h (by omega) (by omega) r)) (by omega) (by omega) (List.getElem?_set_self (by simp; omega)) (by
          rw [List.take_set_of_le (Nat.le_refl _), List.take_append_of_le_length (by simp; omega), tk]) (run4_bin hw hl1 ls1000)
theorem fits_test_ok {n : Nat} {cols : List D} {t : D} {d s : Nat} (h : Test cols d s t) (hd : d ≤ 4) (hs : s ≤ 30) : cl (n + 9) 13 [.tup cols, t] = M.ret (.bl true) := by
  funext st
  rw [cl_run (F := F_fits_test) rfl _ _ rfl]
  have h0 : exS (fr (n + 8) st.length) [some (.tup cols), some t, none, none, none, none, none] (.par [2, 3] (.cons (.newm (.lst (.cons (.tup (.cons (.var 1) (.cons (.const (.int 1)) .nil))) .nil))) (.cons (.const (.int 0)) .nil))) st =
      .ok (.next (en cols t st.length 0 none none none)) (st ++ [Cell.lst (stk [(t, 1)])]) := by
    have e1 : evN (fr (n + 8) st.length) [some (.tup cols), some t, none, none, none, none, none] (.lst (.cons (.tup (.cons (.var 1) (.cons (.const (.int 1)) .nil))) .nil)) = M.ret [.tup [t, .int 1]] := by simp [okSize]
    simp only [exS, evEs, evE, e1, s_ret, s_assoc]
    rfl
  obtain ⟨ρ', st', e, tk, lt⟩ := fits_loop (n := n) (l := st.length) (cols := cols) (t0 := t) fuel [(t, 1)] (s + 0) 0 none none none (st ++ [Cell.lst (stk [(t, 1)])]) (.cons h (by omega) (by omega) .nil) (by omega) (by show s + 0 < 100; omega) (by omega) (by simp)
  have e' : exS (fr (n + 8) st.length) (en cols t st.length 0 none none none) (.whl wc wb) (st ++ [Cell.lst (stk [(t, 1)])]) = .ok (.next ρ') st' := by
    rw [exS]; exact e
  have body : exSs (fr (n + 8) st.length) [some (.tup cols), some t, none, none, none, none, none] F_fits_test.body st = .ok (.ret (.bl true)) st' := by
    show exSs _ _ (.cons _ (.cons (.whl wc wb) (.cons (.ret (.const (.bl true))) .nil))) st = _
    rw [sq h0, sq e']
    rfl
  have body' : exSs ⟨fun g xs => cl (n + 8) g xs, st.length, fuel, T.exmF⟩ ([D.tup cols, t].map some ++ List.replicate (F_fits_test.slots.length - [D.tup cols, t].length) none) F_fits_test.body st = .ok (.ret (.bl true)) st' := body
  rw [body']
  show leave st.length (.bl true) st' = _
  unfold leave
  rw [if_neg (by omega), if_pos (show (D.bl true).plain = true by simp [D.plain]), tk]
  simp [M.ret]
end K22
set_option linter.all false
set_option maxRecDepth 100000
set_option maxHeartbeats 4000000
namespace K22
open Ev PySem
theorem rd {β : Type} {l : Nat} {xs : List D} {st : Store} {i : Nat} {v : D} {f : D → M β} (hl : st[l]? = some (.lst xs)) (hv : xs[i]? = some v) : M.thn (fun st => M.ofO (idxD (view st (.ref l)) (.int (i : Nat))) st) f st = f v st := by
  refine s_thnOk ?_
  have e : idxD (view st (.ref l)) (.int (i : Nat)) = some v := by
    rw [view_lst hl]
    simp [idxD, ixAt, hv]
  rw [e]
  rfl
theorem setIx_run {C : Cfg} {l : Nat} {xs : List D} {st : Store} {i : Nat} {z : Int} (hl : st[l]? = some (.lst xs)) (hi : i < xs.length) : setIx C (.ref l) (.int (i : Nat)) (.int z) st = .ok () (st.set l (.lst (xs.set i (.int z)))) := by
  have h : (0 : Int) ≤ (i : Int) ∧ (i : Int) < (xs.length : Int) := by omega
  simp [setIx, hl, setCell, D.plain, hi]
theorem rd0 {β : Type} {l : Nat} {v : D} {xs : List D} {st : Store} {f : D → M β} (hl : st[l]? = some (.lst (v :: xs))) : M.thn (fun st => M.ofO (idxD (view st (.ref l)) (.int 0)) st) f st = f v st := rd (i := 0) hl rfl
theorem rd1 {β : Type} {l : Nat} {u v : D} {xs : List D} {st : Store} {f : D → M β} (hl : st[l]? = some (.lst (u :: v :: xs))) : M.thn (fun st => M.ofO (idxD (view st (.ref l)) (.int 1)) st) f st = f v st := rd (i := 1) hl rfl
theorem wr0 {β : Type} {C : Cfg} {l : Nat} {u v : D} {st : Store} {z : Int} {f : Unit → M β} (hl : st[l]? = some (.lst [u, v])) : M.thn (setIx C (.ref l) (.int 0) (.int z)) f st = f () (st.set l (.lst [.int z, v])) := s_thnOk (setIx_run (i := 0) hl (by simp))
theorem wr1 {β : Type} {C : Cfg} {l : Nat} {u v : D} {st : Store} {z : Int} {f : Unit → M β} (hl : st[l]? = some (.lst [u, v])) : M.thn (setIx C (.ref l) (.int 1) (.int z)) f st = f () (st.set l (.lst [u, .int z])) := s_thnOk (setIx_run (i := 1) hl (by simp))
/-- the cup at l -/
def Cup (st : Store) (l : Nat) : Prop := ∃ a b : Int, st[l]? = some (.lst [.int a, .int b]) ∧ 0 ≤ a ∧ 0 ≤ b ∧ b < 1099511627776
theorem roll_ok {n l : Nat} {many : Int} {st : Store} (h : Cup st l) (hm : 0 < many ∧ many < 1073741824) : ∃ r a b : Int, cl (n + 1) 30 [.ref l, .int many] st = .ok (.int r) (st.set l (.lst [.int a, .int b])) ∧ 0 ≤ r ∧ r < many ∧ 0 ≤ a ∧ 0 ≤ b ∧ b < 1099511627776 := by
  obtain ⟨a, b, hl, ha, hb0, hb1⟩ := h
  have hlt : l < st.length := (List.getElem?_eq_some_iff.mp hl).1
  rw [cl_run (F := F__law_roll) rfl _ _ rfl]
  by_cases h0 : 0 < a
  · refine ⟨a % many, a / many, b, ?_, Int.emod_nonneg _ (by omega), Int.emod_lt_of_pos _ hm.1, Int.ediv_nonneg ha (by omega), hb0, hb1⟩
    simp only [F__law_roll, exSs, exS, evE, evEs, putT, s_ret, s_assoc]
    simp
    rw [rd0 hl]
    simp [cmpD, ltD, h0]
    rw [rd0 hl]
    simp [bltD, binD, hm.1]
    rw [rd0 hl]
    simp [binD, hm.1, hm.2]
    rw [wr0 hl]
    simp
    simp [leave]
  · have hl2 : ∀ z : Cell, (st.set l z)[l]? = some z := fun z => List.getElem?_set_self hlt
    refine ⟨((((b * 31147 + 8093) % 2147483249) * ((b * 31147 + 8093) % 2147483249 + 281)) % 2147483587 / 881) % many, a, (b * 31147 + 8093) % 2147483249, ?_, Int.emod_nonneg _ (by omega), Int.emod_lt_of_pos _ hm.1, ha, Int.emod_nonneg _ (by omega), by have := Int.emod_lt_of_pos (b * 31147 + 8093) (show (0 : Int) < 2147483249 by omega); omega⟩
    have c1 : (0 : Int) ≤ (b * 31147 + 8093) % 2147483249 := Int.emod_nonneg _ (by omega)
    have c2 : (b * 31147 + 8093) % 2147483249 < 2147483249 := Int.emod_lt_of_pos _ (by omega)
    have m1 : smallI 31147 = true := by decide
    have m2 : smallI ((b * 31147 + 8093) % 2147483249) = true := decide_eq_true (by omega)
    simp only [F__law_roll, exSs, exS, evE, evEs, putT, s_ret, s_assoc]
    simp
    rw [rd0 hl]
    simp [cmpD, ltD, h0]
    rw [rd1 hl]
    simp [bltD, binD, m1]
    rw [wr1 hl]
    rw [rd1 (hl2 _)]
    rw [rd1 (hl2 _)]
    simp [bltD, binD, m2, hm.1]
    simp [leave]
end K22
set_option linter.all false
set_option maxRecDepth 100000
set_option maxHeartbeats 4000000
namespace K22
open Ev PySem
/-- a draw: what it gives, the cup behind it, all else as it was -/
structure Drawn (l : Nat) (st st' : Store) : Prop where
  cup : Cup st' l
  same : ∃ c, st' = st.set l c
theorem Drawn.len {l : Nat} {st st' : Store} (h : Drawn l st st') : st'.length = st.length := by
  obtain ⟨c, e⟩ := h.same
  rw [e, List.length_set]
theorem Drawn.trans {l : Nat} {st st' st'' : Store} (h : Drawn l st st') (g : Drawn l st' st'') : Drawn l st st'' := by
  obtain ⟨c, e⟩ := h.same
  obtain ⟨d, e'⟩ := g.same
  exact ⟨g.cup, d, by rw [e', e, List.set_set]⟩
theorem roll_drawn {n l : Nat} {many : Int} {st : Store} (h : Cup st l) (hm : 0 < many ∧ many < 1073741824) : ∃ (r : Int) (st' : Store), cl (n + 1) 30 [.ref l, .int many] st = .ok (.int r) st' ∧ 0 ≤ r ∧ r < many ∧ Drawn l st st' := by
  obtain ⟨r, a, b, e, h1, h2, h3, h4, h5⟩ := roll_ok (n := n) h hm
  obtain ⟨_, _, hl, _⟩ := h
  have hlt : l < st.length := (List.getElem?_eq_some_iff.mp hl).1
  exact ⟨r, _, e, h1, h2, ⟨⟨a, b, List.getElem?_set_self hlt, h3, h4, h5⟩, _, rfl⟩⟩
theorem some_ok {n l : Nat} {xs : List D} {t : D} {st : Store} (h : Cup st l) (ht : t = .lst xs ∨ t = .tup xs) (hx : xs ≠ []) (hl : xs.length ≤ 1000) : ∃ d st', d ∈ xs ∧ cl (n + 2) 31 [.ref l, t] st = .ok d st' ∧ Drawn l st st' := by
  have hp : 0 < xs.length := List.length_pos_iff.mpr hx
  obtain ⟨r, st', e, h1, h2, dr⟩ := roll_drawn (n := n) h (many := xs.length) (by omega)
  have hr : r.toNat < xs.length := by omega
  refine ⟨xs[r.toNat], st', List.getElem_mem hr, ?_, dr⟩
  rw [cl_run (F := F__law_some) rfl _ _ rfl]
  have ix : ixAt xs r = some xs[r.toNat] := by simp [ixAt, h1, hr]
  rcases ht with rfl | rfl
  · simp [F__law_some, bltD]
    rw [s_thnOk e]
    simp [idxD, ix]
    simp [leave, dr.len, M.ret]
  · simp [F__law_some, bltD]
    rw [s_thnOk e]
    simp [idxD, ix]
    simp [leave, dr.len, M.ret]
end K22
set_option linter.all false
set_option maxRecDepth 100000
set_option maxHeartbeats 4000000
namespace K22
open Ev PySem
def Wp {α : Type} (l : Nat) (x : M α) (Q : α → Prop) (st : Store) : Prop := ∃ a st', x st = .ok a st' ∧ Drawn l st st' ∧ Q a
theorem Drawn.refl {l : Nat} {st : Store} (h : Cup st l) : Drawn l st st := by
  have h0 := h
  obtain ⟨a, b, hl, _⟩ := h
  obtain ⟨hi, e⟩ := List.getElem?_eq_some_iff.mp hl
  exact ⟨h0, st[l], by rw [List.set_getElem_self]⟩
theorem wp_ret {α : Type} {l : Nat} {a : α} {Q : α → Prop} {st : Store} (h : Cup st l) (q : Q a) : Wp l (M.ret a) Q st := ⟨a, st, rfl, .refl h, q⟩
theorem wp_thn {α β : Type} {l : Nat} {x : M α} {f : α → M β} {P : α → Prop} {Q : β → Prop} {st : Store} (h : Wp l x P st) (k : ∀ a st', Cup st' l → P a → Wp l (f a) Q st') : Wp l (M.thn x f) Q st := by
  obtain ⟨a, st', e, d, p⟩ := h
  obtain ⟨b, st'', e2, d2, q⟩ := k a st' d.cup p
  refine ⟨b, st'', ?_, d.trans d2, q⟩
  rw [a_thn, e]
  exact e2
theorem Wp.mono {α : Type} {l : Nat} {x : M α} {P Q : α → Prop} {st : Store} (h : Wp l x P st) (k : ∀ a, P a → Q a) : Wp l x Q st := let ⟨a, st', e, d, p⟩ := h; ⟨a, st', e, d, k a p⟩
theorem wp_some {n l : Nat} {xs : List D} {st : Store} (h : Cup st l) (hx : xs ≠ []) (hl : xs.length ≤ 1000) : Wp l (cl (n + 2) 31 [.ref l, .lst xs]) (fun d => d ∈ xs) st := by
  obtain ⟨d, st', hd, e, dr⟩ := some_ok (n := n) h (.inl rfl) hx hl
  exact ⟨d, st', e, dr, hd⟩
theorem wp_roll {n l : Nat} {many : Int} {st : Store} (h : Cup st l) (hm : 0 < many ∧ many < 1073741824) : Wp l (cl (n + 1) 30 [.ref l, .int many]) (fun d => ∃ r : Int, d = .int r ∧ 0 ≤ r ∧ r < many) st := by
  obtain ⟨r, st', e, h1, h2, dr⟩ := roll_drawn (n := n) h hm
  exact ⟨_, st', e, dr, r, rfl, h1, h2⟩
/-- a def whose store keeps its length -/
theorem wp_def {n f l : Nat} {F : Fn} {as : List D} {Q : D → Prop} {st : Store} (h : Pp.find f = some F) (hl : as.length = F.ps.length)
    (k : Wp l (exSs ⟨fun g xs => cl n g xs, st.length, fuel, T.exmF⟩ (as.map some ++ List.replicate (F.slots.length - as.length) none) F.body) (fun fl => ∃ d, fl = .ret d ∧ Q d) st) : Wp l (cl (n + 1) f as) Q st := by
  obtain ⟨fl, st', e, dr, d, rfl, q⟩ := k
  refine ⟨d, st', ?_, dr, q⟩
  rw [cl_run h _ _ hl, e]
  show leave st.length d st' = _
  simp [leave, dr.len]
abbrev intF : D := .tup [S "int", .bl false]
abbrev intT : D := .tup [S "int", .bl true]
abbrev wordT : D := .tup [S "word", .bl true]
abbrev cols0 (b : Bool) : List D := [intF, wordT, .tup [S "int", .bl b]]
abbrev cols1 : List D := [intF, intT, intT]
abbrev rules0 : List D := [.tup [], .tup [.tup [S "unique", .int 1]], .tup [.tup [S "check", .tup [S "less", .tup [S "value", .int (-9)], .tup [S "col", .int 0, .int 2]]]]]
abbrev rules1 : List D := [.tup [], .tup [.tup [S "refer", .int 1, .int 0]], .tup [.tup [S "refer", .int 1, .int 0], .tup [S "unique", .int 2]]]
/-- the schemas that are drawn -/
def Schema (d : D) : Prop := ∃ b r0 r1, r0 ∈ rules0 ∧ r1 ∈ rules1 ∧ d = .tup [.tup [.tup (cols0 b), r0], .tup [.tup cols1, r1]]
theorem wp_schema {n l : Nat} {st : Store} (h : Cup st l) : Wp l (cl (n + 3) 32 [.ref l]) Schema st := by
  refine wp_def (F := F__law_schema) rfl rfl ?_
  simp [F__law_schema, okSize]
  refine wp_thn (wp_some h (by simp) (by simp)) fun d st1 h1 hd => ?_
  try simp [okSize]
  refine wp_thn (wp_some h1 (by simp) (by simp)) fun r0 st2 h2 hr0 => ?_
  try simp [okSize]
  refine wp_thn (wp_some h2 (by simp) (by simp)) fun r1 st3 h3 hr1 => ?_
  try simp [okSize]
  refine wp_ret h3 ⟨_, rfl, ?_⟩
  have hb : ∃ b, d = .bl b := by
    rcases List.mem_cons.mp hd with e | hd
    · exact ⟨_, e⟩
    · exact ⟨_, List.mem_singleton.mp hd⟩
  obtain ⟨b, rfl⟩ := hb
  exact ⟨b, r0, r1, hr0, hr1, rfl⟩
end K22
set_option linter.all false
set_option maxRecDepth 100000
set_option maxHeartbeats 4000000
namespace K22
open Ev PySem
abbrev schemaD (b : Bool) (r0 r1 : D) : D := .tup [.tup [.tup (cols0 b), r0], .tup [.tup cols1, r1]]
theorem wp_seq {C : Cfg} {ρ : Ev.Env} {s : Ev.S} {ss : Ss} {l : Nat} {P Q : Ev.Flow → Prop} {st : Store} (h : Wp l (exS C ρ s) P st) (k : ∀ fl st', Cup st' l → P fl → Wp l (flowK (fun ρ => exSs C ρ ss) fl) Q st') : Wp l (exSs C ρ (.cons s ss)) Q st := by
  rw [show exSs C ρ (.cons s ss) = M.thn (exS C ρ s) (flowK fun ρ => exSs C ρ ss) from congrFun (cons_eq C s ss) ρ]
  exact wp_thn h k
end K22
set_option linter.all false
set_option maxRecDepth 100000
set_option maxHeartbeats 4000000
namespace K22
open Ev PySem
/-- scalars of a sort -/
def Sc (s : String) (v : D) : Prop := v = .non ∨ (s = "int" ∧ ∃ i, v = .int i) ∨ (s = "word" ∧ ∃ z, v = .str z)
theorem Sc.two {s : String} {x y : D} (hx : Sc s x) (hy : Sc s y) : x = .non ∨ y = .non ∨ (∃ i j, x = .int i ∧ y = .int j) ∨ ∃ i j, x = .str i ∧ y = .str j := by
  rcases hx with rfl | ⟨rfl, i, rfl⟩ | ⟨rfl, z, rfl⟩
  · exact .inl rfl
  · rcases hy with rfl | ⟨_, j, rfl⟩ | ⟨e, _⟩
    · exact .inr (.inl rfl)
    · exact .inr (.inr (.inl ⟨i, j, rfl, rfl⟩))
    · exact absurd e (by decide)
  · rcases hy with rfl | ⟨e, _⟩ | ⟨_, j, rfl⟩
    · exact .inr (.inl rfl)
    · exact absurd e (by decide)
    · exact .inr (.inr (.inr ⟨z, j, rfl, rfl⟩))
theorem Sc.one {s : String} {x : D} (hx : Sc s x) : x = .non ∨ (∃ i, x = .int i) ∨ ∃ z, x = .str z := by
  rcases hx with rfl | ⟨rfl, i, rfl⟩ | ⟨rfl, z, rfl⟩
  · exact .inl rfl
  · exact .inr (.inl ⟨i, rfl⟩)
  · exact .inr (.inr ⟨z, rfl⟩)
/-- rows over columns -/
def Rd (rows cols : List D) : Prop := ∀ (a c : Nat) (ys : List D) (s : String) (d : D), cols[a]? = some (.tup ys) → ys[c]? = some (.tup [S s, d]) → ∃ cells v, rows[a]? = some (.tup cells) ∧ cells[c]? = some v ∧ Sc s v
theorem val_sc {s : String} {v : D} (h : Val s v) : Sc s v := by
  cases h with
  | non => exact .inl rfl
  | int i h => exact .inr (.inl ⟨rfl, i, rfl⟩)
  | _ => exact .inr (.inr ⟨rfl, _, rfl⟩)
/-- the three truths -/
inductive Tri where
  | f | u | t
def tv : Tri → D
  | .f => .bl false | .u => .non | .t => .bl true
def ti : Tri → Int
  | .f => 0 | .u => 1 | .t => 2
def Tri.neg : Tri → Tri
  | .f => .t | .u => .u | .t => .f
def Tri.min : Tri → Tri → Tri
  | .f, _ => .f | _, .f => .f | .u, _ => .u | _, .u => .u | .t, .t => .t
def Tri.max : Tri → Tri → Tri
  | .t, _ => .t | _, .t => .t | .u, _ => .u | _, .u => .u | .f, .f => .f
theorem turned_ok (k : Tri) (n : Nat) : cl (n + 1) 57 [tv k] = M.ret (tv k.neg) := by
  funext st
  rw [cl_run (F := F_turned) rfl _ _ rfl]
  cases k <;> simp [F_turned, tv, Tri.neg, cmpD, isNon]
theorem both_ok (j k : Tri) (n : Nat) : cl (n + 1) 58 [tv j, tv k] = M.ret (tv (j.min k)) := by
  funext st
  rw [cl_run (F := F_both_of) rfl _ _ rfl]
  cases j <;> cases k <;> simp [F_both_of, tv, Tri.min, cmpD, isNon]
theorem either_ok (j k : Tri) (n : Nat) : cl (n + 2) 59 [tv j, tv k] = M.ret (tv (j.max k)) := by
  have h1 := turned_ok j n
  have h2 := turned_ok k n
  have h3 := both_ok j.neg k.neg n
  have h4 := turned_ok (j.neg.min k.neg) n
  have e : (j.neg.min k.neg).neg = j.max k := by cases j <;> cases k <;> rfl
  rw [e] at h4
  funext st
  rw [cl_run (F := F_either_of) rfl _ _ rfl]
  simp [F_either_of, h1, h2, h3, h4]
theorem mm_min (j k : Tri) : mm2 false (ti j) (ti k) = ti (j.min k) := by cases j <;> cases k <;> rfl
theorem mm_max (j k : Tri) : mm2 true (ti j) (ti k) = ti (j.max k) := by cases j <;> cases k <;> rfl
theorem ti_neg (k : Tri) : 2 - ti k = ti k.neg := by cases k <;> rfl
/-- equal or not, or unknown -/
def sm : D → D → Tri
  | .int i, .int j => if i = j then .t else .f
  | .str i, .str j => if i = j then .t else .f
  | _, _ => .u
theorem same_ok {s : String} {x y : D} (hx : Sc s x) (hy : Sc s y) (n : Nat) : cl (n + 1) 60 [x, y] = M.ret (tv (sm x y)) := by
  funext st
  rw [cl_run (F := F_same_of) rfl _ _ rfl]
  rcases hx.two hy with rfl | rfl | ⟨i, j, rfl, rfl⟩ | ⟨i, j, rfl, rfl⟩
  · rcases hy.one with rfl | ⟨j, rfl⟩ | ⟨j, rfl⟩ <;> simp [F_same_of, sm, tv, cmpD, isNon]
  · rcases hx.one with rfl | ⟨j, rfl⟩ | ⟨j, rfl⟩ <;> simp [F_same_of, sm, tv, cmpD, isNon]
  · by_cases h : i = j <;> simp [F_same_of, sm, tv, cmpD, isNon, eqD, h]
  · by_cases h : i = j <;> simp [F_same_of, sm, tv, cmpD, isNon, eqD, h]
theorem worth1 {cols rows : List D} {s : String} {o : D} (h : Op1 cols s o) (hr : Rd rows cols) : ∃ v, Sc s v ∧ ∀ n, cl (n + 1) 56 [.tup rows, o] = M.ret v ∧ cl (n + 1) 65 [.tup rows, o] = M.ret v := by
  cases h with
  | @value v h =>
    refine ⟨v, val_sc h, fun n => ⟨?_, ?_⟩⟩
    · funext st
      rw [cl_run (F := F_worth_of) rfl _ _ rfl]
      simp [F_worth_of, cmpD, idxD, ixAt]
    · funext st
      rw [cl_run (F := F__law_worth) rfl _ _ rfl]
      simp [F__law_worth, cmpD, idxD, ixAt]
  | @col a c ys b hx hy =>
    obtain ⟨cells, v, h1, h2, h3⟩ := hr a c ys s b hx hy
    refine ⟨v, h3, fun n => ⟨?_, ?_⟩⟩
    · funext st
      rw [cl_run (F := F_worth_of) rfl _ _ rfl]
      simp [F_worth_of, cmpD, idxD, ixAt, h1, h2]
    · funext st
      rw [cl_run (F := F__law_worth) rfl _ _ rfl]
      simp [F__law_worth, cmpD, idxD, ixAt, h1, h2]
theorem worth {cols rows : List D} {s : String} {o : D} (h : Op cols s o) (hr : Rd rows cols) : ∃ v, Sc s v ∧ ∀ n, cl (n + 2) 56 [.tup rows, o] = M.ret v ∧ cl (n + 2) 65 [.tup rows, o] = M.ret v := by
  cases h with
  | one h =>
    obtain ⟨v, h1, h2⟩ := worth1 h hr
    exact ⟨v, h1, fun n => h2 (n + 1)⟩
  | @plus o v h hv =>
    obtain ⟨x, h1, h2⟩ := worth1 h hr
    obtain ⟨y, h3, h4⟩ := worth1 (cols := cols) (.value hv) hr
    rcases h1.two h3 with rfl | rfl | ⟨i, j, rfl, rfl⟩ | ⟨i, j, rfl, rfl⟩
    · refine ⟨.non, .inl rfl, fun n => ?_⟩
      obtain ⟨a1, b1⟩ := h2 n
      obtain ⟨a2, b2⟩ := h4 n
      constructor
      · funext st
        rw [cl_run (F := F_worth_of) rfl _ _ rfl]
        simp [F_worth_of, cmpD, idxD, ixAt, a1, a2, isNon, setMany]
      · funext st
        rw [cl_run (F := F__law_worth) rfl _ _ rfl]
        simp [F__law_worth, cmpD, idxD, ixAt, b1, b2, isNon, setMany]
    · refine ⟨.non, .inl rfl, fun n => ?_⟩
      obtain ⟨a1, b1⟩ := h2 n
      obtain ⟨a2, b2⟩ := h4 n
      constructor
      · funext st
        rw [cl_run (F := F_worth_of) rfl _ _ rfl]
        rcases h1.one with rfl | ⟨j, rfl⟩ | ⟨j, rfl⟩ <;> simp [F_worth_of, cmpD, idxD, ixAt, a1, a2, isNon, setMany]
      · funext st
        rw [cl_run (F := F__law_worth) rfl _ _ rfl]
        rcases h1.one with rfl | ⟨j, rfl⟩ | ⟨j, rfl⟩ <;> simp [F__law_worth, cmpD, idxD, ixAt, b1, b2, isNon, setMany]
    · refine ⟨.int (i + j), .inr (.inl ⟨rfl, _, rfl⟩), fun n => ?_⟩
      obtain ⟨a1, b1⟩ := h2 n
      obtain ⟨a2, b2⟩ := h4 n
      constructor
      · funext st
        rw [cl_run (F := F_worth_of) rfl _ _ rfl]
        simp [F_worth_of, cmpD, idxD, ixAt, a1, a2, isNon, binD, setMany]
      · funext st
        rw [cl_run (F := F__law_worth) rfl _ _ rfl]
        simp [F__law_worth, cmpD, idxD, ixAt, b1, b2, isNon, binD, setMany]
    · rcases h1 with e | ⟨_, _, e⟩ | ⟨e, _⟩
      · cases e
      · cases e
      · exact absurd e (by decide)
end K22
set_option linter.all false
set_option maxRecDepth 100000
set_option maxHeartbeats 4000000
namespace K22
open Ev PySem
/-- less, no more; or unknown -/
def ls : D → D → Tri
  | .int i, .int j => if i < j then .t else .f
  | .str i, .str j => if i.cps.toList < j.cps.toList then .t else .f
  | _, _ => .u
def ms : D → D → Tri
  | .int i, .int j => if i ≤ j then .t else .f
  | .str i, .str j => if j.cps.toList < i.cps.toList then .f else .t
  | _, _ => .u
/-- one of the values -/
def fo (x : D) : List D → Tri → Tri
  | [], k => k
  | v :: vs, k => fo x vs (k.max (sm x v))
theorem maxI_fo (x : D) : ∀ (vs : List D) (k : Tri), maxI (ti k) (vs.map fun v => ti (sm x v)) = ti (fo x vs k)
  | [], k => rfl
  | v :: vs, k => by
    have e := mm_max k (sm x v)
    rw [List.map_cons]
    show maxI (if ti (sm x v) > ti k then ti (sm x v) else ti k) _ = _
    have e2 : (if ti (sm x v) > ti k then ti (sm x v) else ti k) = ti (k.max (sm x v)) := e
    rw [e2]
    exact maxI_fo x vs _
theorem allI_map (f : D → Int) : ∀ vs : List D, allI (vs.map fun v => D.int (f v)) = some (vs.map f)
  | [] => rfl
  | v :: vs => by
    rw [List.map_cons, List.map_cons]
    show (allI (vs.map fun v => D.int (f v))).map (f v :: ·) = _
    rw [allI_map f vs]; rfl
/-- the loop of truth_of over the values -/
theorem in_loop {n l : Nat} {s : String} {x : D} {r0 t0 w y : Option D} (hx : Sc s x) : ∀ (vs : List D) (k : Tri) (z : Option D), (∀ v ∈ vs, Sc s v) →
    ∃ z', forL (fun v ρ => match setTg (.name 6) v ρ with
      | some ρ => exSs (fr (n + 2) l) ρ (.cons (.asg (.name 5) (.call 59 (.cons (.var 5) (.cons (.call 60 (.cons (.var 3) (.cons (.var 6) .nil))) .nil)))) .nil)
      | none => M.bad) vs [r0, t0, w, some x, y, some (tv k), z] = M.ret (.next [r0, t0, w, some x, y, some (tv (fo x vs k)), z'])
  | [], k, z, _ => ⟨z, rfl⟩
  | v :: vs, k, z, h => by
    have h1 := same_ok hx (h v List.mem_cons_self) (n + 1)
    have h2 := either_ok k (sm x v) n
    obtain ⟨z', ih⟩ := in_loop (n := n) (l := l) (r0 := r0) (t0 := t0) (w := w) (y := y) hx vs (k.max (sm x v)) (some v) fun u hu => h u (List.mem_cons_of_mem _ hu)
    refine ⟨z', ?_⟩
    rw [forL]
    have e : (match setTg (.name 6) v [r0, t0, w, some x, y, some (tv k), z] with
      | some ρ => exSs (fr (n + 2) l) ρ (.cons (.asg (.name 5) (.call 59 (.cons (.var 5) (.cons (.call 60 (.cons (.var 3) (.cons (.var 6) .nil))) .nil)))) .nil)
      | none => M.bad) = M.ret (.next [r0, t0, w, some x, y, some (tv (k.max (sm x v))), some v]) := by
      simp [h1, h2]
    rw [e, s_ret]
    exact ih
theorem in_comp {C : Cfg} {s : String} {x : D} {r0 t0 w y : Option D} (hx : Sc s x) : ∀ (vs : List D) , (∀ v ∈ vs, Sc s v) →
    loopC (fun v => match setTg (.name 5) v [r0, t0, w, some x, y, none] with
      | some σ => M.thn (evC C σ .no) fun k => if k then M.thn (evE C σ (.ite (.or (.cmp .Is (.var 3) (.const .non)) (.cmp .Is (.var 5) (.const .non))) (.const (.int 1)) (.ite (.cmp .Eq (.var 3) (.var 5)) (.const (.int 2)) (.const (.int 0))))) fun y => M.ret [y] else M.ret []
      | none => M.bad) vs = M.ret (vs.map fun v => D.int (ti (sm x v)))
  | [], _ => rfl
  | v :: vs, h => by
    have ih := in_comp (C := C) (r0 := r0) (t0 := t0) (w := w) (y := y) hx vs fun u hu => h u (List.mem_cons_of_mem _ hu)
    rw [loopC, ih, List.map_cons]
    have hv := h v List.mem_cons_self
    rcases hx.two hv with rfl | rfl | ⟨i, j, rfl, rfl⟩ | ⟨i, j, rfl, rfl⟩
    · rcases hv.one with rfl | ⟨j, rfl⟩ | ⟨j, rfl⟩ <;> simp [sm, ti, cmpD, isNon]
    · rcases hx.one with rfl | ⟨j, rfl⟩ | ⟨j, rfl⟩ <;> simp [sm, ti, cmpD, isNon]
    · by_cases e : i = j <;> simp [sm, ti, cmpD, isNon, eqD, e]
    · by_cases e : i = j <;> simp [sm, ti, cmpD, isNon, eqD, e]
end K22
set_option linter.all false
set_option maxRecDepth 100000
set_option maxHeartbeats 4000000
namespace K22
open Ev PySem
theorem Sc.view {s : String} {x : D} (hx : Sc s x) (st : Store) : view st x = x := by
  rcases hx.one with rfl | ⟨k, rfl⟩ | ⟨k, rfl⟩ <;> rfl
theorem lt_two {s : String} {x y : D} (hx : Sc s x) (hy : Sc s y) (h1 : isNon x = false) (h2 : isNon y = false) : ∃ b, ltD x y = some b ∧ ls x y = if b then .t else .f := by
  rcases hx.two hy with rfl | rfl | ⟨i, k, rfl, rfl⟩ | ⟨i, k, rfl, rfl⟩
  · cases h1
  · cases h2
  · exact ⟨decide (i < k), rfl, by by_cases e : i < k <;> simp [ls, e]⟩
  · exact ⟨decide (i.cps.toList < k.cps.toList), rfl, by
      rw [ls]
      by_cases e : i.cps.toList < k.cps.toList
      · rw [if_pos e, decide_eq_true e]; rfl
      · rw [if_neg e, decide_eq_false e]; rfl⟩
theorem le_two {s : String} {x y : D} (hx : Sc s x) (hy : Sc s y) (h1 : isNon x = false) (h2 : isNon y = false) : ∃ b, leD x y = some b ∧ ms x y = if b then .t else .f := by
  rcases hx.two hy with rfl | rfl | ⟨i, k, rfl, rfl⟩ | ⟨i, k, rfl, rfl⟩
  · cases h1
  · cases h2
  · exact ⟨decide (i ≤ k), rfl, by by_cases e : i ≤ k <;> simp [ms, e]⟩
  · exact ⟨!decide (k.cps.toList < i.cps.toList), rfl, by
      rw [ms]
      by_cases e : k.cps.toList < i.cps.toList
      · rw [if_pos e, decide_eq_true e]; rfl
      · rw [if_neg e, decide_eq_false e]; rfl⟩
theorem eq_two {s : String} {x y : D} (hx : Sc s x) (hy : Sc s y) (h1 : isNon x = false) (h2 : isNon y = false) : ∃ b, eqD x y = some b ∧ sm x y = if b then .t else .f := by
  rcases hx.two hy with rfl | rfl | ⟨i, k, rfl, rfl⟩ | ⟨i, k, rfl, rfl⟩
  · cases h1
  · cases h2
  · exact ⟨decide (i = k), rfl, by by_cases e : i = k <;> simp [sm, e]⟩
  · exact ⟨decide (i = k), rfl, by by_cases e : i = k <;> simp [sm, e]⟩
theorem non_l {f : D → D → Tri} (hf : f = sm ∨ f = ls ∨ f = ms) {x y : D} (h : isNon x = true) : f x y = .u := by
  cases x with
  | non => rcases hf with rfl | rfl | rfl <;> rfl
  | _ => cases h
theorem non_r {f : D → D → Tri} (hf : f = sm ∨ f = ls ∨ f = ms) {x y : D} (h : isNon y = true) : f x y = .u := by
  cases y with
  | non => rcases hf with rfl | rfl | rfl <;> cases x <;> rfl
  | _ => cases h
theorem is_non (x : D) : cmpD .Is x .non = some (isNon x) := by simp [cmpD]
theorem c_lt (x y : D) : cmpD .Lt x y = ltD x y := rfl
theorem c_le (x y : D) : cmpD .LtE x y = leD x y := rfl
theorem c_eq (x y : D) : cmpD .Eq x y = eqD x y := rfl
theorem c_in (x : D) (ys : List D) : cmpD .In x (.tup ys) = inL x ys := rfl
theorem eq_str (a b : String) : cmpD .Eq (S a) (S b) = some (decide (a = b)) := by
  rw [c_eq]
  simp [eqD]
end K22
set_option linter.all false
set_option maxRecDepth 100000
set_option maxHeartbeats 4000000
namespace K22
open Ev PySem
theorem null_a {cols rows : List D} {s : String} {x o : D} (hx : Sc s x) (n : Nat) (a1 : cl (n + 3) 56 [.tup rows, o] = M.ret x) : cl (n + 4) 61 [.tup rows, .tup [S "null", o]] = M.ret (tv (if isNon x then .t else .f)) := by
  have vx := hx.view
  have j := nin_joined (w := "null") (by simp)
  have i1 := is_non x
  have ej := c_in (S "null") [S "and", S "or"]
  funext st
  rw [cl_run (F := F_truth_of) rfl _ _ rfl]
  simp [F_truth_of, c_JOINED, ej, eq_str, idxD, ixAt, j, a1, vx, i1]
  cases h1 : isNon x <;> simp [tv]
theorem null_b {cols rows : List D} {s : String} {x o : D} (hx : Sc s x) (n : Nat) (a1 : cl (n + 3) 65 [.tup rows, o] = M.ret x) : cl (n + 4) 66 [.tup rows, .tup [S "null", o]] = M.ret (.int (ti (if isNon x then .t else .f))) := by
  have vx := hx.view
  have i1 := is_non x
  funext st
  rw [cl_run (F := F__law_truth) rfl _ _ rfl]
  simp [F__law_truth, eq_str, idxD, ixAt, a1, vx, i1]
  cases h1 : isNon x <;> simp [ti]
theorem in_a {cols rows : List D} {s : String} {x o : D} {vs : List D} (hx : Sc s x) (hv : ∀ v ∈ vs, Sc s v) (n : Nat) (a1 : cl (n + 3) 56 [.tup rows, o] = M.ret x) : cl (n + 4) 61 [.tup rows, .tup [S "in", o, .tup vs]] = M.ret (tv (fo x vs .f)) := by
  have vx := hx.view
  have j := nin_joined (w := "in") (by simp)
  have i1 := is_non x
  have ej := c_in (S "in") [S "and", S "or"]
  funext st
  rw [cl_run (F := F_truth_of) rfl _ _ rfl]
  obtain ⟨z', e⟩ := in_loop (n := n + 1) (l := st.length) (r0 := some (.tup rows)) (t0 := some (.tup [S "in", o, .tup vs])) (w := some (S "in")) (y := none) hx vs .f none hv
  rw [show tv .f = D.bl false from rfl] at e
  simp [F_truth_of, c_JOINED, ej, eq_str, idxD, ixAt, j, a1, vx, i1, walkD]
  simp at e
  rw [e]
  simp
theorem in_b {cols rows : List D} {s : String} {x o : D} {vs : List D} (hx : Sc s x) (hv : ∀ v ∈ vs, Sc s v) (hl : vs.length ≤ 6) (n : Nat) (a1 : cl (n + 3) 65 [.tup rows, o] = M.ret x) : cl (n + 4) 66 [.tup rows, .tup [S "in", o, .tup vs]] = M.ret (.int (ti (fo x vs .f))) := by
  have vx := hx.view
  have i1 := is_non x
  have hz : okSize vs.length = true := by simp [okSize]; omega
  have hz2 : okSize (1 + vs.length) = true := by simp [okSize]; omega
  have hm := allI_map (fun v => ti (sm x v)) vs
  have hm2 : maxI 0 (vs.map fun v => ti (sm x v)) = ti (fo x vs .f) := maxI_fo x vs .f
  have hz1 : okSize 1 = true := by simp [okSize]
  have hb : binD .Add (.lst [.int 0]) (.lst (vs.map fun v => D.int (ti (sm x v)))) = some (.lst (.int 0 :: vs.map fun v => D.int (ti (sm x v)))) := by
    rw [Nat.add_comm] at hz2
    simp [binD, Nat.add_comm, hz2]
  have hc : bltD .max (.lst (.int 0 :: vs.map fun v => D.int (ti (sm x v)))) = some (.int (ti (fo x vs .f))) := by
    simp [bltD, allI, hm, hm2]
  funext st
  rw [cl_run (F := F__law_truth) rfl _ _ rfl]
  have e := in_comp (C := fr (n + 3) st.length) (r0 := some (.tup rows)) (t0 := some (.tup [S "in", o, .tup vs])) (w := some (S "in")) (y := none) hx vs hv
  simp [F__law_truth, eq_str, idxD, ixAt, a1, vx, i1, walkD, wipeE]
  simp [vx, i1] at e
  rw [e]
  simp [hz, hz1, hb, hc]
end K22
set_option linter.all false
set_option maxRecDepth 100000
set_option maxHeartbeats 4000000
namespace K22
open Ev PySem
theorem same_a {cols rows : List D} {s : String} {x y o p : D} (hx : Sc s x) (hy : Sc s y) (n : Nat) (a1 : cl (n + 3) 56 [.tup rows, o] = M.ret x) (a2 : cl (n + 3) 56 [.tup rows, p] = M.ret y) :
    cl (n + 4) 61 [.tup rows, .tup [S "same", o, p]] = M.ret (tv (sm x y)) := by
  have vx := hx.view
  have vy := hy.view
  have a3 : cl (n + 3) 60 [x, y] = M.ret (tv (sm x y)) := same_ok hx hy (n + 2)
  have j := nin_joined (w := "same") (by simp)
  have i1 := is_non x
  have i2 := is_non y
  have e1 := c_lt x y
  have e2 := c_le x y
  have e3 := c_eq x y
  have ej := c_in (S "same") [S "and", S "or"]
  funext st
  rw [cl_run (F := F_truth_of) rfl _ _ rfl]
  simp [F_truth_of, c_JOINED, ej, eq_str, idxD, ixAt, j, a1, a2, a3, vx, vy, i1, i2, e1, e2, e3]
end K22
set_option linter.all false
set_option maxRecDepth 100000
set_option maxHeartbeats 4000000
namespace K22
open Ev PySem
theorem same_b {cols rows : List D} {s : String} {x y o p : D} (hx : Sc s x) (hy : Sc s y) (n : Nat) (a1 : cl (n + 3) 65 [.tup rows, o] = M.ret x) (a2 : cl (n + 3) 65 [.tup rows, p] = M.ret y) :
    cl (n + 4) 66 [.tup rows, .tup [S "same", o, p]] = M.ret (.int (ti (sm x y))) := by
  have vx := hx.view
  have vy := hy.view
  have a3 : cl (n + 3) 60 [x, y] = M.ret (tv (sm x y)) := same_ok hx hy (n + 2)
  have j := nin_joined (w := "same") (by simp)
  have i1 := is_non x
  have i2 := is_non y
  have e1 := c_lt x y
  have e2 := c_le x y
  have e3 := c_eq x y
  have ej := c_in (S "same") [S "and", S "or"]
  funext st
  rw [cl_run (F := F__law_truth) rfl _ _ rfl]
  simp [F__law_truth, c_JOINED, ej, eq_str, idxD, ixAt, j, a1, a2, a3, vx, vy, i1, i2, e1, e2, e3]
  cases h1 : isNon x with
  | true => rw [non_l (f := sm) (by simp) h1]; simp [tv, ti]
  | false =>
    cases h2 : isNon y with
    | true => rw [non_r (f := sm) (by simp) h2]; simp [tv, ti]
    | false =>
      obtain ⟨b, e4, e5⟩ := eq_two hx hy h1 h2
      rw [e4, e5]
      cases b <;> simp [tv, ti]
end K22
set_option linter.all false
set_option maxRecDepth 100000
set_option maxHeartbeats 4000000
namespace K22
open Ev PySem
theorem less_a {cols rows : List D} {s : String} {x y o p : D} (hx : Sc s x) (hy : Sc s y) (n : Nat) (a1 : cl (n + 3) 56 [.tup rows, o] = M.ret x) (a2 : cl (n + 3) 56 [.tup rows, p] = M.ret y) :
    cl (n + 4) 61 [.tup rows, .tup [S "less", o, p]] = M.ret (tv (ls x y)) := by
  have vx := hx.view
  have vy := hy.view
  have a3 : cl (n + 3) 60 [x, y] = M.ret (tv (sm x y)) := same_ok hx hy (n + 2)
  have j := nin_joined (w := "less") (by simp)
  have i1 := is_non x
  have i2 := is_non y
  have e1 := c_lt x y
  have e2 := c_le x y
  have e3 := c_eq x y
  have ej := c_in (S "less") [S "and", S "or"]
  funext st
  rw [cl_run (F := F_truth_of) rfl _ _ rfl]
  simp [F_truth_of, c_JOINED, ej, eq_str, idxD, ixAt, j, a1, a2, a3, vx, vy, i1, i2, e1, e2, e3]
  cases h1 : isNon x with
  | true => rw [non_l (f := ls) (by simp) h1]; simp [tv, ti]
  | false =>
    cases h2 : isNon y with
    | true => rw [non_r (f := ls) (by simp) h2]; simp [tv, ti]
    | false =>
      obtain ⟨b, e4, e5⟩ := lt_two hx hy h1 h2
      rw [e4, e5]
      cases b <;> simp [tv, ti]
end K22
set_option linter.all false
set_option maxRecDepth 100000
set_option maxHeartbeats 4000000
namespace K22
open Ev PySem
theorem less_b {cols rows : List D} {s : String} {x y o p : D} (hx : Sc s x) (hy : Sc s y) (n : Nat) (a1 : cl (n + 3) 65 [.tup rows, o] = M.ret x) (a2 : cl (n + 3) 65 [.tup rows, p] = M.ret y) :
    cl (n + 4) 66 [.tup rows, .tup [S "less", o, p]] = M.ret (.int (ti (ls x y))) := by
  have vx := hx.view
  have vy := hy.view
  have a3 : cl (n + 3) 60 [x, y] = M.ret (tv (sm x y)) := same_ok hx hy (n + 2)
  have j := nin_joined (w := "less") (by simp)
  have i1 := is_non x
  have i2 := is_non y
  have e1 := c_lt x y
  have e2 := c_le x y
  have e3 := c_eq x y
  have ej := c_in (S "less") [S "and", S "or"]
  funext st
  rw [cl_run (F := F__law_truth) rfl _ _ rfl]
  simp [F__law_truth, c_JOINED, ej, eq_str, idxD, ixAt, j, a1, a2, a3, vx, vy, i1, i2, e1, e2, e3]
  cases h1 : isNon x with
  | true => rw [non_l (f := ls) (by simp) h1]; simp [tv, ti]
  | false =>
    cases h2 : isNon y with
    | true => rw [non_r (f := ls) (by simp) h2]; simp [tv, ti]
    | false =>
      obtain ⟨b, e4, e5⟩ := lt_two hx hy h1 h2
      rw [e4, e5]
      cases b <;> simp [tv, ti]
end K22
set_option linter.all false
set_option maxRecDepth 100000
set_option maxHeartbeats 4000000
namespace K22
open Ev PySem
theorem most_a {cols rows : List D} {s : String} {x y o p : D} (hx : Sc s x) (hy : Sc s y) (n : Nat) (a1 : cl (n + 3) 56 [.tup rows, o] = M.ret x) (a2 : cl (n + 3) 56 [.tup rows, p] = M.ret y) :
    cl (n + 4) 61 [.tup rows, .tup [S "most", o, p]] = M.ret (tv (ms x y)) := by
  have vx := hx.view
  have vy := hy.view
  have a3 : cl (n + 3) 60 [x, y] = M.ret (tv (sm x y)) := same_ok hx hy (n + 2)
  have j := nin_joined (w := "most") (by simp)
  have i1 := is_non x
  have i2 := is_non y
  have e1 := c_lt x y
  have e2 := c_le x y
  have e3 := c_eq x y
  have ej := c_in (S "most") [S "and", S "or"]
  funext st
  rw [cl_run (F := F_truth_of) rfl _ _ rfl]
  simp [F_truth_of, c_JOINED, ej, eq_str, idxD, ixAt, j, a1, a2, a3, vx, vy, i1, i2, e1, e2, e3]
  cases h1 : isNon x with
  | true => rw [non_l (f := ms) (by simp) h1]; simp [tv, ti]
  | false =>
    cases h2 : isNon y with
    | true => rw [non_r (f := ms) (by simp) h2]; simp [tv, ti]
    | false =>
      obtain ⟨b, e4, e5⟩ := le_two hx hy h1 h2
      rw [e4, e5]
      cases b <;> simp [tv, ti]
end K22
set_option linter.all false
set_option maxRecDepth 100000
set_option maxHeartbeats 4000000
namespace K22
open Ev PySem
theorem most_b {cols rows : List D} {s : String} {x y o p : D} (hx : Sc s x) (hy : Sc s y) (n : Nat) (a1 : cl (n + 3) 65 [.tup rows, o] = M.ret x) (a2 : cl (n + 3) 65 [.tup rows, p] = M.ret y) :
    cl (n + 4) 66 [.tup rows, .tup [S "most", o, p]] = M.ret (.int (ti (ms x y))) := by
  have vx := hx.view
  have vy := hy.view
  have a3 : cl (n + 3) 60 [x, y] = M.ret (tv (sm x y)) := same_ok hx hy (n + 2)
  have j := nin_joined (w := "most") (by simp)
  have i1 := is_non x
  have i2 := is_non y
  have e1 := c_lt x y
  have e2 := c_le x y
  have e3 := c_eq x y
  have ej := c_in (S "most") [S "and", S "or"]
  funext st
  rw [cl_run (F := F__law_truth) rfl _ _ rfl]
  simp [F__law_truth, c_JOINED, ej, eq_str, idxD, ixAt, j, a1, a2, a3, vx, vy, i1, i2, e1, e2, e3]
  cases h1 : isNon x with
  | true => rw [non_l (f := ms) (by simp) h1]; simp [tv, ti]
  | false =>
    cases h2 : isNon y with
    | true => rw [non_r (f := ms) (by simp) h2]; simp [tv, ti]
    | false =>
      obtain ⟨b, e4, e5⟩ := le_two hx hy h1 h2
      rw [e4, e5]
      cases b <;> simp [tv, ti]
end K22
set_option linter.all false
set_option maxRecDepth 100000
set_option maxHeartbeats 4000000
namespace K22
open Ev PySem
theorem sqM {C : Cfg} {ρ ρ' : Ev.Env} {s : Ev.S} {ss : Ss} (h : exS C ρ s = M.ret (.next ρ')) : exSs C ρ (.cons s ss) = exSs C ρ' ss := by
  rw [exSs, h, s_ret]
theorem sqR {C : Cfg} {ρ : Ev.Env} {s : Ev.S} {ss : Ss} {d : D} (h : exS C ρ s = M.ret (.ret d)) : exSs C ρ (.cons s ss) = M.ret (.ret d) := by
  rw [exSs, h, s_ret]
abbrev tw0 : Ev.S := (.asg (.name 2) (.idx (.var 1) (.const (.int 0))))
abbrev tw1 : Ev.S := (.iff (.cmp .Eq (.var 2) (.const (.str "not"))) (.cons (.ret (.call 57 (.cons (.call 61 (.cons (.var 0) (.cons (.idx (.var 1) (.const (.int 1))) .nil))) .nil))) .nil) .nil)
abbrev tp : Ev.S := (.par [3, 4] (.cons (.call 61 (.cons (.var 0) (.cons (.idx (.var 1) (.const (.int 1))) .nil))) (.cons (.call 61 (.cons (.var 0) (.cons (.idx (.var 1) (.const (.int 2))) .nil))) .nil)))
abbrev tr : Ev.S := (.ret (.ite (.cmp .Eq (.var 2) (.const (.str "and"))) (.call 58 (.cons (.var 3) (.cons (.var 4) .nil))) (.call 59 (.cons (.var 3) (.cons (.var 4) .nil)))))
abbrev tw2 : Ev.S := (.iff (.cmp .In (.var 2) (.gc "JOINED" c_JOINED)) (.cons tp (.cons tr .nil)) .nil)
abbrev te (rows : List D) (t : D) (a b c : Option D) : Ev.Env := [some (.tup rows), some t, a, b, c, none, none]
theorem q0 {C : Cfg} {rows rest : List D} {w : String} : exS C (te rows (.tup (S w :: rest)) none none none) tw0 = M.ret (.next (te rows (.tup (S w :: rest)) (some (S w)) none none)) := by
  simp [te, idxD, ixAt]
theorem q1 {C : Cfg} {rows : List D} {t : D} {w : String} (hw : w ≠ "not") : exS C (te rows t (some (S w)) none none) tw1 = M.ret (.next (te rows t (some (S w)) none none)) := by
  simp [te, eq_str, hw]
theorem qp {n l : Nat} {rows : List D} {t u x y : D} {w : String} (h1 : cl n 61 [.tup rows, t] = M.ret x) (g1 : cl n 61 [.tup rows, u] = M.ret y) :
    exS (fr n l) (te rows (.tup [S w, t, u]) (some (S w)) none none) tp = M.ret (.next (te rows (.tup [S w, t, u]) (some (S w)) (some x) (some y))) := by
  simp [te, idxD, ixAt, h1, g1, setMany]
theorem q2 {n l : Nat} {rows : List D} {t : D} {w : String} {d : D} (hw : w = "and" ∨ w = "or") (h : exSs (fr n l) (te rows t (some (S w)) none none) (.cons tp (.cons tr .nil)) = M.ret (.ret d)) :
    exS (fr n l) (te rows t (some (S w)) none none) tw2 = M.ret (.ret d) := by
  have i := in_joined hw
  have c : M.thn (evE (fr n l) (te rows t (some (S w)) none none) (.cmp .In (.var 2) (.gc "JOINED" c_JOINED))) asB = M.ret true := by
    simp [te, c_JOINED, cmpD, i]
  rw [exS, c, s_ret]
  exact h
theorem qr_and {n l : Nat} {rows : List D} {t x y z : D} (h : cl n 58 [x, y] = M.ret z) : exS (fr n l) (te rows t (some (S "and")) (some x) (some y)) tr = M.ret (.ret z) := by
  simp [te, eq_str, h]
theorem qr_or {n l : Nat} {rows : List D} {t x y z : D} (h : cl n 59 [x, y] = M.ret z) : exS (fr n l) (te rows t (some (S "or")) (some x) (some y)) tr = M.ret (.ret z) := by
  simp [te, eq_str, h]
theorem joined_run {n l : Nat} {rows : List D} {t u x y z : D} {w : String} {ss : Ss} (hw : w = "and" ∨ w = "or") (h1 : cl n 61 [.tup rows, t] = M.ret x) (g1 : cl n 61 [.tup rows, u] = M.ret y)
    (hr : exS (fr n l) (te rows (.tup [S w, t, u]) (some (S w)) (some x) (some y)) tr = M.ret (.ret z)) : exSs (fr n l) (te rows (.tup [S w, t, u]) none none none) (.cons tw0 (.cons tw1 (.cons tw2 ss))) = M.ret (.ret z) := by
  rw [sqM q0, sqM (q1 (by rcases hw with rfl | rfl <;> decide))]
  refine sqR (q2 hw ?_)
  rw [sqM (qp h1 g1)]
  exact sqR hr
theorem body_is : F_truth_of.body = .cons tw0 (.cons tw1 (.cons tw2 (match F_truth_of.body with
  | .cons _ (.cons _ (.cons _ r)) => r
  | r => r))) := rfl
theorem joined_cl {n : Nat} {rows : List D} {t u x y z : D} {w : String} (hw : w = "and" ∨ w = "or") (h1 : cl n 61 [.tup rows, t] = M.ret x) (g1 : cl n 61 [.tup rows, u] = M.ret y)
    (hr : ∀ l, exS (fr n l) (te rows (.tup [S w, t, u]) (some (S w)) (some x) (some y)) tr = M.ret (.ret z)) : cl (n + 1) 61 [.tup rows, .tup [S w, t, u]] = M.ret z := by
  funext st
  rw [cl_run (F := F_truth_of) rfl _ _ rfl, body_is]
  have e := joined_run (n := n) (l := st.length) (ss := match F_truth_of.body with
    | .cons _ (.cons _ (.cons _ r)) => r
    | r => r) hw h1 g1 (hr _)
  have e2 := congrFun e st
  refine (congrArg (fin st.length) e2).trans ?_
  show leave st.length z st = _
  unfold leave
  rw [if_pos rfl]
  rfl
theorem and_a {rows : List D} {t u : D} {n : Nat} {j k : Tri} (h1 : cl (n + 3) 61 [.tup rows, t] = M.ret (tv j)) (g1 : cl (n + 3) 61 [.tup rows, u] = M.ret (tv k)) : cl (n + 4) 61 [.tup rows, .tup [S "and", t, u]] = M.ret (tv (j.min k)) :=
  joined_cl (.inl rfl) h1 g1 fun l => qr_and (both_ok j k (n + 2))
theorem or_a {rows : List D} {t u : D} {n : Nat} {j k : Tri} (h1 : cl (n + 3) 61 [.tup rows, t] = M.ret (tv j)) (g1 : cl (n + 3) 61 [.tup rows, u] = M.ret (tv k)) : cl (n + 4) 61 [.tup rows, .tup [S "or", t, u]] = M.ret (tv (j.max k)) :=
  joined_cl (.inr rfl) h1 g1 fun l => qr_or (either_ok j k (n + 1))
end K22
set_option linter.all false
set_option maxRecDepth 100000
set_option maxHeartbeats 4000000
namespace K22
open Ev PySem
theorem and_b {rows : List D} {t u : D} {n : Nat} {j k : Tri} (h2 : cl (n + 3) 66 [.tup rows, t] = M.ret (.int (ti j))) (g2 : cl (n + 3) 66 [.tup rows, u] = M.ret (.int (ti k))) : cl (n + 4) 66 [.tup rows, .tup [S "and", t, u]] = M.ret (.int (ti (j.min k))) := by
  have e := mm_min j k
  generalize ti j = J at *
  generalize ti k = K at *
  generalize ti (j.min k) = R at *
  funext st
  rw [cl_run (F := F__law_truth) rfl _ _ rfl]
  simp [F__law_truth, eq_str, idxD, ixAt, h2, g2, e]
end K22
set_option linter.all false
set_option maxRecDepth 100000
set_option maxHeartbeats 4000000
namespace K22
open Ev PySem
theorem or_b {rows : List D} {t u : D} {n : Nat} {j k : Tri} (h2 : cl (n + 3) 66 [.tup rows, t] = M.ret (.int (ti j))) (g2 : cl (n + 3) 66 [.tup rows, u] = M.ret (.int (ti k))) : cl (n + 4) 66 [.tup rows, .tup [S "or", t, u]] = M.ret (.int (ti (j.max k))) := by
  have e := mm_max j k
  generalize ti j = J at *
  generalize ti k = K at *
  generalize ti (j.max k) = R at *
  funext st
  rw [cl_run (F := F__law_truth) rfl _ _ rfl]
  simp [F__law_truth, eq_str, idxD, ixAt, h2, g2, e]
end K22
set_option linter.all false
set_option maxRecDepth 100000
set_option maxHeartbeats 4000000
namespace K22
open Ev PySem
/-- both find the truth k -/
def Both (rows : List D) (t : D) (n : Nat) (k : Tri) : Prop := cl n 61 [.tup rows, t] = M.ret (tv k) ∧ cl n 66 [.tup rows, t] = M.ret (.int (ti k))
theorem truth_leaf {cols rows : List D} {t : D} (h : Leaf cols t) (hr : Rd rows cols) : ∃ k : Tri, ∀ n, Both rows t (n + 4) k := by
  cases h with
  | cmp hw hs h1 h2 =>
    obtain ⟨x, hx, e1⟩ := worth h1 hr
    obtain ⟨y, hy, e2⟩ := worth h2 hr
    rcases hw with rfl | rfl | rfl
    · exact ⟨_, fun n => ⟨same_a (cols := cols) hx hy n (e1 (n + 1)).1 (e2 (n + 1)).1, same_b (cols := cols) hx hy n (e1 (n + 1)).2 (e2 (n + 1)).2⟩⟩
    · exact ⟨_, fun n => ⟨less_a (cols := cols) hx hy n (e1 (n + 1)).1 (e2 (n + 1)).1, less_b (cols := cols) hx hy n (e1 (n + 1)).2 (e2 (n + 1)).2⟩⟩
    · exact ⟨_, fun n => ⟨most_a (cols := cols) hx hy n (e1 (n + 1)).1 (e2 (n + 1)).1, most_b (cols := cols) hx hy n (e1 (n + 1)).2 (e2 (n + 1)).2⟩⟩
  | null h =>
    obtain ⟨x, hx, e1⟩ := worth h hr
    exact ⟨_, fun n => ⟨null_a (cols := cols) hx n (e1 (n + 1)).1, null_b (cols := cols) hx n (e1 (n + 1)).2⟩⟩
  | isin hs h hv hl =>
    obtain ⟨x, hx, e1⟩ := worth h hr
    exact ⟨_, fun n => ⟨in_a (cols := cols) hx (fun v hm => val_sc (hv v hm)) n (e1 (n + 1)).1, in_b (cols := cols) hx (fun v hm => val_sc (hv v hm)) hl n (e1 (n + 1)).2⟩⟩
theorem both_not {rows : List D} {t : D} {n : Nat} {k : Tri} (h : Both rows t (n + 3) k) : Both rows (.tup [S "not", t]) (n + 4) k.neg := by
  obtain ⟨h1, h2⟩ := h
  have h3 : cl (n + 3) 57 [tv k] = M.ret (tv k.neg) := turned_ok k (n + 2)
  have e : binD .Sub (.int 2) (.int (ti k)) = some (.int (ti k.neg)) := by rw [← ti_neg]; rfl
  constructor
  · funext st
    rw [cl_run (F := F_truth_of) rfl _ _ rfl]
    simp [F_truth_of, eq_str, idxD, ixAt, h1, h3]
  · funext st
    rw [cl_run (F := F__law_truth) rfl _ _ rfl]
    simp [F__law_truth, eq_str, idxD, ixAt, h2, e]
theorem both_and {rows : List D} {t u : D} {n : Nat} {j k : Tri} (h : Both rows t (n + 3) j) (g : Both rows u (n + 3) k) : Both rows (.tup [S "and", t, u]) (n + 4) (j.min k) := ⟨and_a h.1 g.1, and_b h.2 g.2⟩
theorem both_or {rows : List D} {t u : D} {n : Nat} {j k : Tri} (h : Both rows t (n + 3) j) (g : Both rows u (n + 3) k) : Both rows (.tup [S "or", t, u]) (n + 4) (j.max k) := ⟨or_a h.1 g.1, or_b h.2 g.2⟩
theorem truth_test {cols rows : List D} {t : D} {d s : Nat} (h : Test cols d s t) (hr : Rd rows cols) : ∃ k : Tri, ∀ n, Both rows t (n + d + 3) k := by
  induction h with
  | leaf h =>
    obtain ⟨k, e⟩ := truth_leaf h hr
    exact ⟨k, fun n => e n⟩
  | not h ih =>
    obtain ⟨k, e⟩ := ih
    exact ⟨k.neg, fun n => both_not (e n)⟩
  | @bin d s e r w t u hw h g ih1 ih2 =>
    obtain ⟨j, e1⟩ := ih1
    obtain ⟨k, e2⟩ := ih2
    have a1 : ∀ n, Both rows t (n + max d e + 3) j := fun n => by
      have := e1 (n + (max d e - d))
      rwa [show n + (max d e - d) + d = n + max d e from by omega] at this
    have a2 : ∀ n, Both rows u (n + max d e + 3) k := fun n => by
      have := e2 (n + (max d e - e))
      rwa [show n + (max d e - e) + e = n + max d e from by omega] at this
    rcases hw with rfl | rfl
    · exact ⟨_, fun n => both_and (a1 n) (a2 n)⟩
    · exact ⟨_, fun n => both_or (a1 n) (a2 n)⟩
end K22
set_option linter.all false
set_option maxRecDepth 100000
set_option maxHeartbeats 4000000
namespace K22
open Ev PySem
/-- cells that are drawn -/
def Cell1 (s : String) (may : Bool) (v : D) : Prop := (may = true ∧ v = .non) ∨ (s = "int" ∧ ∃ i : Int, v = .int i ∧ -1000000000 ≤ i ∧ i ≤ 1000000000) ∨ (s = "word" ∧ (v = S "a" ∨ v = S "b" ∨ v = S "ab" ∨ v = S "c"))
theorem Cell1.sc {s : String} {may : Bool} {v : D} (h : Cell1 s may v) : Sc s v := by
  rcases h with ⟨_, rfl⟩ | ⟨rfl, i, rfl, _⟩ | ⟨rfl, h⟩
  · exact .inl rfl
  · exact .inr (.inl ⟨rfl, _, rfl⟩)
  · exact .inr (.inr ⟨rfl, by rcases h with rfl | rfl | rfl | rfl <;> exact ⟨_, rfl⟩⟩)
theorem is_word_ab (n : Nat) : cl (n + 1) 2 [S "ab"] = M.ret (.bl true) := by
  have h1 : walkD (S "ab") = some [S "a", S "b"] := rfl
  have h2 : (Str.ofString "ab").length = 2 := by decide +kernel
  have h3 : inS (S "a") (Str.ofString "abcdefghijklmnopqrstuvwxyz") = some true := by decide +kernel
  have h4 : inS (S "b") (Str.ofString "abcdefghijklmnopqrstuvwxyz") = some true := by decide +kernel
  funext st
  rw [cl_run (F := F_is_word) rfl _ _ rfl]
  simp [F_is_word, c_WORD, c_LETTERS, bltD, tyD, Ty.has, cmpD, leD, okSize, h1, h2, h3, h4, loopC, setTg, wipeE, allB]
theorem fits_int (n : Nat) (i : Int) (h : -1000000000 ≤ i ∧ i ≤ 1000000000) : cl (n + 3) 54 [S "int", .int i] = M.ret (.bl true) := by
  have e := is_number_int n i
  have h1 : (-1000000000 : Int) ≤ i := by omega
  have h2 : i ≤ 1000000000 := by omega
  simp only [h1, h2, decide_true, Bool.and_self] at e
  funext st
  rw [cl_run (F := F_fits_sort) rfl _ _ rfl]
  simp [F_fits_sort, c_INT, eq_str, e]
theorem fits_word (n : Nat) (v : D) (h : v = S "a" ∨ v = S "b" ∨ v = S "ab" ∨ v = S "c") : cl (n + 3) 54 [S "word", v] = M.ret (.bl true) := by
  have e : cl (n + 2) 2 [v] = M.ret (.bl true) := by
    rcases h with rfl | rfl | rfl | rfl
    · exact is_word_a (n + 1)
    · exact is_word_b (n + 1)
    · exact is_word_ab (n + 1)
    · exact is_word_c (n + 1)
  funext st
  rw [cl_run (F := F_fits_sort) rfl _ _ rfl]
  simp [F_fits_sort, c_INT, eq_str, e]
theorem fits_cell {n : Nat} {s : String} {may : Bool} {v : D} (h : Cell1 s may v) : (isNon v = true ∧ may = true) ∨ (isNon v = false ∧ cl (n + 3) 54 [S s, v] = M.ret (.bl true)) := by
  rcases h with ⟨h, rfl⟩ | ⟨rfl, i, rfl, h⟩ | ⟨rfl, h⟩
  · exact .inl ⟨rfl, h⟩
  · exact .inr ⟨rfl, fits_int n i h⟩
  · exact .inr ⟨by rcases h with rfl | rfl | rfl | rfl <;> rfl, fits_word n v h⟩
abbrev cellE : E := (.or (.and (.cmp .Is (.var 3) (.const .non)) (.var 5)) (.call 54 (.cons (.var 4) (.cons (.var 3) .nil))))
theorem cell_run {n l : Nat} {s : String} {may : Bool} {v : D} {a b c : Option D} (h : Cell1 s may v) : evE (fr (n + 3) l) [a, b, c, some v, some (S s), some (.bl may)] cellE = M.ret (.bl true) := by
  have vv := h.sc.view
  have i1 := is_non v
  rcases fits_cell (n := n) h with ⟨h1, h2⟩ | ⟨h1, h2⟩
  · simp [vv, i1, h1, h2]
  · simp [vv, i1, h1, h2]
/-- cells of columns -/
inductive Row1 : List D → List D → Prop
  | nil : Row1 [] []
  | cons {s : String} {may : Bool} {v : D} {ys vs : List D} (h : Cell1 s may v) (r : Row1 ys vs) : Row1 (.tup [S s, .bl may] :: ys) (v :: vs)
theorem Row1.len {ys vs : List D} (h : Row1 ys vs) : vs.length = ys.length := by
  induction h with
  | nil => rfl
  | cons h r ih => simp [ih]
theorem Row1.at {ys vs : List D} (h : Row1 ys vs) : ∀ (c : Nat) (s : String) (d : D), ys[c]? = some (.tup [S s, d]) → ∃ v, vs[c]? = some v ∧ Sc s v := by
  induction h with
  | nil => intro c s d e; simp at e
  | @cons s may v ys vs h r ih =>
    intro c s' d e
    cases c with
    | zero =>
      have e1 : S s = S s' ∧ D.bl may = d := by simpa using e
      have e2 : s = s' := ofS_inj (by simpa using e1.1)
      subst e2
      exact ⟨v, rfl, h.sc⟩
    | succ c => exact ih c s' d (by simpa using e)
theorem row_loop {n l : Nat} {a b c : Option D} {ys vs : List D} (h : Row1 ys vs) : loopC (fun x => match setTg (.two (.two (.name 4) (.name 5)) (.name 3)) x [a, b, c, none, none, none] with
      | some σ => M.thn (evC (fr (n + 3) l) σ .no) fun k => if k then M.thn (evE (fr (n + 3) l) σ cellE) fun y => M.ret [y] else M.ret []
      | none => M.bad) (pairUp ys vs) = M.ret (ys.map fun _ => .bl true) := by
  induction h with
  | nil => rfl
  | @cons s may v ys vs h r ih =>
    have e := cell_run (n := n) (l := l) (a := a) (b := b) (c := c) h
    rw [pairUp, loopC, ih]
    have e2 : setTg (.two (.two (.name 4) (.name 5)) (.name 3)) (.tup [.tup [S s, .bl may], v]) [a, b, c, none, none, none] = some [a, b, c, some v, some (S s), some (.bl may)] := rfl
    rw [e2]
    show M.thn (M.thn (evC (fr (n + 3) l) [a, b, c, some v, some (S s), some (.bl may)] .no) fun k => if k then M.thn (evE (fr (n + 3) l) [a, b, c, some v, some (S s), some (.bl may)] cellE) fun y => M.ret [y] else M.ret []) _ = _
    rw [e]
    rfl
theorem fits_row_ok {n : Nat} {ys vs : List D} (h : Row1 ys vs) (hl : ys.length ≤ 6) : cl (n + 4) 55 [.tup ys, .tup vs] = M.ret (.bl true) := by
  have hlen := h.len
  have e1 : cl (n + 3) 1 [.tup vs, .int ys.length, .int ys.length] = M.ret (.bl true) := by
    rw [is_tuple_of_tup, hlen]
    simp
  have e2 := fun l => row_loop (n := n) (l := l) (a := some (.tup ys)) (b := some (.tup vs)) (c := some (.int ys.length)) h
  have e3 := all_true ys
  have hz : okSize ys.length = true := by simp [okSize]; omega
  funext st
  rw [cl_run (F := F_fits_row) rfl _ _ rfl]
  have g0 : exS (fr (n + 3) st.length) [some (.tup ys), some (.tup vs), none, none, none, none] (.asg (.name 2) (.blt .len (.var 0))) = M.ret (.next [some (.tup ys), some (.tup vs), some (.int ys.length), none, none, none]) := by
    simp [bltD]
  have g1 : exS (fr (n + 3) st.length) [some (.tup ys), some (.tup vs), some (.int ys.length), none, none, none] (.iff (.not (.call 1 (.cons (.var 1) (.cons (.var 2) (.cons (.var 2) .nil))))) (.cons (.ret (.const (.bl false))) .nil) .nil) = M.ret (.next [some (.tup ys), some (.tup vs), some (.int ys.length), none, none, none]) := by
    simp [e1]
  have g2 : evN (fr (n + 3) st.length) [some (.tup ys), some (.tup vs), some (.int ys.length), none, none, none] (.comp [3, 4, 5] cellE (.two (.two (.name 4) (.name 5)) (.name 3)) (.zip (.var 0) (.var 1)) .no) = M.ret (ys.map fun _ => .bl true) := by
    have it : evIt (fr (n + 3) st.length) [some (.tup ys), some (.tup vs), some (.int ys.length), none, none, none] (.zip (.var 0) (.var 1)) = M.ret (pairUp ys vs) := by
      simp [zipD]
    rw [evN, it, s_ret]
    have w : wipeE [some (.tup ys), some (.tup vs), some (.int ys.length), none, none, none] [3, 4, 5] = [some (.tup ys), some (.tup vs), some (.int ys.length), none, none, none] := rfl
    rw [w]
    refine (congrArg (fun z : M (List D) => M.calm (M.thn z fun ys => if okSize ys.length then M.ret ys else M.bad)) (e2 st.length)).trans ?_
    simp [hz]
  have g3 : exS (fr (n + 3) st.length) [some (.tup ys), some (.tup vs), some (.int ys.length), none, none, none] (.ret (.blt .all (.new (.comp [3, 4, 5] cellE (.two (.two (.name 4) (.name 5)) (.name 3)) (.zip (.var 0) (.var 1)) .no)))) = M.ret (.ret (.bl true)) := by
    have e4 : bltD .all (.lst (ys.map fun _ => .bl true)) = some (.bl true) := by
      have : (ys.map fun _ => true).all id = true := by
        induction ys with
        | nil => rfl
        | cons y ys _ => simp
      show (allB _).map _ = _
      rw [e3, Option.map_some, this]
    simp only [exS, evE, g2, s_ret, s_assoc]
    simp [e4]
  have b : exSs (fr (n + 3) st.length) [some (.tup ys), some (.tup vs), none, none, none, none] F_fits_row.body = M.ret (.ret (.bl true)) := by
    show exSs _ _ (.cons _ (.cons _ (.cons _ .nil))) = _
    rw [sqM g0, sqM g1]
    exact sqR g3
  refine (congrArg (fin st.length) (congrFun b st)).trans ?_
  simp [M.ret, fin, leave]
end K22
set_option linter.all false
set_option maxRecDepth 100000
set_option maxHeartbeats 1000000
/-! Ev22: comprehensions by what each turn gives. -/
namespace Ev
open PySem
@[simp] theorem b_lenL (xs : List D) : bltD .len (.lst xs) = some (.int xs.length) := rfl
@[simp] theorem b_lenT (xs : List D) : bltD .len (.tup xs) = some (.int xs.length) := rfl
@[simp] theorem b_tupL (xs : List D) : bltD .tuple (.lst xs) = some (.tup xs) := rfl
@[simp] theorem b_tupT (xs : List D) : bltD .tuple (.tup xs) = some (.tup xs) := rfl
@[simp] theorem b_int (i : Int) : bltD .int (.int i) = some (.int i) := rfl
@[simp] theorem b_isiI (i : Int) : bltD (.isi .int) (.int i) = some (.bl true) := rfl
@[simp] theorem b_isiB (i : Int) : bltD (.isi .bool) (.int i) = some (.bl false) := rfl
@[simp] theorem b_isiIB (i : Bool) : bltD (.isi .int) (.bl i) = some (.bl true) := rfl
@[simp] theorem b_isiBB (i : Bool) : bltD (.isi .bool) (.bl i) = some (.bl true) := rfl
@[simp] theorem b_isiN : bltD (.isi .int) .non = some (.bl false) := rfl
@[simp] theorem b_isiNB : bltD (.isi .bool) .non = some (.bl false) := rfl
@[simp] theorem b_isiNS : bltD (.isi .str) .non = some (.bl false) := rfl
@[simp] theorem b_isiIS (i : Int) : bltD (.isi .str) (.int i) = some (.bl false) := rfl
@[simp] theorem b_isiSS (i : Str) : bltD (.isi .str) (.str i) = some (.bl true) := rfl
@[simp] theorem b_isiSI (i : Str) : bltD (.isi .int) (.str i) = some (.bl false) := rfl
@[simp] theorem b_isiT (i : List D) : bltD (.isi .tuple) (.tup i) = some (.bl true) := rfl
@[simp] theorem b_isiTN : bltD (.isi .tuple) .non = some (.bl false) := rfl
@[simp] theorem m_eq (a b : D) : cmpD .Eq a b = eqD a b := rfl
@[simp] theorem m_ne (a b : D) : cmpD .NotEq a b = (eqD a b).map (!·) := rfl
@[simp] theorem m_lt (a b : D) : cmpD .Lt a b = ltD a b := rfl
@[simp] theorem m_gt (a b : D) : cmpD .Gt a b = ltD b a := rfl
@[simp] theorem m_le (a b : D) : cmpD .LtE a b = leD a b := rfl
@[simp] theorem m_ge (a b : D) : cmpD .GtE a b = leD b a := rfl
@[simp] theorem m_isB (i j : Bool) : cmpD .Is (.bl i) (.bl j) = some (decide (i = j)) := rfl
@[simp] theorem m_isNB (i j : Bool) : cmpD .IsNot (.bl i) (.bl j) = some (!decide (i = j)) := rfl
@[simp] theorem m_isN (a : D) : cmpD .Is a .non = some (isNon a) := by cases a <;> rfl
@[simp] theorem m_isNN (a : D) : cmpD .IsNot a .non = some (!isNon a) := by cases a <;> rfl
@[simp] theorem l_int (i j : Int) : ltD (.int i) (.int j) = some (decide (i < j)) := rfl
@[simp] theorem l_intE (i j : Int) : leD (.int i) (.int j) = some (decide (i ≤ j)) := rfl
@[simp] theorem n_int (i : Int) : isNon (.int i) = false := rfl
@[simp] theorem n_str (i : Str) : isNon (.str i) = false := rfl
@[simp] theorem n_bl (i : Bool) : isNon (.bl i) = false := rfl
@[simp] theorem n_tup (i : List D) : isNon (.tup i) = false := rfl
@[simp] theorem n_lst (i : List D) : isNon (.lst i) = false := rfl
@[simp] theorem n_non : isNon .non = true := rfl
@[simp] theorem d_add (i j : Int) : binD .Add (.int i) (.int j) = some (.int (i + j)) := rfl
@[simp] theorem d_sub (i j : Int) : binD .Sub (.int i) (.int j) = some (.int (i - j)) := rfl
@[simp] theorem x_t0 (x : D) (xs : List D) : idxD (.tup (x :: xs)) (.int 0) = some x := rfl
@[simp] theorem x_t1 (x y : D) (xs : List D) : idxD (.tup (x :: y :: xs)) (.int 1) = some y := rfl
@[simp] theorem x_t2 (x y z : D) (xs : List D) : idxD (.tup (x :: y :: z :: xs)) (.int 2) = some z := rfl
@[simp] theorem x_t3 (x y z u : D) (xs : List D) : idxD (.tup (x :: y :: z :: u :: xs)) (.int 3) = some u := rfl
@[simp] theorem x_l0 (x : D) (xs : List D) : idxD (.lst (x :: xs)) (.int 0) = some x := rfl
@[simp] theorem w_tup (xs : List D) : walkD (.tup xs) = some xs := rfl
@[simp] theorem w_lst (xs : List D) : walkD (.lst xs) = some xs := rfl
/-- one turn of a comprehension -/
def turnN (C : Cfg) (ρ : Env) (own : List Nat) (elt : E) (tg : Tg) (c : O) (x : D) : M (List D) := match setTg tg x (wipeE ρ own) with
  | some σ => M.thn (evC C σ c) fun k => if k then M.thn (evE C σ elt) fun y => M.ret [y] else M.ret []
  | none => M.bad
theorem comp_eq (C : Cfg) (ρ : Env) (own : List Nat) (elt : E) (tg : Tg) (it : It) (c : O) : evN C ρ (.comp own elt tg it c) = M.thn (evIt C ρ it) fun xs => M.calm (M.thn (loopC (turnN C ρ own elt tg c) xs) fun ys => if okSize ys.length then M.ret ys else M.bad) := rfl
theorem loopC_mem {α : Type} {f : D → M (List α)} {g : D → List α} : ∀ {xs : List D}, (∀ x ∈ xs, f x = M.ret (g x)) → loopC f xs = M.ret (xs.flatMap g)
  | [], _ => rfl
  | x :: xs, h => by
    rw [loopC, h x List.mem_cons_self, loopC_mem (fun y hy => h y (List.mem_cons_of_mem _ hy))]
    rfl
theorem loopC_memI {α : Type} {f : D → M (List α)} : ∀ {xs : List D} {ys : List (List α)}, ys.length = xs.length → (∀ (i : Nat) x y, xs[i]? = some x → ys[i]? = some y → f x = M.ret y) → loopC f xs = M.ret ys.flatten
  | [], [], _, _ => rfl
  | x :: xs, y :: ys, hl, h => by
    rw [loopC, h 0 x y rfl rfl, loopC_memI (xs := xs) (ys := ys) (by simpa using hl) (fun i x y hx hy => h (i + 1) x y (by simpa using hx) (by simpa using hy))]
    simp
theorem comp_mem {C : Cfg} {ρ : Env} {own : List Nat} {elt : E} {tg : Tg} {it : It} {c : O} {xs : List D} {g : D → List D} (hit : evIt C ρ it = M.ret xs) (h : ∀ x ∈ xs, turnN C ρ own elt tg c x = M.ret (g x)) (hz : okSize (xs.flatMap g).length = true) :
    evN C ρ (.comp own elt tg it c) = M.ret (xs.flatMap g) := by
  rw [comp_eq, hit, s_ret, loopC_mem h, s_ret, if_pos hz, calm_ret]
theorem comp_map {C : Cfg} {ρ : Env} {own : List Nat} {elt : E} {tg : Tg} {it : It} {c : O} {xs : List D} {g : D → D} (hit : evIt C ρ it = M.ret xs) (h : ∀ x ∈ xs, turnN C ρ own elt tg c x = M.ret [g x]) (hz : okSize xs.length = true) :
    evN C ρ (.comp own elt tg it c) = M.ret (xs.map g) := by
  have e : xs.flatMap (fun x => [g x]) = xs.map g := by
    clear hit h hz
    induction xs with
    | nil => rfl
    | cons x xs ih => rw [List.flatMap_cons, ih]; rfl
  rw [← e]
  exact comp_mem hit h (by rw [e, List.length_map]; exact hz)
theorem okz_le {n m : Nat} (h : okSize m = true) (hl : n ≤ m) : okSize n = true := by simp [okSize] at h ⊢; omega
theorem okz_lt {n : Nat} (hl : n ≤ 10000000) : okSize n = true := by simp [okSize]; omega
theorem comp_filter {C : Cfg} {ρ : Env} {own : List Nat} {elt : E} {tg : Tg} {it : It} {c : O} {xs : List D} {p : D → Bool} {g : D → D} (hit : evIt C ρ it = M.ret xs) (h : ∀ x ∈ xs, turnN C ρ own elt tg c x = M.ret (if p x then [g x] else [])) (hz : okSize xs.length = true) :
    evN C ρ (.comp own elt tg it c) = M.ret ((xs.filter p).map g) := by
  have e : xs.flatMap (fun x => if p x then [g x] else []) = (xs.filter p).map g := by
    clear hit h hz
    induction xs with
    | nil => rfl
    | cons x xs ih =>
      rw [List.flatMap_cons, ih, List.filter_cons]
      by_cases hp : p x <;> simp [hp]
  rw [← e]
  refine comp_mem hit h ?_
  rw [e, List.length_map]
  exact okz_le hz (List.length_filter_le _ _)
theorem allB_map (p : D → Bool) : ∀ xs : List D, allB (xs.map fun x => .bl (p x)) = some (xs.map p)
  | [] => rfl
  | x :: xs => by
    show (allB (xs.map fun x => .bl (p x))).map (p x :: ·) = _
    rw [allB_map p xs]; rfl
theorem allI_map : ∀ xs : List Int, allI (xs.map .int) = some xs
  | [] => rfl
  | x :: xs => by
    show (allI (xs.map .int)).map (x :: ·) = _
    rw [allI_map xs]; rfl
theorem all_mapB (p : D → Bool) (xs : List D) : bltD .all (.lst (xs.map fun x => .bl (p x))) = some (.bl (xs.all p)) := by
  show (allB _).map _ = _
  rw [allB_map]
  simp [List.all_map]
theorem any_mapB (p : D → Bool) (xs : List D) : bltD .any (.lst (xs.map fun x => .bl (p x))) = some (.bl (xs.any p)) := by
  show (allB _).map _ = _
  rw [allB_map]
  simp [List.any_map]
theorem comp_all {C : Cfg} {ρ : Env} {own : List Nat} {elt : E} {tg : Tg} {it : It} {c : O} {xs : List D} {p : D → Bool} (hit : evIt C ρ it = M.ret xs) (h : ∀ x ∈ xs, turnN C ρ own elt tg c x = M.ret [.bl (p x)]) (hz : okSize xs.length = true) :
    evE C ρ (.blt .all (.new (.comp own elt tg it c))) = M.ret (.bl (xs.all p)) := by
  have e := all_mapB p xs
  rw [evE, evE, comp_map hit h hz, s_ret, s_ret]
  funext st
  rw [v_lst, e]; rfl
theorem comp_any {C : Cfg} {ρ : Env} {own : List Nat} {elt : E} {tg : Tg} {it : It} {c : O} {xs : List D} {p : D → Bool} (hit : evIt C ρ it = M.ret xs) (h : ∀ x ∈ xs, turnN C ρ own elt tg c x = M.ret [.bl (p x)]) (hz : okSize xs.length = true) :
    evE C ρ (.blt .any (.new (.comp own elt tg it c))) = M.ret (.bl (xs.any p)) := by
  have e := any_mapB p xs
  rw [evE, evE, comp_map hit h hz, s_ret, s_ret]
  funext st
  rw [v_lst, e]; rfl
theorem s_ok {α β : Type} {x : M α} {f : α → M β} {st st' : Store} {a : α} (h : x st = .ok a st') : M.thn x f st = f a st' := by
  show (match x st with | .ok a st' => f a st' | .exc c st' => .exc c st' | .bad => .bad) = _
  rw [h]
theorem exSs_c (C : Cfg) (ρ : Env) (s : S) (ss : Ss) : exSs C ρ (.cons s ss) = M.thn (exS C ρ s) fun fl => match fl with
    | .next ρ => exSs C ρ ss
    | fl => M.ret fl := rfl
/-! in order, each once -/
def ascI : List Int → Bool
  | a :: b :: r => decide (a < b) && ascI (b :: r)
  | _ => true
theorem memU_ins {x y : Int} : ∀ {l : List Int}, y ∈ insU x l → y = x ∨ y ∈ l
  | [], h => by simpa [insU] using h
  | z :: l, h => by
    unfold insU at h
    split at h
    · simpa using h
    · split at h
      · exact .inr h
      · rcases List.mem_cons.mp h with rfl | h
        · exact .inr List.mem_cons_self
        · rcases memU_ins h with h | h
          · exact .inl h
          · exact .inr (List.mem_cons_of_mem _ h)
theorem asc_cons {x : Int} : ∀ {l : List Int}, ascI l = true → (∀ y ∈ l, x < y) → ascI (x :: l) = true
  | [], _, _ => rfl
  | y :: l, h, g => by
    show (decide (x < y) && ascI (y :: l) : Bool) = true
    rw [h, decide_eq_true (g y List.mem_cons_self)]; rfl
theorem asc_lt {x : Int} : ∀ {l : List Int}, ascI (x :: l) = true → ∀ y ∈ l, x < y
  | [], _, y, hy => by cases hy
  | z :: l, h, y, hy => by
    have h' : (decide (x < z) && ascI (z :: l)) = true := h
    rw [Bool.and_eq_true, decide_eq_true_eq] at h'
    rcases List.mem_cons.mp hy with rfl | hy
    · exact h'.1
    · exact Int.lt_trans h'.1 (asc_lt h'.2 y hy)
theorem asc_tail {x : Int} {l : List Int} (h : ascI (x :: l) = true) : ascI l = true := by
  cases l with
  | nil => rfl
  | cons z l =>
    have h' : (decide (x < z) && ascI (z :: l)) = true := h
    rw [Bool.and_eq_true] at h'
    exact h'.2
theorem asc_insU (x : Int) : ∀ {l : List Int}, ascI l = true → ascI (insU x l) = true
  | [], _ => rfl
  | z :: l, h => by
    unfold insU
    split
    · rename_i hx
      refine asc_cons h fun y hy => ?_
      rcases List.mem_cons.mp hy with rfl | hy
      · exact hx
      · exact Int.lt_trans hx (asc_lt h y hy)
    · split
      · exact h
      · rename_i h1 h2
        refine asc_cons (asc_insU x (asc_tail h)) fun y hy => ?_
        rcases memU_ins hy with rfl | hy
        · omega
        · exact asc_lt h y hy
theorem asc_sortU : ∀ l : List Int, ascI (sortU l) = true
  | [] => rfl
  | x :: l => asc_insU x (asc_sortU l)
theorem memU_sort {y : Int} : ∀ {l : List Int}, y ∈ sortU l → y ∈ l
  | [], h => h
  | x :: l, h => by
    rcases memU_ins h with rfl | h
    · exact List.mem_cons_self
    · exact List.mem_cons_of_mem _ (memU_sort h)
theorem len_insU (x : Int) : ∀ l : List Int, (insU x l).length ≤ l.length + 1
  | [] => Nat.le_refl _
  | z :: l => by
    unfold insU
    split
    · simp
    · split
      · simp
      · have := len_insU x l
        simp; omega
theorem len_sortU : ∀ l : List Int, (sortU l).length ≤ l.length
  | [] => Nat.le_refl _
  | x :: l => by
    have h1 := len_insU x (sortU l)
    have h2 := len_sortU l
    show (insU x (sortU l)).length ≤ _
    rw [List.length_cons]; omega
end Ev
set_option linter.all false
set_option maxRecDepth 100000
set_option maxHeartbeats 4000000
namespace K22
open Ev PySem
theorem wp_thnN {α β : Type} {l : Nat} {x : M α} {f : α → M β} {P : α → Prop} {Q : β → Prop} {st : Store} (h : Wp l x P st) (k : ∀ a st', Cup st' l → st'.length = st.length → P a → Wp l (f a) Q st') : Wp l (M.thn x f) Q st := by
  obtain ⟨a, st', e, d, p⟩ := h
  obtain ⟨b, st'', e2, d2, q⟩ := k a st' d.cup d.len p
  refine ⟨b, st'', ?_, d.trans d2, q⟩
  rw [a_thn, e]
  exact e2
theorem wp_calm {α : Type} {l : Nat} {x : M α} {P : α → Prop} {st : Store} (h : Wp l x P st) : Wp l (M.calm x) P st := by
  obtain ⟨a, st', e, d, p⟩ := h
  exact ⟨a, st', by simp only [M.calm, e], d, p⟩
/-- one cell -/
theorem wp_value {n l : Nat} {s : String} (hs : s = "int" ∨ s = "word") {may : Bool} {st : Store} (h : Cup st l) : Wp l (cl (n + 3) 67 [.ref l, .tup [S s, .bl may]]) (Cell1 s may) st := by
  refine wp_def (F := F__law_value) rfl rfl ?_
  show Wp l (exSs (fr (n + 2) st.length) [some (.ref l), some (.tup [S s, .bl may])] F__law_value.body) _ st
  generalize st.length = L
  refine wp_seq (P := fun fl => (∃ d, fl = .ret d ∧ Cell1 s may d) ∨ fl = .next [some (.ref l), some (.tup [S s, .bl may])]) ?_ fun fl st1 h1 hp => ?_
  · cases may with
    | false =>
      simp [idxD, ixAt]
      exact wp_ret h (.inr rfl)
    | true =>
      simp [idxD, ixAt]
      refine wp_thn (wp_roll h (by omega)) fun r st1 h1 hr => ?_
      obtain ⟨r, rfl, _, _⟩ := hr
      simp [cmpD]
      by_cases hr0 : r = 0
      · rw [if_pos hr0]
        exact wp_ret h1 (.inl ⟨_, rfl, .inl ⟨rfl, rfl⟩⟩)
      · rw [if_neg hr0]
        exact wp_ret h1 (.inr rfl)
  rcases hp with ⟨d, rfl, hd⟩ | rfl
  · exact wp_ret h1 ⟨d, rfl, hd⟩
  show Wp l (exSs (fr (n + 2) L) [some (.ref l), some (.tup [S s, .bl may])] _) _ st1
  rcases hs with rfl | rfl
  · simp [idxD, ixAt, eq_str]
    refine wp_thn (wp_roll h1 (by omega)) fun r st2 h2 hr => ?_
    obtain ⟨r, rfl, h3, h4⟩ := hr
    try simp
    exact wp_ret h2 ⟨_, rfl, .inr (.inl ⟨rfl, r, rfl, by omega, by omega⟩)⟩
  · simp [idxD, ixAt, eq_str, okSize]
    refine wp_thn (wp_some h1 (by simp) (by simp)) fun v st2 h2 hv => ?_
    try simp
    simp only [List.mem_cons, List.not_mem_nil, or_false] at hv
    exact wp_ret h2 ⟨_, rfl, .inr (.inr ⟨rfl, hv⟩)⟩
/-- columns that are drawn -/
inductive Cs : List D → Prop
  | nil : Cs []
  | cons {s : String} {may : Bool} {ys : List D} (hs : s = "int" ∨ s = "word") (r : Cs ys) : Cs (.tup [S s, .bl may] :: ys)
inductive All2 (P : D → D → Prop) : List D → List D → Prop
  | nil : All2 P [] []
  | cons {x y : D} {xs ys : List D} (h : P x y) (r : All2 P xs ys) : All2 P (x :: xs) (y :: ys)
/-- a list of draws, one each -/
theorem wp_loop {l : Nat} {f : D → M (List D)} {P : D → D → Prop} : ∀ {xs : List D} {st : Store}, Cup st l → (∀ x ∈ xs, ∀ st, Cup st l → Wp l (f x) (fun ys => ∃ y, ys = [y] ∧ P x y) st) → Wp l (loopC f xs) (fun ys => All2 P xs ys) st
  | [], st, h, _ => wp_ret h .nil
  | x :: xs, st, h, k => by
    rw [loopC]
    refine wp_thn (k x List.mem_cons_self st h) fun ys st1 h1 hy => ?_
    obtain ⟨y, rfl, hy⟩ := hy
    refine wp_thn (wp_loop h1 fun x hx => k x (List.mem_cons_of_mem _ hx)) fun zs st2 h2 hz => ?_
    exact wp_ret h2 (.cons hy hz)
theorem All2.len {P : D → D → Prop} {xs ys : List D} (h : All2 P xs ys) : ys.length = xs.length := by
  induction h with
  | nil => rfl
  | cons h r ih => simp [ih]
theorem All2.at {P : D → D → Prop} {xs ys : List D} (h : All2 P xs ys) : ∀ (i : Nat) (x : D), xs[i]? = some x → ∃ y, ys[i]? = some y ∧ P x y := by
  induction h with
  | nil => intro i x e; simp at e
  | cons h r ih =>
    intro i x e
    cases i with
    | zero =>
      have e1 := Option.some.inj e
      subst e1
      exact ⟨_, rfl, h⟩
    | succ i => exact ih i x (by simpa using e)
/-- the cells of a row behind its key -/
theorem cells_of {ys vs : List D} (hc : Cs ys) : All2 (fun y v => ∀ s may, y = .tup [S s, .bl may] → Cell1 s may v) ys vs → Row1 ys vs := by
  induction hc generalizing vs with
  | nil => intro h; cases h; exact .nil
  | @cons s may ys hs r ih =>
    intro h
    cases h with
    | cons h1 h2 => exact .cons (h1 s may rfl) (ih h2)
theorem Cs.mem {ys : List D} (h : Cs ys) : ∀ y ∈ ys, ∃ s may, (s = "int" ∨ s = "word") ∧ y = .tup [S s, .bl may] := by
  induction h with
  | nil => intro y hy; cases hy
  | @cons s may ys hs r ih =>
    intro y hy
    rcases List.mem_cons.mp hy with rfl | hy
    · exact ⟨s, may, hs, rfl⟩
    · exact ih y hy
end K22
set_option linter.all false
set_option maxRecDepth 100000
set_option maxHeartbeats 4000000
namespace K22
open Ev PySem
abbrev asc := ascI
def prs : List Int → List Bool
  | a :: b :: r => decide (a < b) :: prs (b :: r)
  | _ => []
theorem prs_all : ∀ ks : List Int, (prs ks).all id = ascI ks
  | [] => rfl
  | [_] => rfl
  | a :: b :: r => by
    show (decide (a < b) && (prs (b :: r)).all id) = _
    rw [prs_all (b :: r)]; rfl
/-- rows by their keys -/
inductive Rws (ys : List D) : List Int → List D → Prop
  | nil : Rws ys [] []
  | cons {k : Int} {vs : List D} {ks : List Int} {rows : List D} (h : Row1 ys (.int k :: vs)) (r : Rws ys ks rows) : Rws ys (k :: ks) (.tup (.int k :: vs) :: rows)
theorem Rws.len {ys : List D} {ks : List Int} {rows : List D} (h : Rws ys ks rows) : rows.length = ks.length := by
  induction h with
  | nil => rfl
  | cons h r ih => simp [ih]
theorem Rws.append {ys : List D} {ks ls : List Int} {rows more : List D} (h : Rws ys ks rows) (g : Rws ys ls more) : Rws ys (ks ++ ls) (rows ++ more) := by
  induction h with
  | nil => exact g
  | cons h r ih => exact .cons h ih
theorem Rws.reverse {ys : List D} {ks : List Int} {rows : List D} (h : Rws ys ks rows) : Rws ys ks.reverse rows.reverse := by
  induction h with
  | nil => exact .nil
  | cons h r ih =>
    rw [List.reverse_cons, List.reverse_cons]
    exact ih.append (.cons h .nil)
theorem Rws.take {ys : List D} {ks : List Int} {rows : List D} (h : Rws ys ks rows) : Rws ys (ks.take 1) (rows.take 1) := by
  cases h with
  | nil => exact .nil
  | cons h r => exact .cons h .nil
theorem rfits_loop {n l : Nat} {ys : List D} (hl : ys.length ≤ 6) {b d : Option D} {ks : List Int} {rows : List D} (h : Rws ys ks rows) :
    loopC (fun x => match setTg (.name 2) x [some (.tup ys), b, none, d] with
      | some σ => M.thn (evC (fr (n + 4) l) σ .no) fun k => if k then M.thn (evE (fr (n + 4) l) σ (.call 55 (.cons (.var 0) (.cons (.var 2) .nil)))) fun y => M.ret [y] else M.ret []
      | none => M.bad) rows = M.ret (rows.map fun _ => .bl true) := by
  induction h with
  | nil => rfl
  | @cons k vs ks rows h r ih =>
    have q : cl (n + 4) 55 [.tup ys, .tup (.int k :: vs)] = M.ret (.bl true) := fits_row_ok h hl
    rw [loopC, ih]
    have q2 : evE (fr (n + 4) l) [some (.tup ys), b, some (.tup (.int k :: vs)), d] (.call 55 (.cons (.var 0) (.cons (.var 2) .nil))) = M.ret (.bl true) := by
      simp [q]
    show M.thn (M.thn (evC (fr (n + 4) l) [some (.tup ys), b, some (.tup (.int k :: vs)), d] .no) fun k' => if k' then M.thn (evE (fr (n + 4) l) [some (.tup ys), b, some (.tup (.int k :: vs)), d] (.call 55 (.cons (.var 0) (.cons (.var 2) .nil)))) fun y => M.ret [y] else M.ret []) _ = _
    rw [q2]
    rfl
abbrev ascE : E := (.cmp .Lt (.idx (.var 2) (.const (.int 0))) (.idx (.var 3) (.const (.int 0))))
theorem asc_loop {C : Cfg} {ys : List D} {a b : Option D} {ks : List Int} {rows : List D} (h : Rws ys ks rows) :
    loopC (fun x => match setTg (.two (.name 2) (.name 3)) x [a, b, none, none] with
      | some σ => M.thn (evC C σ .no) fun k => if k then M.thn (evE C σ ascE) fun y => M.ret [y] else M.ret []
      | none => M.bad) (pairUp rows rows.tail) = M.ret ((prs ks).map .bl) := by
  induction h with
  | nil => rfl
  | @cons k vs ks rows h r ih =>
    cases r with
    | nil => rfl
    | @cons k2 vs2 ks2 rows2 h2 r2 =>
      have ih' := ih
      rw [List.tail_cons, pairUp, loopC]
      rw [List.tail_cons] at ih'
      rw [ih']
      have q : evE C [a, b, some (.tup (.int k :: vs)), some (.tup (.int k2 :: vs2))] ascE = M.ret (.bl (decide (k < k2))) := by
        simp [idxD, ixAt, cmpD, ltD]
      show M.thn (M.thn (evC C [a, b, some (.tup (.int k :: vs)), some (.tup (.int k2 :: vs2))] .no) fun k' => if k' then M.thn (evE C [a, b, some (.tup (.int k :: vs)), some (.tup (.int k2 :: vs2))] ascE) fun y => M.ret [y] else M.ret []) _ = _
      rw [q]
      rfl
end K22
set_option linter.all false
set_option maxRecDepth 100000
set_option maxHeartbeats 4000000
namespace K22
open Ev PySem
theorem allB_bls : ∀ bs : List Bool, allB (bs.map .bl) = some bs
  | [] => rfl
  | b :: bs => by
    show (allB (bs.map .bl)).map (b :: ·) = _
    rw [allB_bls bs]; rfl
theorem all_bls (bs : List Bool) : bltD .all (.lst (bs.map .bl)) = some (.bl (bs.all id)) := by
  show (allB _).map _ = _
  rw [allB_bls]; rfl
theorem prs_len : ∀ ks : List Int, (prs ks).length ≤ ks.length
  | [] => Nat.le_refl _
  | [_] => Nat.zero_le _
  | a :: b :: r => by
    have := prs_len (b :: r)
    show (prs (b :: r)).length + 1 ≤ _
    rw [List.length_cons]; omega
abbrev fitN : N := (.comp [2] (.call 55 (.cons (.var 0) (.cons (.var 2) .nil))) (.name 2) (.val (.var 1)) .no)
abbrev ascN : N := (.comp [2, 3] ascE (.two (.name 2) (.name 3)) (.zip (.var 1) (.slc (.var 1) (.is (.const (.int 1))) .no)) .no)
abbrev f0 : Ev.S := (.iff (.or (.not (.call 1 (.cons (.var 1) (.cons (.const (.int 0)) (.cons (.gc "ROWS" c_ROWS) .nil))))) (.not (.blt .all (.new fitN)))) (.cons (.ret (.const (.bl false))) .nil) .nil)
abbrev f1 : Ev.S := (.ret (.blt .all (.new ascN)))
theorem fits_rows_ok {n : Nat} {ys : List D} (hl : ys.length ≤ 6) {ks : List Int} {rows : List D} (h : Rws ys ks rows) (hr : ks.length ≤ 60) : cl (n + 5) 73 [.tup ys, .tup rows] = M.ret (.bl (ascI ks)) := by
  have hlen := h.len
  have e1 : cl (n + 4) 1 [.tup rows, .int 0, .int 60] = M.ret (.bl true) := by
    rw [is_tuple_of_tup]
    have h1 : (0 : Int) ≤ rows.length := by omega
    have h2 : (rows.length : Int) ≤ 60 := by omega
    simp [h1, h2]
  funext st
  rw [cl_run (F := F_fits_rows) rfl _ _ rfl]
  have e2 := rfits_loop (n := n) (l := st.length) hl (b := some (.tup rows)) (d := none) h
  have e3 := asc_loop (C := fr (n + 4) st.length) (a := some (.tup ys)) (b := some (.tup rows)) h
  have g1 : evN (fr (n + 4) st.length) [some (.tup ys), some (.tup rows), none, none] fitN = M.ret (rows.map fun _ => .bl true) := by
    have it : evIt (fr (n + 4) st.length) [some (.tup ys), some (.tup rows), none, none] (.val (.var 1)) = M.ret rows := by
      simp [walkD]
    have hz : okSize rows.length = true := by simp [okSize]; omega
    rw [evN, it, s_ret]
    rw [show wipeE [some (.tup ys), some (.tup rows), none, none] [2] = [some (.tup ys), some (.tup rows), none, none] from rfl]
    refine (congrArg (fun z : M (List D) => M.calm (M.thn z fun ys => if okSize ys.length then M.ret ys else M.bad)) e2).trans ?_
    simp [hz]
  have g2 : evN (fr (n + 4) st.length) [some (.tup ys), some (.tup rows), none, none] ascN = M.ret ((prs ks).map .bl) := by
    have it : evIt (fr (n + 4) st.length) [some (.tup ys), some (.tup rows), none, none] (.zip (.var 1) (.slc (.var 1) (.is (.const (.int 1))) .no)) = M.ret (pairUp rows rows.tail) := by
      have e : cutL rows (some 1) none = rows.tail := by
        cases rows with
        | nil => rfl
        | cons r rs => simp [cutL, cutAt]
      simp [zipD, slcD, e]
    have hz : okSize (prs ks).length = true := by have := prs_len ks; simp [okSize]; omega
    rw [evN, it, s_ret]
    rw [show wipeE [some (.tup ys), some (.tup rows), none, none] [2, 3] = [some (.tup ys), some (.tup rows), none, none] from rfl]
    refine (congrArg (fun z : M (List D) => M.calm (M.thn z fun ys => if okSize ys.length then M.ret ys else M.bad)) e3).trans ?_
    simp [hz]
  have a1 : bltD .all (.lst (rows.map fun _ => .bl true)) = some (.bl true) := by
    have := all_bls (rows.map fun _ => true)
    rw [List.map_map] at this
    have e : (rows.map fun _ => true).all id = true := by
      rw [List.all_eq_true]
      intro x hx
      obtain ⟨_, _, rfl⟩ := List.mem_map.mp hx
      rfl
    rw [e] at this
    exact this
  have a2 := all_bls (prs ks)
  rw [prs_all] at a2
  have s0 : exS (fr (n + 4) st.length) [some (.tup ys), some (.tup rows), none, none] f0 = M.ret (.next [some (.tup ys), some (.tup rows), none, none]) := by
    simp only [f0, exS, evE, evEs, g1, s_ret, s_assoc]
    simp [c_ROWS, e1, a1]
  have s1 : exS (fr (n + 4) st.length) [some (.tup ys), some (.tup rows), none, none] f1 = M.ret (.ret (.bl (ascI ks))) := by
    simp only [f1, exS, evE, evEs, g2, s_ret, s_assoc]
    simp [a2]
  have b : exSs (fr (n + 4) st.length) [some (.tup ys), some (.tup rows), none, none] F_fits_rows.body = M.ret (.ret (.bl (ascI ks))) := by
    show exSs _ _ (.cons f0 (.cons f1 .nil)) = _
    rw [sqM s0, sqR s1]
  refine (congrArg (fin st.length) (congrFun b st)).trans ?_
  simp [M.ret, fin, leave]
abbrev tabN : N := (.comp [3, 4] (.call 73 (.cons (.idx (.var 3) (.const (.int 0))) (.cons (.var 4) .nil))) (.two (.name 3) (.name 4)) (.zip (.var 0) (.var 1)) .no)
theorem fits_state_ok {n : Nat} {b : Bool} {r0 r1 : D} {ks ls : List Int} {rows more : List D} (h : Rws (cols0 b) ks rows) (g : Rws cols1 ls more) (hk : ks.length ≤ 60) (hl : ls.length ≤ 60) : cl (n + 6) 74 [schemaD b r0 r1, .tup [.tup rows, .tup more]] = M.ret (.bl (ascI ks && ascI ls)) := by
  have q1 : cl (n + 5) 73 [.tup (cols0 b), .tup rows] = M.ret (.bl (ascI ks)) := fits_rows_ok (by simp) h hk
  have q2 : cl (n + 5) 73 [.tup cols1, .tup more] = M.ret (.bl (ascI ls)) := fits_rows_ok (by simp) g hl
  have e1 : cl (n + 5) 1 [.tup [.tup rows, .tup more], .int 2, .int 2] = M.ret (.bl true) := by
    rw [is_tuple_of_tup]; simp
  have a := all_bls [ascI ks, ascI ls]
  simp only [List.map_cons, List.map_nil, List.all_cons, List.all_nil, id, Bool.and_true] at a
  funext st
  rw [cl_run (F := F_fits_state) rfl _ _ rfl]
  have g1 : evN (fr (n + 5) st.length) [some (schemaD b r0 r1), some (.tup [.tup rows, .tup more]), some (.int 2), none, none] tabN = M.ret [.bl (ascI ks), .bl (ascI ls)] := by
    simp [zipD, pairUp, loopC, idxD, ixAt, q1, q2, okSize]
  have s0 : exS (fr (n + 5) st.length) [some (schemaD b r0 r1), some (.tup [.tup rows, .tup more]), none, none, none] (.asg (.name 2) (.blt .len (.var 0))) = M.ret (.next [some (schemaD b r0 r1), some (.tup [.tup rows, .tup more]), some (.int 2), none, none]) := by
    simp [bltD]
  have s1 : exS (fr (n + 5) st.length) [some (schemaD b r0 r1), some (.tup [.tup rows, .tup more]), some (.int 2), none, none] (.iff (.not (.call 1 (.cons (.var 1) (.cons (.var 2) (.cons (.var 2) .nil))))) (.cons (.ret (.const (.bl false))) .nil) .nil) = M.ret (.next [some (schemaD b r0 r1), some (.tup [.tup rows, .tup more]), some (.int 2), none, none]) := by
    simp [e1]
  have s2 : exS (fr (n + 5) st.length) [some (schemaD b r0 r1), some (.tup [.tup rows, .tup more]), some (.int 2), none, none] (.ret (.blt .all (.new tabN))) = M.ret (.ret (.bl (ascI ks && ascI ls))) := by
    simp only [exS, evE, evEs, g1, s_ret, s_assoc]
    simp [a]
  have b' : exSs (fr (n + 5) st.length) [some (schemaD b r0 r1), some (.tup [.tup rows, .tup more]), none, none, none] F_fits_state.body = M.ret (.ret (.bl (ascI ks && ascI ls))) := by
    show exSs _ _ (.cons _ (.cons _ (.cons _ .nil))) = _
    rw [sqM s0, sqM s1]
    exact sqR s2
  refine (congrArg (fin st.length) (congrFun b' st)).trans ?_
  simp [M.ret, fin, leave]
end K22
set_option linter.all false
set_option maxRecDepth 100000
set_option maxHeartbeats 4000000
namespace K22
open Ev PySem
/-- below L all is as it was, but for the cup at l -/
structure Drn (l L : Nat) (st st' : Store) : Prop where
  cup : Cup st' l
  lt : l < L
  len : L ≤ st'.length
  same : ∃ c, st'.take L = (st.take L).set l c
def WpS {α : Type} (l L : Nat) (x : M α) (Q : α → Store → Prop) (st : Store) : Prop := ∃ a st', x st = .ok a st' ∧ Drn l L st st' ∧ Q a st'
theorem Drn.trans {l L : Nat} {st st' st'' : Store} (h : Drn l L st st') (g : Drn l L st' st'') : Drn l L st st'' := by
  obtain ⟨c, e⟩ := h.same
  obtain ⟨d, e'⟩ := g.same
  exact ⟨g.cup, g.lt, g.len, d, by rw [e', e, List.set_set]⟩
theorem Drn.refl {l L : Nat} {st : Store} (h : Cup st l) (hl : l < L) (hL : L ≤ st.length) : Drn l L st st := by
  have h0 := h
  obtain ⟨a, b, hc, _⟩ := h
  obtain ⟨hi, e⟩ := List.getElem?_eq_some_iff.mp hc
  refine ⟨h0, hl, hL, st[l], ?_⟩
  have e2 : (st.take L)[l]? = some st[l] := by rw [List.getElem?_take_of_lt hl, List.getElem?_eq_getElem hi]
  obtain ⟨hi2, e3⟩ := List.getElem?_eq_some_iff.mp e2
  rw [← e3, List.set_getElem_self]
theorem wps_ret {α : Type} {l L : Nat} {a : α} {Q : α → Store → Prop} {st : Store} (h : Cup st l) (hl : l < L) (hL : L ≤ st.length) (q : Q a st) : WpS l L (M.ret a) Q st := ⟨a, st, rfl, .refl h hl hL, q⟩
theorem wps_thn {α β : Type} {l L : Nat} {x : M α} {f : α → M β} {P : α → Store → Prop} {Q : β → Store → Prop} {st : Store} (h : WpS l L x P st) (k : ∀ a st', Cup st' l → L ≤ st'.length → P a st' → WpS l L (f a) Q st') : WpS l L (M.thn x f) Q st := by
  obtain ⟨a, st', e, d, p⟩ := h
  obtain ⟨b, st'', e2, d2, q⟩ := k a st' d.cup d.len p
  refine ⟨b, st'', ?_, d.trans d2, q⟩
  rw [a_thn, e]
  exact e2
theorem WpS.mono {α : Type} {l L : Nat} {x : M α} {P Q : α → Store → Prop} {st : Store} (h : WpS l L x P st) (k : ∀ a st', P a st' → Q a st') : WpS l L x Q st := let ⟨a, st', e, d, p⟩ := h; ⟨a, st', e, d, k a st' p⟩
theorem Drawn.drn {l L : Nat} {st st' : Store} (h : Drawn l st st') (hl : l < L) (hL : L ≤ st.length) : Drn l L st st' := by
  obtain ⟨c, e⟩ := h.same
  exact ⟨h.cup, hl, by rw [h.len]; exact hL, c, by rw [e, List.take_set]⟩
theorem Wp.s {α : Type} {l L : Nat} {x : M α} {P : α → Prop} {st : Store} (h : Wp l x P st) (hl : l < L) (hL : L ≤ st.length) : WpS l L x (fun a st' => P a ∧ ∃ c, st' = st.set l c) st := by
  obtain ⟨a, st', e, d, p⟩ := h
  exact ⟨a, st', e, d.drn hl hL, p, d.same⟩
/-- a def whose own cells are let go -/
theorem wps_def {n f l : Nat} {F : Fn} {as : List D} {Q : D → Prop} {st : Store} (h : Pp.find f = some F) (hl : as.length = F.ps.length)
    (k : WpS l st.length (exSs ⟨fun g xs => cl n g xs, st.length, fuel, T.exmF⟩ (as.map some ++ List.replicate (F.slots.length - as.length) none) F.body) (fun fl _ => ∃ d, fl = .ret d ∧ d.plain = true ∧ Q d) st) : Wp l (cl (n + 1) f as) Q st := by
  obtain ⟨fl, st', e, dr, d, rfl, pl, q⟩ := k
  obtain ⟨c, es⟩ := dr.same
  have e2 : leave st.length d st' = .ok d (st'.take st.length) := by
    unfold leave
    split
    · rename_i hq
      rw [← hq, List.take_length]
    · first | rfl | rw [if_pos pl]
  refine ⟨d, st'.take st.length, ?_, ⟨?_, c, ?_⟩, q⟩
  · rw [cl_run h _ _ hl, e]
    exact e2
  · obtain ⟨a, b, h1, h2⟩ := dr.cup
    exact ⟨a, b, by rw [List.getElem?_take_of_lt dr.lt]; exact h1, h2⟩
  · rw [es, List.take_length]
theorem wps_seq {C : Cfg} {ρ : Ev.Env} {s : Ev.S} {ss : Ss} {l L : Nat} {P Q : Ev.Flow → Store → Prop} {st : Store} (h : WpS l L (exS C ρ s) P st) (k : ∀ fl st', Cup st' l → L ≤ st'.length → P fl st' → WpS l L (flowK (fun ρ => exSs C ρ ss) fl) Q st') : WpS l L (exSs C ρ (.cons s ss)) Q st := by
  rw [show exSs C ρ (.cons s ss) = M.thn (exS C ρ s) (flowK fun ρ => exSs C ρ ss) from congrFun (cons_eq C s ss) ρ]
  exact wps_thn h k
/-- a loop whose turns go on, by an invariant -/
theorem wps_for {l L : Nat} {f : D → Ev.Env → M Ev.Flow} : ∀ {vs : List D} {k : Nat} (I : Nat → Ev.Env → Store → Prop), (∀ i v, vs[i]? = some v → ∀ ρ st, Cup st l → L ≤ st.length → I (k + i) ρ st → WpS l L (f v ρ) (fun fl st' => ∃ ρ', fl = .next ρ' ∧ I (k + i + 1) ρ' st') st) →
    ∀ {ρ : Ev.Env} {st : Store}, Cup st l → l < L → L ≤ st.length → I k ρ st → WpS l L (forL f vs ρ) (fun fl st' => ∃ ρ', fl = .next ρ' ∧ I (k + vs.length) ρ' st') st
  | [], k, I, _, ρ, st, h, hl, hL, h0 => wps_ret h hl hL ⟨ρ, rfl, h0⟩
  | v :: vs, k, I, hs, ρ, st, h, hl, hL, h0 => by
    rw [forL]
    refine wps_thn (hs 0 v rfl ρ st h hL h0) fun fl st' h' hL' hp => ?_
    obtain ⟨ρ', rfl, h1⟩ := hp
    have := wps_for (vs := vs) (k := k + 1) I (fun i w hw ρ st h hL h0 => by
      have := hs (i + 1) w (by simpa using hw) ρ st h hL (by rw [show k + (i + 1) = k + 1 + i from by omega]; exact h0)
      rw [show k + (i + 1) = k + 1 + i from by omega] at this
      exact this) h' hl hL' h1
    rw [List.length_cons, show k + (vs.length + 1) = k + 1 + vs.length from by omega]
    exact this
/-- a comprehension that draws, one each -/
theorem wp_comp {l : Nat} {C : Cfg} {ρ : Ev.Env} {own : List Nat} {elt : E} {tg : Tg} {it : It} {xs : List D} {P : D → D → Prop} {st : Store} (hit : evIt C ρ it = M.ret xs) (hz : okSize xs.length = true) (hc : Cup st l)
    (h : ∀ x ∈ xs, ∀ st, Cup st l → ∃ σ, setTg tg x (wipeE ρ own) = some σ ∧ Wp l (evE C σ elt) (P x) st) : Wp l (evN C ρ (.comp own elt tg it .no)) (fun ys => All2 P xs ys) st := by
  rw [comp_eq, hit, s_ret]
  refine wp_calm (wp_thn (wp_loop (P := P) hc fun x hx st' h' => ?_) fun ys st1 h1 hy => ?_)
  · obtain ⟨σ, e, w⟩ := h x hx st' h'
    unfold turnN
    rw [e]
    show Wp l (M.thn (evE C σ elt) fun y => M.ret [y]) _ st'
    exact wp_thn w fun y st2 h2 hp => wp_ret h2 ⟨y, rfl, hp⟩
  · rw [if_pos (by rw [hy.len]; exact hz)]
    exact wp_ret h1 hy
/-- a table of a schema, but for its key's column -/
abbrev Tab := List D × D
def Tab.d (t : Tab) : D := .tup [.tup (intF :: t.1), t.2]
/-- rows that are drawn for a table -/
def RowsOf (ys rows : List D) : Prop := ∃ ks, Rws (intF :: ys) ks rows ∧ ascI ks = true ∧ ks.length ≤ 59 ∧ ∀ k ∈ ks, 0 ≤ k ∧ k < 10
inductive Sts : List Tab → List D → Prop
  | nil : Sts [] []
  | cons {t : Tab} {ts : List Tab} {rows : List D} {more : List D} (h : RowsOf t.1 rows) (r : Sts ts more) : Sts (t :: ts) (.tup rows :: more)
theorem Sts.snoc {ts : List Tab} {more : List D} (h : Sts ts more) {t : Tab} {rows : List D} (g : RowsOf t.1 rows) : Sts (ts ++ [t]) (more ++ [.tup rows]) := by
  induction h with
  | nil => exact .cons g .nil
  | cons h r ih => exact .cons h ih
theorem cell1_plain {s : String} {may : Bool} {v : D} (h : Cell1 s may v) : v.plain = true := by
  rcases h with ⟨_, rfl⟩ | ⟨_, i, rfl, _⟩ | ⟨_, rfl | rfl | rfl | rfl⟩ <;> rfl
theorem row1_plain {ys vs : List D} (h : Row1 ys vs) : D.plains vs = true := by
  induction h with
  | nil => rfl
  | cons h r ih => rw [D.plains, cell1_plain h, ih]; rfl
theorem rws_plain {ys : List D} {ks : List Int} {rows : List D} (h : Rws ys ks rows) : D.plains rows = true := by
  induction h with
  | nil => rfl
  | cons h r ih => rw [D.plains, D.plain, row1_plain h, ih]; rfl
theorem sts_plain {ts : List Tab} {more : List D} (h : Sts ts more) : D.plains more = true := by
  induction h with
  | nil => rfl
  | cons h r ih =>
    obtain ⟨ks, h, _⟩ := h
    rw [D.plains, D.plain, rws_plain h, ih]; rfl
end K22
set_option linter.all false
set_option maxRecDepth 100000
set_option maxHeartbeats 4000000
namespace K22
open Ev PySem
abbrev lsS (l : Nat) (tb sch : D) (m : Int) (c r k : Option D) : Ev.Env := [some (.ref l), some sch, some (.int m), some tb, c, r, k, none, none, none]
abbrev keyN : N := (.comp [7] (.call 30 (.cons (.var 0) (.cons (.bin .Add (.var 2) (.const (.int 2))) .nil))) (.name 7) (.rng1 (.call 30 (.cons (.var 0) (.cons (.bin .Add (.var 2) (.const (.int 1))) .nil)))) .no)
theorem rngUp_len : ∀ (n : Nat) (lo : Int), (rngUp lo n).length = n
  | 0, _ => rfl
  | n + 1, lo => by rw [rngUp, List.length_cons, rngUp_len n]
/-- ints that are drawn, as many as there are turns -/
def IntsD (m : Int) (ys : List D) : Prop := ∃ is : List Int, ys = is.map .int ∧ ∀ k ∈ is, 0 ≤ k ∧ k < m
theorem ints_all2 {m : Int} {xs ys : List D} (h : All2 (fun _ y => ∃ r : Int, y = .int r ∧ 0 ≤ r ∧ r < m) xs ys) : IntsD m ys := by
  induction h with
  | nil => exact ⟨[], rfl, fun k hk => by cases hk⟩
  | cons h rest ih =>
    obtain ⟨r, rfl, h1, h2⟩ := h
    obtain ⟨is, rfl, h3⟩ := ih
    refine ⟨r :: is, rfl, fun k hk => ?_⟩
    rcases List.mem_cons.mp hk with rfl | hk
    · exact ⟨h1, h2⟩
    · exact h3 k hk
/-- keys: ascending -/
def KeysD (m : Int) (d : D) : Prop := ∃ ks : List Int, d = .lst (ks.map .int) ∧ ascI ks = true ∧ (ks.length : Int) ≤ m ∧ ∀ k ∈ ks, 0 ≤ k ∧ k < m + 2
theorem wp_keys {n B l : Nat} {tb sch : D} {m : Int} (hm : 0 ≤ m ∧ m ≤ 50) {c r k : Option D} {st : Store} (h : Cup st l) : Wp l (evE (fr (n + 1) B) (lsS l tb sch m c r k) (.srt (.new keyN))) (KeysD m) st := by
  rw [evE]
  refine wp_thn (P := fun d => ∃ is : List Int, d = .lst (is.map .int) ∧ (is.length : Int) ≤ m ∧ ∀ k ∈ is, 0 ≤ k ∧ k < m + 2) ?_ fun d st1 h1 hd => ?_
  · rw [evE, comp_eq, s_assoc]
    refine wp_thn (P := fun xs => (xs.length : Int) ≤ m) ?_ fun xs st1 h1 hx => ?_
    · simp [binD]
      refine wp_thn (wp_roll h (by omega)) fun d st1 h1 hr => ?_
      obtain ⟨r, rfl, h2, h3⟩ := hr
      have e : okRng r = true := by simp [okRng]; omega
      simp only [e, if_true]
      refine wp_ret h1 ?_
      rw [rngUp_len]; omega
    · have hz : okSize xs.length = true := okz_lt (by omega)
      refine wp_thn (P := fun ys => (∃ is : List Int, ys = is.map .int ∧ (is.length : Int) ≤ m ∧ ∀ k ∈ is, 0 ≤ k ∧ k < m + 2)) (wp_calm (wp_thn (wp_loop (P := fun _ y => ∃ r : Int, y = .int r ∧ 0 ≤ r ∧ r < m + 2) h1 fun x hx st' h' => ?_) fun ys st2 h2 hy => ?_)) fun ys st2 h2 hy => ?_
      · show Wp l (M.thn (evC (fr (n + 1) B) ((lsS l tb sch m c r k).set 7 (some x)) .no) fun b => if b then M.thn (evE (fr (n + 1) B) ((lsS l tb sch m c r k).set 7 (some x)) (.call 30 (.cons (.var 0) (.cons (.bin .Add (.var 2) (.const (.int 2))) .nil)))) fun y => M.ret [y] else M.ret []) _ st'
        simp [binD]
        refine wp_thn (wp_roll h' (by omega)) fun d st1 h1 hr => ?_
        exact wp_ret h1 ⟨d, rfl, hr⟩
      · rw [if_pos (by rw [hy.len]; exact hz)]
        have hl := hy.len
        obtain ⟨is, rfl, hi⟩ := ints_all2 hy
        rw [List.length_map] at hl
        exact wp_ret h2 ⟨is, rfl, by omega, hi⟩
      · obtain ⟨is, rfl, hl, hi⟩ := hy
        exact wp_ret h2 ⟨is, rfl, hl, hi⟩
  · obtain ⟨is, rfl, hl, hi⟩ := hd
    have e : srtD (.lst (is.map .int)) = some (.lst ((sortU is).map .int)) := by
      have h64 : is.length < 64 := by omega
      simp [srtD, Ev.allI_map, h64]
    refine ⟨.lst ((sortU is).map .int), st1, ?_, .refl h1, sortU is, rfl, asc_sortU is, ?_, fun k hk => hi k (memU_sort hk)⟩
    · show M.ofO (srtD (.lst (is.map .int))) st1 = _
      rw [e]; rfl
    · have := len_sortU is
      omega
abbrev rowE2 : E := (.bin .Add (.tup (.cons (.var 8) .nil)) (.blt .tuple (.new (.comp [9] (.call 67 (.cons (.var 0) (.cons (.var 9) .nil))) (.name 9) (.val (.slc (.var 4) (.is (.const (.int 1))) .no)) .no))))
/-- the cells of columns, drawn -/
theorem wp_cells {n l B : Nat} {ρ : Ev.Env} {ys : List D} {own : List Nat} {elt e : E} {i : Nat} (hc : Cs ys) (hl : ys.length ≤ 6) (he : evIt (fr (n + 3) B) ρ (.val e) = M.ret ys)
    (hx : ∀ x, evE (fr (n + 3) B) ((wipeE ρ own).set i (some x)) elt = cl (n + 3) 67 [.ref l, x]) {st : Store} (h : Cup st l) :
    Wp l (evN (fr (n + 3) B) ρ (.comp own elt (.name i) (.val e) .no)) (Row1 ys) st := by
  refine (wp_comp (P := fun y v => ∀ s may, y = .tup [S s, .bl may] → Cell1 s may v) he (okz_lt (by omega)) h fun x hm st' h' => ⟨_, rfl, ?_⟩).mono fun vs h => cells_of hc h
  obtain ⟨s, may, hs, rfl⟩ := hc.mem x hm
  rw [hx]
  refine (wp_value hs h').mono fun v hv s' may' e => ?_
  have e2 : S s = S s' ∧ D.bl may = D.bl may' := by simpa using e
  have e3 : s = s' := ofS_inj (by simpa using e2.1)
  have e4 : may = may' := by simpa using e2.2
  subst e3; subst e4
  exact hv
theorem wp_row2 {n B l : Nat} {tb sch : D} {m : Int} {r k6 : Option D} {ys : List D} (hc : Cs ys) (hl : ys.length ≤ 5) {k : Int} (hk : -1000000000 ≤ k ∧ k ≤ 1000000000) {st : Store} (h : Cup st l) :
    Wp l (evE (fr (n + 3) B) [some (.ref l), some sch, some (.int m), some tb, some (.tup (intF :: ys)), r, k6, none, some (.int k), none] rowE2) (fun d => ∃ vs, d = .tup (.int k :: vs) ∧ Row1 (intF :: ys) (.int k :: vs)) st := by
  have he : evIt (fr (n + 3) B) [some (.ref l), some sch, some (.int m), some tb, some (.tup (intF :: ys)), r, k6, none, some (.int k), none] (.val (.slc (.var 4) (.is (.const (.int 1))) .no)) = M.ret ys := by
    simp [slcD, cutL, cutAt, walkD]
  rw [evE]
  have e1 : evE (fr (n + 3) B) [some (.ref l), some sch, some (.int m), some tb, some (.tup (intF :: ys)), r, k6, none, some (.int k), none] (.tup (.cons (.var 8) .nil)) = M.ret (.tup [.int k]) := by
    simp [okSize]
  rw [e1, s_ret, evE, evE, s_assoc, s_assoc]
  refine wp_thn (wp_cells (i := 9) hc (by omega) he (fun x => by simp) h) fun vs st1 h1 hv => ?_
  have hz : okSize (1 + vs.length) = true := by rw [hv.len]; exact okz_lt (by omega)
  have e2 : binD .Add (.tup [.int k]) (.tup vs) = some (.tup (.int k :: vs)) := by
    simp only [binD, List.length_cons, List.length_nil, Nat.zero_add, hz, if_true]
    rfl
  refine ⟨_, st1, ?_, .refl h1, vs, rfl, .cons (.inr (.inl ⟨rfl, k, rfl, hk⟩)) hv⟩
  show M.thn (M.ret (D.lst vs)) _ st1 = _
  rw [s_ret]
  show M.ofO (binD .Add (.tup [.int k]) (.tup vs)) st1 = _
  rw [e2]; rfl
theorem rws_of {ys rows : List D} {ks : List Int} (h : All2 (fun x d => ∀ k : Int, x = .int k → ∃ vs, d = .tup (.int k :: vs) ∧ Row1 ys (.int k :: vs)) (ks.map .int) rows) : Rws ys ks rows := by
  induction ks generalizing rows with
  | nil => cases h; exact .nil
  | cons k ks ih =>
    cases h with
    | cons h r =>
      obtain ⟨vs, rfl, hv⟩ := h k rfl
      exact .cons hv (ih r)
abbrev rowsE2 : E := (.blt .tuple (.new (.comp [8] rowE2 (.name 8) (.val (.var 6)) .no)))
theorem wp_rows2 {n B l : Nat} {tb sch : D} {m : Int} {r : Option D} {ys : List D} (hc : Cs ys) (hl : ys.length ≤ 5) {ks : List Int} (hk : ∀ k ∈ ks, 0 ≤ k ∧ k < 10) (hks : ks.length ≤ 59) (ha : ascI ks = true) {st : Store} (h : Cup st l) :
    Wp l (evE (fr (n + 3) B) (lsS l tb sch m (some (.tup (intF :: ys))) r (some (.lst (ks.map .int)))) rowsE2) (fun d => ∃ rows, d = .tup rows ∧ RowsOf ys rows) st := by
  rw [evE, evE, s_assoc]
  have it : evIt (fr (n + 3) B) (lsS l tb sch m (some (.tup (intF :: ys))) r (some (.lst (ks.map .int)))) (.val (.var 6)) = M.ret (ks.map .int) := by
    simp [walkD]
  refine wp_thn (wp_comp (P := fun x d => ∀ k : Int, x = .int k → ∃ vs, d = .tup (.int k :: vs) ∧ Row1 (intF :: ys) (.int k :: vs)) it (okz_lt (by rw [List.length_map]; omega)) h fun x hx st' h' => ⟨_, rfl, ?_⟩) fun rows st1 h1 hr => ?_
  · obtain ⟨k, hm, rfl⟩ := List.mem_map.mp hx
    refine (wp_row2 (k := k) hc hl (by have := hk k hm; omega) h').mono fun d hd k' e => ?_
    have : k = k' := by simpa using e
    subst this
    exact hd
  · rw [s_ret]
    exact ⟨.tup rows, st1, rfl, .refl h1, rows, rfl, ks, rws_of hr, ha, hks, hk⟩
end K22
set_option linter.all false
set_option maxRecDepth 100000
set_option maxHeartbeats 4000000
namespace K22
open Ev PySem
theorem Cup.lt {st : Store} {l : Nat} (h : Cup st l) : l < st.length := by
  obtain ⟨a, b, hl, _⟩ := h
  exact (List.getElem?_eq_some_iff.mp hl).1
theorem Cup.app {st : Store} {l : Nat} (h : Cup st l) (more : Store) : Cup (st ++ more) l := by
  have hl := h.lt
  obtain ⟨a, b, h1, h2⟩ := h
  exact ⟨a, b, by rw [List.getElem?_append_left hl]; exact h1, h2⟩
/-- an own cell is written -/
theorem Drn.own {l L : Nat} {st : Store} (h : Cup st l) (hl : l < L) (hL : L ≤ st.length) (c : Cell) : Drn l L st (st.set L c) := by
  refine ⟨?_, hl, by rw [List.length_set]; exact hL, ?_⟩
  · obtain ⟨a, b, h1, h2⟩ := h
    exact ⟨a, b, by rw [List.getElem?_set_ne (by omega)]; exact h1, h2⟩
  · obtain ⟨_, _, _, d, e⟩ := Drn.refl h hl hL
    exact ⟨d, by rw [List.take_set_of_le (by omega)]; exact e⟩
theorem Drn.new {l L : Nat} {st : Store} (h : Cup st l) (hl : l < L) (hL : L ≤ st.length) (more : Store) : Drn l L st (st ++ more) := by
  refine ⟨h.app more, hl, by rw [List.length_append]; omega, ?_⟩
  obtain ⟨_, _, _, d, e⟩ := Drn.refl h hl hL
  exact ⟨d, by rw [List.take_append_of_le_length hL]; exact e⟩
theorem app_run {C : Cfg} {ρ : Ev.Env} {i L : Nat} {e : E} {st st' : Store} {xs : List D} {d : D} (hi : ρ[i]? = some (some (.ref L))) (h0 : ∃ ys, st[L]? = some (.lst ys)) (he : evE C ρ e st = .ok d st') (h1 : st'[L]? = some (.lst xs)) (hz : okSize (xs.length + 1) = true) (hb : C.base ≤ L) :
    exS C ρ (.app (.var i) e) st = .ok (.next ρ) (st'.set L (.lst (xs ++ [d]))) := by
  obtain ⟨ys, h0⟩ := h0
  have e1 : lstAt (.ref L) st = .ok () st := by simp [lstAt, h0]
  have e2 : appD C (.ref L) d st' = .ok () (st'.set L (.lst (xs ++ [d]))) := by simp [appD, h1, hz, setCell, hb]
  rw [exS, evE, g_some hi, s_ret, s_ok e1, s_ok he, s_ok e2]
  rfl
abbrev stF : Ev.S := (.for (.two (.name 4) (.name 5)) (.val (.var 1)) (.cons (.asg (.name 6) (.srt (.new keyN))) (.cons (.app (.var 3) rowsE2) .nil)))
def StI (l L : Nat) (sch : D) (m : Int) (ts : List Tab) (k : Nat) (ρ : Ev.Env) (st : Store) : Prop := ∃ c r k6 sts, ρ = lsS l (.ref L) sch m c r k6 ∧ st.length = L + 1 ∧ st[L]? = some (.lst sts) ∧ Sts (ts.take k) sts
theorem keys_bd {m : Int} (hm : m ≤ 8) {ks : List Int} (h : ∀ k ∈ ks, 0 ≤ k ∧ k < m + 2) : ∀ k ∈ ks, 0 ≤ k ∧ k < 10 := fun k hk => by have := h k hk; omega
theorem st_turn {n l L : Nat} {m : Int} (hm : 0 ≤ m ∧ m ≤ 8) {ts : List Tab} (hts : ts.length ≤ 4) {i : Nat} {t : Tab} (hi : ts[i]? = some t) (hc : Cs t.1) (hl : t.1.length ≤ 5) {sch : D} {ρ : Ev.Env} {st : Store} (h : Cup st l) (hlL : l < L) (hI : StI l L sch m ts i ρ st) :
    WpS l L ((fun x ρ => match setTg (.two (.name 4) (.name 5)) x ρ with
      | some ρ => exSs (fr (n + 3) L) ρ (.cons (.asg (.name 6) (.srt (.new keyN))) (.cons (.app (.var 3) rowsE2) .nil))
      | none => M.bad) t.d ρ) (fun fl st' => ∃ ρ', fl = .next ρ' ∧ StI l L sch m ts (i + 1) ρ' st') st := by
  obtain ⟨c, r, k6, sts, rfl, hlen, hst, hs⟩ := hI
  show WpS l L (exSs (fr (n + 3) L) (lsS l (.ref L) sch m (some (.tup (intF :: t.1))) (some t.2) k6) _) _ st
  refine wps_seq (P := fun fl st' => ∃ ks : List Int, fl = .next (lsS l (.ref L) sch m (some (.tup (intF :: t.1))) (some t.2) (some (.lst (ks.map .int)))) ∧ ascI ks = true ∧ (ks.length : Int) ≤ m ∧ (∀ k ∈ ks, 0 ≤ k ∧ k < m + 2) ∧ st'.length = L + 1 ∧ st'[L]? = some (.lst sts)) ?_ fun fl st1 h1 hL1 hp => ?_
  · obtain ⟨d, st1, e, dr, ks, rfl, h1, h2, h3⟩ := wp_keys (n := n + 2) (B := L) (tb := .ref L) (sch := sch) (c := some (.tup (intF :: t.1))) (r := some t.2) (k := k6) ⟨hm.1, by omega⟩ h
    refine ⟨_, st1, ?_, dr.drn hlL (by omega), ks, rfl, h1, h2, h3, by rw [dr.len]; exact hlen, ?_⟩
    · rw [exS, s_ok e]; rfl
    · obtain ⟨cc, rfl⟩ := dr.same
      rw [List.getElem?_set_ne (by omega)]; exact hst
  obtain ⟨ks, rfl, k1, k2, k3, hlen1, hst1⟩ := hp
  show WpS l L (exSs (fr (n + 3) L) (lsS l (.ref L) sch m (some (.tup (intF :: t.1))) (some t.2) (some (.lst (ks.map .int)))) (.cons (.app (.var 3) rowsE2) .nil)) _ st1
  obtain ⟨d, st2, e, dr, rows, rfl, hr⟩ := wp_rows2 (n := n) (B := L) (tb := .ref L) (sch := sch) (m := m) (r := some t.2) hc hl (keys_bd hm.2 k3) (by omega) k1 h1
  have hst2 : st2[L]? = some (.lst sts) := by
    obtain ⟨cc, rfl⟩ := dr.same
    rw [List.getElem?_set_ne (by omega)]; exact hst1
  have hsl : sts.length ≤ 4 := by
    have : ∀ {a : List Tab} {b : List D}, Sts a b → b.length = a.length := fun h => by
      induction h with
      | nil => rfl
      | cons h r ih => simp [ih]
    rw [this hs, List.length_take]; omega
  have ea := app_run (C := fr (n + 3) L) (ρ := lsS l (.ref L) sch m (some (.tup (intF :: t.1))) (some t.2) (some (.lst (ks.map .int)))) (i := 3) rfl ⟨_, hst1⟩ e hst2 (okz_lt (by omega)) (Nat.le_refl _)
  have hl2 : st2.length = L + 1 := by rw [dr.len]; exact hlen1
  refine ⟨_, _, sq ea, (dr.drn hlL (by omega)).trans (Drn.own dr.cup hlL (by omega) _), _, rfl, _, _, _, _, rfl, ?_, List.getElem?_set_self (by omega), ?_⟩
  · rw [List.length_set]; exact hl2
  · rw [List.take_add_one, hi]
    exact hs.snoc hr
theorem wp_state {n l : Nat} {ts : List Tab} {m : Int} {st : Store} (h : Cup st l) (hm : 0 ≤ m ∧ m ≤ 8) (hts : ts.length ≤ 4) (hc : ∀ t ∈ ts, Cs t.1 ∧ t.1.length ≤ 5) :
    Wp l (cl (n + 4) 77 [.ref l, .tup (ts.map Tab.d), .int m]) (fun d => ∃ sts, d = .tup sts ∧ Sts ts sts) st := by
  refine wps_def (F := F__law_state) rfl rfl ?_
  have hlt := h.lt
  show WpS l st.length (exSs (fr (n + 3) st.length) [some (.ref l), some (.tup (ts.map Tab.d)), some (.int m), none, none, none, none, none, none, none] (.cons (.asg (.name 3) (.newm (.lst .nil))) (.cons stF (.cons (.ret (.blt .tuple (.var 3))) .nil)))) _ st
  generalize hL : st.length = L
  have hlL : l < L := by omega
  refine wps_seq (P := StI l L (.tup (ts.map Tab.d)) m ts 0 |> fun I fl st' => ∃ ρ, fl = .next ρ ∧ I ρ st') ?_ fun fl st1 h1 hL1 hp => ?_
  · refine ⟨_, st ++ [.lst []], ?_, Drn.new h hlL (by omega) _, _, rfl, none, none, none, [], rfl, by simp [hL], by simp [← hL], .nil⟩
    subst hL
    rfl
  obtain ⟨ρ, rfl, hI⟩ := hp
  show WpS l L (exSs (fr (n + 3) L) ρ (.cons stF (.cons (.ret (.blt .tuple (.var 3))) .nil))) _ st1
  refine wps_seq (P := fun fl st' => ∃ ρ, fl = .next ρ ∧ StI l L (.tup (ts.map Tab.d)) m ts ts.length ρ st') ?_ fun fl st2 h2 hL2 hp => ?_
  · have it : evIt (fr (n + 3) L) ρ (.val (.var 1)) = M.ret (ts.map Tab.d) := by
      obtain ⟨_, _, _, _, rfl, _⟩ := hI
      simp [walkD]
    rw [exS, it, s_ret]
    have w := wps_for (l := l) (L := L) (vs := ts.map Tab.d) (k := 0) (StI l L (.tup (ts.map Tab.d)) m ts) (f := fun x ρ => match setTg (.two (.name 4) (.name 5)) x ρ with
      | some ρ => exSs (fr (n + 3) L) ρ (.cons (.asg (.name 6) (.srt (.new keyN))) (.cons (.app (.var 3) rowsE2) .nil))
      | none => M.bad) (fun i v hv ρ' st' h' hL' hI' => by
        rw [List.getElem?_map] at hv
        obtain ⟨t, ht, rfl⟩ := Option.map_eq_some_iff.mp hv
        obtain ⟨c1, c2⟩ := hc t (List.mem_of_getElem? ht)
        rw [Nat.zero_add] at hI' ⊢
        exact st_turn hm hts ht c1 c2 h' hlL hI') h1 hlL hL1 hI
    rw [Nat.zero_add, List.length_map] at w
    exact w
  obtain ⟨ρ, rfl, c, r, k6, sts, rfl, hlen, hst, hs⟩ := hp
  rw [List.take_length] at hs
  refine ⟨.ret (.tup sts), st2, ?_, .refl h2 hlL hL2, .tup sts, rfl, sts_plain hs, sts, rfl, hs⟩
  show exSs (fr (n + 3) L) (lsS l (.ref L) (.tup (ts.map Tab.d)) m c r k6) (.cons (.ret (.blt .tuple (.var 3))) .nil) st2 = _
  have e : exS (fr (n + 3) L) (lsS l (.ref L) (.tup (ts.map Tab.d)) m c r k6) (.ret (.blt .tuple (.var 3))) st2 = .ok (.ret (.tup sts)) st2 := by
    have e2 : evE (fr (n + 3) L) (lsS l (.ref L) (.tup (ts.map Tab.d)) m c r k6) (.blt .tuple (.var 3)) st2 = .ok (.tup sts) st2 := by
      rw [evE, evE, g_some (d := .ref L) rfl, s_ret]
      show M.ofO (bltD .tuple (view st2 (.ref L))) st2 = _
      rw [view_lst hst]; rfl
    rw [exS, s_ok e2]; rfl
  rw [exSs_c, s_ok e]; rfl
end K22
set_option linter.all false
set_option maxRecDepth 100000
set_option maxHeartbeats 4000000
namespace K22
open Ev PySem
/-! ### bodies and loops -/
theorem cl_ret {n f : Nat} {F : Fn} {as : List D} {d : D} (h : Pp.find f = some F) (hl : as.length = F.ps.length) (k : ∀ L, exSs (fr n L) (as.map some ++ List.replicate (F.slots.length - as.length) none) F.body = M.ret (.ret d)) : cl (n + 1) f as = M.ret d := by
  funext st
  rw [cl_run h _ _ hl]
  refine (congrArg (fin st.length) (congrFun (k st.length) st)).trans ?_
  simp [M.ret, fin, leave]
/-- a body run at one store, its own cells let go -/
theorem cl_at {n f : Nat} {F : Fn} {as : List D} {d : D} {st st' : Store} (h : Pp.find f = some F) (hl : as.length = F.ps.length) (k : exSs (fr n st.length) (as.map some ++ List.replicate (F.slots.length - as.length) none) F.body st = .ok (.ret d) st') (hp : d.plain = true) (ht : st'.take st.length = st) : cl (n + 1) f as st = .ok d st := by
  rw [cl_run h _ _ hl, show exSs ⟨fun g xs => cl n g xs, st.length, fuel, T.exmF⟩ _ F.body st = _ from k]
  show leave st.length d st' = _
  unfold leave
  split
  · rename_i e
    rw [← e, List.take_length] at ht
    rw [ht]
  · first | rw [if_pos hp, ht] | rw [ht]
theorem if_t {C : Cfg} {ρ : Ev.Env} {c : E} {a b : Ss} {r : M Ev.Flow} (h : evE C ρ c = M.ret (.bl true)) (k : exSs C ρ a = r) : exS C ρ (.iff c a b) = r := by
  rw [exS, h, s_ret, b_bl, s_ret]
  exact k
theorem if_f {C : Cfg} {ρ : Ev.Env} {c : E} {a b : Ss} {r : M Ev.Flow} (h : evE C ρ c = M.ret (.bl false)) (k : exSs C ρ b = r) : exS C ρ (.iff c a b) = r := by
  rw [exS, h, s_ret, b_bl, s_ret]
  exact k
/-- a loop that ends at the first thing for which it returns -/
theorem forL_find {f : D → Ev.Env → M Ev.Flow} {g : D → Option D} (I : Ev.Env → Prop) : ∀ {xs : List D}, (∀ x ∈ xs, ∀ ρ, I ρ → match g x with | some d => f x ρ = M.ret (.ret d) | none => ∃ ρ', f x ρ = M.ret (.next ρ') ∧ I ρ') →
    ∀ {ρ}, I ρ → match xs.findSome? g with | some d => forL f xs ρ = M.ret (.ret d) | none => ∃ ρ', forL f xs ρ = M.ret (.next ρ') ∧ I ρ'
  | [], _, ρ, h => ⟨ρ, rfl, h⟩
  | x :: xs, k, ρ, h => by
    have k0 := k x List.mem_cons_self ρ h
    rw [List.findSome?_cons]
    cases e : g x with
    | some d =>
      rw [e] at k0
      show forL f (x :: xs) ρ = _
      rw [forL, k0, s_ret]
    | none =>
      rw [e] at k0
      obtain ⟨ρ', e1, h'⟩ := k0
      have ih := forL_find I (xs := xs) (fun y hy => k y (List.mem_cons_of_mem _ hy)) h'
      have e2 : forL f (x :: xs) ρ = forL f xs ρ' := by rw [forL, e1, s_ret]
      show match xs.findSome? g with | some d => forL f (x :: xs) ρ = M.ret (.ret d) | none => ∃ ρ', forL f (x :: xs) ρ = M.ret (.next ρ') ∧ I ρ'
      rw [e2]
      exact ih
theorem numUp_map : ∀ (xs : List D) (n : Nat), numUp n xs = (List.range xs.length).map fun i => .tup [.int ((n + i : Nat) : Int), (xs[i]?).getD .non]
  | [], n => rfl
  | x :: xs, n => by
    rw [numUp, numUp_map xs (n + 1), List.length_cons, List.range_succ_eq_map, List.map_cons, List.map_map]
    congr 1
    apply List.map_congr_left
    intro i _
    simp only [Function.comp, List.getElem?_cons_succ]
    congr 3
    omega
theorem rngUp_map : ∀ (n : Nat) (lo : Int), rngUp lo n = (List.range n).map fun i : Nat => D.int (lo + i)
  | 0, _ => rfl
  | n + 1, lo => by
    rw [rngUp, rngUp_map n (lo + 1), List.range_succ_eq_map, List.map_cons, List.map_map]
    congr 1
    · simp
    · apply List.map_congr_left
      intro i _
      simp only [Function.comp]
      congr 1
      omega
theorem mem_pairUp {x : D} : ∀ {xs ys : List D}, x ∈ pairUp xs ys → ∃ (i : Nat) (a b : D), xs[i]? = some a ∧ ys[i]? = some b ∧ x = .tup [a, b]
  | [], _, h => by cases h
  | _ :: _, [], h => by cases h
  | a :: xs, b :: ys, h => by
    rw [pairUp] at h
    rcases List.mem_cons.mp h with rfl | h
    · exact ⟨0, a, b, rfl, rfl, rfl⟩
    · obtain ⟨i, a', b', h1, h2, h3⟩ := mem_pairUp h
      exact ⟨i + 1, a', b', h1, h2, h3⟩
theorem len_pairUp : ∀ xs ys : List D, (pairUp xs ys).length ≤ xs.length
  | [], _ => Nat.le_refl _
  | _ :: _, [] => Nat.zero_le _
  | a :: xs, b :: ys => by
    have := len_pairUp xs ys
    rw [pairUp, List.length_cons, List.length_cons]; omega
theorem ix_nat {xs : List D} {i : Nat} {d : D} (h : xs[i]? = some d) : ixAt xs (i : Int) = some d := by
  simp [ixAt, h]
/-! ### rows and states -/
abbrev TR := Int × List D
def rowD (r : TR) : D := .tup (.int r.1 :: r.2)
abbrev rowsT (rs : List TR) : D := .tup (rs.map rowD)
abbrev St := List (List TR)
abbrev stD (s : St) : D := .tup (s.map rowsT)
abbrev schD (ts : List Tab) : D := .tup (ts.map Tab.d)
def ROk (cols : List D) (r : TR) : Prop := Row1 (intF :: cols) (.int r.1 :: r.2)
structure TOk (cols : List D) (rs : List TR) : Prop where
  row : ∀ r ∈ rs, ROk cols r
  asc : ascI (rs.map (·.1)) = true
  few : rs.length ≤ 60
structure SOk (ts : List Tab) (s : St) : Prop where
  len : s.length = ts.length
  tab : ∀ (i : Nat) (t : Tab) (rs : List TR), ts[i]? = some t → s[i]? = some rs → TOk t.1 rs
theorem rws_typed {cols : List D} {ks : List Int} {rows : List D} (h : Rws (intF :: cols) ks rows) : ∃ rs : List TR, rows = rs.map rowD ∧ ks = rs.map (·.1) ∧ ∀ r ∈ rs, ROk cols r := by
  induction h with
  | nil => exact ⟨[], rfl, rfl, fun r hr => by cases hr⟩
  | @cons k vs ks rows h r ih =>
    obtain ⟨rs, rfl, rfl, h3⟩ := ih
    refine ⟨(k, vs) :: rs, rfl, rfl, fun r hr => ?_⟩
    rcases List.mem_cons.mp hr with rfl | hr
    · exact h
    · exact h3 r hr
theorem typed_rws {cols : List D} : ∀ {rs : List TR}, (∀ r ∈ rs, ROk cols r) → Rws (intF :: cols) (rs.map (·.1)) (rs.map rowD)
  | [], _ => .nil
  | r :: rs, h => .cons (h r List.mem_cons_self) (typed_rws fun x hx => h x (List.mem_cons_of_mem _ hx))
theorem sts_typed {ts : List Tab} {more : List D} (h : Sts ts more) : ∃ s : St, more = s.map rowsT ∧ SOk ts s ∧ ∀ rs ∈ s, rs.length ≤ 59 ∧ ∀ r ∈ rs, 0 ≤ r.1 ∧ r.1 < 10 := by
  induction h with
  | nil => exact ⟨[], rfl, ⟨rfl, fun i t rs h => by simp at h⟩, fun rs h => by cases h⟩
  | @cons t ts rows more h r ih =>
    obtain ⟨s, rfl, h2, h3⟩ := ih
    obtain ⟨ks, hr, ha, hl, hb⟩ := h
    obtain ⟨rs, rfl, rfl, h4⟩ := rws_typed hr
    rw [List.length_map] at hl
    refine ⟨rs :: s, rfl, ⟨by simp [h2.len], fun i t' rs' e1 e2 => ?_⟩, fun x hx => ?_⟩
    · cases i with
      | zero =>
        have e1 : t = t' := by simpa using e1
        have e2 : rs = rs' := by simpa using e2
        subst e1; subst e2
        exact ⟨h4, ha, by omega⟩
      | succ i => exact h2.tab i t' rs' (by simpa using e1) (by simpa using e2)
    · rcases List.mem_cons.mp hx with rfl | hx
      · exact ⟨hl, fun r hr => hb _ (List.mem_map.mpr ⟨r, hr, rfl⟩)⟩
      · exact h3 x hx
theorem ROk.plain {cols : List D} {r : TR} (h : ROk cols r) : (rowD r).plain = true := row1_plain h
theorem rows_plain {cols : List D} : ∀ {rs : List TR}, (∀ r ∈ rs, ROk cols r) → D.plains (rs.map rowD) = true := fun h => rws_plain (typed_rws h)
theorem SOk.plain {ts : List Tab} {s : St} (h : SOk ts s) : (stD s).plain = true := by
  show D.plains (s.map rowsT) = true
  have : ∀ rs ∈ s, ∃ cols, ∀ r ∈ rs, ROk cols r := fun rs hr => by
    obtain ⟨i, hi⟩ := List.mem_iff_getElem?.mp hr
    have hl : i < ts.length := by rw [← h.len]; exact (List.getElem?_eq_some_iff.mp hi).1
    exact ⟨_, (h.tab i ts[i] rs (List.getElem?_eq_getElem hl) hi).row⟩
  clear h
  induction s with
  | nil => rfl
  | cons rs s ih =>
    obtain ⟨cols, hc⟩ := this rs List.mem_cons_self
    rw [List.map_cons, D.plains, D.plain, rows_plain hc, ih fun x hx => this x (List.mem_cons_of_mem _ hx)]
    rfl
theorem fits_rows_T {n : Nat} {cols : List D} (hl : cols.length ≤ 5) {rs : List TR} (h : TOk cols rs) : cl (n + 5) 73 [.tup (intF :: cols), rowsT rs] = M.ret (.bl true) := by
  have := fits_rows_ok (n := n) (ys := intF :: cols) (by simp; omega) (typed_rws h.row) (by rw [List.length_map]; exact h.few)
  rw [show ascI (rs.map (·.1)) = true from h.asc] at this
  exact this
theorem fits_state_T {n : Nat} {ts : List Tab} {s : St} (h : SOk ts s) (hc : ∀ t ∈ ts, t.1.length ≤ 5) (h4 : ts.length ≤ 4) : cl (n + 6) 74 [schD ts, stD s] = M.ret (.bl true) := by
  refine cl_ret (F := F_fits_state) rfl rfl fun L => ?_
  have e1 : cl (n + 5) 1 [stD s, .int ts.length, .int ts.length] = M.ret (.bl true) := by
    rw [is_tuple_of_tup]; simp [h.len]
  have s0 : exS (fr (n + 5) L) [some (schD ts), some (stD s), none, none, none] (.asg (.name 2) (.blt .len (.var 0))) = M.ret (.next [some (schD ts), some (stD s), some (.int ts.length), none, none]) := by
    simp
  have s1 : exS (fr (n + 5) L) [some (schD ts), some (stD s), some (.int ts.length), none, none] (.iff (.not (.call 1 (.cons (.var 1) (.cons (.var 2) (.cons (.var 2) .nil))))) (.cons (.ret (.const (.bl false))) .nil) .nil) = M.ret (.next [some (schD ts), some (stD s), some (.int ts.length), none, none]) := by
    simp [e1]
  have it : evIt (fr (n + 5) L) [some (schD ts), some (stD s), some (.int ts.length), none, none] (.zip (.var 0) (.var 1)) = M.ret (pairUp (ts.map Tab.d) (s.map rowsT)) := by
    simp [zipD]
  have e2 : evE (fr (n + 5) L) [some (schD ts), some (stD s), some (.int ts.length), none, none] (.blt .all (.new tabN)) = M.ret (.bl ((pairUp (ts.map Tab.d) (s.map rowsT)).all fun _ => true)) := by
    refine comp_all it (fun x hx => ?_) (okz_lt (by have := len_pairUp (ts.map Tab.d) (s.map rowsT); rw [List.length_map] at this; omega))
    obtain ⟨i, a, b, h1, h2, rfl⟩ := mem_pairUp hx
    rw [List.getElem?_map] at h1 h2
    obtain ⟨t, ht, rfl⟩ := Option.map_eq_some_iff.mp h1
    obtain ⟨rs, hr, rfl⟩ := Option.map_eq_some_iff.mp h2
    have q := fits_rows_T (n := n) (hc t (List.mem_of_getElem? ht)) (h.tab i t rs ht hr)
    simp [turnN, Tab.d, q]
  have s2 : exS (fr (n + 5) L) [some (schD ts), some (stD s), some (.int ts.length), none, none] (.ret (.blt .all (.new tabN))) = M.ret (.ret (.bl true)) := by
    rw [exS, e2, s_ret]
    congr 3
    simp
  exact (sqM s0).trans ((sqM s1).trans (sqR s2))
end K22
set_option linter.all false
set_option maxRecDepth 100000
set_option maxHeartbeats 1000000
/-! Ev23: data without truth values: == is equality. -/
namespace Ev
open PySem
@[simp] theorem m_isNB2 (k : Bool) : cmpD .Is .non (.bl k) = some false := rfl
@[simp] theorem m_isNNB2 (k : Bool) : cmpD .IsNot .non (.bl k) = some true := rfl
@[simp] theorem m_nin (x : D) (ys : List D) : cmpD .NotIn x (.lst ys) = (inL x ys).map (!·) := rfl
@[simp] theorem m_in (x : D) (ys : List D) : cmpD .In x (.lst ys) = inL x ys := rfl
@[simp] theorem m_inT (x : D) (ys : List D) : cmpD .In x (.tup ys) = inL x ys := rfl
@[simp] theorem m_ninT (x : D) (ys : List D) : cmpD .NotIn x (.tup ys) = (inL x ys).map (!·) := rfl
mutual
def D.nb : D → Bool
  | .non => true
  | .int _ => true
  | .str s => PyData.strOk s
  | .tup xs => D.nbs xs
  | .lst xs => D.nbs xs
  | _ => false
def D.nbs : List D → Bool
  | [] => true
  | x :: xs => D.nb x && D.nbs xs
end
mutual
def D.dep : D → Nat
  | .tup xs => D.deps xs + 1
  | .lst xs => D.deps xs + 1
  | _ => 0
def D.deps : List D → Nat
  | [] => 0
  | x :: xs => max (D.dep x) (D.deps xs)
end
mutual
theorem nb_toPy : ∀ x : D, x.nb = true → ∃ p, x.toPy = some p ∧ p.canLay0 = true ∧ p.depth ≤ x.dep
  | .non, _ => ⟨.none, by simp [D.toPy], by simp [PyData.canLay0], by simp [PyData.depth]⟩
  | .int i, _ => ⟨.int i, by simp [D.toPy], by simp [PyData.canLay0], by simp [PyData.depth]⟩
  | .str s, h => ⟨.str s, by simp [D.toPy], by have h' : PyData.strOk s = true := by simpa [D.nb] using h
                                               simp [PyData.canLay0, h'], by simp [PyData.depth]⟩
  | .tup xs, h => by
    obtain ⟨ps, h1, h2, h3⟩ := nbs_toPy xs (by simpa [D.nb] using h)
    exact ⟨.tuple ps, by simp [D.toPy, h1], by simp [PyData.canLay0, h2], by simp [PyData.depth, D.dep]; omega⟩
  | .lst xs, h => by
    obtain ⟨ps, h1, h2, h3⟩ := nbs_toPy xs (by simpa [D.nb] using h)
    exact ⟨.list ps, by simp [D.toPy, h1], by simp [PyData.canLay0, h2], by simp [PyData.depth, D.dep]; omega⟩
  | .bl _, h => by simp [D.nb] at h
  | .dct _ _, h => by simp [D.nb] at h
  | .ref _, h => by simp [D.nb] at h
  | .fn _, h => by simp [D.nb] at h
theorem nbs_toPy : ∀ xs : List D, D.nbs xs = true → ∃ ps, D.toPys xs = some ps ∧ PyData.canLayAll0 ps = true ∧ PyData.depthAll ps ≤ D.deps xs
  | [], _ => ⟨[], by simp [D.toPys], by simp [PyData.canLayAll0], by simp [PyData.depthAll]⟩
  | x :: xs, h => by
    have h' : x.nb = true ∧ D.nbs xs = true := by simpa [D.nbs] using h
    obtain ⟨p, h1, h2, h3⟩ := nb_toPy x h'.1
    obtain ⟨ps, g1, g2, g3⟩ := nbs_toPy xs h'.2
    exact ⟨p :: ps, by simp [D.toPys, h1, g1], by simp [PyData.canLayAll0, h2, g2], by simp [PyData.depthAll, D.deps]; omega⟩
end
mutual
/-- == of such data -/
theorem nb_eqv : ∀ (x y : D) (p q : PyData), x.nb = true → y.nb = true → x.toPy = some p → y.toPy = some q → (PyData.eqv p q = true ↔ x = y)
  | .non, y, p, q, hx, hy, e1, e2 => by
    cases e1
    cases y <;> simp [D.nb] at hy <;> simp [D.toPy] at e2 <;> try (subst e2; simp [PyData.eqv])
    all_goals (obtain ⟨_, _, rfl⟩ := e2; simp [PyData.eqv])
  | .int i, y, p, q, hx, hy, e1, e2 => by
    cases e1
    cases y <;> simp [D.nb] at hy <;> simp [D.toPy] at e2 <;> try (subst e2; simp [PyData.eqv])
    all_goals (obtain ⟨_, _, rfl⟩ := e2; simp [PyData.eqv])
  | .str i, y, p, q, hx, hy, e1, e2 => by
    cases e1
    cases y <;> simp [D.nb] at hy <;> simp [D.toPy] at e2 <;> try (subst e2; simp [PyData.eqv])
    all_goals (obtain ⟨_, _, rfl⟩ := e2; simp [PyData.eqv])
  | .tup xs, y, p, q, hx, hy, e1, e2 => by
    obtain ⟨ps, h1, rfl⟩ := Option.map_eq_some_iff.mp (show (D.toPys xs).map .tuple = some p by simpa [D.toPy] using e1)
    cases y with
    | tup ys =>
      obtain ⟨qs, h2, rfl⟩ := Option.map_eq_some_iff.mp (show (D.toPys ys).map .tuple = some q by simpa [D.toPy] using e2)
      have := nbs_eqv xs ys ps qs (by simpa [D.nb] using hx) (by simpa [D.nb] using hy) h1 h2
      simp [PyData.eqv, this]
    | non => cases e2; simp [PyData.eqv]
    | int i => cases e2; simp [PyData.eqv]
    | str i => cases e2; simp [PyData.eqv]
    | lst ys =>
      obtain ⟨qs, h2, rfl⟩ := Option.map_eq_some_iff.mp (show (D.toPys ys).map .list = some q by simpa [D.toPy] using e2)
      simp [PyData.eqv]
    | _ => simp [D.nb] at hy
  | .lst xs, y, p, q, hx, hy, e1, e2 => by
    obtain ⟨ps, h1, rfl⟩ := Option.map_eq_some_iff.mp (show (D.toPys xs).map .list = some p by simpa [D.toPy] using e1)
    cases y with
    | lst ys =>
      obtain ⟨qs, h2, rfl⟩ := Option.map_eq_some_iff.mp (show (D.toPys ys).map .list = some q by simpa [D.toPy] using e2)
      have := nbs_eqv xs ys ps qs (by simpa [D.nb] using hx) (by simpa [D.nb] using hy) h1 h2
      simp [PyData.eqv, this]
    | non => cases e2; simp [PyData.eqv]
    | int i => cases e2; simp [PyData.eqv]
    | str i => cases e2; simp [PyData.eqv]
    | tup ys =>
      obtain ⟨qs, h2, rfl⟩ := Option.map_eq_some_iff.mp (show (D.toPys ys).map .tuple = some q by simpa [D.toPy] using e2)
      simp [PyData.eqv]
    | _ => simp [D.nb] at hy
  | .bl _, _, _, _, h, _, _, _ => by simp [D.nb] at h
  | .dct _ _, _, _, _, h, _, _, _ => by simp [D.nb] at h
  | .ref _, _, _, _, h, _, _, _ => by simp [D.nb] at h
  | .fn _, _, _, _, h, _, _, _ => by simp [D.nb] at h
theorem nbs_eqv : ∀ (xs ys : List D) (ps qs : List PyData), D.nbs xs = true → D.nbs ys = true → D.toPys xs = some ps → D.toPys ys = some qs → (PyData.eqvAll ps qs = true ↔ xs = ys)
  | [], ys, ps, qs, hx, hy, e1, e2 => by
    simp [D.toPys] at e1; subst e1
    cases ys with
    | nil => simp [D.toPys] at e2; subst e2; simp [PyData.eqvAll]
    | cons y ys =>
      have h' : y.nb = true ∧ D.nbs ys = true := by simpa [D.nbs] using hy
      obtain ⟨q, q1, _⟩ := nb_toPy y h'.1
      obtain ⟨qs', q2, _⟩ := nbs_toPy ys h'.2
      simp [D.toPys, q1, q2] at e2; subst e2; simp [PyData.eqvAll]
  | x :: xs, ys, ps, qs, hx, hy, e1, e2 => by
    have hx' : x.nb = true ∧ D.nbs xs = true := by simpa [D.nbs] using hx
    obtain ⟨p, p1, _⟩ := nb_toPy x hx'.1
    obtain ⟨ps', p2, _⟩ := nbs_toPy xs hx'.2
    simp [D.toPys, p1, p2] at e1; subst e1
    cases ys with
    | nil => simp [D.toPys] at e2; subst e2; simp [PyData.eqvAll]
    | cons y ys =>
      have h' : y.nb = true ∧ D.nbs ys = true := by simpa [D.nbs] using hy
      obtain ⟨q, q1, _⟩ := nb_toPy y h'.1
      obtain ⟨qs', q2, _⟩ := nbs_toPy ys h'.2
      simp [D.toPys, q1, q2] at e2; subst e2
      have a := nb_eqv x y p q hx'.1 h'.1 p1 q1
      have b := nbs_eqv xs ys ps' qs' hx'.2 h'.2 p2 q2
      simp [PyData.eqvAll, a, b]
end
theorem nbs_of {xs : List D} (h : ∀ x ∈ xs, x.nb = true) : D.nbs xs = true := by
  induction xs with
  | nil => rfl
  | cons x xs ih => rw [D.nbs, h x List.mem_cons_self, ih fun y hy => h y (List.mem_cons_of_mem _ hy)]; rfl
theorem nb_mem {x : D} : ∀ {xs : List D}, D.nbs xs = true → x ∈ xs → x.nb = true
  | y :: xs, h, hx => by
    have h' : y.nb = true ∧ D.nbs xs = true := by simpa [D.nbs] using h
    rcases List.mem_cons.mp hx with rfl | hx
    · exact h'.1
    · exact nb_mem h'.2 hx
/-- equality, told -/
noncomputable def eqB (x y : D) : Bool := @decide (x = y) (Classical.propDecidable _)
noncomputable def memB (x : D) (ys : List D) : Bool := @decide (x ∈ ys) (Classical.propDecidable _)
theorem eqB_iff {x y : D} : eqB x y = true ↔ x = y := @decide_eq_true_iff _ (Classical.propDecidable _)
theorem memB_iff {x : D} {ys : List D} : memB x ys = true ↔ x ∈ ys := @decide_eq_true_iff _ (Classical.propDecidable _)
theorem bool_iff {a b : Bool} (h : a = true ↔ b = true) : a = b := by cases a <;> cases b <;> simp_all
theorem eqD_nb {x y : D} (hx : x.nb = true) (hy : y.nb = true) (dx : x.dep ≤ 60) (dy : y.dep ≤ 60) : eqD x y = some (eqB x y) := by
  obtain ⟨p, p1, p2, p3⟩ := nb_toPy x hx
  obtain ⟨q, q1, q2, q3⟩ := nb_toPy y hy
  have z := nb_eqv x y p q hx hy p1 q1
  have s1 : SeqAt.shaped p = true := by simp only [SeqAt.shaped, p2, Bool.true_and, decide_eq_true_eq]; omega
  have s2 : SeqAt.shaped q = true := by simp only [SeqAt.shaped, q2, Bool.true_and, decide_eq_true_eq]; omega
  unfold eqD
  split
  · congr 1; apply bool_iff; rw [eqB_iff]; simp
  · congr 1; apply bool_iff; rw [eqB_iff]; simp
  · simp [D.nb] at hx
  · congr 1; apply bool_iff; rw [eqB_iff]; simp
  · simp only [p1, q1, s1, s2, Bool.and_self, if_true]
    congr 1
    apply bool_iff
    rw [eqB_iff]
    exact z
theorem inL_nb {x : D} {ys : List D} (hx : x.nb = true) (hy : D.nbs ys = true) (dx : x.dep ≤ 60) : inL x ys = some (memB x ys) := by
  obtain ⟨p, p1, p2, p3⟩ := nb_toPy x hx
  obtain ⟨qs, q1, q2, q3⟩ := nbs_toPy ys hy
  have s1 : SeqAt.shaped p = true := by simp only [SeqAt.shaped, p2, Bool.true_and, decide_eq_true_eq]; omega
  simp only [inL, p1, q1, s1, q2, Bool.and_self, if_true]
  congr 1
  apply bool_iff
  rw [memB_iff]
  clear q2 q3 s1 dx
  induction ys generalizing qs with
  | nil => simp [D.toPys] at q1; subst q1; simp
  | cons y ys ih =>
    have h' : y.nb = true ∧ D.nbs ys = true := by simpa [D.nbs] using hy
    obtain ⟨q, g1, _⟩ := nb_toPy y h'.1
    obtain ⟨qs', g2, _⟩ := nbs_toPy ys h'.2
    simp [D.toPys, g1, g2] at q1; subst q1
    rw [List.any_cons, Bool.or_eq_true, ih h'.2 _ g2, nb_eqv y x q p h'.1 hx g1 p1, List.mem_cons]
    exact or_congr ⟨Eq.symm, Eq.symm⟩ Iff.rfl
/-! comprehensions over lists told by other things -/
section
variable {C : Cfg} {ρ : Env} {own : List Nat} {elt : E} {tg : Tg} {it : It} {c : O} {α : Type} {enc : α → D} {rs : List α}
theorem loopC_typed {f : D → M (List D)} {g : α → List D} : ∀ {rs : List α}, (∀ r ∈ rs, f (enc r) = M.ret (g r)) → loopC f (rs.map enc) = M.ret (rs.flatMap g)
  | [], _ => rfl
  | r :: rs, h => by
    rw [List.map_cons, loopC, h r List.mem_cons_self, loopC_typed (fun y hy => h y (List.mem_cons_of_mem _ hy))]
    rfl
theorem comp_typed {g : α → List D} (hit : evIt C ρ it = M.ret (rs.map enc)) (h : ∀ r ∈ rs, turnN C ρ own elt tg c (enc r) = M.ret (g r)) (hz : okSize (rs.flatMap g).length = true) :
    evN C ρ (.comp own elt tg it c) = M.ret (rs.flatMap g) := by
  rw [comp_eq, hit, s_ret, loopC_typed h, s_ret, if_pos hz, calm_ret]
theorem flat_one (g : α → D) : ∀ rs : List α, rs.flatMap (fun x => [g x]) = rs.map g
  | [] => rfl
  | r :: rs => by rw [List.flatMap_cons, flat_one g rs]; rfl
theorem flat_if (p : α → Bool) (g : α → D) : ∀ rs : List α, rs.flatMap (fun x => if p x then [g x] else []) = (rs.filter p).map g
  | [] => rfl
  | r :: rs => by
    rw [List.flatMap_cons, flat_if p g rs, List.filter_cons]
    by_cases hp : p r <;> simp [hp]
theorem comp_tmap {g : α → D} (hit : evIt C ρ it = M.ret (rs.map enc)) (h : ∀ r ∈ rs, turnN C ρ own elt tg c (enc r) = M.ret [g r]) (hz : okSize rs.length = true) :
    evN C ρ (.comp own elt tg it c) = M.ret (rs.map g) := by
  have z := comp_typed (g := fun r => [g r]) hit h (by rw [flat_one, List.length_map]; exact hz)
  rw [flat_one] at z
  exact z
theorem comp_tfilter {p : α → Bool} {g : α → D} (hit : evIt C ρ it = M.ret (rs.map enc)) (h : ∀ r ∈ rs, turnN C ρ own elt tg c (enc r) = M.ret (if p r then [g r] else [])) (hz : okSize rs.length = true) :
    evN C ρ (.comp own elt tg it c) = M.ret ((rs.filter p).map g) := by
  have z := comp_typed (g := fun r => if p r then [g r] else []) hit h (by rw [flat_if, List.length_map]; exact okz_le hz (List.length_filter_le _ _))
  rw [flat_if] at z
  exact z
theorem allB_tmap (p : α → Bool) : ∀ xs : List α, allB (xs.map fun x => .bl (p x)) = some (xs.map p)
  | [] => rfl
  | x :: xs => by
    show (allB (xs.map fun x => .bl (p x))).map (p x :: ·) = _
    rw [allB_tmap p xs]; rfl
theorem comp_tall {p : α → Bool} (hit : evIt C ρ it = M.ret (rs.map enc)) (h : ∀ r ∈ rs, turnN C ρ own elt tg c (enc r) = M.ret [.bl (p r)]) (hz : okSize rs.length = true) :
    evE C ρ (.blt .all (.new (.comp own elt tg it c))) = M.ret (.bl (rs.all p)) := by
  have e : bltD .all (.lst (rs.map fun x => .bl (p x))) = some (.bl (rs.all p)) := by
    show (allB _).map _ = _
    rw [allB_tmap]; simp [List.all_map]
  rw [evE, evE, comp_tmap hit h hz, s_ret, s_ret]
  funext st
  rw [v_lst, e]; rfl
theorem comp_tany {p : α → Bool} (hit : evIt C ρ it = M.ret (rs.map enc)) (h : ∀ r ∈ rs, turnN C ρ own elt tg c (enc r) = M.ret [.bl (p r)]) (hz : okSize rs.length = true) :
    evE C ρ (.blt .any (.new (.comp own elt tg it c))) = M.ret (.bl (rs.any p)) := by
  have e : bltD .any (.lst (rs.map fun x => .bl (p x))) = some (.bl (rs.any p)) := by
    show (allB _).map _ = _
    rw [allB_tmap]; simp [List.any_map]
  rw [evE, evE, comp_tmap hit h hz, s_ret, s_ret]
  funext st
  rw [v_lst, e]; rfl
end
end Ev
set_option linter.all false
set_option maxRecDepth 100000
set_option maxHeartbeats 4000000
namespace K22
open Ev PySem
theorem cell_nb {s : String} {may : Bool} {v : D} (h : Cell1 s may v) : v.nb = true ∧ v.dep = 0 := by
  rcases h with ⟨_, rfl⟩ | ⟨_, i, rfl, _⟩ | ⟨_, rfl | rfl | rfl | rfl⟩
  · exact ⟨rfl, rfl⟩
  · exact ⟨rfl, rfl⟩
  all_goals exact ⟨by decide +kernel, rfl⟩
theorem row1_nb {ys vs : List D} (h : Row1 ys vs) : D.nbs vs = true ∧ D.deps vs = 0 := by
  induction h with
  | nil => exact ⟨rfl, rfl⟩
  | cons h r ih =>
    obtain ⟨h1, h2⟩ := cell_nb h
    exact ⟨by rw [D.nbs, h1, ih.1]; rfl, by rw [D.deps, h2, ih.2]; rfl⟩
theorem ROk.nb {cols : List D} {r : TR} (h : ROk cols r) : (rowD r).nb = true ∧ (rowD r).dep = 1 := by
  obtain ⟨h1, h2⟩ := row1_nb h
  exact ⟨h1, by show D.deps _ + 1 = 1; rw [h2]⟩
theorem rows_nb {cols : List D} {rs : List TR} (h : ∀ r ∈ rs, ROk cols r) : D.nbs (rs.map rowD) = true := nbs_of fun x hx => by
  obtain ⟨r, hr, rfl⟩ := List.mem_map.mp hx
  exact (h r hr).nb.1
theorem ints_nb (ks : List Int) : D.nbs (ks.map .int) = true := nbs_of fun x hx => by
  obtain ⟨r, hr, rfl⟩ := List.mem_map.mp hx
  rfl
/-- a cell of a row -/
def cellAt (r : TR) (c : Nat) : D := ((.int r.1 :: r.2)[c]?).getD .non
theorem cell_ix {cols : List D} {r : TR} (h : ROk cols r) {c : Nat} (hc : c ≤ cols.length) : idxD (rowD r) (.int (c : Nat)) = some (cellAt r c) := by
  have hl := Row1.len h
  rw [List.length_cons, List.length_cons] at hl
  have e : (.int r.1 :: r.2 : List D)[c]? = some (cellAt r c) := by
    have hlt : c < (.int r.1 :: r.2 : List D).length := by rw [List.length_cons]; omega
    unfold cellAt
    rw [List.getElem?_eq_getElem hlt]; rfl
  show ixAt (.int r.1 :: r.2) (c : Int) = _
  exact ix_nat e
theorem cell_nb2 {cols : List D} {r : TR} (h : ROk cols r) (c : Nat) : (cellAt r c).nb = true ∧ (cellAt r c).dep = 0 := by
  obtain ⟨h1, h2⟩ := row1_nb h
  unfold cellAt
  cases e : (.int r.1 :: r.2 : List D)[c]? with
  | none => exact ⟨rfl, rfl⟩
  | some v =>
    have hm := List.mem_of_getElem? e
    refine ⟨nb_mem h1 hm, ?_⟩
    have : ∀ (xs : List D), D.deps xs = 0 → v ∈ xs → v.dep = 0 := fun xs => by
      induction xs with
      | nil => intro _ h; cases h
      | cons x xs ih =>
        intro h0 hv
        have h0' : max x.dep (D.deps xs) = 0 := h0
        rcases List.mem_cons.mp hv with rfl | hv
        · omega
        · exact ih (by omega) hv
    exact this _ h2 hm
theorem key_ix (r : TR) : idxD (rowD r) (.int 0) = some (.int r.1) := rfl
theorem flat_view {x : D} (h : x.nb = true) (st : Store) : view st x = x := by
  cases x <;> first | rfl | (simp [D.nb] at h)
/-- tests over a table's rows, or none -/
def Wish (cols : List D) (d : D) : Prop := d = .non ∨ ∃ k s, Test [.tup (intF :: cols)] k s d ∧ k ≤ 4 ∧ s ≤ 30
theorem rd_row {cols : List D} {r : TR} (h : ROk cols r) : Rd [rowD r] [.tup (intF :: cols)] := by
  intro a c ys s d h1 h2
  cases a with
  | zero =>
    have e : ys = intF :: cols := by simpa using h1.symm
    subst e
    obtain ⟨v, q1, q2⟩ := Row1.at h c s d h2
    exact ⟨_, v, rfl, q1, q2⟩
  | succ a => simp at h1
def yes : Tri → Bool
  | .t => true
  | _ => false
end K22
set_option linter.all false
set_option maxRecDepth 100000
set_option maxHeartbeats 4000000
namespace K22
open Ev PySem
instance : Nonempty Tri := ⟨.f⟩
noncomputable def triOf (row t : D) : Tri := Classical.epsilon fun k => ∀ n, 8 ≤ n → Both [row] t n k
theorem tri_ok {cols : List D} {r : TR} {k s : Nat} {t : D} (h : ROk cols r) (ht : Test [.tup (intF :: cols)] k s t) (hk : k ≤ 5) : ∀ n, 8 ≤ n → Both [rowD r] t n (triOf (rowD r) t) := by
  obtain ⟨j, e⟩ := truth_test ht (rd_row h)
  refine Classical.epsilon_spec (p := fun k => ∀ n, 8 ≤ n → Both [rowD r] t n k) ⟨j, fun n hn => ?_⟩
  have := e (n - k - 3)
  rw [show n - k - 3 + k + 3 = n from by omega] at this
  exact this
/-- whether a row is meant -/
noncomputable def mt (d : D) (r : TR) : Bool := isNon d || yes (triOf (rowD r) d)
theorem test_view {ys : List D} {d : D} {k s : Nat} (h : Test ys k s d) (st : Store) : view st d = d := by
  cases h with
  | leaf h => cases h <;> rfl
  | not h => rfl
  | bin hw h g => rfl
theorem wish_view {cols : List D} {d : D} (h : Wish cols d) (st : Store) : view st d = d := by
  rcases h with rfl | ⟨k, s, h, _⟩
  · rfl
  · exact test_view h st
theorem wish_non {cols : List D} {d : D} {k s : Nat} (h : Test cols k s d) : isNon d = false := by
  cases h with
  | leaf h => cases h <;> rfl
  | not h => rfl
  | bin hw h g => rfl
theorem wish_tri {cols : List D} {d : D} (hd : Wish cols d) {r : TR} (h : ROk cols r) {n : Nat} (hn : 8 ≤ n) : d = .non ∨ (isNon d = false ∧ cl n 61 [.tup [rowD r], d] = M.ret (tv (triOf (rowD r) d)) ∧ cl n 66 [.tup [rowD r], d] = M.ret (.int (ti (triOf (rowD r) d)))) := by
  rcases hd with rfl | ⟨k, s, ht, hk⟩
  · exact .inl rfl
  · obtain ⟨e1, e2⟩ := tri_ok h ht (by omega) n hn
    exact .inr ⟨wish_non ht, e1, e2⟩
theorem meant_ok {n : Nat} {cols : List D} {rs : List TR} {d : D} (h : ∀ r ∈ rs, ROk cols r) (few : rs.length ≤ 100) (hd : Wish cols d) : cl (n + 9) 84 [rowsT rs, d] = M.ret (.lst ((rs.filter (mt d)).map rowD)) ∧ cl (n + 9) 106 [rowsT rs, d] = M.ret (.lst ((rs.filter (mt d)).map rowD)) := by
  have hv := wish_view hd
  constructor
  · refine cl_ret (F := F_meant_by) rfl rfl fun L => ?_
    show exSs _ [some (rowsT rs), some d, none] _ = _
    refine sqR ?_
    rw [exS, evE, comp_tfilter (enc := rowD) (rs := rs) (p := mt d) (g := rowD) (by simp) (fun r hr => ?_) (okz_lt (by omega))]
    · rfl
    · rcases wish_tri hd (h r hr) (n := n + 8) (by omega) with rfl | ⟨e0, e1, e2⟩
      · simp [turnN, mt]
      · cases hk : triOf (rowD r) d <;> rw [hk] at e1 <;> simp [turnN, mt, hv, e0, e1, hk, yes, tv, okSize]
  · refine cl_ret (F := F__law_meant) rfl rfl fun L => ?_
    show exSs _ [some (rowsT rs), some d, none] _ = _
    refine sqR ?_
    rw [exS, evE, comp_tfilter (enc := rowD) (rs := rs) (p := mt d) (g := rowD) (by simp) (fun r hr => ?_) (okz_lt (by omega))]
    · rfl
    · rcases wish_tri hd (h r hr) (n := n + 8) (by omega) with rfl | ⟨e0, e1, e2⟩
      · simp [turnN, mt]
      · cases hk : triOf (rowD r) d <;> rw [hk] at e2 <;> simp [turnN, mt, hv, e0, e2, hk, yes, ti, okSize]
end K22
set_option linter.all false
set_option maxRecDepth 100000
set_option maxHeartbeats 4000000
namespace K22
open Ev PySem
/-! ### a table's rows put in order -/
abbrev srtR (rs : List TR) : List TR := srtBy (fun r : TR => r.1) rs
theorem keysD_rows : ∀ rs : List TR, keysD 0 (rs.map rowD) = some (rs.map fun r => (r.1, rowD r))
  | [] => rfl
  | r :: rs => by
    have ih := keysD_rows rs
    rw [List.map_cons, List.map_cons]
    show (match (.int r.1 :: r.2 : List D)[0]? with | some (.int k) => (keysD 0 (rs.map rowD)).map ((k, rowD r) :: ·) | _ => none) = _
    rw [ih]
    rfl
theorem srtkD_rows (rs : List TR) : srtkD 0 (.lst (rs.map rowD)) = some (.lst ((srtR rs).map rowD)) := by
  show (keysD 0 (rs.map rowD)).map _ = _
  rw [keysD_rows, Option.map_some, ← srtBy_map (k := fun p : Int × D => p.1) (fun r : TR => (r.1, rowD r)) rs, List.map_map]
  rfl
theorem srtkD_rowsT (rs : List TR) : srtkD 0 (rowsT rs) = some (.lst ((srtR rs).map rowD)) := srtkD_rows rs
theorem cut_lo (xs : List D) {t : Nat} (ht : t < xs.length) : cutL xs none (some (t : Int)) = xs.take t := by
  have h : ¬ ((t : Int) < 0) := by omega
  simp only [cutL, cutAt, h, if_false, List.drop_zero, Int.toNat_natCast, Nat.sub_zero]
  congr 1
  omega
theorem cut_hi (xs : List D) {t : Nat} (ht : t < xs.length) : cutL xs (some ((t : Int) + 1)) none = xs.drop (t + 1) := by
  have h : ¬ ((t : Int) + 1 < 0) := by omega
  have e : ((t : Int) + 1).toNat = t + 1 := by omega
  simp only [cutL, cutAt, h, if_false, e]
  rw [Nat.min_eq_left (by omega), List.take_of_length_le]
  rw [List.length_drop]; omega
theorem put_set (s : St) {t : Nat} (ht : t < s.length) (rs : List TR) : (s.map rowsT).take t ++ [rowsT rs] ++ (s.map rowsT).drop (t + 1) = (s.set t rs).map rowsT := by
  rw [List.map_set, List.set_eq_take_append_cons_drop, if_pos (by rw [List.length_map]; exact ht), List.append_assoc]
  rfl
/-- state[:t] + (x,) + state[t + 1:] -/
theorem put_ev {C : Cfg} {ρ : Ev.Env} {s : St} {t : Nat} (ht : t < s.length) (h4 : s.length ≤ 4) {rs : List TR} {e : E} {i j : Nat} (hi : ρ[i]? = some (some (stD s))) (hj : ρ[j]? = some (some (.int (t : Nat)))) (he : evE C ρ e = M.ret (rowsT rs)) :
    evE C ρ (.bin .Add (.bin .Add (.slc (.var i) .no (.is (.var j))) (.tup (.cons e .nil))) (.slc (.var i) (.is (.bin .Add (.var j) (.const (.int 1)))) .no)) = M.ret (stD (s.set t rs)) := by
  have ht' : t < (s.map rowsT).length := by rw [List.length_map]; exact ht
  have e1 := cut_lo (s.map rowsT) ht'
  have e2 := cut_hi (s.map rowsT) ht'
  have z1 : binD .Add (.tup ((s.map rowsT).take t)) (.tup [rowsT rs]) = some (.tup ((s.map rowsT).take t ++ [rowsT rs])) := by
    have : okSize (((s.map rowsT).take t).length + 1) = true := okz_lt (by rw [List.length_take, List.length_map]; omega)
    simp only [binD, List.length_singleton, this, if_true]
  have z2 : binD .Add (.tup ((s.map rowsT).take t ++ [rowsT rs])) (.tup ((s.map rowsT).drop (t + 1))) = some (.tup ((s.map rowsT).take t ++ [rowsT rs] ++ (s.map rowsT).drop (t + 1))) := by
    have : okSize (((s.map rowsT).take t ++ [rowsT rs]).length + ((s.map rowsT).drop (t + 1)).length) = true := okz_lt (by simp only [List.length_append, List.length_take, List.length_drop, List.length_map, List.length_singleton]; omega)
    simp only [binD, this, if_true]
  have z3 := put_set s ht rs
  simp only [evE, evEs, evO, g_some hi, g_some hj, he, s_ret, s_assoc]
  simp only [v_int, d_add, s_ofO, i_int, s_ret, v_tup, slcD, e1, e2, okSize, List.length_singleton, List.length_nil, Nat.zero_add, decide_true, if_true, z1, z2, z3]
  simp [slcD, e1, e2, z1, z2, z3]
  rw [stD, List.map_set]
/-- with_rows: rows from a tuple, or a list -/
theorem with_rows_ok {n : Nat} {s : St} {t : Nat} (ht : t < s.length) (h4 : s.length ≤ 4) (rs : List TR) : cl (n + 1) 85 [stD s, .int (t : Nat), .lst (rs.map rowD)] = M.ret (stD (s.set t (srtR rs))) := by
  refine cl_ret (F := F_with_rows) rfl rfl fun L => ?_
  show exSs _ [some (stD s), some (.int (t : Nat)), some (.lst (rs.map rowD))] _ = _
  refine sqR ?_
  rw [exS, put_ev ht h4 rfl rfl (rs := srtR rs) (by simp [srtkD_rows])]
  rfl
theorem with_rows_okT {n : Nat} {s : St} {t : Nat} (ht : t < s.length) (h4 : s.length ≤ 4) (rs : List TR) : cl (n + 1) 85 [stD s, .int (t : Nat), rowsT rs] = M.ret (stD (s.set t (srtR rs))) := by
  refine cl_ret (F := F_with_rows) rfl rfl fun L => ?_
  show exSs _ [some (stD s), some (.int (t : Nat)), some (rowsT rs)] _ = _
  refine sqR ?_
  rw [exS, put_ev ht h4 rfl rfl (rs := srtR rs) (by simp [srtkD_rowsT])]
  rfl
def pairR (r : TR) : D := .tup [.int r.1, rowD r]
theorem keysD_pairs : ∀ rs : List TR, keysD 0 (rs.map pairR) = some (rs.map fun r => (r.1, pairR r))
  | [] => rfl
  | r :: rs => by
    have ih := keysD_pairs rs
    rw [List.map_cons, List.map_cons]
    show (match ([.int r.1, rowD r] : List D)[0]? with | some (.int k) => (keysD 0 (rs.map pairR)).map ((k, pairR r) :: ·) | _ => none) = _
    rw [ih]
    rfl
theorem srtkD_pairs (rs : List TR) : srtkD 0 (.lst (rs.map pairR)) = some (.lst ((srtR rs).map pairR)) := by
  show (keysD 0 (rs.map pairR)).map _ = _
  rw [keysD_pairs, Option.map_some, ← srtBy_map (k := fun p : Int × D => p.1) (fun r : TR => (r.1, pairR r)) rs, List.map_map]
  rfl
theorem law_put_ok {n : Nat} {s : St} {t : Nat} (ht : t < s.length) (h4 : s.length ≤ 4) {rs : List TR} (few : rs.length ≤ 200) : cl (n + 1) 107 [stD s, .int (t : Nat), .lst (rs.map rowD)] = M.ret (stD (s.set t (srtR rs))) := by
  refine cl_ret (F := F__law_put) rfl rfl fun L => ?_
  show exSs _ [some (stD s), some (.int (t : Nat)), some (.lst (rs.map rowD)), none, none] _ = _
  refine sqR ?_
  have a1 : evN (fr n L) [some (stD s), some (.int (t : Nat)), some (.lst (rs.map rowD)), none, none] (.comp [4] (.tup (.cons (.idx (.var 4) (.const (.int 0))) (.cons (.var 4) .nil))) (.name 4) (.val (.var 2)) .no) = M.ret (rs.map pairR) :=
    comp_tmap (enc := rowD) (rs := rs) (by simp) (fun r hr => by simp [turnN, rowD, pairR, okSize]) (okz_lt (by omega))
  have l1 : (srtR rs).length ≤ 200 := by rw [len_srtBy]; exact few
  have a2 : evN (fr n L) [some (stD s), some (.int (t : Nat)), some (.lst (rs.map rowD)), none, none] (.comp [3, 4] (.var 4) (.two (.name 3) (.name 4)) (.val (.srtk (.new (.comp [4] (.tup (.cons (.idx (.var 4) (.const (.int 0))) (.cons (.var 4) .nil))) (.name 4) (.val (.var 2)) .no)) 0)) .no) = M.ret ((srtR rs).map rowD) :=
    comp_tmap (enc := pairR) (rs := srtR rs) (by rw [evIt, evE, evE, a1]; simp [srtkD_pairs]) (fun r hr => by simp [turnN, rowD, pairR, okSize]) (okz_lt (by omega))
  rw [exS, put_ev ht h4 rfl rfl (rs := srtR rs) (by rw [evE, evE, a2]; simp)]
  rfl
end K22
set_option linter.all false
set_option maxRecDepth 100000
set_option maxHeartbeats 4000000
namespace K22
open Ev PySem
/-! ### rules -/
inductive Rule (cols : List D) (m : Nat) : D → Prop
  | uniq (c : Nat) (h1 : 1 ≤ c) (h2 : c ≤ cols.length) : Rule cols m (.tup [S "unique", .int (c : Nat)])
  | refer (c t : Nat) (h1 : 1 ≤ c) (h2 : c ≤ cols.length) (ht : t < m) : Rule cols m (.tup [S "refer", .int (c : Nat), .int (t : Nat)])
  | check {t : D} {k s : Nat} (ht : Test [.tup (intF :: cols)] k s t) (hk : k ≤ 5) : Rule cols m (.tup [S "check", t])
noncomputable def brkU (rs : List TR) (r : TR) (c : Nat) : Bool := !isNon (cellAt r c) && rs.any fun one => !eqB (.int one.1) (.int r.1) && eqB (cellAt one c) (cellAt r c)
noncomputable def brkR (rs : List TR) (r : TR) (c : Nat) : Bool := !isNon (cellAt r c) && !rs.any fun one => eqB (.int one.1) (cellAt r c)
noncomputable def brkC (r : TR) (t : D) : Bool := match triOf (rowD r) t with
  | .f => true
  | _ => false
noncomputable def brk (s : St) (t : Nat) (r : TR) : D → Bool
  | .tup [_, .int c] => brkU ((s[t]?).getD []) r c.toNat
  | .tup [_, .int c, .int u] => brkR ((s[u.toNat]?).getD []) r c.toNat
  | .tup [_, x] => brkC r x
  | _ => false
theorem st_ix {s : St} {t : Nat} {rs : List TR} (h : s[t]? = some rs) : idxD (stD s) (.int (t : Nat)) = some (rowsT rs) := by
  show ixAt (s.map rowsT) (t : Int) = _
  exact ix_nat (by rw [List.getElem?_map, h]; rfl)
theorem eqB_int (a b : Int) : eqB (.int a) (.int b) = decide (a = b) := by
  apply bool_iff
  rw [eqB_iff]
  simp
theorem memB_map {α : Type} (x : D) (f : α → D) (rs : List α) : memB x (rs.map f) = rs.any fun r => eqB (f r) x := by
  apply bool_iff
  rw [memB_iff, List.mem_map, List.any_eq_true]
  exact ⟨fun ⟨r, h1, h2⟩ => ⟨r, h1, eqB_iff.mpr h2⟩, fun ⟨r, h1, h2⟩ => ⟨r, h1, eqB_iff.mp h2⟩⟩
theorem rows_lay {cols : List D} {rs : List TR} (h : ∀ r ∈ rs, ROk cols r) : LayAll (rs.map rowD) 1 := by
  obtain ⟨ps, h1, h2, h3⟩ := nbs_toPy _ (rows_nb h)
  have hd : D.deps (rs.map rowD) ≤ 1 := by
    clear h1 h2 h3
    induction rs with
    | nil => exact Nat.zero_le _
    | cons r rs ih =>
      have e := (h r List.mem_cons_self).nb.2
      have := ih fun x hx => h x (List.mem_cons_of_mem _ hx)
      show max (rowD r).dep (D.deps (rs.map rowD)) ≤ 1
      omega
  have hl : ∀ (ds : List D) (qs : List PyData), D.toPys ds = some qs → qs.length = ds.length := by
    intro ds
    induction ds with
    | nil => intro qs e; simp [D.toPys] at e; subst e; rfl
    | cons d ds ih =>
      intro qs e
      simp only [D.toPys] at e
      split at e
      · cases e
        rename_i e2
        rw [List.length_cons, List.length_cons, ih _ e2]
      · cases e
  exact ⟨ps, h1, h2, by omega, hl _ _ h1⟩
section
variable {n L : Nat} {s : St} {t : Nat} {r : TR} {cols : List D} {x4 : Option D}
/-- any([one[0] != row[0] and one[c] == value ..]) -/
theorem any_u {rs : List TR} {c : Nat} {rule : D} (hs : s[t]? = some rs) (hr : ∀ x ∈ rs, ROk cols x) (few : rs.length ≤ 200) (h : ROk cols r) (hc : c ≤ cols.length) (hrule : idxD rule (.int 1) = some (.int (c : Nat))) (hrv : ∀ st, view st rule = rule) :
    evE (fr n L) [some (stD s), some (.int (t : Nat)), some (rowD r), some rule, some (cellAt r c), none] (.blt .any (.new (.comp [5] (.and (.cmp .NotEq (.idx (.var 5) (.const (.int 0))) (.idx (.var 2) (.const (.int 0)))) (.cmp .Eq (.idx (.var 5) (.idx (.var 3) (.const (.int 1)))) (.var 4))) (.name 5) (.val (.idx (.var 0) (.var 1))) .no))) = M.ret (.bl (rs.any fun one => !eqB (.int one.1) (.int r.1) && eqB (cellAt one c) (cellAt r c))) := by
  have v1 := fun st => flat_view (cell_nb2 h c).1 st
  refine comp_tany (enc := rowD) (rs := rs) (by simp [st_ix hs]) (fun one ho => ?_) (okz_lt (by omega))
  have o := hr one ho
  have v2 := fun st => flat_view (cell_nb2 o c).1 st
  have vr : ∀ (x : TR) st, view st (rowD x) = rowD x := fun x st => rfl
  have k2 := eqD_nb (cell_nb2 o c).1 (cell_nb2 h c).1 (by rw [(cell_nb2 o c).2]; decide) (by rw [(cell_nb2 h c).2]; decide)
  have i1 := cell_ix o hc
  have k0 := key_ix one
  have k0' := key_ix r
  rw [eqB_int]
  by_cases hb : one.1 = r.1
  · simp [turnN, vr, hrv, hrule, k0, k0', i1, v1, v2, k2, hb]
  · simp [turnN, vr, hrv, hrule, k0, k0', i1, v1, v2, k2, hb]
end
end K22
set_option linter.all false
set_option maxRecDepth 100000
set_option maxHeartbeats 4000000
namespace K22
open Ev PySem
section
variable {C : Cfg} {ρ : Ev.Env}
theorem new_ev {m : N} {xs : List D} (h : evN C ρ m = M.ret xs) : evE C ρ (.new m) = M.ret (.lst xs) := by
  rw [evE, h]; rfl
theorem cmp_ev {a b : E} {x y : D} {op : CmpOp} {r : Bool} (h1 : evE C ρ a = M.ret x) (h2 : evE C ρ b = M.ret y) (vx : ∀ st, view st x = x) (vy : ∀ st, view st y = y) (h : cmpD op x y = some r) : evE C ρ (.cmp op a b) = M.ret (.bl r) := by
  rw [evE, h1, s_ret, h2, s_ret]
  funext st
  rw [vx, vy, h]; rfl
theorem ret_ev {e : E} {d : D} (h : evE C ρ e = M.ret d) : exS C ρ (.ret e) = M.ret (.ret d) := by
  rw [exS, h]; rfl
theorem asg_ev {i : Nat} {e : E} {d : D} (h : evE C ρ e = M.ret d) : exS C ρ (.asg (.name i) e) = M.ret (.next (ρ.set i (some d))) := by
  rw [exS, h, s_ret]
  simp
end
theorem rows_lst {rs : List TR} {cols : List D} (h : ∀ r ∈ rs, ROk cols r) : cmpD .NotEq (.lst (rs.map rowD)) (.lst []) = some (!rs.isEmpty) := by
  have hd : ∀ (xs : List TR), (∀ r ∈ xs, ROk cols r) → D.deps (xs.map rowD) ≤ 1 := by
    intro xs
    induction xs with
    | nil => intro _; exact Nat.zero_le _
    | cons r rs ih =>
      intro h
      have e := (h r List.mem_cons_self).nb.2
      have := ih fun x hx => h x (List.mem_cons_of_mem _ hx)
      show max (rowD r).dep (D.deps (rs.map rowD)) ≤ 1
      omega
  have := eqD_nb (x := .lst (rs.map rowD)) (y := .lst []) (rows_nb h) rfl (by show D.deps _ + 1 ≤ 60; have := hd rs h; omega) (by decide)
  show (eqD _ _).map (!·) = _
  rw [this, Option.map_some]
  congr 2
  apply bool_iff
  rw [eqB_iff]
  cases rs <;> simp
structure FOk (ts : List Tab) (s : St) : Prop where
  len : s.length = ts.length
  tab : ∀ (i : Nat) (t : Tab) (rs : List TR), ts[i]? = some t → s[i]? = some rs → (∀ r ∈ rs, ROk t.1 r) ∧ rs.length ≤ 200
theorem SOk.f {ts : List Tab} {s : St} (h : SOk ts s) : FOk ts s := ⟨h.len, fun i t rs h1 h2 => ⟨(h.tab i t rs h1 h2).row, by have := (h.tab i t rs h1 h2).few; omega⟩⟩
theorem FOk.at {ts : List Tab} {s : St} (h : FOk ts s) {i : Nat} {t : Tab} (hi : ts[i]? = some t) : ∃ rs, s[i]? = some rs ∧ (∀ r ∈ rs, ROk t.1 r) ∧ rs.length ≤ 200 := by
  have hl : i < s.length := by rw [h.len]; exact (List.getElem?_eq_some_iff.mp hi).1
  exact ⟨s[i], List.getElem?_eq_getElem hl, h.tab i t _ hi (List.getElem?_eq_getElem hl)⟩
theorem isNon_view {v : D} (h : v.nb = true) (st : Store) : cmpD .Is (view st v) .non = some (isNon v) := by
  rw [flat_view h]
  cases v <;> rfl
theorem brk_c {ys : List D} {k n : Nat} {x : D} (s : St) (t : Nat) (r : TR) (h : Test ys k n x) : brk s t r (.tup [S "check", x]) = brkC r x := by
  cases h with
  | leaf h => cases h <;> rfl
  | not h => rfl
  | bin hw h g => rfl
theorem brk_u (s : St) (t : Nat) (r : TR) (c : Nat) : brk s t r (.tup [S "unique", .int (c : Nat)]) = brkU ((s[t]?).getD []) r c := rfl
theorem brk_r (s : St) (t : Nat) (r : TR) (c u : Nat) : brk s t r (.tup [S "refer", .int (c : Nat), .int (u : Nat)]) = brkR ((s[u]?).getD []) r c := rfl
theorem breaks_ok {n : Nat} {ts : List Tab} {s : St} {t : Nat} {tb : Tab} {r : TR} {rule : D} (hs : FOk ts s) (ht : ts[t]? = some tb) (h : ROk tb.1 r) (hr : Rule tb.1 ts.length rule) :
    cl (n + 9) 87 [stD s, .int (t : Nat), rowD r, rule] = M.ret (.bl (brk s t r rule)) ∧ cl (n + 9) 101 [stD s, .int (t : Nat), rowD r, rule] = M.ret (.bl (brk s t r rule)) := by
  obtain ⟨rs, e1, e2, e3⟩ := hs.at ht
  have vr : ∀ st, view st (rowD r) = rowD r := fun st => rfl
  cases hr with
  | @check t' k s' ht' hk =>
    obtain ⟨b1, b2⟩ := tri_ok h ht' hk (n + 8) (by omega)
    have hv : ∀ st, view st t' = t' := test_view ht'
    constructor
    · refine cl_ret (F := F_breaks) rfl rfl fun L => ?_
      show exSs _ [some (stD s), some (.int (t : Nat)), some (rowD r), some (.tup [S "check", t']), none, none] _ = _
      refine sqR (if_t (by simp) (sqR ?_))
      cases hq : triOf (rowD r) t' <;> rw [hq] at b1 <;> simp [hv, b1, hq, brk_c s t r ht', brkC, tv, okSize]
    · refine cl_ret (F := F__law_broken) rfl rfl fun L => ?_
      show exSs _ [some (stD s), some (.int (t : Nat)), some (rowD r), some (.tup [S "check", t']), none] _ = _
      refine sqR (if_t (by simp) (sqR ?_))
      cases hq : triOf (rowD r) t' <;> rw [hq] at b2 <;> simp [hv, b2, hq, brk_c s t r ht', brkC, ti, okSize]
  | uniq c h1 h2 =>
    have ci := cell_ix h h2
    have cn := cell_nb2 h c
    have cv := fun st => flat_view cn.1 st
    constructor
    · refine cl_ret (F := F_breaks) rfl rfl fun L => ?_
      show exSs _ [some (stD s), some (.int (t : Nat)), some (rowD r), some (.tup [S "unique", .int (c : Nat)]), none, none] _ = _
      have s1 : exS (fr (n + 8) L) [some (stD s), some (.int (t : Nat)), some (rowD r), some (.tup [S "unique", .int (c : Nat)]), none, none] (.asg (.name 4) (.idx (.var 2) (.idx (.var 3) (.const (.int 1))))) = M.ret (.next [some (stD s), some (.int (t : Nat)), some (rowD r), some (.tup [S "unique", .int (c : Nat)]), some (cellAt r c), none]) := by
        simp [vr, ci]
      refine (sqM (if_f (by simp) rfl)).trans ((sqM s1).trans ?_)
      by_cases hn : isNon (cellAt r c) = true
      · refine sqR (if_t (by simp [cv, hn]) (sqR ?_))
        simp [brk_u, brkU, hn]
      · have hn : isNon (cellAt r c) = false := by simpa using hn
        refine (sqM (if_f (by simp [cv, hn]) rfl)).trans (sqR (if_t (by simp) (sqR ?_)))
        rw [exS, any_u e1 e2 e3 h h2 rfl (fun st => rfl)]
        simp [brk_u, brkU, hn, e1]
    · refine cl_ret (F := F__law_broken) rfl rfl fun L => ?_
      show exSs _ [some (stD s), some (.int (t : Nat)), some (rowD r), some (.tup [S "unique", .int (c : Nat)]), none] _ = _
      refine (sqM (if_f (by simp) rfl)).trans ?_
      by_cases hn : isNon (cellAt r c) = true
      · refine sqR (if_t (by simp [vr, ci, cv, hn]) (sqR ?_))
        simp [brk_u, brkU, hn]
      · have hn : isNon (cellAt r c) = false := by simpa using hn
        refine (sqM (if_f (by simp [vr, ci, cv, hn]) rfl)).trans (sqR (if_t (by simp) (sqR ?_)))
        have c1 : evN (fr (n + 8) L) [some (stD s), some (.int (t : Nat)), some (rowD r), some (.tup [S "unique", .int (c : Nat)]), none] (.comp [4] (.var 4) (.name 4) (.val (.idx (.var 0) (.var 1))) (.is (.and (.cmp .NotEq (.idx (.var 4) (.const (.int 0))) (.idx (.var 2) (.const (.int 0)))) (.cmp .Eq (.idx (.var 4) (.idx (.var 3) (.const (.int 1)))) (.idx (.var 2) (.idx (.var 3) (.const (.int 1)))))))) = M.ret ((rs.filter fun one => !eqB (.int one.1) (.int r.1) && eqB (cellAt one c) (cellAt r c)).map rowD) := by
          refine comp_tfilter (enc := rowD) (rs := rs) (by simp [st_ix e1]) (fun one ho => ?_) (okz_lt (by omega))
          have o := e2 one ho
          have v2 := fun st => flat_view (cell_nb2 o c).1 st
          have vr2 : ∀ st, view st (rowD one) = rowD one := fun st => rfl
          have k2 := eqD_nb (cell_nb2 o c).1 cn.1 (by rw [(cell_nb2 o c).2]; decide) (by rw [cn.2]; decide)
          have i1 := cell_ix o h2
          have k0 := key_ix one
          have k0' := key_ix r
          rw [eqB_int]
          by_cases hb : one.1 = r.1
          · simp [turnN, vr, vr2, ci, k0, k0', i1, cv, v2, k2, hb]
          · cases hq : eqB (cellAt one c) (cellAt r c) <;> simp [turnN, vr, vr2, ci, k0, k0', i1, cv, v2, k2, hb, hq, okSize]
        have q2 : ∀ (p : TR → Bool) (xs : List TR), (!(xs.filter p).isEmpty) = xs.any p := by
          intro p xs
          induction xs with
          | nil => rfl
          | cons x xs ih =>
            rw [List.filter_cons, List.any_cons]
            cases hp : p x
            · exact ih
            · rfl
        have q := rows_lst (rs := rs.filter fun one => !eqB (.int one.1) (.int r.1) && eqB (cellAt one c) (cellAt r c)) fun x hx => e2 x (List.mem_filter.mp hx).1
        rw [q2] at q
        rw [brk_u, e1, Option.getD_some, brkU, hn]
        exact ret_ev (cmp_ev (new_ev c1) rfl (fun _ => rfl) (fun _ => rfl) q)
  | refer c u h1 h2 hu =>
    have ci := cell_ix h h2
    have cn := cell_nb2 h c
    have cv := fun st => flat_view cn.1 st
    obtain ⟨rs', f1, f2, f3⟩ := hs.at (List.getElem?_eq_getElem hu)
    have tn : ((u : Int)).toNat = u := Int.toNat_natCast u
    constructor
    · refine cl_ret (F := F_breaks) rfl rfl fun L => ?_
      show exSs _ [some (stD s), some (.int (t : Nat)), some (rowD r), some (.tup [S "refer", .int (c : Nat), .int (u : Nat)]), none, none] _ = _
      have s1 : exS (fr (n + 8) L) [some (stD s), some (.int (t : Nat)), some (rowD r), some (.tup [S "refer", .int (c : Nat), .int (u : Nat)]), none, none] (.asg (.name 4) (.idx (.var 2) (.idx (.var 3) (.const (.int 1))))) = M.ret (.next [some (stD s), some (.int (t : Nat)), some (rowD r), some (.tup [S "refer", .int (c : Nat), .int (u : Nat)]), some (cellAt r c), none]) := by
        simp [vr, ci]
      refine (sqM (if_f (by simp) rfl)).trans ((sqM s1).trans ?_)
      by_cases hn : isNon (cellAt r c) = true
      · refine sqR (if_t (by simp [cv, hn]) (sqR ?_))
        simp [brk_r, brkR, hn]
      · have hn : isNon (cellAt r c) = false := by simpa using hn
        refine (sqM (if_f (by simp [cv, hn]) rfl)).trans ((sqM (if_f (by simp) rfl)).trans (sqR ?_))
        have a1 : evE (fr (n + 8) L) [some (stD s), some (.int (t : Nat)), some (rowD r), some (.tup [S "refer", .int (c : Nat), .int (u : Nat)]), some (cellAt r c), none] (.blt .any (.new (.comp [5] (.cmp .Eq (.idx (.var 5) (.const (.int 0))) (.var 4)) (.name 5) (.val (.idx (.var 0) (.idx (.var 3) (.const (.int 2))))) .no))) = M.ret (.bl (rs'.any fun one => eqB (.int one.1) (cellAt r c))) := by
          refine comp_tany (enc := rowD) (rs := rs') (by simp [st_ix f1]) (fun one ho => ?_) (okz_lt (by omega))
          have k2 := eqD_nb (x := .int one.1) rfl cn.1 (Nat.zero_le _) (by rw [cn.2]; decide)
          have k0 := key_ix one
          have vr2 : ∀ st, view st (rowD one) = rowD one := fun st => rfl
          simp [turnN, vr2, k0, cv, k2]
        rw [exS, evE, a1]
        simp [brk_r, brkR, hn, f1]
    · refine cl_ret (F := F__law_broken) rfl rfl fun L => ?_
      show exSs _ [some (stD s), some (.int (t : Nat)), some (rowD r), some (.tup [S "refer", .int (c : Nat), .int (u : Nat)]), none] _ = _
      refine (sqM (if_f (by simp) rfl)).trans ?_
      by_cases hn : isNon (cellAt r c) = true
      · refine sqR (if_t (by simp [vr, ci, cv, hn]) (sqR ?_))
        simp [brk_r, brkR, hn]
      · have hn : isNon (cellAt r c) = false := by simpa using hn
        refine (sqM (if_f (by simp [vr, ci, cv, hn]) rfl)).trans ((sqM (if_f (by simp) rfl)).trans (sqR ?_))
        have c1 : evN (fr (n + 8) L) [some (stD s), some (.int (t : Nat)), some (rowD r), some (.tup [S "refer", .int (c : Nat), .int (u : Nat)]), none] (.comp [4] (.idx (.var 4) (.const (.int 0))) (.name 4) (.val (.idx (.var 0) (.idx (.var 3) (.const (.int 2))))) .no) = M.ret (rs'.map fun one => .int one.1) := by
          refine comp_tmap (enc := rowD) (rs := rs') (by simp [st_ix f1]) (fun one ho => ?_) (okz_lt (by omega))
          have k0 := key_ix one
          have vr2 : ∀ st, view st (rowD one) = rowD one := fun st => rfl
          simp [turnN, vr2, k0, okSize]
        have q := inL_nb (x := cellAt r c) (ys := rs'.map fun one => .int one.1) cn.1 (nbs_of fun x hx => by obtain ⟨_, _, rfl⟩ := List.mem_map.mp hx; rfl) (by rw [cn.2]; decide)
        rw [memB_map] at q
        rw [brk_r, f1, Option.getD_some, brkR, hn]
        refine ret_ev (cmp_ev (x := cellAt r c) (by simp [vr, ci]) (new_ev c1) cv (fun _ => rfl) ?_)
        simp [q]
end K22
set_option linter.all false
set_option maxRecDepth 100000
set_option maxHeartbeats 4000000
namespace K22
open Ev PySem
/-! ### loops that look for something -/
def Lp (w : D → D) (I : Ev.Env → Prop) (o : Option D) (m : M Ev.Flow) : Prop := match o with
  | some d => m = M.ret (.ret (w d))
  | none => ∃ ρ', m = M.ret (.next ρ') ∧ I ρ'
theorem Lp.mono {w : D → D} {I J : Ev.Env → Prop} {o : Option D} {m : M Ev.Flow} (h : Lp w I o m) (k : ∀ ρ, I ρ → J ρ) : Lp w J o m := by
  cases o with
  | some d => exact h
  | none => obtain ⟨ρ, e, i⟩ := h; exact ⟨ρ, e, k ρ i⟩
theorem Lp.one {C : Cfg} {ρ : Ev.Env} {s : Ev.S} {w : D → D} {I : Ev.Env → Prop} {o : Option D} (h : Lp w I o (exS C ρ s)) : Lp w I o (exSs C ρ (.cons s .nil)) := by
  cases o with
  | some d => exact sqR h
  | none => obtain ⟨ρ', e, i⟩ := h; exact ⟨ρ', (sqM e).trans rfl, i⟩
theorem forL_findT {α : Type} {enc : α → D} {f : D → Ev.Env → M Ev.Flow} {g : α → Option D} {w : D → D} (I : Ev.Env → Prop) : ∀ {xs : List α}, (∀ x ∈ xs, ∀ ρ, I ρ → Lp w I (g x) (f (enc x) ρ)) → ∀ {ρ}, I ρ → Lp w I (xs.findSome? g) (forL f (xs.map enc) ρ)
  | [], _, ρ, h => ⟨ρ, rfl, h⟩
  | x :: xs, k, ρ, h => by
    have k0 := k x List.mem_cons_self ρ h
    rw [List.findSome?_cons]
    cases e : g x with
    | some d =>
      rw [e] at k0
      have k0 : f (enc x) ρ = M.ret (.ret (w d)) := k0
      show forL f (enc x :: xs.map enc) ρ = _
      rw [forL, k0, s_ret]
    | none =>
      rw [e] at k0
      obtain ⟨ρ', e1, h'⟩ := k0
      have ih := forL_findT (w := w) I (xs := xs) (fun y hy => k y (List.mem_cons_of_mem _ hy)) h'
      have e2 : forL f (enc x :: xs.map enc) ρ = forL f (xs.map enc) ρ' := by rw [forL, e1, s_ret]
      rw [List.map_cons, e2]
      exact ih
theorem Lp.for {C : Cfg} {ρ : Ev.Env} {tg : Tg} {it : It} {b : Ss} {α : Type} {enc : α → D} {g : α → Option D} {w : D → D} {I : Ev.Env → Prop} {xs : List α} (hit : evIt C ρ it = M.ret (xs.map enc)) (h0 : I ρ)
    (k : ∀ x ∈ xs, ∀ ρ, I ρ → Lp w I (g x) (match setTg tg (enc x) ρ with
      | some ρ => exSs C ρ b
      | none => M.bad)) : Lp w I (xs.findSome? g) (exS C ρ (.for tg it b)) := by
  rw [exS, hit, s_ret]
  exact forL_findT I k h0
def encN (xs : List D) (i : Nat) : D := .tup [.int (i : Nat), (xs[i]?).getD .non]
theorem numUp0 (xs : List D) : numUp 0 xs = (List.range xs.length).map (encN xs) := by
  rw [numUp_map]
  simp only [Nat.zero_add]
  rfl
theorem encN_at {xs : List D} {i : Nat} {d : D} (h : xs[i]? = some d) : encN xs i = .tup [.int (i : Nat), d] := by
  rw [encN, h]; rfl
def encI (i : Nat) : D := .int (i : Nat)
theorem rngUp0 (n : Nat) : rngUp 0 n = (List.range n).map encI := by
  rw [rngUp_map]
  simp only [Int.zero_add]
  rfl
/-! ### schemas -/
def Rules (t : Tab) (m : Nat) (rules : List D) : Prop := t.2 = .tup rules ∧ rules.length ≤ 4 ∧ ∀ r ∈ rules, Rule t.1 m r
structure SchOk (ts : List Tab) : Prop where
  few : ts.length ≤ 4
  tab : ∀ t ∈ ts, Cs t.1 ∧ t.1.length ≤ 5 ∧ ∃ rules, Rules t ts.length rules
def rulesOf (t : Tab) : List D := match t.2 with
  | .tup xs => xs
  | _ => []
theorem SchOk.rules {ts : List Tab} (h : SchOk ts) {i : Nat} {t : Tab} (hi : ts[i]? = some t) : t.2 = .tup (rulesOf t) ∧ (rulesOf t).length ≤ 4 ∧ ∀ r ∈ rulesOf t, Rule t.1 ts.length r := by
  obtain ⟨_, _, rules, h1, h2, h3⟩ := h.tab t (List.mem_of_getElem? hi)
  have : rulesOf t = rules := by rw [rulesOf, h1]
  rw [this]
  exact ⟨h1, h2, h3⟩
/-! ### rows that refer to what is gone -/
noncomputable def hit (t : Nat) (keys : List D) (r : TR) : D → Bool
  | .tup [_, .int c, .int u] => decide (u = (t : Int)) && memB (cellAt r c.toNat) keys
  | _ => false
theorem hit_ev {C : Cfg} {ρ : Ev.Env} {i j k l t m : Nat} {cols : List D} {r : TR} {rule : D} {keys : List Int} (hr : ROk cols r) (hu : Rule cols m rule) (hi : ρ[i]? = some (some rule)) (hj : ρ[j]? = some (some (rowD r))) (hk : ρ[k]? = some (some (.int (t : Nat)))) (hl : ρ[l]? = some (some (.lst (keys.map .int)))) :
    evE C ρ (.and (.cmp .Eq (.idx (.var i) (.const (.int 0))) (.const (.str "refer"))) (.and (.cmp .Eq (.idx (.var i) (.const (.int 2))) (.var k)) (.cmp .In (.idx (.var j) (.idx (.var i) (.const (.int 1)))) (.var l)))) = M.ret (.bl (hit t (keys.map .int) r rule)) := by
  have vr : ∀ st, view st (rowD r) = rowD r := fun st => rfl
  cases hu with
  | uniq c h1 h2 => simp [g_some hi, hit]
  | @check t' k' s' ht' hk =>
    have : hit t (keys.map .int) r (.tup [S "check", t']) = false := by
      cases ht' with
      | leaf h => cases h <;> rfl
      | not h => rfl
      | bin hw h g => rfl
    simp [g_some hi, this]
  | refer c u h1 h2 hu =>
    have ci := cell_ix hr h2
    have cn := cell_nb2 hr c
    have cv := fun st => flat_view cn.1 st
    have q := inL_nb (x := cellAt r c) (ys := keys.map .int) cn.1 (ints_nb keys) (by rw [cn.2]; decide)
    by_cases hut : (u : Int) = t
    · simp [g_some hi, g_some hj, g_some hk, g_some hl, hit, vr, ci, cv, q, hut]
    · simp [g_some hi, g_some hj, g_some hk, g_some hl, hit, vr, ci, cv, q, hut]
end K22
set_option linter.all false
set_option maxRecDepth 100000
set_option maxHeartbeats 4000000
namespace K22
open Ev PySem
def hitD (own : Nat) (k : Int) (i : Nat) : D := .tup [S "refused", S "refer", .int (own : Nat), .int k, .int (i : Nat)]
noncomputable def leftG (t : Nat) (keys : List D) (own : Nat) (rules : List D) (r : TR) (i : Nat) : Option D := if hit t keys r ((rules[i]?).getD .non) then some (hitD own r.1 i) else none
noncomputable def leftR (t : Nat) (keys : List D) (own : Nat) (rules : List D) (r : TR) : Option D := (List.range rules.length).findSome? (leftG t keys own rules r)
noncomputable def leftT (ts : List Tab) (s : St) (t : Nat) (keys : List D) (own : Nat) : Option D := ((s[own]?).getD []).findSome? (leftR t keys own (rulesOf ((ts[own]?).getD ([], .non))))
noncomputable def leftF (ts : List Tab) (s : St) (t : Nat) (keys : List D) : Option D := (List.range ts.length).findSome? (leftT ts s t keys)
abbrev hitE (i j k l : Nat) : E := (.and (.cmp .Eq (.idx (.var i) (.const (.int 0))) (.const (.str "refer"))) (.and (.cmp .Eq (.idx (.var i) (.const (.int 2))) (.var k)) (.cmp .In (.idx (.var j) (.idx (.var i) (.const (.int 1)))) (.var l))))
/-- the rules' loop, wherever its things stand -/
theorem lp_rules {C : Cfg} {ρ : Ev.Env} {a i j k l t m own : Nat} {cols rules : List D} {r : TR} {keys : List Int} {w : D → D} {I : Ev.Env → Prop} {it : It} {re : E}
    (hit' : evIt C ρ it = M.ret (numUp 0 rules)) (hr : ROk cols r) (hu : ∀ x ∈ rules, Rule cols m x) (h0 : I ρ)
    (stay : ∀ x y ρ, I ρ → ∃ ρ', setTg (.two (.name a) (.name i)) (.tup [x, y]) ρ = some ρ' ∧ I ρ' ∧ ρ'[i]? = some (some y) ∧ ρ'[j]? = some (some (rowD r)) ∧ ρ'[k]? = some (some (.int (t : Nat))) ∧ ρ'[l]? = some (some (.lst (keys.map .int))) ∧ ∀ at' : Nat, x = .int (at' : Nat) → evE C ρ' re = M.ret (w (hitD own r.1 at'))) :
    Lp w I (leftR t (keys.map .int) own rules r) (exS C ρ (.for (.two (.name a) (.name i)) it (.cons (.iff (hitE i j k l) (.cons (.ret re) .nil) .nil) .nil))) := by
  rw [numUp0] at hit'
  refine Lp.for hit' h0 fun at' ha ρ h => ?_
  have ha : at' < rules.length := List.mem_range.mp ha
  have e1 := List.getElem?_eq_getElem ha
  have hx := List.getElem_mem ha
  generalize hq : rules[at'] = rule at e1 hx
  obtain ⟨ρ', e, h', q1, q2, q3, q4, q5⟩ := stay (.int (at' : Nat)) rule ρ h
  rw [encN_at e1, e]
  have c := hit_ev (C := C) hr (hu _ hx) q1 q2 q3 q4
  have hg : leftG t (keys.map .int) own rules r at' = if hit t (keys.map .int) r rule then some (hitD own r.1 at') else none := by rw [leftG, e1]; rfl
  rw [hg]
  refine Lp.one ?_
  cases hh : hit t (keys.map .int) r rule with
  | true => rw [hh] at c; exact if_t c (sqR (ret_ev (q5 at' rfl)))
  | false => rw [hh] at c; exact ⟨ρ', if_f c rfl, h'⟩
section
variable {n L t : Nat} {ts : List Tab} {s : St} {keys : List Int}
def FlI (ts : List Tab) (s : St) (t : Nat) (keys : List Int) (ρ : Ev.Env) : Prop := ∃ a b c d e f, ρ = [some (schD ts), some (stD s), some (.int (t : Nat)), some (.lst (keys.map .int)), a, b, c, d, e, f]
theorem first_left_ok (hc : SchOk ts) (hs : FOk ts s) : cl (n + 1) 89 [schD ts, stD s, .int (t : Nat), .lst (keys.map .int)] = M.ret ((leftF ts s t (keys.map .int)).getD .non) := by
  refine cl_ret (F := F_first_left) rfl rfl fun L => ?_
  show exSs _ [some (schD ts), some (stD s), some (.int (t : Nat)), some (.lst (keys.map .int)), none, none, none, none, none, none] _ = _
  have h0 : FlI ts s t keys [some (schD ts), some (stD s), some (.int (t : Nat)), some (.lst (keys.map .int)), none, none, none, none, none, none] := ⟨_, _, _, _, _, _, rfl⟩
  have lp := Lp.for (C := fr n L) (w := fun d => d) (g := leftT ts s t (keys.map .int)) (tg := .two (.name 4) (.two (.name 6) (.name 7))) (it := .enum (.var 0)) (b := (.cons (.for (.name 5) (.val (.idx (.var 1) (.var 4))) (.cons (.for (.two (.name 8) (.name 9)) (.enum (.var 7)) (.cons (.iff (hitE 9 5 2 3) (.cons (.ret (.tup (.cons (.const (.str "refused")) (.cons (.const (.str "refer")) (.cons (.var 4) (.cons (.idx (.var 5) (.const (.int 0))) (.cons (.var 8) .nil))))))) .nil) .nil) .nil)) .nil)) .nil)) (show evIt (fr n L) _ _ = M.ret ((List.range (ts.map Tab.d).length).map (encN (ts.map Tab.d))) by rw [← numUp0]; simp [seqOf]) h0 (fun own ho ρ h => by
    obtain ⟨a, b, c, d, e, f, rfl⟩ := h
    rw [List.length_map] at ho
    have ho : own < ts.length := List.mem_range.mp ho
    have e1 := List.getElem?_eq_getElem ho
    generalize hq : ts[own] = tb at e1
    obtain ⟨z1, z2, z3⟩ := hc.rules e1
    obtain ⟨rs, f1, f2, f3⟩ := hs.at e1
    have e2 : (ts.map Tab.d)[own]? = some (.tup [.tup (intF :: tb.1), .tup (rulesOf tb)]) := by
      rw [List.getElem?_map, e1, Option.map_some, Tab.d, z1]
    rw [encN_at e2]
    show Lp _ _ _ (exSs (fr n L) [some (schD ts), some (stD s), some (.int (t : Nat)), some (.lst (keys.map .int)), some (.int (own : Nat)), b, some (.tup (intF :: tb.1)), some (.tup (rulesOf tb)), e, f] _)
    refine Lp.one ?_
    have hg : leftT ts s t (keys.map .int) own = rs.findSome? (leftR t (keys.map .int) own (rulesOf tb)) := by rw [leftT, f1, e1]; rfl
    rw [hg]
    refine Lp.mono (I := fun ρ => ∃ b e f, ρ = [some (schD ts), some (stD s), some (.int (t : Nat)), some (.lst (keys.map .int)), some (.int (own : Nat)), b, some (.tup (intF :: tb.1)), some (.tup (rulesOf tb)), e, f]) (Lp.for (enc := rowD) (by simp [st_ix f1]) ⟨_, _, _, rfl⟩ fun r hr ρ h => ?_) (fun ρ h => by obtain ⟨b, e, f, rfl⟩ := h; exact ⟨_, _, _, _, _, _, rfl⟩)
    obtain ⟨b, e, f, rfl⟩ := h
    show Lp _ _ _ (exSs (fr n L) [some (schD ts), some (stD s), some (.int (t : Nat)), some (.lst (keys.map .int)), some (.int (own : Nat)), some (rowD r), some (.tup (intF :: tb.1)), some (.tup (rulesOf tb)), e, f] _)
    refine Lp.one ?_
    refine Lp.mono (I := fun ρ => ∃ e f, ρ = [some (schD ts), some (stD s), some (.int (t : Nat)), some (.lst (keys.map .int)), some (.int (own : Nat)), some (rowD r), some (.tup (intF :: tb.1)), some (.tup (rulesOf tb)), e, f]) (lp_rules (by simp [seqOf]) (f2 r hr) z3 ⟨_, _, rfl⟩ fun x y ρ h => ?_) (fun ρ h => by obtain ⟨e, f, rfl⟩ := h; exact ⟨_, _, _, rfl⟩)
    obtain ⟨e, f, rfl⟩ := h
    refine ⟨[some (schD ts), some (stD s), some (.int (t : Nat)), some (.lst (keys.map .int)), some (.int (own : Nat)), some (rowD r), some (.tup (intF :: tb.1)), some (.tup (rulesOf tb)), some x, some y], rfl, ⟨_, _, rfl⟩, rfl, rfl, rfl, rfl, fun at' hx => ?_⟩
    subst hx
    have vr : ∀ st, view st (rowD r) = rowD r := fun st => rfl
    have k0 := key_ix r
    simp [vr, k0, okSize, hitD])
  rw [List.length_map] at lp
  change Lp (fun d => d) (FlI ts s t keys) (leftF ts s t (keys.map .int)) _ at lp
  cases hf : leftF ts s t (keys.map .int) with
  | some d => rw [hf] at lp; exact sqR lp
  | none =>
    rw [hf] at lp
    obtain ⟨ρ', e, a, b, c, d, e', f, rfl⟩ := lp
    exact (sqM e).trans (sqR (by simp))
end
end K22
set_option linter.all false
set_option maxRecDepth 100000
set_option maxHeartbeats 4000000
namespace K22
open Ev PySem
/-! ### keys -/
abbrev keysI (rs : List TR) : List Int := rs.map (·.1)
def keysL (rs : List TR) : List D := (keysI rs).map .int
theorem asc_pw : ∀ {ks : List Int}, ascI ks = true → ks.Pairwise (· < ·)
  | [], _ => .nil
  | k :: ks, h => .cons (asc_lt h) (asc_pw (asc_tail h))
theorem pw_asc : ∀ {ks : List Int}, ks.Pairwise (· < ·) → ascI ks = true
  | [], _ => rfl
  | k :: ks, h => by
    cases h with
    | cons h1 h2 => exact asc_cons (pw_asc h2) h1
theorem asc_sub {rs rs' : List TR} (hs : rs'.Sublist rs) (h : ascI (keysI rs) = true) : ascI (keysI rs') = true := pw_asc ((asc_pw h).sublist (hs.map _))
theorem key_inj : ∀ {rs : List TR}, ascI (keysI rs) = true → ∀ {r r' : TR}, r ∈ rs → r' ∈ rs → r.1 = r'.1 → r = r'
  | x :: rs, h, r, r', h1, h2, e => by
    have lt := asc_lt h
    have m : ∀ y ∈ rs, x.1 < y.1 := fun y hy => lt y.1 (List.mem_map.mpr ⟨y, hy, rfl⟩)
    rcases List.mem_cons.mp h1 with e1 | g1
    · rcases List.mem_cons.mp h2 with e2 | g2
      · rw [e1, e2]
      · have := m r' g2
        rw [e1] at e
        omega
    · rcases List.mem_cons.mp h2 with e2 | g2
      · have := m r g1
        rw [e2] at e
        omega
      · exact key_inj (asc_tail h) g1 g2 e
theorem filt_keys {rs : List TR} (h : ascI (keysI rs) = true) (p : TR → Bool) {r : TR} (hr : r ∈ rs) : memB (.int r.1) (keysL (rs.filter p)) = p r := by
  apply bool_iff
  rw [memB_iff]
  constructor
  · intro hm
    obtain ⟨k, hk, e⟩ := List.mem_map.mp hm
    obtain ⟨r', hr', rfl⟩ := List.mem_map.mp hk
    obtain ⟨h1, h2⟩ := List.mem_filter.mp hr'
    have e : r'.1 = r.1 := D.int.inj e
    rwa [key_inj h h1 hr e] at h2
  · intro hp
    exact List.mem_map.mpr ⟨r.1, List.mem_map.mpr ⟨r, List.mem_filter.mpr ⟨hr, hp⟩, rfl⟩, rfl⟩
theorem rowD_inj {r r' : TR} (h : rowD r = rowD r') : r = r' := by
  have h := D.tup.inj h
  injection h with h1 h2
  injection h1 with h1
  exact Prod.ext h1 h2
theorem filt_rows (rs : List TR) (p : TR → Bool) {r : TR} (hr : r ∈ rs) : memB (rowD r) ((rs.filter p).map rowD) = p r := by
  apply bool_iff
  rw [memB_iff]
  constructor
  · intro hm
    obtain ⟨r', hk, e⟩ := List.mem_map.mp hm
    have := (List.mem_filter.mp hk).2
    rwa [rowD_inj e] at this
  · intro hp
    exact List.mem_map.mpr ⟨r, List.mem_filter.mpr ⟨hr, hp⟩, rfl⟩
theorem insBy_lt {x : Int} : ∀ {ys : List Int}, (∀ y ∈ ys, x < y) → insBy (fun i => i) x ys = x :: ys
  | [], _ => rfl
  | y :: ys, h => by
    have := h y List.mem_cons_self
    rw [insBy, if_pos (by omega)]
theorem srt_id : ∀ {ks : List Int}, ascI ks = true → srtBy (fun i => i) ks = ks
  | [], _ => rfl
  | k :: ks, h => by
    rw [srtBy, srt_id (asc_tail h), insBy_lt (asc_lt h)]
theorem allI_ints : ∀ ks : List Int, allI (ks.map .int) = some ks
  | [] => rfl
  | k :: ks => by
    show (allI (ks.map .int)).map (k :: ·) = _
    rw [allI_ints ks]; rfl
theorem srti_id {ks : List Int} (h : ascI ks = true) : srtiD (.lst (ks.map .int)) = some (.lst (ks.map .int)) := by
  show (allI _).map _ = _
  rw [allI_ints, Option.map_some, srt_id h]
/-! places -/
def plcD (t : Nat) (k : Int) : D := .tup [.int (t : Nat), .int k]
theorem allP_plc (t : Nat) : ∀ ks : List Int, allP (ks.map (plcD t)) = some (ks.map fun k => ((t : Int), k))
  | [] => rfl
  | k :: ks => by
    show (allP (ks.map (plcD t))).map (((t : Int), k) :: ·) = _
    rw [allP_plc t ks]; rfl
theorem insP_plc (t k : Int) : ∀ ks : List Int, insP (t, k) (ks.map fun k => (t, k)) = (insBy (fun i => i) k ks).map fun k => (t, k)
  | [] => rfl
  | y :: ys => by
    have e : lexP (t, k) (t, y) = decide (k ≤ y) := by simp [lexP]
    rw [List.map_cons, insP, e, insBy]
    by_cases h : k ≤ y
    · simp [h]
    · have ih := insP_plc t k ys
      simp only [h, decide_false, if_false, List.map_cons]
      rw [← ih]; rfl
theorem srtP_plc (t : Int) : ∀ ks : List Int, srtP (ks.map fun k => (t, k)) = (srtBy (fun i => i) ks).map fun k => (t, k)
  | [] => rfl
  | k :: ks => by
    rw [List.map_cons, srtP, srtP_plc t ks, insP_plc]; rfl
theorem srtp_plc (t : Nat) (ks : List Int) : srtpD (.lst (ks.map (plcD t))) = some (.lst ((srtBy (fun i => i) ks).map (plcD t))) := by
  show (allP _).map _ = _
  rw [allP_plc, Option.map_some, srtP_plc, List.map_map]
  rfl
/-! ### rows taken -/
noncomputable def meantR (rs : List TR) (w : D) : List TR := rs.filter (mt w)
noncomputable def goneR (rs : List TR) (w : D) : List TR := rs.filter fun r => !mt w r
noncomputable def takeS (s : St) (t : Nat) (rs : List TR) (w : D) : St := s.set t (srtR (goneR rs w))
def refD (s : St) (d : D) : D := .tup [d, stD s, .lst []]
def doneD (k : Nat) : D := .tup [S "done", .int (k : Nat)]
theorem srtR_mem {rs : List TR} {r : TR} (h : r ∈ srtR rs) : r ∈ rs := mem_srtBy h
theorem set_f {ts : List Tab} {s : St} (hs : FOk ts s) {t : Nat} {tb : Tab} (ht : ts[t]? = some tb) {rs : List TR} (h : ∀ r ∈ rs, ROk tb.1 r) (hl : rs.length ≤ 200) : FOk ts (s.set t (srtR rs)) := by
  refine ⟨by rw [List.length_set]; exact hs.len, fun i t' rs' e1 e2 => ?_⟩
  by_cases hi : t = i
  · subst hi
    rw [ht] at e1
    cases e1
    have hl2 : t < s.length := by rw [hs.len]; exact (List.getElem?_eq_some_iff.mp ht).1
    rw [List.getElem?_set_self hl2] at e2
    cases e2
    exact ⟨fun r hr => h r (srtR_mem hr), by rw [len_srtBy]; exact hl⟩
  · rw [List.getElem?_set_ne hi] at e2
    exact hs.tab i t' rs' e1 e2
theorem take_f {ts : List Tab} {s : St} (hs : FOk ts s) {t : Nat} {tb : Tab} (ht : ts[t]? = some tb) {rs : List TR} (hr : s[t]? = some rs) (w : D) : FOk ts (takeS s t rs w) := by
  obtain ⟨h1, h2⟩ := hs.tab t tb rs ht hr
  exact set_f hs ht (fun r hr => h1 r (List.mem_filter.mp hr).1) (Nat.le_trans (List.length_filter_le _ _) h2)
theorem keysL_len (rs : List TR) : (keysL rs).length = rs.length := by simp [keysL]
theorem leftF_tup {ts : List Tab} {s : St} {t : Nat} {keys : List D} {d : D} (h : leftF ts s t keys = some d) : isNon d = false ∧ ∀ st, view st d = d := by
  obtain ⟨own, _, h⟩ := List.exists_of_findSome?_eq_some h
  obtain ⟨r, _, h⟩ := List.exists_of_findSome?_eq_some h
  obtain ⟨i, _, h⟩ := List.exists_of_findSome?_eq_some h
  rw [leftG] at h
  split at h
  · cases h; exact ⟨rfl, fun _ => rfl⟩
  · cases h
noncomputable def takeA (ts : List Tab) (s : St) (t : Nat) (rs : List TR) (w : D) : D := (leftF ts (takeS s t rs w) t (keysL (meantR rs w))).getD (doneD (meantR rs w).length)
noncomputable def takeB (ts : List Tab) (s : St) (t : Nat) (rs : List TR) (w : D) : St := match leftF ts (takeS s t rs w) t (keysL (meantR rs w)) with
  | some _ => s
  | none => takeS s t rs w
noncomputable def takeK (ts : List Tab) (s : St) (t : Nat) (rs : List TR) (w : D) : List Int := match leftF ts (takeS s t rs w) t (keysL (meantR rs w)) with
  | some _ => []
  | none => keysI (meantR rs w)
noncomputable abbrev takeAns (ts : List Tab) (s : St) (t : Nat) (rs : List TR) (w : D) : D := .tup [takeA ts s t rs w, stD (takeB ts s t rs w), .lst ((takeK ts s t rs w).map .int)]
abbrev takeD (t : Nat) (w : D) : D := .tup [S "take", .int (t : Nat), w]
section
variable {n L t : Nat} {ts : List Tab} {s : St} {rs : List TR} {tb : Tab} {w : D}
theorem taken_by_ok (hc : SchOk ts) (hs : SOk ts s) (ht : ts[t]? = some tb) (hr : s[t]? = some rs) (hw : Wish tb.1 w) : cl (n + 10) 92 [schD ts, stD s, takeD t w] = M.ret (takeAns ts s t rs w) := by
  have ok := hs.tab t tb rs ht hr
  have few := ok.few
  have hv := wish_view hw
  have htl : t < s.length := (List.getElem?_eq_some_iff.mp hr).1
  have h4 : s.length ≤ 4 := by rw [hs.len]; exact hc.few
  obtain ⟨m1, _⟩ := meant_ok (n := n) ok.row (by omega) hw
  refine cl_ret (F := F_taken_by) rfl rfl fun L => ?_
  show exSs _ [some (schD ts), some (stD s), some (takeD t w), none, none, none, none, none, none, none] _ = _
  have s0 : exS (fr (n + 9) L) [some (schD ts), some (stD s), some (takeD t w), none, none, none, none, none, none, none] (.asg (.tg (.three (.name 6) (.name 7) (.name 8))) (.var 2)) = M.ret (.next [some (schD ts), some (stD s), some (takeD t w), none, none, none, some (S "take"), some (.int (t : Nat)), some w, none]) := by
    simp
  have s1 : evN (fr (n + 9) L) [some (schD ts), some (stD s), some (takeD t w), none, none, none, some (S "take"), some (.int (t : Nat)), some w, none] (.comp [9] (.idx (.var 9) (.const (.int 0))) (.name 9) (.val (.call 84 (.cons (.idx (.var 1) (.var 7)) (.cons (.var 8) .nil)))) .no) = M.ret ((meantR rs w).map fun r => .int r.1) := by
    refine comp_tmap (enc := rowD) (rs := meantR rs w) ?_ (fun r hr => ?_) (okz_lt ?_)
    · simp [st_ix hr, m1, meantR]
    · have k0 := key_ix r
      have vr : ∀ st, view st (rowD r) = rowD r := fun st => rfl
      simp [turnN, k0, vr, okSize]
    · have := List.length_filter_le (mt w) rs
      rw [meantR]
      omega
  have hk : (meantR rs w).map (fun r => D.int r.1) = keysL (meantR rs w) := by rw [keysL, keysI, List.map_map]; rfl
  rw [hk] at s1
  have s2 : evN (fr (n + 9) L) [some (schD ts), some (stD s), some (takeD t w), some (.lst (keysL (meantR rs w))), none, none, some (S "take"), some (.int (t : Nat)), some w, none] (.comp [9] (.var 9) (.name 9) (.val (.idx (.var 1) (.var 7))) (.is (.cmp .NotIn (.idx (.var 9) (.const (.int 0))) (.var 3)))) = M.ret ((goneR rs w).map rowD) := by
    refine comp_tfilter (enc := rowD) (rs := rs) (by simp [st_ix hr]) (fun r hr => ?_) (okz_lt (by omega))
    have k0 := key_ix r
    have vr : ∀ st, view st (rowD r) = rowD r := fun st => rfl
    have q := inL_nb (x := .int r.1) (ys := keysL (meantR rs w)) rfl (ints_nb _) (Nat.zero_le _)
    rw [show memB (.int r.1) (keysL (meantR rs w)) = mt w r from filt_keys ok.asc _ hr] at q
    cases hm : mt w r <;> rw [hm] at q <;> simp [turnN, k0, vr, q, okSize, hm]
  have e2 : evE (fr (n + 9) L) [some (schD ts), some (stD s), some (takeD t w), some (.lst (keysL (meantR rs w))), none, none, some (S "take"), some (.int (t : Nat)), some w, none] (.call 85 (.cons (.var 1) (.cons (.var 7) (.cons (.new (.comp [9] (.var 9) (.name 9) (.val (.idx (.var 1) (.var 7))) (.is (.cmp .NotIn (.idx (.var 9) (.const (.int 0))) (.var 3))))) .nil)))) = M.ret (stD (takeS s t rs w)) := by
    have e3 := new_ev s2
    have e4 : cl (n + 9) 85 [stD s, .int (t : Nat), .lst ((goneR rs w).map rowD)] = M.ret (stD (takeS s t rs w)) := with_rows_ok htl h4 (goneR rs w)
    rw [evE, evEs, evEs, evEs, evEs, e3]
    simp [e4]
  have e5 : cl (n + 9) 89 [schD ts, stD (takeS s t rs w), .int (t : Nat), .lst (keysL (meantR rs w))] = M.ret ((leftF ts (takeS s t rs w) t (keysL (meantR rs w))).getD .non) := first_left_ok (n := n + 8) (t := t) (keys := keysI (meantR rs w)) hc (take_f hs.f ht hr w)
  refine (sqM s0).trans ((sqM (asg_ev (new_ev s1))).trans ((sqM (asg_ev e2)).trans ?_))
  show exSs _ [some (schD ts), some (stD s), some (takeD t w), some (.lst (keysL (meantR rs w))), some (stD (takeS s t rs w)), none, some (S "take"), some (.int (t : Nat)), some w, none] _ = _
  have s3 : exS (fr (n + 9) L) [some (schD ts), some (stD s), some (takeD t w), some (.lst (keysL (meantR rs w))), some (stD (takeS s t rs w)), none, some (S "take"), some (.int (t : Nat)), some w, none] (.asg (.name 5) (.call 89 (.cons (.var 0) (.cons (.var 4) (.cons (.var 7) (.cons (.var 3) .nil)))))) = M.ret (.next [some (schD ts), some (stD s), some (takeD t w), some (.lst (keysL (meantR rs w))), some (stD (takeS s t rs w)), some ((leftF ts (takeS s t rs w) t (keysL (meantR rs w))).getD .non), some (S "take"), some (.int (t : Nat)), some w, none]) := by
    refine asg_ev ?_
    rw [evE, evEs, evEs, evEs, evEs]
    simp [e5]
  refine (sqM s3).trans (sqR ?_)
  cases hl : leftF ts (takeS s t rs w) t (keysL (meantR rs w)) with
  | none =>
    have e : takeAns ts s t rs w = .tup [doneD (meantR rs w).length, stD (takeS s t rs w), .lst (keysL (meantR rs w))] := by
      rw [takeAns, takeA, takeB, takeK, hl]; rfl
    rw [e]
    simp [okSize, doneD, keysL_len]
  | some d =>
    obtain ⟨dn, dv⟩ := leftF_tup hl
    have e : takeAns ts s t rs w = .tup [d, stD s, .lst []] := by
      rw [takeAns, takeA, takeB, takeK, hl]; rfl
    rw [e]
    simp [okSize, dn, dv]
end
end K22
set_option linter.all false
set_option maxRecDepth 100000
set_option maxHeartbeats 4000000
namespace K22
open Ev PySem
theorem tup3_ev {C : Cfg} {ρ : Ev.Env} {a b c : E} {x y z : D} (h1 : evE C ρ a = M.ret x) (h2 : evE C ρ b = M.ret y) (h3 : evE C ρ c = M.ret z) : evE C ρ (.tup (.cons a (.cons b (.cons c .nil)))) = M.ret (.tup [x, y, z]) := by
  rw [evE, evEs, h1, s_ret, evEs, h2, s_ret, evEs, h3, s_ret, evEs]
  rfl
theorem okr_few {n : Nat} (h : n ≤ 4) : okRng (n : Int) = true := by
  have h1 : -(2 ^ 62) ≤ (n : Int) ∧ (n : Int) < 2 ^ 62 := by omega
  unfold okRng
  simp only [h1, and_self, decide_true]
theorem rng_len {C : Cfg} {ρ : Ev.Env} {ts : List Tab} (h4 : ts.length ≤ 4) (h0 : ρ[0]? = some (some (schD ts))) : evIt C ρ (.rng1 (.blt .len (.var 0))) = M.ret ((List.range ts.length).map encI) := by
  have e : evE C ρ (.blt .len (.var 0)) = M.ret (D.int (ts.length : Int)) := by
    rw [evE, evE, g_some h0, s_ret]
    funext st
    show M.ofO (some (D.int ((ts.map Tab.d).length : Int))) st = _
    rw [List.length_map]; rfl
  rw [evIt, e, s_ret]
  show (if okRng (ts.length : Int) = true then M.ret (rngUp 0 (ts.length : Int).toNat) else M.bad) = _
  rw [if_pos (okr_few h4), Int.toNat_natCast, rngUp0]
section
variable {n L t : Nat} {ts : List Tab} {s : St} {rs : List TR} {tb : Tab} {w : D}
theorem law_goal_take (hc : SchOk ts) (hs : SOk ts s) (ht : ts[t]? = some tb) (hr : s[t]? = some rs) (hw : Wish tb.1 w) : cl (n + 10) 109 [schD ts, stD s, takeD t w] = M.ret (.tup [.lst ((meantR rs w).map rowD), stD (takeS s t rs w)]) := by
  have ok := hs.tab t tb rs ht hr
  have few := ok.few
  have hv := wish_view hw
  have htl : t < s.length := (List.getElem?_eq_some_iff.mp hr).1
  have h4 : s.length ≤ 4 := by rw [hs.len]; exact hc.few
  obtain ⟨_, m1⟩ := meant_ok (n := n) ok.row (by omega) hw
  have m1 : cl (n + 9) 106 [rowsT rs, w] = M.ret (.lst ((meantR rs w).map rowD)) := m1
  have len2 : (goneR rs w).length ≤ 60 := Nat.le_trans (List.length_filter_le _ _) few
  have e4 : cl (n + 9) 107 [stD s, .int (t : Nat), .lst ((goneR rs w).map rowD)] = M.ret (stD (takeS s t rs w)) := law_put_ok htl h4 (by omega)
  refine cl_ret (F := F__law_goal) rfl rfl fun L => ?_
  show exSs _ [some (schD ts), some (stD s), some (takeD t w), none, none, none, none, none, none, none, none, none, none, none] _ = _
  have s0 : exS (fr (n + 9) L) [some (schD ts), some (stD s), some (takeD t w), none, none, none, none, none, none, none, none, none, none, none] (.par [7, 8, 9] (.cons (.idx (.var 2) (.const (.int 0))) (.cons (.idx (.var 2) (.const (.int 1))) (.cons (.idx (.var 1) (.idx (.var 2) (.const (.int 1)))) .nil)))) = M.ret (.next [some (schD ts), some (stD s), some (takeD t w), none, none, none, none, some (S "take"), some (.int (t : Nat)), some (rowsT rs), none, none, none, none]) := by
    simp [st_ix hr]
    rfl
  have s2 : exS (fr (n + 9) L) [some (schD ts), some (stD s), some (takeD t w), none, none, none, none, some (S "take"), some (.int (t : Nat)), some (rowsT rs), none, none, none, none] (.asg (.name 3) (.call 106 (.cons (.var 9) (.cons (.idx (.var 2) (.const (.int 2))) .nil)))) = M.ret (.next [some (schD ts), some (stD s), some (takeD t w), some (.lst ((meantR rs w).map rowD)), none, none, none, some (S "take"), some (.int (t : Nat)), some (rowsT rs), none, none, none, none]) := by
    refine asg_ev ?_
    simp [m1]
  have s3 : evN (fr (n + 9) L) [some (schD ts), some (stD s), some (takeD t w), some (.lst ((meantR rs w).map rowD)), none, none, none, some (S "take"), some (.int (t : Nat)), some (rowsT rs), none, none, none, none] (.comp [6] (.var 6) (.name 6) (.val (.var 9)) (.is (.cmp .NotIn (.var 6) (.var 3)))) = M.ret ((goneR rs w).map rowD) := by
    refine comp_tfilter (enc := rowD) (rs := rs) (by simp) (fun r hr => ?_) (okz_lt (by omega))
    have vr : ∀ st, view st (rowD r) = rowD r := fun st => rfl
    have nb := (ok.row r hr).nb
    have q := inL_nb (x := rowD r) (ys := (meantR rs w).map rowD) nb.1 (rows_nb fun x hx => ok.row x (List.mem_filter.mp hx).1) (by rw [nb.2]; decide)
    rw [show memB (rowD r) ((meantR rs w).map rowD) = mt w r from filt_rows rs _ hr] at q
    cases hm : mt w r <;> rw [hm] at q <;> simp [turnN, vr, q, okSize, hm]
  refine (sqM s0).trans ((sqM (if_f (by simp) rfl)).trans ((sqM s2).trans ((sqM (asg_ev (new_ev s3))).trans ?_)))
  show exSs _ [some (schD ts), some (stD s), some (takeD t w), some (.lst ((meantR rs w).map rowD)), some (.lst ((goneR rs w).map rowD)), none, none, some (S "take"), some (.int (t : Nat)), some (rowsT rs), none, none, none, none] _ = _
  refine sqR (if_t (by simp) (sqR (ret_ev ?_)))
  rw [evE, evEs, evEs, evEs, evE]
  simp [e4, okSize]
noncomputable abbrev lawAns (ts : List Tab) (s : St) (t : Nat) (rs : List TR) (w : D) : D := .tup [takeA ts s t rs w, stD (takeB ts s t rs w), .tup ((takeK ts s t rs w).map (plcD t))]
abbrev lcE (a : D) (b : D) (c : D) (d : D) (e : D) (f : D) (g : D) (h i j k l m : Option D) : Ev.Env := [some a, some b, some c, some d, some e, some f, some g, h, i, j, k, l, m]
theorem law_change_take (hc : SchOk ts) (hs : SOk ts s) (ht : ts[t]? = some tb) (hr : s[t]? = some rs) (hw : Wish tb.1 w) : cl (n + 11) 110 [schD ts, stD s, takeD t w] = M.ret (lawAns ts s t rs w) := by
  have ok := hs.tab t tb rs ht hr
  have few := ok.few
  have m1 := law_goal_take (n := n) hc hs ht hr hw
  have hf := take_f hs.f ht hr w
  generalize hms : (D.lst ((meantR rs w).map rowD)) = md at m1
  have len1 : (meantR rs w).length ≤ 60 := Nat.le_trans (List.length_filter_le _ _) few
  refine cl_ret (F := F__law_change) rfl rfl fun L => ?_
  show exSs _ [some (schD ts), some (stD s), some (takeD t w), none, none, none, none, none, none, none, none, none, none] _ = _
  have s0 : exS (fr (n + 10) L) [some (schD ts), some (stD s), some (takeD t w), none, none, none, none, none, none, none, none, none, none] (.asg (.name 3) (.idx (.var 2) (.const (.int 1)))) = M.ret (.next [some (schD ts), some (stD s), some (takeD t w), some (.int (t : Nat)), none, none, none, none, none, none, none, none, none]) := by
    simp
  have s1 : exS (fr (n + 10) L) [some (schD ts), some (stD s), some (takeD t w), some (.int (t : Nat)), none, none, none, none, none, none, none, none, none] (.asg (.tg (.two (.name 5) (.name 6))) (.call 109 (.cons (.var 0) (.cons (.var 1) (.cons (.var 2) .nil))))) = M.ret (.next [some (schD ts), some (stD s), some (takeD t w), some (.int (t : Nat)), none, some md, some (stD (takeS s t rs w)), none, none, none, none, none, none]) := by
    simp [m1]
  have s2 : exS (fr (n + 10) L) [some (schD ts), some (stD s), some (takeD t w), some (.int (t : Nat)), none, some md, some (stD (takeS s t rs w)), none, none, none, none, none, none] (.iff (.cmp .Is (.var 6) (.const .non)) (.cons (.ret (.tup (.cons (.var 5) (.cons (.var 1) (.cons (.tup .nil) .nil))))) .nil) .nil) = M.ret (.next [some (schD ts), some (stD s), some (takeD t w), some (.int (t : Nat)), none, some md, some (stD (takeS s t rs w)), none, none, none, none, none, none]) := if_f (by simp) rfl
  have hk : (meantR rs w).map (fun r => D.int r.1) = keysL (meantR rs w) := by rw [keysL, keysI, List.map_map]; rfl
  have s3 : exS (fr (n + 10) L) [some (schD ts), some (stD s), some (takeD t w), some (.int (t : Nat)), none, some md, some (stD (takeS s t rs w)), none, none, none, none, none, none] (.asg (.name 4) (.srti (.new (.comp [9] (.idx (.var 9) (.const (.int 0))) (.name 9) (.val (.var 5)) .no)))) = M.ret (.next [some (schD ts), some (stD s), some (takeD t w), some (.int (t : Nat)), some (.lst (keysL (meantR rs w))), some md, some (stD (takeS s t rs w)), none, none, none, none, none, none]) := by
    have c : evN (fr (n + 10) L) [some (schD ts), some (stD s), some (takeD t w), some (.int (t : Nat)), none, some md, some (stD (takeS s t rs w)), none, none, none, none, none, none] (.comp [9] (.idx (.var 9) (.const (.int 0))) (.name 9) (.val (.var 5)) .no) = M.ret ((meantR rs w).map fun r => .int r.1) := by
      refine comp_tmap (enc := rowD) (rs := meantR rs w) (by simp [← hms]) (fun r hr => ?_) (okz_lt (by omega))
      have k0 := key_ix r
      have vr : ∀ st, view st (rowD r) = rowD r := fun st => rfl
      simp [turnN, k0, vr, okSize]
    rw [hk] at c
    have z : srtiD (.lst (keysL (meantR rs w))) = some (.lst (keysL (meantR rs w))) := srti_id (asc_sub List.filter_sublist ok.asc)
    refine asg_ev ?_
    rw [evE, new_ev c, s_ret]
    funext st
    rw [v_lst, z]; rfl
  refine (sqM s0).trans ((sqM s1).trans ((sqM s2).trans ((sqM s3).trans ?_)))
  have h0 : (fun ρ : Ev.Env => ∃ a b c d e f, ρ = lcE (schD ts) (stD s) (takeD t w) (.int (t : Nat)) (.lst (keysL (meantR rs w))) md (stD (takeS s t rs w)) a b c d e f) (lcE (schD ts) (stD s) (takeD t w) (.int (t : Nat)) (.lst (keysL (meantR rs w))) md (stD (takeS s t rs w)) none none none none none none) := ⟨_, _, _, _, _, _, rfl⟩
  have lp := Lp.for (C := fr (n + 10) L) (ρ := lcE (schD ts) (stD s) (takeD t w) (.int (t : Nat)) (.lst (keysL (meantR rs w))) md (stD (takeS s t rs w)) none none none none none none) (I := fun ρ : Ev.Env => ∃ a b c d e f, ρ = lcE (schD ts) (stD s) (takeD t w) (.int (t : Nat)) (.lst (keysL (meantR rs w))) md (stD (takeS s t rs w)) a b c d e f) (w := fun d => .tup [d, stD s, .tup []]) (g := leftT ts (takeS s t rs w) t (keysL (meantR rs w))) (tg := .name 7) (it := .rng1 (.blt .len (.var 0))) (b := (.cons (.for (.name 9) (.val (.idx (.var 6) (.var 7))) (.cons (.for (.two (.name 10) (.name 11)) (.enum (.idx (.idx (.var 0) (.var 7)) (.const (.int 1)))) (.cons (.iff (hitE 11 9 3 4) (.cons (.ret (.tup (.cons (.tup (.cons (.const (.str "refused")) (.cons (.const (.str "refer")) (.cons (.var 7) (.cons (.idx (.var 9) (.const (.int 0))) (.cons (.var 10) .nil)))))) (.cons (.var 1) (.cons (.tup .nil) .nil))))) .nil) .nil) .nil)) .nil)) .nil)) (rng_len hc.few rfl) h0 (fun own ho ρ h => by
    obtain ⟨a, b, c, d, e, f, rfl⟩ := h
    have ho : own < ts.length := List.mem_range.mp ho
    have e1 := List.getElem?_eq_getElem ho
    generalize hq : ts[own] = tb' at e1
    obtain ⟨z1, z2, z3⟩ := hc.rules e1
    obtain ⟨rs', f1, f2, f3⟩ := hf.at e1
    have e2 : idxD (schD ts) (.int (own : Nat)) = some (.tup [.tup (intF :: tb'.1), .tup (rulesOf tb')]) := by
      show ixAt (ts.map Tab.d) (own : Int) = _
      exact ix_nat (by rw [List.getElem?_map, e1, Option.map_some, Tab.d, z1])
    show Lp _ _ _ (exSs (fr (n + 10) L) (lcE (schD ts) (stD s) (takeD t w) (.int (t : Nat)) (.lst (keysL (meantR rs w))) md (stD (takeS s t rs w)) (some (.int (own : Nat))) b c d e f) _)
    refine Lp.one ?_
    have hg : leftT ts (takeS s t rs w) t (keysL (meantR rs w)) own = rs'.findSome? (leftR t (keysL (meantR rs w)) own (rulesOf tb')) := by rw [leftT, f1, e1]; rfl
    rw [hg]
    refine Lp.mono (I := fun ρ => ∃ b c d e f, ρ = lcE (schD ts) (stD s) (takeD t w) (.int (t : Nat)) (.lst (keysL (meantR rs w))) md (stD (takeS s t rs w)) (some (.int (own : Nat))) b c d e f) (Lp.for (enc := rowD) (by simp [st_ix f1]) ⟨_, _, _, _, _, rfl⟩ fun r hr ρ h => ?_) (fun ρ h => by obtain ⟨b, c, d, e, f, rfl⟩ := h; exact ⟨_, _, _, _, _, _, rfl⟩)
    obtain ⟨b, c, d, e, f, rfl⟩ := h
    show Lp _ _ _ (exSs (fr (n + 10) L) (lcE (schD ts) (stD s) (takeD t w) (.int (t : Nat)) (.lst (keysL (meantR rs w))) md (stD (takeS s t rs w)) (some (.int (own : Nat))) b (some (rowD r)) d e f) _)
    refine Lp.one ?_
    refine Lp.mono (I := fun ρ => ∃ d e f, ρ = lcE (schD ts) (stD s) (takeD t w) (.int (t : Nat)) (.lst (keysL (meantR rs w))) md (stD (takeS s t rs w)) (some (.int (own : Nat))) b (some (rowD r)) d e f) (lp_rules (rules := rulesOf tb') (keys := keysI (meantR rs w)) (by simp [seqOf, e2]) (f2 r hr) z3 ⟨_, _, _, rfl⟩ fun x y ρ h => ?_) (fun ρ h => by obtain ⟨d, e, f, rfl⟩ := h; exact ⟨_, _, _, _, _, rfl⟩)
    obtain ⟨d, e, f, rfl⟩ := h
    refine ⟨lcE (schD ts) (stD s) (takeD t w) (.int (t : Nat)) (.lst (keysL (meantR rs w))) md (stD (takeS s t rs w)) (some (.int (own : Nat))) b (some (rowD r)) (some x) (some y) f, rfl, ⟨_, _, _, rfl⟩, rfl, rfl, rfl, rfl, fun at' hx => ?_⟩
    subst hx
    have vr : ∀ st, view st (rowD r) = rowD r := fun st => rfl
    have k0 := key_ix r
    simp [vr, k0, okSize, hitD])
  change Lp (fun d => .tup [d, stD s, .tup []]) _ (leftF ts (takeS s t rs w) t (keysL (meantR rs w))) _ at lp
  cases hl : leftF ts (takeS s t rs w) t (keysL (meantR rs w)) with
  | some d =>
    rw [hl] at lp
    have e : lawAns ts s t rs w = .tup [d, stD s, .tup []] := by rw [lawAns, takeA, takeB, takeK, hl]; rfl
    rw [e]
    exact sqR (if_t (by simp) (sqR lp))
  | none =>
    rw [hl] at lp
    obtain ⟨ρ', e, a, b, c', d, e', f, rfl⟩ := lp
    have e9 : lawAns ts s t rs w = .tup [doneD (meantR rs w).length, stD (takeS s t rs w), .tup ((keysI (meantR rs w)).map (plcD t))] := by rw [lawAns, takeA, takeB, takeK, hl]; rfl
    rw [e9]
    refine (sqM (if_t (by simp) ((sqM e).trans rfl))).trans (sqR (ret_ev ?_))
    have c : evN (fr (n + 10) L) (lcE (schD ts) (stD s) (takeD t w) (.int (t : Nat)) (.lst (keysL (meantR rs w))) md (stD (takeS s t rs w)) a b c' d e' f) (.comp [8] (.tup (.cons (.var 3) (.cons (.var 8) .nil))) (.name 8) (.val (.var 4)) .no) = M.ret ((keysI (meantR rs w)).map (plcD t)) :=
      comp_tmap (enc := D.int) (rs := keysI (meantR rs w)) (by simp [keysL]) (fun k hk => by simp [turnN, okSize, plcD]) (okz_lt (by simp; omega))
    have c2 : evE (fr (n + 10) L) (lcE (schD ts) (stD s) (takeD t w) (.int (t : Nat)) (.lst (keysL (meantR rs w))) md (stD (takeS s t rs w)) a b c' d e' f) (.blt .tuple (.new (.comp [8] (.tup (.cons (.var 3) (.cons (.var 8) .nil))) (.name 8) (.val (.var 4)) .no))) = M.ret (.tup ((keysI (meantR rs w)).map (plcD t))) := by
      rw [evE, new_ev c, s_ret]
      rfl
    refine tup3_ev ?_ rfl c2
    simp [keysL_len, okSize, doneD]
end
end K22
set_option linter.all false
set_option maxRecDepth 100000
set_option maxHeartbeats 4000000
namespace K22
open Ev PySem
theorem takeA_view (ts : List Tab) (s : St) (t : Nat) (rs : List TR) (w : D) (st : Store) : view st (takeA ts s t rs w) = takeA ts s t rs w := by
  rw [takeA]
  cases hl : leftF ts (takeS s t rs w) t (keysL (meantR rs w)) with
  | none => rfl
  | some d => exact (leftF_tup hl).2 st
theorem takeK_asc {ts : List Tab} {s : St} {t : Nat} {rs : List TR} {w : D} (h : ascI (keysI rs) = true) : ascI (takeK ts s t rs w) = true := by
  rw [takeK]
  split
  · rfl
  · exact asc_sub List.filter_sublist h
theorem takeK_len {ts : List Tab} {s : St} {t : Nat} {rs : List TR} {w : D} : (takeK ts s t rs w).length ≤ rs.length := by
  rw [takeK]
  split
  · exact Nat.zero_le _
  · rw [keysI, List.length_map]; exact List.length_filter_le _ _
section
variable {n L t : Nat} {ts : List Tab} {s : St} {rs : List TR} {tb : Tab} {w : D}
noncomputable abbrev chD (ts : List Tab) (s : St) (t : Nat) (rs : List TR) (w : D) : D := .tup [takeA ts s t rs w, stD (takeB ts s t rs w), .lst ((takeK ts s t rs w).map (plcD t))]
theorem changed_by_take (hc : SchOk ts) (hs : SOk ts s) (ht : ts[t]? = some tb) (hr : s[t]? = some rs) (hw : Wish tb.1 w) : cl (n + 11) 93 [schD ts, stD s, takeD t w] = M.ret (chD ts s t rs w) := by
  have ok := hs.tab t tb rs ht hr
  have m1 : cl (n + 10) 92 [schD ts, stD s, takeD t w] = M.ret (.tup [takeA ts s t rs w, stD (takeB ts s t rs w), .lst ((takeK ts s t rs w).map .int)]) := taken_by_ok (n := n) hc hs ht hr hw
  have kl := takeK_len (ts := ts) (s := s) (t := t) (rs := rs) (w := w)
  have ka := takeK_asc (ts := ts) (s := s) (t := t) (rs := rs) (w := w) ok.asc
  have few := ok.few
  have av := takeA_view ts s t rs w
  show _ = M.ret (D.tup [takeA ts s t rs w, stD (takeB ts s t rs w), .lst ((takeK ts s t rs w).map (plcD t))])
  generalize takeA ts s t rs w = ans at m1 av ⊢
  generalize takeB ts s t rs w = beh at m1 ⊢
  generalize takeK ts s t rs w = ks at m1 kl ka ⊢
  refine cl_ret (F := F_changed_by) rfl rfl fun L => ?_
  show exSs _ [some (schD ts), some (stD s), some (takeD t w), none, none, none, none, none] _ = _
  have s1 : exS (fr (n + 10) L) [some (schD ts), some (stD s), some (takeD t w), some (.dct [.str "add", .str "set", .str "take"] [.fn 90, .fn 91, .fn 92]), none, none, none, none] (.asg (.tg (.three (.name 4) (.name 5) (.name 6))) (.calld 3 (.idx (.var 2) (.const (.int 0))) (.cons (.var 0) (.cons (.var 1) (.cons (.var 2) .nil))))) = M.ret (.next [some (schD ts), some (stD s), some (takeD t w), some (.dct [.str "add", .str "set", .str "take"] [.fn 90, .fn 91, .fn 92]), some ans, some (stD beh), some (.lst (ks.map .int)), none]) := by
    have q : dctF (.dct [.str "add", .str "set", .str "take"] [.fn 90, .fn 91, .fn 92]) (S "take") = some 92 := by decide +kernel
    simp [q, m1]
  have c : evN (fr (n + 10) L) [some (schD ts), some (stD s), some (takeD t w), some (.dct [.str "add", .str "set", .str "take"] [.fn 90, .fn 91, .fn 92]), some ans, some (stD beh), some (.lst (ks.map .int)), none] (.comp [7] (.tup (.cons (.idx (.var 2) (.const (.int 1))) (.cons (.var 7) .nil))) (.name 7) (.val (.var 6)) .no) = M.ret (ks.map (plcD t)) :=
    comp_tmap (enc := D.int) (rs := ks) (by simp) (fun k hk => by simp [turnN, okSize, plcD]) (okz_lt (by omega))
  have c2 : evE (fr (n + 10) L) [some (schD ts), some (stD s), some (takeD t w), some (.dct [.str "add", .str "set", .str "take"] [.fn 90, .fn 91, .fn 92]), some ans, some (stD beh), some (.lst (ks.map .int)), none] (.srtp (.new (.comp [7] (.tup (.cons (.idx (.var 2) (.const (.int 1))) (.cons (.var 7) .nil))) (.name 7) (.val (.var 6)) .no))) = M.ret (.lst (ks.map (plcD t))) := by
    rw [evE, new_ev c, s_ret]
    funext st
    rw [v_lst, srtp_plc, srt_id ka]; rfl
  exact (sqM (asg_ev rfl)).trans ((sqM s1).trans (sqR (ret_ev (tup3_ev rfl rfl c2))))
theorem fits_wish_ok (hw : Wish tb.1 w) : cl (n + 10) 80 [.tup (intF :: tb.1), w] = M.ret (.bl true) := by
  have hv := wish_view hw
  refine cl_ret (F := F_fits_wish) rfl rfl fun L => ?_
  show exSs _ [some (.tup (intF :: tb.1)), some w] _ = _
  refine sqR ?_
  rcases hw with rfl | ⟨k, s', h, hk, hs'⟩
  · simp
  · have q : cl (n + 9) 13 [.tup [.tup (intF :: tb.1)], w] = M.ret (.bl true) := fits_test_ok h hk hs'
    have z := wish_non h
    simp [hv, z, q, okSize]
theorem is_whole_at {i lo hi : Int} : cl (n + 1) 0 [.int i, .int lo, .int hi] = M.ret (.bl (decide (lo ≤ i ∧ i ≤ hi))) := by
  refine cl_ret (F := F_is_whole) rfl rfl fun L => ?_
  show exSs _ [some (.int i), some (.int lo), some (.int hi)] _ = _
  refine sqR ?_
  by_cases h1 : lo ≤ i <;> by_cases h2 : i ≤ hi <;> simp [h1, h2]
theorem tabs_ix (hc : SchOk ts) (ht : ts[t]? = some tb) : idxD (schD ts) (.int (t : Nat)) = some (.tup [.tup (intF :: tb.1), .tup (rulesOf tb)]) := by
  obtain ⟨z1, z2, z3⟩ := hc.rules ht
  show ixAt (ts.map Tab.d) (t : Int) = _
  exact ix_nat (by rw [List.getElem?_map, ht, Option.map_some, Tab.d, z1])
theorem fits_take (hc : SchOk ts) (ht : ts[t]? = some tb) (hw : Wish tb.1 w) : cl (n + 11) 83 [schD ts, takeD t w] = M.ret (.bl true) := by
  have ix := tabs_ix hc ht
  have hlt : t < ts.length := (List.getElem?_eq_some_iff.mp ht).1
  have w1 : cl (n + 10) 0 [.int (t : Nat), .int 0, .int ((ts.length : Int) - 1)] = M.ret (.bl true) := by
    rw [is_whole_at]
    have h : (0 : Int) ≤ (t : Int) ∧ (t : Int) ≤ (ts.length : Int) - 1 := by omega
    rw [decide_eq_true h]
  have w2 : cl (n + 10) 1 [takeD t w, .int 3, .int 4] = M.ret (.bl true) := by
    rw [is_tuple_of_tup]; simp
  have w3 := fits_wish_ok (n := n) hw
  have hv := wish_view hw
  refine cl_ret (F := F_fits_statement) rfl rfl fun L => ?_
  show exSs _ [some (schD ts), some (takeD t w), none, none] _ = _
  have s1 : exS (fr (n + 10) L) [some (schD ts), some (takeD t w), none, none] (.asg (.name 2) (.idx (.idx (.var 0) (.idx (.var 1) (.const (.int 1)))) (.const (.int 0)))) = M.ret (.next [some (schD ts), some (takeD t w), some (.tup (intF :: tb.1)), none]) := by
    refine asg_ev ?_
    simp [ix]
  refine (sqM (if_f ?_ rfl)).trans ((sqM s1).trans ((sqM (if_f (by simp) rfl)).trans ((sqM (if_f (by simp) rfl)).trans (sqR ?_))))
  · simp [w1, w2]
  · simp [w3]
theorem need_take (hc : SchOk ts) (ht : ts[t]? = some tb) (hw : Wish tb.1 w) : cl (n + 12) 95 [schD ts, takeD t w] = M.ret .non := by
  have f := fits_take (n := n) hc ht hw
  funext st
  rw [cl_run (F := F_need_statement) rfl _ _ rfl]
  have s1 : exS (fr (n + 11) st.length) [some (schD ts), some (takeD t w)] (.iff (.not (.call 83 (.cons (.var 0) (.cons (.var 1) .nil)))) (.cons (.raise 10 "not a statement of the schema") .nil) .nil) = M.ret (.next [some (schD ts), some (takeD t w)]) := if_f (by simp [f]) rfl
  have e := (sqM (ss := .nil) s1).trans rfl
  refine (congrArg (fin st.length) (congrFun e st)).trans ?_
  simp [M.ret, fin, leave]
theorem need_state_ok {n : Nat} (hc : SchOk ts) (hs : SOk ts s) : cl (n + 7) 79 [schD ts, stD s] = M.ret .non := by
  have f := fits_state_T (n := n) hs (fun t ht => (hc.tab t ht).2.1) hc.few
  funext st
  rw [cl_run (F := F_need_state) rfl _ _ rfl]
  have s1 : exS (fr (n + 6) st.length) [some (schD ts), some (stD s)] (.iff (.not (.call 74 (.cons (.var 0) (.cons (.var 1) .nil)))) (.cons (.raise 5 "not a state of the schema") .nil) .nil) = M.ret (.next [some (schD ts), some (stD s)]) := if_f (by simp [f]) rfl
  have e := (sqM (ss := .nil) s1).trans rfl
  refine (congrArg (fin st.length) (congrFun e st)).trans ?_
  simp [M.ret, fin, leave]
theorem expr_at {C : Cfg} {ρ : Ev.Env} {e : E} {d : D} {st : Store} (h : evE C ρ e st = .ok d st) : exS C ρ (.expr e) st = .ok (.next ρ) st := by
  rw [exS, s_ok h]; rfl
theorem ss_at {C : Cfg} {ρ ρ' : Ev.Env} {x : Ev.S} {ss : Ss} {st st' : Store} (h : exS C ρ x st = .ok (.next ρ') st') : exSs C ρ (.cons x ss) st = exSs C ρ' ss st' := by
  rw [exSs, s_ok h]
theorem call1_at {C : Cfg} {ρ : Ev.Env} {f i : Nat} {x d : D} {st : Store} (hi : ρ[i]? = some (some x)) (h : C.call f [x] st = .ok d st) : evE C ρ (.call f (.cons (.var i) .nil)) st = .ok d st := by
  rw [evE, evEs, evE, g_some hi, s_ret, evEs]
  exact h
theorem call2_at {C : Cfg} {ρ : Ev.Env} {f i j : Nat} {x y d : D} {st : Store} (hi : ρ[i]? = some (some x)) (hj : ρ[j]? = some (some y)) (h : C.call f [x, y] st = .ok d st) : evE C ρ (.call f (.cons (.var i) (.cons (.var j) .nil))) st = .ok d st := by
  rw [evE, evEs, evE, g_some hi, s_ret, evEs, evE, g_some hj, s_ret, evEs]
  exact h
theorem need_both_ok {n : Nat} {st : Store} (hc : SchOk ts) (hs : SOk ts s) (h : cl (n + 7) 17 [schD ts] st = .ok .non st) : cl (n + 8) 94 [schD ts, stD s] st = .ok .non st := by
  have h2 := need_state_ok (n := n) hc hs
  rw [cl_run (F := F_need_both) rfl _ _ rfl]
  show fin st.length (exSs (fr (n + 7) st.length) [some (schD ts), some (stD s)] F_need_both.body st) = _
  have e : exSs (fr (n + 7) st.length) [some (schD ts), some (stD s)] F_need_both.body st = .ok (.next [some (schD ts), some (stD s)]) st := by
    refine (ss_at (expr_at (call1_at rfl h))).trans ((ss_at (expr_at (call2_at rfl rfl (show cl (n + 7) 79 [schD ts, stD s] st = .ok .non st by rw [h2]; rfl)))).trans rfl)
  rw [e]
  simp [fin, leave]
theorem change_take {n : Nat} {st : Store} (hc : SchOk ts) (hs : SOk ts s) (ht : ts[t]? = some tb) (hr : s[t]? = some rs) (hw : Wish tb.1 w) (h : cl (n + 11) 17 [schD ts] st = .ok .non st) :
    cl (n + 13) 96 [schD ts, stD s, takeD t w] st = .ok (.tup [takeA ts s t rs w, stD (takeB ts s t rs w)]) st ∧ cl (n + 13) 97 [schD ts, stD s, takeD t w] st = .ok (.tup ((takeK ts s t rs w).map (plcD t))) st := by
  have b := need_both_ok (n := n + 4) hc hs h
  have q := need_take (n := n) hc ht hw
  have m1 := changed_by_take (n := n + 1) hc hs ht hr hw
  have l2 : ∀ ks : List Int, okSize (ks.map (plcD t)).length = okSize ks.length := fun ks => by rw [List.length_map]
  constructor
  · rw [cl_run (F := F_change_of) rfl _ _ rfl]
    show fin st.length (exSs (fr (n + 12) st.length) [some (schD ts), some (stD s), some (takeD t w)] F_change_of.body st) = _
    have e : exSs (fr (n + 12) st.length) [some (schD ts), some (stD s), some (takeD t w)] F_change_of.body st = .ok (.ret (.tup [takeA ts s t rs w, stD (takeB ts s t rs w)])) st := by
      refine (ss_at (expr_at (call2_at rfl rfl b))).trans ((ss_at (expr_at (call2_at rfl rfl (show cl (n + 12) 95 _ st = .ok .non st by rw [q]; rfl)))).trans ?_)
      have s3 : exSs (fr (n + 12) st.length) [some (schD ts), some (stD s), some (takeD t w)] (.cons (.ret (.slc (.call 93 (.cons (.var 0) (.cons (.var 1) (.cons (.var 2) .nil)))) .no (.is (.const (.int 2))))) .nil) = M.ret (.ret (.tup [takeA ts s t rs w, stD (takeB ts s t rs w)])) := by
        refine sqR ?_
        simp [m1, slcD, cutL, cutAt]
      exact congrFun s3 st
    rw [e]
    simp [fin, leave]
  · rw [cl_run (F := F_places_of) rfl _ _ rfl]
    show fin st.length (exSs (fr (n + 12) st.length) [some (schD ts), some (stD s), some (takeD t w)] F_places_of.body st) = _
    have e : exSs (fr (n + 12) st.length) [some (schD ts), some (stD s), some (takeD t w)] F_places_of.body st = .ok (.ret (.tup ((takeK ts s t rs w).map (plcD t)))) st := by
      refine (ss_at (expr_at (call2_at rfl rfl b))).trans ((ss_at (expr_at (call2_at rfl rfl (show cl (n + 12) 95 _ st = .ok .non st by rw [q]; rfl)))).trans ?_)
      have s3 : exSs (fr (n + 12) st.length) [some (schD ts), some (stD s), some (takeD t w)] (.cons (.ret (.blt .tuple (.idx (.call 93 (.cons (.var 0) (.cons (.var 1) (.cons (.var 2) .nil)))) (.const (.int 2))))) .nil) = M.ret (.ret (.tup ((takeK ts s t rs w).map (plcD t)))) := by
        refine sqR ?_
        simp [m1]
      exact congrFun s3 st
    rw [e]
    simp [fin, leave]
end
end K22
set_option linter.all false
set_option maxRecDepth 100000
set_option maxHeartbeats 4000000
/-! Ev24: data whose repr is told. -/
namespace Ev
open PySem
def Rpr (d : D) (n w : Nat) : Prop := ∃ p, d.toPy = some p ∧ p.canLay0 = true ∧ p.depth ≤ n ∧ p.showable = true ∧ p.intsShort 16 = true ∧ p.bulk ≤ w
def RprAll (ds : List D) (n w : Nat) : Prop := ∃ ps, D.toPys ds = some ps ∧ PyData.canLayAll0 ps = true ∧ PyData.depthAll ps ≤ n ∧ PyData.showableAll ps = true ∧ PyData.intsShortAll 16 ps = true ∧ PyData.bulkAll ps ≤ w
theorem RprAll.nil (n w : Nat) : RprAll [] n w := ⟨[], by simp [D.toPys], by simp [PyData.canLayAll0], by simp [PyData.depthAll], by simp [PyData.showableAll], by simp [PyData.intsShortAll], by simp [PyData.bulkAll]⟩
theorem RprAll.cons {d : D} {ds : List D} {n v w : Nat} (h : Rpr d n v) (hs : RprAll ds n w) : RprAll (d :: ds) n (v + 1 + w) := by
  obtain ⟨p, h1, h2, h3, h4, h5, h6⟩ := h
  obtain ⟨ps, g1, g2, g3, g4, g5, g6⟩ := hs
  exact ⟨p :: ps, by simp [D.toPys, h1, g1], by simp [PyData.canLayAll0, h2, g2], by simp [PyData.depthAll]; omega, by simp [PyData.showableAll, h4, g4], by simp [PyData.intsShortAll, h5, g5], by simp [PyData.bulkAll]; omega⟩
theorem RprAll.of {n w : Nat} : ∀ {ds : List D}, (∀ d ∈ ds, Rpr d n w) → RprAll ds n (ds.length * (w + 1))
  | [], _ => .nil n _
  | d :: ds, h => by
    have := RprAll.cons (h d List.mem_cons_self) (RprAll.of fun e he => h e (List.mem_cons_of_mem _ he))
    rw [List.length_cons, Nat.succ_mul, Nat.add_comm]
    exact this
theorem RprAll.le {ds : List D} {n m v w : Nat} (h : RprAll ds n v) (hn : n ≤ m) (hw : v ≤ w) : RprAll ds m w := let ⟨p, h1, h2, h3, h4, h5, h6⟩ := h; ⟨p, h1, h2, Nat.le_trans h3 hn, h4, h5, Nat.le_trans h6 hw⟩
theorem Rpr.le {d : D} {n m v w : Nat} (h : Rpr d n v) (hn : n ≤ m) (hw : v ≤ w) : Rpr d m w := let ⟨p, h1, h2, h3, h4, h5, h6⟩ := h; ⟨p, h1, h2, Nat.le_trans h3 hn, h4, h5, Nat.le_trans h6 hw⟩
theorem RprAll.tup {ds : List D} {n w : Nat} (h : RprAll ds n w) : Rpr (.tup ds) (n + 1) w := by
  obtain ⟨ps, h1, h2, h3, h4, h5, h6⟩ := h
  exact ⟨.tuple ps, by simp [D.toPy, h1], by simp [PyData.canLay0, h2], by simp [PyData.depth]; omega, by simp [PyData.showable, h4], by simp [PyData.intsShort, h5], by simpa [PyData.bulk] using h6⟩
theorem Rpr.int (i : Int) (n w : Nat) (h : i.natAbs < 10 ^ 12) : Rpr (.int i) n w := by
  refine ⟨.int i, by simp [D.toPy], by simp [PyData.canLay0], by simp [PyData.depth], ?_, ?_, by simp [PyData.bulk]⟩
  · simp only [PyData.showable, decide_eq_true_eq]
    by_cases h0 : i.natAbs = 0
    · rw [h0]; decide
    · have : i.natAbs < 2 ^ 1920 := Nat.lt_trans h (by decide +kernel)
      exact (Nat.log2_lt h0).mpr this
  · simp only [PyData.intsShort, PyData.shown]
    have e := int_text_length_le10 (a := i) (k := 12) (by decide) h
    have e2 : (Str.ofString (toString i)).length = (toString i).length := by
      rw [Str.ofString_eq_toList]
      simp [Str.length]
      exact String.length_toList
    exact decide_eq_true (by omega)
theorem Rpr.bl (i : Bool) (n w : Nat) : Rpr (.bl i) n w := ⟨.bool i, by simp [D.toPy], by simp [PyData.canLay0], by simp [PyData.depth], by simp [PyData.showable], by simp [PyData.intsShort], by simp [PyData.bulk]⟩
theorem Rpr.non (n w : Nat) : Rpr .non n w := ⟨.none, by simp [D.toPy], by simp [PyData.canLay0], by simp [PyData.depth], by simp [PyData.showable], by simp [PyData.intsShort], by simp [PyData.bulk]⟩
theorem Rpr.str {s : Str} (h : PyData.strOk s = true) (n w : Nat) (hw : s.cps.size ≤ w) : Rpr (.str s) n w := ⟨.str s, by simp [D.toPy], by simp [PyData.canLay0, h], by simp [PyData.depth], by simp [PyData.showable], by simp [PyData.intsShort], by simpa [PyData.bulk] using hw⟩
theorem Rpr.repr {d : D} {n w : Nat} (h : Rpr d n w) (hn : n ≤ 60) (hw : w ≤ 500000) : ∃ s, bltD .repr d = some (.str s) := by
  obtain ⟨p, h1, h2, h3, h4, h5, h6⟩ := h
  have e := PyData.shown_le_bulk 16 (by decide) p (PyData.leavesShort_of_canLay0 16 p h2 h5)
  have z : okSize p.shown.length = true := by
    simp only [okSize, decide_eq_true_eq]
    have : (16 + 2) * p.bulk ≤ 18 * 500000 := Nat.mul_le_mul (by omega) (by omega)
    omega
  refine ⟨p.shown, ?_⟩
  have h3' : decide (p.depth ≤ 60) = true := decide_eq_true (by omega)
  simp only [bltD, h1, h4, h3', z, Bool.and_self, if_true]
end Ev
set_option linter.all false
set_option maxRecDepth 100000
set_option maxHeartbeats 4000000
namespace K22
open Ev PySem
theorem sr (s : String) (h : PyData.strOk (Str.ofString s) = true) (hl : (Str.ofString s).cps.size ≤ 8) (n : Nat) : Rpr (S s) n 8 := Rpr.str h n 8 hl
theorem cell_rpr {s : String} {may : Bool} {v : D} (h : Cell1 s may v) : Rpr v 0 8 := by
  rcases h with ⟨_, rfl⟩ | ⟨_, i, rfl, h⟩ | ⟨_, rfl | rfl | rfl | rfl⟩
  · exact .non 0 8
  · exact .int i 0 8 (by omega)
  all_goals exact sr _ (by decide +kernel) (by decide +kernel) 0
theorem row1_rpr {ys vs : List D} (h : Row1 ys vs) : ∀ v ∈ vs, Rpr v 0 8 := by
  induction h with
  | nil => intro v hv; cases hv
  | cons h r ih =>
    intro v hv
    rcases List.mem_cons.mp hv with rfl | hv
    · exact cell_rpr h
    · exact ih v hv
theorem row_rpr {cols : List D} {r : TR} (hl : cols.length ≤ 5) (h : ROk cols r) : Rpr (rowD r) 1 54 := by
  have e := Row1.len h
  rw [List.length_cons, List.length_cons] at e
  refine (RprAll.tup (RprAll.of (row1_rpr h))).le (by decide) ?_
  rw [List.length_cons, e]; omega
theorem rows_rpr {cols : List D} {rs : List TR} (hl : cols.length ≤ 5) (h : ∀ r ∈ rs, ROk cols r) (few : rs.length ≤ 200) : Rpr (rowsT rs) 2 11000 := by
  refine (RprAll.tup (RprAll.of (n := 1) (w := 54) fun v hv => ?_)).le (by decide) (by rw [List.length_map]; omega)
  obtain ⟨r, hr, rfl⟩ := List.mem_map.mp hv
  exact row_rpr hl (h r hr)
theorem st_rpr {ts : List Tab} {s : St} (hc : SchOk ts) (hs : FOk ts s) : Rpr (stD s) 3 44004 := by
  have h4 : s.length ≤ 4 := by rw [hs.len]; exact hc.few
  refine (RprAll.tup (RprAll.of (n := 2) (w := 11000) fun v hv => ?_)).le (by decide) (by rw [List.length_map]; omega)
  obtain ⟨rs, hr, rfl⟩ := List.mem_map.mp hv
  obtain ⟨i, hi⟩ := List.mem_iff_getElem?.mp hr
  have hl : i < ts.length := by rw [← hs.len]; exact (List.getElem?_eq_some_iff.mp hi).1
  obtain ⟨h1, h2⟩ := hs.tab i _ rs (List.getElem?_eq_getElem hl) hi
  exact rows_rpr (hc.tab _ (List.getElem_mem hl)).2.1 h1 h2
theorem row1_ints {ys vs : List D} (h : Row1 ys vs) : ∀ v ∈ vs, ∀ i : Int, v = .int i → -1000000000 ≤ i ∧ i ≤ 1000000000 := by
  induction h with
  | nil => intro v hv; cases hv
  | cons h r ih =>
    intro v hv i e
    rcases List.mem_cons.mp hv with rfl | hv
    · rcases h with ⟨_, h⟩ | ⟨_, j, e2, h⟩ | ⟨_, h⟩
      · rw [h] at e; cases e
      · rw [e2] at e
        have := D.int.inj e
        omega
      · rcases h with h | h | h | h <;> rw [h] at e <;> cases e
    · exact ih v hv i e
theorem key_small {cols : List D} {r : TR} (h : ROk cols r) : r.1.natAbs < 10 ^ 12 := by
  have := row1_ints h _ List.mem_cons_self r.1 rfl
  omega
theorem nat_small {k : Nat} (h : k ≤ 1000) : ((k : Nat) : Int).natAbs < 10 ^ 12 := by omega
theorem takeA_rpr {ts : List Tab} {s : St} {t : Nat} {rs : List TR} {tb : Tab} {w : D} (hc : SchOk ts) (hs : SOk ts s) (ht : ts[t]? = some tb) (hr : s[t]? = some rs) : Rpr (takeA ts s t rs w) 1 50 := by
  have ok := hs.tab t tb rs ht hr
  have hf := take_f hs.f ht hr w
  rw [takeA]
  cases hl : leftF ts (takeS s t rs w) t (keysL (meantR rs w)) with
  | none =>
    have : (meantR rs w).length ≤ 60 := Nat.le_trans (List.length_filter_le _ _) ok.few
    exact (RprAll.tup (.cons (sr _ (by decide +kernel) (by decide +kernel) 0) (.cons (.int _ 0 0 (nat_small (by omega))) (.nil 0 0)))).le (by decide) (by decide)
  | some d =>
    obtain ⟨own, ho, hl⟩ := List.exists_of_findSome?_eq_some hl
    obtain ⟨r, hr, hl⟩ := List.exists_of_findSome?_eq_some hl
    obtain ⟨i, hi, hl⟩ := List.exists_of_findSome?_eq_some hl
    have ho := List.mem_range.mp ho
    have e1 := List.getElem?_eq_getElem ho
    obtain ⟨rs', f1, f2, f3⟩ := hf.at e1
    rw [f1] at hr
    have ks := key_small (f2 r hr)
    rw [e1] at hi
    have hi := List.mem_range.mp hi
    have := (hc.rules e1).2.1
    have h4 := hc.few
    have hi : i < (rulesOf ts[own]).length := hi
    rw [leftG] at hl
    split at hl
    · cases hl
      exact (RprAll.tup (.cons (sr _ (by decide +kernel) (by decide +kernel) 0) (.cons (sr _ (by decide +kernel) (by decide +kernel) 0) (.cons (.int _ 0 0 (nat_small (by omega))) (.cons (.int _ 0 0 ks) (.cons (.int _ 0 0 (nat_small (by omega))) (.nil 0 0))))))).le (by decide) (by decide)
    · cases hl
theorem takeB_f {ts : List Tab} {s : St} {t : Nat} {rs : List TR} {tb : Tab} {w : D} (hs : SOk ts s) (ht : ts[t]? = some tb) (hr : s[t]? = some rs) : FOk ts (takeB ts s t rs w) := by
  rw [takeB]
  split
  · exact hs.f
  · exact take_f hs.f ht hr w
theorem res_rpr {ts : List Tab} {s : St} {t : Nat} {rs : List TR} {tb : Tab} {w : D} (hc : SchOk ts) (hs : SOk ts s) (ht : ts[t]? = some tb) (hr : s[t]? = some rs) : ∃ x, bltD .repr (.tup [takeA ts s t rs w, stD (takeB ts s t rs w)]) = some (.str x) :=
  Rpr.repr (RprAll.tup (.cons ((takeA_rpr hc hs ht hr).le (m := 3) (w := 50) (by decide) (by decide)) (.cons (st_rpr hc (takeB_f hs ht hr)) (.nil 3 0)))) (by decide) (by decide)
theorem plc_rpr {ts : List Tab} {s : St} {t : Nat} {rs : List TR} {tb : Tab} {w : D} (hc : SchOk ts) (hs : SOk ts s) (ht : ts[t]? = some tb) (hr : s[t]? = some rs) : ∃ x, bltD .repr (.tup ((takeK ts s t rs w).map (plcD t))) = some (.str x) := by
  have ok := hs.tab t tb rs ht hr
  have hlt : t < ts.length := (List.getElem?_eq_some_iff.mp ht).1
  have h4 := hc.few
  have few := ok.few
  have kl := takeK_len (ts := ts) (s := s) (t := t) (rs := rs) (w := w)
  refine Rpr.repr (n := 2) (w := 200) ((RprAll.tup (RprAll.of (w := 2) (n := 1) fun v hv => ?_)).le (by decide) (by rw [List.length_map]; omega)) (by decide) (by decide)
  obtain ⟨k, hk, rfl⟩ := List.mem_map.mp hv
  have hk : k ∈ keysI rs := by
    rw [takeK] at hk
    split at hk
    · cases hk
    · obtain ⟨r, h1, h2⟩ := List.mem_map.mp hk
      exact List.mem_map.mpr ⟨r, (List.mem_filter.mp h1).1, h2⟩
  obtain ⟨r, h1, rfl⟩ := List.mem_map.mp hk
  exact (RprAll.tup (.cons (.int _ 0 0 (nat_small (by omega))) (.cons (.int _ 0 0 (key_small (ok.row r h1))) (.nil 0 0)))).le (by decide) (by decide)
theorem rep_same {n : Nat} {d : D} (h : ∃ x, bltD .repr d = some (.str x)) (hv : ∀ st, view st d = d) : cl (n + 1) 105 [d, d] = M.ret (.bl true) := by
  obtain ⟨x, h⟩ := h
  refine cl_ret (F := F__law_same) rfl rfl fun L => ?_
  show exSs _ [some d, some d] _ = _
  refine sqR ?_
  simp [hv, h]
end K22
set_option linter.all false
set_option maxRecDepth 100000
set_option maxHeartbeats 4000000
namespace K22
open Ev PySem
/-! ### the schemas that are drawn -/
abbrev wordF : D := .tup [S "word", .bl false]
abbrev colE (c : Int) : D := .tup [S "col", .int 0, .int c]
abbrev refR (c t : Int) : D := .tup [S "refer", .int c, .int t]
abbrev uniR (c : Int) : D := .tup [S "unique", .int c]
abbrev within : D := .tup [S "or", .tup [S "null", colE 5], .tup [S "and", .tup [S "in", colE 4, .tup [.int 0, .int 1, .int 2, .non]], .tup [S "most", .tup [S "plus", colE 4, .tup [S "value", .int (-1)]], colE 5]]]
abbrev chkR (t : D) : D := .tup [S "check", t]
abbrev rulesB0 : List D := [.tup [refR 1 1, refR 2 1, chkR within], .tup [refR 2 1, uniR 3, refR 1 1, chkR within], .tup [chkR within]]
abbrev rulesB1 : List D := [.tup [refR 1 0], .tup [refR 1 0, uniR 2]]
abbrev checks : List D := [chkR (.tup [S "most", colE 1, colE 2]), chkR (.tup [S "not", .tup [S "same", colE 1, colE 2]]), uniR 1]
abbrev rulesC : List D := [.tup [], .tup [uniR 1], .tup [refR 2 1, uniR 2]]
inductive Sch : List Tab → Prop
  | a (b : Bool) {r0 r1 : D} (h0 : r0 ∈ rules0) (h1 : r1 ∈ rules1) : Sch [([wordT, .tup [S "int", .bl b]], r0), ([intT, intT], r1)]
  | b {r0 r1 : D} (h0 : r0 ∈ rulesB0) (h1 : r1 ∈ rulesB1) : Sch [([intT, intT, wordT, intF, intT], r0), ([intT, wordF], r1)]
  | c (b : Bool) {r0 k r2 : D} (h0 : r0 ∈ rulesB1) (hk : k ∈ checks) (h2 : r2 ∈ rulesC) : Sch [([intT, wordT], r0), ([.tup [S "int", .bl b], intT], .tup [refR 1 0, refR 2 1, k]), ([wordF, intT], r2)]
theorem wp_crossed {n l : Nat} {st : Store} (h : Cup st l) : Wp l (cl (n + 3) 99 [.ref l]) (fun d => ∃ ts, d = schD ts ∧ Sch ts) st := by
  refine wp_def (F := F__law_crossed_schema) rfl rfl ?_
  simp [F__law_crossed_schema, okSize]
  refine wp_thn (wp_some h (by simp) (by simp)) fun r0 st1 h1 hr0 => ?_
  try simp [okSize]
  refine wp_thn (wp_some h1 (by simp) (by simp)) fun r1 st2 h2 hr1 => ?_
  try simp [okSize]
  exact wp_ret h2 ⟨_, rfl, _, rfl, .b hr0 hr1⟩
theorem wp_any {n l : Nat} {st : Store} (h : Cup st l) : Wp l (cl (n + 4) 100 [.ref l]) (fun d => ∃ ts, d = schD ts ∧ Sch ts) st := by
  refine wp_def (F := F__law_any_schema) rfl rfl ?_
  simp [F__law_any_schema, okSize]
  refine wp_thn (wp_roll h (by omega)) fun d st1 h1 hr => ?_
  obtain ⟨r, rfl, k1, k2⟩ := hr
  have hr : r = 0 ∨ r = 1 ∨ r = 2 ∨ r = 3 ∨ r = 4 := by omega
  rcases hr with rfl | rfl | rfl | rfl | rfl
  · simp
    exact wp_thn (wp_schema h1) fun d st2 h2 hd => by
      obtain ⟨b, r0, r1, q0, q1, rfl⟩ := hd
      exact wp_ret h2 ⟨_, rfl, _, rfl, .a b q0 q1⟩
  · simp
    exact wp_thn (wp_schema h1) fun d st2 h2 hd => by
      obtain ⟨b, r0, r1, q0, q1, rfl⟩ := hd
      exact wp_ret h2 ⟨_, rfl, _, rfl, .a b q0 q1⟩
  · simp
    refine wp_thn (wp_some h1 (by simp) (by simp)) fun r0 st2 h2 q0 => ?_
    refine wp_thn (wp_some h2 (by simp) (by simp)) fun bb st3 h3 q1 => ?_
    refine wp_thn (wp_some h3 (by simp) (by simp)) fun k st4 h4 q2 => ?_
    refine wp_thn (wp_some h4 (by simp) (by simp)) fun r2 st5 h5 q3 => ?_
    have hb : ∃ b, bb = .bl b := by
      rcases List.mem_cons.mp q1 with e | q1
      · exact ⟨_, e⟩
      · exact ⟨_, List.mem_singleton.mp q1⟩
    obtain ⟨b, rfl⟩ := hb
    exact wp_ret h5 ⟨_, rfl, _, rfl, .c b q0 q2 q3⟩
  · simp
    refine wp_thn (wp_some h1 (by simp) (by simp)) fun r0 st2 h2 q0 => ?_
    refine wp_thn (wp_some h2 (by simp) (by simp)) fun bb st3 h3 q1 => ?_
    refine wp_thn (wp_some h3 (by simp) (by simp)) fun k st4 h4 q2 => ?_
    refine wp_thn (wp_some h4 (by simp) (by simp)) fun r2 st5 h5 q3 => ?_
    have hb : ∃ b, bb = .bl b := by
      rcases List.mem_cons.mp q1 with e | q1
      · exact ⟨_, e⟩
      · exact ⟨_, List.mem_singleton.mp q1⟩
    obtain ⟨b, rfl⟩ := hb
    exact wp_ret h5 ⟨_, rfl, _, rfl, .c b q0 q2 q3⟩
  · simp
    exact wp_thn (wp_crossed h1) fun d st2 h2 hd => wp_ret h2 ⟨_, rfl, hd⟩
abbrev cupS (a c : Int) : Store := [.lst [.int a, .int c]]
theorem sch17 {ts : List Tab} (h : Sch ts) (a c : Int) : cl 57 17 [schD ts] (cupS a c) = .ok .non (cupS a c) := by
  cases h with
  | a b h0 h1 =>
    simp only [rules0, rules1, List.mem_cons, List.not_mem_nil, or_false] at h0 h1
    rcases h0 with rfl | rfl | rfl <;> rcases h1 with rfl | rfl | rfl <;> kernel_rfl
  | b h0 h1 =>
    simp only [rulesB0, rulesB1, List.mem_cons, List.not_mem_nil, or_false] at h0 h1
    rcases h0 with rfl | rfl | rfl <;> rcases h1 with rfl | rfl <;> kernel_rfl
  | c b h0 h1 h2 =>
    simp only [rulesC, checks, rulesB1, List.mem_cons, List.not_mem_nil, or_false] at h0 h1 h2
    rcases h0 with rfl | rfl <;> rcases h1 with rfl | rfl | rfl <;> rcases h2 with rfl | rfl | rfl <;> kernel_rfl
theorem test_less (b : Bool) : Test [.tup [intF, wordT, .tup [S "int", .bl b]]] 1 1 (.tup [S "less", .tup [S "value", .int (-9)], colE 2]) :=
  .leaf (.cmp (s := "int") (.inr (.inl rfl)) (.inl rfl) (.one (.value (.int _ (by decide)))) (.one (.col (a := 0) (c := 2) (ys := [intF, wordT, .tup [S "int", .bl b]]) (b := .bl b) rfl rfl)))
theorem col_b (c : Nat) {k : Bool} (h : [intF, intT, intT, wordT, intF, intT][c]? = some (.tup [S "int", .bl k])) : Op1 [.tup [intF, intT, intT, wordT, intF, intT]] "int" (colE (c : Nat)) :=
  .col (a := 0) (c := c) (ys := [intF, intT, intT, wordT, intF, intT]) (b := .bl k) rfl h
theorem test_within : ∃ k s, Test [.tup [intF, intT, intT, wordT, intF, intT]] k s within ∧ k ≤ 5 :=
  ⟨_, _, .bin (.inr rfl) (.leaf (.null (.one (col_b 5 (k := true) rfl)))) (.bin (.inl rfl) (.leaf (.isin (.inl rfl) (.one (col_b 4 (k := false) rfl)) (fun v hv => by
    simp only [List.mem_cons, List.not_mem_nil, or_false] at hv
    rcases hv with rfl | rfl | rfl | rfl
    · exact .int _ (by decide)
    · exact .int _ (by decide)
    · exact .int _ (by decide)
    · exact .non _) (by decide))) (.leaf (.cmp (.inr (.inr rfl)) (.inl rfl) (.plus (col_b 4 (k := false) rfl) (.int _ (by decide))) (.one (col_b 5 (k := true) rfl))))), by decide⟩
theorem col_c (b : Bool) (c : Nat) {k : Bool} (h : [intF, .tup [S "int", .bl b], intT][c]? = some (.tup [S "int", .bl k])) : Op1 [.tup [intF, .tup [S "int", .bl b], intT]] "int" (colE (c : Nat)) :=
  .col (a := 0) (c := c) (ys := [intF, .tup [S "int", .bl b], intT]) (b := .bl k) rfl h
theorem rule_checks (b : Bool) : ∀ k ∈ checks, Rule [.tup [S "int", .bl b], intT] 3 k := by
  intro k hk
  simp only [checks, List.mem_cons, List.not_mem_nil, or_false] at hk
  rcases hk with rfl | rfl | rfl
  · exact .check (.leaf (.cmp (.inr (.inr rfl)) (.inl rfl) (.one (col_c b 1 (k := b) rfl)) (.one (col_c b 2 (k := true) rfl)))) (by simp)
  · exact .check (.not (.leaf (.cmp (.inl rfl) (.inl rfl) (.one (col_c b 1 (k := b) rfl)) (.one (col_c b 2 (k := true) rfl))))) (by simp)
  · exact .uniq 1 (by simp) (by simp)
theorem rules_nil {t : Tab} {m : Nat} (h : t.2 = .tup []) : ∃ rules, Rules t m rules := ⟨[], h, by simp, fun r hr => by cases hr⟩
theorem rules_of {t : Tab} {m : Nat} {rules : List D} (h : t.2 = .tup rules) (hl : rules.length ≤ 4) (hr : ∀ r ∈ rules, Rule t.1 m r) : ∃ rules, Rules t m rules := ⟨rules, h, hl, hr⟩
theorem all1 {P : D → Prop} {a : D} (h : P a) : ∀ r ∈ [a], P r := fun r hr => by
  rw [List.mem_singleton.mp hr]; exact h
theorem allC {P : D → Prop} {a : D} {xs : List D} (h : P a) (k : ∀ r ∈ xs, P r) : ∀ r ∈ a :: xs, P r := fun r hr => by
  rcases List.mem_cons.mp hr with rfl | hr
  · exact h
  · exact k r hr
theorem refer1 {cols : List D} {m c t : Nat} (h : 1 ≤ c ∧ c ≤ cols.length ∧ t < m) : Rule cols m (refR (c : Nat) (t : Nat)) := .refer c t h.1 h.2.1 h.2.2
theorem uniq1 {cols : List D} {m c : Nat} (h : 1 ≤ c ∧ c ≤ cols.length) : Rule cols m (uniR (c : Nat)) := .uniq c h.1 h.2
theorem rB1 {cols : List D} {m : Nat} (hc : cols.length = 2) (hm : 0 < m) {r : D} (h : r ∈ rulesB1) {t : Tab} (ht : t = (cols, r)) : ∃ rules, Rules t m rules := by
  subst ht
  simp only [rulesB1, List.mem_cons, List.not_mem_nil, or_false] at h
  rcases h with rfl | rfl
  · exact rules_of rfl (by simp) (all1 (refer1 (c := 1) (t := 0) ⟨by omega, by show 1 ≤ cols.length; omega, by omega⟩))
  · exact rules_of rfl (by simp) (allC (refer1 (c := 1) (t := 0) ⟨by omega, by show 1 ≤ cols.length; omega, by omega⟩) (all1 (uniq1 (c := 2) ⟨by omega, by show 2 ≤ cols.length; omega⟩)))
theorem cs_i (b : Bool) {ys : List D} (h : Cs ys) : Cs (.tup [S "int", .bl b] :: ys) := .cons (.inl rfl) h
theorem cs_w (b : Bool) {ys : List D} (h : Cs ys) : Cs (.tup [S "word", .bl b] :: ys) := .cons (.inr rfl) h
theorem Sch.ok {ts : List Tab} (h : Sch ts) : SchOk ts := by
  cases h with
  | a b h0 h1 =>
    refine ⟨by simp, fun t ht => ?_⟩
    simp only [List.mem_cons, List.not_mem_nil, or_false] at ht
    rcases ht with rfl | rfl
    · refine ⟨cs_w true (cs_i b .nil), by simp, ?_⟩
      simp only [rules0, List.mem_cons, List.not_mem_nil, or_false] at h0
      rcases h0 with rfl | rfl | rfl
      · exact rules_nil rfl
      · exact rules_of rfl (by simp) (all1 (uniq1 (c := 1) (by simp)))
      · exact rules_of rfl (by simp) (all1 (.check (test_less b) (by simp)))
    · refine ⟨cs_i true (cs_i true .nil), by simp, ?_⟩
      simp only [rules1, List.mem_cons, List.not_mem_nil, or_false] at h1
      rcases h1 with rfl | rfl | rfl
      · exact rules_nil rfl
      · exact rules_of rfl (by simp) (all1 (refer1 (c := 1) (t := 0) (by simp)))
      · exact rules_of rfl (by simp) (allC (refer1 (c := 1) (t := 0) (by simp)) (all1 (uniq1 (c := 2) (by simp))))
  | b h0 h1 =>
    refine ⟨by simp, fun t ht => ?_⟩
    simp only [List.mem_cons, List.not_mem_nil, or_false] at ht
    obtain ⟨k, s, hw, hk⟩ := test_within
    rcases ht with rfl | rfl
    · refine ⟨cs_i true (cs_i true (cs_w true (cs_i false (cs_i true .nil)))), by simp, ?_⟩
      simp only [rulesB0, List.mem_cons, List.not_mem_nil, or_false] at h0
      rcases h0 with rfl | rfl | rfl
      · exact rules_of rfl (by simp) (allC (refer1 (c := 1) (t := 1) (by simp)) (allC (refer1 (c := 2) (t := 1) (by simp)) (all1 (.check hw hk))))
      · exact rules_of rfl (by simp) (allC (refer1 (c := 2) (t := 1) (by simp)) (allC (uniq1 (c := 3) (by simp)) (allC (refer1 (c := 1) (t := 1) (by simp)) (all1 (.check hw hk)))))
      · exact rules_of rfl (by simp) (all1 (.check hw hk))
    · exact ⟨cs_i true (cs_w false .nil), by simp, rB1 rfl (by simp) h1 rfl⟩
  | c b h0 h1 h2 =>
    refine ⟨by simp, fun t ht => ?_⟩
    simp only [List.mem_cons, List.not_mem_nil, or_false] at ht
    rcases ht with rfl | rfl | rfl
    · exact ⟨cs_i true (cs_w true .nil), by simp, rB1 rfl (by simp) h0 rfl⟩
    · exact ⟨cs_i b (cs_i true .nil), by simp, rules_of rfl (by simp) (allC (refer1 (c := 1) (t := 0) (by simp)) (allC (refer1 (c := 2) (t := 1) (by simp)) (all1 (rule_checks b _ h1))))⟩
    · refine ⟨cs_w false (cs_i true .nil), by simp, ?_⟩
      simp only [rulesC, List.mem_cons, List.not_mem_nil, or_false] at h2
      rcases h2 with rfl | rfl | rfl
      · exact rules_nil rfl
      · exact rules_of rfl (by simp) (all1 (uniq1 (c := 1) (by simp)))
      · exact rules_of rfl (by simp) (allC (refer1 (c := 2) (t := 1) (by simp)) (all1 (uniq1 (c := 2) (by simp))))
end K22
set_option linter.all false
set_option maxRecDepth 100000
set_option maxHeartbeats 4000000
namespace K22
open Ev PySem
/-! ### _law_rows -/
theorem asc_srt {rs : List TR} (h : (keysI rs).Nodup) : ascI (keysI (srtR rs)) = true := by
  have p := pw_srtBy (k := fun r : TR => r.1) rs
  have nd : (keysI (srtR rs)).Nodup := ((perm_srtBy rs).map _).nodup_iff.mpr h
  refine pw_asc ?_
  rw [List.pairwise_map]
  have nd2 := List.pairwise_map.mp nd
  exact (p.and nd2).imp fun {a b} h => by
    obtain ⟨h1, h2⟩ := h
    omega
theorem wps_iff {C : Cfg} {ρ : Ev.Env} {c : E} {a b : Ss} {l L : Nat} {st : Store} {Q : Ev.Flow → Store → Prop} (hl : l < L) (hL : L ≤ st.length) (h : Wp l (evE C ρ c) (fun d => ∃ k, d = .bl k) st) (k : ∀ (x : Bool) st', Cup st' l → st'.length = st.length → WpS l L (if x then exSs C ρ a else exSs C ρ b) Q st') : WpS l L (exS C ρ (.iff c a b)) Q st := by
  obtain ⟨d, st1, e, dr, x, rfl⟩ := h
  obtain ⟨fl, st2, e2, dr2, q⟩ := k x st1 dr.cup dr.len
  refine ⟨fl, st2, ?_, (dr.drn hl hL).trans dr2, q⟩
  rw [exS, s_assoc, s_ok e]
  exact e2
theorem wps_asg {C : Cfg} {ρ : Ev.Env} {e : E} {i l L : Nat} {st : Store} {P : D → Prop} (hl : l < L) (hL : L ≤ st.length) (h : Wp l (evE C ρ e) P st) : WpS l L (exS C ρ (.asg (.name i) e)) (fun fl st' => st'.length = st.length ∧ ∃ d, fl = .next (ρ.set i (some d)) ∧ P d) st := by
  obtain ⟨d, st1, e, dr, p⟩ := h
  refine ⟨.next (ρ.set i (some d)), st1, ?_, dr.drn hl hL, dr.len, d, rfl, p⟩
  rw [exS, s_ok e]
  rfl
def oddK : List Int := [-11, -2, 10, 57]
abbrev rowE3 : E := (.bin .Add (.tup (.cons (.call 31 (.cons (.var 0) (.cons (.new (.lst (.cons (.neg (.const (.int 11))) (.cons (.neg (.const (.int 2))) (.cons (.const (.int 10)) (.cons (.const (.int 57)) .nil)))))) .nil))) .nil)) (.blt .tuple (.new (.comp [8] (.call 67 (.cons (.var 0) (.cons (.var 8) .nil))) (.name 8) (.val (.slc (.var 5) (.is (.const (.int 1))) .no)) .no))))
abbrev lrE (l : Nat) (ts : List Tab) (m : Int) (s : St) (a b c d : Option D) : Ev.Env := [some (.ref l), some (schD ts), some (.int m), some (stD s), a, b, c, d, none]
theorem wp_row3 {n B l i : Nat} {ts : List Tab} {m : Int} {s : St} {a r k6 : Option D} {ys : List D} (hc : Cs ys) (hl : ys.length ≤ 5) {st : Store} (h : Cup st l) :
    Wp l (evE (fr (n + 3) B) (lrE l ts m s a (some (.tup (intF :: ys))) r k6) rowE3) (fun d => ∃ x : TR, d = rowD x ∧ x.1 ∈ oddK ∧ ROk ys x) st := by
  have he : evIt (fr (n + 3) B) (lrE l ts m s a (some (.tup (intF :: ys))) r k6) (.val (.slc (.var 5) (.is (.const (.int 1))) .no)) = M.ret ys := by
    simp [slcD, cutL, cutAt, walkD]
  rw [evE]
  refine wp_thn (P := fun d => ∃ k : Int, d = .tup [.int k] ∧ k ∈ oddK) ?_ fun d st1 h1 hd => ?_
  · simp [okSize]
    refine wp_thn (wp_some h (by simp) (by simp)) fun d st1 h1 hd => ?_
    simp only [List.mem_cons, List.not_mem_nil, or_false] at hd
    rcases hd with rfl | rfl | rfl | rfl
    all_goals exact wp_ret h1 ⟨_, rfl, by decide⟩
  obtain ⟨k, rfl, hk⟩ := hd
  rw [evE, evE, s_assoc, s_assoc]
  refine wp_thn (wp_cells (i := 8) hc (by omega) he (fun x => by simp) h1) fun vs st2 h2 hv => ?_
  have hz : okSize (1 + vs.length) = true := by rw [hv.len]; exact okz_lt (by omega)
  have e2 : binD .Add (.tup [.int k]) (.tup vs) = some (.tup (.int k :: vs)) := by
    simp only [binD, List.length_cons, List.length_nil, Nat.zero_add, hz, if_true]
    rfl
  have hkb : -1000000000 ≤ k ∧ k ≤ 1000000000 := by
    simp only [oddK, List.mem_cons, List.not_mem_nil, or_false] at hk
    omega
  refine ⟨_, st2, ?_, .refl h2, (k, vs), rfl, hk, .cons (.inr (.inl ⟨rfl, k, rfl, hkb⟩)) hv⟩
  show M.thn (M.ret (D.lst vs)) _ st2 = _
  rw [s_ret]
  show M.ofO (binD .Add (.tup [.int k]) (.tup vs)) st2 = _
  rw [e2]; rfl
def Small (rs : List TR) : Prop := rs.length ≤ 59 ∧ ∀ r ∈ rs, 0 ≤ r.1 ∧ r.1 < 10
abbrev lrB : Ss := (.cons (.iff (.cmp .Eq (.call 30 (.cons (.var 0) (.cons (.const (.int 3)) .nil))) (.const (.int 0))) (.cons (.asg (.name 7) rowE3) (.cons (.asg (.name 3) (.bin .Add (.bin .Add (.slc (.var 3) .no (.is (.var 4))) (.tup (.cons (.blt .tuple (.srtk (.bin .Add (.idx (.var 3) (.var 4)) (.tup (.cons (.var 7) .nil))) 0)) .nil))) (.slc (.var 3) (.is (.bin .Add (.var 4) (.const (.int 1)))) .no))) .nil)) .nil) .nil)
def LrI (l L : Nat) (ts : List Tab) (m : Int) (i : Nat) (ρ : Ev.Env) (st : Store) : Prop := ∃ s a b c d, ρ = lrE l ts m s a b c d ∧ st.length = L ∧ SOk ts s ∧ ∀ j rs, i ≤ j → s[j]? = some rs → Small rs
theorem set_ok {ts : List Tab} {s : St} (hs : SOk ts s) {t : Nat} {tb : Tab} (ht : ts[t]? = some tb) {rs : List TR} (h : TOk tb.1 rs) : SOk ts (s.set t rs) := by
  refine ⟨by rw [List.length_set]; exact hs.len, fun i t' rs' e1 e2 => ?_⟩
  by_cases hi : t = i
  · subst hi
    rw [ht] at e1
    cases e1
    have hl2 : t < s.length := by rw [hs.len]; exact (List.getElem?_eq_some_iff.mp ht).1
    rw [List.getElem?_set_self hl2] at e2
    cases e2
    exact h
  · rw [List.getElem?_set_ne hi] at e2
    exact hs.tab i t' rs' e1 e2
theorem add_ok {cols : List D} {rs : List TR} (h : TOk cols rs) (hs : Small rs) {x : TR} (hx : ROk cols x) (hk : x.1 ∈ oddK) : TOk cols (srtR (rs ++ [x])) := by
  refine ⟨fun r hr => ?_, asc_srt ?_, ?_⟩
  · rcases List.mem_append.mp (srtR_mem hr) with hr | hr
    · exact h.row r hr
    · rw [List.mem_singleton.mp hr]; exact hx
  · show ((rs ++ [x]).map (·.1)).Nodup
    rw [List.map_append, List.nodup_append]
    refine ⟨(asc_pw h.asc).imp (fun {a b} h => by omega), by simp, fun a ha b hb => ?_⟩
    obtain ⟨r, hr, rfl⟩ := List.mem_map.mp ha
    have : b = x.1 := by simpa using hb
    have := hs.2 r hr
    simp only [oddK, List.mem_cons, List.not_mem_nil, or_false] at hk
    omega
  · rw [len_srtBy, List.length_append, List.length_singleton]
    have := hs.1
    omega
theorem wp_law_rows {n l : Nat} {ts : List Tab} {m : Int} {st : Store} (hc : SchOk ts) (h : Cup st l) (hm : 0 ≤ m ∧ m ≤ 8) : Wp l (cl (n + 5) 98 [.ref l, schD ts, .int m]) (fun d => ∃ s, d = stD s ∧ SOk ts s) st := by
  refine wps_def (F := F__law_rows) rfl rfl ?_
  have hlt := h.lt
  show WpS l st.length (exSs (fr (n + 4) st.length) [some (.ref l), some (schD ts), some (.int m), none, none, none, none, none, none] (.cons (.asg (.name 3) (.call 77 (.cons (.var 0) (.cons (.var 1) (.cons (.var 2) .nil))))) (.cons (.for (.two (.name 4) (.two (.name 5) (.name 6))) (.enum (.var 1)) lrB) (.cons (.ret (.var 3)) .nil)))) _ st
  generalize hL : st.length = L
  have hlL : l < L := by omega
  refine wps_seq (P := fun fl st' => ∃ ρ, fl = .next ρ ∧ LrI l L ts m 0 ρ st') ?_ fun fl st1 h1 hL1 hp => ?_
  · refine (wps_asg hlL (by omega) (P := fun d => ∃ s, d = stD s ∧ SOk ts s ∧ ∀ rs ∈ s, Small rs) ?_).mono fun fl st' hp => ?_
    · simp
      exact (wp_state (n := n) h hm hc.few fun t ht => ⟨(hc.tab t ht).1, (hc.tab t ht).2.1⟩).mono fun d hd => by
        obtain ⟨sts, rfl, hs⟩ := hd
        obtain ⟨s, rfl, h2, h3⟩ := sts_typed hs
        exact ⟨s, rfl, h2, h3⟩
    · obtain ⟨hl, d, rfl, s, rfl, h2, h3⟩ := hp
      exact ⟨_, rfl, s, none, none, none, none, rfl, by omega, h2, fun j rs _ hj => h3 rs (List.mem_of_getElem? hj)⟩
  obtain ⟨ρ, rfl, hI⟩ := hp
  show WpS l L (exSs (fr (n + 4) L) ρ (.cons (.for (.two (.name 4) (.two (.name 5) (.name 6))) (.enum (.var 1)) lrB) (.cons (.ret (.var 3)) .nil))) _ st1
  refine wps_seq (P := fun fl st' => ∃ ρ, fl = .next ρ ∧ LrI l L ts m ts.length ρ st') ?_ fun fl st2 h2 hL2 hp => ?_
  · have it : evIt (fr (n + 4) L) ρ (.enum (.var 1)) = M.ret ((List.range ts.length).map (encN (ts.map Tab.d))) := by
      obtain ⟨_, _, _, _, _, rfl, _⟩ := hI
      have := numUp0 (ts.map Tab.d)
      rw [List.length_map] at this
      rw [← this]
      simp [seqOf]
    rw [exS, it, s_ret]
    have w := wps_for (l := l) (L := L) (vs := (List.range ts.length).map (encN (ts.map Tab.d))) (k := 0) (LrI l L ts m) (f := fun x ρ => match setTg (.two (.name 4) (.two (.name 5) (.name 6))) x ρ with
      | some ρ => exSs (fr (n + 4) L) ρ lrB
      | none => M.bad) (fun i v hv ρ' st' h' hL' hI' => by
        rw [List.getElem?_map] at hv
        obtain ⟨j, hj, rfl⟩ := Option.map_eq_some_iff.mp hv
        obtain ⟨hi, e⟩ := List.getElem?_eq_some_iff.mp hj
        rw [List.length_range] at hi
        have e : j = i := by rw [← e]; simp
        subst e
        rw [Nat.zero_add] at hI' ⊢
        obtain ⟨s, a, b, c, d, rfl, hlen, hs, hsm⟩ := hI'
        have e1 := List.getElem?_eq_getElem hi
        generalize hq : ts[j] = tb at e1
        obtain ⟨c1, c2, rules, c3, _⟩ := hc.tab tb (List.mem_of_getElem? e1)
        have hjs : j < s.length := by rw [hs.len]; exact hi
        have f1 := List.getElem?_eq_getElem hjs
        generalize hq2 : s[j] = rs at f1
        have ok := hs.tab j tb rs e1 f1
        have sm := hsm j rs (Nat.le_refl _) f1
        rw [encN_at (d := .tup [.tup (intF :: tb.1), tb.2]) (by rw [List.getElem?_map, e1]; rfl)]
        show WpS l L (exSs (fr (n + 4) L) (lrE l ts m s (some (.int (j : Nat))) (some (.tup (intF :: tb.1))) (some tb.2) d) lrB) _ st'
        refine wps_seq (P := fun fl st' => ∃ ρ', fl = .next ρ' ∧ LrI l L ts m (j + 1) ρ' st') (wps_iff hlL hL' ?_ fun x st2 h2 l2 => ?_) fun fl st2 h2 hL2 hp => ?_
        · simp
          refine wp_thn (wp_roll h' (by omega)) fun d st1 h1 hr => ?_
          obtain ⟨r, rfl, _⟩ := hr
          simp
          refine wp_ret h1 ?_
          cases decide (r = 0) <;> simp
        · cases x with
          | false => exact wps_ret h2 hlL (by omega) ⟨_, rfl, s, _, _, _, _, rfl, by omega, hs, fun j' rs' hj' => hsm j' rs' (by omega)⟩
          | true =>
            show WpS l L (exSs (fr (n + 4) L) (lrE l ts m s (some (.int (j : Nat))) (some (.tup (intF :: tb.1))) (some tb.2) d) (.cons _ (.cons _ .nil))) _ st2
            refine wps_seq (wps_asg hlL (by omega) (wp_row3 (n := n + 1) (i := 0) c1 c2 h2)) fun fl st3 h3 hL3 hp => ?_
            obtain ⟨l3, dd, rfl, x, rfl, hk, hx⟩ := hp
            have fin : exSs (fr (n + 4) L) (lrE l ts m s (some (.int (j : Nat))) (some (.tup (intF :: tb.1))) (some tb.2) (some (rowD x))) (.cons (.asg (.name 3) (.bin .Add (.bin .Add (.slc (.var 3) .no (.is (.var 4))) (.tup (.cons (.blt .tuple (.srtk (.bin .Add (.idx (.var 3) (.var 4)) (.tup (.cons (.var 7) .nil))) 0)) .nil))) (.slc (.var 3) (.is (.bin .Add (.var 4) (.const (.int 1)))) .no))) .nil) = M.ret (.next (lrE l ts m (s.set j (srtR (rs ++ [x]))) (some (.int (j : Nat))) (some (.tup (intF :: tb.1))) (some tb.2) (some (rowD x)))) := by
              refine (sqM (asg_ev (put_ev hjs (by rw [hs.len]; exact hc.few) rfl rfl (rs := srtR (rs ++ [x])) ?_))).trans rfl
              have z : binD .Add (rowsT rs) (.tup [rowD x]) = some (rowsT (rs ++ [x])) := by
                have hz : okSize ((rs.map rowD).length + 1) = true := okz_lt (by rw [List.length_map]; have := sm.1; omega)
                simp only [binD, rowsT, List.length_singleton, hz, if_true, List.map_append, List.map_cons, List.map_nil]
              have zz : srtkD 0 (.tup (rs.map rowD ++ [rowD x])) = some (.lst ((srtR (rs ++ [x])).map rowD)) := by
                have := srtkD_rowsT (rs ++ [x])
                rwa [rowsT, List.map_append] at this
              simp [st_ix f1, okSize, z, zz]
            show WpS l L (exSs (fr (n + 4) L) (lrE l ts m s (some (.int (j : Nat))) (some (.tup (intF :: tb.1))) (some tb.2) (some (rowD x))) _) _ st3
            rw [fin]
            refine wps_ret h3 hlL hL3 ⟨_, rfl, _, _, _, _, _, rfl, by omega, set_ok hs e1 (add_ok ok sm hx hk), fun j' rs' hj' hr' => ?_⟩
            rw [List.getElem?_set_ne (by omega)] at hr'
            exact hsm j' rs' (by omega) hr'
        · obtain ⟨ρ', rfl, hI⟩ := hp
          exact wps_ret h2 hlL hL2 ⟨ρ', rfl, hI⟩) h1 hlL hL1 hI
    rw [Nat.zero_add, List.length_map, List.length_range] at w
    exact w
  obtain ⟨ρ, rfl, s, a, b, c, d, rfl, hlen, hs, _⟩ := hp
  refine ⟨.ret (stD s), st2, rfl, .refl h2 hlL hL2, stD s, rfl, hs.plain, s, rfl, hs⟩
end K22
set_option linter.all false
set_option maxRecDepth 100000
set_option maxHeartbeats 4000000
namespace K22
open Ev PySem
/-! ### _law_all_broken, _law_kept_state -/
theorem forL_acc {α β : Type} {f : D → Ev.Env → M Ev.Flow} {enc : α → D} {G : α → List β} {N : Nat} (J : List β → Ev.Env → Prop) : ∀ {xs : List α} {acc : List β}, (∀ x ∈ xs, ∀ acc ρ, (acc ++ G x).length ≤ N → J acc ρ → ∃ ρ', f (enc x) ρ = M.ret (.next ρ') ∧ J (acc ++ G x) ρ') → (acc ++ xs.flatMap G).length ≤ N → ∀ {ρ}, J acc ρ → ∃ ρ', forL f (xs.map enc) ρ = M.ret (.next ρ') ∧ J (acc ++ xs.flatMap G) ρ'
  | [], acc, _, _, ρ, h => ⟨ρ, rfl, by rw [List.flatMap_nil, List.append_nil]; exact h⟩
  | x :: xs, acc, hs, hN, ρ, h => by
    rw [List.flatMap_cons, ← List.append_assoc] at hN ⊢
    obtain ⟨ρ1, e1, h1⟩ := hs x List.mem_cons_self acc ρ (by rw [List.length_append] at hN; omega) h
    obtain ⟨ρ2, e2, h2⟩ := forL_acc J (xs := xs) (fun y hy => hs y (List.mem_cons_of_mem _ hy)) hN h1
    refine ⟨ρ2, ?_, h2⟩
    rw [List.map_cons, forL, e1, s_ret]
    exact e2
theorem for_acc {C : Cfg} {ρ : Ev.Env} {tg : Tg} {it : It} {b : Ss} {α β : Type} {enc : α → D} {G : α → List β} {N : Nat} {xs : List α} {acc : List β} (J : List β → Ev.Env → Prop) (hit : evIt C ρ it = M.ret (xs.map enc)) (h0 : J acc ρ) (hN : (acc ++ xs.flatMap G).length ≤ N)
    (k : ∀ x ∈ xs, ∀ acc ρ, (acc ++ G x).length ≤ N → J acc ρ → ∃ ρ', (match setTg tg (enc x) ρ with
      | some ρ => exSs C ρ b
      | none => M.bad) = M.ret (.next ρ') ∧ J (acc ++ G x) ρ') : ∃ ρ', exS C ρ (.for tg it b) = M.ret (.next ρ') ∧ J (acc ++ xs.flatMap G) ρ' := by
  rw [exS, hit, s_ret]
  exact forL_acc J k hN h0
theorem flat_len {α β : Type} {G : α → List β} {b : Nat} : ∀ {xs : List α}, (∀ x ∈ xs, (G x).length ≤ b) → (xs.flatMap G).length ≤ xs.length * b
  | [], _ => Nat.zero_le _
  | x :: xs, h => by
    have h1 := h x List.mem_cons_self
    have h2 := flat_len (xs := xs) fun y hy => h y (List.mem_cons_of_mem _ hy)
    rw [List.flatMap_cons, List.length_append, List.length_cons, Nat.succ_mul]
    omega
theorem one_go {C : Cfg} {ρ : Ev.Env} {s : Ev.S} {I : Ev.Env → Prop} (h : ∃ ρ', exS C ρ s = M.ret (.next ρ') ∧ I ρ') : ∃ ρ', exSs C ρ (.cons s .nil) = M.ret (.next ρ') ∧ I ρ' := by
  obtain ⟨ρ', e, i⟩ := h
  exact ⟨ρ', (sqM e).trans rfl, i⟩
def triD (x : Nat × Int × Nat) : D := .tup [.int (x.1 : Nat), .int x.2.1, .int (x.2.2 : Nat)]
section
variable {n L : Nat} {ts : List Tab} {s : St}
abbrev abE (ts : List Tab) (s : St) (xs : List (Nat × Int × Nat)) (a b c d : Option D) : Ev.Env := [some (schD ts), some (stD s), some (.lst (xs.map triD)), a, b, c, d]
noncomputable def brR (s : St) (t : Nat) (rules : List D) (r : TR) : List (Nat × Int × Nat) := ((List.range rules.length).filter fun i => brk s t r ((rules[i]?).getD .non)).map fun i => (t, r.1, i)
noncomputable def brT (ts : List Tab) (s : St) (t : Nat) : List (Nat × Int × Nat) := ((s[t]?).getD []).flatMap (brR s t (rulesOf ((ts[t]?).getD ([], .non))))
noncomputable def brA (ts : List Tab) (s : St) : List (Nat × Int × Nat) := (List.range ts.length).flatMap (brT ts s)
theorem brR_len {s : St} {t : Nat} {rules : List D} {r : TR} : (brR s t rules r).length ≤ rules.length := by
  rw [brR, List.length_map]
  exact Nat.le_trans (List.length_filter_le _ _) (by rw [List.length_range]; exact Nat.le_refl _)
theorem brA_len (hc : SchOk ts) (hs : SOk ts s) : (brA ts s).length ≤ 960 := by
  have h4 := hc.few
  have := flat_len (G := brT ts s) (b := 240) (xs := List.range ts.length) fun t ht => by
    have ht := List.mem_range.mp ht
    have e1 := List.getElem?_eq_getElem ht
    have htl : t < s.length := by rw [hs.len]; exact ht
    have f1 := List.getElem?_eq_getElem htl
    have few := (hs.tab t _ _ e1 f1).few
    have z2 := (hc.rules e1).2.1
    have := flat_len (G := brR s t (rulesOf ts[t])) (b := 4) (xs := s[t]) fun r hr => Nat.le_trans brR_len z2
    rw [brT, e1, f1, Option.getD_some, Option.getD_some]
    omega
  rw [List.length_range] at this
  rw [brA]
  omega
abbrev abB : Ss := (.cons (.asg (.name 2) (.bin .Add (.var 2) (.new (.comp [5, 6] (.tup (.cons (.var 3) (.cons (.idx (.var 4) (.const (.int 0))) (.cons (.var 5) .nil)))) (.two (.name 5) (.name 6)) (.enum (.idx (.idx (.var 0) (.var 3)) (.const (.int 1)))) (.is (.call 101 (.cons (.var 1) (.cons (.var 3) (.cons (.var 4) (.cons (.var 6) .nil)))))))))) .nil)
theorem all_broken_ok (hc : SchOk ts) (hs : SOk ts s) : cl (n + 10) 102 [schD ts, stD s] = M.ret (.lst ((brA ts s).map triD)) := by
  have hf := hs.f
  have h4 := hc.few
  refine cl_ret (F := F__law_all_broken) rfl rfl fun L => ?_
  show exSs _ [some (schD ts), some (stD s), none, none, none, none, none] (.cons (.asg (.name 2) (.new (.lst .nil))) (.cons (.for (.name 3) (.rng1 (.blt .len (.var 0))) (.cons (.for (.name 4) (.val (.idx (.var 1) (.var 3))) abB) .nil)) (.cons (.ret (.var 2)) .nil))) = _
  refine (sqM (asg_ev (new_ev rfl))).trans ?_
  show exSs _ (abE ts s [] none none none none) (.cons (.for (.name 3) (.rng1 (.blt .len (.var 0))) (.cons (.for (.name 4) (.val (.idx (.var 1) (.var 3))) abB) .nil)) (.cons (.ret (.var 2)) .nil)) = _
  obtain ⟨ρ', e, a, b, c, d, rfl⟩ := for_acc (C := fr (n + 9) L) (ρ := abE ts s [] none none none none) (tg := .name 3) (it := .rng1 (.blt .len (.var 0))) (enc := encI) (xs := List.range ts.length) (b := .cons (.for (.name 4) (.val (.idx (.var 1) (.var 3))) abB) .nil) (G := brT ts s) (acc := []) (N := 960) (fun xs ρ => ∃ a b c d, ρ = abE ts s xs a b c d) (rng_len h4 rfl) ⟨none, none, none, none, rfl⟩ (by rw [List.nil_append]; exact brA_len hc hs) (fun x hx xs ρ hN h => by
      have hi := List.mem_range.mp hx
      obtain ⟨a, b, c, d, rfl⟩ := h
      have e1 := List.getElem?_eq_getElem hi
      generalize hq : ts[x] = tb at e1
      obtain ⟨z1, z2, z3⟩ := hc.rules e1
      have hjs : x < s.length := by rw [hs.len]; exact hi
      have f1 := List.getElem?_eq_getElem hjs
      generalize hq2 : s[x] = rs at f1
      have ok := hs.tab x tb rs e1 f1
      have ix := tabs_ix hc e1
      have hG : brT ts s x = rs.flatMap (brR s x (rulesOf tb)) := by rw [brT, e1, f1]; rfl
      rw [hG] at hN ⊢
      show ∃ ρ', exSs (fr (n + 9) L) (abE ts s xs (some (.int (x : Nat))) b c d) _ = M.ret (.next ρ') ∧ _
      refine one_go ?_
      obtain ⟨ρ', e2, b', c', d', rfl⟩ := for_acc (C := fr (n + 9) L) (ρ := abE ts s xs (some (.int (x : Nat))) b c d) (tg := .name 4) (it := .val (.idx (.var 1) (.var 3))) (enc := rowD) (xs := rs) (b := abB) (G := brR s x (rulesOf tb)) (acc := xs) (N := 960) (fun xs ρ => ∃ b c d, ρ = abE ts s xs (some (.int (x : Nat))) b c d) (by simp [st_ix f1]) ⟨b, c, d, rfl⟩ hN (fun r hr xs ρ hN h => by
        obtain ⟨b, c, d, rfl⟩ := h
        have hr := ok.row r hr
        show ∃ ρ', exSs (fr (n + 9) L) (abE ts s xs (some (.int (x : Nat))) (some (rowD r)) c d) _ = M.ret (.next ρ') ∧ _
        have cm : evN (fr (n + 9) L) (abE ts s xs (some (.int (x : Nat))) (some (rowD r)) c d) (.comp [5, 6] (.tup (.cons (.var 3) (.cons (.idx (.var 4) (.const (.int 0))) (.cons (.var 5) .nil)))) (.two (.name 5) (.name 6)) (.enum (.idx (.idx (.var 0) (.var 3)) (.const (.int 1)))) (.is (.call 101 (.cons (.var 1) (.cons (.var 3) (.cons (.var 4) (.cons (.var 6) .nil))))))) = M.ret (((List.range (rulesOf tb).length).filter fun at' => brk s x r ((rulesOf tb)[at']?.getD .non)).map fun at' => triD (x, r.1, at')) := by
          refine comp_tfilter (enc := encN (rulesOf tb)) ?_ (fun at' ha => ?_) (okz_lt (by rw [List.length_range]; omega))
          · rw [← numUp0]; simp [ix, seqOf]
          · have ha : at' < (rulesOf tb).length := List.mem_range.mp ha
            have g1 := List.getElem?_eq_getElem ha
            have hu := z3 _ (List.getElem_mem ha)
            generalize hq3 : (rulesOf tb)[at'] = rule at g1 hu
            rw [encN_at g1, g1]
            have bk := (breaks_ok (n := n) hf e1 hr hu).2
            have k0 := key_ix r
            have vr : ∀ st, view st (rowD r) = rowD r := fun st => rfl
            cases hb : brk s x r rule <;> rw [hb] at bk <;> simp [turnN, bk, k0, vr, okSize, triD, hb]
        have hm : (((List.range (rulesOf tb).length).filter fun at' => brk s x r ((rulesOf tb)[at']?.getD .non)).map fun at' => triD (x, r.1, at')) = (brR s x (rulesOf tb) r).map triD := by
          rw [brR, List.map_map]; rfl
        rw [hm] at cm
        have add : binD .Add (.lst (xs.map triD)) (.lst ((brR s x (rulesOf tb) r).map triD)) = some (.lst ((xs ++ brR s x (rulesOf tb) r).map triD)) := by
          have hz : okSize ((xs.map triD).length + ((brR s x (rulesOf tb) r).map triD).length) = true := okz_lt (by rw [List.length_map, List.length_map]; rw [List.length_append] at hN; omega)
          simp only [binD, hz, if_true, List.map_append]
        have ev : evE (fr (n + 9) L) (abE ts s xs (some (.int (x : Nat))) (some (rowD r)) c d) (.bin .Add (.var 2) (.new (.comp [5, 6] (.tup (.cons (.var 3) (.cons (.idx (.var 4) (.const (.int 0))) (.cons (.var 5) .nil)))) (.two (.name 5) (.name 6)) (.enum (.idx (.idx (.var 0) (.var 3)) (.const (.int 1)))) (.is (.call 101 (.cons (.var 1) (.cons (.var 3) (.cons (.var 4) (.cons (.var 6) .nil))))))))) = M.ret (.lst ((xs ++ brR s x (rulesOf tb) r).map triD)) := by
          rw [evE, new_ev cm, evE, g_some (d := .lst (xs.map triD)) rfl, s_ret, s_ret]
          funext st
          rw [v_lst, v_lst, add]; rfl
        exact ⟨_, (sqM (asg_ev ev)).trans rfl, _, _, _, rfl⟩)
      exact ⟨_, e2, _, _, _, _, rfl⟩)
  exact (sqM e).trans (sqR rfl)
end
end K22
set_option linter.all false
set_option maxRecDepth 100000
set_option maxHeartbeats 4000000
namespace K22
open Ev PySem
/-! ### _law_kept_state -/
def twoD (x : Nat × Int × Nat) : D := plcD x.1 x.2.1
def keepS (s : St) (p : Nat → TR → Bool) : St := (List.range s.length).map fun i => ((s[i]?).getD []).filter (p i)
theorem keep_ok {ts : List Tab} {s : St} (hs : SOk ts s) (p : Nat → TR → Bool) : SOk ts (keepS s p) := by
  refine ⟨by rw [keepS, List.length_map, List.length_range]; exact hs.len, fun i t rs h1 h2 => ?_⟩
  rw [keepS, List.getElem?_map] at h2
  obtain ⟨j, hj, rfl⟩ := Option.map_eq_some_iff.mp h2
  obtain ⟨hi, e⟩ := List.getElem?_eq_some_iff.mp hj
  rw [List.length_range] at hi
  have e : j = i := by rw [← e]; simp
  subst e
  have f1 := List.getElem?_eq_getElem hi
  rw [f1, Option.getD_some]
  have ok := hs.tab j t _ h1 f1
  exact ⟨fun r hr => ok.row r (List.mem_filter.mp hr).1, asc_sub List.filter_sublist ok.asc, Nat.le_trans (List.length_filter_le _ _) ok.few⟩
section
variable {n L l : Nat} {ts : List Tab} {m : Int}
abbrev ksE (l : Nat) (ts : List Tab) (m : Int) (s : St) (a b : Option D) : Ev.Env := [some (.ref l), some (schD ts), some (.int m), some (stD s), a, b, none, none, none, none]
abbrev goneN : N := (.comp [6] (.slc (.var 6) .no (.is (.const (.int 2)))) (.name 6) (.val (.call 102 (.cons (.var 1) (.cons (.var 3) .nil)))) .no)
abbrev inN : N := (.comp [9] (.var 9) (.name 9) (.val (.var 8)) (.is (.cmp .NotIn (.tup (.cons (.var 7) (.cons (.idx (.var 9) (.const (.int 0))) .nil))) (.var 5))))
abbrev keepN : N := (.comp [7, 8] (.blt .tuple (.new inN)) (.two (.name 7) (.name 8)) (.enum (.var 3)) .no)
abbrev ksB : Ss := (.cons (.asg (.name 5) (.new goneN)) (.cons (.asg (.name 3) (.blt .tuple (.new keepN))) .nil))
theorem kept_turn (hc : SchOk ts) {s : St} (hs : SOk ts s) (a b : Option D) : ∃ s', exSs (fr (n + 10) L) (ksE l ts m s a b) ksB = M.ret (.next (ksE l ts m s' a (some (.lst ((brA ts s).map twoD))))) ∧ SOk ts s' := by
  have ab := all_broken_ok (n := n) hc hs
  have hl := brA_len hc hs
  have h4 : s.length ≤ 4 := by rw [hs.len]; exact hc.few
  generalize brA ts s = xs at ab hl ⊢
  have c1 : evN (fr (n + 10) L) (ksE l ts m s a b) goneN = M.ret (xs.map twoD) :=
    comp_tmap (enc := triD) (rs := xs) (by simp [ab]) (fun x hx => by simp [turnN, triD, twoD, plcD, slcD, cutL, cutAt]) (okz_lt (by omega))
  have nbx : D.nbs (xs.map twoD) = true := nbs_of fun x hx => by
    obtain ⟨y, _, rfl⟩ := List.mem_map.mp hx
    rfl
  have c2 : evN (fr (n + 10) L) (ksE l ts m s a (some (.lst (xs.map twoD)))) keepN = M.ret ((List.range s.length).map fun i => rowsT (((s[i]?).getD []).filter fun r => !memB (plcD i r.1) (xs.map twoD))) := by
    refine comp_tmap (enc := encN (s.map rowsT)) (rs := List.range s.length) ?_ (fun i hi => ?_) (okz_lt (by rw [List.length_range]; omega))
    · have := numUp0 (s.map rowsT)
      rw [List.length_map] at this
      rw [← this]
      simp [seqOf]
    · have hi := List.mem_range.mp hi
      have f1 := List.getElem?_eq_getElem hi
      have hit : i < ts.length := by rw [← hs.len]; exact hi
      have ok := hs.tab i _ _ (List.getElem?_eq_getElem hit) f1
      generalize hq : s[i] = rs at f1 ok
      rw [encN_at (d := rowsT rs) (by rw [List.getElem?_map, f1]; rfl), f1, Option.getD_some]
      have few := ok.few
      have c3 : evN (fr (n + 10) L) [some (.ref l), some (schD ts), some (.int m), some (stD s), a, some (.lst (xs.map twoD)), none, some (.int (i : Nat)), some (rowsT rs), none] inN = M.ret ((rs.filter fun r => !memB (plcD i r.1) (xs.map twoD)).map rowD) := by
        refine comp_tfilter (enc := rowD) (rs := rs) (by simp) (fun r hr => ?_) (okz_lt (by omega))
        have k0 := key_ix r
        have vr : ∀ st, view st (rowD r) = rowD r := fun st => rfl
        have q : inL (.tup [.int (i : Nat), .int r.1]) (xs.map twoD) = some (memB (plcD i r.1) (xs.map twoD)) := inL_nb (x := plcD i r.1) (ys := xs.map twoD) rfl nbx (Nat.le_add_left _ _)
        cases hm : memB (plcD i r.1) (xs.map twoD) <;> rw [hm] at q <;> simp [turnN, k0, vr, q, okSize, hm]
      have e3 : evE (fr (n + 10) L) [some (.ref l), some (schD ts), some (.int m), some (stD s), a, some (.lst (xs.map twoD)), none, some (.int (i : Nat)), some (rowsT rs), none] (.blt .tuple (.new inN)) = M.ret (rowsT (rs.filter fun r => !memB (plcD i r.1) (xs.map twoD))) := by
        rw [evE, new_ev c3, s_ret]
        rfl
      show M.thn (evC (fr (n + 10) L) [some (.ref l), some (schD ts), some (.int m), some (stD s), a, some (.lst (xs.map twoD)), none, some (.int (i : Nat)), some (rowsT rs), none] .no) (fun k => if k then M.thn (evE (fr (n + 10) L) [some (.ref l), some (schD ts), some (.int m), some (stD s), a, some (.lst (xs.map twoD)), none, some (.int (i : Nat)), some (rowsT rs), none] (.blt .tuple (.new inN))) fun y => M.ret [y] else M.ret []) = _
      rw [e3]
      rfl
  refine ⟨keepS s fun i r => !memB (plcD i r.1) (xs.map twoD), (sqM (asg_ev (new_ev c1))).trans ((sqM (asg_ev (d := stD (keepS s fun i r => !memB (plcD i r.1) (xs.map twoD))) ?_)).trans rfl), keep_ok hs _⟩
  show evE (fr (n + 10) L) (ksE l ts m s a (some (.lst (xs.map twoD)))) _ = _
  rw [evE, new_ev c2, s_ret]
  show M.ret (D.tup _) = _
  rw [stD, keepS, List.map_map]
  rfl
theorem wp_kept {n l : Nat} {ts : List Tab} {m : Int} {st : Store} (hc : SchOk ts) (h : Cup st l) (hm : 0 ≤ m ∧ m ≤ 8) : Wp l (cl (n + 11) 103 [.ref l, schD ts, .int m]) (fun d => ∃ s, d = stD s ∧ SOk ts s) st := by
  refine wps_def (F := F__law_kept_state) rfl rfl ?_
  have hlt := h.lt
  show WpS l st.length (exSs (fr (n + 10) st.length) [some (.ref l), some (schD ts), some (.int m), none, none, none, none, none, none, none] (.cons (.asg (.name 3) (.call 98 (.cons (.var 0) (.cons (.var 1) (.cons (.var 2) .nil))))) (.cons (.for (.name 4) (.rng1 (.bin .Add (.bin .Mult (.const (.int 3)) (.var 2)) (.const (.int 3)))) ksB) (.cons (.ret (.var 3)) .nil)))) _ st
  generalize hL : st.length = L
  have hlL : l < L := by omega
  refine wps_seq (P := fun fl st' => ∃ s a b, fl = .next (ksE l ts m s a b) ∧ SOk ts s) ?_ fun fl st1 h1 hL1 hp => ?_
  · refine (wps_asg hlL (by omega) (P := fun d => ∃ s, d = stD s ∧ SOk ts s) ?_).mono fun fl st' hp => ?_
    · simp
      exact wp_law_rows (n := n + 5) hc h hm
    · obtain ⟨hl, d, rfl, s, rfl, h2⟩ := hp
      exact ⟨s, none, none, rfl, h2⟩
  obtain ⟨s, a, b, rfl, hs⟩ := hp
  show WpS l L (exSs (fr (n + 10) L) (ksE l ts m s a b) (.cons (.for (.name 4) (.rng1 (.bin .Add (.bin .Mult (.const (.int 3)) (.var 2)) (.const (.int 3)))) ksB) (.cons (.ret (.var 3)) .nil))) _ st1
  refine wps_seq (P := fun fl st' => ∃ s a b, fl = .next (ksE l ts m s a b) ∧ SOk ts s) ?_ fun fl st2 h2 hL2 hp => ?_
  · have it : ∃ vs, evIt (fr (n + 10) L) (ksE l ts m s a b) (.rng1 (.bin .Add (.bin .Mult (.const (.int 3)) (.var 2)) (.const (.int 3)))) = M.ret vs := by
      have hb : -(2 ^ 62) ≤ 3 * m + 3 ∧ 3 * m + 3 < 2 ^ 62 := by omega
      have okr : okRng (3 * m + 3) = true := decide_eq_true hb
      have s3 : smallI 3 = true := by decide
      refine ⟨rngUp 0 (3 * m + 3).toNat, ?_⟩
      simp [binD, s3, okr]
    obtain ⟨vs, it⟩ := it
    rw [exS, it, s_ret]
    have w := wps_for (l := l) (L := L) (vs := vs) (k := 0) (fun _ ρ _ => ∃ s a b, ρ = ksE l ts m s a b ∧ SOk ts s) (f := fun x ρ => match setTg (.name 4) x ρ with
      | some ρ => exSs (fr (n + 10) L) ρ ksB
      | none => M.bad) (fun i v hv ρ' st' h' hL' hI' => by
        obtain ⟨s, a, b, rfl, hs⟩ := hI'
        obtain ⟨s', e, hs'⟩ := kept_turn (n := n) (L := L) (l := l) (m := m) hc hs (some v) b
        show WpS l L (exSs (fr (n + 10) L) (ksE l ts m s (some v) b) ksB) _ st'
        rw [e]
        exact wps_ret h' hlL hL' ⟨_, rfl, s', _, _, rfl, hs'⟩) h1 hlL hL1 ⟨s, a, b, rfl, hs⟩
    exact w.mono fun fl st' hp => by
      obtain ⟨ρ', rfl, s, a, b, rfl, hs⟩ := hp
      exact ⟨s, a, b, rfl, hs⟩
  obtain ⟨s, a, b, rfl, hs⟩ := hp
  exact ⟨.ret (stD s), st2, rfl, .refl h2 hlL hL2, stD s, rfl, hs.plain, s, rfl, hs⟩
end
end K22
set_option linter.all false
set_option maxRecDepth 100000
set_option maxHeartbeats 4000000
namespace K22
open Ev PySem
theorem wp_seqN {C : Cfg} {ρ : Ev.Env} {s : Ev.S} {ss : Ss} {l : Nat} {P Q : Ev.Flow → Prop} {st : Store} (h : Wp l (exS C ρ s) P st) (k : ∀ fl st', Cup st' l → st'.length = st.length → P fl → Wp l (flowK (fun ρ => exSs C ρ ss) fl) Q st') : Wp l (exSs C ρ (.cons s ss)) Q st := by
  rw [show exSs C ρ (.cons s ss) = M.thn (exS C ρ s) (flowK fun ρ => exSs C ρ ss) from congrFun (cons_eq C s ss) ρ]
  exact wp_thnN h k
/-- a loop whose turns draw and go on -/
theorem wp_for {l N : Nat} {f : D → Ev.Env → M Ev.Flow} (I : Ev.Env → Prop) : ∀ {vs : List D}, (∀ (i : Nat) v, vs[i]? = some v → ∀ ρ st, Cup st l → st.length = N → I ρ → Wp l (f v ρ) (fun fl => ∃ ρ', fl = .next ρ' ∧ I ρ') st) →
    ∀ {ρ : Ev.Env} {st : Store}, Cup st l → st.length = N → I ρ → Wp l (forL f vs ρ) (fun fl => ∃ ρ', fl = .next ρ' ∧ I ρ') st
  | [], _, ρ, st, h, hN, h0 => wp_ret h ⟨ρ, rfl, h0⟩
  | v :: vs, hs, ρ, st, h, hN, h0 => by
    rw [forL]
    refine wp_thnN (hs 0 v rfl ρ st h hN h0) fun fl st' h' hN' hp => ?_
    obtain ⟨ρ', rfl, h1⟩ := hp
    exact wp_for I (vs := vs) (fun i w hw => hs (i + 1) w (by simpa using hw)) h' (by omega) h1
theorem cup_ok {n : Nat} (ns : List Int) (hn : ns.length ≤ 63) : ∃ a c : Int, cl (n + 1) 29 [.lst (ns.map .int)] [] = .ok (.ref 0) [.lst [.int a, .int c]] ∧ 0 ≤ a ∧ 0 ≤ c ∧ c < 1099511627776 := by
  have hx : ∃ x : Int, idxD (.lst (ns.map D.int ++ [.int 0])) (.int 0) = some (.int x) := by
    cases ns with
    | nil => exact ⟨0, rfl⟩
    | cons x ns => exact ⟨x, by simp [idxD, ixAt]⟩
  obtain ⟨x, hx⟩ := hx
  have z : okSize ((ns.map D.int).length + 1) = true := by simp [okSize]; omega
  have habs : ∃ y : Int, bltD .abs (.int x) = some (.int y) ∧ 0 ≤ y := by
    refine ⟨if x < 0 then -x else x, rfl, ?_⟩
    split <;> omega
  obtain ⟨y, hy, hy0⟩ := habs
  have m1 : smallI 347 = true := by decide
  have e1 : exS (fr n 0) [some (.lst (ns.map .int)), none] (.asg (.name 1) (.blt .abs (.idx (.bin .Add (.new (.listOf (.var 0))) (.new (.lst (.cons (.const (.int 0)) .nil)))) (.const (.int 0))))) = M.ret (.next [some (.lst (ns.map .int)), some (.int y)]) := by
    have e0 : binD .Add (.lst (ns.map D.int)) (.lst [.int 0]) = some (.lst (ns.map D.int ++ [.int 0])) := by
      simp only [binD, List.length_singleton, z, if_true]
    simp [seqOf, e0, hx, hy, okSize]
  have p18 : binD .Pow (.int 10) (.int 18) = some (.int 1000000000000000000) := by simp [binD]
  have hz : ∃ a : Int, 0 ≤ a ∧ evE (fr n 0) [some (.lst (ns.map .int)), some (.int y)] (.ite (.cmp .GtE (.var 1) (.bin .Pow (.const (.int 10)) (.const (.int 18)))) (.bin .FloorDiv (.var 1) (.const (.int 109))) (.const (.int 0))) = M.ret (.int a) := by
    by_cases hy1 : 1000000000000000000 ≤ y
    · exact ⟨y / 109, by omega, by simp [p18, cmpD, leD, hy1, binD]⟩
    · exact ⟨0, by omega, by simp [p18, cmpD, leD, hy1]⟩
  obtain ⟨a, ha, e2⟩ := hz
  have e3 : evE (fr n 0) [some (.lst (ns.map .int)), some (.int y)] (.bin .Add (.bin .Mod (.blt .int (.bin .Add (.bin .Mult (.var 1) (.const (.int 347))) (.const (.int 3701)))) (.const (.int 2077503017))) (.const (.int 223))) = M.ret (.int ((y * 347 + 3701) % 2077503017 + 223)) := by
    simp [binD, m1, bltD]
  have b0 : 0 ≤ (y * 347 + 3701) % 2077503017 := Int.emod_nonneg _ (by omega)
  have b1 : (y * 347 + 3701) % 2077503017 < 2077503017 := Int.emod_lt_of_pos _ (by omega)
  refine ⟨a, (y * 347 + 3701) % 2077503017 + 223, ?_, ha, by omega, by omega⟩
  rw [cl_run (F := F__law_cup) rfl _ _ rfl]
  show fin 0 (exSs (fr n 0) [some (.lst (ns.map .int)), none] F__law_cup.body []) = _
  rw [F__law_cup, exSs, e1, s_ret]
  show fin 0 (exSs (fr n 0) [some (.lst (ns.map .int)), some (.int y)] (.cons (.ret (.newm (.lst (.cons (.ite (.cmp .GtE (.var 1) (.bin .Pow (.const (.int 10)) (.const (.int 18)))) (.bin .FloorDiv (.var 1) (.const (.int 109))) (.const (.int 0))) (.cons (.bin .Add (.bin .Mod (.blt .int (.bin .Add (.bin .Mult (.var 1) (.const (.int 347))) (.const (.int 3701)))) (.const (.int 2077503017))) (.const (.int 223))) .nil))))) .nil) []) = _
  have e4 : evE (fr n 0) [some (.lst (ns.map .int)), some (.int y)] (.newm (.lst (.cons (.ite (.cmp .GtE (.var 1) (.bin .Pow (.const (.int 10)) (.const (.int 18)))) (.bin .FloorDiv (.var 1) (.const (.int 109))) (.const (.int 0))) (.cons (.bin .Add (.bin .Mod (.blt .int (.bin .Add (.bin .Mult (.var 1) (.const (.int 347))) (.const (.int 3701)))) (.const (.int 2077503017))) (.const (.int 223))) .nil)))) = Ev.alloc (.lst [.int a, .int ((y * 347 + 3701) % 2077503017 + 223)]) := by
    rw [evE, evN, evEs, evEs, evEs, e2, e3]
    simp [okSize]
  rw [exSs, exS, e4]
  rfl
def dropS : Nat → Ss → Ss
  | 0, s => s
  | n + 1, .cons _ r => dropS n r
  | _, .nil => .nil
def isT : Res Ev.Flow → Bool
  | .ok (.ret (.bl true)) _ => true
  | _ => false
theorem isT_ok {r : Res Ev.Flow} (h : isT r = true) : ∃ st, r = .ok (.ret (.bl true)) st := by
  unfold isT at h
  split at h
  · exact ⟨_, rfl⟩
  · cases h
theorem cup_one {st : Store} (h : Cup st 0) (hN : st.length = 1) : ∃ a c : Int, st = [.lst [.int a, .int c]] := by
  obtain ⟨a, c, h1, _⟩ := h
  match st, hN with
  | [x], _ =>
    simp at h1
    exact ⟨a, c, by rw [h1]⟩
/-! ### one turn -/
section
variable {C : Cfg} {ρ : Ev.Env} {st : Store}
theorem call3_at {f i j k : Nat} {x y z d : D} (hi : ρ[i]? = some (some x)) (hj : ρ[j]? = some (some y)) (hk : ρ[k]? = some (some z)) (h : C.call f [x, y, z] st = .ok d st) : evE C ρ (.call f (.cons (.var i) (.cons (.var j) (.cons (.var k) .nil)))) st = .ok d st := by
  rw [evE, evEs, evE, g_some hi, s_ret, evEs, evE, g_some hj, s_ret, evEs, evE, g_some hk, s_ret, evEs]
  exact h
theorem callx_at {f : Nat} {a b : E} {x y d : D} (h1 : evE C ρ a st = .ok x st) (h2 : evE C ρ b st = .ok y st) (h : C.call f [x, y] st = .ok d st) : evE C ρ (.call f (.cons a (.cons b .nil))) st = .ok d st := by
  rw [evE, evEs, evEs, evEs]
  rw [s_assoc, s_ok h1, s_assoc]
  simp only [s_assoc, s_ret]
  rw [s_ok h2]
  exact h
theorem not_at {a : E} {k : Bool} (h : evE C ρ a st = .ok (.bl k) st) : evE C ρ (.not a) st = .ok (.bl (!k)) st := by
  rw [evE, s_assoc, s_ok h]; rfl
theorem or_ff {a b : E} (h1 : evE C ρ a st = .ok (.bl false) st) (h2 : evE C ρ b st = .ok (.bl false) st) : evE C ρ (.or a b) st = .ok (.bl false) st := by
  rw [evE, s_assoc, s_ok h1]
  show M.thn (M.thn (evE C ρ b) asB) _ st = _
  rw [s_assoc, s_ok h2]; rfl
theorem iff_at {c : E} {a b : Ss} (h : evE C ρ c st = .ok (.bl false) st) : exS C ρ (.iff c a b) st = exSs C ρ b st := by
  rw [exS, s_assoc, s_ok h]; rfl
theorem pure_at {e : E} {d : D} (h : evE C ρ e = M.ret d) : evE C ρ e st = .ok d st := by rw [h]; rfl
end
theorem wp_asg {C : Cfg} {ρ : Ev.Env} {e : E} {i l : Nat} {st : Store} {P : D → Prop} (h : Wp l (evE C ρ e) P st) : Wp l (exS C ρ (.asg (.name i) e)) (fun fl => ∃ d, fl = .next (ρ.set i (some d)) ∧ P d) st := by
  obtain ⟨d, st1, e, dr, p⟩ := h
  refine ⟨.next (ρ.set i (some d)), st1, ?_, dr, d, rfl, p⟩
  rw [exS, s_ok e]
  rfl
end K22
set_option linter.all false
set_option maxRecDepth 100000
set_option maxHeartbeats 4000000
namespace K22
open Ev PySem
/-! ### rows that are written: the first rule that one breaks -/
def headD : D → D
  | .tup (x :: _) => x
  | _ => .non
theorem rule_head {cols : List D} {m : Nat} {r : D} (h : Rule cols m r) : idxD r (.int 0) = some (headD r) ∧ ∀ st, view st r = r := by
  cases h <;> exact ⟨rfl, fun _ => rfl⟩
noncomputable def brkG (s : St) (t : Nat) (rules : List D) (r : TR) (i : Nat) : Option D := if brk s t r ((rules[i]?).getD .non) then some (.tup [S "refused", headD ((rules[i]?).getD .non), .int (t : Nat), .int r.1, .int (i : Nat)]) else none
noncomputable def brkL (s : St) (t : Nat) (rules : List D) (r : TR) : Option D := (List.range rules.length).findSome? (brkG s t rules r)
noncomputable def brkF (ts : List Tab) (s : St) (t : Nat) (xs : List TR) : Option D := (srtR xs).findSome? (brkL s t (rulesOf ((ts[t]?).getD ([], .non))))
theorem lp_brk {C : Cfg} {ρ : Ev.Env} {a i t : Nat} {ts : List Tab} {tb : Tab} {s : St} {r : TR} {ce re : E} {w : D → D} {I : Ev.Env → Prop} {it : It}
    (hit' : evIt C ρ it = M.ret (numUp 0 (rulesOf tb))) (hu : ∀ x ∈ rulesOf tb, Rule tb.1 ts.length x) (h0 : I ρ)
    (stay : ∀ x y ρ, I ρ → Rule tb.1 ts.length y → ∃ ρ', setTg (.two (.name a) (.name i)) (.tup [x, y]) ρ = some ρ' ∧ I ρ' ∧ evE C ρ' ce = M.ret (.bl (brk s t r y)) ∧ ∀ at' : Nat, x = .int (at' : Nat) → evE C ρ' re = M.ret (w (.tup [S "refused", headD y, .int (t : Nat), .int r.1, .int (at' : Nat)]))) :
    Lp w I (brkL s t (rulesOf tb) r) (exS C ρ (.for (.two (.name a) (.name i)) it (.cons (.iff ce (.cons (.ret re) .nil) .nil) .nil))) := by
  rw [numUp0] at hit'
  refine Lp.for hit' h0 fun at' ha ρ h => ?_
  have ha : at' < (rulesOf tb).length := List.mem_range.mp ha
  have e1 := List.getElem?_eq_getElem ha
  have hx := hu _ (List.getElem_mem ha)
  generalize hq : (rulesOf tb)[at'] = rule at e1 hx
  obtain ⟨ρ', e, h', c, q5⟩ := stay (.int (at' : Nat)) rule ρ h hx
  rw [encN_at e1, e]
  have hg : brkG s t (rulesOf tb) r at' = if brk s t r rule then some (.tup [S "refused", headD rule, .int (t : Nat), .int r.1, .int (at' : Nat)]) else none := by rw [brkG, e1]; rfl
  rw [hg]
  refine Lp.one ?_
  cases hh : brk s t r rule with
  | true => rw [hh] at c; exact if_t c (sqR (ret_ev (q5 at' rfl)))
  | false => rw [hh] at c; exact ⟨ρ', if_f c rfl, h'⟩
theorem call4_ev {C : Cfg} {ρ : Ev.Env} {f i j k l : Nat} {x y z u d : D} (hi : ρ[i]? = some (some x)) (hj : ρ[j]? = some (some y)) (hk : ρ[k]? = some (some z)) (hl : ρ[l]? = some (some u)) (h : C.call f [x, y, z, u] = M.ret d) : evE C ρ (.call f (.cons (.var i) (.cons (.var j) (.cons (.var k) (.cons (.var l) .nil))))) = M.ret d := by
  rw [evE, evEs, evE, g_some hi, s_ret, evEs, evE, g_some hj, s_ret, evEs, evE, g_some hk, s_ret, evEs, evE, g_some hl, s_ret, evEs]
  exact h
section
variable {n L t : Nat} {ts : List Tab} {s : St} {tb : Tab} {xs : List TR}
theorem first_broken_ok {v : D} (hc : SchOk ts) (hs : FOk ts s) (ht : ts[t]? = some tb) (hx : ∀ x ∈ xs, ROk tb.1 x) (hv : srtkD 0 v = some (.lst ((srtR xs).map rowD))) (vv : ∀ st, view st v = v) :
    cl (n + 10) 88 [schD ts, stD s, .int (t : Nat), v] = M.ret ((brkF ts s t xs).getD .non) := by
  have ix := tabs_ix hc ht
  obtain ⟨z1, z2, z3⟩ := hc.rules ht
  refine cl_ret (F := F_first_broken) rfl rfl fun L => ?_
  show exSs _ [some (schD ts), some (stD s), some (.int (t : Nat)), some v, none, none, none] _ = _
  have lp := Lp.for (C := fr (n + 9) L) (ρ := [some (schD ts), some (stD s), some (.int (t : Nat)), some v, none, none, none]) (I := fun ρ => ∃ a b c, ρ = [some (schD ts), some (stD s), some (.int (t : Nat)), some v, a, b, c]) (w := fun d => d) (g := brkL s t (rulesOf tb)) (tg := .name 4) (it := .val (.srtk (.var 3) 0)) (enc := rowD) (xs := srtR xs) (b := (.cons (.for (.two (.name 5) (.name 6)) (.enum (.idx (.idx (.var 0) (.var 2)) (.const (.int 1)))) (.cons (.iff (.call 87 (.cons (.var 1) (.cons (.var 2) (.cons (.var 4) (.cons (.var 6) .nil))))) (.cons (.ret (.tup (.cons (.const (.str "refused")) (.cons (.idx (.var 6) (.const (.int 0))) (.cons (.var 2) (.cons (.idx (.var 4) (.const (.int 0))) (.cons (.var 5) .nil))))))) .nil) .nil) .nil)) .nil)) (by simp [vv, hv]) ⟨_, _, _, rfl⟩ (fun r hr ρ h => by
    obtain ⟨a, b, c, rfl⟩ := h
    have hr := hx r (srtR_mem hr)
    show Lp _ _ _ (exSs (fr (n + 9) L) [some (schD ts), some (stD s), some (.int (t : Nat)), some v, some (rowD r), b, c] _)
    refine Lp.one ?_
    refine Lp.mono (I := fun ρ => ∃ b c, ρ = [some (schD ts), some (stD s), some (.int (t : Nat)), some v, some (rowD r), b, c]) (lp_brk (ts := ts) (by simp [ix, seqOf]) z3 ⟨_, _, rfl⟩ fun x y ρ h hy => ?_) (fun ρ h => by obtain ⟨b, c, rfl⟩ := h; exact ⟨_, _, _, rfl⟩)
    obtain ⟨b, c, rfl⟩ := h
    obtain ⟨y0, yv⟩ := rule_head hy
    refine ⟨[some (schD ts), some (stD s), some (.int (t : Nat)), some v, some (rowD r), some x, some y], rfl, ⟨_, _, rfl⟩, call4_ev rfl rfl rfl rfl (breaks_ok hs ht hr hy).1, fun at' hx => ?_⟩
    subst hx
    have vr : ∀ st, view st (rowD r) = rowD r := fun st => rfl
    have k0 := key_ix r
    simp [vr, k0, okSize, y0, yv])
  have hf : (srtR xs).findSome? (brkL s t (rulesOf tb)) = brkF ts s t xs := by rw [brkF, ht]; rfl
  rw [hf] at lp
  cases hb : brkF ts s t xs with
  | some d => rw [hb] at lp; exact sqR lp
  | none =>
    rw [hb] at lp
    obtain ⟨ρ', e, a, b, c, rfl⟩ := lp
    exact (sqM e).trans (sqR (by simp))
theorem brkF_tup {d : D} (h : brkF ts s t xs = some d) : isNon d = false ∧ ∀ st, view st d = d := by
  obtain ⟨r, _, h⟩ := List.exists_of_findSome?_eq_some h
  obtain ⟨i, _, h⟩ := List.exists_of_findSome?_eq_some h
  rw [brkG] at h
  split at h
  · cases h; exact ⟨rfl, fun _ => rfl⟩
  · cases h
/-- a key tells a row -/
theorem filter_key : ∀ {T : List TR}, (keysI T).Nodup → ∀ {r : TR}, r ∈ T → T.filter (fun x => decide (x.1 = r.1)) = [r]
  | y :: T, h, r, hr => by
    obtain ⟨h1, h2⟩ := List.nodup_cons.mp (show (y.1 :: keysI T).Nodup from h)
    rw [List.filter_cons]
    rcases List.mem_cons.mp hr with e | hr
    · subst e
      rw [if_pos (by simp)]
      congr 1
      rw [List.filter_eq_nil_iff]
      intro x hx
      have : x.1 ≠ r.1 := fun e => h1 (by rw [← e]; exact List.mem_map.mpr ⟨x, hx, rfl⟩)
      simp [this]
    · have : y.1 ≠ r.1 := fun e => h1 (by rw [e]; exact List.mem_map.mpr ⟨r, hr, rfl⟩)
      rw [if_neg (by simp [this])]
      exact filter_key h2 hr
theorem keys_srt (xs : List TR) : srtBy (fun i => i) (keysI xs) = keysI (srtR xs) := by
  rw [keysI, ← srtBy_map (k := fun i : Int => i) (fun r : TR => r.1) xs]
theorem srti_keys (xs : List TR) : srtiD (.lst (keysL xs)) = some (.lst (keysL (srtR xs))) := by
  show (allI ((keysI xs).map .int)).map _ = _
  rw [allI_ints, Option.map_some, keys_srt]
  rfl
end
end K22
set_option linter.all false
set_option maxRecDepth 100000
set_option maxHeartbeats 4000000
namespace K22
open Ev PySem
/-! ### _law_change behind rows that are written -/
noncomputable def putA (ts : List Tab) (s' : St) (t : Nat) (xs : List TR) : D := (brkF ts s' t xs).getD (doneD xs.length)
noncomputable def putB (ts : List Tab) (s s' : St) (t : Nat) (xs : List TR) : St := match brkF ts s' t xs with
  | some _ => s
  | none => s'
noncomputable def putK (ts : List Tab) (s' : St) (t : Nat) (xs : List TR) : List TR := match brkF ts s' t xs with
  | some _ => []
  | none => xs
abbrev lcX (a b c : D) (t : Nat) (xs : List TR) (md : D) (s' : St) (h i j k l m : Option D) : Ev.Env := [some a, some b, some c, some (.int (t : Nat)), some (.lst (keysL (srtR xs))), some md, some (stD s'), h, i, j, k, l, m]
section
variable {n L t : Nat} {ts : List Tab} {s s' : St} {tb : Tab} {xs : List TR} {stm : D}
theorem law_change_no {d : D} (h1 : idxD stm (.int 1) = some (.int (t : Nat))) (hv : ∀ st, view st stm = stm) (hg : cl (n + 10) 109 [schD ts, stD s, stm] = M.ret (.tup [d, .non])) : cl (n + 11) 110 [schD ts, stD s, stm] = M.ret (.tup [d, stD s, .tup []]) := by
  refine cl_ret (F := F__law_change) rfl rfl fun L => ?_
  show exSs _ [some (schD ts), some (stD s), some stm, none, none, none, none, none, none, none, none, none, none] _ = _
  have s0 : exS (fr (n + 10) L) [some (schD ts), some (stD s), some stm, none, none, none, none, none, none, none, none, none, none] (.asg (.name 3) (.idx (.var 2) (.const (.int 1)))) = M.ret (.next [some (schD ts), some (stD s), some stm, some (.int (t : Nat)), none, none, none, none, none, none, none, none, none]) := by
    simp [hv, h1]
  have s1 : exS (fr (n + 10) L) [some (schD ts), some (stD s), some stm, some (.int (t : Nat)), none, none, none, none, none, none, none, none, none] (.asg (.tg (.two (.name 5) (.name 6))) (.call 109 (.cons (.var 0) (.cons (.var 1) (.cons (.var 2) .nil))))) = M.ret (.next [some (schD ts), some (stD s), some stm, some (.int (t : Nat)), none, some d, some .non, none, none, none, none, none, none]) := by
    simp [hg]
  refine (sqM s0).trans ((sqM s1).trans (sqR (if_t (by simp) (sqR (ret_ev ?_)))))
  simp [okSize]
theorem law_change_put {w : String} (hc : SchOk ts) (ht : ts[t]? = some tb) (h0 : idxD stm (.int 0) = some (S w)) (hw : w ≠ "take") (h1 : idxD stm (.int 1) = some (.int (t : Nat))) (hv : ∀ st, view st stm = stm)
    (hs : FOk ts s') {T : List TR} (hT : s'[t]? = some T) (nd : (keysI T).Nodup) (hx : ∀ x ∈ xs, x ∈ T) (few : xs.length ≤ 200) (hg : cl (n + 10) 109 [schD ts, stD s, stm] = M.ret (.tup [.lst (xs.map rowD), stD s'])) :
    cl (n + 11) 110 [schD ts, stD s, stm] = M.ret (.tup [putA ts s' t xs, stD (putB ts s s' t xs), .tup ((keysI (srtR (putK ts s' t xs))).map (plcD t))]) := by
  obtain ⟨g1, g2⟩ := hs.tab t tb T ht hT
  have rx : ∀ x ∈ xs, ROk tb.1 x := fun x h => g1 x (hx x h)
  have ix := tabs_ix hc ht
  obtain ⟨z1, z2, z3⟩ := hc.rules ht
  generalize hms : (D.lst (xs.map rowD)) = md at hg
  refine cl_ret (F := F__law_change) rfl rfl fun L => ?_
  show exSs _ [some (schD ts), some (stD s), some stm, none, none, none, none, none, none, none, none, none, none] _ = _
  have s0 : exS (fr (n + 10) L) [some (schD ts), some (stD s), some stm, none, none, none, none, none, none, none, none, none, none] (.asg (.name 3) (.idx (.var 2) (.const (.int 1)))) = M.ret (.next [some (schD ts), some (stD s), some stm, some (.int (t : Nat)), none, none, none, none, none, none, none, none, none]) := by
    simp [hv, h1]
  have s1 : exS (fr (n + 10) L) [some (schD ts), some (stD s), some stm, some (.int (t : Nat)), none, none, none, none, none, none, none, none, none] (.asg (.tg (.two (.name 5) (.name 6))) (.call 109 (.cons (.var 0) (.cons (.var 1) (.cons (.var 2) .nil))))) = M.ret (.next [some (schD ts), some (stD s), some stm, some (.int (t : Nat)), none, some md, some (stD s'), none, none, none, none, none, none]) := by
    simp [hg]
  have hk : xs.map (fun r => D.int r.1) = keysL xs := by rw [keysL, keysI, List.map_map]; rfl
  have s3 : exS (fr (n + 10) L) [some (schD ts), some (stD s), some stm, some (.int (t : Nat)), none, some md, some (stD s'), none, none, none, none, none, none] (.asg (.name 4) (.srti (.new (.comp [9] (.idx (.var 9) (.const (.int 0))) (.name 9) (.val (.var 5)) .no)))) = M.ret (.next (lcX (schD ts) (stD s) stm t xs md s' none none none none none none)) := by
    have c : evN (fr (n + 10) L) [some (schD ts), some (stD s), some stm, some (.int (t : Nat)), none, some md, some (stD s'), none, none, none, none, none, none] (.comp [9] (.idx (.var 9) (.const (.int 0))) (.name 9) (.val (.var 5)) .no) = M.ret (xs.map fun r => .int r.1) := by
      refine comp_tmap (enc := rowD) (rs := xs) (by simp [← hms]) (fun r hr => ?_) (okz_lt (by omega))
      have k0 := key_ix r
      have vr : ∀ st, view st (rowD r) = rowD r := fun st => rfl
      simp [turnN, k0, vr, okSize]
    rw [hk] at c
    refine asg_ev ?_
    rw [evE, new_ev c, s_ret]
    funext st
    rw [v_lst, srti_keys]; rfl
  refine (sqM s0).trans ((sqM s1).trans ((sqM (if_f (by simp) rfl)).trans ((sqM s3).trans ?_)))
  have hk2 : (srtR xs).map (fun r => D.int r.1) = keysL (srtR xs) := by rw [keysL, keysI, List.map_map]; rfl
  have lp := Lp.for (C := fr (n + 10) L) (ρ := lcX (schD ts) (stD s) stm t xs md s' none none none none none none) (I := fun ρ : Ev.Env => ∃ a b c d e f, ρ = lcX (schD ts) (stD s) stm t xs md s' a b c d e f) (w := fun d => .tup [d, stD s, .tup []]) (g := brkL s' t (rulesOf tb)) (tg := .name 8) (it := .val (.var 4)) (enc := fun r : TR => D.int r.1) (xs := srtR xs) (b := (.cons (.asg (.name 9) (.idx (.new (.comp [12] (.var 12) (.name 12) (.val (.idx (.var 6) (.var 3))) (.is (.cmp .Eq (.idx (.var 12) (.const (.int 0))) (.var 8))))) (.const (.int 0)))) (.cons (.for (.two (.name 10) (.name 11)) (.enum (.idx (.idx (.var 0) (.var 3)) (.const (.int 1)))) (.cons (.iff (.call 101 (.cons (.var 6) (.cons (.var 3) (.cons (.var 9) (.cons (.var 11) .nil))))) (.cons (.ret (.tup (.cons (.tup (.cons (.const (.str "refused")) (.cons (.idx (.var 11) (.const (.int 0))) (.cons (.var 3) (.cons (.var 8) (.cons (.var 10) .nil)))))) (.cons (.var 1) (.cons (.tup .nil) .nil))))) .nil) .nil) .nil)) .nil))) (by rw [hk2]; simp) ⟨_, _, _, _, _, _, rfl⟩ (fun r hr ρ h => by
    obtain ⟨a, b, c, d, e, f, rfl⟩ := h
    have hrx := srtR_mem hr
    have hro := rx r hrx
    have hrT := hx r hrx
    show Lp _ _ _ (exSs (fr (n + 10) L) (lcX (schD ts) (stD s) stm t xs md s' a (some (.int r.1)) c d e f) _)
    have cm : evN (fr (n + 10) L) (lcX (schD ts) (stD s) stm t xs md s' a (some (.int r.1)) c d e f) (.comp [12] (.var 12) (.name 12) (.val (.idx (.var 6) (.var 3))) (.is (.cmp .Eq (.idx (.var 12) (.const (.int 0))) (.var 8)))) = M.ret ((T.filter fun x => decide (x.1 = r.1)).map rowD) := by
      refine comp_tfilter (enc := rowD) (rs := T) (by simp [st_ix hT]) (fun x hx => ?_) (okz_lt (by omega))
      have k0 := key_ix x
      have vr : ∀ st, view st (rowD x) = rowD x := fun st => rfl
      by_cases hh : x.1 = r.1
      · simp [turnN, k0, vr, okSize, hh]
      · simp [turnN, k0, vr, okSize, hh]
    rw [filter_key nd hrT] at cm
    have a9 : evE (fr (n + 10) L) (lcX (schD ts) (stD s) stm t xs md s' a (some (.int r.1)) c d e f) (.idx (.new (.comp [12] (.var 12) (.name 12) (.val (.idx (.var 6) (.var 3))) (.is (.cmp .Eq (.idx (.var 12) (.const (.int 0))) (.var 8))))) (.const (.int 0))) = M.ret (rowD r) := by
      rw [evE, new_ev cm, s_ret]
      rfl
    rw [sqM (asg_ev a9)]
    show Lp _ _ _ (exSs (fr (n + 10) L) (lcX (schD ts) (stD s) stm t xs md s' a (some (.int r.1)) (some (rowD r)) d e f) _)
    refine Lp.one ?_
    refine Lp.mono (I := fun ρ => ∃ d e, ρ = lcX (schD ts) (stD s) stm t xs md s' a (some (.int r.1)) (some (rowD r)) d e f) (lp_brk (ts := ts) (by simp [ix, seqOf]) z3 ⟨_, _, rfl⟩ fun x y ρ h hy => ?_) (fun ρ h => by obtain ⟨d, e, rfl⟩ := h; exact ⟨_, _, _, _, _, _, rfl⟩)
    obtain ⟨d, e, rfl⟩ := h
    obtain ⟨y0, yv⟩ := rule_head hy
    refine ⟨lcX (schD ts) (stD s) stm t xs md s' a (some (.int r.1)) (some (rowD r)) (some x) (some y) f, rfl, ⟨_, _, rfl⟩, call4_ev rfl rfl rfl rfl (breaks_ok (n := n + 1) hs ht hro hy).2, fun at' hx => ?_⟩
    subst hx
    simp [okSize, y0, yv])
  have hf : (srtR xs).findSome? (brkL s' t (rulesOf tb)) = brkF ts s' t xs := by rw [brkF, ht]; rfl
  rw [hf] at lp
  cases hb : brkF ts s' t xs with
  | some d =>
    rw [hb] at lp
    have e : D.tup [putA ts s' t xs, stD (putB ts s s' t xs), .tup ((keysI (srtR (putK ts s' t xs))).map (plcD t))] = .tup [d, stD s, .tup []] := by rw [putA, putB, putK, hb]; rfl
    rw [e]
    refine sqR (if_f (by simp [hv, h0, hw]) (sqR lp))
  | none =>
    rw [hb] at lp
    obtain ⟨ρ', e, a, b, c', d, e', f, rfl⟩ := lp
    have e9 : D.tup [putA ts s' t xs, stD (putB ts s s' t xs), .tup ((keysI (srtR (putK ts s' t xs))).map (plcD t))] = .tup [doneD xs.length, stD s', .tup ((keysI (srtR xs)).map (plcD t))] := by rw [putA, putB, putK, hb]; rfl
    rw [e9]
    refine (sqM (if_f (by simp [hv, h0, hw]) ((sqM e).trans rfl))).trans (sqR (ret_ev ?_))
    have ll : (keysL (srtR xs)).length = xs.length := by rw [keysL_len, len_srtBy]
    have c : evN (fr (n + 10) L) (lcX (schD ts) (stD s) stm t xs md s' a b c' d e' f) (.comp [8] (.tup (.cons (.var 3) (.cons (.var 8) .nil))) (.name 8) (.val (.var 4)) .no) = M.ret ((keysI (srtR xs)).map (plcD t)) :=
      comp_tmap (enc := D.int) (rs := keysI (srtR xs)) (by simp [keysL]) (fun k hk => by simp [turnN, okSize, plcD]) (okz_lt (by rw [keysI, List.length_map, len_srtBy]; omega))
    have c2 : evE (fr (n + 10) L) (lcX (schD ts) (stD s) stm t xs md s' a b c' d e' f) (.blt .tuple (.new (.comp [8] (.tup (.cons (.var 3) (.cons (.var 8) .nil))) (.name 8) (.val (.var 4)) .no))) = M.ret (.tup ((keysI (srtR xs)).map (plcD t))) := by
      rw [evE, new_ev c, s_ret]
      rfl
    refine tup3_ev ?_ rfl c2
    simp [ll, okSize, doneD]
end
end K22
set_option linter.all false
set_option maxRecDepth 100000
set_option maxHeartbeats 4000000
namespace K22
open Ev PySem
/-! ### rows that are added -/
def dupK : List Int → List TR → Option Int
  | _, [] => none
  | known, x :: xs => if x.1 ∈ known then some x.1 else dupK (known ++ [x.1]) xs
theorem dup_nd : ∀ {xs : List TR} {known : List Int}, known.Nodup → dupK known xs = none → (known ++ keysI xs).Nodup
  | [], known, h, _ => by simpa using h
  | x :: xs, known, h, e => by
    rw [dupK] at e
    split at e
    · cases e
    · rename_i hx
      have h1 : (known ++ [x.1]).Nodup := by
        rw [List.nodup_append]
        exact ⟨h, by simp, fun a ha b hb => by
          rw [List.mem_singleton.mp hb]
          intro e
          exact hx (e ▸ ha)⟩
      have := dup_nd (xs := xs) h1 e
      rw [List.append_assoc] at this
      exact this
theorem memB_ints (k : Int) (ks : List Int) : memB (.int k) (ks.map .int) = decide (k ∈ ks) := by
  apply bool_iff
  rw [memB_iff, decide_eq_true_eq]
  constructor
  · intro h
    obtain ⟨j, hj, e⟩ := List.mem_map.mp h
    rw [← D.int.inj e]; exact hj
  · intro h
    exact List.mem_map.mpr ⟨k, h, rfl⟩
theorem inL_ints (k : Int) (ks : List Int) : inL (.int k) (ks.map .int) = some (decide (k ∈ ks)) := by
  rw [inL_nb rfl (ints_nb ks) (Nat.zero_le _), memB_ints]
theorem iff_tat {C : Cfg} {ρ : Ev.Env} {st : Store} {c : E} {a b : Ss} (h : evE C ρ c st = .ok (.bl true) st) : exS C ρ (.iff c a b) st = exSs C ρ a st := by
  rw [exS, s_assoc, s_ok h]; rfl
theorem ret_at {C : Cfg} {ρ : Ev.Env} {st st' : Store} {x : Ev.S} {ss : Ss} {d : D} (h : exS C ρ x st = .ok (.ret d) st') : exSs C ρ (.cons x ss) st = .ok (.ret d) st' := by
  rw [exSs, s_ok h]; rfl
abbrev addD (t : Nat) (xs : List TR) : D := .tup [S "add", .int (t : Nat), rowsT xs]
def addS (s : St) (t : Nat) (rs xs : List TR) : St := s.set t (srtR (rs ++ xs))
def dupD (t : Nat) (k : Int) : D := .tup [S "refused", S "key", .int (t : Nat), .int k, .non]
section
variable {n L t : Nat} {ts : List Tab} {s : St} {rs : List TR} {tb : Tab} {xs : List TR}
abbrev abyE (ts : List Tab) (s : St) (t : Nat) (xs : List TR) (L : Nat) (r : Option D) : Ev.Env := [some (schD ts), some (stD s), some (addD t xs), some (.ref L), r, none, none, some (S "add"), some (.int (t : Nat)), some (rowsT xs)]
abbrev abyB : Ss := (.cons (.iff (.cmp .In (.idx (.var 4) (.const (.int 0))) (.var 3)) (.cons (.ret (.tup (.cons (.tup (.cons (.const (.str "refused")) (.cons (.const (.str "key")) (.cons (.var 8) (.cons (.idx (.var 4) (.const (.int 0))) (.cons (.const .non) .nil)))))) (.cons (.var 1) (.cons (.new (.lst .nil)) .nil))))) .nil) .nil) (.cons (.app (.var 3) (.idx (.var 4) (.const (.int 0)))) .nil))
/-- the loop over the rows to be added -/
theorem added_loop {st0 : Store} (all : List TR) : ∀ (xs : List TR) (known : List Int) (r : Option D), known.length + xs.length ≤ 1000 →
    match dupK known xs with
    | some k => ∃ st', forL (fun x ρ => match setTg (.name 4) x ρ with
        | some ρ => exSs (fr n st0.length) ρ abyB
        | none => M.bad) (xs.map rowD) (abyE ts s t all st0.length r) (st0 ++ [.lst (known.map .int)]) = .ok (.ret (.tup [dupD t k, stD s, .lst []])) st' ∧ st'.take st0.length = st0
    | none => ∃ r', forL (fun x ρ => match setTg (.name 4) x ρ with
        | some ρ => exSs (fr n st0.length) ρ abyB
        | none => M.bad) (xs.map rowD) (abyE ts s t all st0.length r) (st0 ++ [.lst (known.map .int)]) = .ok (.next (abyE ts s t all st0.length r')) (st0 ++ [.lst ((known ++ keysI xs).map .int)])
  | [], known, r, _ => ⟨r, by simp [forL, M.ret]⟩
  | x :: xs, known, r, hl => by
    have k0 := key_ix x
    have vr : ∀ st, view st (rowD x) = rowD x := fun st => rfl
    have hcell : (st0 ++ [Cell.lst (known.map .int)])[st0.length]? = some (.lst (known.map .int)) := by simp
    have hview : view (st0 ++ [Cell.lst (known.map .int)]) (.ref st0.length) = .lst (known.map .int) := view_lst hcell
    have kx : evE (fr n st0.length) (abyE ts s t all st0.length (some (rowD x))) (.idx (.var 4) (.const (.int 0))) = M.ret (.int x.1) := by
      simp [vr, k0]
    have ce : evE (fr n st0.length) (abyE ts s t all st0.length (some (rowD x))) (.cmp .In (.idx (.var 4) (.const (.int 0))) (.var 3)) (st0 ++ [.lst (known.map .int)]) = .ok (.bl (decide (x.1 ∈ known))) (st0 ++ [.lst (known.map .int)]) := by
      rw [evE, kx, s_ret, evE, g_some (d := .ref st0.length) rfl, s_ret]
      show M.ofO (Option.map D.bl (cmpD .In (view _ (.int x.1)) (view _ (.ref st0.length)))) _ = _
      rw [hview]
      show M.ofO (Option.map D.bl (inL (.int x.1) (known.map .int))) _ = _
      rw [inL_ints]; rfl
    rw [dupK]
    by_cases hx : x.1 ∈ known
    · rw [if_pos hx]
      rw [decide_eq_true hx] at ce
      refine ⟨st0 ++ [.lst (known.map .int)], ?_, by simp⟩
      have e : exSs (fr n st0.length) (abyE ts s t all st0.length (some (rowD x))) abyB (st0 ++ [.lst (known.map .int)]) = .ok (.ret (.tup [dupD t x.1, stD s, .lst []])) (st0 ++ [.lst (known.map .int)]) := by
        have re : exSs (fr n st0.length) (abyE ts s t all st0.length (some (rowD x))) (.cons (.ret (.tup (.cons (.tup (.cons (.const (.str "refused")) (.cons (.const (.str "key")) (.cons (.var 8) (.cons (.idx (.var 4) (.const (.int 0))) (.cons (.const .non) .nil)))))) (.cons (.var 1) (.cons (.new (.lst .nil)) .nil))))) .nil) = M.ret (.ret (.tup [dupD t x.1, stD s, .lst []])) := by
          refine sqR ?_
          simp [vr, k0, okSize, dupD]
        exact ret_at ((iff_tat ce).trans (congrFun re _))
      rw [List.map_cons, forL]
      exact s_ok e
    · rw [if_neg hx]
      rw [decide_eq_false hx] at ce
      have ih := added_loop (st0 := st0) all xs (known ++ [x.1]) (some (rowD x)) (by rw [List.length_append, List.length_singleton]; rw [List.length_cons] at hl; omega)
      have ap : exS (fr n st0.length) (abyE ts s t all st0.length (some (rowD x))) (.app (.var 3) (.idx (.var 4) (.const (.int 0)))) (st0 ++ [.lst (known.map .int)]) = .ok (.next (abyE ts s t all st0.length (some (rowD x)))) (st0 ++ [.lst ((known ++ [x.1]).map .int)]) := by
        rw [app_run (xs := known.map .int) (L := st0.length) (d := .int x.1) rfl ⟨_, hcell⟩ (congrFun kx _) hcell (okz_lt (by rw [List.length_map]; rw [List.length_cons] at hl; omega)) (Nat.le_refl _)]
        congr 1
        simp
      have e : exSs (fr n st0.length) (abyE ts s t all st0.length (some (rowD x))) abyB (st0 ++ [.lst (known.map .int)]) = .ok (.next (abyE ts s t all st0.length (some (rowD x)))) (st0 ++ [.lst ((known ++ [x.1]).map .int)]) := by
        refine (sq ((iff_at ce).trans rfl)).trans ((sq ap).trans rfl)
      have e2 : forL (fun x ρ => match setTg (.name 4) x ρ with
        | some ρ => exSs (fr n st0.length) ρ abyB
        | none => M.bad) ((x :: xs).map rowD) (abyE ts s t all st0.length r) (st0 ++ [.lst (known.map .int)]) = forL (fun x ρ => match setTg (.name 4) x ρ with
        | some ρ => exSs (fr n st0.length) ρ abyB
        | none => M.bad) (xs.map rowD) (abyE ts s t all st0.length (some (rowD x))) (st0 ++ [.lst ((known ++ [x.1]).map .int)]) := by
        rw [List.map_cons, forL]
        exact s_ok e
      rw [e2]
      cases hd : dupK (known ++ [x.1]) xs with
      | some k => rw [hd] at ih; exact ih
      | none =>
        rw [hd] at ih
        obtain ⟨r', ih⟩ := ih
        refine ⟨r', ih.trans ?_⟩
        rw [List.append_assoc]
        rfl
end
end K22
set_option linter.all false
set_option maxRecDepth 100000
set_option maxHeartbeats 4000000
namespace K22
open Ev PySem
theorem FOk.plain {ts : List Tab} {s : St} (h : FOk ts s) : (stD s).plain = true := by
  show D.plains (s.map rowsT) = true
  have : ∀ rs ∈ s, ∃ cols, ∀ r ∈ rs, ROk cols r := fun rs hr => by
    obtain ⟨i, hi⟩ := List.mem_iff_getElem?.mp hr
    have hl : i < ts.length := by rw [← h.len]; exact (List.getElem?_eq_some_iff.mp hi).1
    exact ⟨_, (h.tab i ts[i] rs (List.getElem?_eq_getElem hl) hi).1⟩
  clear h
  induction s with
  | nil => rfl
  | cons rs s ih =>
    obtain ⟨cols, hc⟩ := this rs List.mem_cons_self
    rw [List.map_cons, D.plains, D.plain, rows_plain hc, ih fun x hx => this x (List.mem_cons_of_mem _ hx)]
    rfl
theorem keysL_plain (rs : List TR) : D.plains (keysL rs) = true := by
  rw [keysL]
  generalize keysI rs = ks
  induction ks with
  | nil => rfl
  | cons k ks ih => rw [List.map_cons, D.plains, ih]; rfl
noncomputable def addA (ts : List Tab) (s : St) (t : Nat) (rs xs : List TR) : D := match dupK (keysI rs) xs with
  | some k => dupD t k
  | none => putA ts (addS s t rs xs) t xs
noncomputable def addB (ts : List Tab) (s : St) (t : Nat) (rs xs : List TR) : St := match dupK (keysI rs) xs with
  | some _ => s
  | none => putB ts s (addS s t rs xs) t xs
noncomputable def addK (ts : List Tab) (s : St) (t : Nat) (rs xs : List TR) : List TR := match dupK (keysI rs) xs with
  | some _ => []
  | none => putK ts (addS s t rs xs) t xs
section
variable {n L t : Nat} {ts : List Tab} {s : St} {rs : List TR} {tb : Tab} {xs : List TR}
theorem brkF_plain {d : D} {s' : St} (hc : SchOk ts) (ht : ts[t]? = some tb) (h : brkF ts s' t xs = some d) : d.plain = true := by
  obtain ⟨r, _, h⟩ := List.exists_of_findSome?_eq_some h
  obtain ⟨i, hi, h⟩ := List.exists_of_findSome?_eq_some h
  rw [ht] at hi h
  have hi : i < (rulesOf tb).length := List.mem_range.mp hi
  have e1 := List.getElem?_eq_getElem hi
  have hu := (hc.rules ht).2.2 _ (List.getElem_mem hi)
  rw [brkG] at h
  split at h
  · cases h
    have : ((rulesOf tb)[i]?).getD .non = (rulesOf tb)[i] := by rw [e1]; rfl
    show (D.tup [S "refused", headD (((rulesOf tb)[i]?).getD .non), .int (t : Nat), .int r.1, .int (i : Nat)]).plain = true
    rw [this]
    clear this e1
    generalize (rulesOf tb)[i] = rule at hu
    cases hu <;> rfl
  · cases h
theorem putA_plain {s' : St} (hc : SchOk ts) (ht : ts[t]? = some tb) : (putA ts s' t xs).plain = true := by
  rw [putA]
  cases hb : brkF ts s' t xs with
  | some d => exact brkF_plain hc ht hb
  | none => rfl
theorem putA_view {s' : St} (st : Store) : view st (putA ts s' t xs) = putA ts s' t xs := by
  rw [putA]
  cases hb : brkF ts s' t xs with
  | some d => exact (brkF_tup hb).2 st
  | none => rfl
theorem tup3_plain {a b c : D} (h1 : a.plain = true) (h2 : b.plain = true) (h3 : c.plain = true) : (D.tup [a, b, c]).plain = true := by
  show (a.plain && (b.plain && (c.plain && true))) = true
  rw [h1, h2, h3]; rfl
theorem add_f (hs : SOk ts s) (ht : ts[t]? = some tb) (hr : s[t]? = some rs) (hx : ∀ x ∈ xs, ROk tb.1 x) (few : xs.length ≤ 100) : FOk ts (addS s t rs xs) := by
  have ok := hs.tab t tb rs ht hr
  refine set_f hs.f ht (fun r h => ?_) (by rw [List.length_append]; have := ok.few; omega)
  rcases List.mem_append.mp h with h | h
  · exact ok.row r h
  · exact hx r h
theorem added_by_ok (hc : SchOk ts) (hs : SOk ts s) (ht : ts[t]? = some tb) (hr : s[t]? = some rs) (hx : ∀ x ∈ xs, ROk tb.1 x) (few : xs.length ≤ 100) : cl (n + 11) 90 [schD ts, stD s, addD t xs] = M.ret (.tup [addA ts s t rs xs, stD (addB ts s t rs xs), .lst (keysL (addK ts s t rs xs))]) := by
  have ok := hs.tab t tb rs ht hr
  have fr' := ok.few
  have hf := add_f hs ht hr hx few
  have htl : t < s.length := (List.getElem?_eq_some_iff.mp hr).1
  have h4 : s.length ≤ 4 := by rw [hs.len]; exact hc.few
  funext st
  show _ = Res.ok _ st
  have s0 : exS (fr (n + 10) st.length) [some (schD ts), some (stD s), some (addD t xs), none, none, none, none, none, none, none] (.asg (.tg (.three (.name 7) (.name 8) (.name 9))) (.var 2)) = M.ret (.next [some (schD ts), some (stD s), some (addD t xs), none, none, none, none, some (S "add"), some (.int (t : Nat)), some (rowsT xs)]) := by
    simp
  have hk : rs.map (fun r => D.int r.1) = (keysI rs).map .int := by rw [keysI, List.map_map]; rfl
  have s1 : exS (fr (n + 10) st.length) [some (schD ts), some (stD s), some (addD t xs), none, none, none, none, some (S "add"), some (.int (t : Nat)), some (rowsT xs)] (.asg (.name 3) (.newm (.comp [4] (.idx (.var 4) (.const (.int 0))) (.name 4) (.val (.idx (.var 1) (.var 8))) .no))) st = .ok (.next (abyE ts s t xs st.length none)) (st ++ [.lst ((keysI rs).map .int)]) := by
    have c : evN (fr (n + 10) st.length) [some (schD ts), some (stD s), some (addD t xs), none, none, none, none, some (S "add"), some (.int (t : Nat)), some (rowsT xs)] (.comp [4] (.idx (.var 4) (.const (.int 0))) (.name 4) (.val (.idx (.var 1) (.var 8))) .no) = M.ret (rs.map fun r => .int r.1) := by
      refine comp_tmap (enc := rowD) (rs := rs) (by simp [st_ix hr]) (fun r hr => ?_) (okz_lt (by omega))
      have k0 := key_ix r
      have vr : ∀ st, view st (rowD r) = rowD r := fun st => rfl
      simp [turnN, k0, vr, okSize]
    rw [hk] at c
    rw [exS, evE, c, s_ret]
    rfl
  have lp := added_loop (n := n + 10) (ts := ts) (s := s) (t := t) (st0 := st) xs xs (keysI rs) none (by rw [keysI, List.length_map]; omega)
  have fore : ∀ ρ', exS (fr (n + 10) st.length) ρ' (.for (.name 4) (.val (.var 9)) abyB) = M.thn (evIt (fr (n + 10) st.length) ρ' (.val (.var 9))) fun xs => forL (fun x ρ => match setTg (.name 4) x ρ with
        | some ρ => exSs (fr (n + 10) st.length) ρ abyB
        | none => M.bad) xs ρ' := fun ρ' => rfl
  have it : evIt (fr (n + 10) st.length) (abyE ts s t xs st.length none) (.val (.var 9)) = M.ret (xs.map rowD) := by simp
  cases hd : dupK (keysI rs) xs with
  | some k =>
    rw [hd] at lp
    obtain ⟨st', e, tk⟩ := lp
    have ea : D.tup [addA ts s t rs xs, stD (addB ts s t rs xs), .lst (keysL (addK ts s t rs xs))] = .tup [dupD t k, stD s, .lst []] := by rw [addA, addB, addK, hd]; rfl
    rw [ea]
    refine cl_at (F := F_added_by) rfl rfl (st' := st') ?_ (tup3_plain rfl hs.plain rfl) tk
    show exSs (fr (n + 10) st.length) [some (schD ts), some (stD s), some (addD t xs), none, none, none, none, none, none, none] (.cons _ (.cons _ (.cons (.for (.name 4) (.val (.var 9)) abyB) _))) st = _
    refine (sq (congrFun s0 st)).trans ((sq s1).trans (ret_at ?_))
    rw [fore, it, s_ret]
    exact e
  | none =>
    rw [hd] at lp
    obtain ⟨r', e⟩ := lp
    have ea : D.tup [addA ts s t rs xs, stD (addB ts s t rs xs), .lst (keysL (addK ts s t rs xs))] = .tup [putA ts (addS s t rs xs) t xs, stD (putB ts s (addS s t rs xs) t xs), .lst (keysL (putK ts (addS s t rs xs) t xs))] := by rw [addA, addB, addK, hd]
    rw [ea]
    have hpl : (stD (putB ts s (addS s t rs xs) t xs)).plain = true := by
      rw [putB]
      split
      · exact hs.plain
      · exact hf.plain
    refine cl_at (F := F_added_by) rfl rfl (st' := st ++ [.lst ((keysI rs ++ keysI xs).map .int)]) ?_ (tup3_plain (putA_plain hc ht) hpl (keysL_plain _)) (by simp)
    show exSs (fr (n + 10) st.length) [some (schD ts), some (stD s), some (addD t xs), none, none, none, none, none, none, none] (.cons _ (.cons _ (.cons (.for (.name 4) (.val (.var 9)) abyB) _))) st = _
    have e3 : exS (fr (n + 10) st.length) (abyE ts s t xs st.length none) (.for (.name 4) (.val (.var 9)) abyB) (st ++ [.lst ((keysI rs).map .int)]) = .ok (.next (abyE ts s t xs st.length r')) (st ++ [.lst ((keysI rs ++ keysI xs).map .int)]) := by
      rw [fore, it, s_ret]
      exact e
    refine (sq (congrFun s0 st)).trans ((sq s1).trans ((sq e3).trans ?_))
    generalize st ++ [Cell.lst ((keysI rs ++ keysI xs).map .int)] = st2
    have z : binD .Add (rowsT rs) (rowsT xs) = some (rowsT (rs ++ xs)) := by
      have hz : okSize ((rs.map rowD).length + (xs.map rowD).length) = true := okz_lt (by rw [List.length_map, List.length_map]; omega)
      simp only [binD, rowsT, hz, if_true, List.map_append]
    have w5 : cl (n + 10) 85 [stD s, .int (t : Nat), rowsT (rs ++ xs)] = M.ret (stD (addS s t rs xs)) := with_rows_okT htl h4 (rs ++ xs)
    have e5 : evE (fr (n + 10) st.length) (abyE ts s t xs st.length r') (.call 85 (.cons (.var 1) (.cons (.var 8) (.cons (.bin .Add (.idx (.var 1) (.var 8)) (.var 9)) .nil)))) = M.ret (stD (addS s t rs xs)) := by
      simp [st_ix hr, z, w5]
    have w6 : cl (n + 10) 88 [schD ts, stD (addS s t rs xs), .int (t : Nat), rowsT xs] = M.ret ((brkF ts (addS s t rs xs) t xs).getD .non) := first_broken_ok hc hf ht hx (srtkD_rowsT xs) fun _ => rfl
    have rest : exSs (fr (n + 10) st.length) (abyE ts s t xs st.length r') (dropS 3 F_added_by.body) = M.ret (.ret (.tup [putA ts (addS s t rs xs) t xs, stD (putB ts s (addS s t rs xs) t xs), .lst (keysL (putK ts (addS s t rs xs) t xs))])) := by
      refine (sqM (asg_ev e5)).trans ((sqM (asg_ev (call4_ev rfl rfl rfl rfl w6))).trans ?_)
      show exSs (fr (n + 10) st.length) [some (schD ts), some (stD s), some (addD t xs), some (.ref st.length), r', some (stD (addS s t rs xs)), some ((brkF ts (addS s t rs xs) t xs).getD .non), some (S "add"), some (.int (t : Nat)), some (rowsT xs)] _ = _
      cases hb : brkF ts (addS s t rs xs) t xs with
      | some d =>
        obtain ⟨dn, dv⟩ := brkF_tup hb
        have eb : D.tup [putA ts (addS s t rs xs) t xs, stD (putB ts s (addS s t rs xs) t xs), .lst (keysL (putK ts (addS s t rs xs) t xs))] = .tup [d, stD s, .lst []] := by rw [putA, putB, putK, hb]; rfl
        rw [eb]
        refine sqR (if_t (by simp [dn, dv]) (sqR (ret_ev ?_)))
        simp [okSize]
      | none =>
        have eb : D.tup [putA ts (addS s t rs xs) t xs, stD (putB ts s (addS s t rs xs) t xs), .lst (keysL (putK ts (addS s t rs xs) t xs))] = .tup [doneD xs.length, stD (addS s t rs xs), .lst (keysL xs)] := by rw [putA, putB, putK, hb]; rfl
        rw [eb]
        refine (sqM (if_f (by simp) rfl)).trans (sqR (ret_ev ?_))
        have c : evN (fr (n + 10) st.length) [some (schD ts), some (stD s), some (addD t xs), some (.ref st.length), r', some (stD (addS s t rs xs)), some .non, some (S "add"), some (.int (t : Nat)), some (rowsT xs)] (.comp [4] (.idx (.var 4) (.const (.int 0))) (.name 4) (.val (.var 9)) .no) = M.ret (xs.map fun r => .int r.1) := by
          refine comp_tmap (enc := rowD) (rs := xs) (by simp) (fun r hr => ?_) (okz_lt (by omega))
          have k0 := key_ix r
          have vr : ∀ st, view st (rowD r) = rowD r := fun st => rfl
          simp [turnN, k0, vr, okSize]
        have hk : xs.map (fun r => D.int r.1) = keysL xs := by rw [keysL, keysI, List.map_map]; rfl
        rw [hk] at c
        refine tup3_ev ?_ rfl (new_ev c)
        simp [okSize, doneD]
    exact congrFun rest st2
end
end K22
set_option linter.all false
set_option maxRecDepth 100000
set_option maxHeartbeats 4000000
namespace K22
open Ev PySem
section
variable {n L t : Nat} {ts : List Tab} {s : St} {rs : List TR} {tb : Tab} {xs : List TR}
abbrev gaE (ts : List Tab) (s : St) (t : Nat) (rs xs : List TR) (known : List Int) (r : Option D) : Ev.Env := [some (schD ts), some (stD s), some (addD t xs), none, none, none, r, some (S "add"), some (.int (t : Nat)), some (rowsT rs), some (.lst (known.map .int)), none, none, none]
abbrev gaB : Ss := (.cons (.iff (.cmp .In (.idx (.var 6) (.const (.int 0))) (.var 10)) (.cons (.ret (.tup (.cons (.tup (.cons (.const (.str "refused")) (.cons (.const (.str "key")) (.cons (.var 8) (.cons (.idx (.var 6) (.const (.int 0))) (.cons (.const .non) .nil)))))) (.cons (.const .non) .nil)))) .nil) .nil) (.cons (.asg (.name 10) (.bin .Add (.var 10) (.new (.lst (.cons (.idx (.var 6) (.const (.int 0))) .nil))))) .nil))
theorem goal_loop (all : List TR) : ∀ (xs : List TR) (known : List Int) (r : Option D), known.length + xs.length ≤ 1000 →
    match dupK known xs with
    | some k => forL (fun x ρ => match setTg (.name 6) x ρ with
        | some ρ => exSs (fr n L) ρ gaB
        | none => M.bad) (xs.map rowD) (gaE ts s t rs all known r) = M.ret (.ret (.tup [dupD t k, .non]))
    | none => ∃ r', forL (fun x ρ => match setTg (.name 6) x ρ with
        | some ρ => exSs (fr n L) ρ gaB
        | none => M.bad) (xs.map rowD) (gaE ts s t rs all known r) = M.ret (.next (gaE ts s t rs all (known ++ keysI xs) r'))
  | [], known, r, _ => ⟨r, by simp [forL]⟩
  | x :: xs, known, r, hl => by
    have k0 := key_ix x
    have vr : ∀ st, view st (rowD x) = rowD x := fun st => rfl
    have q := inL_ints x.1 known
    rw [dupK]
    by_cases hx : x.1 ∈ known
    · rw [if_pos hx]
      rw [decide_eq_true hx] at q
      have e : exSs (fr n L) (gaE ts s t rs all known (some (rowD x))) gaB = M.ret (.ret (.tup [dupD t x.1, .non])) :=
        sqR (if_t (by simp [vr, k0, q]) (sqR (by simp [vr, k0, okSize, dupD])))
      show forL _ (rowD x :: xs.map rowD) _ = _
      rw [forL]
      show M.thn (exSs (fr n L) (gaE ts s t rs all known (some (rowD x))) gaB) _ = _
      rw [e, s_ret]
    · rw [if_neg hx]
      rw [decide_eq_false hx] at q
      have ih := goal_loop all xs (known ++ [x.1]) (some (rowD x)) (by rw [List.length_append, List.length_singleton]; rw [List.length_cons] at hl; omega)
      have e : exSs (fr n L) (gaE ts s t rs all known (some (rowD x))) gaB = M.ret (.next (gaE ts s t rs all (known ++ [x.1]) (some (rowD x)))) := by
        have z : binD .Add (.lst (known.map .int)) (.lst [.int x.1]) = some (.lst ((known ++ [x.1]).map .int)) := by
          have hz : okSize ((known.map D.int).length + 1) = true := okz_lt (by rw [List.length_map]; rw [List.length_cons] at hl; omega)
          simp only [binD, List.length_singleton, hz, if_true, List.map_append, List.map_cons, List.map_nil]
        refine (sqM (if_f (by simp [vr, k0, q]) rfl)).trans ((sqM (asg_ev (d := .lst ((known ++ [x.1]).map .int)) ?_)).trans rfl)
        have zz : binD .Add (.lst (known.map .int)) (.lst [.int x.1]) = some (.lst (known.map .int ++ [.int x.1])) := by rw [z, List.map_append]; rfl
        simp [vr, k0, okSize, zz]
      have e2 : forL (fun x ρ => match setTg (.name 6) x ρ with
        | some ρ => exSs (fr n L) ρ gaB
        | none => M.bad) ((x :: xs).map rowD) (gaE ts s t rs all known r) = forL (fun x ρ => match setTg (.name 6) x ρ with
        | some ρ => exSs (fr n L) ρ gaB
        | none => M.bad) (xs.map rowD) (gaE ts s t rs all (known ++ [x.1]) (some (rowD x))) := by
        show forL _ (rowD x :: xs.map rowD) _ = _
        rw [forL]
        show M.thn (exSs (fr n L) (gaE ts s t rs all known (some (rowD x))) gaB) _ = _
        rw [e, s_ret]
      rw [e2]
      cases hd : dupK (known ++ [x.1]) xs with
      | some k => rw [hd] at ih; exact ih
      | none =>
        rw [hd] at ih
        obtain ⟨r', ih⟩ := ih
        refine ⟨r', ih.trans ?_⟩
        rw [List.append_assoc]
        rfl
theorem law_goal_add (hc : SchOk ts) (hs : SOk ts s) (ht : ts[t]? = some tb) (hr : s[t]? = some rs) (few : xs.length ≤ 100) : cl (n + 10) 109 [schD ts, stD s, addD t xs] = M.ret (match dupK (keysI rs) xs with
    | some k => .tup [dupD t k, .non]
    | none => .tup [.lst (xs.map rowD), stD (addS s t rs xs)]) := by
  have ok := hs.tab t tb rs ht hr
  have fr' := ok.few
  have htl : t < s.length := (List.getElem?_eq_some_iff.mp hr).1
  have h4 : s.length ≤ 4 := by rw [hs.len]; exact hc.few
  refine cl_ret (F := F__law_goal) rfl rfl fun L => ?_
  show exSs _ [some (schD ts), some (stD s), some (addD t xs), none, none, none, none, none, none, none, none, none, none, none] _ = _
  have s0 : exS (fr (n + 9) L) [some (schD ts), some (stD s), some (addD t xs), none, none, none, none, none, none, none, none, none, none, none] (.par [7, 8, 9] (.cons (.idx (.var 2) (.const (.int 0))) (.cons (.idx (.var 2) (.const (.int 1))) (.cons (.idx (.var 1) (.idx (.var 2) (.const (.int 1)))) .nil)))) = M.ret (.next [some (schD ts), some (stD s), some (addD t xs), none, none, none, none, some (S "add"), some (.int (t : Nat)), some (rowsT rs), none, none, none, none]) := by
    simp [st_ix hr]
    rfl
  have hk : rs.map (fun r => D.int r.1) = (keysI rs).map .int := by rw [keysI, List.map_map]; rfl
  have c : evN (fr (n + 9) L) [some (schD ts), some (stD s), some (addD t xs), none, none, none, none, some (S "add"), some (.int (t : Nat)), some (rowsT rs), none, none, none, none] (.comp [6] (.idx (.var 6) (.const (.int 0))) (.name 6) (.val (.var 9)) .no) = M.ret (rs.map fun r => .int r.1) := by
    refine comp_tmap (enc := rowD) (rs := rs) (by simp) (fun r hr => ?_) (okz_lt (by omega))
    have k0 := key_ix r
    have vr : ∀ st, view st (rowD r) = rowD r := fun st => rfl
    simp [turnN, k0, vr, okSize]
  rw [hk] at c
  have lp := goal_loop (n := n + 9) (L := L) (ts := ts) (s := s) (t := t) (rs := rs) xs xs (keysI rs) none (by rw [keysI, List.length_map]; omega)
  have it : evIt (fr (n + 9) L) (gaE ts s t rs xs (keysI rs) none) (.val (.idx (.var 2) (.const (.int 2)))) = M.ret (xs.map rowD) := by simp
  refine (sqM s0).trans (sqR (if_t (by simp) ((sqM (asg_ev (new_ev c))).trans ?_)))
  show exSs (fr (n + 9) L) (gaE ts s t rs xs (keysI rs) none) (.cons (.for (.name 6) (.val (.idx (.var 2) (.const (.int 2)))) gaB) _) = _
  have fore : exS (fr (n + 9) L) (gaE ts s t rs xs (keysI rs) none) (.for (.name 6) (.val (.idx (.var 2) (.const (.int 2)))) gaB) = forL (fun x ρ => match setTg (.name 6) x ρ with
        | some ρ => exSs (fr (n + 9) L) ρ gaB
        | none => M.bad) (xs.map rowD) (gaE ts s t rs xs (keysI rs) none) := by
    rw [exS, it, s_ret]
    all_goals rfl
  cases hd : dupK (keysI rs) xs with
  | some k =>
    rw [hd] at lp
    exact sqR (fore.trans lp)
  | none =>
    rw [hd] at lp
    obtain ⟨r', lp⟩ := lp
    refine (sqM (fore.trans lp)).trans (sqR ?_)
    have z : binD .Add (.lst (rs.map rowD)) (.lst (xs.map rowD)) = some (.lst ((rs ++ xs).map rowD)) := by
      have hz : okSize ((rs.map rowD).length + (xs.map rowD).length) = true := okz_lt (by rw [List.length_map, List.length_map]; omega)
      simp only [binD, hz, if_true, List.map_append]
    have e4 : cl (n + 9) 107 [stD s, .int (t : Nat), .lst ((rs ++ xs).map rowD)] = M.ret (stD (addS s t rs xs)) := law_put_ok htl h4 (by rw [List.length_append]; omega)
    have a1 : evE (fr (n + 9) L) (gaE ts s t rs xs (keysI rs ++ keysI xs) r') (.new (.listOf (.idx (.var 2) (.const (.int 2))))) = M.ret (.lst (xs.map rowD)) := by simp [seqOf]
    have a2 : evE (fr (n + 9) L) (gaE ts s t rs xs (keysI rs ++ keysI xs) r') (.new (.listOf (.var 9))) = M.ret (.lst (rs.map rowD)) := by simp [seqOf]
    have a3 : evE (fr (n + 9) L) (gaE ts s t rs xs (keysI rs ++ keysI xs) r') (.bin .Add (.new (.listOf (.var 9))) (.new (.listOf (.idx (.var 2) (.const (.int 2)))))) = M.ret (.lst ((rs ++ xs).map rowD)) := by
      rw [evE, a2, s_ret, a1, s_ret]
      funext st
      rw [v_lst, v_lst, z]; rfl
    have a4 : evE (fr (n + 9) L) (gaE ts s t rs xs (keysI rs ++ keysI xs) r') (.call 107 (.cons (.var 1) (.cons (.var 8) (.cons (.bin .Add (.new (.listOf (.var 9))) (.new (.listOf (.idx (.var 2) (.const (.int 2)))))) .nil)))) = M.ret (stD (addS s t rs xs)) := by
      rw [evE, evEs, evE, g_some (d := stD s) rfl, s_ret, evEs, evE, g_some (d := .int (t : Nat)) rfl, s_ret, evEs, a3, s_ret, evEs]
      exact e4
    refine ret_ev ?_
    rw [evE, evEs, a1, s_ret, evEs, a4, s_ret, evEs]
    rfl
end
end K22
set_option linter.all false
set_option maxRecDepth 100000
set_option maxHeartbeats 4000000
namespace K22
open Ev PySem
section
variable {n L t : Nat} {ts : List Tab} {s : St} {rs : List TR} {tb : Tab} {xs : List TR}
theorem mem_srtR {rs : List TR} {r : TR} (h : r ∈ rs) : r ∈ srtR rs := (perm_srtBy rs).mem_iff.mpr h
theorem nd_srtR {rs : List TR} (h : (keysI rs).Nodup) : (keysI (srtR rs)).Nodup := ((perm_srtBy rs).map _).nodup_iff.mpr h
theorem asc_nd {rs : List TR} (h : ascI (keysI rs) = true) : (keysI rs).Nodup := (asc_pw h).imp fun {a b} h => by omega
theorem law_change_add (hc : SchOk ts) (hs : SOk ts s) (ht : ts[t]? = some tb) (hr : s[t]? = some rs) (hx : ∀ x ∈ xs, ROk tb.1 x) (few : xs.length ≤ 100) : cl (n + 11) 110 [schD ts, stD s, addD t xs] = M.ret (.tup [addA ts s t rs xs, stD (addB ts s t rs xs), .tup ((keysI (srtR (addK ts s t rs xs))).map (plcD t))]) := by
  have ok := hs.tab t tb rs ht hr
  have g := law_goal_add (n := n) hc hs ht hr few
  have htl : t < s.length := (List.getElem?_eq_some_iff.mp hr).1
  cases hd : dupK (keysI rs) xs with
  | some k =>
    rw [hd] at g
    rw [addA, addB, addK, hd]
    exact law_change_no rfl (fun _ => rfl) g
  | none =>
    rw [hd] at g
    rw [addA, addB, addK, hd]
    have nd := dup_nd (asc_nd ok.asc) hd
    have nd : (keysI (rs ++ xs)).Nodup := by rw [keysI, List.map_append]; exact nd
    exact law_change_put (w := "add") hc ht rfl (by decide) rfl (fun _ => rfl) (add_f hs ht hr hx few) (List.getElem?_set_self htl) (nd_srtR nd) (fun x h => mem_srtR (List.mem_append_right _ h)) (by omega) g
theorem changed_by_gen {w : String} {f : Nat} {stm ans : D} {beh : St} {ks : List Int} (h0 : idxD stm (.int 0) = some (S w)) (h1 : idxD stm (.int 1) = some (.int (t : Nat))) (hv : ∀ st, view st stm = stm) (hf : dctF (.dct [.str "add", .str "set", .str "take"] [.fn 90, .fn 91, .fn 92]) (S w) = some f) (few : ks.length ≤ 1000)
    (m1 : cl (n + 1) f [schD ts, stD s, stm] = M.ret (.tup [ans, stD beh, .lst (ks.map .int)])) : cl (n + 2) 93 [schD ts, stD s, stm] = M.ret (.tup [ans, stD beh, .lst ((srtBy (fun i => i) ks).map (plcD t))]) := by
  refine cl_ret (F := F_changed_by) rfl rfl fun L => ?_
  show exSs _ [some (schD ts), some (stD s), some stm, none, none, none, none, none] _ = _
  have s1 : exS (fr (n + 1) L) [some (schD ts), some (stD s), some stm, some (.dct [.str "add", .str "set", .str "take"] [.fn 90, .fn 91, .fn 92]), none, none, none, none] (.asg (.tg (.three (.name 4) (.name 5) (.name 6))) (.calld 3 (.idx (.var 2) (.const (.int 0))) (.cons (.var 0) (.cons (.var 1) (.cons (.var 2) .nil))))) = M.ret (.next [some (schD ts), some (stD s), some stm, some (.dct [.str "add", .str "set", .str "take"] [.fn 90, .fn 91, .fn 92]), some ans, some (stD beh), some (.lst (ks.map .int)), none]) := by
    simp [hv, h0, hf, m1]
  have c : evN (fr (n + 1) L) [some (schD ts), some (stD s), some stm, some (.dct [.str "add", .str "set", .str "take"] [.fn 90, .fn 91, .fn 92]), some ans, some (stD beh), some (.lst (ks.map .int)), none] (.comp [7] (.tup (.cons (.idx (.var 2) (.const (.int 1))) (.cons (.var 7) .nil))) (.name 7) (.val (.var 6)) .no) = M.ret (ks.map (plcD t)) :=
    comp_tmap (enc := D.int) (rs := ks) (by simp) (fun k hk => by simp [turnN, hv, h1, okSize, plcD]) (okz_lt (by omega))
  have c2 : evE (fr (n + 1) L) [some (schD ts), some (stD s), some stm, some (.dct [.str "add", .str "set", .str "take"] [.fn 90, .fn 91, .fn 92]), some ans, some (stD beh), some (.lst (ks.map .int)), none] (.srtp (.new (.comp [7] (.tup (.cons (.idx (.var 2) (.const (.int 1))) (.cons (.var 7) .nil))) (.name 7) (.val (.var 6)) .no))) = M.ret (.lst ((srtBy (fun i => i) ks).map (plcD t))) := by
    rw [evE, new_ev c, s_ret]
    funext st
    rw [v_lst, srtp_plc]; rfl
  exact (sqM (asg_ev rfl)).trans ((sqM s1).trans (sqR (ret_ev (tup3_ev rfl rfl c2))))
theorem addK_len : (addK ts s t rs xs).length ≤ xs.length := by
  rw [addK]
  split
  · exact Nat.zero_le _
  · rw [putK]
    split
    · exact Nat.zero_le _
    · exact Nat.le_refl _
theorem changed_by_add (hc : SchOk ts) (hs : SOk ts s) (ht : ts[t]? = some tb) (hr : s[t]? = some rs) (hx : ∀ x ∈ xs, ROk tb.1 x) (few : xs.length ≤ 100) : cl (n + 12) 93 [schD ts, stD s, addD t xs] = M.ret (.tup [addA ts s t rs xs, stD (addB ts s t rs xs), .lst ((keysI (srtR (addK ts s t rs xs))).map (plcD t))]) := by
  have kl := addK_len (ts := ts) (s := s) (t := t) (rs := rs) (xs := xs)
  have := changed_by_gen (n := n + 10) (w := "add") (f := 90) (stm := addD t xs) (t := t) (ks := keysI (addK ts s t rs xs)) rfl rfl (fun _ => rfl) (by decide +kernel) (by rw [keysI, List.length_map]; omega) (added_by_ok (n := n) hc hs ht hr hx few)
  rw [keys_srt] at this
  exact this
theorem fits_add (hc : SchOk ts) (ht : ts[t]? = some tb) (hx : ∀ x ∈ xs, ROk tb.1 x) (h1 : 1 ≤ xs.length) (h2 : xs.length ≤ 20) : cl (n + 11) 83 [schD ts, addD t xs] = M.ret (.bl true) := by
  have ix := tabs_ix hc ht
  have hlt : t < ts.length := (List.getElem?_eq_some_iff.mp ht).1
  have hl := (hc.tab tb (List.mem_of_getElem? ht)).2.1
  have w1 : cl (n + 10) 0 [.int (t : Nat), .int 0, .int ((ts.length : Int) - 1)] = M.ret (.bl true) := by
    rw [is_whole_at]
    have h : (0 : Int) ≤ (t : Int) ∧ (t : Int) ≤ (ts.length : Int) - 1 := by omega
    rw [decide_eq_true h]
  have w2 : cl (n + 10) 1 [addD t xs, .int 3, .int 4] = M.ret (.bl true) := by
    rw [is_tuple_of_tup]; simp
  have w3 : cl (n + 10) 1 [rowsT xs, .int 1, .int 20] = M.ret (.bl true) := by
    rw [is_tuple_of_tup]
    have h : (1 : Int) ≤ ((xs.map rowD).length : Int) ∧ ((xs.map rowD).length : Int) ≤ 20 := by rw [List.length_map]; omega
    rw [decide_eq_true h.1, decide_eq_true h.2]; rfl
  refine cl_ret (F := F_fits_statement) rfl rfl fun L => ?_
  show exSs _ [some (schD ts), some (addD t xs), none, none] _ = _
  have s1 : exS (fr (n + 10) L) [some (schD ts), some (addD t xs), none, none] (.asg (.name 2) (.idx (.idx (.var 0) (.idx (.var 1) (.const (.int 1)))) (.const (.int 0)))) = M.ret (.next [some (schD ts), some (addD t xs), some (.tup (intF :: tb.1)), none]) := by
    refine asg_ev ?_
    simp [ix]
  have a1 : evE (fr (n + 10) L) [some (schD ts), some (addD t xs), some (.tup (intF :: tb.1)), none] (.blt .all (.new (.comp [3] (.call 55 (.cons (.var 2) (.cons (.var 3) .nil))) (.name 3) (.val (.idx (.var 1) (.const (.int 2)))) .no))) = M.ret (.bl (xs.all fun _ => true)) := by
    refine comp_tall (enc := rowD) (rs := xs) (by simp) (fun x hxx => ?_) (okz_lt (by omega))
    have q : cl (n + 10) 55 [.tup (intF :: tb.1), rowD x] = M.ret (.bl true) := fits_row_ok (hx x hxx) (by rw [List.length_cons]; omega)
    simp [turnN, q]
  have s2 : exS (fr (n + 10) L) [some (schD ts), some (addD t xs), some (.tup (intF :: tb.1)), none] (.ret (.and (.call 1 (.cons (.idx (.var 1) (.const (.int 2))) (.cons (.const (.int 1)) (.cons (.gc "ADDED" c_ADDED) .nil)))) (.blt .all (.new (.comp [3] (.call 55 (.cons (.var 2) (.cons (.var 3) .nil))) (.name 3) (.val (.idx (.var 1) (.const (.int 2)))) .no))))) = M.ret (.ret (.bl true)) := by
    refine ret_ev ?_
    have a2 : (xs.all fun _ => true) = true := by simp
    rw [evE, a1, a2]
    simp [w3, c_ADDED]
  refine (sqM (if_f ?_ rfl)).trans ((sqM s1).trans (sqR (if_t (by simp) (sqR s2))))
  simp [w1, w2]
theorem need_stm {stm : D} {m : Nat} (f : cl (m + 1) 83 [schD ts, stm] = M.ret (.bl true)) : cl (m + 2) 95 [schD ts, stm] = M.ret .non := by
  funext st
  rw [cl_run (F := F_need_statement) rfl _ _ rfl]
  have s1 : exS (fr (m + 1) st.length) [some (schD ts), some stm] (.iff (.not (.call 83 (.cons (.var 0) (.cons (.var 1) .nil)))) (.cons (.raise 10 "not a statement of the schema") .nil) .nil) = M.ret (.next [some (schD ts), some stm]) := if_f (by simp [f]) rfl
  have e := (sqM (ss := .nil) s1).trans rfl
  refine (congrArg (fin st.length) (congrFun e st)).trans ?_
  simp [M.ret, fin, leave]
theorem change_gen {stm ans beh : D} {ps : List D} {m : Nat} {st : Store} (b : cl (m + 1) 94 [schD ts, stD s] st = .ok .non st) (q : cl (m + 1) 95 [schD ts, stm] = M.ret .non) (m1 : cl (m + 1) 93 [schD ts, stD s, stm] = M.ret (.tup [ans, beh, .lst ps])) :
    cl (m + 2) 96 [schD ts, stD s, stm] st = .ok (.tup [ans, beh]) st ∧ cl (m + 2) 97 [schD ts, stD s, stm] st = .ok (.tup ps) st := by
  constructor
  · rw [cl_run (F := F_change_of) rfl _ _ rfl]
    show fin st.length (exSs (fr (m + 1) st.length) [some (schD ts), some (stD s), some stm] F_change_of.body st) = _
    have e : exSs (fr (m + 1) st.length) [some (schD ts), some (stD s), some stm] F_change_of.body st = .ok (.ret (.tup [ans, beh])) st := by
      refine (ss_at (expr_at (call2_at rfl rfl b))).trans ((ss_at (expr_at (call2_at rfl rfl (show cl (m + 1) 95 _ st = .ok .non st by rw [q]; rfl)))).trans ?_)
      have s3 : exSs (fr (m + 1) st.length) [some (schD ts), some (stD s), some stm] (.cons (.ret (.slc (.call 93 (.cons (.var 0) (.cons (.var 1) (.cons (.var 2) .nil)))) .no (.is (.const (.int 2))))) .nil) = M.ret (.ret (.tup [ans, beh])) := by
        refine sqR ?_
        simp [m1, slcD, cutL, cutAt]
      exact congrFun s3 st
    rw [e]
    simp [fin, leave]
  · rw [cl_run (F := F_places_of) rfl _ _ rfl]
    show fin st.length (exSs (fr (m + 1) st.length) [some (schD ts), some (stD s), some stm] F_places_of.body st) = _
    have e : exSs (fr (m + 1) st.length) [some (schD ts), some (stD s), some stm] F_places_of.body st = .ok (.ret (.tup ps)) st := by
      refine (ss_at (expr_at (call2_at rfl rfl b))).trans ((ss_at (expr_at (call2_at rfl rfl (show cl (m + 1) 95 _ st = .ok .non st by rw [q]; rfl)))).trans ?_)
      have s3 : exSs (fr (m + 1) st.length) [some (schD ts), some (stD s), some stm] (.cons (.ret (.blt .tuple (.idx (.call 93 (.cons (.var 0) (.cons (.var 1) (.cons (.var 2) .nil)))) (.const (.int 2))))) .nil) = M.ret (.ret (.tup ps)) := by
        refine sqR ?_
        simp [m1]
      exact congrFun s3 st
    rw [e]
    simp [fin, leave]
theorem change_add {n : Nat} {st : Store} (hc : SchOk ts) (hs : SOk ts s) (ht : ts[t]? = some tb) (hr : s[t]? = some rs) (hx : ∀ x ∈ xs, ROk tb.1 x) (h1 : 1 ≤ xs.length) (h2 : xs.length ≤ 20) (h : cl (n + 11) 17 [schD ts] st = .ok .non st) :
    cl (n + 13) 96 [schD ts, stD s, addD t xs] st = .ok (.tup [addA ts s t rs xs, stD (addB ts s t rs xs)]) st ∧ cl (n + 13) 97 [schD ts, stD s, addD t xs] st = .ok (.tup ((keysI (srtR (addK ts s t rs xs))).map (plcD t))) st :=
  change_gen (m := n + 11) (need_both_ok (n := n + 4) hc hs h) (need_stm (m := n + 10) (fits_add (n := n) hc ht hx h1 h2)) (changed_by_add (n := n) hc hs ht hr hx (by omega))
/-! what repr tells of it -/
theorem putB_f {s' : St} (hs : FOk ts s) (h : FOk ts s') : FOk ts (putB ts s s' t xs) := by
  rw [putB]
  split
  · exact hs
  · exact h
theorem putA_rpr {s' : St} (hc : SchOk ts) (ht : ts[t]? = some tb) (hx : ∀ x ∈ xs, ROk tb.1 x) (few : xs.length ≤ 100) : Rpr (putA ts s' t xs) 1 50 := by
  have hlt : t < ts.length := (List.getElem?_eq_some_iff.mp ht).1
  have h4 := hc.few
  rw [putA]
  cases hl : brkF ts s' t xs with
  | none => exact (RprAll.tup (.cons (sr _ (by decide +kernel) (by decide +kernel) 0) (.cons (.int _ 0 0 (nat_small (by omega))) (.nil 0 0)))).le (by decide) (by decide)
  | some d =>
    obtain ⟨r, hr, hl⟩ := List.exists_of_findSome?_eq_some hl
    obtain ⟨i, hi, hl⟩ := List.exists_of_findSome?_eq_some hl
    rw [ht] at hi hl
    have hi : i < (rulesOf tb).length := List.mem_range.mp hi
    have e1 := List.getElem?_eq_getElem hi
    obtain ⟨z1, z2, z3⟩ := hc.rules ht
    have hu := z3 _ (List.getElem_mem hi)
    have ks := key_small (hx r (srtR_mem hr))
    have hl : brkG s' t (rulesOf tb) r i = some d := hl
    rw [brkG, e1] at hl
    generalize (rulesOf tb)[i] = rule at hu hl
    split at hl
    · cases hl
      have hh : Rpr (headD rule) 0 8 := by
        cases hu <;> exact sr _ (by decide +kernel) (by decide +kernel) 0
      exact (RprAll.tup (.cons (sr _ (by decide +kernel) (by decide +kernel) 0) (.cons hh (.cons (.int _ 0 0 (nat_small (by omega))) (.cons (.int _ 0 0 ks) (.cons (.int _ 0 0 (nat_small (by omega))) (.nil 0 0))))))).le (by decide) (by decide)
    · cases hl
theorem plcs_rpr {ks : List TR} (ht : t ≤ 1000) (hx : ∀ x ∈ ks, ROk tb.1 x) (few : ks.length ≤ 200) : ∃ x, bltD .repr (.tup ((keysI (srtR ks)).map (plcD t))) = some (.str x) := by
  refine Rpr.repr (n := 2) (w := 600) ((RprAll.tup (RprAll.of (w := 2) (n := 1) fun v hv => ?_)).le (by decide) (by rw [List.length_map, keysI, List.length_map, len_srtBy]; omega)) (by decide) (by decide)
  obtain ⟨k, hk, rfl⟩ := List.mem_map.mp hv
  obtain ⟨r, h1, rfl⟩ := List.mem_map.mp hk
  exact (RprAll.tup (.cons (.int _ 0 0 (nat_small (by omega))) (.cons (.int _ 0 0 (key_small (hx r (srtR_mem h1)))) (.nil 0 0)))).le (by decide) (by decide)
theorem dup_mem : ∀ {xs : List TR} {known : List Int} {k : Int}, dupK known xs = some k → ∃ x ∈ xs, k = x.1
  | x :: xs, known, k, h => by
    rw [dupK] at h
    split at h
    · cases h; exact ⟨x, List.mem_cons_self, rfl⟩
    · obtain ⟨y, hy, e⟩ := dup_mem h
      exact ⟨y, List.mem_cons_of_mem _ hy, e⟩
theorem add_rpr (hc : SchOk ts) (hs : SOk ts s) (ht : ts[t]? = some tb) (hr : s[t]? = some rs) (hx : ∀ x ∈ xs, ROk tb.1 x) (few : xs.length ≤ 100) :
    (∃ x, bltD .repr (.tup [addA ts s t rs xs, stD (addB ts s t rs xs)]) = some (.str x)) ∧ ∃ x, bltD .repr (.tup ((keysI (srtR (addK ts s t rs xs))).map (plcD t))) = some (.str x) := by
  have hlt : t < ts.length := (List.getElem?_eq_some_iff.mp ht).1
  have h4 := hc.few
  have ra : Rpr (addA ts s t rs xs) 1 50 := by
    rw [addA]
    cases hd : dupK (keysI rs) xs with
    | none => exact putA_rpr hc ht hx few
    | some k =>
      obtain ⟨x, hxx, rfl⟩ := dup_mem hd
      exact (RprAll.tup (.cons (sr _ (by decide +kernel) (by decide +kernel) 0) (.cons (sr _ (by decide +kernel) (by decide +kernel) 0) (.cons (.int _ 0 0 (nat_small (by omega))) (.cons (.int _ 0 0 (key_small (hx x hxx))) (.cons (.non 0 0) (.nil 0 0))))))).le (by decide) (by decide)
  have fb : FOk ts (addB ts s t rs xs) := by
    rw [addB]
    split
    · exact hs.f
    · exact putB_f hs.f (add_f hs ht hr hx few)
  refine ⟨Rpr.repr (RprAll.tup (.cons (ra.le (m := 3) (w := 50) (by decide) (by decide)) (.cons (st_rpr hc fb) (.nil 3 0)))) (by decide) (by decide), plcs_rpr (tb := tb) (by omega) (fun x h => ?_) (Nat.le_trans addK_len (by omega))⟩
  rw [addK] at h
  split at h
  · cases h
  · rw [putK] at h
    split at h
    · cases h
    · exact hx x h
end
end K22
set_option linter.all false
set_option maxRecDepth 100000
set_option maxHeartbeats 4000000
namespace K22
open Ev PySem
theorem wp_drawn {n l : Nat} {ys : List D} {st : Store} (hc : Cs ys) (hl : ys.length ≤ 5) (h : Cup st l) : Wp l (cl (n + 4) 104 [.ref l, .tup (intF :: ys)]) (fun d => ∃ x : TR, d = rowD x ∧ ROk ys x) st := by
  refine wp_def (F := F__law_drawn_row) rfl rfl ?_
  show Wp l (exSs (fr (n + 3) st.length) [some (.ref l), some (.tup (intF :: ys)), none] F__law_drawn_row.body) _ st
  generalize st.length = B
  rw [F__law_drawn_row]
  have he : evIt (fr (n + 3) B) [some (.ref l), some (.tup (intF :: ys)), none] (.val (.slc (.var 1) (.is (.const (.int 1))) .no)) = M.ret ys := by
    simp [slcD, cutL, cutAt, walkD]
  have key : Wp l (evE (fr (n + 3) B) [some (.ref l), some (.tup (intF :: ys)), none] (.tup (.cons (.call 31 (.cons (.var 0) (.cons (.bin .Add (.new (.rep (.lst (.cons (.call 30 (.cons (.var 0) (.cons (.const (.int 8)) .nil))) .nil)) (.const (.int 4)))) (.new (.lst (.cons (.neg (.const (.int 11))) (.cons (.const (.int 10)) .nil))))) .nil))) .nil))) (fun d => ∃ k : Int, d = .tup [.int k] ∧ -1000000000 ≤ k ∧ k ≤ 1000000000) st := by
    simp [okSize]
    refine wp_thn (wp_roll h (by omega)) fun r st1 h1 hr => ?_
    obtain ⟨r, rfl, r1, r2⟩ := hr
    have rl : repL [D.int r] (D.int 4) = M.ret [.int r, .int r, .int r, .int r] := by simp [repL, okSize]
    simp [okSize, binD, rl]
    refine wp_thn (wp_some h1 (by simp) (by simp)) fun d st2 h2 hd => ?_
    refine wp_ret h2 ?_
    simp [List.replicate] at hd
    rcases hd with rfl | rfl | rfl
    · exact ⟨r, rfl, by omega⟩
    · exact ⟨-11, rfl, by omega⟩
    · exact ⟨10, rfl, by omega⟩
  have main : Wp l (evE (fr (n + 3) B) [some (.ref l), some (.tup (intF :: ys)), none] (.bin .Add (.tup (.cons (.call 31 (.cons (.var 0) (.cons (.bin .Add (.new (.rep (.lst (.cons (.call 30 (.cons (.var 0) (.cons (.const (.int 8)) .nil))) .nil)) (.const (.int 4)))) (.new (.lst (.cons (.neg (.const (.int 11))) (.cons (.const (.int 10)) .nil))))) .nil))) .nil)) (.blt .tuple (.new (.comp [2] (.call 67 (.cons (.var 0) (.cons (.var 2) .nil))) (.name 2) (.val (.slc (.var 1) (.is (.const (.int 1))) .no)) .no))))) (fun d => ∃ x : TR, d = rowD x ∧ ROk ys x) st := by
    rw [evE]
    refine wp_thn key fun d st1 h1 hd => ?_
    obtain ⟨k, rfl, hk⟩ := hd
    rw [evE, evE, s_assoc, s_assoc]
    refine wp_thn (wp_cells (i := 2) hc (by omega) he (fun x => by simp) h1) fun vs st2 h2 hv => ?_
    have hz : okSize (1 + vs.length) = true := by rw [hv.len]; exact okz_lt (by omega)
    have e2 : binD .Add (.tup [.int k]) (.tup vs) = some (.tup (.int k :: vs)) := by
      simp only [binD, List.length_cons, List.length_nil, Nat.zero_add, hz, if_true]
      rfl
    refine ⟨_, st2, ?_, .refl h2, (k, vs), rfl, .cons (.inr (.inl ⟨rfl, k, rfl, hk⟩)) hv⟩
    show M.thn (M.ret (D.lst vs)) _ st2 = _
    rw [s_ret]
    show M.ofO (binD .Add (.tup [.int k]) (.tup vs)) st2 = _
    rw [e2]; rfl
  obtain ⟨d, st1, e, dr, hx⟩ := main
  refine ⟨.ret d, st1, ?_, dr, d, rfl, hx⟩
  refine ret_at ?_
  rw [exS, s_ok e]; rfl
theorem rows_of {ys : List D} {vs ds : List D} (h : All2 (fun _ d => ∃ x : TR, d = rowD x ∧ ROk ys x) vs ds) : ∃ xs : List TR, ds = xs.map rowD ∧ (∀ x ∈ xs, ROk ys x) ∧ xs.length = vs.length := by
  induction h with
  | nil => exact ⟨[], rfl, (fun x h => by cases h), rfl⟩
  | cons h r ih =>
    obtain ⟨x, rfl, hx⟩ := h
    obtain ⟨xs, rfl, h2, h3⟩ := ih
    refine ⟨x :: xs, rfl, fun y hy => ?_, by rw [List.length_cons, List.length_cons, h3]⟩
    rcases List.mem_cons.mp hy with rfl | hy
    · exact hx
    · exact h2 y hy
/-! ### one turn -/
abbrev lw (s0 s2 s3 s5 s6 s7 s10 s11 s12 : Option D) : Ev.Env := [s0, some (.ref 0), s2, s3, none, s5, s6, s7, none, none, s10, s11, s12, none, none]
abbrev lb : Ss := (.cons (.asg (.name 5) (.call 100 (.cons (.var 1) .nil)))
    (.cons (.asg (.name 3) (.ite (.cmp .Gt (.call 30 (.cons (.var 1) (.cons (.const (.int 3)) .nil))) (.const (.int 0))) (.call 103 (.cons (.var 1) (.cons (.var 5) (.cons (.const (.int 4)) .nil)))) (.call 98 (.cons (.var 1) (.cons (.var 5) (.cons (.const (.int 4)) .nil))))))
    (.cons (.asg (.name 6) (.call 30 (.cons (.var 1) (.cons (.blt .len (.var 5)) .nil))))
    (.cons (.asg (.name 7) (.tup (.cons (.const (.str "add")) (.cons (.var 6) (.cons (.blt .tuple (.new (.comp [14] (.call 104 (.cons (.var 1) (.cons (.idx (.idx (.var 5) (.var 6)) (.const (.int 0))) .nil))) (.name 14) (.rng1 (.call 31 (.cons (.var 1) (.cons (.new (.lst (.cons (.const (.int 1)) (.cons (.const (.int 1)) (.cons (.const (.int 2)) (.cons (.const (.int 3)) .nil)))))) .nil)))) .no))) .nil)))))
    (.cons (.asg (.tg (.three (.name 10) (.name 11) (.name 12))) (.call 110 (.cons (.var 5) (.cons (.var 3) (.cons (.var 7) .nil)))))
    (.cons (.iff (.or (.not (.call 105 (.cons (.call 96 (.cons (.var 5) (.cons (.var 3) (.cons (.var 7) .nil)))) (.cons (.tup (.cons (.var 10) (.cons (.var 11) .nil))) .nil)))) (.not (.call 105 (.cons (.call 97 (.cons (.var 5) (.cons (.var 3) (.cons (.var 7) .nil)))) (.cons (.var 12) .nil))))) (.cons (.ret (.const (.bl false)))
    .nil) .nil)
    .nil))))))
theorem Sch.two {ts : List Tab} (h : Sch ts) : 2 ≤ ts.length := by
  cases h <;> simp
def LwI (s0 : Option D) (ρ : Ev.Env) : Prop := ∃ s2 s3 s5 s6 s7 s10 s11 s12, ρ = lw s0 s2 s3 s5 s6 s7 s10 s11 s12
theorem run_turn {s0 s2 s3 s5 s6 s7 s10 s11 s12 : Option D} {st : Store} (h : Cup st 0) (hN : st.length = 1) :
    Wp 0 (exSs (fr 59 0) (lw s0 s2 s3 s5 s6 s7 s10 s11 s12) lb) (fun fl => ∃ ρ, fl = .next ρ ∧ LwI s0 ρ) st := by
  refine wp_seqN (P := fun fl => ∃ ts, Sch ts ∧ fl = .next (lw s0 s2 s3 (some (schD ts)) s6 s7 s10 s11 s12)) ?_ fun fl st1 c1 hN1 hp => ?_
  · refine (wp_asg (P := fun d => ∃ ts, d = schD ts ∧ Sch ts) ?_).mono fun fl hp => ?_
    · simp
      exact wp_any (n := 55) h
    · obtain ⟨d, rfl, ts, rfl, hs⟩ := hp
      exact ⟨ts, hs, rfl⟩
  obtain ⟨ts, hsch, rfl⟩ := hp
  have hc := hsch.ok
  have h2 := hsch.two
  have h4 := hc.few
  show Wp 0 (exSs (fr 59 0) (lw s0 s2 s3 (some (schD ts)) s6 s7 s10 s11 s12) (.cons _ _)) _ st1
  refine wp_seqN (P := fun fl => ∃ s, SOk ts s ∧ fl = .next (lw s0 s2 (some (stD s)) (some (schD ts)) s6 s7 s10 s11 s12)) ?_ fun fl st2 c2 hN2 hp => ?_
  · refine (wp_asg (P := fun d => ∃ s, d = stD s ∧ SOk ts s) ?_).mono fun fl hp => ?_
    · simp
      refine wp_thn (wp_roll c1 (by omega)) fun d st1 h1 hr => ?_
      obtain ⟨r, rfl, r1, r2⟩ := hr
      simp
      by_cases hr0 : 0 < r
      · rw [if_pos hr0]
        exact wp_kept (n := 48) (ts := ts) (m := 4) hc h1 (by omega)
      · rw [if_neg hr0]
        exact wp_law_rows (n := 54) (ts := ts) (m := 4) hc h1 (by omega)
    · obtain ⟨d, rfl, s, rfl, hs⟩ := hp
      exact ⟨s, hs, rfl⟩
  obtain ⟨s, hs, rfl⟩ := hp
  show Wp 0 (exSs (fr 59 0) (lw s0 s2 (some (stD s)) (some (schD ts)) s6 s7 s10 s11 s12) (.cons _ _)) _ st2
  refine wp_seqN (P := fun fl => ∃ t : Nat, t < ts.length ∧ fl = .next (lw s0 s2 (some (stD s)) (some (schD ts)) (some (.int (t : Nat))) s7 s10 s11 s12)) ?_ fun fl st3 c3 hN3 hp => ?_
  · refine (wp_asg (P := fun d => ∃ t : Nat, d = .int (t : Nat) ∧ t < ts.length) ?_).mono fun fl hp => ?_
    · simp
      refine (wp_roll c2 (many := ts.length) (by omega)).mono fun d hr => ?_
      obtain ⟨r, rfl, r1, r2⟩ := hr
      exact ⟨r.toNat, by rw [Int.toNat_of_nonneg r1], by omega⟩
    · obtain ⟨d, rfl, t, rfl, ht⟩ := hp
      exact ⟨t, ht, rfl⟩
  obtain ⟨t, ht, rfl⟩ := hp
  have e1 := List.getElem?_eq_getElem ht
  generalize hq : ts[t] = tb at e1
  have hts : t < s.length := by rw [hs.len]; exact ht
  have f1 := List.getElem?_eq_getElem hts
  generalize hq2 : s[t] = rs at f1
  have ix := tabs_ix hc e1
  obtain ⟨cs1, cs2, _⟩ := hc.tab tb (List.mem_of_getElem? e1)
  show Wp 0 (exSs (fr 59 0) (lw s0 s2 (some (stD s)) (some (schD ts)) (some (.int (t : Nat))) s7 s10 s11 s12) (.cons _ _)) _ st3
  refine wp_seqN (P := fun fl => ∃ xs : List TR, (∀ x ∈ xs, ROk tb.1 x) ∧ (1 ≤ xs.length ∧ xs.length ≤ 3) ∧ fl = .next (lw s0 s2 (some (stD s)) (some (schD ts)) (some (.int (t : Nat))) (some (addD t xs)) s10 s11 s12)) ?_ fun fl st4 c4 hN4 hp => ?_
  · refine (wp_asg (P := fun d => ∃ xs : List TR, d = addD t xs ∧ (∀ x ∈ xs, ROk tb.1 x) ∧ (1 ≤ xs.length ∧ xs.length ≤ 3)) ?_).mono fun fl hp => ?_
    · have cm : Wp 0 (evN (fr 59 0) (lw s0 s2 (some (stD s)) (some (schD ts)) (some (.int (t : Nat))) s7 s10 s11 s12) (.comp [14] (.call 104 (.cons (.var 1) (.cons (.idx (.idx (.var 5) (.var 6)) (.const (.int 0))) .nil))) (.name 14) (.rng1 (.call 31 (.cons (.var 1) (.cons (.new (.lst (.cons (.const (.int 1)) (.cons (.const (.int 1)) (.cons (.const (.int 2)) (.cons (.const (.int 3)) .nil)))))) .nil)))) .no)) (fun ds => ∃ xs : List TR, ds = xs.map rowD ∧ (∀ x ∈ xs, ROk tb.1 x) ∧ (1 ≤ xs.length ∧ xs.length ≤ 3)) st3 := by
        rw [comp_eq]
        refine wp_thn (P := fun vs => 1 ≤ vs.length ∧ vs.length ≤ 3) ?_ fun vs st4 c4 hv => ?_
        · simp [okSize]
          refine wp_thn (wp_some c3 (by simp) (by simp)) fun d st4 c4 hd => ?_
          simp only [List.mem_cons, List.not_mem_nil, or_false] at hd
          rcases hd with rfl | rfl | rfl | rfl
          all_goals
            simp [okRng]
            exact wp_ret c4 (by simp [rngUp])
        · refine wp_calm (wp_thn (wp_loop (P := fun _ d => ∃ x : TR, d = rowD x ∧ ROk tb.1 x) c4 fun x hx st' h' => ?_) fun ds st5 h5 hd => ?_)
          · show Wp 0 (M.thn (evC (fr 59 0) ((lw s0 s2 (some (stD s)) (some (schD ts)) (some (.int (t : Nat))) s7 s10 s11 s12).set 14 (some x)) .no) fun b => if b then M.thn (evE (fr 59 0) ((lw s0 s2 (some (stD s)) (some (schD ts)) (some (.int (t : Nat))) s7 s10 s11 s12).set 14 (some x)) (.call 104 (.cons (.var 1) (.cons (.idx (.idx (.var 5) (.var 6)) (.const (.int 0))) .nil)))) fun y => M.ret [y] else M.ret []) _ st'
            simp [ix]
            refine wp_thn (wp_drawn (n := 55) cs1 cs2 h') fun d st6 h6 hd => ?_
            obtain ⟨x, e, hx⟩ := hd
            exact wp_ret h6 ⟨d, rfl, x.1, x.2, e, hx⟩
          · obtain ⟨xs, rfl, hx, hlen⟩ := rows_of hd
            rw [if_pos (okz_lt (by rw [List.length_map]; omega))]
            exact wp_ret h5 ⟨xs, rfl, hx, by omega⟩
      obtain ⟨ds, st4, e, dr, xs, rfl, hx, hl⟩ := cm
      refine ⟨addD t xs, st4, ?_, dr, xs, rfl, hx, hl⟩
      rw [evE, evEs, evE, s_ret, evEs, evE, g_some (d := .int (t : Nat)) rfl, s_ret, evEs, evE, evE]
      simp only [s_assoc]
      rw [s_ok e]
      rfl
    · obtain ⟨d, rfl, xs, rfl, hx, hl⟩ := hp
      exact ⟨xs, hx, hl, rfl⟩
  obtain ⟨xs, hx, ⟨l1, l3⟩, rfl⟩ := hp
  obtain ⟨a, c, rfl⟩ := cup_one c4 (by omega)
  have lc : cl 59 110 [schD ts, stD s, addD t xs] = M.ret (.tup [addA ts s t rs xs, stD (addB ts s t rs xs), .tup ((keysI (srtR (addK ts s t rs xs))).map (plcD t))]) := law_change_add (n := 48) hc hs e1 f1 hx (by omega)
  obtain ⟨q1, q2⟩ := change_add (n := 46) hc hs e1 f1 hx l1 (by omega) (sch17 hsch a c)
  obtain ⟨rr1, rr2⟩ := add_rpr hc hs e1 f1 hx (by omega)
  have k1 := rep_same (n := 58) rr1 (fun st => rfl)
  have k2 := rep_same (n := 58) rr2 (fun st => rfl)
  have av : ∀ st, view st (addA ts s t rs xs) = addA ts s t rs xs := fun st => by
    rw [addA]
    split
    · rfl
    · exact putA_view st
  generalize addA ts s t rs xs = ans at lc q1 av k1
  generalize addB ts s t rs xs = beh at lc q1 k1
  generalize (keysI (srtR (addK ts s t rs xs))).map (plcD t) = ps at lc q2 k2
  have s5' : exS (fr 59 0) (lw s0 s2 (some (stD s)) (some (schD ts)) (some (.int (t : Nat))) (some (addD t xs)) s10 s11 s12) (.asg (.tg (.three (.name 10) (.name 11) (.name 12))) (.call 110 (.cons (.var 5) (.cons (.var 3) (.cons (.var 7) .nil))))) = M.ret (.next (lw s0 s2 (some (stD s)) (some (schD ts)) (some (.int (t : Nat))) (some (addD t xs)) (some ans) (some (stD beh)) (some (.tup ps)))) := by
    simp [lc]
  have s6' : exS (fr 59 0) (lw s0 s2 (some (stD s)) (some (schD ts)) (some (.int (t : Nat))) (some (addD t xs)) (some ans) (some (stD beh)) (some (.tup ps))) (.iff (.or (.not (.call 105 (.cons (.call 96 (.cons (.var 5) (.cons (.var 3) (.cons (.var 7) .nil)))) (.cons (.tup (.cons (.var 10) (.cons (.var 11) .nil))) .nil)))) (.not (.call 105 (.cons (.call 97 (.cons (.var 5) (.cons (.var 3) (.cons (.var 7) .nil)))) (.cons (.var 12) .nil))))) (.cons (.ret (.const (.bl false))) .nil) .nil) (cupS a c) = .ok (.next (lw s0 s2 (some (stD s)) (some (schD ts)) (some (.int (t : Nat))) (some (addD t xs)) (some ans) (some (stD beh)) (some (.tup ps)))) (cupS a c) := by
    refine (iff_at (or_ff (not_at (k := true) (callx_at (call3_at rfl rfl rfl q1) (pure_at (d := .tup [ans, stD beh]) (by simp [okSize])) ?_)) (not_at (k := true) (callx_at (call3_at rfl rfl rfl q2) (pure_at rfl) ?_)))).trans rfl
    · exact congrFun k1 (cupS a c)
    · exact congrFun k2 (cupS a c)
  refine ⟨_, _, (sq (congrFun s5' _)).trans (sq s6'), .refl c4, _, rfl, _, _, _, _, _, _, _, _, rfl⟩
end K22
set_option linter.all false
set_option maxRecDepth 100000
set_option maxHeartbeats 4000000
namespace K22
open Ev PySem
/-! ### the written schema: one table, a unique column -/
abbrev plainT : List Tab := [([intT], .tup [uniR 1])]
def prT (p : Int × Int) : TR := (p.1, [.int p.2])
theorem plain_ok : SchOk plainT := ⟨by simp, fun t ht => by
  have e : t = ([intT], .tup [uniR 1]) := by simpa using ht
  subst e
  exact ⟨cs_i true .nil, by simp, rules_of rfl (by simp) (all1 (uniq1 (c := 1) (by simp)))⟩⟩
theorem plain17 (a c : Int) : cl 57 17 [schD plainT] (cupS a c) = .ok .non (cupS a c) := by kernel_rfl
def small (p : Int × Int) : Bool := decide (-1000000000 ≤ p.1 ∧ p.1 ≤ 1000000000 ∧ -1000000000 ≤ p.2 ∧ p.2 ≤ 1000000000)
theorem pr_ok {p : Int × Int} (h : small p = true) : ROk [intT] (prT p) := by
  have h := of_decide_eq_true h
  exact .cons (.inr (.inl ⟨rfl, p.1, rfl, h.1, h.2.1⟩)) (.cons (.inr (.inl ⟨rfl, p.2, rfl, h.2.2.1, h.2.2.2⟩)) .nil)
theorem prs_ok {ps : List (Int × Int)} (h : ps.all small = true) : ∀ x ∈ ps.map prT, ROk [intT] x := fun x hx => by
  obtain ⟨p, hp, rfl⟩ := List.mem_map.mp hx
  exact pr_ok (List.all_eq_true.mp h p hp)
def rs58 : List (Int × Int) := (List.range 58).map fun i : Nat => ((i : Int), (i : Int))
abbrev s58 : St := [rs58.map prT]
theorem s58_ok : SOk plainT s58 := ⟨rfl, fun i t rs h1 h2 => by
  cases i with
  | zero =>
    have e1 : ([intT], .tup [uniR 1]) = t := by simpa using h1
    have e2 : rs58.map prT = rs := by simpa using h2
    subst e1; subst e2
    exact ⟨prs_ok (by decide +kernel), by decide +kernel, by decide +kernel⟩
  | succ i => simp at h1⟩
def fastU (tp : List (Int × Int)) (p : Int × Int) : Bool := tp.any fun q => !decide (q.1 = p.1) && decide (q.2 = p.2)
theorem brk_pr (tp : List (Int × Int)) (p : Int × Int) : brk [tp.map prT] 0 (prT p) (uniR 1) = fastU tp p := by
  have h : brk [tp.map prT] 0 (prT p) (uniR 1) = brkU (tp.map prT) (prT p) 1 := rfl
  rw [h, brkU, List.any_map]
  have c : ∀ q : Int × Int, cellAt (prT q) 1 = .int q.2 := fun q => rfl
  have f : (fun one => !eqB (.int one.1) (.int (prT p).1) && eqB (cellAt one 1) (cellAt (prT p) 1)) ∘ prT = fun q : Int × Int => !decide (q.1 = p.1) && decide (q.2 = p.2) := by
    funext q
    show (!eqB (.int q.1) (.int p.1) && eqB (cellAt (prT q) 1) (cellAt (prT p) 1)) = _
    rw [c, c, eqB_int, eqB_int]
  rw [f]
  rfl
def pairS (ps : List (Int × Int)) : List (Int × Int) := srtBy (fun p : Int × Int => p.1) ps
theorem srtR_pr (ps : List (Int × Int)) : srtR (ps.map prT) = (pairS ps).map prT := by
  show srtBy (fun r : TR => r.1) (ps.map prT) = _
  rw [pairS, ← srtBy_map (k := fun r : TR => r.1) prT ps]
  rfl
theorem addS_pr (rp xp : List (Int × Int)) : addS [rp.map prT] 0 (rp.map prT) (xp.map prT) = [(pairS (rp ++ xp)).map prT] := by
  show [srtR (rp.map prT ++ xp.map prT)] = _
  rw [← List.map_append, srtR_pr]
theorem brkL_pr (tp : List (Int × Int)) (p : Int × Int) : brkL [tp.map prT] 0 [uniR 1] (prT p) = if fastU tp p then some (.tup [S "refused", S "unique", .int 0, .int p.1, .int 0]) else none := by
  have : brkG [tp.map prT] 0 [uniR 1] (prT p) 0 = if fastU tp p then some (.tup [S "refused", S "unique", .int 0, .int p.1, .int 0]) else none := by
    show (if brk [tp.map prT] 0 (prT p) (uniR 1) then _ else none) = _
    rw [brk_pr]
    rfl
  have e : List.range [uniR 1].length = [0] := rfl
  rw [brkL, e, List.findSome?_cons, List.findSome?_nil, this]
  cases fastU tp p <;> rfl
theorem brkF_none {tp xp : List (Int × Int)} (h : (xp.all fun p => !fastU tp p) = true) : brkF plainT [tp.map prT] 0 (xp.map prT) = none := by
  show (srtR (xp.map prT)).findSome? (brkL [tp.map prT] 0 [uniR 1]) = none
  rw [List.findSome?_eq_none_iff]
  intro r hr
  obtain ⟨p, hp, rfl⟩ := List.mem_map.mp (srtR_mem hr)
  have := List.all_eq_true.mp h p hp
  rw [brkL_pr]
  cases hf : fastU tp p with
  | false => rfl
  | true => rw [hf] at this; cases this
/-! ### the four statements -/
theorem add_done {xp : List (Int × Int)} (h1 : dupK (keysI (rs58.map prT)) (xp.map prT) = none) (h2 : (xp.all fun p => !fastU (pairS (rs58 ++ xp)) p) = true) :
    addA plainT s58 0 (rs58.map prT) (xp.map prT) = doneD (xp.map prT).length ∧ addB plainT s58 0 (rs58.map prT) (xp.map prT) = [(pairS (rs58 ++ xp)).map prT] := by
  have hb := brkF_none h2
  have e := addS_pr rs58 xp
  rw [addA, addB, h1]
  constructor
  · show putA plainT (addS s58 0 (rs58.map prT) (xp.map prT)) 0 (xp.map prT) = _
    rw [show addS s58 0 (rs58.map prT) (xp.map prT) = _ from e, putA, hb]; rfl
  · show putB plainT s58 (addS s58 0 (rs58.map prT) (xp.map prT)) 0 (xp.map prT) = _
    rw [show addS s58 0 (rs58.map prT) (xp.map prT) = _ from e, putB, hb]
theorem add_dup {xp : List (Int × Int)} {k : Int} (h1 : dupK (keysI (rs58.map prT)) (xp.map prT) = some k) : addA plainT s58 0 (rs58.map prT) (xp.map prT) = dupD 0 k := by
  rw [addA, h1]
theorem change58 {xp : List (Int × Int)} (hx : xp.all small = true) (l1 : 1 ≤ xp.length) (l2 : xp.length ≤ 20) (a c : Int) : cl 59 96 [schD plainT, stD s58, addD 0 (xp.map prT)] (cupS a c) = .ok (.tup [addA plainT s58 0 (rs58.map prT) (xp.map prT), stD (addB plainT s58 0 (rs58.map prT) (xp.map prT))]) (cupS a c) :=
  (change_add (n := 46) (t := 0) (tb := ([intT], .tup [uniR 1])) (rs := rs58.map prT) plain_ok s58_ok rfl rfl (prs_ok hx) (by rw [List.length_map]; exact l1) (by rw [List.length_map]; exact l2) (plain17 a c)).1
end K22
set_option linter.all false
set_option maxRecDepth 100000
set_option maxHeartbeats 4000000
namespace K22
open Ev PySem
section
variable {C : Cfg} {ρ : Ev.Env} {st : Store}
theorem call3x_at {f i j : Nat} {e : E} {x y z d : D} (hi : ρ[i]? = some (some x)) (hj : ρ[j]? = some (some y)) (he : evE C ρ e = M.ret z) (h : C.call f [x, y, z] st = .ok d st) : evE C ρ (.call f (.cons (.var i) (.cons (.var j) (.cons e .nil)))) st = .ok d st := by
  rw [evE, evEs, evE, g_some hi, s_ret, evEs, evE, g_some hj, s_ret, evEs, he, s_ret, evEs]
  exact h
theorem idx_at {a i : E} {x y z : D} (h : evE C ρ a st = .ok x st) (hi : evE C ρ i = M.ret y) (hv : ∀ st, view st x = x) (hz : idxD x y = some z) : evE C ρ (.idx a i) st = .ok z st := by
  rw [evE, s_ok h, hi, s_ret]
  show M.ofO (idxD (view st x) y) st = _
  rw [hv, hz]; rfl
theorem tup1_ev {a : E} {x : D} (h1 : evE C ρ a = M.ret x) : evE C ρ (.tup (.cons a .nil)) = M.ret (.tup [x]) := by
  rw [evE, evEs, h1, s_ret, evEs]
  rfl
theorem tup2_ev {a b : E} {x y : D} (h1 : evE C ρ a = M.ret x) (h2 : evE C ρ b = M.ret y) : evE C ρ (.tup (.cons a (.cons b .nil))) = M.ret (.tup [x, y]) := by
  rw [evE, evEs, h1, s_ret, evEs, h2, s_ret, evEs]
  rfl
theorem cmp_at {op : CmpOp} {a b : E} {x y : D} {r : Bool} (h : evE C ρ a st = .ok x st) (hb : evE C ρ b = M.ret y) (vx : ∀ st, view st x = x) (vy : ∀ st, view st y = y) (hc : cmpD op x y = some r) : evE C ρ (.cmp op a b) st = .ok (.bl r) st := by
  rw [evE, s_ok h, hb, s_ret]
  show M.ofO (Option.map D.bl (cmpD op (view st x) (view st y))) st = _
  rw [vx, vy, hc]; rfl
end
def xpK (k : Nat) : List (Int × Int) := (List.range k).map fun i : Nat => ((100 : Int) - i, (200 : Int) + i)
def chk (k : Nat) : Bool := (dupK (keysI (rs58.map prT)) ((xpK k).map prT)).isNone && (xpK k).all (fun p => !fastU (pairS (rs58 ++ xpK k)) p) && decide (pairS (rs58 ++ xpK k) = rs58 ++ (xpK k).reverse) && (xpK k).all small
theorem chk_all : (List.range 21).all chk = true := by decide +kernel
abbrev rowsK (k : Nat) : List TR := (xpK k).map prT
abbrev lv (s0 s2 s3 s4 s5 s6 s7 : Option D) (k : Nat) (s10 s11 s12 : Option D) : Ev.Env := [s0, some (.ref 0), s2, s3, s4, s5, s6, s7, some (.int (k : Nat)), some (schD plainT), s10, s11, s12, none, none]
abbrev p3 : Ev.S := (.asg (.name 3) (.tup (.cons (.blt .tuple (.new (.comp [13] (.tup (.cons (.var 13) (.cons (.var 13) .nil))) (.name 13) (.rng1 (.const (.int 58))) .no))) .nil)))
abbrev p4 : Ev.S := (.asg (.name 4) (.blt .tuple (.new (.comp [13] (.tup (.cons (.bin .Sub (.const (.int 100)) (.var 13)) (.cons (.bin .Add (.const (.int 200)) (.var 13)) .nil))) (.name 13) (.rng1 (.var 8)) .no))))
section
variable {a c : Int} {s0 s2 s3 s4 s5 s6 s7 s10 s11 s12 : Option D} {k : Nat}
theorem wr3 : exS (fr 59 0) (lv s0 s2 s3 s4 s5 s6 s7 k s10 s11 s12) p3 (cupS a c) = .ok (.next (lv s0 s2 (some (stD s58)) s4 s5 s6 s7 k s10 s11 s12)) (cupS a c) := by kernel_rfl
theorem wr4 (hk : k ≤ 20) : exS (fr 59 0) (lv s0 s2 s3 s4 s5 s6 s7 k s10 s11 s12) p4 = M.ret (.next (lv s0 s2 s3 (some (rowsT (rowsK k))) s5 s6 s7 k s10 s11 s12)) := by
  have it : evIt (fr 59 0) (lv s0 s2 s3 s4 s5 s6 s7 k s10 s11 s12) (.rng1 (.var 8)) = M.ret ((List.range k).map encI) := by
    have okr : okRng (k : Int) = true := by
      have h1 : -(2 ^ 62) ≤ (k : Int) ∧ (k : Int) < 2 ^ 62 := by omega
      unfold okRng
      simp only [h1, and_self, decide_true]
    have e : evE (fr 59 0) (lv s0 s2 s3 s4 s5 s6 s7 k s10 s11 s12) (.var 8) = M.ret (.int (k : Nat)) := rfl
    rw [evIt, e, s_ret]
    show (if okRng (k : Int) = true then M.ret (rngUp 0 (k : Int).toNat) else M.bad) = _
    rw [if_pos okr, Int.toNat_natCast, rngUp0]
  have cm : evN (fr 59 0) (lv s0 s2 s3 s4 s5 s6 s7 k s10 s11 s12) (.comp [13] (.tup (.cons (.bin .Sub (.const (.int 100)) (.var 13)) (.cons (.bin .Add (.const (.int 200)) (.var 13)) .nil))) (.name 13) (.rng1 (.var 8)) .no) = M.ret ((List.range k).map fun i : Nat => rowD (prT ((100 : Int) - i, (200 : Int) + i))) :=
    comp_tmap it (fun i hi => by simp [turnN, encI, okSize, rowD, prT, binD]) (okz_lt (by rw [List.length_range]; omega))
  have e : (List.range k).map (fun i : Nat => rowD (prT ((100 : Int) - i, (200 : Int) + i))) = (rowsK k).map rowD := by
    rw [rowsK, xpK, List.map_map, List.map_map]; rfl
  rw [e] at cm
  refine (asg_ev (d := rowsT (rowsK k)) ?_).trans rfl
  rw [evE, new_ev cm, s_ret]
  rfl
theorem chk_at (hk : k ≤ 20) : chk k = true := List.all_eq_true.mp chk_all k (List.mem_range.mpr (by omega))
theorem wr5 (h1 : 1 ≤ k) (hk : k ≤ 20) : exS (fr 59 0) (lv s0 s2 (some (stD s58)) (some (rowsT (rowsK k))) s5 s6 s7 k s10 s11 s12) (.iff (.not (.call 105 (.cons (.call 96 (.cons (.var 9) (.cons (.var 3) (.cons (.tup (.cons (.const (.str "add")) (.cons (.const (.int 0)) (.cons (.var 4) .nil)))) .nil)))) (.cons (.tup (.cons (.tup (.cons (.const (.str "done")) (.cons (.var 8) .nil))) (.cons (.tup (.cons (.bin .Add (.idx (.var 3) (.const (.int 0))) (.rev (.var 4))) .nil)) .nil))) .nil)))) (.cons (.ret (.const (.bl false))) .nil) .nil) (cupS a c) = .ok (.next (lv s0 s2 (some (stD s58)) (some (rowsT (rowsK k))) s5 s6 s7 k s10 s11 s12)) (cupS a c) := by
  have ck := chk_at hk
  simp only [chk, Bool.and_eq_true] at ck
  obtain ⟨⟨⟨k1, k2⟩, k3⟩, k4⟩ := ck
  have k1 : dupK (keysI (rs58.map prT)) ((xpK k).map prT) = none := by simpa using k1
  have k3 := of_decide_eq_true k3
  have xl : (xpK k).length = k := by rw [xpK, List.length_map, List.length_range]
  have ch := change58 (xp := xpK k) k4 (by omega) (by omega) a c
  obtain ⟨d1, d2⟩ := add_done k1 k2
  have rp := (add_rpr (ts := plainT) (t := 0) (tb := ([intT], .tup [uniR 1])) (rs := rs58.map prT) (xs := (xpK k).map prT) plain_ok s58_ok rfl rfl (prs_ok k4) (by rw [List.length_map]; omega)).1
  rw [d1, d2, k3] at ch rp
  have due : evE (fr 59 0) (lv s0 s2 (some (stD s58)) (some (rowsT (rowsK k))) s5 s6 s7 k s10 s11 s12) (.tup (.cons (.tup (.cons (.const (.str "done")) (.cons (.var 8) .nil))) (.cons (.tup (.cons (.bin .Add (.idx (.var 3) (.const (.int 0))) (.rev (.var 4))) .nil)) .nil))) = M.ret (.tup [doneD ((xpK k).map prT).length, stD [(rs58 ++ (xpK k).reverse).map prT]]) := by
    have z : binD .Add (rowsT (rs58.map prT)) (.tup ((rowsK k).map rowD).reverse) = some (rowsT ((rs58 ++ (xpK k).reverse).map prT)) := by
      have hz : okSize (((rs58.map prT).map rowD).length + ((rowsK k).map rowD).reverse.length) = true := okz_lt (by
        have : rs58.length = 58 := by decide +kernel
        rw [List.length_map, List.length_map, List.length_reverse, List.length_map, List.length_map]; omega)
      simp only [binD, rowsT, hz, if_true, List.map_append, List.map_reverse, rowsK]
    have e3 : evE (fr 59 0) (lv s0 s2 (some (stD s58)) (some (rowsT (rowsK k))) s5 s6 s7 k s10 s11 s12) (.bin .Add (.idx (.var 3) (.const (.int 0))) (.rev (.var 4))) = M.ret (rowsT ((rs58 ++ (xpK k).reverse).map prT)) := by
      have q1 : evE (fr 59 0) (lv s0 s2 (some (stD s58)) (some (rowsT (rowsK k))) s5 s6 s7 k s10 s11 s12) (.idx (.var 3) (.const (.int 0))) = M.ret (rowsT (rs58.map prT)) := rfl
      have q2 : evE (fr 59 0) (lv s0 s2 (some (stD s58)) (some (rowsT (rowsK k))) s5 s6 s7 k s10 s11 s12) (.rev (.var 4)) = M.ret (.tup ((rowsK k).map rowD).reverse) := rfl
      rw [evE, q1, s_ret, q2, s_ret]
      funext st
      show M.ofO (binD .Add (rowsT (rs58.map prT)) (.tup ((rowsK k).map rowD).reverse)) st = _
      rw [z]; rfl
    have e4 : ((xpK k).map prT).length = k := by rw [List.length_map]; exact xl
    rw [e4]
    exact tup2_ev (tup2_ev rfl rfl) (tup1_ev e3)
  exact (iff_at (not_at (k := true) (callx_at (call3x_at (z := addD 0 ((xpK k).map prT)) rfl rfl rfl ch) (pure_at due) (congrFun (rep_same (n := 58) rp fun _ => rfl) (cupS a c))))).trans rfl
end
end K22
set_option linter.all false
set_option maxRecDepth 100000
set_option maxHeartbeats 4000000
namespace K22
open Ev PySem
abbrev x6 : List (Int × Int) := [(70, 1), (71, 1), (57, 1)]
abbrev x7 : List (Int × Int) := [(70, 1), (71, 99), (70, 98)]
abbrev x8 : List (Int × Int) := [(71, 1), (70, 2)]
section
variable {a c : Int} {s0 s2 s4 s5 s6 s7 s10 s11 s12 : Option D} {k : Nat}
theorem ans_at {xp : List (Int × Int)} {e : E} {d : D} {ρ : Ev.Env} (h9 : ρ[9]? = some (some (schD plainT))) (h3 : ρ[3]? = some (some (stD s58))) (he : evE (fr 59 0) ρ e = M.ret (addD 0 (xp.map prT))) (hx : xp.all small = true) (l1 : 1 ≤ xp.length) (l2 : xp.length ≤ 20) (hd : addA plainT s58 0 (rs58.map prT) (xp.map prT) = d) :
    evE (fr 59 0) ρ (.idx (.call 96 (.cons (.var 9) (.cons (.var 3) (.cons e .nil)))) (.const (.int 0))) (cupS a c) = .ok d (cupS a c) := by
  have ch := change58 hx l1 l2 a c
  rw [hd] at ch
  exact idx_at (call3x_at h9 h3 he ch) rfl (fun _ => rfl) rfl
theorem wr6 : exS (fr 59 0) (lv s0 s2 (some (stD s58)) s4 s5 s6 s7 k s10 s11 s12) (.iff (.cmp .NotEq (.idx (.call 96 (.cons (.var 9) (.cons (.var 3) (.cons (.tup (.cons (.const (.str "add")) (.cons (.const (.int 0)) (.cons (.tup (.cons (.tup (.cons (.const (.int 70)) (.cons (.const (.int 1)) .nil))) (.cons (.tup (.cons (.const (.int 71)) (.cons (.const (.int 1)) .nil))) (.cons (.tup (.cons (.const (.int 57)) (.cons (.const (.int 1)) .nil))) .nil)))) .nil)))) .nil)))) (.const (.int 0))) (.tup (.cons (.const (.str "refused")) (.cons (.const (.str "key")) (.cons (.const (.int 0)) (.cons (.const (.int 57)) (.cons (.const .non) .nil))))))) (.cons (.ret (.const (.bl false))) .nil) .nil) (cupS a c) = .ok (.next (lv s0 s2 (some (stD s58)) s4 s5 s6 s7 k s10 s11 s12)) (cupS a c) :=
  (iff_at (cmp_at (y := dupD 0 57) (ans_at (xp := x6) rfl rfl rfl (by decide +kernel) (by decide) (by decide) (add_dup (k := 57) (by decide +kernel))) rfl (fun _ => rfl) (fun _ => rfl) (by decide +kernel))).trans rfl
theorem wr7 : exS (fr 59 0) (lv s0 s2 (some (stD s58)) s4 s5 s6 s7 k s10 s11 s12) (.iff (.cmp .NotEq (.idx (.call 96 (.cons (.var 9) (.cons (.var 3) (.cons (.tup (.cons (.const (.str "add")) (.cons (.const (.int 0)) (.cons (.tup (.cons (.tup (.cons (.const (.int 70)) (.cons (.const (.int 1)) .nil))) (.cons (.tup (.cons (.const (.int 71)) (.cons (.const (.int 99)) .nil))) (.cons (.tup (.cons (.const (.int 70)) (.cons (.const (.int 98)) .nil))) .nil)))) .nil)))) .nil)))) (.const (.int 0))) (.tup (.cons (.const (.str "refused")) (.cons (.const (.str "key")) (.cons (.const (.int 0)) (.cons (.const (.int 70)) (.cons (.const .non) .nil))))))) (.cons (.ret (.const (.bl false))) .nil) .nil) (cupS a c) = .ok (.next (lv s0 s2 (some (stD s58)) s4 s5 s6 s7 k s10 s11 s12)) (cupS a c) :=
  (iff_at (cmp_at (y := dupD 0 70) (ans_at (xp := x7) rfl rfl rfl (by decide +kernel) (by decide) (by decide) (add_dup (k := 70) (by decide +kernel))) rfl (fun _ => rfl) (fun _ => rfl) (by decide +kernel))).trans rfl
theorem add8 : addA plainT s58 0 (rs58.map prT) (x8.map prT) = .tup [S "refused", S "unique", .int 0, .int 70, .int 0] := by
  have h1 : dupK (keysI (rs58.map prT)) (x8.map prT) = none := by decide +kernel
  have e := addS_pr rs58 x8
  have hb : brkF plainT [(pairS (rs58 ++ x8)).map prT] 0 (x8.map prT) = some (.tup [S "refused", S "unique", .int 0, .int 70, .int 0]) := by
    show (srtR (x8.map prT)).findSome? (brkL [(pairS (rs58 ++ x8)).map prT] 0 [uniR 1]) = _
    rw [srtR_pr, show pairS x8 = [(70, 2), (71, 1)] by decide +kernel, List.map_cons, List.findSome?_cons, brkL_pr, if_pos (show fastU (pairS (rs58 ++ x8)) (70, 2) = true by decide +kernel)]
  rw [addA, h1]
  show putA plainT (addS s58 0 (rs58.map prT) (x8.map prT)) 0 (x8.map prT) = _
  rw [show addS s58 0 (rs58.map prT) (x8.map prT) = _ from e, putA, hb]; rfl
theorem wr8 : exS (fr 59 0) (lv s0 s2 (some (stD s58)) s4 s5 s6 s7 k s10 s11 s12) (.ret (.cmp .Eq (.idx (.call 96 (.cons (.var 9) (.cons (.var 3) (.cons (.tup (.cons (.const (.str "add")) (.cons (.const (.int 0)) (.cons (.tup (.cons (.tup (.cons (.const (.int 71)) (.cons (.const (.int 1)) .nil))) (.cons (.tup (.cons (.const (.int 70)) (.cons (.const (.int 2)) .nil))) .nil))) .nil)))) .nil)))) (.const (.int 0))) (.tup (.cons (.const (.str "refused")) (.cons (.const (.str "unique")) (.cons (.const (.int 0)) (.cons (.const (.int 70)) (.cons (.const (.int 0)) .nil)))))))) (cupS a c) = .ok (.ret (.bl true)) (cupS a c) := by
  have e := cmp_at (C := fr 59 0) (ρ := lv s0 s2 (some (stD s58)) s4 s5 s6 s7 k s10 s11 s12) (op := .Eq) (r := true) (y := .tup [S "refused", S "unique", .int 0, .int 70, .int 0]) (b := (.tup (.cons (.const (.str "refused")) (.cons (.const (.str "unique")) (.cons (.const (.int 0)) (.cons (.const (.int 70)) (.cons (.const (.int 0)) .nil))))))) (ans_at (xp := x8) (a := a) (c := c) (e := .tup (.cons (.const (.str "add")) (.cons (.const (.int 0)) (.cons (.tup (.cons (.tup (.cons (.const (.int 71)) (.cons (.const (.int 1)) .nil))) (.cons (.tup (.cons (.const (.int 70)) (.cons (.const (.int 2)) .nil))) .nil))) .nil)))) rfl rfl rfl (by decide +kernel) (by decide) (by decide) add8) rfl (fun _ => rfl) (fun _ => rfl) (by decide +kernel)
  rw [exS, s_ok e]
  rfl
end
abbrev p2 : Ev.S := (.par [8, 9] (.cons (.bin .Add (.const (.int 1)) (.call 30 (.cons (.var 1) (.cons (.const (.int 20)) .nil)))) (.cons (.tup (.cons (.tup (.cons (.tup (.cons (.tup (.cons (.const (.str "int")) (.cons (.const (.bl false)) .nil))) (.cons (.tup (.cons (.const (.str "int")) (.cons (.const (.bl true)) .nil))) .nil))) (.cons (.tup (.cons (.tup (.cons (.const (.str "unique")) (.cons (.const (.int 1)) .nil))) .nil)) .nil))) .nil)) .nil)))
theorem plain (ns : List Int) (hn : ns.length ≤ 63) : callN T.P fuel T.exmF depth 111 [.lst (ns.map .int)] [] = .ok (.bl true) [] := by
  show cl (59 + 1) 111 [.lst (ns.map .int)] [] = _
  rw [cl_run (F := F_law) rfl _ _ rfl]
  obtain ⟨a, c, e1, ha, hc0, hc1⟩ := cup_ok (n := 58) ns hn
  have hcup : Cup [.lst [.int a, .int c]] 0 := ⟨a, c, rfl, ha, hc0, hc1⟩
  generalize hs0 : (D.lst (ns.map .int)) = dn at e1
  have s1 : exS (fr 59 0) [some dn, none, none, none, none, none, none, none, none, none, none, none, none, none, none] (.asg (.name 1) (.call 29 (.cons (.var 0) .nil))) [] = .ok (.next (lw (some dn) none none none none none none none none)) [.lst [.int a, .int c]] := by
    simp only [exS, evE, evEs, s_ret, s_assoc]
    rw [g_some (d := dn) rfl, s_ret]
    rw [s_ok e1]
    rfl
  show fin 0 (exSs (fr 59 0) [some dn, none, none, none, none, none, none, none, none, none, none, none, none, none, none] (.cons (.asg (.name 1) (.call 29 (.cons (.var 0) .nil))) (.cons (.for (.name 2) (.rng1 (.const (.int 4))) lb) (.cons p2 (dropS 3 F_law.body)))) []) = _
  rw [sq s1]
  have w : Wp 0 (exS (fr 59 0) (lw (some dn) none none none none none none none none) (.for (.name 2) (.rng1 (.const (.int 4))) lb)) (fun fl => ∃ ρ, fl = .next ρ ∧ LwI (some dn) ρ) [.lst [.int a, .int c]] := by
    have it : evIt (fr 59 0) (lw (some dn) none none none none none none none none) (.rng1 (.const (.int 4))) = M.ret (rngUp 0 4) := by
      simp [okRng]
    rw [exS, it, s_ret]
    refine wp_for (N := 1) (LwI (some dn)) (fun i v hv ρ st' hc hN hI => ?_) hcup rfl ⟨_, _, _, _, _, _, _, _, rfl⟩
    obtain ⟨s2, s3, s5, s6, s7, s10, s11, s12, rfl⟩ := hI
    exact run_turn (s2 := some v) hc hN
  obtain ⟨fl, st1, e2, dr, ρ, rfl, s2, s3, s5, s6, s7, s10, s11, s12, rfl⟩ := w
  rw [sq e2]
  have w3 : Wp 0 (exS (fr 59 0) (lw (some dn) s2 s3 s5 s6 s7 s10 s11 s12) p2) (fun fl => ∃ k : Nat, fl = .next (lv (some dn) s2 s3 none s5 s6 s7 k s10 s11 s12) ∧ (1 ≤ k ∧ k ≤ 20)) st1 := by
    simp [okSize]
    refine wp_thn (wp_roll dr.cup (by omega)) fun d st1 h1 hr => ?_
    obtain ⟨r, rfl, r1, r2⟩ := hr
    simp [binD]
    refine wp_ret h1 ⟨r.toNat + 1, ?_, by omega⟩
    have : (1 + r : Int) = ((r.toNat + 1 : Nat) : Int) := by omega
    rw [this]
    rfl
  obtain ⟨fl, st3, e3, dr3, k, rfl, hk1, hk2⟩ := w3
  rw [sq e3]
  obtain ⟨a', c', rfl⟩ := cup_one dr3.cup (by rw [dr3.len, dr.len]; rfl)
  have r0 : exSs (fr 59 0) (lv (some dn) s2 s3 none s5 s6 s7 k s10 s11 s12) (dropS 3 F_law.body) (cupS a' c') = .ok (.ret (.bl true)) (cupS a' c') :=
    (sq wr3).trans ((sq (congrFun (wr4 hk2) _)).trans ((sq (wr5 hk1 hk2)).trans ((sq wr6).trans ((sq wr7).trans (ret_at wr8)))))
  rw [r0]
  rfl
end K22
set_option linter.all false
set_option maxRecDepth 100000
set_option maxHeartbeats 0
open PySem PySem.W PySem.Calls PyProof.Rows

theorem PySem.Challenge.cw_snapshothall_k22_rows_added_holds : PySem.Challenge.rw_snapshothall_k22_rows_added.Holds := by
  w_on; o_law
  refine HandSHeadRun.head_any (r := OpenLaw.row PySem.Challenge.rw_snapshothall_k22_rows_added) (q := view (OpenLaw.row PySem.Challenge.rw_snapshothall_k22_rows_added).prog [60, 63, 82, 91, 95]) (H := K22.hk) (ob := K22.ob) (M := 15000) (loose := K22.loose) (d := HandSHeadRun.topDef (OpenLaw.row PySem.Challenge.rw_snapshothall_k22_rows_added).prog 95) (kwd := []) K22.ob_eq
    (by kernel_rfl) (fun s => by kernel_rfl) K22.run (by kernel_rfl) (by kernel_rfl) (by kernel_rfl) (by rfl) (by first | assumption | decide +kernel) (by decide +kernel) ⟨rfl, rfl, rfl, rfl, rfl, by decide +kernel⟩ ?hw ?hc
  case hw => w_witness2
  case hc =>
    refine Ev.claim_holds (l := PySem.Challenge.rw_snapshothall_k22_rows_added) (n := 63) (k := 3 * K22.depth) (f := 111) (F := K22.F_law) (x := "script") (gq := K22.T.rp) (call := Ev.callN K22.T.P K22.fuel K22.T.exmF K22.depth) rfl (by decide) (by kernel_rfl) ⟨rfl, by decide, by decide⟩ rfl (by kernel_rfl) K22.plain ?_
    rintro w mg h ⟨K, inK, hf, hd⟩ G
    obtain ⟨c1, c2, c3⟩ := Ev.cs_ok (q := view (OpenLaw.row PySem.Challenge.rw_snapshothall_k22_rows_added).prog [60, 63, 82, 91, 95]) hf (by kernel_rfl)
    exact ⟨K, _, _, _, inK, c1, c2, c3, fun base kb nb tb => Ev.calls (Ev.head_of inK G hf hd K22.ds K22.ws tb) K22.depth 111 K22.F_law rfl⟩
