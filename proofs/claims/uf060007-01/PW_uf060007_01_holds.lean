import PyProof.Rows.All
import PyProof.StrCalls2
import Wide.All
import Open.Line
import Open.Pieces
import KE.KDictList
import PySem.Challenge.RW_uf060007_01
set_option Elab.async false
set_option linter.unusedSimpArgs false
set_option linter.unusedVariables false
set_option linter.all false
set_option autoImplicit false
set_option genInjectivity false
set_option genSizeOf false
namespace Lar
open PySem

set_option genInjectivity true in
/-- abstract values -/
inductive V where
  | none
  | bool (b : Bool)
  | int (i : Int)
  | str (s : Str)
  | tup (l : List V)
  | ref (n : Nat)
  | ro (l : List Int)

set_option genInjectivity true in
/-- mutable objects -/
inductive MObj where
  | lst (l : List V)
  | di (l : List (Int × V))
  | ds (l : List (Str × V))
  | own

abbrev Sto := List MObj
/-- locals by slots -/
abbrev Loc := Nat → Option V
noncomputable def upd (ρ : Loc) (i : Nat) (v : V) : Loc := fun j => if j = i then some v else ρ j

inductive Prim where
  | len | sum | min2 | max2 | min1 | max1 | minD | tuple | list | str | int
  | isInt | isBool | isTuple | isStr | isList
  | sorted
inductive Meth where
  | append | extend | find | get | join
inductive Tgt where
  | one (i : Nat)
  | two (i j : Nat)

mutual
inductive CE where
  | cst (v : V)
  | var (i : Nat)
  | bin (op : Operator) (a b : CE)
  | cmp (op : CmpOp) (a b : CE)
  | not (a : CE)
  | neg (a : CE)
  | and (a b : CE)
  | or (a b : CE)
  | ite (t a b : CE)
  | list (es : CEs)
  | tuple (es : CEs)
  | dict0
  | idx (a i : CE)
  | slc (a lo hi : CE)
  | call (f : Nat) (as : CEs)
  | prim (p : Prim) (as : CEs)
  | meth (m : Meth) (o : CE) (as : CEs)
  | comp (elt : CE) (t : Tgt) (it : CIt) (ifs : CEs)
inductive CEs where
  | nil
  | cons (e : CE) (r : CEs)
inductive CIt where
  | ex (e : CE)
  | rng1 (a : CE)
  | rng2 (a b : CE)
end

mutual
inductive CS where
  | assign (t : Tgt) (e : CE)
  | setItem (o i v : CE)
  | expr (e : CE)
  | ite (c : CE) (t e : CSs)
  | for_ (t : Tgt) (it : CIt) (body : CSs)
  | ret (e : CE)
inductive CSs where
  | nil
  | cons (s : CS) (r : CSs)
end

set_option genInjectivity true in
inductive Flow where
  | next
  | ret (v : V)
  | exc (c : Nat) (w : Str)
set_option genInjectivity true in
inductive Res where
  | ok (v : V)
  | exc (c : Nat) (w : Str)

noncomputable def szLine : Nat := 16777216
noncomputable def mulOk (a b : Int) : Bool := decide (a.natAbs < 18446744073709551616) || decide (b.natAbs < 18446744073709551616)

/-- the kinds of values, one by one -/
noncomputable def asI : V → Option Int
  | .int i => some i
  | _ => none
noncomputable def asB : V → Option Bool
  | .bool b => some b
  | _ => none
noncomputable def asS : V → Option Str
  | .str x => some x
  | _ => none
noncomputable def asT : V → Option (List V)
  | .tup l => some l
  | _ => none
noncomputable def asR : V → Option Nat
  | .ref r => some r
  | _ => none
noncomputable def asL : MObj → Option (List V)
  | .lst l => some l
  | _ => none
noncomputable def asDs : MObj → Option (List (Str × V))
  | .ds l => some l
  | _ => none
noncomputable def isN : V → Bool
  | .none => true
  | _ => false

/-- one step, then another -/
noncomputable def bnd {α β : Type} (m : Option (α × Sto)) (k : α → Sto → Option β) : Option β := match m with
  | none => none
  | some p => k p.1 p.2
noncomputable def bnd3 {α β γ : Type} (m : Option (α × β × Sto)) (k : α → β → Sto → Option γ) : Option γ := match m with
  | none => none
  | some p => k p.1 p.2.1 p.2.2
noncomputable def bndB {β : Type} (m : Option (V × Sto)) (k : Bool → Sto → Option β) : Option β := bnd m fun x σ => (asB x).bind fun b => k b σ
noncomputable def bndI {β : Type} (m : Option (V × Sto)) (k : Int → Sto → Option β) : Option β := bnd m fun x σ => (asI x).bind fun b => k b σ

noncomputable def lst (σ : Sto) (r : Nat) : Option (List V) := (σ[r]?).bind asL
noncomputable def ds (σ : Sto) (r : Nat) : Option (List (Str × V)) := (σ[r]?).bind asDs
/-- the value under a key; a pair stored -/
noncomputable def dget {κ : Type} [DecidableEq κ] : List (κ × V) → κ → Option V
  | [], _ => none
  | (a, b) :: r, k => if a = k then some b else dget r k
noncomputable def dput {κ : Type} [DecidableEq κ] : List (κ × V) → κ → V → List (κ × V)
  | [], k, v => [(k, v)]
  | (a, b) :: r, k, v => if a = k then (a, v) :: r else (a, b) :: dput r k v
noncomputable def new (σ : Sto) (l : List V) : Option (V × Sto) := if l.length ≤ szLine then some (.ref σ.length, σ ++ [.lst l]) else none
noncomputable def newT (σ : Sto) (l : List V) : Option (V × Sto) := if l.length ≤ szLine then some (.tup l, σ) else none
noncomputable def newS (σ : Sto) (x : Str) : Option (V × Sto) := if x.length ≤ szLine then some (.str x, σ) else none

noncomputable def rep {α : Type} (l : List α) : Nat → List α
  | 0 => []
  | n + 1 => l ++ rep l n

noncomputable def addop (a b : V) (σ : Sto) : Option (V × Sto) := match a with
  | .int x => (asI b).bind fun y => some (.int (x + y), σ)
  | .str x => (asS b).bind fun y => if x.length + y.length ≤ szLine then some (.str (x ++ y), σ) else none
  | .tup x => (asT b).bind fun y => newT σ (x ++ y)
  | .ref i => (asR b).bind fun j => (lst σ i).bind fun x => (lst σ j).bind fun y => new σ (x ++ y)
  | _ => none
noncomputable def mulop (a b : V) (σ : Sto) : Option (V × Sto) := (asI b).bind fun n => match a with
  | .int x => if mulOk x n then some (.int (x * n), σ) else none
  | .tup x => if 2 ≤ n ∧ n ≤ 100000 ∧ x ≠ [] ∧ x.length ≤ 100 then newT σ (rep x n.toNat) else none
  | .ref i => (lst σ i).bind fun x => if 0 ≤ n ∧ n ≤ 100000 ∧ x.length ≤ 100 then new σ (rep x n.toNat) else none
  | _ => none
noncomputable def intop (f : Int → Int → Option Int) (a b : V) (σ : Sto) : Option (V × Sto) := (asI a).bind fun x => (asI b).bind fun y => (f x y).bind fun z => some (.int z, σ)
noncomputable def subI (x y : Int) : Option Int := some (x - y)
noncomputable def divI (x y : Int) : Option Int := if y = 0 ∨ 1073741824 ≤ y.natAbs then none else some (x.fdiv y)
noncomputable def modI (x y : Int) : Option Int := if y = 0 then none else some (x.fmod y)
noncomputable def binop (op : Operator) (a b : V) (σ : Sto) : Option (V × Sto) := match op with
  | .Add => addop a b σ
  | .Mult => mulop a b σ
  | .Sub => intop subI a b σ
  | .FloorDiv => intop divI a b σ
  | .Mod => intop modI a b σ
  | _ => none

/-- all pairs, then the lengths -/
noncomputable def eqAll (f : V → V → Option Bool) : List V → List V → Option Bool
  | [], m => some m.isEmpty
  | x :: xs, m => match m with
    | [] => some false
    | y :: ys => (f x y).bind fun a => (eqAll f xs ys).bind fun b => some (a && b)
/-- Python's == on store-free data -/
noncomputable def eqNone : V → Option Bool
  | .none => some true
  | .int _ => some false
  | .tup _ => some false
  | _ => none
noncomputable def eqInt (x : Int) : V → Option Bool
  | .int y => some (x == y)
  | .none => some false
  | _ => none
noncomputable def eqTup (f : V → V → Option Bool) (l : List V) : V → Option Bool
  | .tup m => eqAll f l m
  | .none => some false
  | _ => none
noncomputable def eqN : Nat → V → V → Option Bool
  | 0, _, _ => none
  | n + 1, a, b => match a with
    | .none => eqNone b
    | .bool p => (asB b).bind fun q => some (p == q)
    | .int x => eqInt x b
    | .str x => (asS b).bind fun y => some (x == y)
    | .tup l => eqTup (eqN n) l b
    | _ => none
noncomputable def eqV (a b : V) : Option Bool := eqN 6 a b
noncomputable def eqVs (a b : List V) : Option Bool := eqAll eqV a b
noncomputable def eqLst (σ : Sto) (x : List V) : V → Option Bool
  | .ref j => (lst σ j).bind fun y => if x.length = y.length then (if x.length = 0 then some true else eqVs x y) else some false
  | .tup _ => some false
  | .none => some false
  | _ => none
/-- a tuple or None on the left -/
noncomputable def eqRef (σ : Sto) (a b : V) : Option Bool := match asR b with
  | some j => (lst σ j).bind fun _ => some false
  | none => eqV a b
noncomputable def pyEq (σ : Sto) (a b : V) : Option Bool := match a with
  | .ref i => (lst σ i).bind fun x => eqLst σ x b
  | .tup l => eqRef σ (.tup l) b
  | .none => eqRef σ .none b
  | a => eqV a b
theorem eq_nil {σ : Sto} {r q : Nat} {l : List V} (h1 : lst σ r = some l) (h2 : lst σ q = some []) : pyEq σ (.ref r) (.ref q) = some (decide (l.length = 0)) := by
  show (lst σ r).bind (fun x => eqLst σ x (.ref q)) = _
  rw [h1]
  show (lst σ q).bind _ = _
  rw [h2]
  cases l <;> rfl

noncomputable def intcmp (f : Int → Int → Bool) (a b : V) : Option Bool := (asI a).bind fun x => (asI b).bind fun y => some (f x y)
noncomputable def isop (a b : V) : Option Bool := match b with
  | .none => some (isN a)
  | _ => none
noncomputable def isnop (a b : V) : Option Bool := match b with
  | .none => some (!isN a)
  | .bool q => (asB a).bind fun p => some (p != q)
  | _ => none
noncomputable def cmpop (op : CmpOp) (a b : V) (σ : Sto) : Option Bool := match op with
  | .Eq => pyEq σ a b
  | .NotEq => (pyEq σ a b).bind fun c => some (!c)
  | .Lt => intcmp (fun x y => decide (x < y)) a b
  | .LtE => intcmp (fun x y => decide (x ≤ y)) a b
  | .Gt => intcmp (fun x y => decide (y < x)) a b
  | .GtE => intcmp (fun x y => decide (y ≤ x)) a b
  | .Is => isop a b
  | .IsNot => isnop a b
  | .In => none
  | .NotIn => none

noncomputable def idxL (l : List V) (i : V) : Option V := (asI i).bind fun k => if 0 ≤ k then l[k.toNat]? else none
noncomputable def idxM (i : V) : MObj → Option V
  | .lst l => idxL l i
  | .di l => (asI i).bind (dget l)
  | .ds l => (asS i).bind (dget l)
  | .own => none
noncomputable def idxop (a i : V) (σ : Sto) : Option V := match a with
  | .tup l => idxL l i
  | .str x => (asI i).bind fun k => if 0 ≤ k ∧ k < 4611686018427387904 then (x.cps[k.toNat]?).bind (fun c => some (.str ⟨#[c]⟩)) else none
  | .ref r => (σ[r]?).bind (idxM i)
  | _ => none

noncomputable def loOf : V → Option Nat
  | .none => some 0
  | .int k => if 0 ≤ k ∧ k < 4611686018427387904 then some k.toNat else none
  | _ => none
noncomputable def hiOf (n : Nat) : V → Option Nat
  | .none => some n
  | .int k => if 0 ≤ k ∧ k < 4611686018427387904 then some (min n k.toNat) else none
  | _ => none
noncomputable def cut {α : Type} (l : List α) (lo hi : Nat) : List α := (l.take hi).drop lo
noncomputable def slcop (a lo hi : V) (σ : Sto) : Option (V × Sto) := match a with
  | .tup l => (loOf lo).bind fun i => (hiOf l.length hi).bind fun j => newT σ (cut l i j)
  | .str x => (loOf lo).bind fun i => (hiOf x.length hi).bind fun j => newS σ ⟨(cut x.cps.toList i j).toArray⟩
  | _ => none

/-- items of a sequence, and the lists that must not change meanwhile -/
noncomputable def seqOf (σ : Sto) : V → Option (List V × List (Nat × MObj))
  | .tup l => some (l, [])
  | .ro l => some (l.map .int, [])
  | .ref r => (lst σ r).bind fun l => some (l, [(r, .lst l)])
  | _ => none
noncomputable def intsOf : List V → Option (List Int)
  | [] => some []
  | v :: r => (asI v).bind fun i => (intsOf r).bind fun l => some (i :: l)
noncomputable def Rising (l : List Str) : Prop := l.Pairwise fun a b => ¬ (b.cps.toList < a.cps.toList)
open Classical in
noncomputable def sortS (l : List Str) : List Str := if h : ∃ m : List Str, m.Perm l ∧ Rising m then choose h else l

noncomputable def arg1 (f : V → Option (V × Sto)) : List V → Option (V × Sto)
  | [] => none
  | a :: r => if r.isEmpty then f a else none
noncomputable def arg2 (f : V → V → Option (V × Sto)) : List V → Option (V × Sto)
  | [] => none
  | a :: r => arg1 (f a) r
/-- over the ints of a sequence -/
noncomputable def onInts (σ : Sto) (f : List Int → Option V) (a : V) : Option (V × Sto) := (seqOf σ a).bind fun p => (intsOf p.1).bind fun ns => (f ns).bind fun v => some (v, σ)
noncomputable def onTwo (σ : Sto) (f : Int → Int → Int) (a b : V) : Option (V × Sto) := (asI a).bind fun x => (asI b).bind fun y => some (.int (f x y), σ)
noncomputable def pLen (σ : Sto) : V → Option (V × Sto)
  | .str x => if x.length ≤ szLine then some (.int x.length, σ) else none
  | a => (seqOf σ a).bind fun p => some (.int p.1.length, σ)
inductive Knd where
  | none | bool | int | str | tup | lst
/-- what isinstance looks at -/
noncomputable def kndOf (σ : Sto) : V → Option Knd
  | .none => some .none
  | .bool _ => some .bool
  | .int _ => some .int
  | .str _ => some .str
  | .tup _ => some .tup
  | .ref r => (lst σ r).bind fun _ => some .lst
  | .ro _ => none
noncomputable def Knd.isInt : Knd → Bool
  | .int => true
  | .bool => true
  | _ => false
noncomputable def Knd.isBool : Knd → Bool
  | .bool => true
  | _ => false
noncomputable def Knd.isTup : Knd → Bool
  | .tup => true
  | _ => false
noncomputable def Knd.isStr : Knd → Bool
  | .str => true
  | _ => false
noncomputable def Knd.isLst : Knd → Bool
  | .lst => true
  | _ => false
noncomputable def pIs (σ : Sto) (f : Knd → Bool) (a : V) : Option (V × Sto) := (kndOf σ a).bind fun k => some (.bool (f k), σ)
noncomputable def primop (p : Prim) (as : List V) (σ : Sto) : Option (V × Sto) := match p with
  | .len => arg1 (pLen σ) as
  | .sum => arg1 (onInts σ fun ns => some (.int (ns.foldl (· + ·) 0))) as
  | .min2 => arg2 (onTwo σ min) as
  | .max2 => arg2 (onTwo σ max) as
  | .max1 => none
  | .min1 => none
  | .minD => none
  | .tuple => arg1 (fun a => (asR a).bind fun r => (lst σ r).bind fun l => newT σ l) as
  | .list => arg1 (fun a => (asT a).bind fun l => new σ l) as
  | .str => none
  | .int => arg1 (fun a => (asB a).bind fun b => some (.int (if b then 1 else 0), σ)) as
  | .isInt => arg1 (pIs σ Knd.isInt) as
  | .isBool => arg1 (pIs σ Knd.isBool) as
  | .isTuple => arg1 (pIs σ Knd.isTup) as
  | .isStr => arg1 (pIs σ Knd.isStr) as
  | .isList => arg1 (pIs σ Knd.isLst) as
  | .sorted => arg1 (fun a => (asR a).bind fun r => (ds σ r).bind fun l => if l.length < 64 then new σ ((sortS (l.map (·.1))).map .str) else none) as

noncomputable def mAppend (σ : Sto) (o x : V) : Option (V × Sto) := (asR o).bind fun r => (lst σ r).bind fun l => if l.length ≤ szLine then some (.none, σ.set r (.lst (l ++ [x]))) else none
noncomputable def mFind (σ : Sto) (o x : V) : Option (V × Sto) := (asS o).bind fun a => (asS x).bind fun b => some (.int (Txt.find a b), σ)
noncomputable def mGet (σ : Sto) (o k d : V) : Option (V × Sto) := (asR o).bind fun r => (asS k).bind fun k => (ds σ r).bind fun l => some ((dget l k).getD d, σ)
noncomputable def methop (m : Meth) (o : V) (as : List V) (σ : Sto) : Option (V × Sto) := match m with
  | .append => arg1 (mAppend σ o) as
  | .extend => none
  | .find => arg1 (mFind σ o) as
  | .get => arg2 (mGet σ o) as
  | .join => none

/-- what a method is called on, looked at ahead of the arguments -/
noncomputable def recv (m : Meth) (o : V) (σ : Sto) : Bool := match m with
  | .append => ((asR o).bind (lst σ)).isSome
  | .extend => ((asR o).bind (lst σ)).isSome
  | .find => (asS o).isSome
  | .join => (asS o).isSome
  | .get => ((asR o).bind (ds σ)).isSome

noncomputable def setDs (σ : Sto) (r : Nat) (l : List (Str × V)) (v : V) : V → Option Sto
  | .str k => if l.length ≤ szLine then some (σ.set r (.ds (dput l k v))) else none
  | .int k => if l.isEmpty then some (σ.set r (.di [(k, v)])) else none
  | _ => none
noncomputable def setM (σ : Sto) (r : Nat) (i v : V) : MObj → Option Sto
  | .lst l => (asI i).bind fun k => if 0 ≤ k ∧ k.toNat < l.length then some (σ.set r (.lst (l.set k.toNat v))) else none
  | .di l => (asI i).bind fun k => if l.length ≤ szLine then some (σ.set r (.di (dput l k v))) else none
  | .ds l => setDs σ r l v i
  | .own => none
noncomputable def setop (o i v : V) (σ : Sto) : Option Sto := (asR o).bind fun r => (σ[r]?).bind (setM σ r i v)

noncomputable def asPair : V → Option (V × V)
  | .tup l => match l with
    | [a, b] => some (a, b)
    | _ => none
  | _ => none
noncomputable def Tgt.put (t : Tgt) (x : V) (ρ : Loc) : Option Loc := match t with
  | .one i => some (upd ρ i x)
  | .two i j => (asPair x).bind fun p => some (upd (upd ρ i p.1) j p.2)

noncomputable def watchOk (σ : Sto) (w : List (Nat × MObj)) : Prop := ∀ p ∈ w, σ[p.1]? = some p.2

noncomputable def rangeN (a b c : Int) : Nat := (if c > 0 then (if a < b then (b - a - 1) / c + 1 else 0) else (if a > b then (a - b - 1) / (-c) + 1 else 0)).toNat
noncomputable def rangeL (a b c : Int) : List V := (List.range (rangeN a b c)).map fun (i : Nat) => .int (a + (i : Int) * c)
noncomputable def smallI (a : Int) : Bool := decide (-1000000000 ≤ a) && decide (a ≤ 1000000000)

abbrev CallF := Nat → List V → Sto → Option (Res × Sto)
abbrev Ex := Option (Flow × Loc × Sto)

/-- a block's part, then the rest unless it left -/
noncomputable def seqF (m : Ex) (k : Loc → Sto → Ex) : Ex := bnd3 m fun f ρ σ => match f with
  | .next => k ρ σ
  | .ret v => some (.ret v, ρ, σ)
  | .exc c w => some (.exc c w, ρ, σ)
noncomputable def bndX (m : Option (Res × Sto)) (ρ : Loc) (k : V → Sto → Ex) : Ex := bnd m fun r σ => match r with
  | .ok v => k v σ
  | .exc c w => some (.exc c w, ρ, σ)
noncomputable def okV : Res → Option V
  | .ok v => some v
  | .exc _ _ => none

open Classical in
noncomputable def guardW {β : Type} (σ : Sto) (w : List (Nat × MObj)) (x : Option β) : Option β := if watchOk σ w then x else none
noncomputable def loopC (body : Loc → Sto → Ex) (t : Tgt) (w : List (Nat × MObj)) : List V → Loc → Sto → Ex
  | [], ρ, σ => guardW σ w (some (.next, ρ, σ))
  | x :: xs, ρ, σ => guardW σ w ((t.put x ρ).bind fun ρ' => seqF (body ρ' σ) fun ρ'' σ'' => loopC body t w xs ρ'' σ'')
noncomputable def compL (elt : Loc → Sto → Option (V × Sto)) (cond : Loc → Sto → Option (Bool × Sto)) (t : Tgt) (w : List (Nat × MObj)) : List V → Loc → Sto → Option (List V × Sto)
  | [], _, σ => guardW σ w (some ([], σ))
  | x :: xs, ρ, σ => guardW σ w ((t.put x ρ).bind fun ρ' => bnd (cond ρ' σ) fun b σ₁ => if b then bnd (elt ρ' σ₁) fun v σ₂ => bnd (compL elt cond t w xs ρ σ₂) fun l σ₃ => some (v :: l, σ₃) else compL elt cond t w xs ρ σ₁)

mutual
noncomputable def evalC (call : CallF) : CE → Loc → Sto → Option (V × Sto)
  | .cst v, _, σ => some (v, σ)
  | .var i, ρ, σ => (ρ i).bind fun v => some (v, σ)
  | .bin op a b, ρ, σ => bnd (evalC call a ρ σ) fun x σ₁ => bnd (evalC call b ρ σ₁) fun y σ₂ => binop op x y σ₂
  | .cmp op a b, ρ, σ => bnd (evalC call a ρ σ) fun x σ₁ => bnd (evalC call b ρ σ₁) fun y σ₂ => (cmpop op x y σ₂).bind fun r => some (.bool r, σ₂)
  | .not a, ρ, σ => bndB (evalC call a ρ σ) fun b σ₁ => some (.bool (!b), σ₁)
  | .neg a, ρ, σ => bndI (evalC call a ρ σ) fun i σ₁ => some (.int (-i), σ₁)
  | .and a b, ρ, σ => bndB (evalC call a ρ σ) fun p σ₁ => if p then evalC call b ρ σ₁ else some (.bool false, σ₁)
  | .or a b, ρ, σ => bndB (evalC call a ρ σ) fun p σ₁ => if p then some (.bool true, σ₁) else evalC call b ρ σ₁
  | .ite t a b, ρ, σ => bndB (evalC call t ρ σ) fun p σ₁ => if p then evalC call a ρ σ₁ else evalC call b ρ σ₁
  | .list es, ρ, σ => bnd (evalCs call es ρ σ) fun vs σ₁ => new σ₁ vs
  | .tuple es, ρ, σ => bnd (evalCs call es ρ σ) fun vs σ₁ => newT σ₁ vs
  | .dict0, _, σ => some (.ref σ.length, σ ++ [.ds []])
  | .idx a i, ρ, σ => bnd (evalC call a ρ σ) fun x σ₁ => bnd (evalC call i ρ σ₁) fun y σ₂ => (idxop x y σ₂).bind fun r => some (r, σ₂)
  | .slc a lo hi, ρ, σ => bnd (evalC call a ρ σ) fun x σ₁ => bnd (evalC call lo ρ σ₁) fun y σ₂ => bnd (evalC call hi ρ σ₂) fun z σ₃ => slcop x y z σ₃
  | .call f as, ρ, σ => bnd (evalCs call as ρ σ) fun vs σ₁ => bnd (call f vs σ₁) fun r σ₂ => (okV r).bind fun v => some (v, σ₂)
  | .prim p as, ρ, σ => bnd (evalCs call as ρ σ) fun vs σ₁ => primop p vs σ₁
  | .meth m o as, ρ, σ => bnd (evalC call o ρ σ) fun x σ₁ => if recv m x σ₁ then bnd (evalCs call as ρ σ₁) fun vs σ₂ => methop m x vs σ₂ else none
  | .comp elt t it ifs, ρ, σ => bnd3 (srcC call it ρ σ) fun xs w σ₁ => bnd (compL (evalC call elt) (testCs call ifs) t w xs ρ σ₁) fun l σ₂ => new σ₂ l
noncomputable def testCs (call : CallF) : CEs → Loc → Sto → Option (Bool × Sto)
  | .nil, _, σ => some (true, σ)
  | .cons e r, ρ, σ => bndB (evalC call e ρ σ) fun b σ₁ => if b then testCs call r ρ σ₁ else some (false, σ₁)
noncomputable def evalCs (call : CallF) : CEs → Loc → Sto → Option (List V × Sto)
  | .nil, _, σ => some ([], σ)
  | .cons e r, ρ, σ => bnd (evalC call e ρ σ) fun v σ₁ => bnd (evalCs call r ρ σ₁) fun vs σ₂ => some (v :: vs, σ₂)
noncomputable def srcC (call : CallF) : CIt → Loc → Sto → Option (List V × List (Nat × MObj) × Sto)
  | .ex e, ρ, σ => bnd (evalC call e ρ σ) fun x σ₁ => (seqOf σ₁ x).bind fun p => some (p.1, p.2, σ₁)
  | .rng1 a, ρ, σ => bndI (evalC call a ρ σ) fun n σ₁ => if smallI n then some (rangeL 0 n 1, [], σ₁) else none
  | .rng2 a b, ρ, σ => bndI (evalC call a ρ σ) fun m σ₁ => bndI (evalC call b ρ σ₁) fun n σ₂ => if smallI m && smallI n then some (rangeL m n 1, [], σ₂) else none
end

/-- a condition -/
noncomputable def testC (call : CallF) (e : CE) (ρ : Loc) (σ : Sto) : Option (Bool × Sto) := bndB (evalC call e ρ σ) fun b σ₁ => some (b, σ₁)

noncomputable def whileFuel : Nat := 100000

mutual
noncomputable def execC (call : CallF) : CS → Loc → Sto → Ex
  | .assign t e, ρ, σ => bnd (evalC call e ρ σ) fun v σ₁ => (t.put v ρ).bind fun ρ' => some (.next, ρ', σ₁)
  | .setItem o i v, ρ, σ => bnd (evalC call v ρ σ) fun x σ₁ => bnd (evalC call o ρ σ₁) fun y σ₂ => bnd (evalC call i ρ σ₂) fun z σ₃ => (setop y z x σ₃).bind fun σ₄ => some (.next, ρ, σ₄)
  | .expr e, ρ, σ => bnd (evalC call e ρ σ) fun _ σ₁ => some (.next, ρ, σ₁)
  | .ite c t e, ρ, σ => bndB (evalC call c ρ σ) fun b σ₁ => if b then execCs call t ρ σ₁ else execCs call e ρ σ₁
  | .for_ t it body, ρ, σ => bnd3 (srcC call it ρ σ) fun xs w σ₁ => loopC (execCs call body) t w xs ρ σ₁
  | .ret e, ρ, σ => bnd (evalC call e ρ σ) fun v σ₁ => some (.ret v, ρ, σ₁)
noncomputable def execCs (call : CallF) : CSs → Loc → Sto → Ex
  | .nil, ρ, σ => some (.next, ρ, σ)
  | .cons s r, ρ, σ => seqF (execC call s ρ σ) (execCs call r)
end

section
variable {call : CallF} {ρ : Loc} {σ : Sto} {t : Tgt} {e o i v c a b : CE} {it : CIt} {x y : CSs}
theorem ex_assign : execC call (.assign t e) ρ σ = bnd (evalC call e ρ σ) fun v σ₁ => (t.put v ρ).bind fun ρ' => some (.next, ρ', σ₁) := rfl
theorem ex_setItem : execC call (.setItem o i v) ρ σ = bnd (evalC call v ρ σ) fun x σ₁ => bnd (evalC call o ρ σ₁) fun y σ₂ => bnd (evalC call i ρ σ₂) fun z σ₃ => (setop y z x σ₃).bind fun σ₄ => some (.next, ρ, σ₄) := rfl
theorem ex_expr : execC call (.expr e) ρ σ = bnd (evalC call e ρ σ) fun _ σ₁ => some (.next, ρ, σ₁) := rfl
theorem ex_ite : execC call (.ite c x y) ρ σ = bndB (evalC call c ρ σ) fun b σ₁ => if b then execCs call x ρ σ₁ else execCs call y ρ σ₁ := rfl
theorem ex_for : execC call (.for_ t it x) ρ σ = bnd3 (srcC call it ρ σ) fun xs w σ₁ => loopC (execCs call x) t w xs ρ σ₁ := rfl
theorem ex_ret : execC call (.ret e) ρ σ = bnd (evalC call e ρ σ) fun v σ₁ => some (.ret v, ρ, σ₁) := rfl
theorem srcC_ex : srcC call (.ex e) ρ σ = bnd (evalC call e ρ σ) fun x σ₁ => (seqOf σ₁ x).bind fun p => some (p.1, p.2, σ₁) := rfl
end

structure CFun where
  arity : Nat
  body : CSs

noncomputable def argsLoc (as : List V) : Loc := fun i => as[i]?
/-- how a call ends -/
noncomputable def fin (m : Ex) : Option (Res × Sto) := bnd3 m fun f _ σ => match f with
  | .next => some (.ok .none, σ)
  | .ret v => some (.ok v, σ)
  | .exc c w => some (.exc c w, σ)

noncomputable def callL (P : List CFun) : Nat → CallF
  | 0 => fun _ _ _ => none
  | d + 1 => fun f as σ => (P[f]?).bind fun fn => if as.length = fn.arity then fin (execCs (callL P d) fn.body (argsLoc as) σ) else none

/-- what stands behind a step -/
theorem bnd_some {α β : Type} {m : Option (α × Sto)} {k : α → Sto → Option β} {r : β} (h : bnd m k = some r) : ∃ a σ, m = some (a, σ) ∧ k a σ = some r := by
  cases m with
  | none => cases h
  | some p => exact ⟨p.1, p.2, rfl, h⟩
theorem bnd3_some {α β γ : Type} {m : Option (α × β × Sto)} {k : α → β → Sto → Option γ} {r : γ} (h : bnd3 m k = some r) : ∃ a b σ, m = some (a, b, σ) ∧ k a b σ = some r := by
  cases m with
  | none => cases h
  | some p => exact ⟨p.1, p.2.1, p.2.2, rfl, h⟩
theorem ob {α β : Type} {m : Option α} {k : α → Option β} {r : β} (h : m.bind k = some r) : ∃ a, m = some a ∧ k a = some r := by
  cases m with
  | none => cases h
  | some p => exact ⟨p, rfl, h⟩
theorem no {α : Type} {r : α} {p : Prop} (h : (none : Option α) = some r) : p := nomatch h
theorem sm {α : Type} {a b : α} (h : some a = some b) : a = b := Option.some.inj h
theorem sm2 {α β : Type} {a a' : α} {b b' : β} (h : some (a, b) = some (a', b')) : a = a' ∧ b = b' := ⟨congrArg Prod.fst (sm h), congrArg Prod.snd (sm h)⟩
theorem sm3 {α β γ : Type} {a a' : α} {b b' : β} {c c' : γ} (h : some (a, b, c) = some (a', b', c')) : a = a' ∧ b = b' ∧ c = c' := ⟨congrArg (fun p => p.1) (sm h), congrArg (fun p => p.2.1) (sm h), congrArg (fun p => p.2.2) (sm h)⟩
theorem asI_some : ∀ {v : V} {i : Int}, asI v = some i → v = .int i
  | .none, _, h => no h
  | .bool _, _, h => no h
  | .int _, _, h => congrArg _ (sm h)
  | .str _, _, h => no h
  | .tup _, _, h => no h
  | .ref _, _, h => no h
  | .ro _, _, h => no h
theorem asB_some : ∀ {v : V} {i : Bool}, asB v = some i → v = .bool i
  | .none, _, h => no h
  | .bool _, _, h => congrArg _ (sm h)
  | .int _, _, h => no h
  | .str _, _, h => no h
  | .tup _, _, h => no h
  | .ref _, _, h => no h
  | .ro _, _, h => no h
theorem asS_some : ∀ {v : V} {i : Str}, asS v = some i → v = .str i
  | .none, _, h => no h
  | .bool _, _, h => no h
  | .int _, _, h => no h
  | .str _, _, h => congrArg _ (sm h)
  | .tup _, _, h => no h
  | .ref _, _, h => no h
  | .ro _, _, h => no h
theorem asT_some : ∀ {v : V} {i : List V}, asT v = some i → v = .tup i
  | .none, _, h => no h
  | .bool _, _, h => no h
  | .int _, _, h => no h
  | .str _, _, h => no h
  | .tup _, _, h => congrArg _ (sm h)
  | .ref _, _, h => no h
  | .ro _, _, h => no h
theorem asR_some : ∀ {v : V} {i : Nat}, asR v = some i → v = .ref i
  | .none, _, h => no h
  | .bool _, _, h => no h
  | .int _, _, h => no h
  | .str _, _, h => no h
  | .tup _, _, h => no h
  | .ref _, _, h => congrArg _ (sm h)
  | .ro _, _, h => no h
theorem asL_some : ∀ {v : MObj} {i : List V}, asL v = some i → v = .lst i
  | .lst _, _, h => congrArg _ (sm h)
  | .di _, _, h => no h
  | .ds _, _, h => no h
  | .own, _, h => no h
theorem asDs_some : ∀ {v : MObj} {i : List (Str × V)}, asDs v = some i → v = .ds i
  | .lst _, _, h => no h
  | .di _, _, h => no h
  | .ds _, _, h => congrArg _ (sm h)
  | .own, _, h => no h
theorem bndB_some {β : Type} {m : Option (V × Sto)} {k : Bool → Sto → Option β} {r : β} (h : bndB m k = some r) : ∃ b σ, m = some (.bool b, σ) ∧ k b σ = some r := by
  obtain ⟨v, σ, h1, h2⟩ := bnd_some h
  obtain ⟨b, h3, h4⟩ := ob h2
  exact ⟨b, σ, asB_some h3 ▸ h1, h4⟩
theorem bndI_some {β : Type} {m : Option (V × Sto)} {k : Int → Sto → Option β} {r : β} (h : bndI m k = some r) : ∃ b σ, m = some (.int b, σ) ∧ k b σ = some r := by
  obtain ⟨v, σ, h1, h2⟩ := bnd_some h
  obtain ⟨b, h3, h4⟩ := ob h2
  exact ⟨b, σ, asI_some h3 ▸ h1, h4⟩
theorem lst_some {σ : Sto} {r : Nat} {l : List V} (h : lst σ r = some l) : σ[r]? = some (.lst l) := by
  obtain ⟨m, h1, h2⟩ := ob h
  exact asL_some h2 ▸ h1
theorem ds_some {σ : Sto} {r : Nat} {l : List (Str × V)} (h : ds σ r = some l) : σ[r]? = some (.ds l) := by
  obtain ⟨m, h1, h2⟩ := ob h
  exact asDs_some h2 ▸ h1
theorem lst_eq {σ : Sto} {r : Nat} {l : List V} (h : σ[r]? = some (.lst l)) : lst σ r = some l := by
  unfold lst
  rw [h]; rfl
theorem arg1_some {f : V → Option (V × Sto)} {as : List V} {r : V × Sto} (h : arg1 f as = some r) : ∃ a, as = [a] ∧ f a = some r := by
  cases as with
  | nil => cases h
  | cons a t =>
    cases t with
    | nil => exact ⟨a, rfl, h⟩
    | cons b t => cases h
theorem arg2_some {f : V → V → Option (V × Sto)} {as : List V} {r : V × Sto} (h : arg2 f as = some r) : ∃ a b, as = [a, b] ∧ f a b = some r := by
  cases as with
  | nil => cases h
  | cons a t =>
    obtain ⟨b, h1, h2⟩ := arg1_some (f := f a) h
    exact ⟨a, b, by rw [h1], h2⟩
theorem iteS {α : Type} {c : Prop} [Decidable c] {x : Option α} {r : α} (h : (if c then x else none) = some r) : c ∧ x = some r := by
  by_cases hc : c
  · rw [if_pos hc] at h; exact ⟨hc, h⟩
  · rw [if_neg hc] at h; cases h
theorem guardW_some {β : Type} {σ : Sto} {w : List (Nat × MObj)} {x : Option β} {r : β} (h : guardW σ w x = some r) : watchOk σ w ∧ x = some r := by
  unfold guardW at h
  exact @iteS _ _ (_) _ _ h
theorem guardW_of {β : Type} {σ : Sto} {w : List (Nat × MObj)} {x : Option β} (h : watchOk σ w) : guardW σ w x = x := by
  unfold guardW
  rw [if_pos h]
theorem seqF_some {m : Ex} {k : Loc → Sto → Ex} {fl : Flow} {ρ' : Loc} {σ' : Sto} (h : seqF m k = some (fl, ρ', σ')) : (∃ ρ₁ σ₁, m = some (.next, ρ₁, σ₁) ∧ k ρ₁ σ₁ = some (fl, ρ', σ')) ∨ (m = some (fl, ρ', σ') ∧ fl ≠ .next) := by
  obtain ⟨f, ρ, σ, h1, h2⟩ := bnd3_some h
  cases f with
  | next => exact .inl ⟨ρ, σ, h1, h2⟩
  | ret v =>
    obtain ⟨e1, e2, e3⟩ := sm3 h2
    exact .inr ⟨by rw [h1, e1, e2, e3], fun e => nomatch (e1.trans e)⟩
  | exc c w =>
    obtain ⟨e1, e2, e3⟩ := sm3 h2
    exact .inr ⟨by rw [h1, e1, e2, e3], fun e => nomatch (e1.trans e)⟩
theorem testC_some {call : CallF} {e : CE} {ρ : Loc} {σ σ' : Sto} {b : Bool} (h : testC call e ρ σ = some (b, σ')) : evalC call e ρ σ = some (.bool b, σ') := by
  obtain ⟨c, σ₁, h1, h2⟩ := bndB_some h
  obtain ⟨e1, e2⟩ := sm2 h2
  rw [h1, e1, e2]
theorem testC_of {call : CallF} {e : CE} {ρ : Loc} {σ σ' : Sto} {b : Bool} (h : evalC call e ρ σ = some (.bool b, σ')) : testC call e ρ σ = some (b, σ') := by
  unfold testC
  rw [h]; rfl
end Lar

set_option autoImplicit false
namespace Lar
open PySem

structure CCtx where
  funs : List Str
  consts : List (Str × Int)
  classes : List (Str × Nat)

noncomputable def relS (scope outer : Scope) : Scope :=
  { scope with names := scope.names.map fun (n, k) => if (k == .free && outer.kind == .function && outer.names.lookup n == some .cell) then (n, .cell) else (n, k) }

noncomputable def isLoc : NameKind → Bool
  | .local => true
  | .cell => true
  | .free => true
  | _ => false
noncomputable def cName (cx : CCtx) (sc : Scope) (nm : List (Str × Nat)) (x : Str) : Option CE :=
  if x == ("__debug__" : Str) || x == ("__classdict__" : Str) then none else
  (sc.names.lookup x).bind fun k => if isLoc k then (nm.lookup x).bind fun i => some (.var i) else if k == .globalImplicit then (cx.consts.lookup x).bind fun i => some (.cst (.int i)) else none

noncomputable def sole {α : Type} : List α → Option α
  | [] => none
  | a :: r => if r.isEmpty then some a else none
noncomputable def two {α : Type} : List α → Option (α × α)
  | [] => none
  | a :: r => (sole r).bind fun b => some (a, b)
theorem sole_some {α : Type} {l : List α} {a : α} (h : sole l = some a) : l = [a] := by
  cases l with
  | nil => cases h
  | cons b t =>
    cases t with
    | nil => cases h; rfl
    | cons c t => cases h
theorem two_some {α : Type} {l : List α} {p : α × α} (h : two l = some p) : l = [p.1, p.2] := by
  cases l with
  | nil => cases h
  | cons b t =>
    obtain ⟨c, h1, h2⟩ := ob (α := α) h
    cases h2
    rw [sole_some h1]
noncomputable def asName : Expr → Option Str
  | .Name x _ => some x
  | _ => none
theorem asName_some {e : Expr} {x : Str} (h : asName e = some x) : ∃ p, e = .Name x p := by
  cases e <;> first | exact no h | skip
  cases h
  exact ⟨_, rfl⟩

noncomputable def cList (f : Expr → Option CE) : List Expr → Option CEs
  | [] => some .nil
  | e :: r => (f e).bind fun c => (cList f r).bind fun cs => some (.cons c cs)

noncomputable def cBop (op : BoolOp) (a b : CE) : CE := match op with
  | .And => .and a b
  | .Or => .or a b
noncomputable def cBool (f : Expr → Option CE) (op : BoolOp) : List Expr → Option CE
  | [] => none
  | e :: r => if r.isEmpty then f e else (f e).bind fun a => (cBool f op r).bind fun b => some (cBop op a b)

noncomputable def cConst : Const → Option V
  | .none => some .none
  | .bool b => some (.bool b)
  | .int i => some (.int i)
  | .str s => some (.str s)
  | _ => none

noncomputable def cOpt (f : Expr → Option CE) : Option Expr → Option CE
  | none => some (.cst .none)
  | some e => f e

noncomputable def isGlob (sc : Scope) (x : Str) : Bool := sc.names.lookup x == some .globalImplicit && !(x == ("__debug__" : Str))

noncomputable def primNames : List Str := ["len", "sum", "min", "max", "tuple", "list", "str", "int", "isinstance", "sorted", "range", "zip", "enumerate", "bool"]

noncomputable def tabAt {α : Type} (t : List (Str × Nat × α)) (x : Str) (n : Nat) : Option α := (t.find? fun q => q.1 == x && q.2.1 == n).bind fun q => some q.2.2
theorem tabAt_some {α : Type} {t : List (Str × Nat × α)} {x : Str} {n : Nat} {a : α} (h : tabAt t x n = some a) : (x, n, a) ∈ t := by
  obtain ⟨q, h1, h2⟩ := ob h
  obtain rfl := sm h2
  have h3 := List.find?_some h1
  simp only [Bool.and_eq_true, beq_iff_eq] at h3
  obtain ⟨rfl, rfl⟩ := h3
  exact List.mem_of_find?_eq_some h1
noncomputable def primTab : List (Str × Nat × Prim) := [("len", 1, .len), ("sum", 1, .sum), ("min", 2, .min2), ("max", 2, .max2), ("min", 1, .min1), ("max", 1, .max1), ("tuple", 1, .tuple), ("list", 1, .list), ("str", 1, .str), ("int", 1, .int), ("sorted", 1, .sorted)]
noncomputable def cPrim (x : Str) (n : Nat) : Option Prim := tabAt primTab x n
noncomputable def isiTab : List (Str × Nat × Prim) := [("int", 0, .isInt), ("bool", 0, .isBool), ("tuple", 0, .isTuple), ("str", 0, .isStr), ("list", 0, .isList)]
noncomputable def cIsi (x : Str) : Option Prim := tabAt isiTab x 0
noncomputable def methTab : List (Str × Nat × Meth) := [("append", 1, .append), ("extend", 1, .extend), ("find", 1, .find), ("get", 2, .get), ("join", 1, .join)]
noncomputable def cMeth (x : Str) (n : Nat) : Option Meth := tabAt methTab x n

noncomputable def funIdx (cx : CCtx) (x : Str) : Option Nat := cx.funs.findIdx? (· == x)

/-- a target of a for or a comprehension: the names and where they go -/
noncomputable def tgtOne (sc : Scope) (nm : List (Str × Nat)) (x : Str) : Option Nat := if sc.names.lookup x == some .local || sc.names.lookup x == some .cell then nm.lookup x else none
noncomputable def asTup : Expr → Option (List Expr)
  | .Tuple l _ _ => some l
  | _ => none
theorem asTup_some {e : Expr} {l : List Expr} (h : asTup e = some l) : ∃ k p, e = .Tuple l k p := by
  cases e <;> first | exact no h | skip
  cases h
  exact ⟨_, _, rfl⟩
noncomputable def cTgt (sc : Scope) (nm : List (Str × Nat)) (e : Expr) : Option Tgt := match asName e with
  | some x => (tgtOne sc nm x).bind fun i => some (.one i)
  | none => (asTup e).bind fun l => (two l).bind fun p => (asName p.1).bind fun x => (asName p.2).bind fun y => if x == y then none else (tgtOne sc nm x).bind fun i => (tgtOne sc nm y).bind fun j => some (.two i j)

noncomputable def tgtNames : Expr → List Str
  | .Name x _ => [x]
  | .Tuple l _ _ => l.filterMap asName
  | _ => []

noncomputable def recvOk : Expr → Bool
  | .Name _ _ => true
  | .Constant _ _ _ => true
  | .Subscript _ _ _ => true
  | _ => false
noncomputable def itTwo : CIt → Bool
  | _ => false
noncomputable def Tgt.isTwo : Tgt → Bool
  | .one _ => false
  | .two _ _ => true
noncomputable def itTgtOk (it : CIt) (t : Tgt) : Bool := !itTwo it || t.isTwo

/-- the names that a comprehension's block sees -/
noncomputable def compNm (scope : Scope) (nm : List (Str × Nat)) (nx : Nat) (ts : List Str) : List (Str × Nat) :=
  ts.zipIdx nx ++ (scope.names.filterMap fun (n, k) => if k == .free then (nm.lookup n).map fun i => (n, i) else none)

noncomputable def compOk (scope outer : Scope) (nm : List (Str × Nat)) (nx : Nat) (ts : List Str) : Bool :=
  scope.kind == .function &&
  scope.names.all (fun (_, k) => k == .local || k == .cell || k == .free || k == .globalImplicit) &&
  scope.names.all (fun (n, k) => scope.names.lookup n == some k) &&
  scope.names.all (fun (n, k) => k != .free || ((outer.names.lookup n == some .cell || outer.names.lookup n == some .free) && (nm.lookup n).isSome)) &&
  scope.names.all (fun (n, k) => !(k == .local || k == .cell) || n == (".0" : Str) || ts.contains n) &&
  ts.all (fun t => scope.names.lookup t == some .local || scope.names.lookup t == some .cell) &&
  nm.all (fun (_, i) => decide (i < nx))

noncomputable def cUn (op : UnaryOp) (a : CE) : Option CE := match op with
  | .Not => some (.not a)
  | .USub => some (.neg a)
  | _ => none
noncomputable def cCmp (f : Expr → Option CE) (l : Expr) (ops : List CmpOp) (rs : List Expr) : Option CE := (sole ops).bind fun op => (sole rs).bind fun r => if behindInMarks op r then none else (f l).bind fun a => (f r).bind fun b => some (.cmp op a b)
noncomputable def cSub (f : Expr → Option CE) (v i : Expr) : Option CE := (f v).bind fun a => match i with
  | .Slice lo hi st _ => if st.isNone then (cOpt f lo).bind fun x => (cOpt f hi).bind fun y => some (.slc a x y) else none
  | i => (f i).bind fun x => some (.idx a x)
noncomputable def cIsiC (f : Expr → Option CE) (sc : Scope) (as : List Expr) : Option CE := (two as).bind fun p => (asName p.2).bind fun t => if isGlob sc t then (cIsi t).bind fun q => (f p.1).bind fun a => some (.prim q (.cons a .nil)) else none
noncomputable def cCallN (f : Expr → Option CE) (cx : CCtx) (sc : Scope) (g : Str) (as : List Expr) : Option CE := match funIdx cx g with
  | some k => if as.isEmpty then none else (cList f as).bind fun cs => some (.call k cs)
  | none => if g == ("isinstance" : Str) then cIsiC f sc as else (cPrim g as.length).bind fun p => (cList f as).bind fun cs => some (.prim p cs)
noncomputable def cCall (f : Expr → Option CE) (cx : CCtx) (sc : Scope) (fn : Expr) (as : List Expr) (ks : List Keyword) (pos : Pos) : Option CE := match fn with
  | .Name g _ => if isGlob sc g then (match ks with
    | [] => cCallN f cx sc g as
    | _ :: _ => none) else none
  | .Attribute o m ap => if ks.isEmpty && recvOk o && ap.endLine == pos.line then (cMeth m as.length).bind fun p => (f o).bind fun a => (cList f as).bind fun cs => some (.meth p a cs) else none
  | _ => none
noncomputable def cLC (F : Scope → List (Str × Nat) → Nat → Expr → Option CE) (fI : Expr → Option CIt) (sc : Scope) (nm : List (Str × Nat)) (nx : Nat) (elt : Expr) (gens : List Comprehension) (scope : Scope) : Option CE :=
  (sole gens).bind fun gn => if gn.is_async == 0 && compOk scope sc nm nx (tgtNames gn.target) then
    (fI gn.iter).bind fun it => (cTgt (relS scope sc) (compNm scope nm nx (tgtNames gn.target)) gn.target).bind fun t =>
    (cList (F (relS scope sc) (compNm scope nm nx (tgtNames gn.target)) (nx + 2)) gn.ifs).bind fun cs => (F (relS scope sc) (compNm scope nm nx (tgtNames gn.target)) (nx + 2) elt).bind fun c =>
    if itTgtOk it t then some (.comp c t it cs) else none
  else none
noncomputable def callName : Expr → Option (Str × List Expr)
  | .Call fn as ks _ => if ks.isEmpty then (asName fn).bind fun g => some (g, as) else none
  | _ => none
theorem callName_some {e : Expr} {g : Str} {as : List Expr} (h : callName e = some (g, as)) : ∃ p q, e = .Call (.Name g p) as [] q := by
  cases e <;> first | exact no h | skip
  obtain ⟨h1, h2⟩ := iteS h
  obtain ⟨x, h3, h4⟩ := ob h2
  cases h4
  obtain ⟨p, rfl⟩ := asName_some h3
  rw [List.isEmpty_iff.mp h1]
  exact ⟨_, _, rfl⟩
noncomputable def cRange (f : Expr → Option CE) : List Expr → Option CIt
  | [] => none
  | a :: r => (f a).bind fun x => match r with
    | [] => some (.rng1 x)
    | b :: r => (f b).bind fun y => match r with
      | [] => some (.rng2 x y)
      | _ :: _ => none
noncomputable def cEx1 (f : Expr → Option CE) (e : Expr) : Option CIt := (f e).bind fun c => some (.ex c)
noncomputable def cSrc (f : Expr → Option CE) (g : Str) (as : List Expr) (e : Expr) : Option CIt :=
  if g == ("range" : Str) then cRange f as
  else cEx1 f e
noncomputable def cIt (f : Expr → Option CE) (cx : CCtx) (sc : Scope) (e : Expr) : Option CIt := match callName e with
  | some p => if isGlob sc p.1 && (funIdx cx p.1).isNone then cSrc f p.1 p.2 e else cEx1 f e
  | none => cEx1 f e
noncomputable def cExprF (F : Scope → List (Str × Nat) → Nat → Expr → Option CE) (fI : Expr → Option CIt) (cx : CCtx) (sc : Scope) (nm : List (Str × Nat)) (nx : Nat) : Expr → Option CE
  | .Constant c _ _ => (cConst c).bind fun v => some (.cst v)
  | .Name x _ => cName cx sc nm x
  | .BinOp l op r _ => (F sc nm nx l).bind fun a => (F sc nm nx r).bind fun b => some (.bin op a b)
  | .UnaryOp op x _ => (F sc nm nx x).bind (cUn op)
  | .BoolOp op vs _ => cBool (F sc nm nx) op vs
  | .IfExp t a b _ => (F sc nm nx t).bind fun x => (F sc nm nx a).bind fun y => (F sc nm nx b).bind fun z => some (.ite x y z)
  | .Compare l ops rs _ => cCmp (F sc nm nx) l ops rs
  | .List es _ => (cList (F sc nm nx) es).bind fun cs => some (.list cs)
  | .Tuple es _ _ => (cList (F sc nm nx) es).bind fun cs => some (.tuple cs)
  | .Dict ks vs _ => if ks.isEmpty && vs.isEmpty then some .dict0 else none
  | .Subscript v i _ => cSub (F sc nm nx) v i
  | .Call fn as ks pos => cCall (F sc nm nx) cx sc fn as ks pos
  | .ListComp elt gens scope _ => cLC F fI sc nm nx elt gens scope
  | _ => none
noncomputable def cExpr (cx : CCtx) : Nat → Scope → List (Str × Nat) → Nat → Expr → Option CE
  | 0, _, _, _, _ => none
  | n + 1, sc, nm, nx, e => cExprF (cExpr cx n) (fun i => cIt (cExpr cx n sc nm nx) cx sc i) cx sc nm nx e
noncomputable def cIter (cx : CCtx) (n : Nat) (sc : Scope) (nm : List (Str × Nat)) (nx : Nat) (e : Expr) : Option CIt := cIt (cExpr cx n sc nm nx) cx sc e

noncomputable def isTupE : Expr → Bool
  | .Tuple _ _ _ => true
  | _ => false
noncomputable def cAsg (f : Expr → Option CE) (sc : Scope) (nm : List (Str × Nat)) (t v : Expr) : Option CS := match t with
  | .Name x p => (cTgt sc nm (.Name x p)).bind fun t => (f v).bind fun a => some (.assign t a)
  | .Tuple ts k p => if isTupE v then none else (cTgt sc nm (.Tuple ts k p)).bind fun t => (f v).bind fun a => some (.assign t a)
  | .Subscript o i _ => (f o).bind fun a => (f i).bind fun b => (f v).bind fun c => some (.setItem a b c)
  | _ => none
noncomputable def Meth.isStep : Meth → Bool
  | .append => true
  | .extend => true
  | _ => false
noncomputable def cStep (c : CE) : Option CS := match c with
  | .meth m o as => if m.isStep then some (.expr (.meth m o as)) else none
  | _ => none
noncomputable def cExS (f : Expr → Option CE) (e : Expr) : Option CS := match e with
  | .Call fn as ks p => (f (.Call fn as ks p)).bind cStep
  | _ => none
noncomputable def cStmtF (f : Expr → Option CE) (fI : Expr → Option CIt) (B : List Stmt → Option CSs) (sc : Scope) (nm : List (Str × Nat)) : Stmt → Option CS
  | .Assign ts v _ => (sole ts).bind fun t => cAsg f sc nm t v
  | .Expr e _ => cExS f e
  | .If t a b _ => (f t).bind fun x => (B a).bind fun y => (B b).bind fun z => some (.ite x y z)
  | .For t it body orelse _ => if orelse.isEmpty then (cTgt sc nm t).bind fun x => (fI it).bind fun y => (B body).bind fun z => if itTgtOk y x then some (.for_ x y z) else none else none
  | .Return v _ => v.bind fun e => (f e).bind fun c => some (.ret c)
  | _ => none
noncomputable def cBlock (S : Stmt → Option CS) : List Stmt → Option CSs
  | [] => some .nil
  | s :: r => (S s).bind fun a => (cBlock S r).bind fun b => some (.cons a b)
noncomputable def cStmt (cx : CCtx) (sc : Scope) (nm : List (Str × Nat)) (nx : Nat) : Nat → Stmt → Option CS
  | 0, _ => none
  | n + 1, s => cStmtF (cExpr cx n sc nm nx) (cIter cx n sc nm nx) (cBlock (cStmt cx sc nm nx n)) sc nm s

noncomputable def funNm (sc : Scope) : List (Str × Nat) := ((sc.names.filter fun (_, k) => k == .local || k == .cell).map (·.1)).zipIdx

noncomputable def plainArgs (p : Arguments) : Bool := p.posonlyargs.isEmpty && p.vararg.isNone && p.kwonlyargs.isEmpty && p.kw_defaults.isEmpty && p.kwarg.isNone && p.defaults.isEmpty
noncomputable def cFun (cx : CCtx) (params : Arguments) (sc : Scope) (body : List Stmt) : Option CFun :=
    let nm := funNm sc
    let as := params.args
    if plainArgs params && sc.kind == .function && !sc.isGenerator && !sc.isCoroutine &&
      sc.names.all (fun (n, k) => sc.names.lookup n == some k && (k == .local || k == .cell || k == .globalImplicit)) &&
      decide (as.map (·.arg) = (nm.map (·.1)).take as.length) && decide ((nm.map (·.1)).Nodup) then
      (cBlock (cStmt cx sc nm nm.length 200) body).bind fun b => some ⟨as.length, b⟩
    else none

noncomputable def funsOf (body : List Stmt) : List (Str × Arguments × Scope × List Stmt) := body.filterMap fun s => match s with
  | .FunctionDef name args body [] none [] scope none _ _ => some (name, args, scope, body)
  | _ => none
noncomputable def constsOf (body : List Stmt) : List (Str × Int) := body.filterMap fun s => match s with
  | .Assign [.Name x _] (.Constant (.int i) _ _) _ => some (x, i)
  | _ => none
noncomputable def classesOf (body : List Stmt) : List (Str × Nat) := (body.filterMap fun s => match s with
  | .ClassDef name _ _ _ _ _ _ _ _ _ _ => some name
  | _ => none).zipIdx
noncomputable def ctxOf (body : List Stmt) : CCtx := ⟨(funsOf body).map (·.1), constsOf body, classesOf body ++ [(("ValueError" : Str), 0)]⟩
noncomputable def compileAll (body : List Stmt) : List (Str × Option CFun) :=
  (funsOf body).map fun (n, a, s, b) => (n, cFun (ctxOf body) a s b)

end Lar

set_option autoImplicit false
namespace Lar
open PySem PyProof.Rows

structure G where
  prog : Program
  w : World
  B : Heap

mutual
/-- an abstract value and a value of the model -/
inductive VR (g : G) (φ : List Addr) (h : Heap) : V → Value → Prop
  | none : VR g φ h .none .none
  | bool (b : Bool) : VR g φ h (.bool b) (.bool b)
  | int (i : Int) (t : Tok) : VR g φ h (.int i) (.int i t)
  | str (x : Str) (t : Tok) : VR g φ h (.str x) (.str x t)
  | tup {l : List V} {a : Addr} {vs : List Value} : h.IsTuple a vs.toArray → l.length ≤ szLine + 1 → VRs g φ h l vs → a ∉ φ → VR g φ h (.tup l) (.ref a)
  | ref {n : Nat} {a : Addr} : φ[n]? = some a → VR g φ h (.ref n) (.ref a)
  | ro {ns : List Int} {a : Addr} {vs : List Value} : g.B.IsList a vs.toArray → ns.length ≤ szLine + 1 → IntsAre vs ns → VR g φ h (.ro ns) (.ref a)
inductive VRs (g : G) (φ : List Addr) (h : Heap) : List V → List Value → Prop
  | nil : VRs g φ h [] []
  | cons {v : V} {a : Value} {l : List V} {vs : List Value} : VR g φ h v a → VRs g φ h l vs → VRs g φ h (v :: l) (a :: vs)
end

/-- a mutable object -/
inductive MR (g : G) (φ : List Addr) (h : Heap) : MObj → Addr → Prop
  | lst {l : List V} {a : Addr} {vs : List Value} : h.PlainList a vs.toArray → l.length ≤ szLine + 1 → VRs g φ h l vs → MR g φ h (.lst l) a
  | di {l : List (Int × V)} {a : Addr} {kvs : List (Int × Value)} : h.DictOf (intKind g.prog g.w) a kvs → kvs.map (·.1) = l.map (·.1) → VRs g φ h (l.map (·.2)) (kvs.map (·.2)) → MR g φ h (.di l) a
  | ds {l : List (Str × V)} {a : Addr} {kvs : List (Str × Value)} : h.DictOf (strKind g.prog g.w) a kvs → kvs.map (·.1) = l.map (·.1) → VRs g φ h (l.map (·.2)) (kvs.map (·.2)) → MR g φ h (.ds l) a
  | own {a : Addr} {x y : Value} : h.get? a = some { cls := .type "tuple", data := .seq #[x, y] } → MR g φ h .own a

structure RepS (g : G) (φ : List Addr) (σ : Sto) (h : Heap) : Prop where
  base : ∀ b o, g.B.get? b = some o → h.get? b = some o
  fresh : ∀ a ∈ φ, g.B.get? a = none
  len : φ.length = σ.length
  nodup : φ.Nodup
  objs : ∀ (i : Nat) (a : Addr) (m : MObj), φ[i]? = some a → σ[i]? = some m → MR g φ h m a

/-- what a step may change: ms; what it makes: the tail of φ' -/
structure Stp (ms : Addr → Prop) (φ : List Addr) (h : Heap) (φ' : List Addr) (h' : Heap) : Prop where
  pres : ∀ b o, h.get? b = some o → ¬ ms b → h'.get? b = some o
  dom : ∀ b o, h.get? b = some o → ∃ o', h'.get? b = some o'
  ext : ∃ t, φ' = φ ++ t ∧ ∀ a ∈ t, h.get? a = none

theorem Stp.refl (ms : Addr → Prop) (φ : List Addr) (h : Heap) : Stp ms φ h φ h :=
  ⟨fun _ _ e _ => e, fun _ o e => ⟨o, e⟩, [], by simp, fun _ ha => (nomatch ha)⟩

theorem Stp.pre {ms : Addr → Prop} {φ φ' : List Addr} {h h' : Heap} (x : Stp ms φ h φ' h') {n : Nat} {a : Addr} (e : φ[n]? = some a) : φ'[n]? = some a := by
  obtain ⟨t, rfl, _⟩ := x.ext
  have hn : n < φ.length := (List.getElem?_eq_some_iff.mp e).1
  rw [List.getElem?_append_left hn]; exact e

theorem Stp.notin {ms : Addr → Prop} {φ φ' : List Addr} {h h' : Heap} (x : Stp ms φ h φ' h') {b : Addr} {o : Obj} (e : h.get? b = some o) (hb : b ∉ φ) : b ∉ φ' := by
  obtain ⟨t, rfl, ht⟩ := x.ext
  intro hm
  rcases List.mem_append.mp hm with hm | hm
  · exact hb hm
  · rw [ht b hm] at e; cases e

theorem Stp.trans {ms ms' ms'' : Addr → Prop} {φ φ' φ'' : List Addr} {h h' h'' : Heap} (x : Stp ms φ h φ' h') (y : Stp ms' φ' h' φ'' h'')
    (h1 : ∀ b o, h.get? b = some o → ¬ ms'' b → ¬ ms b) (h2 : ∀ b o, h.get? b = some o → ¬ ms'' b → ¬ ms' b) : Stp ms'' φ h φ'' h'' := by
  refine ⟨fun b o e hb => y.pres b o (x.pres b o e (h1 b o e hb)) (h2 b o e hb), fun b o e => ?_, ?_⟩
  · obtain ⟨o', e'⟩ := x.dom b o e
    exact y.dom b o' e'
  · obtain ⟨t, rfl, ht⟩ := x.ext
    obtain ⟨u, rfl, hu⟩ := y.ext
    refine ⟨t ++ u, by simp, fun a ha => ?_⟩
    rcases List.mem_append.mp ha with ha | ha
    · exact ht a ha
    · cases e : h.get? a with
      | none => rfl
      | some o =>
        obtain ⟨o', e'⟩ := x.dom a o e
        rw [hu a ha] at e'; cases e'

/-- the plain kind: only the mutable objects change -/
abbrev SE (φ : List Addr) (h : Heap) (φ' : List Addr) (h' : Heap) : Prop := Stp (fun b => b ∈ φ) φ h φ' h'

theorem SE.trans {φ φ' φ'' : List Addr} {h h' h'' : Heap} (x : SE φ h φ' h') (y : SE φ' h' φ'' h'') : SE φ h φ'' h'' :=
  Stp.trans x y (fun _ _ _ hb => hb) fun _ _ e hb => x.notin e hb
theorem SE.refl (φ : List Addr) (h : Heap) : SE φ h φ h := Stp.refl _ _ _

theorem nodup_at {α : Type} {l : List α} (hn : l.Nodup) {i j : Nat} {a : α} (hi : l[i]? = some a) (hj : l[j]? = some a) : i = j := by
  obtain ⟨h1, e1⟩ := List.getElem?_eq_some_iff.mp hi
  obtain ⟨h2, e2⟩ := List.getElem?_eq_some_iff.mp hj
  have hp := List.pairwise_iff_getElem.mp hn
  rcases Nat.lt_trichotomy i j with h | h | h
  · exact absurd (e1.trans e2.symm) (hp i j h1 h2 h)
  · exact h
  · exact absurd (e2.trans e1.symm) (hp j i h2 h1 h)

theorem list_ne_tuple : (Value.type "list" : Value) ≠ .type "tuple" := by decide
theorem dict_ne_tuple : (Value.type "dict" : Value) ≠ .type "tuple" := by decide
theorem dictOf_at {prog : Program} {w : World} {K : Type} [DecidableEq K] {knd : KeyKind prog w K} {h h' : Heap} {a : Addr} {kvs : List (K × Value)} (x : h.DictOf knd a kvs) (hk : ∀ o, h.get? a = some o → h'.get? a = some o) : h'.DictOf knd a kvs :=
  let ⟨o, es, ep, ho, r⟩ := x; ⟨o, es, ep, hk o ho, r⟩
theorem MR.live {g : G} {φ : List Addr} {h : Heap} {m : MObj} {a : Addr} (x : MR g φ h m a) : ∃ o, h.get? a = some o := by
  cases x with
  | lst hl _ _ =>
    obtain ⟨n, ho⟩ := hl
    exact ⟨_, ho⟩
  | di hd _ _ =>
    obtain ⟨o, _, _, ho, hc, _⟩ := hd
    exact ⟨o, ho⟩
  | ds hd _ _ =>
    obtain ⟨o, _, _, ho, hc, _⟩ := hd
    exact ⟨o, ho⟩
  | own ho => exact ⟨_, ho⟩

theorem RepS.live {g : G} {φ : List Addr} {σ : Sto} {h : Heap} (R : RepS g φ σ h) {a : Addr} (ha : a ∈ φ) : ∃ o, h.get? a = some o := by
  obtain ⟨i, hi, rfl⟩ := List.mem_iff_getElem.mp ha
  have h1 : φ[i]? = some φ[i] := List.getElem?_eq_getElem hi
  have hi' : i < σ.length := R.len ▸ hi
  have h2 : σ[i]? = some σ[i] := List.getElem?_eq_getElem hi'
  exact (R.objs i _ _ h1 h2).live

theorem VR.stepT {g : G} {φ φ' : List Addr} {h h' : Heap} (hp : ∀ (n : Nat) (a : Addr), φ[n]? = some a → φ'[n]? = some a) (S : ∀ b o, h.get? b = some o → o.cls = .type "tuple" → (∃ items n, o.data = .seq items n) → b ∉ φ → h'.get? b = some o ∧ b ∉ φ') {v : V} {a : Value} (x : VR g φ h v a) : VR g φ' h' v a :=
  VR.rec (motive_1 := fun v a _ => VR g φ' h' v a) (motive_2 := fun l vs _ => VRs g φ' h' l vs) .none .bool .int .str (fun ht hz _ hn ih => by
    obtain ⟨o, ho, hc, r⟩ := ht
    have k := S _ _ ho hc ⟨_, r⟩ hn
    exact .tup ⟨o, k.1, hc, r⟩ hz ih k.2) (fun e => .ref (hp _ _ e)) .ro .nil (fun _ _ h1 h2 => .cons h1 h2) x
theorem VRs.stepT {g : G} {φ φ' : List Addr} {h h' : Heap} (hp : ∀ (n : Nat) (a : Addr), φ[n]? = some a → φ'[n]? = some a) (S : ∀ b o, h.get? b = some o → o.cls = .type "tuple" → (∃ items n, o.data = .seq items n) → b ∉ φ → h'.get? b = some o ∧ b ∉ φ') {l : List V} {vs : List Value} (x : VRs g φ h l vs) : VRs g φ' h' l vs := by
  induction l generalizing vs with
  | nil => cases x; exact .nil
  | cons v l ih => cases x with | cons hv hr => exact .cons (hv.stepT hp S) (ih hr)
theorem VR.step {g : G} {φ φ' : List Addr} {σ : Sto} {h h' : Heap} (R : RepS g φ σ h) (S : SE φ h φ' h') {v : V} {a : Value} (x : VR g φ h v a) : VR g φ' h' v a := x.stepT (fun _ _ e => S.pre e) fun _ _ e _ _ hn => ⟨S.pres _ _ e hn, S.notin e hn⟩
theorem VRs.step {g : G} {φ φ' : List Addr} {σ : Sto} {h h' : Heap} (R : RepS g φ σ h) (S : SE φ h φ' h') {l : List V} {vs : List Value} (x : VRs g φ h l vs) : VRs g φ' h' l vs := x.stepT (fun _ _ e => S.pre e) fun _ _ e _ _ hn => ⟨S.pres _ _ e hn, S.notin e hn⟩

theorem VRs.length {g : G} {φ : List Addr} {h : Heap} {l : List V} {vs : List Value} (x : VRs g φ h l vs) : l.length = vs.length := by
  induction l generalizing vs with
  | nil => cases x; rfl
  | cons v l ih => cases x with | cons hv hr => exact congrArg (· + 1) (ih hr)
theorem VRs.append {g : G} {φ : List Addr} {h : Heap} {l : List V} {vs : List Value} {m : List V} {ws : List Value} (x : VRs g φ h l vs) (y : VRs g φ h m ws) : VRs g φ h (l ++ m) (vs ++ ws) := by
  induction l generalizing vs with
  | nil => cases x; exact y
  | cons v l ih => cases x with | cons hv hr => exact .cons hv (ih hr)
theorem VRs.get {g : G} {φ : List Addr} {h : Heap} : ∀ {l : List V} {vs : List Value} {i : Nat} {v : V}, VRs g φ h l vs → l[i]? = some v → ∃ a, vs[i]? = some a ∧ VR g φ h v a
  | _, _, _, _, .nil, e => by simp at e
  | _, _, 0, _, .cons hv _, e => by simp at e; subst e; exact ⟨_, by simp, hv⟩
  | _, _, i + 1, _, .cons _ hr, e => by
    simp at e
    obtain ⟨a, h1, h2⟩ := VRs.get hr e
    exact ⟨a, by simpa using h1, h2⟩
theorem VRs.set {g : G} {φ : List Addr} {h : Heap} {v : V} {a : Value} (x : VR g φ h v a) : ∀ {l : List V} {vs : List Value} (i : Nat), VRs g φ h l vs → VRs g φ h (l.set i v) (vs.set i a)
  | _, _, _, .nil => by simpa using VRs.nil
  | _, _, 0, .cons _ hr => by simpa using VRs.cons x hr
  | _, _, i + 1, .cons hv hr => by simpa using VRs.cons hv (VRs.set x i hr)
theorem VRs.one {g : G} {φ : List Addr} {h : Heap} {v : V} {a : Value} (x : VR g φ h v a) : VRs g φ h [v] [a] := .cons x .nil
theorem VRs.take {g : G} {φ : List Addr} {h : Heap} : ∀ {l : List V} {vs : List Value} (i : Nat), VRs g φ h l vs → VRs g φ h (l.take i) (vs.take i)
  | _, _, _, .nil => by simpa using VRs.nil
  | _, _, 0, .cons _ _ => by simpa using VRs.nil
  | _, _, i + 1, .cons hv hr => by simpa using VRs.cons hv (VRs.take i hr)
theorem VRs.drop {g : G} {φ : List Addr} {h : Heap} : ∀ {l : List V} {vs : List Value} (i : Nat), VRs g φ h l vs → VRs g φ h (l.drop i) (vs.drop i)
  | _, _, _, .nil => by simpa using VRs.nil
  | _, _, 0, .cons hv hr => by simpa using VRs.cons hv hr
  | _, _, i + 1, .cons _ hr => by simpa using VRs.drop i hr

theorem MR.step {g : G} {φ φ' : List Addr} {σ : Sto} {h h' : Heap} (R : RepS g φ σ h) (S : SE φ h φ' h') {m : MObj} {a : Addr} (x : MR g φ h m a) (ha : ∀ o, h.get? a = some o → h'.get? a = some o) : MR g φ' h' m a := by
  cases x with
  | lst hl hz hv => exact .lst (hl.at ha) hz (hv.step R S)
  | di hd he hv => exact .di (dictOf_at hd ha) he (hv.step R S)
  | ds hd he hv => exact .ds (dictOf_at hd ha) he (hv.step R S)
  | own ho => exact .own (ha _ ho)
/-- the same by another road: tuples stay -/
theorem MR.stepT {g : G} {φ φ' : List Addr} {h h' : Heap} (hp : ∀ (n : Nat) (a : Addr), φ[n]? = some a → φ'[n]? = some a) (S : ∀ b o, h.get? b = some o → o.cls = .type "tuple" → (∃ items n, o.data = .seq items n) → b ∉ φ → h'.get? b = some o ∧ b ∉ φ') {m : MObj} {a : Addr} (x : MR g φ h m a) (ha : ∀ o, h.get? a = some o → h'.get? a = some o) : MR g φ' h' m a := by
  cases x with
  | lst hl hz hv => exact .lst (hl.at ha) hz (hv.stepT hp S)
  | di hd he hv => exact .di (dictOf_at hd ha) he (hv.stepT hp S)
  | ds hd he hv => exact .ds (dictOf_at hd ha) he (hv.stepT hp S)
  | own ho => exact .own (ha _ ho)

/-- the heap grows; φ and the store stay -/
theorem RepS.keeps {g : G} {φ : List Addr} {σ : Sto} {h h' : Heap} (R : RepS g φ σ h) (hk : ∀ b o, h.get? b = some o → h'.get? b = some o) : RepS g φ σ h' := by
  have S : SE φ h φ h' := ⟨fun b o e _ => hk b o e, fun b o e => ⟨o, hk b o e⟩, [], by simp, fun _ ha => (nomatch ha)⟩
  exact ⟨fun b o e => hk b o (R.base b o e), R.fresh, R.len, R.nodup, fun i a m h1 h2 => (R.objs i a m h1 h2).step R S fun o e => hk _ o e⟩
theorem SE.keeps (φ : List Addr) {h h' : Heap} (hk : ∀ b o, h.get? b = some o → h'.get? b = some o) : SE φ h φ h' :=
  ⟨fun b o e _ => hk b o e, fun b o e => ⟨o, hk b o e⟩, [], by simp, fun _ ha => (nomatch ha)⟩

/-- something else than the store's objects changes at one place that bears no tuple -/
theorem RepS.other {g : G} {φ : List Addr} {σ : Sto} {h h' : Heap} {L : Addr} (R : RepS g φ σ h) (hL : L ∉ φ) (hB : g.B.get? L = none)
    (hk : ∀ b o, b ≠ L → h.get? b = some o → h'.get? b = some o) (ht : ∀ o, h.get? L = some o → ∀ items n, o.data ≠ .seq items n) : RepS g φ σ h' := by
  refine ⟨fun b o e => hk b o (by rintro rfl; rw [hB] at e; cases e) (R.base b o e), R.fresh, R.len, R.nodup, fun i a m h1 h2 => ?_⟩
  have haL : a ≠ L := by rintro rfl; exact hL (List.mem_of_getElem? h1)
  refine (R.objs i a m h1 h2).stepT (fun _ _ e => e) (fun b o e _ hs hn => ⟨hk b o ?_ e, hn⟩) fun o e => hk _ o haL e
  rintro rfl
  obtain ⟨items, n, hd⟩ := hs
  exact ht o e items n hd

/-- a new mutable object, lying at a -/
theorem RepS.more {g : G} {φ : List Addr} {σ : Sto} {h : Heap} {a : Addr} {m : MObj} (R : RepS g φ σ h) (ha : a ∉ φ) (hB : g.B.get? a = none) (hm : MR g φ h m a) (hT : ∀ o, h.get? a = some o → o.cls ≠ .type "tuple") : RepS g (φ ++ [a]) (σ ++ [m]) h := by
  have up : ∀ {m : MObj} {b : Addr}, MR g φ h m b → MR g (φ ++ [a]) h m b := fun x =>
    x.stepT (fun n b e => by rw [List.getElem?_append_left (List.getElem?_eq_some_iff.mp e).1]; exact e) (fun b o e hc _ hn => ⟨e, fun hm => by
      rcases List.mem_append.mp hm with hm | hm
      · exact hn hm
      · simp at hm; subst hm; exact hT o e hc⟩) fun _ e => e
  refine ⟨R.base, fun b hb => ?_, by simp [R.len], ?_, fun i b m' h1 h2 => ?_⟩
  · rcases List.mem_append.mp hb with hb | hb
    · exact R.fresh b hb
    · simp at hb; subst hb; exact hB
  · rw [List.nodup_append]
    refine ⟨R.nodup, by simp, fun x hx y hy => ?_⟩
    simp at hy; subst hy
    rintro rfl; exact ha hx
  · by_cases hi : i < φ.length
    · rw [List.getElem?_append_left hi] at h1
      rw [List.getElem?_append_left (R.len ▸ hi)] at h2
      exact up (R.objs i b m' h1 h2)
    · have hi' : i = φ.length := by
        have := (List.getElem?_eq_some_iff.mp h1).1
        simp at this; omega
      subst hi'
      simp at h1
      rw [R.len] at h2; simp at h2
      subst h1; subst h2
      exact up hm

/-- an object of an iterator's own, made behind h₀ -/
theorem RepS.moreOwn {g : G} {φ : List Addr} {σ : Sto} {h₀ h : Heap} {a : Addr} {x y : Value} (R : RepS g φ σ h₀) (hk : ∀ b o, h₀.get? b = some o → h.get? b = some o) (h0 : h₀.get? a = none) (hB : g.B.get? a = none) (ho : h.get? a = some { cls := .type "tuple", data := .seq #[x, y] }) :
    RepS g (φ ++ [a]) (σ ++ [.own]) h ∧ SE φ h₀ (φ ++ [a]) h := by
  have hφ : a ∉ φ := fun hm => by obtain ⟨o', e⟩ := R.live hm; rw [h0] at e; cases e
  have S : SE φ h₀ (φ ++ [a]) h := ⟨fun b o e _ => hk b o e, fun b o e => ⟨o, hk b o e⟩, [a], rfl, fun b hb => by simp at hb; subst hb; exact h0⟩
  refine ⟨⟨fun b o e => hk b o (R.base b o e), fun b hb => ?_, by simp [R.len], ?_, fun i b m' h1 h2 => ?_⟩, S⟩
  · rcases List.mem_append.mp hb with hb | hb
    · exact R.fresh b hb
    · simp at hb; subst hb; exact hB
  · rw [List.nodup_append]
    refine ⟨R.nodup, by simp, fun x hx y hy => ?_⟩
    simp at hy; subst hy
    rintro rfl; exact hφ hx
  · by_cases hi : i < φ.length
    · rw [List.getElem?_append_left hi] at h1
      rw [List.getElem?_append_left (R.len ▸ hi)] at h2
      exact (R.objs i b m' h1 h2).step R S fun o e => hk _ o e
    · have hi' : i = φ.length := by
        have := (List.getElem?_eq_some_iff.mp h1).1
        simp at this; omega
      subst hi'
      simp at h1
      rw [R.len] at h2; simp at h2
      subst h1; subst h2
      exact .own ho

/-- a mutable object is written anew -/
theorem RepS.put {g : G} {φ : List Addr} {σ : Sto} {h h' : Heap} {a : Addr} {r : Nat} {m m₀ : MObj} (R : RepS g φ σ h) (hr : φ[r]? = some a) (h₀ : σ[r]? = some m₀)
    (hs : ∀ b o, b ≠ a → h.get? b = some o → h'.get? b = some o) (hm : MR g φ h' m a) : RepS g φ (σ.set r m) h' := by
  have haφ : a ∈ φ := List.mem_of_getElem? hr
  refine ⟨fun b o e => hs b o (by rintro rfl; rw [R.fresh _ haφ] at e; cases e) (R.base b o e), R.fresh, by simp [R.len], R.nodup, fun i b m' h1 h2 => ?_⟩
  by_cases hi : i = r
  · subst hi
    rw [hr] at h1; cases h1
    rw [List.getElem?_set_self (List.getElem?_eq_some_iff.mp h₀).1] at h2
    cases h2
    exact hm
  · rw [List.getElem?_set_ne (Ne.symm hi)] at h2
    have hb : b ≠ a := by
      rintro rfl
      exact hi (nodup_at R.nodup h1 hr)
    refine (R.objs i b m' h1 h2).stepT (fun _ _ e => e) (fun c o e hc _ hn => ⟨hs c o ?_ e, hn⟩) fun o e => hs _ o hb e
    rintro rfl
    exact hn haφ

theorem SE.put {φ : List Addr} {h h' : Heap} {a : Addr} (ha : a ∈ φ) (hs : Heap.SameBut a h h') (hd : ∃ o, h'.get? a = some o) : SE φ h φ h' :=
  ⟨fun b o e hb => hs.extBut b o (by rintro rfl; exact hb ha) e, fun b o e => by
    by_cases hb : b = a
    · subst hb; exact hd
    · exact ⟨o, hs.extBut b o hb e⟩, [], by simp, fun _ hm => (nomatch hm)⟩

/-- all else of the state but heap and toks -/
noncomputable def Same (s s' : Shared) : Prop := s'.gens = s.gens ∧ s'.drawn = s.drawn ∧ s'.os = s.os
theorem Same.refl (s : Shared) : Same s s := ⟨rfl, rfl, rfl⟩
theorem Same.trans {s s' s'' : Shared} (x : Same s s') (y : Same s' s'') : Same s s'' := ⟨y.1.trans x.1, y.2.1.trans x.2.1, y.2.2.trans x.2.2⟩

/-- after an evaluation -/
noncomputable def EvP (g : G) (φ : List Addr) (s : Shared) (v : V) (σ' : Sto) (a : Value) (s' : Shared) : Prop :=
  ∃ φ', SE φ s.heap φ' s'.heap ∧ RepS g φ' σ' s'.heap ∧ VR g φ' s'.heap v a ∧ Same s s'
noncomputable def EvPs (g : G) (φ : List Addr) (s : Shared) (l : List V) (σ' : Sto) (vs : List Value) (s' : Shared) : Prop :=
  ∃ φ', SE φ s.heap φ' s'.heap ∧ RepS g φ' σ' s'.heap ∧ VRs g φ' s'.heap l vs ∧ Same s s'
noncomputable def TsP (g : G) (φ : List Addr) (s : Shared) (b : Bool) (σ' : Sto) (b' : Bool) (s' : Shared) : Prop :=
  b' = b ∧ ∃ φ', SE φ s.heap φ' s'.heap ∧ RepS g φ' σ' s'.heap ∧ Same s s'

end Lar

set_option autoImplicit false
namespace Lar
open PySem PyProof.Rows PySem.Calls

structure FrR (g : G) (φ : List Addr) (env : Env) (nm : List (Str × Nat)) (ρ : Loc) (h : Heap) : Prop where
  kind : env.scope.kind = .function
  glob : env.globals = mainGlobals
  blt : env.builtins = builtinsNs
  ns : ∃ m, h.Ns env.locals m ∧ ∀ x i v, nm.lookup x = some i → env.kindOf x = some .local → ρ i = some v → ∃ a, m x = some a ∧ VR g φ h v a
  cells : ∀ x i, nm.lookup x = some i → (env.kindOf x = some .cell ∨ env.kindOf x = some .free) → ∃ c u, env.cells.lookup x = some c ∧ h.IsCell c u ∧ ∀ v, ρ i = some v → ∃ a, u = some a ∧ VR g φ h v a
  locN : env.locals ∉ φ
  locB : g.B.get? env.locals = none
  cellF : ∀ x c, env.cells.lookup x = some c → (∃ u, h.IsCell c u) ∧ c ∉ φ ∧ c ≠ env.locals ∧ g.B.get? c = none
  cellI : ∀ x y c, env.cells.lookup x = some c → env.cells.lookup y = some c → x = y
  slots : ∀ x y i, nm.lookup x = some i → nm.lookup y = some i → x = y

/-- what a statement may change -/
noncomputable def FM (φ : List Addr) (env : Env) (b : Addr) : Prop := b ∈ φ ∨ b = env.locals ∨ ∃ x, env.cells.lookup x = some b

/-- what the storing of a name may change -/
noncomputable def NM (env : Env) (x : Str) (b : Addr) : Prop := b = env.locals ∨ env.cells.lookup x = some b

theorem Ns.noSeq {h : Heap} {L : Addr} {m : Str → Option Value} (hn : h.Ns L m) : ∀ o, h.get? L = some o → ∀ items n, o.data ≠ .seq items n := by
  obtain ⟨o', es, ep, ho, hd, _⟩ := hn
  intro o e items n
  rw [ho] at e; cases e
  rw [hd]; intro x; cases x
theorem IsCell.noSeq {h : Heap} {c : Addr} {u : Option Value} (hc : h.IsCell c u) : ∀ o, h.get? c = some o → ∀ items n, o.data ≠ .seq items n := by
  obtain ⟨o', ho, hd⟩ := hc
  intro o e items n
  rw [ho] at e; cases e
  rw [hd]; intro x; cases x

section
variable {g : G} {φ φ' : List Addr} {σ σ' : Sto} {env : Env} {nm : List (Str × Nat)} {ρ : Loc} {h h' : Heap}

/-- a frame behind an evaluation -/
theorem FrR.step (F : FrR g φ env nm ρ h) (R : RepS g φ σ h) (S : SE φ h φ' h') : FrR g φ' env nm ρ h' := by
  obtain ⟨m, hn, hm⟩ := F.ns
  have keepC : ∀ c, c ∉ φ → ∀ u, h.IsCell c u → h'.IsCell c u := fun c hc u x => by
    obtain ⟨o, ho, hd⟩ := x
    exact ⟨o, S.pres _ _ ho hc, hd⟩
  refine ⟨F.kind, F.glob, F.blt, ⟨m, ?_, fun x i v a b c => ?_⟩, fun x i a b => ?_, ?_, F.locB, fun x c e => ?_, F.cellI, F.slots⟩
  · obtain ⟨o, es, ep, ho, r⟩ := hn
    exact ⟨o, es, ep, S.pres _ _ ho F.locN, r⟩
  · obtain ⟨y, h1, h2⟩ := hm x i v a b c
    exact ⟨y, h1, h2.step R S⟩
  · obtain ⟨c, u, h1, h2, h3⟩ := F.cells x i a b
    refine ⟨c, u, h1, keepC c (F.cellF x c h1).2.1 u h2, fun v hv => ?_⟩
    obtain ⟨y, h4, h5⟩ := h3 v hv
    exact ⟨y, h4, h5.step R S⟩
  · obtain ⟨o, es, ep, ho, r⟩ := hn
    exact S.notin ho F.locN
  · obtain ⟨⟨u, hu⟩, h1, h2, h3⟩ := F.cellF x c e
    refine ⟨⟨u, keepC c h1 u hu⟩, ?_, h2, h3⟩
    obtain ⟨o, ho, hd⟩ := hu
    exact S.notin ho h1

/-- the state of a frame behind a statement -/
noncomputable def ExP (g : G) (φ : List Addr) (env : Env) (nm : List (Str × Nat)) (s : Shared) (ρ' : Loc) (σ' : Sto) (s' : Shared) : Prop :=
  ∃ φ', Stp (FM φ env) φ s.heap φ' s'.heap ∧ RepS g φ' σ' s'.heap ∧ FrR g φ' env nm ρ' s'.heap ∧ Same s s'

theorem Stp.ofSE (S : SE φ h φ' h') (env : Env) : Stp (FM φ env) φ h φ' h' := ⟨fun b o e hb => S.pres b o e fun x => hb (.inl x), S.dom, S.ext⟩

/-- one step in the frame, then another -/
theorem FM.trans {φ φ' φ'' : List Addr} {h h' h'' : Heap} {env : Env} (x : Stp (FM φ env) φ h φ' h') (y : Stp (FM φ' env) φ' h' φ'' h'') : Stp (FM φ env) φ h φ'' h'' :=
  Stp.trans x y (fun _ _ _ hb => hb) fun b o e hb q => by
    rcases q with q | q
    · exact x.notin e (fun z => hb (.inl z)) q
    · exact hb (.inr q)
end

section
variable {g : G} {A : Around} {E : Value → Shared → Prop} {φ : List Addr} {σ : Sto} {env : Env} {nm : List (Str × Nat)} {ρ : Loc} {s : Shared}

/-- a name is stored -/
theorem store_name {x : Str} {i : Nat} {v : V} {a : Value} {Q : Unit → Shared → Prop} (F : FrR g φ env nm ρ s.heap) (R : RepS g φ σ s.heap) (hx : nm.lookup x = some i)
    (hk : env.kindOf x = some .local ∨ env.kindOf x = some .cell) (hv : VR g φ s.heap v a)
    (h : ∀ h' tk, Stp (NM env x) φ s.heap φ h' → RepS g φ σ h' → FrR g φ env nm (upd ρ i v) h' → (∀ {v : V} {a : Value}, VR g φ s.heap v a → VR g φ h' v a) → Q () { s with heap := h', toks := tk }) :
    wpAny (model g.prog g.w) A (storeName env x a) Q E s := by
  obtain ⟨m, hn, hm⟩ := F.ns
  rcases hk with hk | hk
  · refine wpAny_storeName_local hk hn (fun h' hn' hs' => ?_) (by rw [F.kind]; rfl)
    have noSeq := Ns.noSeq hn
    have kp : ∀ b o, b ≠ env.locals → s.heap.get? b = some o → h'.get? b = some o := fun b o hb e => hs'.extBut b o hb e
    have up : ∀ {v : V} {a : Value}, VR g φ s.heap v a → VR g φ h' v a := fun x => x.stepT (fun _ _ e => e) fun b o e _ hsq hn => ⟨kp b o (by rintro rfl; obtain ⟨items, n, hd⟩ := hsq; exact noSeq o e items n hd) e, hn⟩
    refine h h' _ ⟨fun b o e hb => kp b o (fun x => hb (.inl x)) e, fun b o e => ?_, [], by simp, fun _ hm => (nomatch hm)⟩ (R.other F.locN F.locB kp noSeq) ?_ up
    · by_cases hb : b = env.locals
      · subst hb
        obtain ⟨o', _, _, ho', _⟩ := hn'
        exact ⟨o', ho'⟩
      · exact ⟨o, kp b o hb e⟩
    · refine ⟨F.kind, F.glob, F.blt, ⟨_, hn', fun y j w' hy hky hj => ?_⟩, fun y j hy hky => ?_, F.locN, F.locB, fun y c e => ?_, F.cellI, F.slots⟩
      · by_cases hyx : y = x
        · subst hyx
          rw [hx] at hy; cases hy
          simp only [upd, if_true] at hj; cases hj
          exact ⟨a, by simp, up hv⟩
        · have hij : j ≠ i := fun e => hyx (F.slots y x i (e ▸ hy) hx)
          simp only [upd, if_neg hij] at hj
          obtain ⟨z, h1, h2⟩ := hm y j w' hy hky hj
          exact ⟨z, by simp [hyx, h1], up h2⟩
      · have hyx : y ≠ x := by rintro rfl; rw [hk] at hky; rcases hky with q | q <;> cases q
        have hij : j ≠ i := fun e => hyx (F.slots y x i (e ▸ hy) hx)
        obtain ⟨c, u, h1, h2, h3⟩ := F.cells y j hy hky
        refine ⟨c, u, h1, ?_, fun w' hw => ?_⟩
        · obtain ⟨o, ho, hd⟩ := h2
          exact ⟨o, kp c o (F.cellF y c h1).2.2.1 ho, hd⟩
        · simp only [upd, if_neg hij] at hw
          obtain ⟨z, h4, h5⟩ := h3 w' hw
          exact ⟨z, h4, up h5⟩
      · obtain ⟨⟨u, o, ho, hd⟩, h1, h2, h3⟩ := F.cellF y c e
        exact ⟨⟨u, o, kp c o h2 ho, hd⟩, h1, h2, h3⟩
  · obtain ⟨c, u, hc, hcu, _⟩ := F.cells x i hx (.inl hk)
    obtain ⟨_, hcφ, hcL, hcB⟩ := F.cellF x c hc
    refine wpAny_storeName_cell F.kind hk hc hcu fun h' hc' hs' => ?_
    have noSeq := IsCell.noSeq hcu
    have kp : ∀ b o, b ≠ c → s.heap.get? b = some o → h'.get? b = some o := fun b o hb e => hs'.extBut b o hb e
    have up : ∀ {v : V} {a : Value}, VR g φ s.heap v a → VR g φ h' v a := fun x => x.stepT (fun _ _ e => e) fun b o e _ hsq hn => ⟨kp b o (by rintro rfl; obtain ⟨items, n, hd⟩ := hsq; exact noSeq o e items n hd) e, hn⟩
    refine h h' _ ⟨fun b o e hb => kp b o (fun y => hb (.inr (y ▸ hc))) e, fun b o e => ?_, [], by simp, fun _ hm => (nomatch hm)⟩ (R.other hcφ hcB kp noSeq) ?_ up
    · by_cases hb : b = c
      · subst hb
        obtain ⟨o', ho', _⟩ := hc'
        exact ⟨o', ho'⟩
      · exact ⟨o, kp b o hb e⟩
    · refine ⟨F.kind, F.glob, F.blt, ⟨m, ?_, fun y j w' hy hky hj => ?_⟩, fun y j hy hky => ?_, F.locN, F.locB, fun y d e => ?_, F.cellI, F.slots⟩
      · obtain ⟨o, es, ep, ho, r⟩ := hn
        exact ⟨o, es, ep, kp _ o (Ne.symm hcL) ho, r⟩
      · have hyx : y ≠ x := by rintro rfl; rw [hk] at hky; cases hky
        have hij : j ≠ i := fun e => hyx (F.slots y x i (e ▸ hy) hx)
        simp only [upd, if_neg hij] at hj
        obtain ⟨z, h1, h2⟩ := hm y j w' hy hky hj
        exact ⟨z, h1, up h2⟩
      · by_cases hyx : y = x
        · subst hyx
          rw [hx] at hy; cases hy
          refine ⟨c, some a, hc, hc', fun w' hw => ?_⟩
          simp only [upd, if_true] at hw; cases hw
          exact ⟨a, rfl, up hv⟩
        · have hij : j ≠ i := fun e => hyx (F.slots y x i (e ▸ hy) hx)
          obtain ⟨d, u', h1, h2, h3⟩ := F.cells y j hy hky
          have hdc : d ≠ c := fun e => hyx (F.cellI y x c (e ▸ h1) hc)
          refine ⟨d, u', h1, ?_, fun w' hw => ?_⟩
          · obtain ⟨o, ho, hd⟩ := h2
            exact ⟨o, kp d o hdc ho, hd⟩
          · simp only [upd, if_neg hij] at hw
            obtain ⟨z, h4, h5⟩ := h3 w' hw
            exact ⟨z, h4, up h5⟩
      · obtain ⟨⟨u', o, ho, hd⟩, h1, h2, h3⟩ := F.cellF y d e
        by_cases hdc : d = c
        · subst hdc
          exact ⟨⟨_, hc'⟩, h1, h2, h3⟩
        · exact ⟨⟨u', o, kp d o hdc ho, hd⟩, h1, h2, h3⟩
end

structure Fn where
  name : Str
  addr : Addr
  params : Arguments
  body : List Stmt
  scope : Scope

structure GOk (g : G) (cx : CCtx) (fs : List Fn) (mg mb : Str → Option Value) : Prop where
  gns : g.B.Ns mainGlobals mg
  bns : g.B.Ns builtinsNs mb
  nolimit : g.B.NoLimit
  sys : ∃ o, g.B.get? sysModules = some o
  prims : ∀ x ∈ primNames, mg x = none ∧ mb x = bootBuiltins x
  consts : ∀ x i, cx.consts.lookup x = some i → ∃ t, mg x = some (.int i t)
  names : fs.map (·.name) = cx.funs
  made : ∀ f ∈ fs, mg f.name = some (.ref f.addr) ∧ ∃ o pm cd doc, g.B.get? f.addr = some o ∧ o.data = .func (docDef f.name f.params f.body f.scope pm cd doc) ∧ g.B.CodeRec cd f.name

section
variable {g : G} {cx : CCtx} {fs : List Fn} {mg mb : Str → Option Value} {A : Around} {E : Value → Shared → Prop} {φ : List Addr} {σ : Sto} {env : Env} {nm : List (Str × Nat)} {ρ : Loc} {s : Shared}

theorem glob_name {x : Str} {pos : Pos} {v : Value} {Q : Value → Shared → Prop} (G : GOk g cx fs mg mb) (F : FrR g φ env nm ρ s.heap) (R : RepS g φ σ s.heap) (hx : env.kindOf x = some .globalImplicit) (hd : (x == ("__debug__" : Str)) = false)
    (hv : mg x = some v) (h : Q v s) : wpAny (model g.prog g.w) A (eval (.Name x pos) env) Q E s :=
  Name_function_global F.kind hx (loadGlobal_global (by rw [F.glob]; exact G.gns.keeps R.base) hv h) hd
theorem blt_name {x : Str} {pos : Pos} {v : Value} {Q : Value → Shared → Prop} (G : GOk g cx fs mg mb) (F : FrR g φ env nm ρ s.heap) (R : RepS g φ σ s.heap) (hx : env.kindOf x = some .globalImplicit) (hd : (x == ("__debug__" : Str)) = false)
    (hp : x ∈ primNames) (hv : bootBuiltins x = some v) (h : Q v s) : wpAny (model g.prog g.w) A (eval (.Name x pos) env) Q E s :=
  Name_function_global F.kind hx (loadGlobal_builtin (by rw [F.glob]; exact G.gns.keeps R.base) (G.prims x hp).1 (by rw [F.blt]; exact G.bns.keeps R.base) ((G.prims x hp).2.trans hv) h) hd

/-- soundness of an expression -/
noncomputable def SndE (g : G) (A : Around) (env : Env) (nm : List (Str × Nat)) (e : Expr) (m : Loc → Sto → Option (V × Sto)) : Prop :=
  ∀ ρ σ v σ', m ρ σ = some (v, σ') → ∀ φ s, RepS g φ σ s.heap → FrR g φ env nm ρ s.heap → ∀ E, wpAny (model g.prog g.w) A (eval e env) (EvP g φ s v σ') E s
noncomputable def SndT (g : G) (A : Around) (env : Env) (nm : List (Str × Nat)) (e : Expr) (m : Loc → Sto → Option (Bool × Sto)) : Prop :=
  ∀ ρ σ b σ', m ρ σ = some (b, σ') → ∀ φ s, RepS g φ σ s.heap → FrR g φ env nm ρ s.heap → ∀ E, wpAny (model g.prog g.w) A (isTrue e env (eval e env)) (TsP g φ s b σ') E s

theorem EvP.here {v : V} {a : Value} {tk : Nat} (R : RepS g φ σ s.heap) (hv : VR g φ s.heap v a) : EvP g φ s v σ a { s with toks := tk } :=
  ⟨φ, SE.refl _ _, R, hv, rfl, rfl, rfl⟩

theorem isLoc_some : ∀ {k : NameKind}, isLoc k = true → k = .local ∨ k = .cell ∨ k = .free := fun {k} h => by
  cases k <;> first | exact .inl rfl | exact .inr (.inl rfl) | exact .inr (.inr rfl) | cases h
theorem snd_name {x : Str} {pos : Pos} {c : CE} {call : CallF} (G : GOk g cx fs mg mb) (hc : cName cx env.scope nm x = some c) : SndE g A env nm (.Name x pos) (evalC call c) := by
  intro ρ σ v σ' he φ s R F E
  unfold cName at hc
  split at hc
  · exact no hc
  · rename_i hd
    simp only [Bool.or_eq_true, not_or, Bool.not_eq_true] at hd
    obtain ⟨k, hk, hc⟩ := ob hc
    by_cases hl : isLoc k = true
    · rw [if_pos hl] at hc
      obtain ⟨i, hi, hc⟩ := ob hc
      obtain rfl := sm hc
      obtain ⟨v', hρ, he⟩ := ob he
      obtain ⟨rfl, rfl⟩ := sm2 he
      rcases isLoc_some hl with rfl | rfl | rfl
      · obtain ⟨m, hn, hm⟩ := F.ns
        obtain ⟨a, h1, h2⟩ := hm x i _ hi hk hρ
        exact wpAny_Name (wpAny_loadName_local F.kind hk hn h1 (EvP.here R h2)) hd.1
      · obtain ⟨cl, u, h1, h2, h3⟩ := F.cells x i hi (.inl hk)
        obtain ⟨a, rfl, h4⟩ := h3 _ hρ
        exact wpAny_Name (wpAny_loadName_cell F.kind hk h1 h2 (EvP.here R h4)) hd.1
      · obtain ⟨cl, u, h1, h2, h3⟩ := F.cells x i hi (.inr hk)
        obtain ⟨a, rfl, h4⟩ := h3 _ hρ
        exact wpAny_Name (wpAny_loadName_free F.kind hk h1 h2 (EvP.here R h4) hd.2) hd.1
    · rw [if_neg hl] at hc
      obtain ⟨hg, hc⟩ := iteS hc
      obtain ⟨i, hi, hc⟩ := ob hc
      obtain rfl := sm hc
      obtain ⟨rfl, rfl⟩ := sm2 he
      obtain ⟨t, ht⟩ := G.consts x i hi
      rw [beq_iff_eq.mp hg] at hk
      exact glob_name G F R hk hd.1 ht (EvP.here R (.int i t))
end

end Lar

set_option autoImplicit false
set_option maxRecDepth 100000
namespace Lar
open PySem PyProof.Rows PySem.Calls

theorem szLine_eq : szLine = sizeLine := rfl

section
variable {g : G} {A : Around} {E : Value → Shared → Prop} {φ : List Addr} {σ : Sto} {s : Shared}

theorem fresh_size (h : Heap) : h.get? h.objs.size = none := by
  cases e : h.get? h.objs.size with
  | none => rfl
  | some o => exact absurd (Heap.lt_size e) (Nat.lt_irrefl _)

/-- a new list that lies at D -/
theorem EvP.newL {l : List V} {vs : List Value} {h' : Heap} {D : Addr} {tk : Nat} (R : RepS g φ σ s.heap) (hz : l.length ≤ szLine + 1) (hv : VRs g φ s.heap l vs) (hk : ∀ b o, s.heap.get? b = some o → h'.get? b = some o)
    (hD : s.heap.get? D = none) (hl : h'.PlainList D vs.toArray) : EvP g φ s (.ref σ.length) (σ ++ [.lst l]) (.ref D) { s with heap := h', toks := tk } := by
  have R' : RepS g φ σ h' := R.keeps hk
  have S : SE φ s.heap φ h' := SE.keeps φ hk
  have hDφ : D ∉ φ := fun x => by
    obtain ⟨o, ho⟩ := R.live x
    rw [hD] at ho; cases ho
  have hDB : g.B.get? D = none := by
    cases e : g.B.get? D with
    | none => rfl
    | some o => have := R.base D o e; rw [hD] at this; cases this
  refine ⟨φ ++ [D], ⟨S.pres, S.dom, [D], rfl, fun a ha => ?_⟩, R'.more hDφ hDB (.lst hl hz (hv.step R S)) (fun o e => by obtain ⟨n, ho⟩ := hl; rw [ho] at e; cases e; exact list_ne_tuple), .ref ?_, rfl, rfl, rfl⟩
  · simp at ha; subst ha; exact hD
  · rw [← R.len]; simp

theorem EvP.newT {l : List V} {vs : List Value} {h' : Heap} {D : Addr} {tk : Nat} (R : RepS g φ σ s.heap) (hz : l.length ≤ szLine + 1) (hv : VRs g φ s.heap l vs) (hk : ∀ b o, s.heap.get? b = some o → h'.get? b = some o)
    (hD : s.heap.get? D = none) (hl : h'.IsTuple D vs.toArray) : EvP g φ s (.tup l) σ (.ref D) { s with heap := h', toks := tk } :=
  have S : SE φ s.heap φ h' := SE.keeps φ hk
  ⟨φ, S, R.keeps hk, .tup hl hz (hv.step R S) (fun x => by obtain ⟨o, ho⟩ := R.live x; rw [hD] at ho; cases ho), rfl, rfl, rfl⟩

theorem fresh_of {h h' : Heap} {D : Addr} (hk : ∀ b o, h.get? b = some o → h'.get? b = some o) (hD : h'.get? D = none) : h.get? D = none := by
  cases e : h.get? D with
  | none => rfl
  | some o => have := hk D o e; rw [hD] at this; cases this

/-- the list that a ref stands for -/
theorem RepS.list {r : Nat} {a : Addr} {l : List V} {h : Heap} (R : RepS g φ σ h) (hr : φ[r]? = some a) (hl : lst σ r = some l) : ∃ vs, h.PlainList a vs.toArray ∧ VRs g φ h l vs ∧ l.length ≤ szLine + 1 := by
  have := R.objs r a _ hr (lst_some hl)
  cases this with
  | lst h1 hz h2 => exact ⟨_, h1, h2, hz⟩

theorem rep_eq {α : Type} (l : List α) (n : Nat) : rep l n = (List.replicate n l).flatten := by
  induction n with
  | zero => rfl
  | succ n ih => simp [rep, List.replicate_succ, ih]
theorem VRs.rep {h : Heap} {l : List V} {vs : List Value} (x : VRs g φ h l vs) (n : Nat) : VRs g φ h (rep l n) (Lar.rep vs n) := by
  induction n with
  | zero => exact .nil
  | succ n ih => exact x.append ih

theorem rep_length {α : Type} (l : List α) (n : Nat) : (rep l n).length = l.length * n := by
  induction n with
  | zero => rfl
  | succ n ih => simp only [rep, List.length_append, ih]; rw [Nat.mul_succ, Nat.add_comm]

theorem foldl_replicate (vs : List Value) (n : Nat) : ∀ acc : Array Value, (List.foldl (fun x1 x2 : Array Value => x1 ++ x2) acc (List.replicate n vs.toArray)) = acc ++ (rep vs n).toArray := by
  induction n with
  | zero => intro acc; simp [rep]
  | succ n ih => intro acc; rw [List.replicate_succ, List.foldl_cons, ih]; simp [rep]

theorem bits_le {x : Int} (h : x.natAbs < 18446744073709551616) : Builtin.Int.intBits x ≤ 64 := by
  unfold Builtin.Int.intBits
  split
  · exact Nat.zero_le _
  · rename_i hx
    have h0 : x.natAbs ≠ 0 := by
      intro h'
      exact hx (by simpa using h')
    have : x.natAbs.log2 < 64 := (Nat.log2_lt h0).mpr h
    omega

theorem vI {h : Heap} {x : V} {a : Value} {i : Int} (hi : asI x = some i) (hx : VR g φ h x a) : ∃ t, a = .int i t := by
  obtain rfl := asI_some hi
  cases hx
  exact ⟨_, rfl⟩
theorem vB {h : Heap} {x : V} {a : Value} {i : Bool} (hi : asB x = some i) (hx : VR g φ h x a) : a = .bool i := by
  obtain rfl := asB_some hi
  cases hx
  rfl
theorem vS {h : Heap} {x : V} {a : Value} {i : Str} (hi : asS x = some i) (hx : VR g φ h x a) : ∃ t, a = .str i t := by
  obtain rfl := asS_some hi
  cases hx
  exact ⟨_, rfl⟩
theorem vR {h : Heap} {x : V} {a : Value} {i : Nat} (hi : asR x = some i) (hx : VR g φ h x a) : ∃ c, a = .ref c ∧ φ[i]? = some c := by
  obtain rfl := asR_some hi
  cases hx with
  | ref hr => exact ⟨_, rfl, hr⟩
theorem vT {h : Heap} {x : V} {a : Value} {i : List V} (hi : asT x = some i) (hx : VR g φ h x a) : ∃ c vs, a = .ref c ∧ h.IsTuple c vs.toArray ∧ i.length ≤ szLine + 1 ∧ VRs g φ h i vs ∧ c ∉ φ := by
  obtain rfl := asT_some hi
  cases hx with
  | tup h1 h2 h3 h4 => exact ⟨_, _, rfl, h1, h2, h3, h4⟩

theorem noFill_tuple_mul : fillsNumberSlot (.type "tuple") "mul" = pure false :=
  PySem.fillsNumberSlot_seq (id := "tuple.__mul__") (r := some (.builtin "tuple.__rmul__")) PySem.F.slot_tuple_mul.lookup (by decide +kernel) PySem.F.slot_tuple_rmul.lookup (by decide +kernel)
theorem repeat_tuple : seqRepeat? (.type "tuple") = pure (some (.builtin "tuple.__mul__")) := by
  unfold seqRepeat?
  rw [PySem.seqSlot_of (T := "tuple") (name := "__mul__") (id := "tuple.__mul__") PySem.F.slot_tuple_mul.lookup (by decide +kernel), PySem.seqSlot_of (T := "tuple") (name := "__rmul__") (id := "tuple.__rmul__") PySem.F.slot_tuple_rmul.lookup (by decide +kernel)]
  rfl
theorem int_rmul_tuple (a : Int) (t : Tok) (l : Addr) (items : Array Value) (n : Nat) (d : Option Addr) (sl : Array (Option Value)) :
    Meets (Builtin.«int.__rmul__» ⟨[.int a t, .ref l], []⟩) (fun _ R s => s.heap.get? l = some { cls := .type "tuple", dict := d, data := .seq items n, slots := sl } ∧ R (.ok (.ret Value.notImplemented)) s) :=
  .of_wp fun prog w A R s h => by obtain ⟨hp, g, d, tk, os⟩ := s; obtain ⟨hl, h⟩ := h; wp_walk; exact ⟨_, rfl, h⟩
theorem tuple_mul (l : Addr) (items : Array Value) (n : Nat) (d : Option Addr) (sl : Array (Option Value)) (x : Int) (u : Tok) (h0 : ¬ (decide (x < -(2 ^ 63)) || decide (x ≥ 2 ^ 63)) = true) (h1 : ¬ (items.isEmpty || x == 1) = true) (h2 : ¬ (decide (x ≤ 0) || items.isEmpty) = true)
    (h3 : ¬ items.size * x > (2 ^ 63 - 1) / 8) (h4 : ¬ Builtin.Tuple.tupleTooMany (items.size * x) = true) :
    Meets (Builtin.«tuple.__mul__» ⟨[.ref l, .int x u], []⟩) (fun _ R s => s.heap.get? l = some { cls := .type "tuple", dict := d, data := .seq items n, slots := sl } ∧
      R (.ok (.ret (Value.ref s.heap.objs.size))) { s with heap := s.heap.push { cls := Value.type "tuple", data := Data.seq (List.foldl (fun x1 x2 => x1 ++ x2) #[] (List.replicate x.toNat items)) }, toks := s.toks }) :=
  .of_wp fun prog w A R s h => by
    obtain ⟨hp, g, d, tk, os⟩ := s; obtain ⟨hl, h⟩ := h
    wp_walk
    refine wpAny_ite ?_
    rw [if_neg h0]
    wp_walk
    refine wpAny_ite ?_
    rw [if_neg h3]
    wp_walk
    have hsz : (List.foldl (fun x1 x2 : Array Value => x1 ++ x2) #[] (List.replicate x.toNat items)).size ≤ sizeLine := by
      obtain ⟨vs⟩ := items
      rw [show (⟨vs⟩ : Array Value) = vs.toArray from rfl, foldl_replicate]
      simp only [Builtin.Tuple.tupleTooMany, decide_eq_true_eq, Int.not_lt] at h4
      simp only [Array.size_append, List.size_toArray, rep_length, List.length_nil]
      rw [show (⟨vs⟩ : Array Value).size = vs.length from rfl] at h4
      simp only [Bool.or_eq_true, decide_eq_true_eq, not_or, Int.not_le] at h2
      have h5 : ((vs.length * x.toNat : Nat) : Int) ≤ sizeLine := by
        rw [Int.natCast_mul, Int.toNat_of_nonneg (by omega)]
        exact h4
      omega
    refine wpAny_ite_false (decide_eq_false (Nat.not_lt.mpr hsz)) ?_
    wp_walk
    exact ⟨_, rfl, h⟩

theorem tuple_parts {h : Heap} {a : Addr} {vs : Array Value} (x : h.IsTuple a vs) : ∃ n d sl, h.get? a = some { cls := .type "tuple", dict := d, data := .seq vs n, slots := sl } := by
  obtain ⟨⟨cls, d, data, sl⟩, ho, hc, n, hd⟩ := x
  simp only at hc hd
  subst hc hd
  exact ⟨n, d, sl, ho⟩
theorem list_parts {h : Heap} {a : Addr} {vs : Array Value} (x : h.IsList a vs) : ∃ n d sl, h.get? a = some { cls := .type "list", dict := d, data := .seq vs n, slots := sl } := by
  obtain ⟨⟨cls, d, data, sl⟩, ho, hc, n, hd⟩ := x
  simp only at hc hd
  subst hc hd
  exact ⟨n, d, sl, ho⟩

theorem isTuple_push (h : Heap) (vs : Array Value) : (h.push { cls := .type "tuple", data := .seq vs }).IsTuple h.objs.size vs := ⟨_, Heap.get?_push_size _ rfl, rfl, _, rfl⟩
theorem isList_push (h : Heap) (vs : Array Value) : (h.push { cls := .type "list", data := .seq vs }).PlainList h.objs.size vs := ⟨_, Heap.get?_push_size _ rfl⟩

theorem VRs.nil_iff {h : Heap} {l : List V} {vs : List Value} (x : VRs g φ h l vs) : vs = [] ↔ l = [] := by
  cases x <;> simp

theorem newT_some {l : List V} {v : V} {σ' : Sto} (h : newT σ l = some (v, σ')) : l.length ≤ sizeLine ∧ v = .tup l ∧ σ' = σ := by
  obtain ⟨hz, h⟩ := iteS h
  obtain ⟨rfl, rfl⟩ := sm2 h
  exact ⟨hz, rfl, rfl⟩
theorem new_some {l : List V} {v : V} {σ' : Sto} (h : new σ l = some (v, σ')) : l.length ≤ sizeLine ∧ v = .ref σ.length ∧ σ' = σ ++ [.lst l] := by
  obtain ⟨hz, h⟩ := iteS h
  obtain ⟨rfl, rfl⟩ := sm2 h
  exact ⟨hz, rfl, rfl⟩

theorem add_tup {l m : List V} {ta tb : Addr} {vs ws : List Value} (hz : (l ++ m).length ≤ sizeLine) (R : RepS g φ σ s.heap) (ht : s.heap.IsTuple ta vs.toArray) (hzl : l.length ≤ szLine + 1) (hv : VRs g φ s.heap l vs) (hnl : ta ∉ φ) (hu : s.heap.IsTuple tb ws.toArray) (hzm : m.length ≤ szLine + 1) (hw : VRs g φ s.heap m ws) (hnm : tb ∉ φ) :
    wpAny (model g.prog g.w) A (binaryOp .Add (.ref ta) (.ref tb)) (EvP g φ s (.tup (l ++ m)) σ) E s := by
  have hz0 := Nat.le_succ_of_le hz
  obtain ⟨n1, d1, s1, o1⟩ := tuple_parts ht
  obtain ⟨n2, d2, s2, o2⟩ := tuple_parts hu
  rw [List.length_append, hv.length, hw.length] at hz
  by_cases e1 : vs = []
  · refine PySem.concat_meets ⟨_, o1, rfl⟩ ⟨_, o2, rfl⟩ noFill_tuple_add seq_tuple_add PySem.F.slot_tuple_add PySem.F.entry_tuple_add (PySem.F.args_tuple_add_2 _ _)
      (tuple_addW0 _ _ vs.toArray ws.toArray n1 n2 d1 d2 s1 s2 (by simp [e1])) ⟨o1, o2, ?_⟩
    have : l = [] := hv.nil_iff.mp e1
    subst this
    exact EvP.here (tk := s.toks) R (.tup hu hzm hw hnm)
  · by_cases e2 : ws = []
    · refine PySem.concat_meets ⟨_, o1, rfl⟩ ⟨_, o2, rfl⟩ noFill_tuple_add seq_tuple_add PySem.F.slot_tuple_add PySem.F.entry_tuple_add (PySem.F.args_tuple_add_2 _ _)
        (tuple_addW1 _ _ vs.toArray ws.toArray n1 n2 d1 d2 s1 s2 (by simpa using e1) (by simp [e2])) ⟨o1, o2, ?_⟩
      have : m = [] := hw.nil_iff.mp e2
      subst this
      rw [List.append_nil]
      exact EvP.here (tk := s.toks) R (.tup ht hzl hv hnl)
    · refine PySem.concat_meets ⟨_, o1, rfl⟩ ⟨_, o2, rfl⟩ noFill_tuple_add seq_tuple_add PySem.F.slot_tuple_add PySem.F.entry_tuple_add (PySem.F.args_tuple_add_2 _ _)
        (tuple_addW2 _ _ vs.toArray ws.toArray n1 n2 d1 d2 s1 s2 (by simpa using e1) (by simpa using e2) (by rw [List.size_toArray, List.size_toArray]; exact hz)) ⟨o1, o2, ?_⟩
      rw [show vs.toArray ++ ws.toArray = (vs ++ ws).toArray from by simp]
      exact EvP.newT R hz0 (hv.append hw) (fun b o e => Heap.get?_push_of_some _ e) (fresh_size _) (isTuple_push _ _)
theorem mul_tup {l : List V} {ta : Addr} {vs : List Value} {n : Int} {u : Tok} (hz : (rep l n.toNat).length ≤ sizeLine) (hn1 : 2 ≤ n) (hn2 : n ≤ 100000) (hn3 : l ≠ []) (hn4 : l.length ≤ 100) (R : RepS g φ σ s.heap) (ht : s.heap.IsTuple ta vs.toArray) (hv : VRs g φ s.heap l vs) :
    wpAny (model g.prog g.w) A (binaryOp .Mult (.ref ta) (.int n u)) (EvP g φ s (.tup (rep l n.toNat)) σ) E s := by
  have hz0 := Nat.le_succ_of_le hz
  obtain ⟨n1, d1, s1, o1⟩ := tuple_parts ht
  have hvl := hv.length
  have hne : vs ≠ [] := fun e => hn3 (hv.nil_iff.mp e)
  have hsz : (vs.toArray.size : Int) * n ≤ 10000000 := by
    have h1 : (vs.toArray.size : Int) ≤ 100 := by simp; omega
    have h2 : (0 : Int) ≤ vs.toArray.size := by omega
    calc (vs.toArray.size : Int) * n ≤ 100 * n := Int.mul_le_mul_of_nonneg_right h1 (by omega)
      _ ≤ 10000000 := by omega
  have h5 : ¬ ((sizeLine : Int) < (vs.toArray.size : Int) * n) := by rw [sizeLine_eq]; omega
  refine wpAny_binaryOp_repeat_ref (T := "tuple") (U := "int") (by decide) ⟨_, o1, rfl⟩ (fun s' => typeIs_int s' n u) noFill_tuple_mul PySem.F.fills_int_mul PySem.F.slot_int_rmul repeat_tuple PySem.F.slot_int_index.lookup
    (call_meets PySem.F.slot_int_rmul (typeIs_int s n u) PySem.F.entry_int_rmul (PySem.F.args_int_rmul_2 _ _) (int_rmul_tuple n u _ vs.toArray n1 d1 s1)
      ⟨o1, rfl, ⟨_, o1, rfl⟩, call_meets PySem.F.slot_tuple_mul ⟨_, o1, rfl⟩ PySem.F.entry_tuple_mul (PySem.F.args_tuple_mul_2 _ _)
        (tuple_mul _ vs.toArray n1 d1 s1 n u (by simp; omega) (by simp; exact ⟨hne, by omega⟩) (by simp; exact ⟨by omega, hne⟩) (by omega) (by simpa [Builtin.Tuple.tupleTooMany] using h5))
        ⟨o1, ?_⟩⟩)
  rw [foldl_replicate, show (#[] : Array Value) ++ (rep vs n.toNat).toArray = (rep vs n.toNat).toArray from by simp]
  exact EvP.newT R hz0 (hv.rep _) (fun b o e => Heap.get?_push_of_some _ e) (fresh_size _) (isTuple_push _ _)
theorem add_lst {i j : Nat} {l m : List V} {ta tb : Addr} (hz : (l ++ m).length ≤ sizeLine) (R : RepS g φ σ s.heap) (hi : φ[i]? = some ta) (hj : φ[j]? = some tb) (h1 : lst σ i = some l) (h2 : lst σ j = some m) :
    wpAny (model g.prog g.w) A (binaryOp .Add (.ref ta) (.ref tb)) (EvP g φ s (.ref σ.length) (σ ++ [.lst (l ++ m)])) E s := by
  have hz0 := Nat.le_succ_of_le hz
  obtain ⟨vs, hl, hv, _⟩ := R.list hi h1
  obtain ⟨ws, hm, hw, _⟩ := R.list hj h2
  obtain ⟨n1, d1, s1, o1⟩ := list_parts hl.isList
  obtain ⟨n2, d2, s2, o2⟩ := list_parts hm.isList
  rw [List.length_append, hv.length, hw.length] at hz
  refine PySem.concat_meets ⟨_, o1, rfl⟩ ⟨_, o2, rfl⟩ noFill_list_add seq_list_add PySem.F.slot_list_add PySem.F.entry_list_add (PySem.F.args_list_add_2 _ _)
    (list_addW _ _ vs.toArray ws.toArray n1 n2 d1 d2 s1 s2 (by simpa using hz)) ⟨o1, o2, ?_⟩
  rw [show vs.toArray ++ ws.toArray = (vs ++ ws).toArray from by simp]
  exact EvP.newL R hz0 (hv.append hw) (fun b o e => Heap.get?_push_of_some _ e) (fresh_size _) (isList_push _ _)
theorem mul_lst {i : Nat} {l : List V} {ta : Addr} {n : Int} {u : Tok} (hz : (rep l n.toNat).length ≤ sizeLine) (hn1 : 0 ≤ n) (hn2 : n ≤ 100000) (hn3 : l.length ≤ 100) (R : RepS g φ σ s.heap) (hi : φ[i]? = some ta) (h1 : lst σ i = some l) :
    wpAny (model g.prog g.w) A (binaryOp .Mult (.ref ta) (.int n u)) (EvP g φ s (.ref σ.length) (σ ++ [.lst (rep l n.toNat)])) E s := by
  have hz0 := Nat.le_succ_of_le hz
  obtain ⟨vs, hl, hv, _⟩ := R.list hi h1
  obtain ⟨n1, d1, s1, o1⟩ := list_parts hl.isList
  have hvl := hv.length
  have hsz' : vs.toArray.size * n.toNat ≤ 10000000 := by
    have h1 : vs.toArray.size ≤ 100 := by simp; omega
    calc vs.toArray.size * n.toNat ≤ 100 * n.toNat := Nat.mul_le_mul_right _ h1
      _ ≤ 10000000 := by omega
  refine wpAny_binaryOp_repeat_ref (T := "list") (U := "int") (by decide) ⟨_, o1, rfl⟩ (fun s' => typeIs_int s' n u) noFill_list_mul PySem.F.fills_int_mul PySem.F.slot_int_rmul repeat_list PySem.F.slot_int_index.lookup
    (call_meets PySem.F.slot_int_rmul (typeIs_int s n u) PySem.F.entry_int_rmul (PySem.F.args_int_rmul_2 _ _) (lm_int_rmul_list_any n u _ vs.toArray n1 d1 s1)
      ⟨o1, rfl, ⟨_, o1, rfl⟩, call_meets PySem.F.slot_list_mul ⟨_, o1, rfl⟩ PySem.F.entry_list_mul (PySem.F.args_list_mul_2 _ _)
        (lm_list_mul_any _ vs.toArray n1 d1 s1 n u (by simp [Builtin.List.listFitsIndex]; omega) (by omega) (by simp [Builtin.List.listTooLong, sizeLine]; simp at hsz'; omega))
        ⟨o1, ?_⟩⟩)
  rw [listMul_foldl_if, show (vs.toArray.toList) = vs from rfl, ← rep_eq]
  exact EvP.newL R hz0 (hv.rep _) (fun b o e => Heap.get?_push_of_some _ e) (fresh_size _) (isList_push _ _)

theorem add_snd {x y : V} {a b : Value} {v : V} {σ' : Sto} (he : addop x y σ = some (v, σ')) (R : RepS g φ σ s.heap) (hx : VR g φ s.heap x a) (hy : VR g φ s.heap y b) :
    wpAny (model g.prog g.w) A (binaryOp .Add a b) (EvP g φ s v σ') E s := by
  cases hx with
  | int i t =>
    obtain ⟨j, hj, he⟩ := ob he
    obtain ⟨u, rfl⟩ := vI hj hy
    obtain ⟨rfl, rfl⟩ := sm2 he
    exact PyProof.Rows.add_int (EvP.here R (.int _ _))
  | str p t =>
    obtain ⟨q, hq, he⟩ := ob he
    obtain ⟨u, rfl⟩ := vS hq hy
    obtain ⟨hz, he⟩ := iteS he
    obtain ⟨rfl, rfl⟩ := sm2 he
    exact PyProof.Rows.add_str (fun t' tk => EvP.here R (.str _ _)) hz
  | tup ht hzl hv hnl =>
    obtain ⟨m, hm, he⟩ := ob he
    obtain ⟨tb, ws, rfl, hu, hzm, hw, hnm⟩ := vT hm hy
    obtain ⟨hz, rfl, rfl⟩ := newT_some he
    exact add_tup hz R ht hzl hv hnl hu hzm hw hnm
  | ref hi =>
    obtain ⟨j, hj, he⟩ := ob he
    obtain ⟨tb, rfl, hj⟩ := vR hj hy
    obtain ⟨l, h1, he⟩ := ob he
    obtain ⟨m, h2, he⟩ := ob he
    obtain ⟨hz, rfl, rfl⟩ := new_some he
    exact add_lst hz R hi hj h1 h2
  | none => exact no he
  | bool _ => exact no he
  | ro _ _ _ => exact no he

theorem mul_snd {x y : V} {a b : Value} {v : V} {σ' : Sto} (he : mulop x y σ = some (v, σ')) (R : RepS g φ σ s.heap) (hx : VR g φ s.heap x a) (hy : VR g φ s.heap y b) :
    wpAny (model g.prog g.w) A (binaryOp .Mult a b) (EvP g φ s v σ') E s := by
  obtain ⟨n, hn, he⟩ := ob he
  obtain ⟨u, rfl⟩ := vI hn hy
  cases hx with
  | int i t =>
    obtain ⟨hm, he⟩ := iteS he
    obtain ⟨rfl, rfl⟩ := sm2 he
    refine PyProof.Rows.mul_int (EvP.here R (.int _ _)) ?_
    simp only [mulOk, Bool.or_eq_true, decide_eq_true_eq] at hm
    rcases hm with hm | hm
    · exact IntMulOk.of_left (bits_le hm)
    · exact IntMulOk.of_right (bits_le hm)
  | tup ht hzl hv hnl =>
    obtain ⟨⟨h1, h2, h3, h4⟩, he⟩ := iteS he
    obtain ⟨hz, rfl, rfl⟩ := newT_some he
    exact mul_tup hz h1 h2 h3 h4 R ht hv
  | ref hi =>
    obtain ⟨l, hl, he⟩ := ob he
    obtain ⟨⟨h1, h2, h3⟩, he⟩ := iteS he
    obtain ⟨hz, rfl, rfl⟩ := new_some he
    exact mul_lst hz h1 h2 h3 R hi hl
  | none => exact no he
  | bool _ => exact no he
  | str _ _ => exact no he
  | ro _ _ _ => exact no he

theorem int_snd {f : Int → Int → Option Int} {op : Operator} {x y : V} {a b : Value} {v : V} {σ' : Sto} (he : intop f x y σ = some (v, σ')) (hx : VR g φ s.heap x a) (hy : VR g φ s.heap y b)
    (k : ∀ i j z t u, f i j = some z → wpAny (model g.prog g.w) A (binaryOp op (.int i t) (.int j u)) (EvP g φ s (.int z) σ) E s) : wpAny (model g.prog g.w) A (binaryOp op a b) (EvP g φ s v σ') E s := by
  obtain ⟨i, hi, he⟩ := ob he
  obtain ⟨j, hj, he⟩ := ob he
  obtain ⟨z, hz, he⟩ := ob he
  obtain ⟨t, rfl⟩ := vI hi hx
  obtain ⟨u, rfl⟩ := vI hj hy
  obtain ⟨rfl, rfl⟩ := sm2 he
  exact k i j z t u hz

theorem iteN {α : Type} {c : Prop} [Decidable c] {x : Option α} {r : α} (h : (if c then none else x) = some r) : ¬ c ∧ x = some r := by
  by_cases hc : c
  · rw [if_pos hc] at h; exact no h
  · rw [if_neg hc] at h; exact ⟨hc, h⟩

theorem bin_snd {op : Operator} {x y : V} {a b : Value} {v : V} {σ' : Sto} (he : binop op x y σ = some (v, σ')) (R : RepS g φ σ s.heap) (hx : VR g φ s.heap x a) (hy : VR g φ s.heap y b) :
    wpAny (model g.prog g.w) A (binaryOp op a b) (EvP g φ s v σ') E s := by
  cases op with
  | Add => exact add_snd he R hx hy
  | Mult => exact mul_snd he R hx hy
  | Sub => exact int_snd he hx hy fun i j z t u h => by obtain rfl := sm h; exact PyProof.Rows.sub_int (EvP.here R (.int _ _))
  | FloorDiv =>
    refine int_snd he hx hy fun i j z t u h => ?_
    · obtain ⟨hm, h⟩ := iteN h
      obtain rfl := sm h
      simp only [not_or, Nat.not_le] at hm
      exact PyProof.Rows.floordiv_int hm.1 (EvP.here R (.int _ _)) (.inl (PyProof.noPylong_small hm.2))
  | Mod =>
    refine int_snd he hx hy fun i j z t u h => ?_
    · obtain ⟨hm, h⟩ := iteN h
      obtain rfl := sm h
      exact PyProof.Rows.mod_int' hm (EvP.here R (.int _ _))
  | _ => exact no he
end
end Lar

set_option autoImplicit false
set_option maxRecDepth 100000
namespace Lar
open PySem PyProof.Rows PySem.Calls PySem.SeqAt

structure AOk (A : Around) (d : Nat) : Prop where
  handled : A.handled = none
  depth : A.depth + d ≤ 600
  units : A.units + 3 * d ≤ 9000

section
variable {g : G} {A : Around} {E : Value → Shared → Prop} {φ : List Addr} {σ : Sto} {s : Shared}

theorem ints_inj : ∀ {vs : List Value} {ns ms : List Int}, IntsAre vs ns → IntsAre vs ms → ns = ms
  | _, _, _, .nil, .nil => rfl
  | _, _, _, .cons n t h, .cons _ _ h' => by rw [ints_inj h h']

mutual
theorem VR.inj {h : Heap} (R : RepS g φ σ h) : ∀ {v v' : V} {a : Value}, VR g φ h v a → VR g φ h v' a → v = v'
  | _, _, _, .none, x => by cases x; rfl
  | _, _, _, .bool b, x => by cases x; rfl
  | _, _, _, .int i t, x => by cases x; rfl
  | _, _, _, .str y t, x => by cases x; rfl
  | _, _, _, .tup ht _ hv hn, x => by
    cases x with
    | tup ht' _ hv' =>
      obtain ⟨o, ho, _, n, hd⟩ := ht
      obtain ⟨o', ho', _, n', hd'⟩ := ht'
      rw [ho] at ho'; cases ho'
      rw [hd] at hd'
      injection hd' with hd' _
      have := congrArg Array.toList hd'
      simp only at this
      subst this
      rw [VRs.inj R hv hv']
    | ref e => exact absurd (List.mem_of_getElem? e) hn
    | ro hl _ _ =>
      obtain ⟨o, ho, hc, _⟩ := ht
      obtain ⟨o', ho', hc', _⟩ := hl
      have := R.base _ _ ho'
      rw [ho] at this; cases this
      rw [hc] at hc'; exact absurd hc'.symm list_ne_tuple
  | _, _, _, .ref e, x => by
    cases x with
    | tup ht' _ _ hn => exact absurd (List.mem_of_getElem? e) hn
    | ref e' => rw [nodup_at R.nodup e e']
    | ro hl _ _ =>
      obtain ⟨o', ho', _⟩ := hl
      rw [R.fresh _ (List.mem_of_getElem? e)] at ho'; cases ho'
  | _, _, _, .ro hl _ hi, x => by
    cases x with
    | tup ht _ _ =>
      obtain ⟨o, ho, hc, _⟩ := ht
      obtain ⟨o', ho', hc', _⟩ := hl
      have := R.base _ _ ho'
      rw [ho] at this; cases this
      rw [hc] at hc'; exact absurd hc'.symm list_ne_tuple
    | ref e =>
      obtain ⟨o', ho', _⟩ := hl
      rw [R.fresh _ (List.mem_of_getElem? e)] at ho'; cases ho'
    | ro hl' _ hi' =>
      obtain ⟨o, ho, _, n, hd⟩ := hl
      obtain ⟨o', ho', _, n', hd'⟩ := hl'
      rw [ho] at ho'; cases ho'
      rw [hd] at hd'
      injection hd' with hd' _
      have := congrArg Array.toList hd'
      simp only at this
      subst this
      rw [ints_inj hi hi']
theorem VRs.inj {h : Heap} (R : RepS g φ σ h) : ∀ {l l' : List V} {vs : List Value}, VRs g φ h l vs → VRs g φ h l' vs → l = l'
  | _, _, _, .nil, x => by cases x; rfl
  | _, _, _, .cons hv hr, x => by
    cases x with
    | cons hv' hr' => rw [VR.inj R hv hv', VRs.inj R hr hr']
end

theorem eqAll_refl {f : V → V → Option Bool} (hf : ∀ x b, f x x = some b → b = true) : ∀ (l : List V) (b : Bool), eqAll f l l = some b → b = true
  | [], b, h => (sm h).symm
  | x :: xs, b, h => by
    obtain ⟨c, h1, h⟩ := ob h
    obtain ⟨d, h2, h⟩ := ob h
    obtain rfl := sm h
    rw [hf x c h1, eqAll_refl hf xs d h2]; rfl
theorem eqN_refl : ∀ (n : Nat) (x : V) (b : Bool), eqN n x x = some b → b = true
  | 0, _, _, h => no h
  | n + 1, x, b, h => by
    cases x with
    | none => exact (sm h).symm
    | bool p => exact (sm h).symm.trans (beq_self_eq_true p)
    | int p => exact (sm h).symm.trans (beq_self_eq_true p)
    | str p => exact (sm h).symm.trans (beq_self_eq_true p)
    | tup l => exact eqAll_refl (eqN_refl n) l b h
    | ref _ => exact no h
    | ro _ => exact no h

/-- the pairs of two sequences -/
theorem eqAll_pairs {f : V → V → Option Bool} {P : Value → Value → Bool → Prop} {h : Heap}
    (hf : ∀ x y a b c, f x y = some c → VR g φ h x a → VR g φ h y b → P a b c) : ∀ {l m : List V} {vs ws : List Value} {c : Bool}, eqAll f l m = some c → VRs g φ h l vs → VRs g φ h m ws →
    ∃ e : Nat → Bool, (∀ (j : Nat) (h1 : j < vs.length) (h2 : j < ws.length), P vs[j] ws[j] (e j)) ∧ c = ((List.range (min vs.length ws.length)).all e && vs.length == ws.length)
  | [], m, _, _, c, hc, hv, hw => by
    cases hv
    refine ⟨fun _ => true, fun j h1 => absurd h1 (Nat.not_lt_zero _), ?_⟩
    have hl := hw.length
    cases m with
    | nil =>
      obtain rfl := sm hc
      rw [List.length_eq_zero_iff.mp (hl.symm.trans rfl)]; rfl
    | cons y ys =>
      obtain rfl := sm hc
      rw [← hl]; rfl
  | x :: xs, [], _, _, c, hc, hv, hw => by
    obtain rfl := sm hc
    have hl := hv.length
    have hw' := List.length_eq_zero_iff.mp hw.length.symm
    subst hw'
    refine ⟨fun _ => true, fun j _ h2 => absurd h2 (Nat.not_lt_zero _), ?_⟩
    rw [← hl]; rfl
  | x :: xs, y :: ys, _, _, c, hc, hv0, hw0 => by
    cases hv0 with
    | @cons _ a _ vs hv hr =>
      cases hw0 with
      | @cons _ b _ ws hw hs =>
        obtain ⟨p, h1, hc⟩ := ob hc
        obtain ⟨q, h2, hc⟩ := ob hc
        obtain rfl := sm hc
        obtain ⟨e, he, rfl⟩ := eqAll_pairs hf h2 hr hs
        refine ⟨fun j => match j with | 0 => p | j + 1 => e j, fun j h1' h2' => ?_, ?_⟩
        · cases j with
          | zero => exact hf x y a b p h1 hv hw
          | succ j => exact he j (by simpa using h1') (by simpa using h2')
        · rw [List.length_cons, List.length_cons, Nat.succ_min_succ, List.range_succ_eq_map, List.all_cons, List.all_map]
          simp [Bool.and_assoc, Function.comp_def]

theorem eqAt_of {n : Nat} (R : RepS g φ σ s.heap) : ∀ {A : Around} {x y : V} {a b : Value} {c : Bool}, A.units + n < cLine → eqN n x y = some c → VR g φ s.heap x a → VR g φ s.heap y b → EqAt A s a b c ∧ RcAt A s a b c ∧ RcNeAt A s a b (!c) := by
  induction n with
  | zero => intro A x y a b c _ h; exact no h
  | succ n ih =>
    intro A x y a b c hu h hx hy
    cases hx with
    | none =>
      cases hy with
      | none => obtain rfl := sm h; exact ⟨EqAt.same _, RcAt.none_none, RcNeAt.none_none⟩
      | int i t => obtain rfl := sm h; exact ⟨EqAt.none_int _ _, RcAt.none_int _ _, RcNeAt.none_int _ _⟩
      | tup ht _ _ => obtain rfl := sm h; exact ⟨EqAt.none_tuple ht (by omega), RcAt.none_tuple ht (by omega), RcNeAt.none_tuple ht (by omega)⟩
      | _ => exact no h
    | bool p =>
      cases hy with
      | bool q => obtain rfl := sm h; exact ⟨EqAt.bool_bool _ _, RcAt.bool_bool _ _, RcNeAt.bool_bool _ _⟩
      | _ => exact no h
    | int i t =>
      cases hy with
      | none => obtain rfl := sm h; exact ⟨EqAt.int_none _ _, RcAt.int_none _ _, RcNeAt.int_none _ _⟩
      | int j u => obtain rfl := sm h; exact ⟨EqAt.int_int _ _ _ _, RcAt.int_int _ _ _ _, RcNeAt.int_int _ _ _ _⟩
      | _ => exact no h
    | str p t =>
      cases hy with
      | str q u => obtain rfl := sm h; exact ⟨EqAt.str_str _ _ _ _, RcAt.str_str _ _ _ _, RcNeAt.str_str _ _ _ _⟩
      | _ => exact no h
    | @tup l ta vs ht hzl hv hnl =>
      cases hy with
      | none => obtain rfl := sm h; exact ⟨EqAt.tuple_none ht (by omega), RcAt.tuple_none ht (by omega), RcNeAt.tuple_none ht (by omega)⟩
      | @tup m tb ws hu' hzm hw hnm =>
        obtain ⟨e, he, rfl⟩ := eqAll_pairs (P := fun a b c => EqAt A.in1 s a b c) (fun x y a b c h1 h2 h3 => (ih (A := A.in1) (by simp; omega) h1 h2 h3).1) h hv hw
        have key := RcAt.tuples (A := A) (e := e) ht hu' (by omega) (fun j h1 h2 => he j (by simpa using h1) (by simpa using h2))
        have keyN := RcNeAt.tuples (A := A) (e := e) ht hu' (by omega) (fun j h1 h2 => he j (by simpa using h1) (by simpa using h2))
        simp only [List.size_toArray] at key keyN
        refine ⟨?_, key, keyN⟩
        by_cases hab : ta = tb
        · subst hab
          have hlm : l = m := by
            have := VR.inj R (.tup ht hzl hv hnl) (.tup hu' hzm hw hnm)
            injection this
          subst hlm
          have := eqAll_refl (eqN_refl n) l _ h
          rw [this]
          exact EqAt.same _
        · exact EqAt.of_refs hab key
      | _ => exact no h
    | ref _ => exact no h
    | ro _ _ _ => exact no h
end
end Lar

set_option autoImplicit false
set_option maxRecDepth 100000
namespace Lar
open PySem PyProof.Rows PySem.Calls PySem.SeqAt

section
variable {g : G} {A : Around} {E : Value → Shared → Prop} {φ : List Addr} {σ : Sto} {s : Shared}

theorem lists_eq {i j : Nat} {ta tb : Addr} {l m : List V} {c : Bool} (he : (if l.length = m.length then (if l.length = 0 then some true else eqVs l m) else some false) = some c) (hA : A.units + 8 < cLine) (R : RepS g φ σ s.heap) (hi : φ[i]? = some ta) (hj : φ[j]? = some tb) (h1 : lst σ i = some l) (h2 : lst σ j = some m) :
    RcAt A s (.ref ta) (.ref tb) c ∧ RcNeAt A s (.ref ta) (.ref tb) (!c) := by
  have hu : A.units < cLine := by omega
  obtain ⟨vs, hl, hvv, _⟩ := R.list hi h1
  obtain ⟨ws, hm, hww, _⟩ := R.list hj h2
  have hv := hvv.length
  have hw := hww.length
  by_cases hlen : l.length = m.length
  · rw [if_pos hlen] at he
    have hlen' : vs.length = ws.length := hv.symm.trans (hlen.trans hw)
    by_cases h0 : l.length = 0
    · rw [if_pos h0] at he
      obtain rfl := sm he
      have h0' : vs.toArray.size = 0 := hv.symm.trans h0
      exact ⟨RcAt.lists (A := A) (e := fun _ => true) hl.isList hm.isList hlen' hu (fun j h1 h2 => absurd h1 (by rw [h0']; exact Nat.not_lt_zero _)) |> fun k => by simpa [h0'] using k, RcNeAt.lists (A := A) (e := fun _ => true) hl.isList hm.isList hlen' hu (fun j h1 h2 => absurd h1 (by rw [h0']; exact Nat.not_lt_zero _)) |> fun k => by simpa [h0'] using k⟩
    · rw [if_neg h0] at he
      obtain ⟨e, hee, rfl⟩ := eqAll_pairs (P := fun a b c => EqAt A.in1 s a b c) (fun x y a b c h1 h2 h3 => (eqAt_of R (n := 6) (A := A.in1) (by simp; omega) h1 h2 h3).1) he hvv hww
      have k1 := RcAt.lists (A := A) (e := e) hl.isList hm.isList (by simpa using hlen') hu (fun j h1 h2 => hee j (by simpa using h1) (by simpa using h2))
      have k2 := RcNeAt.lists (A := A) (e := e) hl.isList hm.isList (by simpa using hlen') hu (fun j h1 h2 => hee j (by simpa using h1) (by simpa using h2))
      simp only [List.size_toArray] at k1 k2
      simp only [hlen', Nat.min_self, beq_self_eq_true, Bool.and_true] at k1 k2 ⊢
      exact ⟨k1, k2⟩
  · rw [if_neg hlen] at he
    obtain rfl := sm he
    have hlen' : ¬ vs.length = ws.length := fun q => hlen (hv.trans (q.trans hw.symm))
    exact ⟨RcAt.lists_lengths hl.isList hm.isList (by simpa using hlen') hu, RcNeAt.lists_lengths hl.isList hm.isList (by simpa using hlen') hu⟩

theorem eq_snd {x y : V} {a b : Value} {c : Bool} (he : pyEq σ x y = some c) (hA : A.units + 8 < cLine) (R : RepS g φ σ s.heap) (hx : VR g φ s.heap x a) (hy : VR g φ s.heap y b) :
    RcAt A s a b c ∧ RcNeAt A s a b (!c) := by
  have flat : eqV x y = some c → RcAt A s a b c ∧ RcNeAt A s a b (!c) := fun h => (eqAt_of R (n := 6) (by omega) h hx hy).2
  have hu : A.units < cLine := by omega
  cases hx with
  | ref hi =>
    obtain ⟨l, hl, he⟩ := ob he
    obtain ⟨vs, hl', _⟩ := R.list hi hl
    cases hy with
    | ref hj =>
      obtain ⟨m, hm, he⟩ := ob he
      exact lists_eq he hA R hi hj hl hm
    | none => obtain rfl := sm he; exact ⟨RcAt.list_none hl'.isList hu, RcNeAt.list_none hl'.isList hu⟩
    | tup ht _ _ _ => obtain rfl := sm he; exact ⟨RcAt.list_tuple hl'.isList ht hu, RcNeAt.list_tuple hl'.isList ht hu⟩
    | _ => exact no he
  | none =>
    cases hy with
    | ref hj =>
      obtain ⟨m, hm, he⟩ := ob he
      obtain rfl := sm he
      obtain ⟨vs, hl', _⟩ := R.list hj hm
      exact ⟨RcAt.none_list hl'.isList hu, RcNeAt.none_list hl'.isList hu⟩
    | _ => exact flat he
  | tup ht hz hv =>
    cases hy with
    | ref hj =>
      obtain ⟨m, hm, he⟩ := ob he
      obtain rfl := sm he
      obtain ⟨vs, hl', _⟩ := R.list hj hm
      exact ⟨RcAt.tuple_list ht hl'.isList hu, RcNeAt.tuple_list ht hl'.isList hu⟩
    | _ => exact flat he
  | _ => exact flat he

theorem ne_snd {x y : V} {a b : Value} {c : Bool} (he : ((pyEq σ x y).bind fun c => some (!c)) = some c) (hA : A.units + 8 < cLine) (R : RepS g φ σ s.heap) (hx : VR g φ s.heap x a) (hy : VR g φ s.heap y b) : RcNeAt A s a b c := by
  obtain ⟨d, hd, he⟩ := ob he
  obtain rfl := sm he
  exact (eq_snd hd hA R hx hy).2
theorem int_cmp {f : Int → Int → Bool} {op : CmpOp} {x y : V} {a b : Value} {c : Bool} {Q : Value → Shared → Prop} (he : intcmp f x y = some c) (hx : VR g φ s.heap x a) (hy : VR g φ s.heap y b) (h : Q (.bool c) s)
    (k : ∀ i j t u, Q (.bool (f i j)) s → wpAny (model g.prog g.w) A (compareOp op (.int i t) (.int j u)) Q E s) : wpAny (model g.prog g.w) A (compareOp op a b) Q E s := by
  obtain ⟨i, hi, he⟩ := ob he
  obtain ⟨j, hj, he⟩ := ob he
  obtain rfl := sm he
  obtain ⟨t, rfl⟩ := vI hi hx
  obtain ⟨u, rfl⟩ := vI hj hy
  exact k i j t u h
theorem isN_iff {h : Heap} {x : V} {a : Value} (hx : VR g φ h x a) : (isN x = true ∧ a = .none) ∨ (isN x = false ∧ a ≠ .none) := by
  cases hx with
  | none => exact .inl ⟨rfl, rfl⟩
  | _ => exact .inr ⟨rfl, fun e => nomatch e⟩
theorem is_snd {x y : V} {a b : Value} {c : Bool} {Q : Value → Shared → Prop} (he : isop x y = some c) (hx : VR g φ s.heap x a) (hy : VR g φ s.heap y b) (h : Q (.bool c) s) : wpAny (model g.prog g.w) A (compareOp .Is a b) Q E s := by
  cases hy with
  | none =>
    obtain rfl := sm he
    rcases isN_iff hx with ⟨h1, rfl⟩ | ⟨h1, h2⟩
    · rw [h1] at h; exact is_none_none h
    · rw [h1] at h; exact is_none_ne h2 h
  | _ => exact no he
theorem isnot_snd {x y : V} {a b : Value} {c : Bool} {Q : Value → Shared → Prop} (he : isnop x y = some c) (hx : VR g φ s.heap x a) (hy : VR g φ s.heap y b) (h : Q (.bool c) s) : wpAny (model g.prog g.w) A (compareOp .IsNot a b) Q E s := by
  cases hy with
  | none =>
    obtain rfl := sm he
    rcases isN_iff hx with ⟨h1, rfl⟩ | ⟨h1, h2⟩
    · rw [h1] at h; exact isnot_none_none h
    · rw [h1] at h; exact isnot_none_ne h2 h
  | bool q =>
    obtain ⟨p, hp, he⟩ := ob he
    obtain rfl := sm he
    obtain rfl := vB hp hx
    refine wpAny_isNot_plain (by cases p <;> cases q <;> rfl) ?_
    have : (!(Value.bool p == Value.bool q)) = (p != q) := by cases p <;> cases q <;> rfl
    rw [this]; exact h
  | _ => exact no he
theorem cmp_snd {op : CmpOp} {x y : V} {a b : Value} {c : Bool} {Q : Value → Shared → Prop} (he : cmpop op x y σ = some c) (hA : A.units + 8 < cLine) (R : RepS g φ σ s.heap) (hx : VR g φ s.heap x a) (hy : VR g φ s.heap y b)
    (h : Q (.bool c) s) : wpAny (model g.prog g.w) A (compareOp op a b) Q E s := by
  cases op with
  | Eq => exact (eq_snd he hA R hx hy).1 g.prog g.w E Q h
  | NotEq => exact (ne_snd he hA R hx hy) g.prog g.w E Q h
  | Lt => exact int_cmp he hx hy h fun i j t u q => PyProof.Rows.lt_int q
  | LtE => exact int_cmp he hx hy h fun i j t u q => PyProof.Rows.le_int q
  | Gt => exact int_cmp he hx hy h fun i j t u q => PyProof.Rows.gt_int q
  | GtE => exact int_cmp he hx hy h fun i j t u q => PyProof.Rows.ge_int q
  | Is => exact is_snd he hx hy h
  | IsNot => exact isnot_snd he hx hy h
  | In => exact no he
  | NotIn => exact no he

theorem dget_some {κ : Type} [DecidableEq κ] {φ : List Addr} {h : Heap} : ∀ {l : List (κ × V)} {kvs : List (κ × Value)} {k : κ} {v : V}, dget l k = some v → kvs.map (·.1) = l.map (·.1) → VRs g φ h (l.map (·.2)) (kvs.map (·.2)) →
    ∃ a, valueAt kvs k = some a ∧ VR g φ h v a
  | [], _, _, _, he, _, _ => by simp [dget] at he
  | (p, q) :: l, [], _, _, _, hk, _ => by simp at hk
  | (p, q) :: l, (p', q') :: kvs, k, v, he, hk, hv => by
    simp only [List.map_cons, List.cons.injEq] at hk
    obtain ⟨hk1, hk2⟩ := hk
    cases hv with
    | cons hv1 hv2 =>
      unfold dget at he
      simp only [valueAt, List.find?_cons]
      split at he
      · rename_i hpk
        cases he
        exact ⟨q', by simp [hk1, hpk], hv1⟩
      · rename_i hpk
        rw [hk1]
        simp only [hpk, decide_false]
        exact dget_some he hk2 hv2

theorem dget_none {κ : Type} [DecidableEq κ] : ∀ {l : List (κ × V)} {kvs : List (κ × Value)} {k : κ}, dget l k = none → kvs.map (·.1) = l.map (·.1) → valueAt kvs k = none
  | [], [], _, _, _ => rfl
  | [], _ :: _, _, _, hk => by simp at hk
  | (p, q) :: l, [], _, _, hk => by simp at hk
  | (p, q) :: l, (p', q') :: kvs, k, he, hk => by
    simp only [List.map_cons, List.cons.injEq] at hk
    obtain ⟨hk1, hk2⟩ := hk
    simp only [dget] at he
    simp only [valueAt, List.find?_cons]
    split at he
    · cases he
    · rename_i hpk
      rw [hk1]
      simp only [hpk, decide_false]
      exact dget_none he hk2

/-- an item by its place or key -/
theorem idx_seq {l : List V} {y : V} {v : V} {b : Value} (he : idxL l y = some v) (hy : VR g φ s.heap y b) : ∃ k u, b = .int k u ∧ 0 ≤ k ∧ l[k.toNat]? = some v := by
  obtain ⟨k, hk, he⟩ := ob he
  obtain ⟨u, rfl⟩ := vI hk hy
  obtain ⟨h0, he⟩ := iteS he
  exact ⟨k, u, rfl, h0, he⟩
theorem idx_tup_snd {l : List V} {y : V} {ta : Addr} {vs : List Value} {b : Value} {v : V} (he : idxL l y = some v) (R : RepS g φ σ s.heap) (ht : s.heap.IsTuple ta vs.toArray) (hz : l.length ≤ szLine + 1) (hv : VRs g φ s.heap l vs) (hy : VR g φ s.heap y b) :
    wpAny (model g.prog g.w) A (getItem (.ref ta) b) (EvP g φ s v σ) E s := by
  obtain ⟨k, u, rfl, hk, he⟩ := idx_seq he hy
  obtain ⟨a, h1, h2⟩ := hv.get he
  have hlt : k.toNat < l.length := (List.getElem?_eq_some_iff.mp he).1
  have hlt' : k.toNat < vs.length := by rw [← hv.length]; exact hlt
  have hsz : szLine + 1 = 16777217 := rfl
  refine getItem_tuple (j := k.toNat) ht (by omega) (by omega) ?_ (by simpa using h1) (EvP.here (tk := s.toks) R h2)
  unfold seqIndex?
  simp only [List.size_toArray]
  have h3 : ¬ k < 0 := by omega
  have h4 : ¬ (k < 0 ∨ k ≥ vs.length) := by omega
  simp [h3]
  omega
theorem idx_str_snd {p : Str} {t : Tok} {y : V} {b : Value} {v : V} (he : ((asI y).bind fun k => if 0 ≤ k ∧ k < 4611686018427387904 then (p.cps[k.toNat]?).bind (fun c => some (.str ⟨#[c]⟩)) else none) = some v) (R : RepS g φ σ s.heap) (hy : VR g φ s.heap y b) :
    wpAny (model g.prog g.w) A (getItem (.str p t) b) (EvP g φ s v σ) E s := by
  obtain ⟨k, hk, he⟩ := ob he
  obtain ⟨u, rfl⟩ := vI hk hy
  obtain ⟨hk, he⟩ := iteS he
  obtain ⟨c, hc, he⟩ := ob he
  obtain rfl := sm he
  have hlt : k.toNat < p.cps.size := (Array.getElem?_eq_some_iff.mp hc).1
  refine PySem.P.getItem_str (c := c) ?_ ?_ (EvP.here R (.str _ _))
  · simp; omega
  · have h3 : ¬ k < 0 := by omega
    have h4 : (decide (0 ≤ k) && decide (k < (p.cps.size : Int))) = true := by simp; omega
    unfold seqIndex?
    simp only [Str.length, h3, if_false, h4, if_true, Option.bind_some]
    exact hc
theorem idx_ref_snd {r : Nat} {ta : Addr} {m : MObj} {y : V} {b : Value} {v : V} (he : idxM y m = some v) (R : RepS g φ σ s.heap) (hr : φ[r]? = some ta) (hm : σ[r]? = some m) (hy : VR g φ s.heap y b) :
    (∃ T id, s.TypeIs (.ref ta) T ∧ typeLookup (.type T) "__getitem__" = pure (some (.builtin id))) ∧ wpAny (model g.prog g.w) A (getItem (.ref ta) b) (EvP g φ s v σ) E s := by
  cases R.objs _ _ _ hr hm with
  | lst hl hz hv =>
    obtain ⟨k, u, rfl, hk, he⟩ := idx_seq he hy
    obtain ⟨a, h3, h4⟩ := hv.get he
    have hlt := (List.getElem?_eq_some_iff.mp he).1
    have hsz : szLine + 1 = 16777217 := rfl
    exact ⟨⟨"list", _, hl.isList.typeIs, slot_list_getitem.lookup⟩, wpAny_getItem_list hl.isList hk (by omega) (by simpa using h3) (EvP.here (tk := s.toks) R h4)⟩
  | di hd hk hv =>
    obtain ⟨k, hk', he⟩ := ob he
    obtain ⟨u, rfl⟩ := vI hk' hy
    obtain ⟨a, h3, h4⟩ := dget_some he hk hv
    exact ⟨⟨"dict", _, hd.typeIs, slot_dict_getitem.lookup⟩, wpAny_getItem_of (intKind_is g.prog g.w k u) hd.mapOf h3 (EvP.here R h4)⟩
  | ds hd hk hv =>
    obtain ⟨k, hk', he⟩ := ob he
    obtain ⟨u, rfl⟩ := vS hk' hy
    obtain ⟨a, h3, h4⟩ := dget_some he hk hv
    exact ⟨⟨"dict", _, hd.typeIs, slot_dict_getitem.lookup⟩, wpAny_getItem_of (strKind_is g.prog g.w k u) hd.mapOf h3 (EvP.here R h4)⟩
  | own _ => exact no he
theorem idx_snd {x y : V} {a b : Value} {v : V} (he : idxop x y σ = some v) (R : RepS g φ σ s.heap) (hx : VR g φ s.heap x a) (hy : VR g φ s.heap y b) :
    (∃ T id, s.TypeIs a T ∧ typeLookup (.type T) "__getitem__" = pure (some (.builtin id))) ∧ wpAny (model g.prog g.w) A (getItem a b) (EvP g φ s v σ) E s := by
  cases hx with
  | tup ht hz hv _ => exact ⟨⟨"tuple", _, ht.typeIs, PySem.F.slot_tuple_getitem.lookup⟩, idx_tup_snd he R ht hz hv hy⟩
  | str p t => exact ⟨⟨"str", _, typeIs_str s p t, PySem.F.slot_str_getitem.lookup⟩, idx_str_snd he R hy⟩
  | ref hr =>
    obtain ⟨m, hm, he⟩ := ob he
    exact idx_ref_snd he R hr hm hy
  | _ => exact no he
end
end Lar

set_option autoImplicit false
set_option maxRecDepth 100000
namespace Lar
open PySem PyProof.Rows PySem.Calls PySem.SeqAt

/-- a part of a slice: absent, or an int from 0 on -/
inductive SPart : Value → V → Prop
  | none : SPart .none .none
  | int (k : Int) (t : Tok) : SPart (.int k t) (.int k)

noncomputable def ipart : V → Option Int
  | .int k => some k
  | _ => none

section
variable {g : G} {A : Around} {E : Value → Shared → Prop} {φ : List Addr} {σ : Sto} {s : Shared}

theorem adj_lo {lo : V} {i n : Nat} {stop : Option Int} (h : loOf lo = some i) : (Builtin.Slice.sliceAdjust (ipart lo) stop 1 (n : Int)).1 = ((min i n : Nat) : Int) := by
  cases lo <;> simp only [loOf] at h <;> try (cases h)
  · simp [Builtin.Slice.sliceAdjust, ipart]
  · rename_i k
    split at h
    · rename_i hk
      cases h
      have h1 : ¬ k < 0 := by omega
      have h2 : ¬ ((1 : Int) < 0) := by decide
      simp only [Builtin.Slice.sliceAdjust, ipart, h1, h2, if_false]
      omega
    · cases h
theorem adj_hi {hi : V} {j n : Nat} {start : Option Int} (h : hiOf n hi = some j) : (Builtin.Slice.sliceAdjust start (ipart hi) 1 (n : Int)).2 = (j : Int) := by
  cases hi <;> simp only [hiOf] at h <;> try (cases h)
  · simp [Builtin.Slice.sliceAdjust, ipart]
  · rename_i k
    split at h
    · rename_i hk
      cases h
      have h1 : ¬ k < 0 := by omega
      have h2 : ¬ ((1 : Int) < 0) := by decide
      simp only [Builtin.Slice.sliceAdjust, ipart, h1, h2, if_false]
      omega
    · cases h
theorem places1 (a b : Nat) : Builtin.Slice.slicePlaces (a : Int) (b : Int) 1 = b - a := by
  unfold Builtin.Slice.slicePlaces
  have h1 : (1 : Int) > 0 := by omega
  simp only [h1, if_true, Int.ediv_one]
  split <;> omega

theorem part_index {a : Value} {v : V} {Q : Option Int → Shared → Prop} (ha : SPart a v) (h : Q (ipart v) s) : wpAny (model g.prog g.w) A (Builtin.Slice.slicePartIndex a) Q E s := by
  cases ha with
  | none => exact slicePart_none h
  | int k t => exact slicePart_int h

theorem applied {sl : Addr} {a b : Value} {lo hi : V} {i j n : Nat} {Q : Int × Int × Nat → Shared → Prop} (hs : s.heap.IsSliceOf sl a b .none) (ha : SPart a lo) (hb : SPart b hi) (hi' : loOf lo = some i) (hj : hiOf n hi = some j)
    (h : Q (((min i n : Nat) : Int), 1, j - min i n) s) : wpAny (model g.prog g.w) A (Builtin.Slice.sliceApplied (.ref sl) (pure (n : Int))) Q E s := by
  obtain ⟨os, hos, hcs, hds⟩ := id hs
  unfold Builtin.Slice.sliceApplied Builtin.Slice.sliceFields
  refine wpAny_bind (wpAny_bind (wpAny_field hos hds (x := a) rfl (wpAny_bind (wpAny_field hos hds (x := b) rfl (wpAny_bind (wpAny_field hos hds (x := .none) rfl (wpAny_pure ?_)))))))
  refine wpAny_bind (slicePart_none ?_)
  show wpAny _ _ (if ((1 : Int) == 0) = true then _ else _) _ _ s
  rw [if_neg (by decide)]
  refine wpAny_bind (part_index ha (wpAny_bind (part_index hb (wpAny_bind (wpAny_pure ?_)))))
  have e1 := adj_lo (n := n) (stop := ipart hi) hi'
  have e2 := adj_hi (start := ipart lo) hj
  refine wpAny_pure ?_
  have key : ∀ p : Int × Int, p.1 = ((min i n : Nat) : Int) → p.2 = (j : Int) → Q (p.1, (Option.getD none (1 : Int)), Builtin.Slice.slicePlaces p.1 p.2 (Option.getD none (1 : Int))) s := by
    intro p h1 h2
    rw [h1, h2, Option.getD_none, places1]
    exact h
  exact key _ e1 e2

theorem pick_cut (vs : List Value) (a k : Nat) : ((List.range k).filterMap fun (x : Nat) => vs.toArray[((a : Int) + (x : Int) * 1).toNat]?) = (vs.drop a).take k := by
  have e : (fun (x : Nat) => vs.toArray[((a : Int) + (x : Int) * 1).toNat]?) = fun x => vs.toArray[a + x]? := by
    funext x
    have : ((a : Int) + (x : Int) * 1).toNat = a + x := by omega
    rw [this]
  have := pick_run vs.toArray a k
  rw [List.filterMap_map] at this
  rw [e]
  exact this

theorem cut_eq {α : Type} (l : List α) (i j : Nat) : cut l i j = (l.drop (min i l.length)).take (j - min i l.length) := by
  unfold cut
  rw [List.drop_take]
  by_cases h : i ≤ l.length
  · rw [Nat.min_eq_left h]
  · rw [Nat.min_eq_right (by omega), List.drop_eq_nil_of_le (by omega), List.drop_eq_nil_of_le (Nat.le_refl _)]
    simp

theorem hiOf_le {n j : Nat} {hi : V} (h : hiOf n hi = some j) : j ≤ n := by
  unfold hiOf at h
  split at h
  · cases h; exact Nat.le_refl _
  · split at h
    · cases h; exact Nat.min_le_left _ _
    · cases h
  · cases h

theorem tup_slice {t sl : Addr} {l : List V} {vs : List Value} {a b : Value} {lo hi : V} {i j : Nat} (R : RepS g φ σ s.heap) (ht : s.heap.IsTuple t vs.toArray) (hz : l.length ≤ szLine + 1) (hv : VRs g φ s.heap l vs) (hnt : t ∉ φ) (hs : s.heap.IsSliceOf sl a b .none) (ha : SPart a lo) (hb : SPart b hi)
    (hi' : loOf lo = some i) (hj : hiOf l.length hi = some j) (hz' : (cut l i j).length ≤ szLine) :
    wpAny (model g.prog g.w) A (getItem (.ref t) (.ref sl)) (EvP g φ s (.tup (cut l i j)) σ) E s := by
  obtain ⟨os, hos, hcs, hds⟩ := id hs
  have hTs : s.TypeIs (.ref sl) "slice" := ⟨os, hos, hcs⟩
  have hlen : l.length = vs.length := hv.length
  unfold getItem
  try with_reducible refine wpAny_holding ?_
  first | refine wpAny_bind (wpAny_pure ?_) | skip
  refine wpAny_bind (wpAny_sequenceKey ht.typeIs (by decide) ?_)
  refine wpAny_bind (wpAny_callSpecial?_slot (name := Str.ofString "__getitem__") ht.typeIs PyProof.Rows.slot_tuple_getitem
    (wpAny_call_entry PyProof.Rows.slot_tuple_getitem ht.typeIs PyProof.Rows.entry_tuple_getitem ?_ (PyProof.Rows.args_tuple_getitem _ _)))
  show wpAny _ _ (Builtin.Tuple.tupleItemsOf (.ref t) >>= _) _ _ s
  refine wpAny_bind (tupleItemsOf_ ht ?_)
  refine wpAny_bind (wpAny_typeOf hTs ?_)
  rw [if_pos (by decide)]
  have hsize : vs.toArray.size = l.length := by simp [hlen]
  rw [hsize]
  refine wpAny_bind (applied hs ha hb hi' hj ?_)
  have hcutV : VRs g φ s.heap (cut l i j) ((vs.drop (min i l.length)).take (j - min i l.length)) := by
    rw [cut_eq]; exact (hv.drop _).take _
  have new : wpAny (model g.prog g.w) A.in1 (Builtin.Tuple.tupleExact (((List.range (j - min i l.length)).filterMap fun (k : Nat) => vs.toArray[((min i l.length : Nat) : Int) + (k : Int) * 1 |>.toNat]?).toArray) >>= fun x => ret x)
      (fun fin s' => ∃ v, fin = .done (.ret v) ∧ EvP g φ s (.tup (cut l i j)) σ v s') (fun _ _ => False) s := by
    rw [pick_cut]
    unfold Builtin.Tuple.tupleExact
    refine wpAny_bind (wpAny_newObj_type (wpAny_pure ⟨_, rfl, ?_⟩) ?_)
    · exact EvP.newT R (Nat.le_succ_of_le hz') hcutV (fun b o e => Heap.get?_push_of_some _ e) (fresh_size _) (isTuple_push _ _)
    · show Array.size _ ≤ sizeLine
      rw [List.size_toArray, ← hcutV.length]
      exact hz'
  have new' := wpAny_mono new (Q' := fun fin s' => ∃ v, fin = .done (.ret v) ∧ wpAny (model g.prog g.w) A (pure v) (EvP g φ s (.tup (cut l i j)) σ) E s') (E' := E) (fun fin s' ⟨v, h1, h2⟩ => ⟨v, h1, wpAny_pure h2⟩) (fun _ _ f => f.elim)
  show wpAny _ _ (if ((((min i l.length : Nat) : Int) == 0) && ((1 : Int) == 1) && ((j - min i l.length) == l.length)) = true then _ else _) _ _ s
  by_cases hc : ((((min i l.length : Nat) : Int) == 0) && ((1 : Int) == 1) && ((j - min i l.length) == l.length)) = true
  · rw [if_pos hc]
    simp only [Bool.and_eq_true, beq_iff_eq] at hc
    have e0 : min i l.length = 0 := by omega
    have e1 : j = l.length := by have := hiOf_le hj; omega
    have e2 : cut l i j = l := by rw [cut_eq, e0, e1]; simp
    rw [e2]
    unfold Builtin.Tuple.tupleIsExact
    refine wpAny_bind (wpAny_bind (wpAny_typeOf ht.typeIs (wpAny_pure ?_)))
    rw [if_pos (by decide)]
    exact wpAny_bind (wpAny_rule (wpAny_bind (wpAny_pure (wpAny_pure ⟨_, rfl, wpAny_pure (EvP.here (tk := s.toks) R (.tup ht hz hv hnt))⟩))))
  · rw [if_neg hc]
    exact new'

/-- the parts as the texts' rule has them -/
theorem part_opt {a : Value} {v : V} (h : SPart a v) : ∃ p : Option (Int × Tok), a = partValue p ∧ p.map (·.1) = ipart v := by
  cases h with
  | none => exact ⟨none, rfl, rfl⟩
  | int k t => exact ⟨some (k, t), rfl, rfl⟩

theorem clip_int (k : Int) (n : Nat) (hk : 0 ≤ k) : max 0 (min (if k < 0 then k + (n : Int) else k) (n : Int)) = ((min k.toNat n : Nat) : Int) := by
  rw [if_neg (by omega)]
  omega
theorem range_run (i j : Nat) : sliceRange (i : Int) (j : Int) 1 = (List.range (j - i)).map fun k => i + k := by
  unfold sliceRange
  have h2 : (1 : Int) > 0 := by decide
  simp only [h2, if_true, Int.ediv_one, Int.one_mul]
  have hc : (if (i : Int) < (j : Int) then (j : Int) - (i : Int) + 1 - 1 else 0).toNat = j - i := by split <;> omega
  rw [hc]
  refine List.map_congr_left fun k _ => ?_
  omega
theorem str_indices {lo hi : V} {i j n : Nat} (hi' : loOf lo = some i) (hj : hiOf n hi = some j) : Builtin.Str.strSliceIndices (ipart lo) (ipart hi) 1 n = (List.range (j - min i n)).map fun k => min i n + k := by
  have h2 : (1 : Int) > 0 := by decide
  unfold Builtin.Str.strSliceIndices
  cases lo <;> simp only [loOf] at hi' <;> try (cases hi')
  · cases hi <;> simp only [hiOf] at hj <;> try (cases hj)
    · simp only [ipart, h2, if_true]
      exact (range_run 0 _).trans (by simp)
    · rename_i k
      split at hj
      · rename_i hk
        cases hj
        simp only [ipart, h2, if_true, clip_int k n hk.1]
        refine (range_run 0 _).trans ?_
        rw [Nat.zero_min, Nat.min_comm]
      · cases hj
  · rename_i k
    split at hi'
    · rename_i hk
      cases hi'
      cases hi <;> simp only [hiOf] at hj <;> try (cases hj)
      · simp only [ipart, h2, if_true, clip_int k _ hk.1]
        exact range_run _ _
      · rename_i m
        split at hj
        · rename_i hm
          cases hj
          simp only [ipart, h2, if_true, clip_int k n hk.1, clip_int m n hm.1]
          rw [Nat.min_comm n]
          exact range_run _ _
        · cases hj
    · cases hi'

theorem str_slice {x : Str} {t : Tok} {sl : Addr} {a b : Value} {lo hi : V} {i j : Nat} (R : RepS g φ σ s.heap) (hs : s.heap.IsSliceOf sl a b .none) (ha : SPart a lo) (hb : SPart b hi)
    (hi' : loOf lo = some i) (hj : hiOf x.length hi = some j) (hz' : (⟨(cut x.cps.toList i j).toArray⟩ : Str).length ≤ szLine) :
    wpAny (model g.prog g.w) A (getItem (.str x t) (.ref sl)) (EvP g φ s (.str ⟨(cut x.cps.toList i j).toArray⟩) σ) E s := by
  obtain ⟨p, rfl, hp⟩ := part_opt ha
  obtain ⟨q, rfl, hq⟩ := part_opt hb
  refine wpAny_getItem_str_slice (l := p) (u := q) (st := none) hs rfl ?_
  have hpick : slicePicked x p q none = (List.range (j - min i x.length)).map fun k => min i x.length + k := by
    unfold slicePicked
    rw [hp, hq]
    exact str_indices hi' hj
  have hstr : ((slicePicked x p q none).filterMap (x.cps[·]?)) = cut x.cps.toList i j := by
    rw [hpick, pick_run, cut_eq]
    rfl
  have hlen : (slicePicked x p q none).length = j - min i x.length := by rw [hpick]; simp
  unfold sliceMade
  rw [hlen, hstr]
  split
  · rename_i hc
    simp only [Bool.and_eq_true, beq_iff_eq] at hc
    have e1 : j = x.length := by have := hiOf_le hj; omega
    have e0 : min i x.length = 0 ∨ x.length = 0 := by omega
    have e2 : cut x.cps.toList i j = x.cps.toList := by
      rw [cut_eq]
      have hl : x.cps.toList.length = x.length := rfl
      rw [hl]
      rcases e0 with e0 | e0
      · rw [e0, e1, List.drop_zero, Nat.sub_zero, ← hl, List.take_length]
      · have : x.cps.toList = [] := List.length_eq_zero_iff.mp (hl.trans e0)
        rw [this]; simp
    rw [e2]
    exact EvP.here (tk := s.toks) R (.str _ _)
  · exact ⟨hz', EvP.here R (.str _ _)⟩
end
end Lar

set_option autoImplicit false
set_option maxRecDepth 100000
namespace Lar
open PySem PyProof.Rows PySem.Calls PySem.SeqAt

/-- the call that a primitive stands for -/
noncomputable def primCall : Prim → List Value → Sem Value
  | .len, as => call (.builtin "len") as
  | .sum, as => call (.builtin "sum") as
  | .min2, as => call (.builtin "min") as
  | .max2, as => call (.builtin "max") as
  | .min1, as => call (.builtin "min") as
  | .max1, as => call (.builtin "max") as
  | .minD, as => call (.builtin "min") as [("default", .none)]
  | .tuple, as => call (.type "tuple") as
  | .list, as => call (.type "list") as
  | .str, as => call (.type "str") as
  | .int, as => call (.type "int") as
  | .isInt, as => call (.builtin "isinstance") (as ++ [.type "int"])
  | .isBool, as => call (.builtin "isinstance") (as ++ [.type "bool"])
  | .isTuple, as => call (.builtin "isinstance") (as ++ [.type "tuple"])
  | .isStr, as => call (.builtin "isinstance") (as ++ [.type "str"])
  | .isList, as => call (.builtin "isinstance") (as ++ [.type "list"])
  | .sorted, as => call (.builtin "sorted") as

section
variable {g : G} {A : Around} {E : Value → Shared → Prop} {φ : List Addr} {σ : Sto} {s : Shared}

/-- a heap that has all of another one -/
theorem EvP.grown {v : V} {a : Value} {h' : Heap} {tk : Nat} (R : RepS g φ σ s.heap) (hk : ∀ b o, s.heap.get? b = some o → h'.get? b = some o) (hv : VR g φ h' v a) : EvP g φ s v σ a { s with heap := h', toks := tk } :=
  ⟨φ, SE.keeps φ hk, R.keeps hk, hv, rfl, rfl, rfl⟩

theorem ints_vr {h : Heap} {ns : List Int} {vs : List Value} (x : IntsAre vs ns) : VRs g φ h (ns.map .int) vs := by
  induction x with
  | nil => exact .nil
  | cons n t r ih => exact .cons (.int n t) ih
theorem vr_ints {h : Heap} {l : List V} {ns : List Int} {vs : List Value} (he : intsOf l = some ns) (x : VRs g φ h l vs) : IntsAre vs ns := by
  induction l generalizing vs ns with
  | nil => cases x; rw [← sm he]; exact .nil
  | cons v l ih =>
    cases x with
    | cons hv hr =>
      obtain ⟨i, hi, he⟩ := ob he
      obtain ⟨ms, hn, he⟩ := ob he
      obtain ⟨t, ht⟩ := vI hi hv
      rw [← sm he, ht]
      exact .cons i t (ih hn hr)

/-- the concrete items of a sequence -/
inductive SeqAt (g : G) (φ : List Addr) (h : Heap) (a : Addr) (l : List V) (vs : List Value) : Prop
  | lst : h.IsList a vs.toArray → VRs g φ h l vs → l.length ≤ szLine + 1 → SeqAt g φ h a l vs
  | tup : h.IsTuple a vs.toArray → VRs g φ h l vs → l.length ≤ szLine + 1 → SeqAt g φ h a l vs

theorem SeqAt.vrs {h : Heap} {a : Addr} {l : List V} {vs : List Value} (x : SeqAt g φ h a l vs) : VRs g φ h l vs := by cases x <;> assumption
theorem SeqAt.len {h : Heap} {a : Addr} {l : List V} {vs : List Value} (x : SeqAt g φ h a l vs) : l.length ≤ szLine + 1 := by cases x <;> assumption

theorem seq_at {x : V} {a : Value} {l : List V} {w : List (Nat × MObj)} {h : Heap} (he : seqOf σ x = some (l, w)) (R : RepS g φ σ h) (hx : VR g φ h x a) : ∃ c vs, a = .ref c ∧ SeqAt g φ h c l vs := by
  cases hx with
  | tup ht hz hv => obtain ⟨rfl, _⟩ := sm2 he; exact ⟨_, _, rfl, .tup ht hv hz⟩
  | ro hl hz hi =>
    obtain ⟨rfl, _⟩ := sm2 he
    exact ⟨_, _, rfl, .lst (hl.at fun o e => R.base _ o e) (ints_vr hi) (by simpa using hz)⟩
  | ref hr =>
    obtain ⟨l', hl', he⟩ := ob he
    obtain ⟨rfl, _⟩ := sm2 he
    obtain ⟨vs, hl, hv, hz⟩ := R.list hr hl'
    exact ⟨_, vs, rfl, .lst hl.isList hv hz⟩
  | _ => exact no he

/-- an iterator over it -/
theorem seq_iter {c : Addr} {l : List V} {vs : List Value} {Q : Value → Shared → Prop} (hh : A.handled = none) (hs : SeqAt g φ s.heap c l vs)
    (h : ∀ I fp St h', Walks g.prog g.w A I fp [I] vs.length (fun i v => vs[i]? = some v) St → St 0 h' → (∀ b ∈ fp, b < h'.objs.size) → s.heap.get? I = none → (∀ b o, s.heap.get? b = some o → h'.get? b = some o) → Q (.ref I) { s with heap := h' }) :
    wpAny (model g.prog g.w) A (pyIter (.ref c)) Q E s := by
  cases hs with
  | lst hl hv hz =>
    have hlt : c < s.heap.objs.size := by obtain ⟨_, e, _⟩ := hl; exact Heap.lt_size e
    have W := Walks.list (prog := g.prog) (w := g.w) hh s.heap.objs.size c (Nat.ne_of_lt hlt) vs.toArray
    simp only [List.size_toArray, List.getElem?_toArray] at W
    have hb : ∀ b ∈ [s.heap.objs.size, c], b < (s.heap.push { cls := .type "list_iterator", data := .fields #[.ref c, .int 0 0] }).objs.size := fun b hb => by
      rw [Heap.size_push]
      rcases List.mem_cons.mp hb with hb | hb
      · exact hb ▸ Nat.lt_succ_self _
      · exact (List.mem_singleton.mp hb) ▸ Nat.lt_succ_of_lt hlt
    exact wpAny_pyIter_list hl (h _ [s.heap.objs.size, c] _ _ W ⟨⟨_, Heap.get?_push_size _ rfl, rfl, rfl⟩, hl.push _⟩ hb (fresh_size _) fun b o e => Heap.get?_push_of_some _ e)
  | tup ht hv hz =>
    have hlt : c < s.heap.objs.size := by obtain ⟨_, e, _⟩ := ht; exact Heap.lt_size e
    have W := Walks.tuple (prog := g.prog) (w := g.w) hh s.heap.objs.size c (Nat.ne_of_lt hlt) vs.toArray
    simp only [List.size_toArray, List.getElem?_toArray] at W
    have hb : ∀ b ∈ [s.heap.objs.size, c], b < (s.heap.push { cls := .type "tuple_iterator", data := .fields #[.ref c, .int 0 0] }).objs.size := fun b hb => by
      rw [Heap.size_push]
      rcases List.mem_cons.mp hb with hb | hb
      · exact hb ▸ Nat.lt_succ_self _
      · exact (List.mem_singleton.mp hb) ▸ Nat.lt_succ_of_lt hlt
    exact wpAny_pyIter_tuple ht (h _ [s.heap.objs.size, c] _ _ W ⟨⟨_, Heap.get?_push_size _ rfl, rfl, rfl⟩, ht.push _⟩ hb (fresh_size _) fun b o e => Heap.get?_push_of_some _ e)

theorem intsAre_at : ∀ {vs : List Value} {ns : List Int} {i : Nat} {v : Value}, IntsAre vs ns → vs[i]? = some v → ∃ t, v = .int (ns[i]?.getD 0) t
  | _, _, _, _, .nil, h => by simp at h
  | _, _, 0, _, .cons n t r, h => by simp at h; subst h; exact ⟨t, by simp⟩
  | _, _, i + 1, _, .cons n t r, h => by
    simp at h
    obtain ⟨t', e⟩ := intsAre_at r h
    exact ⟨t', by simpa using e⟩
theorem preSum_eq (ns : List Int) : ∀ k, k ≤ ns.length → preSum (fun i => ns[i]?.getD 0) k = (ns.take k).foldl (· + ·) 0
  | 0, _ => by simp [preSum]
  | k + 1, h => by
    have : ns[k]? = some ns[k] := List.getElem?_eq_getElem (by omega)
    rw [preSum, preSum_eq ns k (by omega), List.take_add_one, this, List.foldl_append]
    rfl

theorem old_keep {h h₂ h' : Heap} {I : Addr} (hI : h.get? I = none) (h1 : ∀ b o, h.get? b = some o → h₂.get? b = some o) (h2 : ∀ b o, b ∉ [I] → h₂.get? b = some o → h'.get? b = some o) : ∀ b o, h.get? b = some o → h'.get? b = some o := fun b o e => by
  refine h2 b o (fun hm => ?_) (h1 b o e)
  simp at hm
  subst hm
  rw [hI] at e; cases e

theorem len_snd {c : Addr} {l : List V} {vs : List Value} (R : RepS g φ σ s.heap) (hs : SeqAt g φ s.heap c l vs) : wpAny (model g.prog g.w) A (call (.builtin "len") [.ref c]) (EvP g φ s (.int l.length) σ) E s := by
  have hsz : szLine + 1 = 16777217 := rfl
  have hl := hs.vrs.length
  have hz := hs.len
  cases hs with
  | lst h1 h2 h3 =>
    refine Calls.call_len_list h1 (by simp; omega) ?_
    have : (vs.toArray.size : Int) = l.length := by simp [hl]
    rw [this]
    exact EvP.here R (.int _ _)
  | tup h1 h2 h3 =>
    refine PyProof.Rows.len_tuple h1 (by simp; omega) ?_
    have : (vs.toArray.size : Int) = l.length := by simp [hl]
    rw [this]
    exact EvP.here R (.int _ _)

theorem sum_snd {c : Addr} {l : List V} {vs : List Value} {ns : List Int} (hh : A.handled = none) (R : RepS g φ σ s.heap) (hs : SeqAt g φ s.heap c l vs) (hn : intsOf l = some ns) :
    wpAny (model g.prog g.w) A (call (.builtin "sum") [.ref c]) (EvP g φ s (.int (ns.foldl (· + ·) 0)) σ) E s := by
  have hi := vr_ints hn hs.vrs
  refine call_sum_walkAnyS (seq_iter (A := A.in1) hh hs fun I fp St h' W hst hfp hI hk => ?_)
  refine ⟨I, fp, [I], _, vs.length, _, _, fun i => ns[i]?.getD 0, rfl, W.toS, hst, hfp, fun i v hv => intsAre_at hi hv, fun s' t' hm => ?_⟩
  rw [hi.length, preSum_eq ns _ (Nat.le_refl _), List.take_length]
  have hk' := old_keep hI hk hm.heap
  exact ⟨φ, SE.keeps φ hk', R.keeps hk', .int _ _, hm.gens, hm.drawn, hm.os⟩

end
end Lar

set_option autoImplicit false
set_option maxRecDepth 100000
namespace Lar
open PySem PyProof.Rows PySem.Calls PySem.SeqAt

section
variable {g : G} {A : Around} {E : Value → Shared → Prop} {φ : List Addr} {σ : Sto} {s : Shared}

theorem newS_some {x : Str} {v : V} {σ' : Sto} (h : newS σ x = some (v, σ')) : x.length ≤ sizeLine ∧ v = .str x ∧ σ' = σ := by
  obtain ⟨hz, h⟩ := iteS h
  obtain ⟨rfl, rfl⟩ := sm2 h
  exact ⟨hz, rfl, rfl⟩

theorem log2_small {n : Nat} (h : n < 1000000000000000000000000) : n.log2 < 1920 := by
  by_cases h0 : n = 0
  · subst h0; decide +kernel
  · have : n.log2 < 80 := (Nat.log2_lt h0).mpr (Nat.lt_of_lt_of_le h (by decide +kernel))
    omega

end
section
variable {prog : Program} {w : World} {A : Around} {E : Value → Shared → Prop} {s : Shared}
theorem collect_src {T : String} {r d : Addr} {n : Nat} {P : Nat → Value → Prop} {OK : Heap → Prop} {Q : List Value → Shared → Prop} (K : PySem.W.KdlSrc prog w T r d n P OK) (hh : A.handled = none) (hok : OK s.heap) (hn : n ≤ sizeLine)
    (hQ : ∀ h' tk acc', (∀ b o, s.heap.get? b = some o → h'.get? b = some o) → ItemsOf P acc' n → Q acc'.toList { s with heap := h', toks := tk }) : wpAny (model prog w) A (collect (.ref r)) Q E s := by
  have hlt := K.there _ hok
  unfold collect
  refine wpAny_bind (wpAny_runValue (codeAny_builtin F.entry_proto_collect ?_))
  rw [Around.under_plainId F.plain_proto_collect _]
  show wpAny _ A.in1 (newList [] >>= fun l => again (.builtin "list.__iadd__" ⟨[l, .ref r], []⟩)) _ _ s
  refine wpAny_bind (wpAny_newObj_type ?_)
  refine wpAny_pure ⟨plainId_quiet F.plain_list_iadd _, codeAny_builtin F.entry_list_iadd ?_⟩
  rw [Around.under_plainId F.plain_list_iadd _]
  show wpAny _ A.in1 (Builtin.List.listExtendWith (.ref s.heap.objs.size) (.ref r) (.ref s.heap.objs.size)) _ _ _
  refine PySem.W.kdl_extend (A := A) (R := fun r' s' => match r' with
    | .ok (.ret v) => wpAny (model prog w) A (match v with
      | .ref a => do match (← load a).data with
        | .seq xs _ => pure xs.toList
        | _ => unsupported "internal:collect"
      | _ => unsupported "internal:collect") Q E s'
    | .ok _ => False
    | .error e => E e s') K hh ?_ s.heap.objs.size (Nat.ne_of_gt hlt.1) (Nat.ne_of_gt hlt.2) _ 0 ?_ (fun h' tk acc' c' hk hS' hacc => ?_) hn
  · exact K.keep _ _ hok fun b _ o e => Heap.get?_push_of_some _ e
  · exact Heap.get?_push_size _ rfl
  show wpAny _ A (load s.heap.objs.size >>= _) _ _ _
  refine wpAny_bind (wpAny_load hS' ?_)
  exact wpAny_pure (hQ h' tk acc' (fun b o e => hk b o (Nat.ne_of_lt (Heap.lt_size e)) (Heap.get?_push_of_some _ e)) hacc)

theorem strs_of : ∀ (vs : List Value) (kvs : List (Str × Value)), vs.length = kvs.length → (∀ (j : Nat) v, vs[j]? = some v → ∃ k x, kvs[j]? = some (k, x) ∧ Value.isStrOf k v = true) → StrsAre vs (kvs.map (·.1))
  | [], [], _, _ => .nil
  | [], _ :: _, h, _ => nomatch h
  | _ :: _, [], h, _ => nomatch h
  | v :: vs, kv :: kvs, h, hj => by
    obtain ⟨k, x, e, hk⟩ := hj 0 v rfl
    obtain ⟨t, rfl⟩ := Value.isStrOf_shape hk
    have e : kv = (k, x) := Option.some.inj e
    rw [e]
    exact .cons k t (strs_of vs kvs (Nat.succ.inj h) fun j v e => hj (j + 1) v e)
theorem sorted_dict {d : Addr} {kvs : List (Str × Value)} {Q : Value → Shared → Prop} (hh : A.handled = none) (hd : s.heap.DictOf (PySem.strKind prog w) d kvs) (lo : (d == sysModules) = false) (h64 : kvs.length < 64)
    (hQ : ∀ (h' : Heap) (tk n : Nat) (D : Addr) (vs' : List Value) (ss' : List Str), (∀ b o, s.heap.get? b = some o → h'.get? b = some o) → s.heap.get? D = none → h'.get? D = some (seqObj "list" vs'.toArray n) → StrsAre vs' ss' → ss'.Perm (kvs.map (·.1)) → sortedS ss' = true → Q (.ref D) { s with heap := h', toks := tk }) :
    wpAny (model prog w) A (call (.builtin "sorted") [.ref d]) Q E s := by
  obtain ⟨ep, hm⟩ := hd.dictAt
  refine Calls.call_function_entry kind_sorted plain_sorted entry_sorted (args_sorted1 _) ?_
  unfold Builtin.«sorted»
  refine wpAny_bind (m := checkCount "sorted" 1 1 _) (wpAny_pure ?_)
  refine wpAny_bind (collect_src (PySem.W.kdl_dict (knd := PySem.strKind prog w) (kvs := kvs) (ep := ep) lo) hh hm (Nat.le_trans (Nat.le_of_lt h64) (by decide)) fun h' tk acc' hk hacc => ?_)
  have hS : StrsAre acc'.toList (kvs.map (·.1)) := strs_of _ _ (by rw [Array.length_toList]; exact hacc.1) fun j v e => hacc.2 j v (by rw [← Array.getElem?_toList]; exact e)
  have h64' : acc'.toList.length < 64 := by rw [Array.length_toList, hacc.1]; exact h64
  refine wpAny_bind (wpAny_newList ?_)
  have hoL : (h'.push (seqObj "list" acc'.toList.toArray 0)).get? h'.objs.size = some (seqObj "list" acc'.toList.toArray 0) := Heap.get?_push_size _ rfl
  refine wpAny_bind (wpAny_holding (wpAny_call_entry slot_list_sort ⟨_, hoL, rfl⟩ entry_list_sort (list_sort_treeK strKind_oneLt hoL hS.keysOf (fun v₁ v₂ rest e => keyKind_strs (by rw [← e]; exact hS)) h64' fun st' hp hs => ⟨_, rfl, ?_⟩) (args_list_sort _)))
  obtain ⟨ss', h1, h2, h3⟩ := sorted_out_str hS hp hs
  obtain ⟨e, he⟩ := sortedHeap_at (out := (arrOf st').map (·.2)) hoL
  refine wpAny_pure ⟨_, rfl, hQ _ tk e h'.objs.size ((arrOf st').map (·.2)).toList ss' (fun b o e1 => ?_) ?_ (by rw [Array.toArray_toList]; exact he) h1 h2 h3⟩
  · have hlt := Heap.lt_size (hk b o e1)
    rw [sortedHeap_old (Nat.ne_of_lt hlt) (by rw [size_push']; exact Nat.lt_succ_of_lt hlt)]
    exact Heap.get?_push_of_some _ (hk b o e1)
  · cases hq : s.heap.get? h'.objs.size with
    | none => rfl
    | some o => exact absurd (Heap.lt_size (hk _ _ hq)) (Nat.lt_irrefl _)
end
section
variable {g : G} {A : Around} {E : Value → Shared → Prop} {φ : List Addr} {σ : Sto} {s : Shared}
theorem le_trans3 {a b c : Str} (h1 : ¬ (b.cps.toList < a.cps.toList)) (h2 : ¬ (c.cps.toList < b.cps.toList)) : ¬ (c.cps.toList < a.cps.toList) := fun h => h1 (List.lt_of_le_of_lt (List.not_lt.mp h2) h)
theorem rising_of : ∀ (l : List Str) (p : Str), risingS p l = true → Rising (p :: l)
  | [], p, _ => .cons (fun _ h => nomatch h) .nil
  | x :: l, p, h => by
    obtain ⟨h1, h2⟩ := Bool.and_eq_true_iff.mp (show (!PySem.Spec.ltCps x.cps.toList p.cps.toList && risingS x l) = true from h)
    rw [ltCps_eq] at h1
    have h1 : ¬ (x.cps.toList < p.cps.toList) := by simpa using h1
    have ih := rising_of l x h2
    refine .cons (fun y hy => ?_) ih
    rcases List.mem_cons.mp hy with rfl | hy
    · exact h1
    · exact le_trans3 h1 ((List.pairwise_cons.mp ih).1 y hy)
theorem sortS_eq {m l : List Str} (h : m.Perm l) (hr : Rising m) : sortS l = m := by
  have hex : ∃ m : List Str, m.Perm l ∧ Rising m := ⟨m, h, hr⟩
  unfold sortS
  rw [dif_pos hex]
  obtain ⟨h1, h2⟩ := Classical.choose_spec hex
  refine List.Perm.eq_of_pairwise (le := fun a b : Str => ¬ (b.cps.toList < a.cps.toList)) (fun a b _ _ g1 g2 => ?_) h2 hr (h1.trans h.symm)
  have := List.le_antisymm (List.not_lt.mp g1) (List.not_lt.mp g2)
  cases a; cases b
  exact congrArg Str.mk (Array.toList_inj.mp this)
theorem vrs_strs {h : Heap} : ∀ {vs : List Value} {ss : List Str}, StrsAre vs ss → VRs g φ h (ss.map .str) vs
  | _, _, .nil => .nil
  | _, _, .cons y t r => .cons (.str y t) (vrs_strs r)
theorem sorted_snd {r : Nat} {c : Addr} {l : List (Str × V)} {v : V} {σ' : Sto} (hh : A.handled = none) (hsys : ∃ o, g.B.get? sysModules = some o) (R : RepS g φ σ s.heap) (hr : φ[r]? = some c) (hl : ds σ r = some l) (he : (if l.length < 64 then new σ ((sortS (l.map (·.1))).map .str) else none) = some (v, σ')) :
    wpAny (model g.prog g.w) A (call (.builtin "sorted") [.ref c]) (EvP g φ s v σ') E s := by
  obtain ⟨h64, he⟩ := iteS he
  obtain ⟨hz, rfl, rfl⟩ := new_some he
  have notSys : (c == sysModules) = false := by
    obtain ⟨o, ho⟩ := hsys
    have := R.fresh _ (List.mem_of_getElem? hr)
    simp only [beq_eq_false_iff_ne, ne_eq]
    rintro rfl
    rw [ho] at this; exact nomatch this
  cases R.objs _ _ _ hr (ds_some hl) with
  | ds hd hk hvv =>
    rename_i kvs
    have hlen : kvs.length = l.length := by have := congrArg List.length hk; rwa [List.length_map, List.length_map] at this
    refine sorted_dict hh hd notSys (by omega) fun h' tk n D vs' ss' hkeep hD hl' hS hp hs => ?_
    rw [hk] at hp
    have e : sortS (l.map (·.1)) = ss' := sortS_eq hp (by
      cases ss' with
      | nil => exact .nil
      | cons p r => exact rising_of r p hs)
    rw [e]
    rw [e] at hz
    exact EvP.newL R (Nat.le_succ_of_le hz) (vrs_strs hS) hkeep hD ⟨n, hl'⟩

theorem one_of {h : Heap} {a : V} {as : List Value} (hv : VRs g φ h [a] as) : ∃ b, as = [b] ∧ VR g φ h a b := by
  cases hv with
  | cons h1 h2 => cases h2; exact ⟨_, rfl, h1⟩
theorem two_of {h : Heap} {a b : V} {as : List Value} (hv : VRs g φ h [a, b] as) : ∃ c d, as = [c, d] ∧ VR g φ h a c ∧ VR g φ h b d := by
  cases hv with
  | cons h1 h2 =>
    obtain ⟨d, rfl, h3⟩ := one_of h2
    exact ⟨_, d, rfl, h1, h3⟩
/-- one argument, seen as it is -/
theorem prim1 {f : V → Option (V × Sto)} {c : List Value → Sem Value} {l : List V} {as : List Value} {v : V} {σ' : Sto} (he : arg1 f l = some (v, σ')) (hv : VRs g φ s.heap l as)
    (k : ∀ x a, f x = some (v, σ') → VR g φ s.heap x a → wpAny (model g.prog g.w) A (c [a]) (EvP g φ s v σ') E s) : wpAny (model g.prog g.w) A (c as) (EvP g φ s v σ') E s := by
  obtain ⟨x, rfl, he⟩ := arg1_some he
  obtain ⟨a, rfl, hx⟩ := one_of hv
  exact k x a he hx
theorem primI {f : List Int → Option V} {c : List Value → Sem Value} {l : List V} {as : List Value} {v : V} {σ' : Sto} (he : arg1 (onInts σ f) l = some (v, σ')) (R : RepS g φ σ s.heap) (hv : VRs g φ s.heap l as)
    (k : ∀ a l vs ns, SeqAt g φ s.heap a l vs → intsOf l = some ns → f ns = some v → wpAny (model g.prog g.w) A (c [.ref a]) (EvP g φ s v σ) E s) : wpAny (model g.prog g.w) A (c as) (EvP g φ s v σ') E s := by
  refine prim1 he hv fun x a he hx => ?_
  obtain ⟨⟨l', w⟩, hl, he⟩ := ob he
  obtain ⟨ns, hn, he⟩ := ob he
  obtain ⟨u, hu, he⟩ := ob he
  obtain ⟨rfl, rfl⟩ := sm2 he
  obtain ⟨c', vs, rfl, hsq⟩ := seq_at hl R hx
  exact k c' l' vs ns hsq hn hu
theorem prim2 {f : Int → Int → Int} {c : List Value → Sem Value} {l : List V} {as : List Value} {v : V} {σ' : Sto} (he : arg2 (onTwo σ f) l = some (v, σ')) (hv : VRs g φ s.heap l as)
    (k : ∀ i j t u, wpAny (model g.prog g.w) A (c [.int i t, .int j u]) (EvP g φ s (.int (f i j)) σ) E s) : wpAny (model g.prog g.w) A (c as) (EvP g φ s v σ') E s := by
  obtain ⟨x, y, rfl, he⟩ := arg2_some he
  obtain ⟨a, b, rfl, hx, hy⟩ := two_of hv
  obtain ⟨i, hi, he⟩ := ob he
  obtain ⟨j, hj, he⟩ := ob he
  obtain ⟨rfl, rfl⟩ := sm2 he
  obtain ⟨t, rfl⟩ := vI hi hx
  obtain ⟨u, rfl⟩ := vI hj hy
  exact k i j t u

theorem len_prim {x : V} {a : Value} {v : V} {σ' : Sto} (he : pLen σ x = some (v, σ')) (R : RepS g φ σ s.heap) (hx : VR g φ s.heap x a) : wpAny (model g.prog g.w) A (call (.builtin "len") [a]) (EvP g φ s v σ') E s := by
  have sq : ∀ {x : V}, VR g φ s.heap x a → ((seqOf σ x).bind fun p => some (V.int p.1.length, σ)) = some (v, σ') → wpAny (model g.prog g.w) A (call (.builtin "len") [a]) (EvP g φ s v σ') E s := fun hx he => by
    obtain ⟨⟨l', w⟩, hl, he⟩ := ob he
    obtain ⟨rfl, rfl⟩ := sm2 he
    obtain ⟨c', vs, rfl, hsq⟩ := seq_at hl R hx
    exact len_snd R hsq
  cases hx with
  | str y t =>
    obtain ⟨hz, he⟩ := iteS he
    obtain ⟨rfl, rfl⟩ := sm2 he
    exact PyProof.Rows.len_str (by have : szLine = 16777216 := rfl; omega) (EvP.here R (.int _ _))
  | ref hr => exact sq (.ref hr) he
  | tup h1 h2 h3 h4 => exact sq (.tup h1 h2 h3 h4) he
  | ro h1 h2 h3 => exact sq (.ro h1 h2 h3) he
  | _ => exact no he
theorem tuple_prim_snd {x : V} {a : Value} {v : V} {σ' : Sto} (he : ((asR x).bind fun r => (lst σ r).bind fun l => newT σ l) = some (v, σ')) (R : RepS g φ σ s.heap) (hx : VR g φ s.heap x a) : wpAny (model g.prog g.w) A (call (.type "tuple") [a]) (EvP g φ s v σ') E s := by
  obtain ⟨r, hr, he⟩ := ob he
  obtain ⟨l, hl, he⟩ := ob he
  obtain ⟨hz, rfl, rfl⟩ := newT_some he
  obtain ⟨c, rfl, hr⟩ := vR hr hx
  obtain ⟨vs, hl, hv, _⟩ := R.list hr hl
  refine call_tuple_list hl.isList (fun h' hk => ?_) (by rw [List.size_toArray, ← hv.length]; exact hz)
  exact EvP.newT (tk := s.toks) R (Nat.le_succ_of_le hz) hv (fun b o e => Heap.get?_push_of_some _ (hk b o e)) (fresh_of hk (fresh_size _)) (isTuple_push _ _)
theorem list_prim_snd {x : V} {a : Value} {v : V} {σ' : Sto} (he : ((asT x).bind fun l => new σ l) = some (v, σ')) (R : RepS g φ σ s.heap) (hx : VR g φ s.heap x a) : wpAny (model g.prog g.w) A (call (.type "list") [a]) (EvP g φ s v σ') E s := by
  obtain ⟨l, hl, he⟩ := ob he
  obtain ⟨hz, rfl, rfl⟩ := new_some he
  obtain ⟨c, vs, rfl, ht, _, hv, _⟩ := vT hl hx
  obtain ⟨o, ho, hc, n, hd⟩ := id ht
  refine call_list_seq c (.inr rfl) ho hc hd (fun h' c' hk hS => ?_) (by rw [List.size_toArray, ← hv.length]; exact hz)
  exact EvP.newL (tk := s.toks) R (Nat.le_succ_of_le hz) hv hk (fresh_size _) ⟨_, hS⟩
theorem int_prim_snd {x : V} {a : Value} {v : V} {σ' : Sto} (he : ((asB x).bind fun b => some (V.int (if b then 1 else 0), σ)) = some (v, σ')) (R : RepS g φ σ s.heap) (hx : VR g φ s.heap x a) : wpAny (model g.prog g.w) A (call (.type "int") [a]) (EvP g φ s v σ') E s := by
  obtain ⟨b, hb, he⟩ := ob he
  obtain ⟨rfl, rfl⟩ := sm2 he
  obtain rfl := vB hb hx
  exact call_int_bool (EvP.here R (.int _ _))

/-- the type of a value, as isinstance sees it -/
inductive KR (h : Heap) : Knd → Value → Prop
  | none : KR h .none .none
  | bool (b : Bool) : KR h .bool (.bool b)
  | int (i : Int) (t : Tok) : KR h .int (.int i t)
  | str (x : Str) (t : Tok) : KR h .str (.str x t)
  | tup {c : Addr} {o : Obj} : h.get? c = some o → o.cls = .type "tuple" → KR h .tup (.ref c)
  | lst {c : Addr} {o : Obj} : h.get? c = some o → o.cls = .type "list" → KR h .lst (.ref c)
theorem kr_of {x : V} {a : Value} {k : Knd} (hk : kndOf σ x = some k) (R : RepS g φ σ s.heap) (hx : VR g φ s.heap x a) : KR s.heap k a := by
  cases hx with
  | none => obtain rfl := sm hk; exact .none
  | bool b => obtain rfl := sm hk; exact .bool b
  | int i t => obtain rfl := sm hk; exact .int i t
  | str i t => obtain rfl := sm hk; exact .str i t
  | tup ht _ _ _ => obtain rfl := sm hk; obtain ⟨o, ho, hc, _⟩ := ht; exact .tup ho hc
  | ref hr =>
    obtain ⟨l, hl, hk⟩ := ob hk
    obtain rfl := sm hk
    obtain ⟨vs, ⟨n, ho⟩, _⟩ := R.list hr hl
    exact .lst ho rfl
  | ro _ _ _ => exact no hk
theorem is_prim {f : Knd → Bool} {x : V} {a : Value} {v : V} {σ' : Sto} {T : String} (he : pIs σ f x = some (v, σ')) (R : RepS g φ σ s.heap) (hx : VR g φ s.heap x a)
    (h : ∀ k, KR s.heap k a → (∀ tk, EvP g φ s (.bool (f k)) σ (.bool (f k)) { s with toks := tk }) → wpAny (model g.prog g.w) A (call (.builtin "isinstance") [a, .type T]) (EvP g φ s (.bool (f k)) σ) E s) :
    wpAny (model g.prog g.w) A (call (.builtin "isinstance") [a, .type T]) (EvP g φ s v σ') E s := by
  obtain ⟨k, hk, he⟩ := ob he
  obtain ⟨rfl, rfl⟩ := sm2 he
  exact h k (kr_of hk R hx) fun tk => EvP.here R (.bool _)
theorem isInt_snd {k : Knd} {a : Value} {Q : Value → Shared → Prop} (hk : KR s.heap k a) (h : ∀ tk, Q (.bool k.isInt) { s with toks := tk }) : wpAny (model g.prog g.w) A (call (.builtin "isinstance") [a, .type "int"]) Q E s := by
  cases hk with
  | none => exact IsiPair.NoneType_int (h _)
  | bool _ => exact IsiPair.bool_int (h s.toks)
  | int _ _ => exact IsiPair.int_int (h s.toks)
  | str _ _ => exact IsiPair.str_int (h _)
  | tup ho hc => exact IsiPair.tuple_int ho hc (h _)
  | lst ho hc => exact IsiPair.list_int ho hc (h _)
theorem isBool_snd {k : Knd} {a : Value} {Q : Value → Shared → Prop} (hk : KR s.heap k a) (h : ∀ tk, Q (.bool k.isBool) { s with toks := tk }) : wpAny (model g.prog g.w) A (call (.builtin "isinstance") [a, .type "bool"]) Q E s := by
  cases hk with
  | none => exact IsiPair.NoneType_bool (h _)
  | bool _ => exact IsiPair.bool_bool (h s.toks)
  | int _ _ => exact IsiPair.int_bool (h _)
  | str _ _ => exact IsiPair.str_bool (h _)
  | tup ho hc => exact IsiPair.tuple_bool ho hc (h _)
  | lst ho hc => exact IsiPair.list_bool ho hc (h _)
theorem isTup_snd {k : Knd} {a : Value} {Q : Value → Shared → Prop} (hk : KR s.heap k a) (h : ∀ tk, Q (.bool k.isTup) { s with toks := tk }) : wpAny (model g.prog g.w) A (call (.builtin "isinstance") [a, .type "tuple"]) Q E s := by
  cases hk with
  | none => exact IsiPair.NoneType_tuple (h _)
  | bool _ => exact IsiPair.bool_tuple (h _)
  | int _ _ => exact IsiPair.int_tuple (h _)
  | str _ _ => exact IsiPair.str_tuple (h _)
  | tup ho hc => exact IsiPair.tuple_tuple ho hc (h s.toks)
  | lst ho hc => exact IsiPair.list_tuple ho hc (h _)
theorem isStr_snd {k : Knd} {a : Value} {Q : Value → Shared → Prop} (hk : KR s.heap k a) (h : ∀ tk, Q (.bool k.isStr) { s with toks := tk }) : wpAny (model g.prog g.w) A (call (.builtin "isinstance") [a, .type "str"]) Q E s := by
  cases hk with
  | none => exact IsiPair.NoneType_str (h _)
  | bool _ => exact IsiPair.bool_str (h _)
  | int _ _ => exact IsiPair.int_str (h _)
  | str _ _ => exact IsiPair.str_str (h s.toks)
  | tup ho hc => exact IsiPair.tuple_str ho hc (h _)
  | lst ho hc => exact IsiPair.list_str ho hc (h _)
theorem isLst_snd {k : Knd} {a : Value} {Q : Value → Shared → Prop} (hk : KR s.heap k a) (h : ∀ tk, Q (.bool k.isLst) { s with toks := tk }) : wpAny (model g.prog g.w) A (call (.builtin "isinstance") [a, .type "list"]) Q E s := by
  cases hk with
  | none => exact IsiPair.NoneType_list (h _)
  | bool _ => exact IsiPair.bool_list (h _)
  | int _ _ => exact IsiPair.int_list (h _)
  | str _ _ => exact IsiPair.str_list (h _)
  | tup ho hc => exact IsiPair.tuple_list ho hc (h _)
  | lst ho hc => exact IsiPair.list_list ho hc (h s.toks)

theorem prim_snd {p : Prim} {l : List V} {as : List Value} {v : V} {σ' : Sto} (he : primop p l σ = some (v, σ')) (hh : A.handled = none) (hsys : ∃ o, g.B.get? sysModules = some o) (R : RepS g φ σ s.heap) (hv : VRs g φ s.heap l as) :
    wpAny (model g.prog g.w) A (primCall p as) (EvP g φ s v σ') E s := by
  cases p with
  | len => exact prim1 he hv fun x a he hx => len_prim he R hx
  | sum => exact primI he R hv fun a l vs ns hsq hn hu => sm hu ▸ sum_snd hh R hsq hn
  | max1 => exact no he
  | min1 => exact no he
  | minD => exact no he
  | min2 =>
    refine prim2 he hv fun i j t u => ?_
    · refine min_two_ints hh fun h' tk hk => ?_
      by_cases hc : j < i
      · rw [if_pos hc, show min i j = j by omega]; exact EvP.grown R hk (.int _ _)
      · rw [if_neg hc, show min i j = i by omega]; exact EvP.grown R hk (.int _ _)
  | max2 =>
    refine prim2 he hv fun i j t u => ?_
    · refine max_two_ints hh fun h' tk hk => ?_
      by_cases hc : j > i
      · rw [if_pos hc, show max i j = j by omega]; exact EvP.grown R hk (.int _ _)
      · rw [if_neg hc, show max i j = i by omega]; exact EvP.grown R hk (.int _ _)
  | tuple => exact prim1 he hv fun x a he hx => tuple_prim_snd he R hx
  | list => exact prim1 he hv fun x a he hx => list_prim_snd he R hx
  | str => exact no he
  | int => exact prim1 he hv fun x a he hx => int_prim_snd he R hx
  | isInt => exact prim1 (c := fun as => call (.builtin "isinstance") (as ++ [.type "int"])) he hv fun x a he hx => is_prim he R hx fun k hk q => isInt_snd hk q
  | isBool => exact prim1 (c := fun as => call (.builtin "isinstance") (as ++ [.type "bool"])) he hv fun x a he hx => is_prim he R hx fun k hk q => isBool_snd hk q
  | isTuple => exact prim1 (c := fun as => call (.builtin "isinstance") (as ++ [.type "tuple"])) he hv fun x a he hx => is_prim he R hx fun k hk q => isTup_snd hk q
  | isStr => exact prim1 (c := fun as => call (.builtin "isinstance") (as ++ [.type "str"])) he hv fun x a he hx => is_prim he R hx fun k hk q => isStr_snd hk q
  | isList => exact prim1 (c := fun as => call (.builtin "isinstance") (as ++ [.type "list"])) he hv fun x a he hx => is_prim he R hx fun k hk q => isLst_snd hk q
  | sorted =>
    refine prim1 he hv fun x a he hx => ?_
    · obtain ⟨r, hr, he⟩ := ob he
      obtain ⟨l, hl, he⟩ := ob he
      obtain ⟨c, rfl, hr⟩ := vR hr hx
      exact sorted_snd hh hsys R hr hl he
end
end Lar

set_option autoImplicit false
set_option maxRecDepth 100000
namespace Lar
open PySem PyProof.Rows PySem.Calls PySem.SeqAt

noncomputable def methName : Meth → Str
  | .append => "append" | .extend => "extend" | .find => "find" | .get => "get" | .join => "join"
noncomputable def methId : Meth → String
  | .append => "list.append" | .extend => "list.extend" | .find => "str.find" | .get => "dict.get" | .join => "str.join"
noncomputable def methTy : Meth → String
  | .append => "list" | .extend => "list" | .find => "str" | .get => "dict" | .join => "str"

theorem meth_plain (m : Meth) : PlainAttrs (methTy m) := by
  cases m
  · exact PySem.F.plainAttrs_list
  · exact PySem.F.plainAttrs_list
  · exact PySem.F.plainAttrs_str
  · exact PySem.F.plainAttrs_dict
  · exact PySem.F.plainAttrs_str
theorem meth_slot (m : Meth) : Slot (methTy m) (methName m) (methId m) := by
  cases m
  · exact PySem.F.slot_list_append
  · exact PySem.F.slot_list_extend
  · exact PySem.F.slot_str_find
  · exact PySem.F.slot_dict_get
  · exact PySem.F.slot_str_join
theorem meth_type (m : Meth) : typeOf (.builtin (methId m)) = pure (.type "method_descriptor") := by
  cases m
  · exact PySem.F.type_list_append
  · exact PySem.F.type_list_extend
  · exact PySem.F.type_str_find
  · exact PySem.F.type_dict_get
  · exact PySem.F.type_str_join

section
variable {g : G} {A : Around} {E : Value → Shared → Prop} {φ : List Addr} {σ : Sto} {s : Shared}

theorem recv_snd {m : Meth} {x : V} {a : Value} (hr : recv m x σ = true) (R : RepS g φ σ s.heap) (hx : VR g φ s.heap x a) :
    s.TypeIs a (methTy m) ∧ ∀ c, a = .ref c → ∃ ob, s.heap.get? c = some ob ∧ ob.dict = none := by
  have L : ((asR x).bind (lst σ)).isSome = true → s.TypeIs a "list" ∧ ∀ d, a = .ref d → ∃ ob, s.heap.get? d = some ob ∧ ob.dict = none := fun h => by
    obtain ⟨l, h⟩ := Option.isSome_iff_exists.mp h
    obtain ⟨r, h1, hl⟩ := ob h
    obtain ⟨c, rfl, h1⟩ := vR h1 hx
    obtain ⟨vs, ⟨n, ho⟩, _⟩ := R.list h1 hl
    exact ⟨⟨_, ho, rfl⟩, fun d e => ⟨_, Value.ref.inj e ▸ ho, rfl⟩⟩
  have S : (asS x).isSome = true → s.TypeIs a "str" ∧ ∀ d, a = .ref d → ∃ ob, s.heap.get? d = some ob ∧ ob.dict = none := fun h => by
    obtain ⟨y, h⟩ := Option.isSome_iff_exists.mp h
    obtain ⟨t, rfl⟩ := vS h hx
    exact ⟨typeIs_str s y t, fun c e => nomatch e⟩
  cases m with
  | append => exact L hr
  | extend => exact L hr
  | find => exact S hr
  | join => exact S hr
  | get =>
    obtain ⟨l, h⟩ := Option.isSome_iff_exists.mp hr
    obtain ⟨r, h1, hl⟩ := ob h
    obtain ⟨c, rfl, h1⟩ := vR h1 hx
    cases R.objs _ _ _ h1 (ds_some hl) with
    | ds hd _ _ => exact ⟨hd.typeIs, hd.mapOf.noDict⟩

/-- a list written anew -/
theorem EvP.putL {r : Nat} {a : Addr} {l l₀ : List V} {ws : List Value} {h' : Heap} (R : RepS g φ σ s.heap) (hr : φ[r]? = some a) (h₀ : σ[r]? = some (.lst l₀)) (hs : Heap.SameBut a s.heap h')
    (hl : h'.PlainList a ws.toArray) (hz : l.length ≤ szLine + 1) (hv : VRs g φ s.heap l ws) : SE φ s.heap φ h' ∧ RepS g φ (σ.set r (.lst l)) h' := by
  have ha : a ∈ φ := List.mem_of_getElem? hr
  have S : SE φ s.heap φ h' := SE.put ha hs (by obtain ⟨n, e⟩ := hl; exact ⟨_, e⟩)
  exact ⟨S, R.put hr h₀ (fun b o hb e => hs.extBut b o hb e) (.lst hl hz (hv.step R S))⟩

theorem append_snd {x y : V} {a b : Value} {v : V} {σ' : Sto} (he : mAppend σ x y = some (v, σ')) (R : RepS g φ σ s.heap) (hx : VR g φ s.heap x a) (hy : VR g φ s.heap y b) :
    v = .none ∧ wpAny (model g.prog g.w) A (call (.builtin "list.append") [a, b]) (EvP g φ s .none σ') E s := by
  obtain ⟨r, hr, he⟩ := ob he
  obtain ⟨l, hl0, he⟩ := ob he
  obtain ⟨hz, he⟩ := iteS he
  obtain ⟨rfl, rfl⟩ := sm2 he
  obtain ⟨c, rfl, hr⟩ := vR hr hx
  obtain ⟨vs, hl, hv, _⟩ := R.list hr hl0
  refine ⟨rfl, wpAny_list_append_plain hl (fun h' hl2 hs => ?_) (by rw [List.size_toArray, ← hv.length]; exact hz)⟩
  have hl2' : h'.PlainList c (vs ++ [b]).toArray := by simpa using hl2
  obtain ⟨S, R'⟩ := EvP.putL (l := l ++ [y]) R hr (lst_some hl0) hs hl2' (by simp; exact hz) (hv.append (VRs.one hy))
  exact ⟨φ, S, R', .none, rfl, rfl, rfl⟩
theorem find_snd {x y : V} {a b : Value} {v : V} {σ' : Sto} (he : mFind σ x y = some (v, σ')) (R : RepS g φ σ s.heap) (hx : VR g φ s.heap x a) (hy : VR g φ s.heap y b) :
    wpAny (model g.prog g.w) A (call (.builtin "str.find") [a, b]) (EvP g φ s v σ') E s := by
  obtain ⟨p, hp, he⟩ := ob he
  obtain ⟨q, hq, he⟩ := ob he
  obtain ⟨rfl, rfl⟩ := sm2 he
  obtain ⟨t, rfl⟩ := vS hp hx
  obtain ⟨u, rfl⟩ := vS hq hy
  exact SC.find (EvP.here R (.int _ _))
theorem get_snd {x y z : V} {a b d : Value} {v : V} {σ' : Sto} (he : mGet σ x y z = some (v, σ')) (hsys : ∃ o, g.B.get? sysModules = some o) (R : RepS g φ σ s.heap) (hx : VR g φ s.heap x a) (hy : VR g φ s.heap y b) (hz : VR g φ s.heap z d) :
    wpAny (model g.prog g.w) A (call (.builtin "dict.get") [a, b, d]) (EvP g φ s v σ') E s := by
  obtain ⟨r, hr, he⟩ := ob he
  obtain ⟨k, hk, he⟩ := ob he
  obtain ⟨l, hl, he⟩ := ob he
  obtain ⟨rfl, rfl⟩ := sm2 he
  obtain ⟨c, rfl, hr⟩ := vR hr hx
  obtain ⟨u, rfl⟩ := vS hk hy
  have notSys : (c == sysModules) = false := by
    obtain ⟨o, ho⟩ := hsys
    have := R.fresh _ (List.mem_of_getElem? hr)
    simp only [beq_eq_false_iff_ne, ne_eq]
    rintro rfl
    rw [ho] at this; exact nomatch this
  cases R.objs _ _ _ hr (ds_some hl) with
  | ds hd hk hvv =>
    refine call_meetsIn PySem.F.slot_dict_get hd.typeIs PySem.F.entry_dict_get (PySem.F.args_dict_get_3 _ _ _) (meets_dict_get_default (strKind g.prog g.w) c (strKind_is g.prog g.w k u) notSys d) ⟨_, hd.mapOf, ?_⟩
    cases hg : dget l k with
    | none => rw [dget_none hg hk]; exact EvP.here R hz
    | some w =>
      obtain ⟨a', h1, h2⟩ := dget_some hg hk hvv
      rw [h1]; exact EvP.here R h2
theorem meth_snd {m : Meth} {x : V} {a : Value} {l : List V} {as : List Value} {v : V} {σ' : Sto} (he : methop m x l σ = some (v, σ')) (hsys : ∃ o, g.B.get? sysModules = some o) (R : RepS g φ σ s.heap) (hx : VR g φ s.heap x a) (hv : VRs g φ s.heap l as) :
    wpAny (model g.prog g.w) A (call (.builtin (methId m)) (a :: as)) (EvP g φ s v σ') E s := by
  cases m with
  | append =>
    obtain ⟨y, rfl, he⟩ := arg1_some he
    obtain ⟨b, rfl, hy⟩ := one_of hv
    obtain ⟨rfl, h⟩ := append_snd (A := A) (E := E) he R hx hy
    exact h
  | extend => exact no he
  | find =>
    obtain ⟨y, rfl, he⟩ := arg1_some he
    obtain ⟨b, rfl, hy⟩ := one_of hv
    exact find_snd he R hx hy
  | join => exact no he
  | get =>
    obtain ⟨y, z, rfl, he⟩ := arg2_some he
    obtain ⟨b, d, rfl, hy, hz⟩ := two_of hv
    exact get_snd he hsys R hx hy hz
theorem step_none {m : Meth} {x : V} {l : List V} {v : V} {σ' : Sto} (hm : m.isStep = true) (he : methop m x l σ = some (v, σ')) : v = .none := by
  cases m with
  | append =>
    obtain ⟨y, rfl, he⟩ := arg1_some he
    obtain ⟨r, hr, he⟩ := ob he
    obtain ⟨l, hl0, he⟩ := ob he
    exact (sm2 (iteS he).2).1.symm
  | extend => exact no he
  | _ => cases hm
end
end Lar

set_option autoImplicit false
set_option maxRecDepth 100000
namespace Lar
open PySem PyProof.Rows PySem.Calls PySem.SeqAt

section
variable {g : G} {A : Around} {E : Value → Shared → Prop} {φ : List Addr} {σ : Sto} {s : Shared}

/-- an item of a plain list is stored -/
theorem put_item {c : Addr} {vs : List Value} {k : Int} {t : Tok} {v : Value} {Q : Unit → Shared → Prop} (hl : s.heap.PlainList c vs.toArray) (h0 : 0 ≤ k) (hj : k.toNat < vs.length) (hfit : Builtin.List.listFitsIndex k = true)
    (hQ : ∀ h', h'.PlainList c (vs.set k.toNat v).toArray → Heap.SameBut c s.heap h' → Q () { s with heap := h' }) :
    wpAny (model g.prog g.w) A (setItem (.ref c) (.int k t) v) Q E s := by
  obtain ⟨n, ho⟩ := id hl
  obtain ⟨j, hkj⟩ : ∃ j, j = k.toNat := ⟨_, rfl⟩
  rw [← hkj] at hj hQ
  have hnew : (s.heap.update c (Obj.mapSeq (·.setIfInBounds j v))).PlainList c (vs.set j v).toArray := by
    have e := Heap.get?_update_self (Obj.mapSeq (·.setIfInBounds j v)) ho rfl
    simp only [Obj.mapSeq, List.setIfInBounds_toArray] at e
    exact ⟨_, e⟩
  unfold setItem
  try with_reducible refine wpAny_holding ?_
  refine wpAny_bind (wpAny_sequenceKey hl.isList.typeIs (by decide) ?_)
  refine wpAny_bind (wpAny_callSpecial?_slot (name := Str.ofString "__setitem__") hl.isList.typeIs PySem.slot_list_setitem
    (wpAny_call_entry PySem.slot_list_setitem hl.isList.typeIs PySem.entry_list_setitem ?_ (PySem.args_list_setitem _ _ _)))
  show wpAny _ _ (Builtin.List.listSubscript? (.int k t) >>= _) _ _ s
  refine wpAny_bind (wpAny_listSubscript_int hfit ?_)
  obtain ⟨j', rfl⟩ := Int.eq_ofNat_of_zero_le h0
  have hjj : j = j' := by simpa using hkj
  clear hfit h0 hkj
  subst hjj
  show wpAny _ _ ((seqItemAt c j >>= fun r => pure (r.map (j, ·))) >>= _) _ _ s
  refine wpAny_bind (wpAny_bind (wpAny_seqItemAt ho rfl (wpAny_pure ?_)))
  rw [show vs.toArray[j]? = some vs[j] by simp [hj]]
  show wpAny _ _ (setSeqItemAt c j v >>= _) _ _ s
  refine wpAny_bind (wpAny_setSeqItemAt ho rfl ?_)
  first
    | exact wpAny_bind (wpAny_pure (wpAny_pure ⟨.none, rfl, wpAny_pure (hQ _ hnew (Heap.SameBut.update ..))⟩))
    | exact wpAny_pure ⟨.none, rfl, wpAny_pure (hQ _ hnew (Heap.SameBut.update ..))⟩

theorem dput_stored {κ : Type} [DecidableEq κ] {h : Heap} {k : κ} {v : V} {a : Value} (hva : VR g φ h v a) : ∀ {l : List (κ × V)} {kvs : List (κ × Value)}, kvs.map (·.1) = l.map (·.1) → (kvs.map (·.1)).Nodup → VRs g φ h (l.map (·.2)) (kvs.map (·.2)) →
    (stored kvs k a).map (·.1) = (dput l k v).map (·.1) ∧ VRs g φ h ((dput l k v).map (·.2)) ((stored kvs k a).map (·.2))
  | [], [], _, _, _ => ⟨rfl, .cons hva .nil⟩
  | [], _ :: _, hk, _, _ => by simp at hk
  | _ :: _, [], hk, _, _ => by simp at hk
  | (p, q) :: l, (p', q') :: kvs, hk, hn, hv => by
    simp only [List.map_cons, List.cons.injEq] at hk
    obtain ⟨hk1, hk2⟩ := hk
    subst hk1
    simp only [List.map_cons, List.nodup_cons] at hn
    cases hv with
    | cons hv1 hv2 =>
      by_cases hpk : p' = k
      · subst hpk
        have e1 : stored ((p', q') :: kvs) p' a = (p', a) :: kvs := by
          unfold stored
          simp only [List.any_cons, decide_true, Bool.true_or, if_true, List.map_cons]
          rw [map_store_of_not_mem kvs p' a hn.1]
        have e2 : dput ((p', q) :: l) p' v = (p', v) :: l := by simp only [dput, if_true]
        rw [e1, e2]
        exact ⟨by simp [hk2], .cons hva hv2⟩
      · obtain ⟨i1, i2⟩ := dput_stored hva hk2 hn.2 hv2
        have e1 : stored ((p', q') :: kvs) k a = (p', q') :: stored kvs k a := by
          unfold stored
          simp only [List.any_cons, decide_eq_false hpk, Bool.false_or]
          split
          · simp [hpk]
          · rfl
        have e2 : dput ((p', q) :: l) k v = (p', q) :: dput l k v := by simp only [dput, if_neg hpk]
        rw [e1, e2]
        exact ⟨by simp [i1], .cons hv1 i2⟩

theorem dictOf_nodup {prog : Program} {w : World} {K : Type} [DecidableEq K] {knd : KeyKind prog w K} {h : Heap} {a : Addr} {kvs : List (K × Value)} (x : h.DictOf knd a kvs) : (kvs.map (·.1)).Nodup := let ⟨_, _, _, _, _, _, _, _, hn⟩ := x; hn
theorem dictOf_empty {prog : Program} {w : World} {K K' : Type} [DecidableEq K] [DecidableEq K'] {knd : KeyKind prog w K} {knd' : KeyKind prog w K'} {h : Heap} {a : Addr} (x : h.DictOf knd a []) : h.DictOf knd' a [] := by
  obtain ⟨o, es, ep, ho, hc, hd, hk, hp, _⟩ := x
  have he : es.toList = [] := by cases hq : es.toList with
    | nil => rfl
    | cons _ _ => rw [hq] at hp; cases hp
  have he' : es = #[] := by simpa using he
  subst he'
  exact ⟨o, #[], ep, ho, hc, hd, fun e he => by simp at he, Pairs.nil, List.nodup_nil⟩

theorem RepS.putM {r : Nat} {c : Addr} {m m₀ : MObj} {h' : Heap} (R : RepS g φ σ s.heap) (hr : φ[r]? = some c) (h₀ : σ[r]? = some m₀) (hs : Heap.SameBut c s.heap h') (hd : ∃ o, h'.get? c = some o)
    (hm : SE φ s.heap φ h' → MR g φ h' m c) : SE φ s.heap φ h' ∧ RepS g φ (σ.set r m) h' := by
  have S : SE φ s.heap φ h' := SE.put (List.mem_of_getElem? hr) hs hd
  exact ⟨S, R.put hr h₀ (fun b o hb e => hs.extBut b o hb e) (hm S)⟩

theorem set_lst {l : List V} {r : Nat} {c : Addr} {i v : V} {ai av : Value} {σ' : Sto} {Q : Unit → Shared → Prop} (he : ((asI i).bind fun k => if 0 ≤ k ∧ k.toNat < l.length then some (σ.set r (.lst (l.set k.toNat v))) else none) = some σ') (R : RepS g φ σ s.heap) (hr : φ[r]? = some c) (h1 : σ[r]? = some (.lst l)) (hi : VR g φ s.heap i ai) (hv : VR g φ s.heap v av)
    (h : ∀ h' tk, SE φ s.heap φ h' → RepS g φ σ' h' → Q () { s with heap := h', toks := tk }) : wpAny (model g.prog g.w) A (setItem (.ref c) ai av) Q E s := by
  have sz : szLine + 1 = 16777217 := rfl
  obtain ⟨vs, hl, hvs, hz⟩ := R.list hr (lst_eq h1)
  obtain ⟨k, hk, he⟩ := ob he
  obtain ⟨⟨hk0, hk1⟩, he⟩ := iteS he
  obtain rfl := sm he
  obtain ⟨t, rfl⟩ := vI hk hi
  refine put_item hl hk0 (by rw [← hvs.length]; exact hk1) (fitsIndex_of (by omega) (by omega)) fun h' hl' hs' => ?_
  obtain ⟨S, R'⟩ := EvP.putL (l := l.set k.toNat v) R hr h1 hs' hl' (by simpa using hz) (VRs.set hv k.toNat hvs)
  exact h h' _ S R'
theorem set_di {l : List (Int × V)} {r : Nat} {c : Addr} {i v : V} {ai av : Value} {σ' : Sto} {Q : Unit → Shared → Prop} (he : ((asI i).bind fun k => if l.length ≤ szLine then some (σ.set r (.di (dput l k v))) else none) = some σ') (R : RepS g φ σ s.heap) (hr : φ[r]? = some c) (h1 : σ[r]? = some (.di l)) (hi : VR g φ s.heap i ai) (hv : VR g φ s.heap v av)
    (h : ∀ h' tk, SE φ s.heap φ h' → RepS g φ σ' h' → Q () { s with heap := h', toks := tk }) : wpAny (model g.prog g.w) A (setItem (.ref c) ai av) Q E s := by
  obtain ⟨k, hk, he⟩ := ob he
  obtain ⟨hz, he⟩ := iteS he
  obtain rfl := sm he
  obtain ⟨t, rfl⟩ := vI hk hi
  cases R.objs _ _ _ hr h1 with
  | @di _ _ kvs hd hk hvs =>
    have hlen : kvs.length = l.length := by have := congrArg List.length hk; simpa using this
    refine wpAny_setItem_pairs (intKind_is g.prog g.w k t) hd (fun h' hd' hs' => ?_) (by rw [hlen]; exact hz)
    obtain ⟨i1, i2⟩ := dput_stored hv hk (dictOf_nodup hd) hvs (k := k)
    obtain ⟨S, R'⟩ := R.putM (m := .di (dput l k v)) hr h1 hs' (by obtain ⟨o, _, _, ho, _⟩ := hd'; exact ⟨o, ho⟩) fun S => .di hd' i1 (i2.step R S)
    exact h h' _ S R'
theorem set_ds {l : List (Str × V)} {r : Nat} {c : Addr} {i v : V} {ai av : Value} {σ' : Sto} {Q : Unit → Shared → Prop} (he : setDs σ r l v i = some σ') (R : RepS g φ σ s.heap) (hr : φ[r]? = some c) (h1 : σ[r]? = some (.ds l)) (hi : VR g φ s.heap i ai) (hv : VR g φ s.heap v av)
    (h : ∀ h' tk, SE φ s.heap φ h' → RepS g φ σ' h' → Q () { s with heap := h', toks := tk }) : wpAny (model g.prog g.w) A (setItem (.ref c) ai av) Q E s := by
  cases R.objs _ _ _ hr h1 with
  | @ds _ _ kvs hd hk hvs =>
    have hlen : kvs.length = l.length := by have := congrArg List.length hk; simpa using this
    cases hi with
    | str k t =>
      obtain ⟨hz, he⟩ := iteS he
      obtain rfl := sm he
      refine wpAny_setItem_pairs (strKind_is g.prog g.w k t) hd (fun h' hd' hs' => ?_) (by rw [hlen]; exact hz)
      obtain ⟨i1, i2⟩ := dput_stored hv hk (dictOf_nodup hd) hvs (k := k)
      obtain ⟨S, R'⟩ := R.putM (m := .ds (dput l k v)) hr h1 hs' (by obtain ⟨o, _, _, ho, _⟩ := hd'; exact ⟨o, ho⟩) fun S => .ds hd' i1 (i2.step R S)
      exact h h' _ S R'
    | int k t =>
      obtain ⟨hz, he⟩ := iteS he
      obtain rfl := sm he
      have hkn : kvs = [] := by
        rw [List.isEmpty_iff.mp hz] at hlen
        exact List.length_eq_zero_iff.mp hlen
      subst hkn
      refine wpAny_setItem_pairs (intKind_is g.prog g.w k t) (dictOf_empty hd) (fun h' hd' hs' => ?_) (Nat.zero_le _)
      obtain ⟨S, R'⟩ := R.putM (m := .di [(k, v)]) hr h1 hs' (by obtain ⟨o, _, _, ho, _⟩ := hd'; exact ⟨o, ho⟩) fun S => .di hd' (by simp [stored]) (by simpa [stored] using VRs.one (hv.step R S))
      exact h h' _ S R'
    | _ => exact no he
theorem set_snd {o i v : V} {ao ai av : Value} {σ' : Sto} {Q : Unit → Shared → Prop} (he : setop o i v σ = some σ') (R : RepS g φ σ s.heap) (ho : VR g φ s.heap o ao) (hi : VR g φ s.heap i ai) (hv : VR g φ s.heap v av)
    (h : ∀ h' tk, SE φ s.heap φ h' → RepS g φ σ' h' → Q () { s with heap := h', toks := tk }) :
    wpAny (model g.prog g.w) A (setItem ao ai av) Q E s := by
  obtain ⟨r, hr, he⟩ := ob he
  obtain ⟨m, hm, he⟩ := ob he
  obtain ⟨c, rfl, hr⟩ := vR hr ho
  cases m with
  | lst l => exact set_lst he R hr hm hi hv h
  | di l => exact set_di he R hr hm hi hv h
  | ds l => exact set_ds he R hr hm hi hv h
  | own => exact no he
end
end Lar

set_option autoImplicit false
set_option maxRecDepth 100000
namespace Lar
open PySem PyProof.Rows PySem.Calls PySem.SeqAt

/-- an iterator moves: its own objects, and those of the store -/
noncomputable def Mv (wr φ : List Addr) (h h' : Heap) : Prop := ∀ b o, b ∉ wr → b ∉ φ → h.get? b = some o → h'.get? b = some o
noncomputable def NoSeq (h : Heap) (b : Addr) : Prop := ∃ o, h.get? b = some o ∧ ∀ items n, o.data ≠ .seq items n
noncomputable def IsSeq (h : Heap) (b : Addr) : Prop := ∃ o items n, h.get? b = some o ∧ o.data = .seq items n
noncomputable def tgOk (two : Bool) (t : Expr) : Prop := (∃ es k p, t = .Tuple es k p) ∨ (two = false ∧ ∃ x p, t = .Name x p)

structure Itr (g : G) (A : Around) (I : Addr) (xs : List V) (w : List (Nat × MObj)) (two : Bool) (ys : List V) (vs : List Value) (wr kp : List Addr) (St : Nat → Heap → Prop) (Mid : Nat → Value → Heap → Prop) : Prop where
  frame : ∀ i h h', St i h → (∀ b, b ∈ wr ∨ b ∈ kp → ∀ o, h.get? b = some o → h'.get? b = some o) → St i h'
  wrN : ∀ i h, St i h → ∀ b ∈ wr, NoSeq h b
  wrM : ∀ i a h, Mid i a h → ∀ b ∈ wr, NoSeq h b
  kpN : ∀ i h, St i h → ∀ b ∈ kp, IsSeq h b
  item : ∀ i φ σ (s : Shared) (Q : Option Value → Shared → Prop) (E : Value → Shared → Prop) x, St i s.heap → RepS g φ σ s.heap → VRs g φ s.heap ys vs → watchOk σ w → (∀ b, b ∈ wr ∨ b ∈ kp → b ∉ φ) → (∀ b ∈ wr, g.B.get? b = none) → xs[i]? = some x →
    (∀ a h' tk, Mv wr φ s.heap h' → RepS g φ σ h' → VR g φ h' x a → Mid i a h' → Q (some a) { s with heap := h', toks := tk }) → wpAny (model g.prog g.w) A (pyNext (.ref I)) Q E s
  go : ∀ t, tgOk two t → ∀ i φ σ a (s : Shared) (Q : Unit → Shared → Prop) (E : Value → Shared → Prop), Mid i a s.heap → RepS g φ σ s.heap → (∀ b, b ∈ wr ∨ b ∈ kp → b ∉ φ) → (∀ b ∈ wr, g.B.get? b = none) →
    (∀ h', Mv wr φ s.heap h' → RepS g φ σ h' → St (i + 1) h' → Q () { s with heap := h' }) → wpAny (model g.prog g.w) A (letOwnedTupleGo t (.ref I) a) Q E s
  done : ∀ φ σ (s : Shared) (Q : Option Value → Shared → Prop) (E : Value → Shared → Prop), St xs.length s.heap → RepS g φ σ s.heap → VRs g φ s.heap ys vs → watchOk σ w → (∀ b, b ∈ wr ∨ b ∈ kp → b ∉ φ) → (∀ b ∈ wr, g.B.get? b = none) →
    (∀ h' tk, Mv wr φ s.heap h' → RepS g φ σ h' → Q none { s with heap := h', toks := tk }) → wpAny (model g.prog g.w) A (pyNext (.ref I)) Q E s
  self : ∀ i (s : Shared) (Q : Value → Shared → Prop) (E : Value → Shared → Prop), St i s.heap → Q (.ref I) s → wpAny (model g.prog g.w) A (pyIter (.ref I)) Q E s

section
variable {g : G} {A : Around} {E : Value → Shared → Prop} {φ : List Addr} {σ : Sto} {s : Shared} {wr : List Addr}

theorem Mv.tup {h h' : Heap} (M : Mv wr φ h h') (hw : ∀ b ∈ wr, NoSeq h b) : ∀ b o, h.get? b = some o → o.cls = .type "tuple" → (∃ items n, o.data = .seq items n) → b ∉ φ → h'.get? b = some o ∧ b ∉ φ := by
  intro b o e _ hs hn
  refine ⟨M b o (fun hb => ?_) hn e, hn⟩
  obtain ⟨o', e', hd⟩ := hw b hb
  rw [e] at e'; cases e'
  obtain ⟨items, n, x⟩ := hs
  exact hd items n x
theorem Mv.vr {h h' : Heap} (M : Mv wr φ h h') (hw : ∀ b ∈ wr, NoSeq h b) {v : V} {a : Value} (x : VR g φ h v a) : VR g φ h' v a := x.stepT (fun _ _ e => e) (M.tup hw)
theorem Mv.vrs {h h' : Heap} (M : Mv wr φ h h') (hw : ∀ b ∈ wr, NoSeq h b) {l : List V} {vs : List Value} (x : VRs g φ h l vs) : VRs g φ h' l vs := x.stepT (fun _ _ e => e) (M.tup hw)

/-- the store behind a move that touches only wr -/
theorem RepS.mv {h h' : Heap} (R : RepS g φ σ h) (M : ∀ b o, b ∉ wr → h.get? b = some o → h'.get? b = some o) (hw : ∀ b ∈ wr, NoSeq h b) (hn : ∀ b ∈ wr, b ∉ φ) (hB : ∀ b ∈ wr, g.B.get? b = none) : RepS g φ σ h' := by
  have M' : Mv wr φ h h' := fun b o h1 _ e => M b o h1 e
  refine ⟨fun b o e => M b o (fun hb => by rw [hB b hb] at e; cases e) (R.base b o e), R.fresh, R.len, R.nodup, fun i a m h1 h2 => ?_⟩
  exact (R.objs i a m h1 h2).stepT (fun _ _ e => e) (M'.tup hw) fun o e => M _ o (fun hb => hn _ hb (List.mem_of_getElem? h1)) e

theorem Mv.all {h h' : Heap} (M : ∀ b o, b ∉ wr → h.get? b = some o → h'.get? b = some o) : Mv wr φ h h' := fun b o h1 _ e => M b o h1 e

theorem letGo_simple {t : Expr} {I : Addr} {a : Value} {o : Obj} {n : String} {Q : Unit → Shared → Prop} (ht : tgOk false t) (ho : s.heap.get? I = some o) (hc : o.cls = .type n) (hn : n = "list_iterator" ∨ n = "tuple_iterator" ∨ n = "range_iterator") (h : Q () s) :
    wpAny (model g.prog g.w) A (letOwnedTupleGo t (.ref I) a) Q E s := by
  rcases ht with ⟨es, k, p, rfl⟩ | ⟨_, x, p, rfl⟩
  · cases a with
    | ref c =>
      unfold letOwnedTupleGo
      refine wpAny_bind (wpAny_load ho ?_)
      rw [hc]
      cases hd : o.data with
      | fields vs =>
        show wpAny _ _ (if (["enumerate", "zip", "dict_itemiterator", "dict_reverseitemiterator", "odict_iterator", "itertools.zip_longest", "itertools.pairwise"].contains n && vs[0]? == some (rawInt c)) = true then _ else _) Q E s
        rw [if_neg (by rcases hn with rfl | rfl | rfl <;> simp)]
        exact wpAny_pure h
      | _ => exact wpAny_pure h
    | _ => exact wpAny_pure h
  · exact wpAny_pure h

theorem watch_one {r : Nat} {m : MObj} {w : List (Nat × MObj)} (h : watchOk σ ((r, m) :: w)) : σ[r]? = some m := h _ List.mem_cons_self

/-- a list of the store, read anew at each turn -/
theorem Itr.list (hh : A.handled = none) (I c : Addr) (r : Nat) (l : List V) (hne : c ≠ I) :
    Itr g A I l [(r, .lst l)] false [.ref r] [.ref c] [I] [] (fun i h => h.IsListIter I c i) (fun i _ h => h.IsListIter I c (i + 1)) := by
  have ns : ∀ i h, h.IsListIter I c i → ∀ b ∈ [I], NoSeq h b := fun i h st b hb => by
    simp at hb; subst hb
    obtain ⟨o, ho, _, hd⟩ := st
    exact ⟨o, ho, fun items n => by rw [hd]; intro x; cases x⟩
  have at' : ∀ {φ : List Addr} {σ : Sto} {h : Heap}, RepS g φ σ h → VRs g φ h [.ref r] [.ref c] → watchOk σ [(r, .lst l)] → ∃ vs, h.IsList c vs.toArray ∧ VRs g φ h l vs := fun {φ σ h} R hv hw => by
    cases hv with
    | cons hv _ =>
      cases hv with
      | ref hr =>
        obtain ⟨vs, hl, hvs, _⟩ := R.list hr (lst_eq (watch_one hw))
        exact ⟨vs, hl.isList, hvs⟩
  refine ⟨fun i h h' st hk => st.at fun o e => hk I (.inl (by simp)) o e, ns, fun i a h m => ns _ h m, fun _ _ _ b hb => (nomatch hb), ?_, ?_, ?_, fun i s Q E st h => wpAny_pyIter_listiter st h⟩
  · intro i φ σ s Q E x st R hv hw hn hB hx hQ
    obtain ⟨vs, hl, hvs⟩ := at' R hv hw
    obtain ⟨a, ha, hxa⟩ := hvs.get hx
    refine wpAny_pyNext_list_item st hl (x := a) (by simpa using ha) fun h' hit' hs' => ?_
    have M : ∀ b o, b ∉ [I] → s.heap.get? b = some o → h'.get? b = some o := fun b o hb e => hs'.extBut b o (by simpa using hb) e
    have M' : Mv [I] φ s.heap h' := Mv.all M
    exact hQ a h' s.toks M' (R.mv M (ns _ _ st) (fun b hb => hn b (.inl hb)) hB) (M'.vr (ns _ _ st) hxa) hit'
  · intro t ht i φ σ a s Q E m R hn hB hQ
    obtain ⟨o, ho, hc, hd⟩ := id m
    exact letGo_simple ht ho hc (.inl rfl) (hQ s.heap (fun _ _ _ _ e => e) R m)
  · intro φ σ s Q E st R hv hw hn hB hQ
    obtain ⟨vs, hl, hvs⟩ := at' R hv hw
    refine wpAny_pyNext_list_end hh st hl (by simp [hvs.length]) fun h' hs' => ?_
    have M : ∀ b o, b ∉ [I] → s.heap.get? b = some o → h'.get? b = some o := fun b o hb e => hs' b o (by simpa using hb) e
    exact hQ h' s.toks (Mv.all M) (R.mv M (ns _ _ st) (fun b hb => hn b (.inl hb)) hB)

/-- an iterator that the library knows -/
theorem Itr.walks {I : Addr} {fp kp : List Addr} {xs ys : List V} {vs : List Value} {P : Nat → Value → Prop} {St : Nat → Heap → Prop} {n : String} (W : Walks g.prog g.w A I fp [I] xs.length P St) (hfp : ∀ b ∈ fp, b = I ∨ b ∈ kp)
    (hn : n = "list_iterator" ∨ n = "tuple_iterator" ∨ n = "range_iterator")
    (hI : ∀ i h, St i h → ∃ o vs, h.get? I = some o ∧ o.cls = .type n ∧ o.data = .fields vs) (hkp : ∀ i h, St i h → ∀ b ∈ kp, IsSeq h b)
    (hP : ∀ φ h i v x, VRs g φ h ys vs → P i v → xs[i]? = some x → VR g φ h x v) :
    Itr g A I xs [] false ys vs [I] kp St (fun i _ h => St (i + 1) h) := by
  have ns : ∀ i h, St i h → ∀ b ∈ [I], NoSeq h b := fun i h st b hb => by
    simp at hb; subst hb
    obtain ⟨o, vs, ho, _, hd⟩ := hI i h st
    exact ⟨o, ho, fun items n => by rw [hd]; intro x; cases x⟩
  refine ⟨fun i h h' st hk => W.frame i h h' st fun b hb o e => hk b (by rcases hfp b hb with rfl | q; exact .inl (by simp); exact .inr q) o e, ns, fun i a h m => ns _ h m, hkp, ?_, ?_, ?_, W.self⟩
  · intro i φ σ s Q E x st R hv hw hn' hB hx hQ
    refine W.item i s Q E (List.getElem?_eq_some_iff.mp hx).1 st fun v h' tk hp st' M => ?_
    have M' : Mv [I] φ s.heap h' := Mv.all M
    exact hQ v h' tk M' (R.mv M (ns _ _ st) (fun b hb => hn' b (.inl hb)) hB) (hP φ h' i v x (M'.vrs (ns _ _ st) hv) hp hx) st'
  · intro t ht i φ σ a s Q E m R hn' hB hQ
    obtain ⟨o, vs, ho, hc, hd⟩ := hI _ _ m
    exact letGo_simple ht ho hc hn (hQ s.heap (fun _ _ _ _ e => e) R m)
  · intro φ σ s Q E st R hv hw hn' hB hQ
    refine W.done s Q E st fun h' tk M => ?_
    exact hQ h' tk (Mv.all M) (R.mv M (ns _ _ st) (fun b hb => hn' b (.inl hb)) hB)

/-- a source of a loop, evaluated -/
noncomputable def SrcP (g : G) (A : Around) (φ : List Addr) (s : Shared) (xs : List V) (w : List (Nat × MObj)) (two : Bool) (σ' : Sto) (a : Value) (s₁ : Shared) : Prop :=
  ∃ φ', SE φ s.heap φ' s₁.heap ∧ RepS g φ' σ' s₁.heap ∧ Same s s₁ ∧ ∀ (E : Value → Shared → Prop) (Q : Value → Shared → Prop),
    (∀ I ys vs wr kp St Mid h', Itr g A I xs w two ys vs wr kp St Mid → St 0 h' → (∀ b o, s₁.heap.get? b = some o → h'.get? b = some o) → VRs g φ' h' ys vs → (∀ b ∈ wr, s.heap.get? b = none) → (∀ b, b ∈ wr ∨ b ∈ kp → b ∉ φ') →
      (∀ b ∈ wr, g.B.get? b = none) → Q (.ref I) { s₁ with heap := h' }) → wpAny (model g.prog g.w) A (pyIter a) Q E s₁

theorem fresh_base {h : Heap} {b : Addr} (R : RepS g φ σ h) (hb : h.get? b = none) : g.B.get? b = none := by
  cases e : g.B.get? b with
  | none => rfl
  | some o => have := R.base b o e; rw [hb] at this; cases this
theorem fresh_phi {h : Heap} {b : Addr} (R : RepS g φ σ h) (hb : h.get? b = none) : b ∉ φ := fun x => by
  obtain ⟨o, ho⟩ := R.live x
  rw [hb] at ho; cases ho

theorem SE.back {φ φ' : List Addr} {h h' : Heap} (S : SE φ h φ' h') {b : Addr} (hb : h'.get? b = none) : h.get? b = none := by
  cases e : h.get? b with
  | none => rfl
  | some o => obtain ⟨o', e'⟩ := S.dom b o e; rw [hb] at e'; cases e'

/-- a plain sequence as a source -/
theorem src_seq {x : V} {a : Value} {xs : List V} {w : List (Nat × MObj)} {s₁ : Shared} (hh : A.handled = none) (he : seqOf σ x = some (xs, w)) (hp : EvP g φ s x σ a s₁) : SrcP g A φ s xs w false σ a s₁ := by
  obtain ⟨φ', S, R, hx, hS⟩ := hp
  refine ⟨φ', S, R, hS, fun E Q h => ?_⟩
  have fb : s.heap.get? s₁.heap.objs.size = none := S.back (fresh_size _)
  have fp' : s₁.heap.objs.size ∉ φ' := fresh_phi R (fresh_size _)
  have fB : g.B.get? s₁.heap.objs.size = none := fresh_base R (fresh_size _)
  cases hx with
  | @tup l c vs ht hz hv hn =>
    obtain ⟨rfl, rfl⟩ := sm2 he
    have hlt : c < s₁.heap.objs.size := by obtain ⟨_, e, _⟩ := ht; exact Heap.lt_size e
    have W := Walks.tuple (prog := g.prog) (w := g.w) hh s₁.heap.objs.size c (Nat.ne_of_lt hlt) vs.toArray
    simp only [List.size_toArray, List.getElem?_toArray, ← hv.length] at W
    refine wpAny_pyIter_tuple ht (h _ l vs [_] [c] _ _ _ (Itr.walks W (fun b hb => by simpa using hb) (.inr (.inl rfl)) ?_ ?_ ?_) ⟨⟨_, Heap.get?_push_size _ rfl, rfl, rfl⟩, ht.push _⟩ (fun b o e => Heap.get?_push_of_some _ e) (hv.stepT (fun _ _ e => e) fun b o e _ _ hn => ⟨Heap.get?_push_of_some _ e, hn⟩) (by simpa using fb) ?_ (by simpa using fB))
    · intro i h st
      obtain ⟨⟨o, ho, hc, hd⟩, _⟩ := st
      exact ⟨o, _, ho, hc, hd⟩
    · intro i h st b hb
      simp at hb; subst hb
      obtain ⟨_, o, ho, hc, n, hd⟩ := st
      exact ⟨o, _, n, ho, hd⟩
    · intro φ h i v x hv hp hx
      obtain ⟨a, ha, hr⟩ := hv.get hx
      rw [hp] at ha; cases ha; exact hr
    · intro b hb
      rcases hb with hb | hb
      · simp at hb; subst hb; exact fp'
      · simp at hb; subst hb; exact hn
  | @ro ns c vs hl hz hi =>
    obtain ⟨rfl, rfl⟩ := sm2 he
    have hl' : s₁.heap.IsList c vs.toArray := hl.at fun o e => R.base _ o e
    have hlt : c < s₁.heap.objs.size := by obtain ⟨_, e, _⟩ := hl'; exact Heap.lt_size e
    have W := Walks.list (prog := g.prog) (w := g.w) hh s₁.heap.objs.size c (Nat.ne_of_lt hlt) vs.toArray
    have hv : VRs g φ' s₁.heap (ns.map .int) vs := ints_vr hi
    simp only [List.size_toArray, List.getElem?_toArray, ← hv.length] at W
    refine wpAny_pyIter_list hl' (h _ (ns.map .int) vs [_] [c] _ _ _ (Itr.walks W (fun b hb => by simpa using hb) (.inl rfl) ?_ ?_ ?_) ⟨⟨_, Heap.get?_push_size _ rfl, rfl, rfl⟩, hl'.push _⟩ (fun b o e => Heap.get?_push_of_some _ e) (hv.stepT (fun _ _ e => e) fun b o e _ _ hn => ⟨Heap.get?_push_of_some _ e, hn⟩) (by simpa using fb) ?_ (by simpa using fB))
    · intro i h st
      obtain ⟨⟨o, ho, hc, hd⟩, _⟩ := st
      exact ⟨o, _, ho, hc, hd⟩
    · intro i h st b hb
      simp at hb; subst hb
      obtain ⟨_, o, ho, hc, n, hd⟩ := st
      exact ⟨o, _, n, ho, hd⟩
    · intro φ h i v x hv hp hx
      obtain ⟨a, ha, hr⟩ := hv.get hx
      rw [hp] at ha; cases ha; exact hr
    · intro b hb
      rcases hb with hb | hb
      · simp at hb; subst hb; exact fp'
      · simp at hb; subst hb
        intro hm
        obtain ⟨o, ho, _⟩ := hl
        rw [R.fresh _ hm] at ho; cases ho
  | @ref r c hr =>
    · obtain ⟨l', hl', he⟩ := ob he
      obtain ⟨rfl, rfl⟩ := sm2 he
      obtain ⟨vs, hl, hv, hz⟩ := R.list hr hl'
      have hlt : c < s₁.heap.objs.size := by obtain ⟨_, e⟩ := hl; exact Heap.lt_size e
      refine wpAny_pyIter_list hl.isList (h _ [.ref r] [.ref c] [_] [] _ _ _ (Itr.list hh s₁.heap.objs.size c r l' (Nat.ne_of_lt hlt)) ⟨_, Heap.get?_push_size _ rfl, rfl, rfl⟩ (fun b o e => Heap.get?_push_of_some _ e) (.one (.ref hr)) (by simpa using fb) ?_ (by simpa using fB))
      intro b hb
      rcases hb with hb | hb
      · simp at hb; subst hb; exact fp'
      · cases hb
  | _ => exact no he

theorem rangeN_eq (a b c : Int) : rangeN a b c = (Builtin.Range.rangeSize a b c).toNat := rfl
theorem rangeSize_nonneg (a b c : Int) (hc : c ≠ 0) : 0 ≤ Builtin.Range.rangeSize a b c := by
  unfold Builtin.Range.rangeSize
  split
  · split
    · have := Int.ediv_nonneg (a := b - a - 1) (b := c) (by omega) (by omega); omega
    · omega
  · split
    · have := Int.ediv_nonneg (a := a - b - 1) (b := -c) (by omega) (by omega); omega
    · omega
theorem rangeSize_le (a b c : Int) (hc : c ≠ 0) (ha : -1000000000 ≤ a ∧ a ≤ 1000000000) (hb : -1000000000 ≤ b ∧ b ≤ 1000000000) : Builtin.Range.rangeSize a b c ≤ 2000000000 := by
  unfold Builtin.Range.rangeSize
  split
  · split
    · have := Int.ediv_le_self (a := b - a - 1) c (by omega); omega
    · omega
  · split
    · have := Int.ediv_le_self (a := a - b - 1) (-c) (by omega); omega
    · omega
theorem small_of {a b c : Int} (hc : c ≠ 0) (ha : -1000000000 ≤ a ∧ a ≤ 1000000000) (hb : -1000000000 ≤ b ∧ b ≤ 1000000000) (hc' : -1000000000 ≤ c ∧ c ≤ 1000000000) : Builtin.Range.small a b c = true := by
  have h0 := rangeSize_nonneg a b c hc
  have h1 := rangeSize_le a b c hc ha hb
  unfold Builtin.Range.small
  simp only [Builtin.Range.rangeFitsLong, Bool.and_eq_true, Bool.or_eq_true, decide_eq_true_eq, beq_iff_eq]
  refine ⟨⟨⟨⟨by omega, by omega⟩, by omega⟩, by omega⟩, .inr ?_⟩
  split <;> simp only [Bool.and_eq_true, decide_eq_true_eq] <;> omega

/-- a range as a source; it lies at r -/
theorem src_range {a b c : Int} {r : Addr} {t u v : Tok} {s₁ : Shared} (hh : A.handled = none) (hr : IsRange s₁.heap r a b c t u v) (hc : c ≠ 0) (hsm : Builtin.Range.small a b c = true) {φ' : List Addr} (S : SE φ s.heap φ' s₁.heap) (R : RepS g φ' σ s₁.heap) (hS : Same s s₁) :
    SrcP g A φ s (rangeL a b c) [] false σ (.ref r) s₁ := by
  refine ⟨φ', S, R, hS, fun E Q h => ?_⟩
  have fb : s.heap.get? s₁.heap.objs.size = none := S.back (fresh_size _)
  have fp' : s₁.heap.objs.size ∉ φ' := fresh_phi R (fresh_size _)
  have fB : g.B.get? s₁.heap.objs.size = none := fresh_base R (fresh_size _)
  have hlen : (rangeL a b c).length = (Builtin.Range.rangeSize a b c).toNat := by simp [rangeL, rangeN_eq]
  have W := Walks.range (prog := g.prog) (w := g.w) hh s₁.heap.objs.size a c (rangeL a b c).length
  refine wpAny_pyIter_range hr hsm (h _ [] [] [_] [] _ _ _ (Itr.walks W (fun b hb => .inl (by simpa using hb)) (.inr (.inr rfl)) ?_ ?_ ?_) ?_ (fun b o e => Heap.get?_push_of_some _ e) .nil (by simpa using fb) ?_ (by simpa using fB))
  · intro i h st
    exact ⟨_, _, st, rfl, rfl⟩
  · intro i h st b hb; cases hb
  · intro φ h i v x hv hp hx
    obtain ⟨t, rfl⟩ := hp
    have : x = .int (a + (i : Int) * c) := by
      simp only [rangeL, List.getElem?_map] at hx
      have hi : i < rangeN a b c := by
        have := (List.getElem?_eq_some_iff.mp (show (rangeL a b c)[i]? = some x by simpa [rangeL] using hx)).1
        simpa [rangeL] using this
      rw [List.getElem?_range hi] at hx
      simpa using hx.symm
    subst this
    exact .int _ _
  · show IsRangeIter _ _ _ _ _
    rw [hlen]
    have := rangeSize_nonneg a b c hc
    have e : (((Builtin.Range.rangeSize a b c).toNat : Int) - (0 : Nat)) = Builtin.Range.rangeSize a b c := by omega
    rw [e]
    have e2 : a + ((0 : Nat) : Int) * c = a := by simp
    rw [e2]
    exact Heap.get?_push_size _ rfl
  · intro b hb
    rcases hb with hb | hb
    · simp at hb; subst hb; exact fp'
    · cases hb
end
end Lar

set_option autoImplicit false
set_option maxRecDepth 100000
namespace Lar
open PySem PyProof.Rows PySem.Calls PySem.SeqAt

section
variable {prog : Program} {w : World} {A : Around} {E : Value → Shared → Prop} {s : Shared}

theorem nextOf_tuple_item {it t : Addr} {i : Nat} {items} {x : Value} {Q : Value → Shared → Prop} (hit : s.heap.IsTupleIter it t i)
    (ht : s.heap.IsTuple t items) (hx : items[i]? = some x)
    (hQ : ∀ h', h'.IsTupleIter it t (i + 1) → Heap.SameBut it s.heap h' → Q x { s with heap := h' }) :
    wpAny (model prog w) A (Builtin.SmallTypes.nextOf (.ref it)) Q E s := by
  obtain ⟨o, ho, hc, hd⟩ := id hit
  obtain ⟨ol, hol, _, nl, hdl⟩ := ht
  unfold Builtin.SmallTypes.nextOf
  refine wpAny_bind (wpAny_callSpecial?_slot (name := Str.ofString "__next__") hit.typeIs F.slot_tuple_iterator_next
    (wpAny_call_entry F.slot_tuple_iterator_next hit.typeIs F.entry_tuple_iterator_next ?_ (F.args_tuple_iterator_next_1 _)))
  show wpAny _ _ (field (.ref it) 0 >>= _) _ _ s
  refine wpAny_bind (wpAny_field ho hd (x := .ref t) rfl ?_)
  show wpAny _ _ (if (Value.ref t == Value.none) = true then _ else _) _ _ s
  rw [if_neg (show ¬ ((Value.ref t == Value.none) = true) from Bool.false_ne_true)]
  show wpAny _ _ (field (.ref it) 1 >>= _) _ _ s
  refine wpAny_bind (wpAny_field ho hd (x := .int i 0) rfl ?_)
  show wpAny _ _ (seqItems? (.ref t) >>= _) _ _ s
  refine wpAny_bind (wpAny_seqItems hol hdl ?_)
  simp only [Int.toNat_natCast, hx]
  refine wpAny_bind (wpAny_setField ho hd (by simp) (wpAny_pure ⟨x, rfl, wpAny_pure (hQ _ ?_ (Heap.SameBut.update ..))⟩))
  exact ⟨_, Heap.get?_update_self _ ho (Obj.isFreed_of_fields (Obj.data_mapFields hd _)), (Obj.cls_mapFields ..).trans hc, by
    rw [Obj.data_mapFields hd]; simp [rawInt]⟩

theorem nextOf_tuple_end {it t : Addr} {i : Nat} {items} {Q : Value → Shared → Prop} (hh : A.handled = none)
    (hit : s.heap.IsTupleIter it t i) (ht : s.heap.IsTuple t items) (hx : items[i]? = none)
    (hE : ∀ h' e, Heap.ExtBut it s.heap h' → (∃ o, h'.get? e = some o ∧ o.cls = .type "StopIteration") → E (.ref e) { s with heap := h' }) :
    wpAny (model prog w) A (Builtin.SmallTypes.nextOf (.ref it)) Q E s := by
  obtain ⟨o, ho, hc, hd⟩ := id hit
  obtain ⟨ol, hol, _, nl, hdl⟩ := ht
  unfold Builtin.SmallTypes.nextOf
  refine wpAny_bind (wpAny_callSpecial?_slot (name := Str.ofString "__next__") hit.typeIs F.slot_tuple_iterator_next
    (wpAny_call_entry F.slot_tuple_iterator_next hit.typeIs F.entry_tuple_iterator_next ?_ (F.args_tuple_iterator_next_1 _)))
  show wpAny _ _ (field (.ref it) 0 >>= _) _ _ s
  refine wpAny_bind (wpAny_field ho hd (x := .ref t) rfl ?_)
  show wpAny _ _ (if (Value.ref t == Value.none) = true then _ else _) _ _ s
  rw [if_neg (show ¬ ((Value.ref t == Value.none) = true) from Bool.false_ne_true)]
  show wpAny _ _ (field (.ref it) 1 >>= _) _ _ s
  refine wpAny_bind (wpAny_field ho hd (x := .int i 0) rfl ?_)
  show wpAny _ _ (seqItems? (.ref t) >>= _) _ _ s
  refine wpAny_bind (wpAny_seqItems hol hdl ?_)
  simp only [Int.toNat_natCast, hx]
  refine wpAny_bind (wpAny_rule (wpAny_bind (wpAny_setField ho hd (by simp) ?_)))
  show wpAny _ _ (newExc (.type "StopIteration") [] >>= _) _ _ _
  refine wpAny_bind ?_
  simp only [newExc, newTuple]
  refine wpAny_bind (wpAny_newObj_type ?_ (by size_fits))
  refine wpAny_bind (m := firstArgMember _ _) (wpAny_of_eq (a := Value.none) (by first | rfl | (simp only [firstArgMember]; rfl)) ?_)
  refine wpAny_newObj_type ?_ (by size_fits)
  simp only [raiseNew]
  refine wpAny_bind (wpAny_handled ?_)
  first | rw [show A.in1.handled = none from hh] | rw [hh]
  refine wpAny_bind (wpAny_pure (wpAny_throw ?_))
  exact hE _ _ (((Heap.SameBut.update ..).extBut.push _).push _) ⟨_, Heap.get?_push_size _ rfl, rfl⟩
end

theorem drawsTuple {prog : Program} {w : World} {A : Around} (hh : A.handled = none) (it l : Addr) (hne : l ≠ it) (items : Array Value) :
    Draws prog w A it [it, l] items.size (fun i v => items[i]? = some v) (fun i h => h.IsTupleIter it l i ∧ h.IsTuple l items) where
  live := fun _ _ st => let ⟨o, ho, _⟩ := st.1; ⟨o, ho⟩
  frame := fun _ _ _ st hk => ⟨st.1.at fun o e => hk it (by simp) o e, st.2.at fun o e => hk l (by simp) o e⟩
  item := fun i s Q E hi st hQ => by
    refine nextOf_tuple_item st.1 st.2 (x := items[i]) (by simp [hi]) fun h' hit' hs' => ?_
    exact hQ _ h' s.toks (by simp [hi]) ⟨hit', st.2.extBut hs'.extBut hne⟩ hs'
  done := fun s Q E st hE => nextOf_tuple_end hh st.1 st.2 (by simp) hE

end Lar

set_option autoImplicit false
set_option maxRecDepth 100000
namespace Lar
open PySem PyProof.Rows PySem.Calls PySem.SeqAt

section
variable {prog : Program} {w : World} {A : Around} {E : Value → Shared → Prop} {s : Shared}

end
end Lar

set_option autoImplicit false
set_option maxRecDepth 100000
namespace Lar
open PySem PyProof.Rows PySem.Calls PySem.SeqAt
open AutoSeq1 (wpAny_loadPart')

theorem fresh_ge {h : Heap} {b : Addr} (hb : h.objs.size ≤ b) : h.get? b = none := by
  cases e : h.get? b with
  | none => rfl
  | some o => exact absurd (Heap.lt_size e) (Nat.not_lt.mpr hb)

section
variable {g : G} {A : Around} {E : Value → Shared → Prop} {φ : List Addr} {σ : Sto} {s : Shared}

end
end Lar

set_option autoImplicit false
set_option maxRecDepth 100000
namespace Lar
open PySem PyProof.Rows PySem.Calls PySem.SeqAt

section
variable {g : G} {A : Around} {E : Value → Shared → Prop} {φ φ₁ : List Addr} {σ σ₁ σ' : Sto} {s s₁ : Shared} {env : Env} {nm : List (Str × Nat)} {ρ : Loc}

theorem EvP.after {v : V} {a : Value} {s₂ : Shared} (S : SE φ s.heap φ₁ s₁.heap) (T : Same s s₁) (h : EvP g φ₁ s₁ v σ' a s₂) : EvP g φ s v σ' a s₂ := by
  obtain ⟨φ', S', R', V', T'⟩ := h
  exact ⟨φ', S.trans S', R', V', T.trans T'⟩
theorem TsP.after {b c : Bool} {s₂ : Shared} (S : SE φ s.heap φ₁ s₁.heap) (T : Same s s₁) (h : TsP g φ₁ s₁ b σ' c s₂) : TsP g φ s b σ' c s₂ := by
  obtain ⟨e, φ', S', R', T'⟩ := h
  exact ⟨e, φ', S.trans S', R', T.trans T'⟩
theorem SrcP.after {xs : List V} {w : List (Nat × MObj)} {two : Bool} {a : Value} {s₂ : Shared} (S : SE φ s.heap φ₁ s₁.heap) (T : Same s s₁) (h : SrcP g A φ₁ s₁ xs w two σ' a s₂) : SrcP g A φ s xs w two σ' a s₂ := by
  obtain ⟨φ', S', R', T', h'⟩ := h
  exact ⟨φ', S.trans S', R', T.trans T', fun E Q k => h' E Q fun I ys vs wr kp St Mid h'' it h0 hk hv hw => k I ys vs wr kp St Mid h'' it h0 hk hv fun b hb => S.back (hw b hb)⟩

theorem SndE.bind {e : Expr} {m : Loc → Sto → Option (V × Sto)} (hA : SndE g A env nm e m) {x : V} (h : m ρ σ = some (x, σ₁)) (R : RepS g φ σ s.heap) (F : FrR g φ env nm ρ s.heap) {Q : Value → Shared → Prop}
    (k : ∀ a s₁ φ₁, SE φ s.heap φ₁ s₁.heap → Same s s₁ → RepS g φ₁ σ₁ s₁.heap → FrR g φ₁ env nm ρ s₁.heap → VR g φ₁ s₁.heap x a → Q a s₁) : wpAny (model g.prog g.w) A (eval e env) Q E s :=
  wpAny_mono (hA ρ σ x σ₁ h φ s R F E) (fun a s₁ ⟨φ₁, S, R₁, V₁, T⟩ => k a s₁ φ₁ S T R₁ (F.step R S) V₁) fun _ _ x => x
theorem SndT.bind {e : Expr} {m : Loc → Sto → Option (Bool × Sto)} (hA : SndT g A env nm e m) {x : Bool} (h : m ρ σ = some (x, σ₁)) (R : RepS g φ σ s.heap) (F : FrR g φ env nm ρ s.heap) {Q : Bool → Shared → Prop}
    (k : ∀ s₁ φ₁, SE φ s.heap φ₁ s₁.heap → Same s s₁ → RepS g φ₁ σ₁ s₁.heap → FrR g φ₁ env nm ρ s₁.heap → Q x s₁) : wpAny (model g.prog g.w) A (isTrue e env (eval e env)) Q E s :=
  wpAny_mono (hA ρ σ x σ₁ h φ s R F E) (fun a s₁ ⟨e, φ₁, S, R₁, T⟩ => by subst e; exact k s₁ φ₁ S T R₁ (F.step R S)) fun _ _ x => x

/-- one call on the abstract side, and one in the model -/
noncomputable def SndC (g : G) (A : Around) (fs : List Fn) (call : CallF) : Prop :=
  ∀ k as σ v σ', call k as σ = some (.ok v, σ') → ∀ fn, fs[k]? = some fn → ∀ φ s vals, RepS g φ σ s.heap → VRs g φ s.heap as vals → ∀ E, wpAny (model g.prog g.w) A (PySem.call (.ref fn.addr) vals) (EvP g φ s v σ') E s

noncomputable def SndI (g : G) (A : Around) (env : Env) (nm : List (Str × Nat)) (e : Expr) (two : Bool) (m : Loc → Sto → Option (List V × List (Nat × MObj) × Sto)) : Prop :=
  ∀ ρ σ xs w σ', m ρ σ = some (xs, w, σ') → ∀ φ s, RepS g φ σ s.heap → FrR g φ env nm ρ s.heap → ∀ E, wpAny (model g.prog g.w) A (eval e env) (SrcP g A φ s xs w two σ') E s

/-- a test that is no more than its value -/
theorem snd_plain {e : Expr} {c : CE} {call : CallF} (h : SndE g A env nm e (evalC call c)) (he : isTrue e env (eval e env) = (do let v ← eval e env; standAt e.pos; holding [v] (truthy v))) : SndT g A env nm e (testC call c) := by
  intro ρ σ b σ' ht φ s R F E
  refine isTrue_plain (h.bind (testC_some ht) R F fun a s₁ φ₁ S T R₁ F₁ V₁ => ?_) he
  obtain rfl := vB rfl V₁
  exact wpAny_truthy_bool ⟨rfl, φ₁, S, R₁, T⟩

theorem snd_const {v : V} {k : Const} {n : Nat} {pos : Pos} {call : CallF} (hk : cConst k = some v) : SndE g A env nm (.Constant k n pos) (evalC call (.cst v)) := by
  intro ρ σ v' σ' he φ s R F E
  obtain ⟨rfl, rfl⟩ := sm2 he
  cases k with
  | none => obtain rfl := sm hk; exact wpAny_Constant_none (EvP.here (tk := s.toks) R .none)
  | bool _ => obtain rfl := sm hk; exact wpAny_Constant_bool (EvP.here (tk := s.toks) R (.bool _))
  | int _ => obtain rfl := sm hk; exact wpAny_Constant_int (EvP.here R (.int _ _))
  | str _ => obtain rfl := sm hk; exact wpAny_Constant_str (EvP.here R (.str _ _))
  | _ => exact no hk

theorem snd_bin {l r : Expr} {op : Operator} {pos : Pos} {a b : CE} {call : CallF} (hl : SndE g A env nm l (evalC call a)) (hr : SndE g A env nm r (evalC call b)) : SndE g A env nm (.BinOp l op r pos) (evalC call (.bin op a b)) := by
  intro ρ σ v σ' he φ s R F E
  obtain ⟨x, σ₁, h1, he⟩ := bnd_some he
  obtain ⟨y, σ₂, h2, he⟩ := bnd_some he
  refine wpAny_BinOp (hl.bind h1 R F fun a s₁ φ₁ S T R₁ F₁ V₁ => hr.bind h2 R₁ F₁ fun b s₂ φ₂ S' T' R₂ F₂ V₂ => ?_)
  exact wpAny_mono (bin_snd he R₂ (V₁.step R₁ S') V₂) (fun _ _ x => (EvP.after (S.trans S') (T.trans T') x)) fun _ _ x => x

theorem aok_units {d : Nat} (hA : AOk A d) : A.units + 8 < cLine := by
  have := hA.units
  have : cLine = 9960 ∨ 9009 ≤ cLine := by decide
  rcases this with h | h <;> omega

theorem snd_cmp {d : Nat} (hA : AOk A d) {l r : Expr} {op : CmpOp} {pos : Pos} {a b : CE} {call : CallF} (hm : behindInMarks op r = false) (hl : SndE g A env nm l (evalC call a)) (hr : SndE g A env nm r (evalC call b)) :
    SndE g A env nm (.Compare l [op] [r] pos) (evalC call (.cmp op a b)) ∧ SndT g A env nm (.Compare l [op] [r] pos) (testC call (.cmp op a b)) := by
  constructor
  · intro ρ σ v σ' he φ s R F E
    obtain ⟨x, σ₁, h1, he⟩ := bnd_some he
    obtain ⟨y, σ₂, h2, he⟩ := bnd_some he
    obtain ⟨c, hc, he⟩ := ob he
    obtain ⟨rfl, rfl⟩ := sm2 he
    refine wpAny_Compare1 (hl.bind h1 R F fun a s₁ φ₁ S T R₁ F₁ V₁ => hr.bind h2 R₁ F₁ fun b s₂ φ₂ S' T' R₂ F₂ V₂ => ?_) hm
    exact cmp_snd hc (aok_units hA) R₂ (V₁.step R₁ S') V₂ ⟨φ₂, S.trans S', R₂, .bool _, T.trans T'⟩
  · intro ρ σ v σ' he φ s R F E
    obtain ⟨x, σ₁, h1, he⟩ := bnd_some (testC_some he)
    obtain ⟨y, σ₂, h2, he⟩ := bnd_some he
    obtain ⟨c, hc, he⟩ := ob he
    obtain ⟨e1, rfl⟩ := sm2 he
    obtain rfl := V.bool.inj e1
    refine wpAny_isTrue_Compare1 (hl.bind h1 R F fun a s₁ φ₁ S T R₁ F₁ V₁ => hr.bind h2 R₁ F₁ fun b s₂ φ₂ S' T' R₂ F₂ V₂ => ?_) hm
    exact cmp_snd hc (aok_units hA) R₂ (V₁.step R₁ S') V₂ (wpAny_truthy_bool ⟨rfl, φ₂, S.trans S', R₂, T.trans T'⟩)

theorem snd_not {x : Expr} {pos : Pos} {a : CE} {call : CallF} (hx : SndE g A env nm x (evalC call a)) (hx' : SndT g A env nm x (testC call a)) :
    SndE g A env nm (.UnaryOp .Not x pos) (evalC call (.not a)) ∧ SndT g A env nm (.UnaryOp .Not x pos) (testC call (.not a)) := by
  constructor
  · intro ρ σ v σ' he φ s R F E
    obtain ⟨b, σ₁, h1, he⟩ := bndB_some he
    obtain ⟨rfl, rfl⟩ := sm2 he
    refine UnaryOp_ (hx.bind h1 R F fun a s₁ φ₁ S T R₁ F₁ V₁ => ?_)
    obtain rfl := vB rfl V₁
    exact not_of (wpAny_truthy_bool ⟨φ₁, S, R₁, .bool _, T⟩)
  · intro ρ σ v σ' he φ s R F E
    obtain ⟨b, σ₁, h1, he⟩ := bndB_some (testC_some he)
    obtain ⟨e1, rfl⟩ := sm2 he
    obtain rfl := V.bool.inj e1
    exact isTrue_not (hx'.bind (testC_of h1) R F fun s₁ φ₁ S T R₁ F₁ => ⟨rfl, φ₁, S, R₁, T⟩)

theorem snd_neg {x : Expr} {pos : Pos} {a : CE} {call : CallF} (hx : SndE g A env nm x (evalC call a)) : SndE g A env nm (.UnaryOp .USub x pos) (evalC call (.neg a)) := by
  intro ρ σ v σ' he φ s R F E
  obtain ⟨i, σ₁, h1, he⟩ := bndI_some he
  obtain ⟨rfl, rfl⟩ := sm2 he
  refine UnaryOp_ (hx.bind h1 R F fun a s₁ φ₁ S T R₁ F₁ V₁ => ?_)
  obtain ⟨t, rfl⟩ := vI rfl V₁
  exact PyProof.Rows.neg_int (EvP.after S T (EvP.here R₁ (.int _ _)))

theorem snd_ite {t x y : Expr} {pos : Pos} {a b c : CE} {call : CallF} (ht : SndT g A env nm t (testC call a)) (hx : SndE g A env nm x (evalC call b)) (hx' : SndT g A env nm x (testC call b)) (hy : SndE g A env nm y (evalC call c)) (hy' : SndT g A env nm y (testC call c)) :
    SndE g A env nm (.IfExp t x y pos) (evalC call (.ite a b c)) ∧ SndT g A env nm (.IfExp t x y pos) (testC call (.ite a b c)) := by
  constructor
  · intro ρ σ v σ' he φ s R F E
    obtain ⟨p, σ₁, h1, he⟩ := bndB_some he
    cases p with
    | true => exact IfExp_ (ht.bind (testC_of h1) R F fun s₁ φ₁ S T R₁ F₁ => hx.bind he R₁ F₁ fun b s₂ φ₂ S' T' R₂ F₂ V₂ => ⟨φ₂, S.trans S', R₂, V₂, T.trans T'⟩)
    | false => exact IfExp_ (ht.bind (testC_of h1) R F fun s₁ φ₁ S T R₁ F₁ => hy.bind he R₁ F₁ fun b s₂ φ₂ S' T' R₂ F₂ V₂ => ⟨φ₂, S.trans S', R₂, V₂, T.trans T'⟩)
  · intro ρ σ v σ' he φ s R F E
    obtain ⟨p, σ₁, h1, he⟩ := bndB_some (testC_some he)
    cases p with
    | true => exact isTrue_IfExp (ht.bind (testC_of h1) R F fun s₁ φ₁ S T R₁ F₁ => hx'.bind (testC_of he) R₁ F₁ fun s₂ φ₂ S' T' R₂ F₂ => ⟨rfl, φ₂, S.trans S', R₂, T.trans T'⟩)
    | false => exact isTrue_IfExp (ht.bind (testC_of h1) R F fun s₁ φ₁ S T R₁ F₁ => hy'.bind (testC_of he) R₁ F₁ fun s₂ φ₂ S' T' R₂ F₂ => ⟨rfl, φ₂, S.trans S', R₂, T.trans T'⟩)

theorem snd_boolE {f : Expr → Option CE} {call : CallF} (ih : ∀ e c, f e = some c → SndE g A env nm e (evalC call c)) (op : BoolOp) (pos : Pos) : ∀ (vs : List Expr) (c : CE), cBool f op vs = some c → SndE g A env nm (.BoolOp op vs pos) (evalC call c)
  | [], _, h => no h
  | [e], c, h => fun ρ σ v σ' he φ s R F E => BoolOp_one (ih e c h ρ σ v σ' he φ s R F E)
  | e :: e' :: r, c, h => by
    obtain ⟨a, ha, h⟩ := ob h
    obtain ⟨b, hb, h⟩ := ob h
    obtain rfl := sm h
    have h1 := ih e a ha
    have h2 := snd_boolE ih op pos (e' :: r) b hb
    intro ρ σ v σ' he φ s R F E
    cases op with
    | And =>
      obtain ⟨p, σ₁, hx, he⟩ := bndB_some he
      refine BoolOp_and (h1.bind hx R F fun a s₁ φ₁ S T R₁ F₁ V₁ => ?_)
      obtain rfl := vB rfl V₁
      cases p with
      | true => exact wpAny_truthy_bool (h2.bind he R₁ F₁ fun b s₂ φ₂ S' T' R₂ F₂ V₂ => ⟨φ₂, S.trans S', R₂, V₂, T.trans T'⟩)
      | false =>
        obtain ⟨rfl, rfl⟩ := sm2 he
        exact wpAny_truthy_bool ⟨φ₁, S, R₁, .bool _, T⟩
    | Or =>
      obtain ⟨p, σ₁, hx, he⟩ := bndB_some he
      refine BoolOp_or (h1.bind hx R F fun a s₁ φ₁ S T R₁ F₁ V₁ => ?_)
      obtain rfl := vB rfl V₁
      cases p with
      | false => exact wpAny_truthy_bool (h2.bind he R₁ F₁ fun b s₂ φ₂ S' T' R₂ F₂ V₂ => ⟨φ₂, S.trans S', R₂, V₂, T.trans T'⟩)
      | true =>
        obtain ⟨rfl, rfl⟩ := sm2 he
        exact wpAny_truthy_bool ⟨φ₁, S, R₁, .bool _, T⟩

theorem snd_boolT {f : Expr → Option CE} {call : CallF} (ih : ∀ e c, f e = some c → SndT g A env nm e (testC call c)) (op : BoolOp) (pos : Pos) (wh : Sem Value) : ∀ (vs : List Expr) (c : CE), cBool f op vs = some c →
    ∀ ρ σ b σ', testC call c ρ σ = some (b, σ') → ∀ φ s, RepS g φ σ s.heap → FrR g φ env nm ρ s.heap → ∀ E, wpAny (model g.prog g.w) A (isTrue (.BoolOp op vs pos) env wh) (TsP g φ s b σ') E s
  | [], _, h => no h
  | [e], c, h => fun ρ σ v σ' he φ s R F E => by
    cases op with
    | And =>
      refine isTrue_and ((ih e c h).bind he R F fun s₁ φ₁ S T R₁ F₁ => ?_)
      cases v
      · exact ⟨rfl, φ₁, S, R₁, T⟩
      · exact isTrue_and_nil ⟨rfl, φ₁, S, R₁, T⟩
    | Or =>
      refine isTrue_or ((ih e c h).bind he R F fun s₁ φ₁ S T R₁ F₁ => ?_)
      cases v
      · exact isTrue_or_nil ⟨rfl, φ₁, S, R₁, T⟩
      · exact ⟨rfl, φ₁, S, R₁, T⟩
  | e :: e' :: r, c, h => by
    obtain ⟨a, ha, h⟩ := ob h
    obtain ⟨b, hb, h⟩ := ob h
    obtain rfl := sm h
    have h1 := ih e a ha
    have h2 := snd_boolT ih op pos wh (e' :: r) b hb
    intro ρ σ v σ' he φ s R F E
    cases op with
    | And =>
      obtain ⟨p, σ₁, hx, he⟩ := bndB_some (testC_some he)
      refine isTrue_and (h1.bind (testC_of hx) R F fun s₁ φ₁ S T R₁ F₁ => ?_)
      cases p with
      | true => exact wpAny_mono (h2 ρ σ₁ v σ' (testC_of he) φ₁ s₁ R₁ F₁ E) (fun _ _ x => TsP.after S T x) fun _ _ x => x
      | false =>
        obtain ⟨e1, rfl⟩ := sm2 he
        obtain rfl := V.bool.inj e1
        exact ⟨rfl, φ₁, S, R₁, T⟩
    | Or =>
      obtain ⟨p, σ₁, hx, he⟩ := bndB_some (testC_some he)
      refine isTrue_or (h1.bind (testC_of hx) R F fun s₁ φ₁ S T R₁ F₁ => ?_)
      cases p with
      | false => exact wpAny_mono (h2 ρ σ₁ v σ' (testC_of he) φ₁ s₁ R₁ F₁ E) (fun _ _ x => TsP.after S T x) fun _ _ x => x
      | true =>
        obtain ⟨e1, rfl⟩ := sm2 he
        obtain rfl := V.bool.inj e1
        exact ⟨rfl, φ₁, S, R₁, T⟩

theorem star_plain {f : Expr → Option CE} (hs : ∀ e p, f (.Starred e p) = none) {e : Expr} {c : CE} (h : f e = some c) (rest : List Expr) : starEach (e :: rest) env = (false, eval e env) :: starEach rest env := by
  cases e with
  | Starred e p => rw [hs] at h; cases h
  | _ => rfl
theorem star_any {f : Expr → Option CE} (hs : ∀ e p, f (.Starred e p) = none) (pos : Pos) : ∀ {es : List Expr} {cs : CEs}, cList f es = some cs → (backTo pos (starEach es env)).any (·.1) = false
  | [], _, _ => rfl
  | e :: r, cs, h => by
    obtain ⟨c, h1, h⟩ := ob h
    obtain ⟨cs', h2, h⟩ := ob h
    rw [star_plain hs h1]
    have := star_any hs pos h2 (es := r)
    simpa [backTo] using this

theorem snd_args {f : Expr → Option CE} {call : CallF} (hs : ∀ e p, f (.Starred e p) = none) (ih : ∀ e c, f e = some c → SndE g A env nm e (evalC call c)) (pos : Pos) : ∀ {es : List Expr} {cs : CEs}, cList f es = some cs →
    ∀ ⦃ρ σ vs σ'⦄, evalCs call cs ρ σ = some (vs, σ') → ∀ ⦃φ s⦄, RepS g φ σ s.heap → FrR g φ env nm ρ s.heap → ∀ E, wpAny (model g.prog g.w) A (spliced (backTo pos (starEach es env))) (EvPs g φ s vs σ') E s
  | [], cs, h => by
    intro ρ σ vs σ' he φ s R F E
    obtain rfl := sm h
    obtain ⟨rfl, rfl⟩ := sm2 he
    exact args_nil ⟨φ, SE.refl _ _, R, .nil, Same.refl _⟩
  | e :: r, cs, h => by
    obtain ⟨c, h1, h⟩ := ob h
    obtain ⟨cs', h2, h⟩ := ob h
    obtain rfl := sm h
    intro ρ σ vs σ' he φ s R F E
    obtain ⟨x, σ₁, hx, he⟩ := bnd_some he
    obtain ⟨xs, σ₂, hxs, he⟩ := bnd_some he
    obtain ⟨rfl, rfl⟩ := sm2 he
    refine args_cons ((ih e c h1).bind hx R F fun a s₁ φ₁ S T R₁ F₁ V₁ => wpAny_mono (snd_args hs ih pos h2 hxs R₁ F₁ E) (fun vs s₂ ⟨φ₂, S', R₂, V₂, T'⟩ => ?_) fun _ _ x => x) (star_plain hs h1 r)
    exact ⟨φ₂, S.trans S', R₂, .cons (V₁.step R₁ S') V₂, T.trans T'⟩

theorem snd_list {f : Expr → Option CE} {call : CallF} (hs : ∀ e p, f (.Starred e p) = none) (ih : ∀ e c, f e = some c → SndE g A env nm e (evalC call c)) {pos : Pos} {es : List Expr} {cs : CEs} (h : cList f es = some cs) : SndE g A env nm (.List es pos) (evalC call (.list cs)) := by
  intro ρ σ v σ' he φ s R F E
  obtain ⟨vs, σ₁, h1, he⟩ := bnd_some he
  obtain ⟨hz, rfl, rfl⟩ := new_some he
  refine wpAny_List_spliced (wpAny_mono (snd_args hs ih pos h h1 R F E) (fun as s₁ ⟨φ₁, S, R₁, V₁, T⟩ => ⟨by rw [← V₁.length]; exact hz, ?_⟩) fun _ _ x => x)
  exact EvP.after S T (EvP.newL (tk := s₁.toks) R₁ (Nat.le_succ_of_le hz) V₁ (fun b o e => Heap.get?_push_of_some _ e) (fresh_size _) ⟨_, Heap.get?_push_size _ rfl⟩)
theorem snd_tuple {f : Expr → Option CE} {call : CallF} (hs : ∀ e p, f (.Starred e p) = none) (ih : ∀ e c, f e = some c → SndE g A env nm e (evalC call c)) {pos : Pos} {k : Nat} {es : List Expr} {cs : CEs} (h : cList f es = some cs) : SndE g A env nm (.Tuple es k pos) (evalC call (.tuple cs)) := by
  intro ρ σ v σ' he φ s R F E
  obtain ⟨vs, σ₁, h1, he⟩ := bnd_some he
  obtain ⟨hz, rfl, rfl⟩ := newT_some he
  refine wpAny_Tuple_spliced (wpAny_mono (snd_args hs ih pos h h1 R F E) (fun as s₁ ⟨φ₁, S, R₁, V₁, T⟩ => ⟨by rw [← V₁.length]; exact hz, ?_⟩) fun _ _ x => x)
  exact EvP.after S T (EvP.newT (tk := s₁.toks) R₁ (Nat.le_succ_of_le hz) V₁ (fun b o e => Heap.get?_push_of_some _ e) (fresh_size _) (isTuple_push _ _))

theorem snd_dict0 {pos : Pos} {call : CallF} : SndE g A env nm (.Dict [] [] pos) (evalC call .dict0) := by
  intro ρ σ v σ' he φ s R F E
  obtain ⟨rfl, rfl⟩ := sm2 he
  refine wpAny_Dict_empty ?_
  have hk : ∀ b o, s.heap.get? b = some o → (s.heap.push { cls := .type "dict", data := .dict #[] }).get? b = some o := fun b o e => Heap.get?_push_of_some _ e
  have R' : RepS g φ σ (s.heap.push { cls := .type "dict", data := .dict #[] }) := R.keeps hk
  have hDφ := fresh_phi R (fresh_size _)
  have hDB := fresh_base R (fresh_size _)
  have S : SE φ s.heap φ (s.heap.push { cls := .type "dict", data := .dict #[] }) := SE.keeps φ hk
  have hd : (s.heap.push { cls := .type "dict", data := .dict #[] }).DictOf (strKind g.prog g.w) s.heap.objs.size [] := Heap.DictOf.new ..
  refine ⟨φ ++ [s.heap.objs.size], ⟨S.pres, S.dom, [_], rfl, fun a ha => ?_⟩, R'.more hDφ hDB (.ds hd rfl .nil) (fun o e => ?_), .ref ?_, Same.refl _⟩
  · simp at ha; subst ha; exact fresh_size _
  · rw [Heap.get?_push_size _ rfl] at e; cases e; exact dict_ne_tuple
  · rw [← R.len]; simp
end
end Lar

set_option autoImplicit false
set_option maxRecDepth 100000
namespace Lar
open PySem PyProof.Rows PySem.Calls PySem.SeqAt

section
variable {g : G} {cx : CCtx} {fs : List Fn} {mg mb : Str → Option Value} {A : Around} {E : Value → Shared → Prop} {φ φ₁ : List Addr} {σ σ₁ σ' : Sto} {s s₁ : Shared} {env : Env} {nm : List (Str × Nat)} {ρ : Loc}

theorem snd_idx {v i : Expr} {pos : Pos} {a b : CE} {call : CallF} (hns : ∀ l u st p, i ≠ .Slice l u st p) (hv : SndE g A env nm v (evalC call a)) (hi : SndE g A env nm i (evalC call b)) : SndE g A env nm (.Subscript v i pos) (evalC call (.idx a b)) := by
  intro ρ σ r σ' he φ s R F E
  obtain ⟨x, σ₁, h1, he⟩ := bnd_some he
  obtain ⟨y, σ₂, h2, he⟩ := bnd_some he
  obtain ⟨c, hc, he⟩ := ob he
  obtain ⟨rfl, rfl⟩ := sm2 he
  refine Subscript_ (hv.bind h1 R F fun a s₁ φ₁ S T R₁ F₁ V₁ => hi.bind h2 R₁ F₁ fun b s₂ φ₂ S' T' R₂ F₂ V₂ => ?_)
  obtain ⟨⟨T, id, hT, hl⟩, hg⟩ := idx_snd (A := A) (E := E) hc R₂ (V₁.step R₁ S') V₂
  refine tail_any (ops := [a, b]) hT hl (wpAny_mono hg (fun _ _ x => EvP.after (S.trans S') (Same.trans ‹_› T') x) fun _ _ x => x) ?_
  cases i with
  | Slice l u st p => exact absurd rfl (hns l u st p)
  | _ => rfl

theorem spart_lo {h : Heap} {v : V} {a : Value} {i : Nat} (hv : VR g φ h v a) (hl : loOf v = some i) : SPart a v := by
  cases hv with
  | none => exact .none
  | int k t => exact .int k t
  | _ => exact no hl
theorem spart_hi {h : Heap} {v : V} {a : Value} {n i : Nat} (hv : VR g φ h v a) (hl : hiOf n v = some i) : SPart a v := by
  cases hv with
  | none => exact .none
  | int k t => exact .int k t
  | _ => exact no hl

theorem SndE.part {f : Expr → Option CE} {call : CallF} (ih : ∀ e c, f e = some c → SndE g A env nm e (evalC call c)) {o : Option Expr} {c : CE} (hc : cOpt f o = some c) {x : V} (h : evalC call c ρ σ = some (x, σ₁)) (R : RepS g φ σ s.heap) (F : FrR g φ env nm ρ s.heap) {Q : Value → Shared → Prop}
    (k : ∀ a s₁ φ₁, SE φ s.heap φ₁ s₁.heap → Same s s₁ → RepS g φ₁ σ₁ s₁.heap → FrR g φ₁ env nm ρ s₁.heap → VR g φ₁ s₁.heap x a → Q a s₁) : wpAny (model g.prog g.w) A (evalPart o env) Q E s := by
  cases o with
  | none =>
    obtain rfl := sm hc
    obtain ⟨rfl, rfl⟩ := sm2 h
    exact evalPart_none_step (k .none s φ (SE.refl _ _) (Same.refl _) R F .none)
  | some e => exact evalPart_some_step ((ih e c hc).bind h R F k)

theorem snd_slc {f : Expr → Option CE} {v : Expr} {lo hi : Option Expr} {p pos : Pos} {a b c : CE} {call : CallF} (ih : ∀ e c, f e = some c → SndE g A env nm e (evalC call c)) (hv : SndE g A env nm v (evalC call a)) (hl : cOpt f lo = some b) (hu : cOpt f hi = some c) :
    SndE g A env nm (.Subscript v (.Slice lo hi none p) pos) (evalC call (.slc a b c)) := by
  intro ρ σ r σ' he φ s R F E
  obtain ⟨x, σ₁, h1, he⟩ := bnd_some he
  obtain ⟨y, σ₂, h2, he⟩ := bnd_some he
  obtain ⟨z, σ₃, h3, he⟩ := bnd_some he
  refine Subscript_ (hv.bind h1 R F fun a s₁ φ₁ S T R₁ F₁ V₁ => wpAny_Slice (SndE.part ih hl h2 R₁ F₁ fun b s₂ φ₂ S₂ T₂ R₂ F₂ V₂ => SndE.part ih hu h3 R₂ F₂ fun c s₃ φ₃ S₃ T₃ R₃ F₃ V₃ => evalPart_none_step ?_))
  have hk : ∀ b' o, s₃.heap.get? b' = some o → (s₃.heap.push { cls := .type "slice", data := .fields #[b, c, .none] }).get? b' = some o := fun b o e => Heap.get?_push_of_some _ e
  have S₄ : SE φ₃ s₃.heap φ₃ (s₃.heap.push { cls := .type "slice", data := .fields #[b, c, .none] }) := SE.keeps _ hk
  have R₄ := R₃.keeps hk
  have V₁' := ((V₁.step R₁ S₂).step R₂ S₃).step R₃ S₄
  have V₂' := (V₂.step R₂ S₃).step R₃ S₄
  have V₃' := V₃.step R₃ S₄
  have hs := Heap.IsSliceOf.new s₃.heap b c .none
  have fin : ∀ {r σ' a' s'}, EvP g φ₃ { s₃ with heap := s₃.heap.push { cls := .type "slice", data := .fields #[b, c, .none] } } r σ' a' s' → EvP g φ s r σ' a' s' := fun x =>
    EvP.after (s₁ := { s₃ with heap := s₃.heap.push { cls := .type "slice", data := .fields #[b, c, .none] } }) (S.trans (S₂.trans (S₃.trans S₄))) (T.trans (T₂.trans T₃)) x
  cases V₁' with
  | tup ht hz hv' hn =>
    · obtain ⟨i, hi, he⟩ := ob he
      obtain ⟨j, hj, he⟩ := ob he
      obtain ⟨hz', rfl, rfl⟩ := newT_some he
      exact tail_any (ops := [.ref s₃.heap.objs.size, .ref _]) ht.typeIs slot_tuple_getitem.lookup (wpAny_mono (tup_slice R₄ ht hz hv' hn hs (spart_lo V₂' hi) (spart_hi V₃' hj) hi hj hz') (fun _ _ x => fin x) fun _ _ x => x) rfl
  | str x t =>
    · obtain ⟨i, hi, he⟩ := ob he
      obtain ⟨j, hj, he⟩ := ob he
      obtain ⟨hz', rfl, rfl⟩ := newS_some he
      exact tail_any (ops := [.ref s₃.heap.objs.size, .str x t]) (typeIs_str _ _ _) PySem.F.slot_str_getitem.lookup (wpAny_mono (str_slice R₄ hs (spart_lo V₂' hi) (spart_hi V₃' hj) hi hj hz') (fun _ _ x => fin x) fun _ _ x => x) rfl
  | _ => exact no he

theorem isGlob_of {x : Str} (h : isGlob env.scope x = true) : env.kindOf x = some .globalImplicit ∧ (x == ("__debug__" : Str)) = false := by
  simp only [isGlob, Bool.and_eq_true, beq_iff_eq, Bool.not_eq_true'] at h
  exact ⟨h.1, h.2⟩

theorem findIdx_get {α : Type} {p : α → Bool} : ∀ {l : List α} {k : Nat}, l.findIdx? p = some k → ∃ x, l[k]? = some x ∧ p x = true
  | [], _, h => by simp at h
  | a :: l, k, h => by
    rw [List.findIdx?_cons] at h
    split at h
    · rename_i hp
      cases h
      exact ⟨a, rfl, hp⟩
    · simp only [Option.map_eq_some_iff] at h
      obtain ⟨j, hj, rfl⟩ := h
      obtain ⟨x, h1, h2⟩ := findIdx_get hj
      exact ⟨x, by simpa using h1, h2⟩

theorem fun_at (G : GOk g cx fs mg mb) {f : Str} {k : Nat} (h : funIdx cx f = some k) : ∃ fn, fs[k]? = some fn ∧ fn.name = f := by
  obtain ⟨x, h1, h2⟩ := findIdx_get h
  rw [← G.names] at h1
  simp only [List.getElem?_map, Option.map_eq_some_iff] at h1
  obtain ⟨fn, h3, rfl⟩ := h1
  exact ⟨fn, h3, by simpa using h2⟩

theorem snd_call {call : CallF} (G : GOk g cx fs mg mb) (hC : SndC g A fs call) {F' : Expr → Option CE} (hs : ∀ e p, F' (.Starred e p) = none) (ih : ∀ e c, F' e = some c → SndE g A env nm e (evalC call c)) {f : Str} {k : Nat} {p pos : Pos} {as : List Expr} {cs : CEs}
    (hg : isGlob env.scope f = true) (hk : funIdx cx f = some k) (hne : as.isEmpty = false) (h : cList F' as = some cs) : SndE g A env nm (.Call (.Name f p) as [] pos) (evalC call (.call k cs)) := by
  intro ρ σ v σ' he φ s R F E
  obtain ⟨vs, σ₁, h1, he⟩ := bnd_some he
  obtain ⟨r, σ₂, h2, he⟩ := bnd_some he
  obtain ⟨u, hu, he⟩ := ob he
  obtain ⟨rfl, rfl⟩ := sm2 he
  have hr : r = .ok u := by
    cases r with
    | ok w => exact congrArg Res.ok (sm hu)
    | exc _ _ => exact no hu
  subst hr
  obtain ⟨fn, hfn, rfl⟩ := fun_at G hk
  obtain ⟨hm, o, pm, cd, doc, ho, hd, hcd⟩ := G.made fn (List.mem_of_getElem? hfn)
  obtain ⟨hg1, hg2⟩ := isGlob_of hg
  cases as with
  | nil => cases hne
  | cons e rest =>
    obtain ⟨c, hc, _⟩ := ob (k := fun c => (cList F' rest).bind fun cs => some (CEs.cons c cs)) h
    refine Call_Name rfl (glob_name G F R hg1 hg2 hm (callWith_def (o := o) hd (wpAny_mono (snd_args hs ih pos h h1 R F E) (fun vals s₁ ⟨φ₁, S, R₁, V₁, T⟩ => ⟨R₁.base _ _ ho, ?_⟩) fun _ _ x => x) (star_plain hs hc rest)))
    exact wpAny_mono (hC k vs σ₁ u σ₂ h2 fn hfn φ₁ s₁ vals R₁ V₁ E) (fun _ _ x => EvP.after S T x) fun _ _ x => x

/-- the callee of a primitive -/
noncomputable def primHead : Prim → Value
  | .len => .builtin "len" | .sum => .builtin "sum" | .min2 => .builtin "min" | .max2 => .builtin "max" | .min1 => .builtin "min" | .max1 => .builtin "max"
  | .tuple => .type "tuple" | .list => .type "list" | .str => .type "str" | .int => .type "int" | .sorted => .builtin "sorted" | _ => .none

noncomputable def primOk : Prim → Bool
  | .len | .sum | .min2 | .max2 | .min1 | .max1 | .tuple | .list | .str | .int | .sorted => true
  | _ => false
theorem primTab_ok : ∀ q ∈ primTab, 1 ≤ q.2.1 ∧ q.1 ∈ primNames ∧ bootBuiltins q.1 = some (primHead q.2.2) ∧ primOk q.2.2 = true := by decide +kernel
theorem primOk_call {p : Prim} (h : primOk p = true) : (∀ as, primCall p as = PySem.call (primHead p) as) ∧ ((∃ id, primHead p = .builtin id) ∨ ∃ T, primHead p = .type T) := by
  cases p <;> first | exact ⟨fun _ => rfl, .inl ⟨_, rfl⟩⟩ | exact ⟨fun _ => rfl, .inr ⟨_, rfl⟩⟩ | exact nomatch h
theorem cPrim_of {f : Str} {n : Nat} {p : Prim} (h : cPrim f n = some p) : 1 ≤ n ∧ f ∈ primNames ∧ bootBuiltins f = some (primHead p) ∧ (∀ as, primCall p as = PySem.call (primHead p) as) ∧ ((∃ id, primHead p = .builtin id) ∨ ∃ T, primHead p = .type T) := by
  obtain ⟨h1, h2, h3, h4⟩ := primTab_ok _ (tabAt_some h)
  exact ⟨h1, h2, h3, primOk_call h4⟩

theorem callWith_head {v : Value} {pos : Pos} {e : Expr} {rest : List Expr} {Q : Value → Shared → Prop} (hv : (∃ id, v = .builtin id) ∨ ∃ T, v = .type T)
    (h : wpAny (model g.prog g.w) A (spliced (backTo pos (starEach (e :: rest) env))) (fun vs s₁ => wpAny (model g.prog g.w) A (PySem.call v vs) Q E s₁) E s)
    (he : starEach (e :: rest) env = (false, eval e env) :: starEach rest env) (hplain : (backTo pos (starEach rest env)).any (·.1) = false) :
    wpAny (model g.prog g.w) A (callWith pos v [] (backTo pos (starEach (e :: rest) env)) []) Q E s := by
  rcases hv with ⟨id, rfl⟩ | ⟨T, rfl⟩
  · exact callWith_builtin1 h he hplain
  · exact callWith_type1 h he hplain

theorem snd_prim {call : CallF} {d : Nat} (hA : AOk A d) (G : GOk g cx fs mg mb) {F' : Expr → Option CE} (hs : ∀ e p, F' (.Starred e p) = none) (ih : ∀ e c, F' e = some c → SndE g A env nm e (evalC call c)) {f : Str} {p' pos : Pos} {p : Prim} {as : List Expr} {cs : CEs}
    (hg : isGlob env.scope f = true) (hp : cPrim f as.length = some p) (h : cList F' as = some cs) : SndE g A env nm (.Call (.Name f p') as [] pos) (evalC call (.prim p cs)) := by
  intro ρ σ v σ' he φ s R F E
  obtain ⟨vs, σ₁, h1, he⟩ := bnd_some he
  obtain ⟨hn, hm, hb, hc, hh⟩ := cPrim_of hp
  obtain ⟨hg1, hg2⟩ := isGlob_of hg
  cases as with
  | nil => cases hn
  | cons e rest =>
    obtain ⟨c, hc', h'⟩ := ob (k := fun c => (cList F' rest).bind fun cs => some (CEs.cons c cs)) h
    obtain ⟨cs', hr, _⟩ := ob h'
    refine Call_Name rfl (blt_name G F R hg1 hg2 hm hb (callWith_head hh (wpAny_mono (snd_args hs ih pos h h1 R F E) (fun vals s₁ ⟨φ₁, S, R₁, V₁, T⟩ => ?_) fun _ _ x => x) (star_plain hs hc' rest) (star_any hs pos hr)))
    rw [← hc]
    exact wpAny_mono (prim_snd he hA.handled G.sys R₁ V₁) (fun _ _ x => EvP.after S T x) fun _ _ x => x

noncomputable def isiTy : Prim → String
  | .isInt => "int" | .isBool => "bool" | .isTuple => "tuple" | .isStr => "str" | .isList => "list" | _ => ""
theorem isiTab_ok : ∀ q ∈ isiTab, q.1 ∈ primNames ∧ bootBuiltins q.1 = some (.type (isiTy q.2.2)) ∧ isiTy q.2.2 ≠ "" := by decide +kernel
theorem cIsi_of {t : Str} {p : Prim} (h : cIsi t = some p) : ∃ T, t ∈ primNames ∧ bootBuiltins t = some (.type T) ∧ ∀ a, primCall p [a] = PySem.call (.builtin "isinstance") [a, .type T] := by
  obtain ⟨h1, h2, h3⟩ := isiTab_ok _ (tabAt_some h)
  refine ⟨_, h1, h2, fun a => ?_⟩
  cases p <;> first | rfl | exact absurd rfl h3

theorem snd_isi {call : CallF} {d : Nat} (hA : AOk A d) (G : GOk g cx fs mg mb) {x : Expr} {t : Str} {p' p'' pos : Pos} {p : Prim} {a : CE} (hns : ∀ e q, x ≠ .Starred e q) (hx : SndE g A env nm x (evalC call a)) (hg : isGlob env.scope ("isinstance" : Str) = true) (hg' : isGlob env.scope t = true)
    (hp : cIsi t = some p) : SndE g A env nm (.Call (.Name ("isinstance" : Str) p') [x, .Name t p''] [] pos) (evalC call (.prim p (.cons a .nil))) := by
  intro ρ σ v σ' he φ s R F E
  obtain ⟨vs, σ₁, h1, he⟩ := bnd_some he
  obtain ⟨y, σ₂, h2, h1⟩ := bnd_some h1
  obtain ⟨rfl, rfl⟩ := sm2 h1
  obtain ⟨T, hm, hb, hc⟩ := cIsi_of hp
  obtain ⟨hg1, hg2⟩ := isGlob_of hg
  obtain ⟨hg3, hg4⟩ := isGlob_of hg'
  have hst : starEach [x, .Name t p''] env = (false, eval x env) :: starEach [.Name t p''] env := by
    cases x with
    | Starred e q => exact absurd rfl (hns e q)
    | _ => rfl
  refine Call_Name rfl (blt_name G F R hg1 hg2 (by decide) (v := .builtin "isinstance") (by decide +kernel) (callWith_head (.inl ⟨_, rfl⟩) (args_cons (hx.bind h2 R F fun b s₁ φ₁ S T' R₁ F₁ V₁ => args_cons (blt_name G F₁ R₁ hg3 hg4 hm hb (args_nil ?_))) hst) hst rfl))
  rw [← hc]
  exact wpAny_mono (prim_snd he hA.handled G.sys R₁ (.one V₁)) (fun _ _ x => EvP.after S T' x) fun _ _ x => x

theorem methTab_ok : ∀ q ∈ methTab, 1 ≤ q.2.1 ∧ q.2.1 ≤ 2 ∧ q.1 = methName q.2.2 := by decide +kernel
theorem cMeth_of {m : Str} {n : Nat} {p : Meth} (h : cMeth m n = some p) : 1 ≤ n ∧ n ≤ 2 ∧ m = methName p := methTab_ok _ (tabAt_some h)

theorem star_all {f : Expr → Option CE} (hs : ∀ e p, f (.Starred e p) = none) (pos : Pos) {es : List Expr} {cs : CEs} (h : cList f es = some cs) : (backTo pos (starEach es env)).all (fun x => !x.1) = true := by
  have := star_any (env := env) hs pos h
  rw [List.any_eq_false] at this
  rw [List.all_eq_true]
  intro x hx
  have := this x hx
  simpa using this

theorem snd_meth {call : CallF} (G : GOk g cx fs mg mb) {F' : Expr → Option CE} (hs : ∀ e p, F' (.Starred e p) = none) (ih : ∀ e c, F' e = some c → SndE g A env nm e (evalC call c)) {o : Expr} {m : Str} {ap pos : Pos} {p : Meth} {as : List Expr} {a : CE} {cs : CEs}
    (ho : SndE g A env nm o (evalC call a)) (hro : recvOk o = true) (hline : (ap.endLine == pos.line) = true) (hp : cMeth m as.length = some p) (h : cList F' as = some cs) : SndE g A env nm (.Call (.Attribute o m ap) as [] pos) (evalC call (.meth p a cs)) := by
  intro ρ σ v σ' he φ s R F E
  obtain ⟨x, σ₁, h1, he⟩ := bnd_some he
  obtain ⟨hr, he⟩ := iteS he
  obtain ⟨vs, σ₂, h2, he⟩ := bnd_some he
  obtain ⟨hn1, hn2, rfl⟩ := cMeth_of hp
  cases as with
  | nil => cases hn1
  | cons e rest =>
    obtain ⟨c, hc', h'⟩ := ob (k := fun c => (cList F' rest).bind fun cs => some (CEs.cons c cs)) h
    obtain ⟨cs', hr', _⟩ := ob h'
    refine wpAny_Call_method_lateS ?_ ?_ hline (ho.bind h1 R F fun av s₁ φ₁ S T R₁ F₁ V₁ => ?_)
    · cases o with
      | Name x p => rfl
      | Constant k n p => rfl
      | Subscript x y p => rfl
      | _ => cases hro
    · rw [star_all hs pos h]
      have : (e :: rest).length + 0 + 0 < 30 := by have := hn2; omega
      exact decide_eq_true (p := (e :: rest).length + 0 + 0 < 30) this
    · obtain ⟨hT, hd⟩ := recv_snd (s := s₁) hr R₁ V₁
      refine ⟨methTy p, methId p, meth_plain p, meth_slot p, meth_type p, hT, hd, callWith_method1 (wpAny_mono (snd_args hs ih pos h h2 R₁ F₁ E) (fun vals s₂ ⟨φ₂, S₂, R₂, V₂, T₂⟩ => ?_) fun _ _ x => x) (star_plain hs hc' rest) (star_any hs pos hr')⟩
      exact wpAny_mono (meth_snd he G.sys R₂ (V₁.step R₁ S₂) V₂) (fun _ _ x => EvP.after (S.trans S₂) (T.trans T₂) x) fun _ _ x => x
end
end Lar

set_option autoImplicit false
set_option maxRecDepth 100000
namespace Lar
open PySem PyProof.Rows PySem.Calls PySem.SeqAt

section
variable {g : G} {cx : CCtx} {fs : List Fn} {mg mb : Str → Option Value} {A : Around} {E : Value → Shared → Prop} {φ φ₁ : List Addr} {σ σ₁ σ' : Sto} {s s₁ : Shared} {env : Env} {nm : List (Str × Nat)} {ρ : Loc} {call : CallF} {d : Nat}

theorem snd_ex {e : Expr} {c : CE} (hA : AOk A d) (he : SndE g A env nm e (evalC call c)) : SndI g A env nm e false (srcC call (.ex c)) := by
  intro ρ σ xs w σ' h φ s R F E
  rw [srcC_ex] at h
  obtain ⟨x, σ₁, h1, h⟩ := bnd_some h
  obtain ⟨⟨l, w'⟩, h2, h⟩ := ob h
  obtain ⟨rfl, rfl, rfl⟩ := sm3 h
  exact wpAny_mono (he ρ σ x σ₁ h1 φ s R F E) (fun a s₁ hp => src_seq hA.handled h2 hp) fun _ _ x => x

theorem small_le {a : Int} (h : smallI a = true) : -1000000000 ≤ a ∧ a ≤ 1000000000 := by
  simpa [smallI] using h

theorem star1 {x : Expr} {rest : List Expr} (hns : ∀ e q, x ≠ .Starred e q) : starEach (x :: rest) env = (false, eval x env) :: starEach rest env := by
  cases x with
  | Starred e q => exact absurd rfl (hns e q)
  | _ => rfl

theorem src_push {a b c : Int} {t u v : Tok} {tk : Nat} (hA : A.handled = none) (hc : c ≠ 0) (hsm : Builtin.Range.small a b c = true) (S : SE φ s.heap φ₁ s₁.heap) (R : RepS g φ₁ σ s₁.heap) (T : Same s s₁) :
    SrcP g A φ s (rangeL a b c) [] false σ (.ref s₁.heap.objs.size) { s₁ with heap := s₁.heap.push { cls := .type "range", data := .fields #[.int a t, .int b u, .int c v] }, toks := tk } :=
  have hk : ∀ b' o, s₁.heap.get? b' = some o → (s₁.heap.push { cls := .type "range", data := .fields #[.int a t, .int b u, .int c v] }).get? b' = some o := fun b o e => Heap.get?_push_of_some _ e
  src_range (s₁ := { s₁ with heap := s₁.heap.push { cls := .type "range", data := .fields #[.int a t, .int b u, .int c v] }, toks := tk }) hA (IsRange.new ..) hc hsm (S.trans (SE.keeps _ hk)) (R.keeps hk) T

theorem snd_rng1 {x : Expr} {a : CE} {p pos : Pos} (hA : AOk A d) (G : GOk g cx fs mg mb) (hg : isGlob env.scope ("range" : Str) = true) (hns : ∀ e q, x ≠ .Starred e q) (hx : SndE g A env nm x (evalC call a)) : SndI g A env nm (.Call (.Name ("range" : Str) p) [x] [] pos) false (srcC call (.rng1 a)) := by
  intro ρ σ xs w σ' h φ s R F E
  obtain ⟨n, σ₁, h1, h⟩ := bndI_some h
  obtain ⟨hsm, h⟩ := iteS h
  obtain ⟨rfl, rfl, rfl⟩ := sm3 h
  obtain ⟨hg1, hg2⟩ := isGlob_of hg
  have hst : starEach [x] env = (false, eval x env) :: starEach [] env := star1 hns
  refine Call_Name rfl (blt_name G F R hg1 hg2 (by decide) (v := .type "range") (by decide +kernel) (callWith_head (.inr ⟨_, rfl⟩) (args_cons (hx.bind h1 R F fun b s₁ φ₁ S T R₁ F₁ V₁ => args_nil ?_) hst) hst rfl))
  obtain ⟨t1, rfl⟩ := vI rfl V₁
  exact call_range_1 (src_push hA.handled (by decide) (small_of (by decide) (by decide) (small_le hsm) (by decide)) S R₁ T)

theorem snd_rng2 {x y : Expr} {a b : CE} {p pos : Pos} (hA : AOk A d) (G : GOk g cx fs mg mb) (hg : isGlob env.scope ("range" : Str) = true) (hns : ∀ e q, x ≠ .Starred e q) (hns' : ∀ e q, y ≠ .Starred e q) (hx : SndE g A env nm x (evalC call a)) (hy : SndE g A env nm y (evalC call b)) : SndI g A env nm (.Call (.Name ("range" : Str) p) [x, y] [] pos) false (srcC call (.rng2 a b)) := by
  intro ρ σ xs w σ' h φ s R F E
  obtain ⟨m, σ₁, h1, h⟩ := bndI_some h
  obtain ⟨n, σ₂, h2, h⟩ := bndI_some h
  obtain ⟨hsm, h⟩ := iteS h
  obtain ⟨rfl, rfl, rfl⟩ := sm3 h
  simp only [Bool.and_eq_true] at hsm
  obtain ⟨hg1, hg2⟩ := isGlob_of hg
  have hst : starEach [x, y] env = (false, eval x env) :: starEach [y] env := star1 hns
  have hst' : starEach [y] env = (false, eval y env) :: starEach [] env := star1 hns'
  refine Call_Name rfl (blt_name G F R hg1 hg2 (by decide) (v := .type "range") (by decide +kernel) (callWith_head (.inr ⟨_, rfl⟩) (args_cons (hx.bind h1 R F fun b s₁ φ₁ S T R₁ F₁ V₁ => args_cons (hy.bind h2 R₁ F₁ fun b' s₂ φ₂ S₂ T₂ R₂ F₂ V₂ => args_nil ?_) hst') hst) hst (by rw [hst']; rfl)))
  obtain ⟨t1, rfl⟩ := vI rfl V₁; obtain ⟨t2, rfl⟩ := vI rfl V₂
  exact call_range_2 (src_push hA.handled (by decide) (small_of (by decide) (small_le hsm.1) (small_le hsm.2) (by decide)) (S.trans S₂) R₂ (T.trans T₂))

end
end Lar

set_option autoImplicit false
set_option maxRecDepth 100000
namespace Lar
open PySem PyProof.Rows PySem.Calls PySem.SeqAt

section
variable {g : G} {cx : CCtx} {fs : List Fn} {mg mb : Str → Option Value} {A : Around} {E : Value → Shared → Prop} {φ φ₁ : List Addr} {σ σ₁ σ' : Sto} {s s₁ : Shared} {env : Env} {nm : List (Str × Nat)} {ρ ρ' : Loc} {call : CallF} {d : Nat}

theorem FrR.on {h : Heap} (F : FrR g φ env nm ρ h) (hr : ∀ y i v, nm.lookup y = some i → ρ' i = some v → ρ i = some v) : FrR g φ env nm ρ' h := by
  refine ⟨F.kind, F.glob, F.blt, ?_, ?_, F.locN, F.locB, F.cellF, F.cellI, F.slots⟩
  · obtain ⟨m, hn, hm⟩ := F.ns
    exact ⟨m, hn, fun x i v a b c => hm x i v a b (hr x i v a c)⟩
  · intro x i a b
    obtain ⟨c, u, h1, h2, h3⟩ := F.cells x i a b
    exact ⟨c, u, h1, h2, fun v hv => h3 v (hr x i v a hv)⟩

/-- what an assignment to a target may change -/
noncomputable def TM (env : Env) (ts : List Str) (b : Addr) : Prop := b = env.locals ∨ ∃ x ∈ ts, env.cells.lookup x = some b
theorem TM.fm {ts : List Str} {b : Addr} (h : TM env ts b) : FM φ env b := by
  rcases h with h | ⟨x, _, h⟩
  · exact .inr (.inl h)
  · exact .inr (.inr ⟨x, h⟩)

theorem Stp.mono {ms ms' : Addr → Prop} {h h' : Heap} (S : Stp ms φ h φ₁ h') (hm : ∀ b, ms b → ms' b) : Stp ms' φ h φ₁ h' := ⟨fun b o e hb => S.pres b o e fun x => hb (hm b x), S.dom, S.ext⟩

theorem tgtOne_some {x : Str} {i : Nat} (h : tgtOne env.scope nm x = some i) : nm.lookup x = some i ∧ (env.kindOf x = some .local ∨ env.kindOf x = some .cell) := by
  obtain ⟨hk, h⟩ := iteS h
  simp only [Bool.or_eq_true, beq_iff_eq] at hk
  exact ⟨h, hk⟩
theorem cTgt_name {x : Str} {p : Pos} {t : Tgt} (h : cTgt env.scope nm (.Name x p) = some t) : ∃ i, t = .one i ∧ nm.lookup x = some i ∧ (env.kindOf x = some .local ∨ env.kindOf x = some .cell) := by
  obtain ⟨i, h1, h⟩ := ob h
  obtain rfl := sm h
  exact ⟨i, rfl, tgtOne_some h1⟩

theorem cTgt_cases {t : Expr} {r : Tgt} (h : cTgt env.scope nm t = some r) : (∃ x p i, t = .Name x p ∧ r = .one i ∧ nm.lookup x = some i ∧ (env.kindOf x = some .local ∨ env.kindOf x = some .cell)) ∨
    (∃ x y p q k pp i j, t = .Tuple [.Name x p, .Name y q] k pp ∧ r = .two i j ∧ nm.lookup x = some i ∧ nm.lookup y = some j ∧ (env.kindOf x = some .local ∨ env.kindOf x = some .cell) ∧ (env.kindOf y = some .local ∨ env.kindOf y = some .cell)) := by
  unfold cTgt at h
  cases hn : asName t with
  | some x =>
    rw [hn] at h
    obtain ⟨p, ht⟩ := asName_some hn
    obtain ⟨i, h1, h⟩ := ob h
    exact .inl ⟨x, p, i, ht, (sm h).symm, tgtOne_some h1⟩
  | none =>
    rw [hn] at h
    obtain ⟨l, hl', h⟩ := ob h
    obtain ⟨k, pp, ht⟩ := asTup_some hl'
    obtain ⟨⟨a, b⟩, hl, h⟩ := ob h
    obtain ⟨x, hx, h⟩ := ob h
    obtain ⟨y, hy, h⟩ := ob h
    obtain ⟨_, h⟩ := iteN h
    obtain ⟨i, h1, h⟩ := ob h
    obtain ⟨j, h2, h⟩ := ob h
    obtain ⟨p, hp⟩ := asName_some hx
    obtain ⟨q, hq⟩ := asName_some hy
    have hl2 := two_some hl
    change a = _ at hp
    change b = _ at hq
    rw [hp, hq] at hl2
    exact .inr ⟨x, y, p, q, k, pp, i, j, by rw [ht, hl2], (sm h).symm, (tgtOne_some h1).1, (tgtOne_some h2).1, (tgtOne_some h1).2, (tgtOne_some h2).2⟩

theorem asPair_some {x : V} {p : V × V} (h : asPair x = some p) : x = .tup [p.1, p.2] := by
  cases x with
  | tup l =>
    match l, h with
    | [a, b], h => rw [← sm h]
  | _ => exact no h
theorem tgt_snd {t : Expr} {r : Tgt} {x : V} {a : Value} (hh : A.handled = none) (hc : cTgt env.scope nm t = some r) (hp : r.put x ρ = some ρ') (R : RepS g φ σ s.heap) (F : FrR g φ env nm ρ s.heap) (hv : VR g φ s.heap x a) {Q : Unit → Shared → Prop}
    (h : ∀ h' tk, Stp (TM env (tgtNames t)) φ s.heap φ h' → RepS g φ σ h' → FrR g φ env nm ρ' h' → (∀ {v : V} {a : Value}, VR g φ s.heap v a → VR g φ h' v a) → Q () { s with heap := h', toks := tk }) :
    wpAny (model g.prog g.w) A (assign t env a) Q E s := by
  rcases cTgt_cases hc with ⟨n, p, i, rfl, rfl, h1, h2⟩ | ⟨n, m, p, q, k, pp, i, j, rfl, rfl, h1, h2, h3, h4⟩
  · obtain rfl := sm hp
    refine wpAny_assign_Name (store_name F R h1 h2 hv fun h' tk S R' F' up => h h' tk (S.mono fun b hb => ?_) R' F' up)
    rcases hb with hb | hb
    · exact .inl hb
    · exact .inr ⟨n, by simp [tgtNames], hb⟩
  · obtain ⟨⟨a', b'⟩, hx, hp⟩ := ob hp
    obtain rfl := sm hp
    obtain rfl := asPair_some hx
    obtain ⟨c, vs, rfl, ht, hz, hvs, hn⟩ := vT rfl hv
    obtain ⟨va, vb, rfl, hva, hvb⟩ := two_of hvs
    refine wpAny_assign_Tuple hh ht rfl rfl fun h₁ hx => ?_
    have hk : ∀ b o, s.heap.get? b = some o → h₁.get? b = some o := fun b o e => hx b o (Nat.ne_of_lt (Heap.lt_size e)) e
    have S₁ : SE φ s.heap φ h₁ := SE.keeps _ hk
    have R₁ := R.keeps hk
    have F₁ : FrR g φ env nm ρ h₁ := F.step R S₁
    refine wpAny_bind (wpAny_holding (wpAny_assign_Name (store_name (s := { s with heap := h₁ }) F₁ R₁ h1 h3 (hva.step R S₁) fun h₂ tk₂ S₂ R₂ F₂ up₂ => ?_)))
    refine wpAny_bind (wpAny_holding (wpAny_assign_Name (store_name (s := { s with heap := h₂, toks := tk₂ }) F₂ R₂ h2 h4 (up₂ (hvb.step R S₁)) fun h₃ tk₃ S₃ R₃ F₃ up₃ => wpAny_pure ?_)))
    refine h h₃ tk₃ ?_ R₃ F₃ fun x => up₃ (up₂ (x.step R S₁))
    have e12 : Stp (TM env (tgtNames (.Tuple [.Name n p, .Name m q] k pp))) φ s.heap φ h₂ := ⟨fun b o e hb => S₂.pres b o (hk b o e) fun y => hb (by rcases y with y | y; exact .inl y; exact .inr ⟨n, by simp [tgtNames, asName], y⟩), fun b o e => S₂.dom b o (hk b o e), [], by simp, fun _ hm => (nomatch hm)⟩
    exact ⟨fun b o e hb => S₃.pres b o (e12.pres b o e hb) fun y => hb (by rcases y with y | y; exact .inl y; exact .inr ⟨m, by simp [tgtNames, asName], y⟩), fun b o e => by obtain ⟨o', e'⟩ := e12.dom b o e; exact S₃.dom b o' e', [], by simp, fun _ hm => (nomatch hm)⟩
end

/-- slots below a line -/
noncomputable def low (nx : Nat) (ρ : Loc) : Loc := fun i => if i < nx then ρ i else none

theorem cellsFrom_app : ∀ (names : List (Str × NameKind)) (n : Nat) (acc : List (Str × Addr)), cellsFrom n names acc = cellsFrom n names [] ++ acc
  | [], _, _ => rfl
  | (x, k) :: r, n, acc => by
    unfold cellsFrom
    split
    · rw [cellsFrom_app r (n + 1) ((x, n) :: acc), cellsFrom_app r (n + 1) [(x, n)]]; simp
    · exact cellsFrom_app r n acc
theorem cellsFrom_mem : ∀ (names : List (Str × NameKind)) (n : Nat) {x : Str} {c : Addr}, (x, c) ∈ cellsFrom n names [] → (x, .cell) ∈ names
  | [], _, _, _, h => by simp [cellsFrom] at h
  | (y, k) :: r, n, x, c, h => by
    unfold cellsFrom at h
    split at h
    · rename_i hk
      rw [cellsFrom_app] at h
      rcases List.mem_append.mp h with h | h
      · exact List.mem_cons_of_mem _ (cellsFrom_mem r _ h)
      · simp at h
        rw [h.1, beq_iff_eq.mp hk]; exact List.mem_cons_self
    · exact List.mem_cons_of_mem _ (cellsFrom_mem r _ h)
theorem lookup_isSome {α : Type} : ∀ {l : List (Str × α)} {x : Str} {c : α}, (x, c) ∈ l → ∃ c', l.lookup x = some c'
  | (y, b) :: r, x, c, h => by
    rw [List.lookup_cons]
    cases hb : x == y with
    | true => exact ⟨b, rfl⟩
    | false =>
      rcases List.mem_cons.mp h with h | h
      · cases h; simp at hb
      · exact lookup_isSome h
theorem cellsFrom_has : ∀ (names : List (Str × NameKind)) (n : Nat) {x : Str}, (x, .cell) ∈ names → ∃ c, (x, c) ∈ cellsFrom n names []
  | (y, k) :: r, n, x, h => by
    unfold cellsFrom
    rcases List.mem_cons.mp h with h | h
    · cases h
      rw [if_pos (show (NameKind.cell == NameKind.cell) = true from rfl), cellsFrom_app]
      exact ⟨n, by simp⟩
    · split
      · obtain ⟨c, hc⟩ := cellsFrom_has r (n + 1) h
        rw [cellsFrom_app]
        exact ⟨c, List.mem_append_left _ hc⟩
      · exact cellsFrom_has r n h

noncomputable def closL (env : Env) : List (Str × NameKind) → List (Str × Addr) → List (Str × Addr)
  | [], acc => acc
  | (n, k) :: r, acc => if k == .free then (match env.cells.lookup n with | some c => closL env r ((n, c) :: acc) | none => acc) else closL env r acc

theorem closureFor_eq {env : Env} (scope : Scope) (h : ∀ n, (n, NameKind.free) ∈ scope.names → ∃ c, env.cells.lookup n = some c) : closureFor scope env = pure (closL env scope.names []) := by
  unfold closureFor
  have key : ∀ (l : List (Str × NameKind)) (acc : List (Str × Addr)), (∀ n, (n, NameKind.free) ∈ l → ∃ c, env.cells.lookup n = some c) →
      (forIn l acc fun (x : Str × NameKind) (cs : List (Str × Addr)) => (match x with | (name, kind) => if (kind == .free) = true then (do let c ← cellOf env name; pure (ForInStep.yield ((name, c) :: cs))) else pure (ForInStep.yield cs) : Sem (ForInStep (List (Str × Addr))))) = (pure (closL env l acc) : Sem (List (Str × Addr))) := by
    intro l
    induction l with
    | nil => intro acc _; rfl
    | cons x r ih =>
      intro acc h
      obtain ⟨n, k⟩ := x
      rw [List.forIn_cons]
      by_cases hk : (k == NameKind.free) = true
      · obtain ⟨c, hc⟩ := h n (by rw [beq_iff_eq.mp hk]; exact List.mem_cons_self)
        have e1 : cellOf env n = pure c := by unfold cellOf; rw [hc]
        simp only [hk, if_true, e1, pure_bind]
        rw [ih _ fun n hn => h n (List.mem_cons_of_mem _ hn)]
        simp only [closL, hk, if_true, hc]
      · simp only [hk, Bool.false_eq_true, if_false, pure_bind]
        rw [ih _ fun n hn => h n (List.mem_cons_of_mem _ hn)]
        simp only [closL, hk, Bool.false_eq_true, if_false]
  rw [show (do
      let mut cs := []
      for (name, kind) in scope.names do
        if kind == .free then cs := (name, ← cellOf env name) :: cs
      return cs : Sem (List (Str × Addr))) = (forIn scope.names [] fun (x : Str × NameKind) (cs : List (Str × Addr)) => (match x with | (name, kind) => if (kind == .free) = true then (do let c ← cellOf env name; pure (ForInStep.yield ((name, c) :: cs))) else pure (ForInStep.yield cs) : Sem (ForInStep (List (Str × Addr))))) >>= fun cs => pure cs from rfl, key _ _ h]
  rfl

theorem closL_mem {env : Env} : ∀ {l : List (Str × NameKind)} {acc : List (Str × Addr)} {n : Str} {c : Addr}, (n, c) ∈ closL env l acc → ((n, .free) ∈ l ∧ env.cells.lookup n = some c) ∨ (n, c) ∈ acc
  | [], _, _, _, h => .inr h
  | (x, k) :: r, acc, n, c, h => by
    unfold closL at h
    split at h
    · rename_i hk
      split at h
      · rename_i c' hc
        rcases closL_mem h with ⟨h1, h2⟩ | h1
        · exact .inl ⟨List.mem_cons_of_mem _ h1, h2⟩
        · rcases List.mem_cons.mp h1 with h1 | h1
          · cases h1; exact .inl ⟨by rw [beq_iff_eq.mp hk]; exact List.mem_cons_self, hc⟩
          · exact .inr h1
      · exact .inr h
    · rcases closL_mem h with ⟨h1, h2⟩ | h1
      · exact .inl ⟨List.mem_cons_of_mem _ h1, h2⟩
      · exact .inr h1
theorem closL_has {env : Env} : ∀ {l : List (Str × NameKind)} (acc : List (Str × Addr)), (∀ n, (n, NameKind.free) ∈ l → ∃ c, env.cells.lookup n = some c) → (∀ n c, (n, c) ∈ acc → (n, c) ∈ closL env l acc) ∧ ∀ {n c}, (n, NameKind.free) ∈ l → env.cells.lookup n = some c → (n, c) ∈ closL env l acc
  | [], acc, _ => ⟨fun _ _ h => h, fun h => nomatch h⟩
  | (x, k) :: r, acc, hf => by
    unfold closL
    have hf' : ∀ n, (n, NameKind.free) ∈ r → ∃ c, env.cells.lookup n = some c := fun n hn => hf n (List.mem_cons_of_mem _ hn)
    split
    · rename_i hk
      obtain ⟨c', hc'⟩ := hf x (by rw [beq_iff_eq.mp hk]; exact List.mem_cons_self)
      rw [hc']
      obtain ⟨i1, i2⟩ := closL_has ((x, c') :: acc) hf'
      refine ⟨fun n c h => i1 n c (List.mem_cons_of_mem _ h), fun {n c} h e => ?_⟩
      rcases List.mem_cons.mp h with h | h
      · cases h
        rw [hc'] at e; cases e
        exact i1 _ _ List.mem_cons_self
      · exact i2 h e
    · rename_i hk
      obtain ⟨i1, i2⟩ := closL_has acc hf'
      refine ⟨i1, fun {n c} h e => ?_⟩
      rcases List.mem_cons.mp h with h | h
      · cases h; simp at hk
      · exact i2 h e

theorem zip_lookup : ∀ {ts : List Str} {n i : Nat} {x : Str}, (ts.zipIdx n).lookup x = some i → n ≤ i ∧ ts[i - n]? = some x
  | [], _, _, _, h => by simp at h
  | t :: ts, n, i, x, h => by
    rw [List.zipIdx_cons, List.lookup_cons] at h
    cases hb : x == t with
    | true =>
      rw [hb] at h; cases h
      exact ⟨Nat.le_refl _, by rw [beq_iff_eq.mp hb]; simp⟩
    | false =>
      rw [hb] at h
      obtain ⟨h1, h2⟩ := zip_lookup h
      refine ⟨by omega, ?_⟩
      have : i - n = (i - (n + 1)) + 1 := by omega
      rw [this, List.getElem?_cons_succ]; exact h2
end Lar

set_option autoImplicit false
set_option maxRecDepth 100000
namespace Lar
open PySem PyProof.Rows PySem.Calls PySem.SeqAt

structure CompOk (scope outer : Scope) (nm : List (Str × Nat)) (nx : Nat) (ts : List Str) : Prop where
  kind : scope.kind = .function
  kinds : ∀ n k, (n, k) ∈ scope.names → k = .local ∨ k = .cell ∨ k = .free ∨ k = .globalImplicit
  uniq : ∀ n k, (n, k) ∈ scope.names → scope.names.lookup n = some k
  free : ∀ n, (n, NameKind.free) ∈ scope.names → (outer.names.lookup n = some .cell ∨ outer.names.lookup n = some .free) ∧ ∃ i, nm.lookup n = some i
  tgts : ∀ t ∈ ts, scope.names.lookup t = some .local ∨ scope.names.lookup t = some .cell
  below : ∀ n i, (n, i) ∈ nm → i < nx

theorem compOk_of {scope outer : Scope} {nm : List (Str × Nat)} {nx : Nat} {ts : List Str} (h : compOk scope outer nm nx ts = true) : CompOk scope outer nm nx ts := by
  simp only [compOk, Bool.and_eq_true, List.all_eq_true, Bool.or_eq_true, beq_iff_eq, decide_eq_true_eq, bne_iff_ne, ne_eq, Option.isSome_iff_exists] at h
  obtain ⟨⟨⟨⟨⟨⟨h1, h2⟩, h3⟩, h4⟩, _⟩, h6⟩, h7⟩ := h
  refine ⟨h1, fun n k hm => ?_, fun n k hm => h3 (n, k) hm, fun n hm => ?_, h6, fun n i hm => h7 (n, i) hm⟩
  · have := h2 (n, k) hm
    rcases this with ((h | h) | h) | h
    · exact .inl h
    · exact .inr (.inl h)
    · exact .inr (.inr (.inl h))
    · exact .inr (.inr (.inr h))
  · rcases h4 (n, .free) hm with h | h
    · exact absurd rfl h
    · exact h

theorem relabel_rel (scope : Scope) (env : Env) : relabel scope env = relS scope env.scope := by
  unfold relabel relS Env.kindOf
  rfl

theorem relS_lookup {outer : Scope} : ∀ {names : List (Str × NameKind)} {x : Str} {k : NameKind}, names.lookup x = some k →
    (names.map fun (n, k) => if (k == NameKind.free && outer.kind == .function && outer.names.lookup n == some .cell) then (n, NameKind.cell) else (n, k)).lookup x = some (if (k == NameKind.free && outer.kind == .function && outer.names.lookup x == some .cell) then .cell else k)
  | [], _, _, h => by simp at h
  | (n, k') :: r, x, k, h => by
    have ih := @relS_lookup outer r x k
    show List.lookup x ((if (k' == NameKind.free && outer.kind == .function && outer.names.lookup n == some .cell) = true then (n, NameKind.cell) else (n, k')) :: _) = _
    cases hx : x == n with
    | true =>
      simp only [List.lookup_cons, hx] at h
      cases h
      have : x = n := by simpa using hx
      subst this
      split <;> simp
    | false =>
      simp only [List.lookup_cons, hx] at h
      split <;> (simp only [List.lookup_cons, hx]; exact ih h)
theorem relS_kind {scope outer : Scope} {x : Str} {k : NameKind} (h : scope.names.lookup x = some k) : (relS scope outer).names.lookup x = some (if (k == NameKind.free && outer.kind == .function && outer.names.lookup x == some .cell) then .cell else k) := relS_lookup h
theorem relS_none {outer : Scope} : ∀ {names : List (Str × NameKind)} {x : Str}, names.lookup x = none →
    (names.map fun (n, k) => if (k == NameKind.free && outer.kind == .function && outer.names.lookup n == some .cell) then (n, NameKind.cell) else (n, k)).lookup x = none
  | [], _, _ => rfl
  | (n, k') :: r, x, h => by
    show List.lookup x ((if (k' == NameKind.free && outer.kind == .function && outer.names.lookup n == some .cell) = true then (n, NameKind.cell) else (n, k')) :: _) = _
    cases hx : x == n with
    | true => simp only [List.lookup_cons, hx] at h; cases h
    | false =>
      simp only [List.lookup_cons, hx] at h
      split <;> (simp only [List.lookup_cons, hx]; exact relS_none h)

theorem lookup_app {α : Type} (x : Str) : ∀ (a b : List (Str × α)), (a ++ b).lookup x = match a.lookup x with | some v => some v | none => b.lookup x
  | [], b => rfl
  | (y, v) :: a, b => by
    rw [List.cons_append, List.lookup_cons, List.lookup_cons]
    cases x == y with
    | true => rfl
    | false => exact lookup_app x a b

theorem freeNm_lookup {nm : List (Str × Nat)} : ∀ {names : List (Str × NameKind)} {x : Str} {i : Nat}, (names.filterMap fun (n, k) => if k == .free then (nm.lookup n).map fun i => (n, i) else none).lookup x = some i → (x, .free) ∈ names ∧ nm.lookup x = some i
  | [], _, _, h => by simp at h
  | (n, k) :: r, x, i, h => by
    rw [List.filterMap_cons] at h
    by_cases hk : (k == NameKind.free) = true
    · simp only [hk, if_true] at h
      cases hn : nm.lookup n with
      | none =>
        rw [hn] at h
        obtain ⟨h1, h2⟩ := freeNm_lookup (names := r) (by simpa using h)
        exact ⟨List.mem_cons_of_mem _ h1, h2⟩
      | some j =>
        rw [hn] at h
        simp only [Option.map_some, List.lookup_cons] at h
        cases hb : x == n with
        | true =>
          rw [hb] at h; cases h
          have : x = n := by simpa using hb
          subst this
          exact ⟨by rw [beq_iff_eq.mp hk]; exact List.mem_cons_self, hn⟩
        | false =>
          rw [hb] at h
          obtain ⟨h1, h2⟩ := freeNm_lookup (names := r) (by simpa using h)
          exact ⟨List.mem_cons_of_mem _ h1, h2⟩
    · simp only [hk, Bool.false_eq_true, if_false] at h
      obtain ⟨h1, h2⟩ := freeNm_lookup (names := r) (by simpa using h)
      exact ⟨List.mem_cons_of_mem _ h1, h2⟩

theorem compNm_cases {scope : Scope} {nm : List (Str × Nat)} {nx : Nat} {ts : List Str} {x : Str} {i : Nat} (h : (compNm scope nm nx ts).lookup x = some i) : (nx ≤ i ∧ ts[i - nx]? = some x) ∨ ((x, .free) ∈ scope.names ∧ nm.lookup x = some i) := by
  unfold compNm at h
  rw [lookup_app] at h
  split at h
  · rename_i v hv
    cases h
    exact .inl (zip_lookup hv)
  · exact .inr (freeNm_lookup h)

section
variable {g : G} {A : Around} {E : Value → Shared → Prop} {φ φ₁ : List Addr} {σ : Sto} {s : Shared} {env : Env} {nm : List (Str × Nat)} {ρ : Loc}

theorem clos_of {scope : Scope} {nx : Nat} {ts : List Str} {h : Heap} (F : FrR g φ env nm ρ h) (K : CompOk scope env.scope nm nx ts) : ∀ n, (n, NameKind.free) ∈ scope.names → ∃ c, env.cells.lookup n = some c := fun n hn => by
  obtain ⟨h1, i, hi⟩ := K.free n hn
  obtain ⟨c, u, hc, _⟩ := F.cells n i hi h1
  exact ⟨c, hc⟩

/-- the frame of a comprehension -/
theorem comp_env {scope : Scope} {nx : Nat} {ts : List Str} (K : CompOk scope env.scope nm nx ts) (R : RepS g φ σ s.heap) (F : FrR g φ env nm ρ s.heap) {Q : Env → Shared → Prop}
    (h : ∀ cenv h', (∀ b o, s.heap.get? b = some o → h'.get? b = some o) → cenv.scope = scope → FrR g φ { cenv with scope := relabel scope env } (compNm scope nm nx ts) (low nx ρ) h' → s.heap.get? cenv.locals = none →
      (∀ x ∈ ts, ∀ c, cenv.cells.lookup x = some c → s.heap.get? c = none) → (∀ x c, cenv.cells.lookup x = some c → s.heap.get? c = none ∨ ∃ y, env.cells.lookup y = some c) → Q cenv { s with heap := h' }) :
    wpAny (model g.prog g.w) A (newFunctionEnv scope env.globals (closL env scope.names []) [] env.qual none .none (some env)) Q E s := by
  have hf := clos_of F K
  simp only [newFunctionEnv, Option.isSome_some, if_true]
  refine wpAny_bind (wpAny_alloc ?_)
  refine wpAny_bind (wpAny_layCells _ (fun name kind cells => by cases hkc : kind == NameKind.cell <;> simp [hkc]) _ _ _ _ ?_)
  have ok := cellsFrom_ok scope.names (s.heap.push { cls := .type "dict", data := .dict #[] }) (s.heap.objs.size + 1) [] ⟨fun _ _ hm => (nomatch hm), List.Pairwise.nil⟩ (by rw [Heap.size_push]; exact Nat.le_refl _)
  rw [Heap.size_push] at ok
  rw [show ({ s with heap := s.heap.push { cls := .type "dict", data := .dict #[] } } : Shared).heap.objs.size = s.heap.objs.size + 1 from Heap.size_push ..]
  rw [cellsFrom_app]
  rw [List.forIn_nil]
  refine wpAny_bind (wpAny_pure (wpAny_pure ?_))
  have hk : ∀ b o, s.heap.get? b = some o → (pushCells (s.heap.push { cls := .type "dict", data := .dict #[] }) scope.names).get? b = some o := fun b o e => pushCells_keeps _ _ b o (Heap.get?_push_of_some _ e)
  have hns := (Heap.Ns.new s.heap (.type "dict")).keeps (pushCells_keeps scope.names (s.heap.push { cls := .type "dict", data := .dict #[] }))
  generalize pushCells (s.heap.push { cls := .type "dict", data := .dict #[] }) scope.names = h' at ok hk hns
  have S : SE φ s.heap φ h' := SE.keeps _ hk
  -- the cells
  have ownOk : ∀ {x c}, (cellsFrom (s.heap.objs.size + 1) scope.names []).lookup x = some c → h'.IsCell c none ∧ s.heap.objs.size + 1 ≤ c ∧ scope.names.lookup x = some .cell := fun {x c} e => by
    have hm := mem_of_lookup e
    exact ⟨(ok.empty x c hm).1, (ok.empty x c hm).2, K.uniq _ _ (cellsFrom_mem _ _ hm)⟩
  have clOk : ∀ {x c}, (closL env scope.names []).lookup x = some c → env.cells.lookup x = some c ∧ scope.names.lookup x = some .free := fun {x c} e => by
    rcases closL_mem (mem_of_lookup e) with ⟨h1, h2⟩ | h1
    · exact ⟨h2, K.uniq _ _ h1⟩
    · cases h1
  have look : ∀ {x c}, (cellsFrom (s.heap.objs.size + 1) scope.names [] ++ closL env scope.names []).lookup x = some c → (cellsFrom (s.heap.objs.size + 1) scope.names []).lookup x = some c ∨ (closL env scope.names []).lookup x = some c := fun {x c} e => by
    rw [lookup_app] at e
    split at e
    · rename_i v hv; cases e; exact .inl hv
    · exact .inr e
  have freshC : ∀ {c}, s.heap.objs.size + 1 ≤ c → s.heap.get? c = none := fun hc => fresh_ge (Nat.le_trans (Nat.le_succ _) hc)
  refine h { scope, locals := s.heap.objs.size, globals := env.globals, cells := cellsFrom (s.heap.objs.size + 1) scope.names [] ++ closL env scope.names [], qual := env.qual, func := none, code := env.code, frame := env.frame, builtins := env.builtins } h' hk rfl ?_ (fresh_size _) ?_ ?_
  · refine ⟨?_, F.glob, F.blt, ⟨_, hns, ?_⟩, ?_, fresh_phi R (fresh_size _), fresh_base R (fresh_size _), ?_, ?_, ?_⟩
    · show (relabel scope env).kind = _
      exact K.kind
    · intro x i v hx hkx hρ
      exfalso
      rcases compNm_cases hx with ⟨h1, h2⟩ | ⟨h1, h2⟩
      · simp [low, Nat.not_lt.mpr h1] at hρ
      · have e1 : (relabel scope env).names.lookup x = some .local := hkx
        rw [relabel_rel, relS_kind (K.uniq _ _ h1)] at e1
        split at e1 <;> cases e1
    · intro x i hx hkx
      rcases compNm_cases hx with ⟨h1, h2⟩ | ⟨h1, h2⟩
      · have ht := K.tgts x (List.mem_of_getElem? h2)
        have hc : scope.names.lookup x = some .cell := by
          rcases ht with ht | ht
          · have e1 : (relabel scope env).names.lookup x = some .local := by
              rw [relabel_rel, relS_kind ht]; rfl
            rcases hkx with q | q
            · have q' : (relabel scope env).names.lookup x = some .cell := q
              rw [e1] at q'; cases q'
            · have q' : (relabel scope env).names.lookup x = some .free := q
              rw [e1] at q'; cases q'
          · exact ht
        obtain ⟨c, hcm⟩ := cellsFrom_has scope.names (s.heap.objs.size + 1) (mem_of_lookup hc)
        obtain ⟨c', hc'⟩ := lookup_isSome hcm
        refine ⟨c', none, ?_, (ownOk hc').1, fun v hv => ?_⟩
        · show (cellsFrom (s.heap.objs.size + 1) scope.names [] ++ closL env scope.names []).lookup x = some c'
          rw [lookup_app, hc']
        · simp [low, Nat.not_lt.mpr h1] at hv
      · obtain ⟨h3, j, hj⟩ := K.free x h1
        obtain ⟨c, u, hc, hcu, hv⟩ := F.cells x i h2 h3
        obtain ⟨c', hc'⟩ := lookup_isSome ((closL_has [] hf).2 h1 hc)
        have hcc : c' = c := by have := (clOk hc').1; rw [hc] at this; exact (Option.some.inj this).symm
        subst hcc
        refine ⟨c', u, ?_, hcu.keeps hk, fun v hv' => ?_⟩
        · show (cellsFrom (s.heap.objs.size + 1) scope.names [] ++ closL env scope.names []).lookup x = some c'
          rw [lookup_app]
          cases q : (cellsFrom (s.heap.objs.size + 1) scope.names []).lookup x with
          | none => exact hc'
          | some z =>
            have := (ownOk q).2.2
            rw [K.uniq _ _ h1] at this; cases this
        · have : ρ i = some v := by
            unfold low at hv'
            split at hv'
            · exact hv'
            · cases hv'
          obtain ⟨a, h4, h5⟩ := hv v this
          exact ⟨a, h4, h5.step R S⟩
    · intro x c e
      rcases look e with e | e
      · obtain ⟨h1, h2, _⟩ := ownOk e
        exact ⟨⟨_, h1⟩, fresh_phi R (freshC h2), Nat.ne_of_gt h2, fresh_base R (freshC h2)⟩
      · obtain ⟨h1, _⟩ := clOk e
        obtain ⟨⟨u, hu⟩, h2, h3, h4⟩ := F.cellF x c h1
        exact ⟨⟨u, hu.keeps hk⟩, h2, Nat.ne_of_lt hu.lt, h4⟩
    · intro x y c e1 e2
      rcases look e1 with e1 | e1 <;> rcases look e2 with e2 | e2
      · exact name_of_addr ok.apart (mem_of_lookup e1) (mem_of_lookup e2)
      · exfalso
        obtain ⟨_, h2, _⟩ := ownOk e1
        obtain ⟨⟨u, hu⟩, _⟩ := F.cellF y c (clOk e2).1
        exact absurd hu.lt (Nat.not_lt.mpr (Nat.le_trans (Nat.le_succ _) h2))
      · exfalso
        obtain ⟨_, h2, _⟩ := ownOk e2
        obtain ⟨⟨u, hu⟩, _⟩ := F.cellF x c (clOk e1).1
        exact absurd hu.lt (Nat.not_lt.mpr (Nat.le_trans (Nat.le_succ _) h2))
      · exact F.cellI x y c (clOk e1).1 (clOk e2).1
    · intro x y i e1 e2
      rcases compNm_cases e1 with ⟨h1, h2⟩ | ⟨h1, h2⟩ <;> rcases compNm_cases e2 with ⟨h3, h4⟩ | ⟨h3, h4⟩
      · rw [h2] at h4; exact Option.some.inj h4
      · have := K.below _ _ (mem_of_lookup h4); omega
      · have := K.below _ _ (mem_of_lookup h2); omega
      · exact F.slots x y i h2 h4
  · intro x hx c e
    rcases look e with e | e
    · exact freshC (ownOk e).2.1
    · exfalso
      have := (clOk e).2
      rcases K.tgts x hx with q | q <;> (rw [q] at this; cases this)
  · intro x c e
    rcases look e with e | e
    · exact .inl (freshC (ownOk e).2.1)
    · exact .inr ⟨x, (clOk e).1⟩
end
end Lar

set_option autoImplicit false
set_option maxRecDepth 100000
namespace Lar
open PySem PyProof.Rows PySem.Calls PySem.SeqAt

noncomputable def NT (h : Heap) (b : Addr) : Prop := ∀ o, h.get? b = some o → o.cls = .type "tuple" → (∃ items n, o.data = .seq items n) → False
theorem NoSeq.nt {h : Heap} {b : Addr} (x : NoSeq h b) : NT h b := fun o e _ ⟨items, n, hd⟩ => by
  obtain ⟨o', e', hn⟩ := x
  rw [e] at e'; cases e'
  exact hn items n hd

section
variable {g : G} {A : Around} {E : Value → Shared → Prop} {φ φ₁ φ₀ : List Addr} {σ : Sto} {s s₀ : Shared} {env : Env} {nm : List (Str × Nat)} {ρ : Loc} {wr : List Addr}

theorem Mv.tupT {h h' : Heap} (M : Mv wr φ h h') (hw : ∀ b ∈ wr, NT h b) : ∀ b o, h.get? b = some o → o.cls = .type "tuple" → (∃ items n, o.data = .seq items n) → b ∉ φ → h'.get? b = some o ∧ b ∉ φ :=
  fun b o e hc hs hn => ⟨M b o (fun hb => hw b hb o e hc hs) hn e, hn⟩
theorem Mv.vrT {h h' : Heap} (M : Mv wr φ h h') (hw : ∀ b ∈ wr, NT h b) {v : V} {a : Value} (x : VR g φ h v a) : VR g φ h' v a := x.stepT (fun _ _ e => e) (M.tupT hw)
theorem Mv.vrsT {h h' : Heap} (M : Mv wr φ h h') (hw : ∀ b ∈ wr, NT h b) {l : List V} {vs : List Value} (x : VRs g φ h l vs) : VRs g φ h' l vs := x.stepT (fun _ _ e => e) (M.tupT hw)
theorem RepS.mvT {h h' : Heap} (R : RepS g φ σ h) (M : ∀ b o, b ∉ wr → h.get? b = some o → h'.get? b = some o) (hw : ∀ b ∈ wr, NT h b) (hn : ∀ b ∈ wr, b ∉ φ) (hB : ∀ b ∈ wr, g.B.get? b = none) : RepS g φ σ h' := by
  have M' : Mv wr φ h h' := fun b o h1 _ e => M b o h1 e
  refine ⟨fun b o e => M b o (fun hb => by rw [hB b hb] at e; cases e) (R.base b o e), R.fresh, R.len, R.nodup, fun i a m h1 h2 => ?_⟩
  exact (R.objs i a m h1 h2).stepT (fun _ _ e => e) (M'.tupT hw) fun o e => M _ o (fun hb => hn _ hb (List.mem_of_getElem? h1)) e

theorem FrR.mv {h h' : Heap} (F : FrR g φ env nm ρ h) (M : Mv wr φ h h') (hw : ∀ b ∈ wr, NT h b) (hL : env.locals ∉ wr) (hC : ∀ x c, env.cells.lookup x = some c → c ∉ wr) : FrR g φ env nm ρ h' := by
  obtain ⟨m, hn, hm⟩ := F.ns
  have keepC : ∀ x c u, env.cells.lookup x = some c → h.IsCell c u → h'.IsCell c u := fun x c u e y => by
    obtain ⟨o, ho, hd⟩ := y
    exact ⟨o, M _ _ (hC x c e) (F.cellF x c e).2.1 ho, hd⟩
  refine ⟨F.kind, F.glob, F.blt, ⟨m, ?_, fun x i v a b c => ?_⟩, fun x i a b => ?_, F.locN, F.locB, fun x c e => ?_, F.cellI, F.slots⟩
  · obtain ⟨o, es, ep, ho, r⟩ := hn
    exact ⟨o, es, ep, M _ _ hL F.locN ho, r⟩
  · obtain ⟨y, h1, h2⟩ := hm x i v a b c
    exact ⟨y, h1, M.vrT hw h2⟩
  · obtain ⟨c, u, h1, h2, h3⟩ := F.cells x i a b
    refine ⟨c, u, h1, keepC x c u h1 h2, fun v hv => ?_⟩
    obtain ⟨y, h4, h5⟩ := h3 v hv
    exact ⟨y, h4, M.vrT hw h5⟩
  · obtain ⟨⟨u, hu⟩, h1, h2, h3⟩ := F.cellF x c e
    exact ⟨⟨u, keepC x c u e hu⟩, h1, h2, h3⟩

/-- old heap, then a move of things that the old heap has not -/
theorem Stp.mv {ms : Addr → Prop} {h₀ h h' : Heap} (S : Stp ms φ₀ h₀ φ h) (R' : RepS g φ σ h') (M : Mv wr φ h h') (hms : ∀ b, b ∈ φ₀ → ms b) (hf : ∀ b ∈ wr, h₀.get? b = none) : Stp ms φ₀ h₀ φ h' := by
  have nw : ∀ b o, h₀.get? b = some o → b ∉ wr := fun b o e hb => by rw [hf b hb] at e; cases e
  refine ⟨fun b o e hb => M b o (nw b o e) (S.notin e fun q => hb (hms b q)) (S.pres b o e hb), fun b o e => ?_, S.ext⟩
  by_cases hb : b ∈ φ
  · exact R'.live hb
  · obtain ⟨o', e'⟩ := S.dom b o e
    exact ⟨o', M b o' (nw b o e) hb e'⟩

theorem tests_false (f : Expr → Bool → Sem (ForInStep Bool)) (hf : ∀ c, f c false = pure (.yield false)) : ∀ (ifs : List Expr) {Q : Bool → Shared → Prop}, Q false s → wpAny (model g.prog g.w) A (forIn ifs false f) Q E s
  | [], Q, h => by rw [List.forIn_nil]; exact wpAny_pure h
  | c :: r, Q, h => by
    rw [List.forIn_cons, hf]
    exact wpAny_bind (wpAny_pure (tests_false f hf r h))

theorem snd_tests {F' : Expr → Option CE} {call : CallF} (ih : ∀ e c, F' e = some c → SndT g A env nm e (testC call c)) : ∀ {ifs : List Expr} {cs : CEs}, cList F' ifs = some cs → ∀ ⦃ρ σ b σ'⦄, testCs call cs ρ σ = some (b, σ') → ∀ ⦃φ s⦄, RepS g φ σ s.heap → FrR g φ env nm ρ s.heap →
    ∀ E, wpAny (model g.prog g.w) A (forIn ifs true fun c r => if r = true then do let ok ← isTrue c env (eval c env); pure (ForInStep.yield ok) else pure (ForInStep.yield r)) (TsP g φ s b σ') E s
  | [], cs, h => by
    intro ρ σ b σ' he φ s R F E
    obtain rfl := sm h
    obtain ⟨rfl, rfl⟩ := sm2 he
    rw [List.forIn_nil]
    exact wpAny_pure ⟨rfl, φ, SE.refl _ _, R, Same.refl _⟩
  | e :: r, cs, h => by
    obtain ⟨c, h1, h⟩ := ob h
    obtain ⟨cs', h2, h⟩ := ob h
    obtain rfl := sm h
    intro ρ σ b σ' he φ s R F E
    rw [List.forIn_cons]
    simp only [if_true]
    obtain ⟨p, σ₁, hx, he⟩ := bndB_some he
    refine wpAny_bind (wpAny_bind ((ih e c h1).bind (testC_of hx) R F fun s₁ φ₁ S T R₁ F₁ => wpAny_pure ?_))
    cases p with
    | true => exact wpAny_mono (snd_tests ih h2 he R₁ F₁ E) (fun _ _ x => TsP.after S T x) fun _ _ x => x
    | false =>
      obtain ⟨rfl, rfl⟩ := sm2 he
      exact tests_false _ (fun _ => by simp) r ⟨rfl, φ₁, S, R₁, T⟩
end

section
variable {prog : Program} {w : World} {A : Around} {R : Result → Shared → Prop} {s : Shared}

theorem compLoop_any {elt target iter : Expr} {ifs : List Expr} {scope : Scope} {pos : Pos} {it acc : Value} {env : Env} (I : Nat → Shared → Prop)
    (turn : ∀ n s, I n s → ∀ E, wpAny (model prog w) A (pyNext it) (fun r s₁ => match r with
      | none => R (.ok .next) s₁
      | some v => wpAny (model prog w) A (letOwnedTupleGo target it v) (fun _ s₁' => wpAny (model prog w) A (assign target env v) (fun _ s₂ =>
          wpAny (model prog w) A (forIn ifs true fun c r => if r = true then do let ok ← isTrue c env (eval c env); pure (ForInStep.yield ok) else pure (ForInStep.yield r)) (fun ok s₃ =>
            if ok = true then wpAny (model prog w) A (eval elt env) (fun x s₄ =>
              wpAny (model prog w) A (call (.builtin "list.append") [acc, x]) (fun _ s₅ => ∃ m, m < n ∧ I m s₅) E s₄) E s₃
            else ∃ m, m < n ∧ I m s₃) E s₂) E s₁') E s₁) E s)
    (n : Nat) (h : I n s) : codeAny (model prog w) A (.compLoop (.ListComp elt [⟨target, iter, ifs, 0⟩] scope pos) 0 it acc env) R s := by
  refine codeAny_loop rfl I (fun n s hI => ?_) n h
  show wpAny _ A ((compTurn (.ListComp elt [⟨target, iter, ifs, 0⟩] scope pos) 0 it acc env).onRaise (fun x => do noteFrame x env; theTreesLotGoes x)) _ _ s
  refine wpAny_noted ?_
  rw [compTurn_list]
  refine wpAny_bind (wpAny_standAt (wpAny_bind (wpAny_mono (turn n s hI _) (fun r s₁ h₁ => ?_) fun _ _ h' => h')))
  cases r with
  | none => exact wpAny_pure h₁
  | some v =>
    refine wpAny_bind (wpAny_mono h₁ (fun _ s₁' h₁' => ?_) fun _ _ h' => h')
    refine wpAny_bind (wpAny_mono h₁' (fun _ s₂ h₂ => wpAny_bind (wpAny_mono h₂ (fun ok s₃ h₃ => ?_) fun _ _ h' => h')) fun _ _ h' => h')
    cases ok with
    | false => exact wpAny_pure ⟨rfl, h₃⟩
    | true =>
      exact wpAny_bind (wpAny_bind (wpAny_mono h₃ (fun x s₄ h₄ => wpAny_bind (wpAny_mono h₄ (fun _ s₅ h₅ => wpAny_pure (wpAny_pure ⟨rfl, h₅⟩)) fun _ _ h' => h')) fun _ _ h' => h'))
end
end Lar

set_option autoImplicit false
set_option maxRecDepth 100000
namespace Lar
open PySem PyProof.Rows PySem.Calls PySem.SeqAt

noncomputable def tHas : Tgt → Nat → Prop
  | .one a, i => i = a
  | .two a b, i => i = a ∨ i = b

theorem put_low {t : Tgt} {x : V} {ρ ρ' : Loc} {nx : Nat} (h : t.put x ρ = some ρ') (hs : ∀ i, tHas t i → nx ≤ i) :
    ∃ ρ'', t.put x (low nx ρ) = some ρ'' ∧ (∀ i v, (i < nx ∨ tHas t i) → ρ' i = some v → ρ'' i = some v) ∧ ∀ i v, low nx ρ i = some v → ρ' i = some v := by
  cases t with
  | one a =>
    obtain rfl := sm h
    refine ⟨_, rfl, fun i v hi hv => ?_, fun i v hv => ?_⟩
    · simp only [upd] at hv ⊢
      split at hv
      · rename_i e; simp [e]; simpa using hv
      · rename_i e
        rw [if_neg e]
        rcases hi with hi | hi
        · simpa [low, hi] using hv
        · exact absurd hi e
    · obtain ⟨hi, hv⟩ := iteS hv
      have : i ≠ a := fun e => by have := hs a rfl; omega
      simpa [upd, this] using hv
  | two a b =>
    obtain ⟨⟨p, q⟩, hx, h⟩ := ob h
    obtain rfl := sm h
    obtain rfl := asPair_some hx
    refine ⟨_, rfl, fun i v hi hv => ?_, fun i v hv => ?_⟩
    · simp only [upd] at hv ⊢
      split at hv
      · rename_i e; simp [e]; simpa using hv
      · rename_i e
        rw [if_neg e]
        split at hv
        · rename_i e'; rw [if_pos e']; exact hv
        · rename_i e'
          rw [if_neg e']
          rcases hi with hi | hi | hi
          · simpa [low, hi] using hv
          · exact absurd hi e'
          · exact absurd hi e
    · obtain ⟨hi, hv⟩ := iteS hv
      have h1 : i ≠ a := fun e => by have := hs a (.inl rfl); omega
      have h2 : i ≠ b := fun e => by have := hs b (.inr rfl); omega
      simpa [upd, h1, h2] using hv

section
variable {g : G} {A : Around} {E : Value → Shared → Prop} {φ₀ : List Addr} {s₀ : Shared} {cenv : Env} {nm : List (Str × Nat)} {ρ : Loc} {call : CallF} {d : Nat}

structure LoopCx (wr kp : List Addr) (env : Env) (D : Addr) : Prop where
  loc : ∀ b, b ∈ wr ∨ b ∈ kp → b ≠ env.locals
  cel : ∀ b, b ∈ wr ∨ b ∈ kp → ∀ x, env.cells.lookup x ≠ some b
  acc : ∀ b, b ∈ wr ∨ b ∈ kp → b ≠ D

noncomputable def CompEnd (g : G) (φ₀ : List Addr) (s₀ : Shared) (C D : Addr) (l : List V) (σe : Sto) (s' : Shared) : Prop :=
  ∃ φ', SE φ₀ s₀.heap φ' s'.heap ∧ RepS g φ' (σe ++ [.lst l]) s'.heap ∧ VR g φ' s'.heap (.ref σe.length) (.ref D) ∧ Same s₀ s' ∧ C ∉ φ' ∧ ∃ m, s'.heap.Ns C m

/-- between two turns -/
structure CompInv (g : G) (φ₀ : List Addr) (s₀ : Shared) (cenv : Env) (nm : List (Str × Nat)) (ρ : Loc) (ys : List V) (vs : List Value) (wr kp : List Addr) (St : Nat → Heap → Prop) (D : Addr) (k : Nat) (φ' : List Addr) (σ' : Sto) (la : List V) (va : List Value) (s : Shared) : Prop where
  S : SE φ₀ s₀.heap φ' s.heap
  T : Same s₀ s
  R : RepS g φ' σ' s.heap
  F : FrR g φ' cenv nm ρ s.heap
  st : St k s.heap
  ys : VRs g φ' s.heap ys vs
  hn : ∀ b, b ∈ wr ∨ b ∈ kp → b ∉ φ'
  hD : s.heap.PlainList D va.toArray
  hDφ : D ∉ φ'
  la : VRs g φ' s.heap la va

theorem comp_run {elt target iter : Expr} {ifs : List Expr} {scope : Scope} {pos : Pos} {nx : Nat} {t : Tgt} {I D : Addr} {xs ys l : List V} {vs : List Value} {w : List (Nat × MObj)} {two : Bool} {wr kp : List Addr} {St : Nat → Heap → Prop} {Mid : Nat → Value → Heap → Prop} {c : CE} {cs : CEs} {F' : Expr → Option CE} {σ σe : Sto}
    {Q : Result → Shared → Prop} {s : Shared} {φ : List Addr}
    (hA : AOk A d) (Ti : Itr g A I xs w two ys vs wr kp St Mid) (htg : tgOk two target) (hct : cTgt cenv.scope nm target = some t) (hsl : ∀ i, tHas t i → nx ≤ i) (hrg : ∀ y i, nm.lookup y = some i → i < nx ∨ tHas t i)
    (hE : SndE g A cenv nm elt (evalC call c)) (hcs : cList F' ifs = some cs) (hT : ∀ e c, F' e = some c → SndT g A cenv nm e (testC call c))
    (L : LoopCx wr kp cenv D) (hDL : D ≠ cenv.locals) (hDC : ∀ x, cenv.cells.lookup x ≠ some D)
    (hC0 : s₀.heap.get? cenv.locals = none) (hcell0 : ∀ x ∈ tgtNames target, ∀ c, cenv.cells.lookup x = some c → s₀.heap.get? c = none) (hwr0 : ∀ b ∈ wr, s₀.heap.get? b = none) (hD0 : s₀.heap.get? D = none) (hB : ∀ b ∈ wr, g.B.get? b = none) (hDB : g.B.get? D = none)
    (hl : l.length ≤ szLine) (hc : compL (evalC call c) (testCs call cs) t w xs ρ σ = some (l, σe))
    (S : SE φ₀ s₀.heap φ s.heap) (T : Same s₀ s) (R : RepS g φ σ s.heap) (F : FrR g φ cenv nm (low nx ρ) s.heap) (h0 : St 0 s.heap) (hys : VRs g φ s.heap ys vs) (hn : ∀ b, b ∈ wr ∨ b ∈ kp → b ∉ φ) (hD : s.heap.PlainList D #[]) (hDφ : D ∉ φ)
    (hQ : ∀ s', CompEnd g φ₀ s₀ cenv.locals D l σe s' → Q (.ok .next) s') :
    codeAny (model g.prog g.w) A (.compLoop (.ListComp elt [⟨target, iter, ifs, 0⟩] scope pos) 0 (.ref I) (.ref D) cenv) Q s := by
  have ntD : ∀ {h : Heap} {va : Array Value}, h.PlainList D va → ∀ b ∈ [D], NT h b := fun {h va} hp b hb o e hc _ => by
    simp at hb; subst hb
    obtain ⟨n, ho⟩ := hp
    rw [ho] at e; cases e
    exact list_ne_tuple hc
  refine compLoop_any (fun n s => ∃ k φ' σ' la va lr, CompInv g φ₀ s₀ cenv nm (low nx ρ) ys vs wr kp St D k φ' σ' la va s ∧ (n = xs.length - k ∧ k ≤ xs.length) ∧ compL (evalC call c) (testCs call cs) t w (xs.drop k) ρ σ' = some (lr, σe) ∧ la ++ lr = l) ?_ xs.length ⟨0, φ, σ, [], [], l, ⟨S, T, R, F, h0, hys, hn, hD, hDφ, .nil⟩, ⟨by simp, Nat.zero_le _⟩, by simpa using hc, rfl⟩
  rintro n s ⟨k, φ, σ, la, va, lr, ⟨S, T, R, F, st, hys, hn, hD, hDφ, hla⟩, ⟨rfl, hk⟩, hc, hlr⟩ E
  have hLw : cenv.locals ∉ wr := fun q => L.loc _ (.inl q) rfl
  have hCw : ∀ x c, cenv.cells.lookup x = some c → c ∉ wr := fun x c e q => L.cel c (.inl q) x e
  have hDw : D ∉ wr := fun q => L.acc D (.inl q) rfl
  rcases Nat.lt_or_ge k xs.length with hlt | hge
  · have hx : xs[k]? = some xs[k] := List.getElem?_eq_getElem hlt
    rw [List.drop_eq_getElem_cons hlt] at hc
    obtain ⟨hw, hc⟩ := guardW_some hc
    · · obtain ⟨ρ', hput, hc⟩ := ob hc
        refine Ti.item k φ σ s _ E xs[k] st R hys hw hn hB hx fun a h₁ tk₁ M₁ R₁ V₁ mid₁ => ?_
        have w1 : ∀ b ∈ wr, NT s.heap b := fun b hb => (Ti.wrN k _ st b hb).nt
        have S₁ := Stp.mv S R₁ M₁ (fun _ q => q) hwr0
        have F₁ := F.mv M₁ w1 hLw hCw
        have D₁ : h₁.PlainList D va.toArray := hD.at fun o e => M₁ D o hDw hDφ e
        have la₁ := M₁.vrsT w1 hla
        have ys₁ := M₁.vrsT w1 hys
        refine Ti.go target htg k φ σ a _ _ E mid₁ R₁ hn hB fun h₂ M₂ R₂ st₂ => ?_
        have w2 : ∀ b ∈ wr, NT h₁ b := fun b hb => (Ti.wrM k a _ mid₁ b hb).nt
        have S₂ := Stp.mv S₁ R₂ M₂ (fun _ q => q) hwr0
        have F₂ := F₁.mv M₂ w2 hLw hCw
        have D₂ : h₂.PlainList D va.toArray := D₁.at fun o e => M₂ D o hDw hDφ e
        have la₂ := M₂.vrsT w2 la₁
        have ys₂ := M₂.vrsT w2 ys₁
        have V₂ := M₂.vrT w2 V₁
        obtain ⟨ρ'', hput'', hlow, hback⟩ := put_low hput hsl
        refine tgt_snd (s := { s with heap := h₂, toks := tk₁ }) hA.handled hct hput'' R₂ F₂ V₂ fun h₃ tk₃ S₃ R₃ F₃ up₃ => ?_
        have F₃' : FrR g φ cenv nm ρ' h₃ := F₃.on fun y i v hy hv => hlow i v (hrg y i hy) hv
        have keep3 : ∀ b o, b ≠ cenv.locals → (∀ x, cenv.cells.lookup x ≠ some b) → h₂.get? b = some o → h₃.get? b = some o := fun b o h1 h2 e => S₃.pres b o e fun q => by
          rcases q with q | ⟨x, _, q⟩
          · exact h1 q
          · exact h2 x q
        have st₃ : St (k + 1) h₃ := Ti.frame _ _ _ st₂ fun b hb o e => keep3 b o (L.loc b hb) (L.cel b hb) e
        have D₃ : h₃.PlainList D va.toArray := D₂.at fun o e => keep3 D o hDL hDC e
        have upS : ∀ {l : List V} {vs : List Value}, VRs g φ h₂ l vs → VRs g φ h₃ l vs := fun {l vs} x => by
          induction vs generalizing l with
          | nil => cases x; exact .nil
          | cons v vs ih => cases x with | cons h1 h2 => exact .cons (up₃ h1) (ih h2)
        have la₃ := upS la₂
        have ys₃ := upS ys₂
        have S₀₃ : SE φ₀ s₀.heap φ h₃ := Stp.trans S₂ S₃ (fun _ _ _ hb => hb) fun b o e _ q => by
          rcases q with q | ⟨x, hx, q⟩
          · rw [q, hC0] at e; cases e
          · rw [hcell0 x hx b q] at e; cases e
        obtain ⟨bt, σ₁, htest, hc⟩ := bnd_some hc
        cases bt with
        | false =>
          refine wpAny_mono (snd_tests hT hcs htest (s := { s with heap := h₃, toks := tk₃ }) R₃ F₃' E) (fun ok s₄ h₄ => ?_) fun _ _ x => x
          obtain ⟨rfl, φ₄, S₄, R₄, T₄⟩ := h₄
          rw [if_neg (by decide)]
          have kp4 : ∀ b, b ∉ φ → ∀ o, h₃.get? b = some o → s₄.heap.get? b = some o := fun b hb o e => S₄.pres b o e hb
          refine ⟨xs.length - (k + 1), by omega, k + 1, φ₄, σ₁, la, va, lr, ⟨S₀₃.trans S₄, T.trans (Same.trans ⟨rfl, rfl, rfl⟩ T₄), R₄, (F₃'.on fun y i v _ hv => hback i v hv).step R₃ S₄,
            Ti.frame _ _ _ st₃ fun b hb o e => kp4 b (hn b hb) o e, ys₃.step R₃ S₄, fun b hb => ?_, D₃.at fun o e => kp4 D hDφ o e, ?_, la₃.step R₃ S₄⟩, ⟨rfl, hlt⟩, hc, hlr⟩
          · have : ∃ o, h₃.get? b = some o := by
              rcases hb with hb | hb
              · obtain ⟨o, e, _⟩ := Ti.wrN _ _ st₃ b hb; exact ⟨o, e⟩
              · obtain ⟨o, _, _, e, _⟩ := Ti.kpN _ _ st₃ b hb; exact ⟨o, e⟩
            obtain ⟨o, e⟩ := this
            exact S₄.notin e (hn b hb)
          · obtain ⟨n', e⟩ := D₃
            exact S₄.notin e hDφ
        | true =>
          rw [if_pos rfl] at hc
          obtain ⟨v, σ₂, helt, hc⟩ := bnd_some hc
          · · obtain ⟨lr', σ₃, hrest, hc⟩ := bnd_some hc
              obtain ⟨rfl, rfl⟩ := sm2 hc
              refine wpAny_mono (snd_tests hT hcs htest (s := { s with heap := h₃, toks := tk₃ }) R₃ F₃' E) (fun ok s₄ h₄ => ?_) fun _ _ x => x
              obtain ⟨rfl, φ₄, S₄, R₄, T₄⟩ := h₄
              rw [if_pos rfl]
              refine hE.bind helt R₄ (F₃'.step R₃ S₄) fun av s₅ φ₅ S₅ T₅ R₅ F₅ V₅ => ?_
              have S₄₅ := S₄.trans S₅
              have kp5 : ∀ b, b ∉ φ → ∀ o, h₃.get? b = some o → s₅.heap.get? b = some o := fun b hb o e => S₄₅.pres b o e hb
              have D₅ : s₅.heap.PlainList D va.toArray := D₃.at fun o e => kp5 D hDφ o e
              have hD5 : D ∉ φ₅ := by obtain ⟨n', e⟩ := D₃; exact S₄₅.notin e hDφ
              have la₅ := (la₃.step R₃ S₄).step R₄ S₅
              have ys₅ := (ys₃.step R₃ S₄).step R₄ S₅
              have hn5 : ∀ b, b ∈ wr ∨ b ∈ kp → b ∉ φ₅ := fun b hb => by
                have : ∃ o, h₃.get? b = some o := by
                  rcases hb with hb | hb
                  · obtain ⟨o, e, _⟩ := Ti.wrN _ _ st₃ b hb; exact ⟨o, e⟩
                  · obtain ⟨o, _, _, e, _⟩ := Ti.kpN _ _ st₃ b hb; exact ⟨o, e⟩
                obtain ⟨o, e⟩ := this
                exact S₄₅.notin e (hn b hb)
              have st₅ : St (k + 1) s₅.heap := Ti.frame _ _ _ st₃ fun b hb o e => kp5 b (hn b hb) o e
              refine wpAny_list_append_plain D₅ (fun h₆ D₆ hs₆ => ?_) ?_
              · have M₆ : ∀ b o, b ∉ [D] → s₅.heap.get? b = some o → h₆.get? b = some o := fun b o hb e => hs₆.extBut b o (by simpa using hb) e
                have R₆ : RepS g φ₅ σ₂ h₆ := R₅.mvT M₆ (ntD D₅) (by simpa using hD5) (by simpa using hDB)
                have M₆' : Mv [D] φ₅ s₅.heap h₆ := Mv.all M₆
                have F₆ : FrR g φ₅ cenv nm ρ' h₆ := F₅.mv M₆' (ntD D₅) (by simpa using fun q => hDL q.symm) (fun x c e => by simp; rintro rfl; exact hDC x e)
                refine ⟨xs.length - (k + 1), by omega, k + 1, φ₅, σ₂, la ++ [v], va ++ [av], lr', ⟨Stp.mv (S₀₃.trans S₄₅) R₆ M₆' (fun _ q => q) (by simpa using hD0), T.trans (Same.trans ⟨rfl, rfl, rfl⟩ (T₄.trans T₅)), R₆, F₆.on fun y i v _ hv => hback i v hv,
                  Ti.frame _ _ _ st₅ fun b hb o e => M₆ b o (by simpa using L.acc b hb) e, M₆'.vrsT (ntD D₅) ys₅, hn5, by simpa using D₆, hD5, M₆'.vrsT (ntD D₅) (la₅.append (.one V₅))⟩, ⟨rfl, hlt⟩, hrest, by simpa using hlr⟩
              · rw [List.size_toArray, ← hla.length]
                have := congrArg List.length hlr
                simp at this
                show la.length ≤ szLine
                omega
  · have hk' : k = xs.length := Nat.le_antisymm hk hge
    subst hk'
    rw [List.drop_length] at hc
    obtain ⟨hw, hc⟩ := guardW_some hc
    · obtain ⟨rfl, rfl⟩ := sm2 hc
      refine Ti.done φ _ s _ E st R hys hw hn hB fun h₁ tk₁ M₁ R₁ => ?_
      have w1 : ∀ b ∈ wr, NT s.heap b := fun b hb => (Ti.wrN _ _ st b hb).nt
      have S₁ := Stp.mv S R₁ M₁ (fun _ q => q) hwr0
      have F₁ := F.mv M₁ w1 hLw hCw
      have D₁ : h₁.PlainList D va.toArray := hD.at fun o e => M₁ D o hDw hDφ e
      have la₁ := M₁.vrsT w1 hla
      rw [List.append_nil] at hlr
      subst hlr
      obtain ⟨m, hns, _⟩ := F₁.ns
      refine hQ _ ⟨φ ++ [D], ⟨fun b o e hb => S₁.pres b o e hb, S₁.dom, ?_⟩, R₁.more hDφ hDB (.lst D₁ (Nat.le_succ_of_le hl) la₁) (fun o e => ?_), .ref ?_, T.trans ⟨rfl, rfl, rfl⟩, ?_, m, hns⟩
      · obtain ⟨t, ht, hf⟩ := S₁.ext
        refine ⟨t ++ [D], by rw [ht]; simp, fun a ha => ?_⟩
        rcases List.mem_append.mp ha with ha | ha
        · exact hf a ha
        · simp at ha; subst ha; exact hD0
      · obtain ⟨n', ho⟩ := D₁
        rw [ho] at e; cases e; exact list_ne_tuple
      · rw [← R₁.len]; simp
      · intro q
        rcases List.mem_append.mp q with q | q
        · exact F₁.locN q
        · exact hDL (List.mem_singleton.mp q).symm
end
end Lar

set_option autoImplicit false
set_option maxRecDepth 100000
namespace Lar
open PySem PyProof.Rows PySem.Calls PySem.SeqAt

theorem zip_has : ∀ {ts : List Str} {n : Nat} {x : Str}, x ∈ ts → ∃ i, (ts.zipIdx n).lookup x = some i
  | t :: ts, n, x, h => by
    rw [List.zipIdx_cons, List.lookup_cons]
    cases hb : x == t with
    | true => exact ⟨n, rfl⟩
    | false =>
      rcases List.mem_cons.mp h with h | h
      · subst h; simp at hb
      · exact zip_has h

theorem compNm_tgt {scope : Scope} {nm : List (Str × Nat)} {nx i : Nat} {ts : List Str} {x : Str} (hx : x ∈ ts) (h : (compNm scope nm nx ts).lookup x = some i) : nx ≤ i := by
  unfold compNm at h
  rw [lookup_app] at h
  obtain ⟨j, hj⟩ := zip_has (n := nx) hx
  rw [hj] at h; cases h
  exact (zip_lookup hj).1

section
variable {g : G} {A : Around} {E : Value → Shared → Prop} {φ : List Addr} {s : Shared} {env : Env} {nm : List (Str × Nat)} {ρ : Loc} {call : CallF} {d : Nat}

theorem tgt_slots {scope : Scope} {env' : Env} {nx : Nat} {target : Expr} {t : Tgt} (K : CompOk scope env.scope nm nx (tgtNames target)) (h : cTgt env'.scope (compNm scope nm nx (tgtNames target)) target = some t) :
    (∀ i, tHas t i → nx ≤ i) ∧ ∀ y i, (compNm scope nm nx (tgtNames target)).lookup y = some i → i < nx ∨ tHas t i := by
  rcases cTgt_cases h with ⟨x, p, i, rfl, rfl, h1, _⟩ | ⟨x, y, p, q, k, pp, i, j, rfl, rfl, h1, h2, _, _⟩
  · refine ⟨fun a ha => ?_, fun y a hy => ?_⟩
    · have : a = i := ha
      subst this
      exact compNm_tgt (by simp [tgtNames, asName]) h1
    · rcases compNm_cases hy with ⟨h3, h4⟩ | ⟨h3, h4⟩
      · have hm := List.mem_of_getElem? h4
        simp [tgtNames, asName] at hm
        subst hm
        rw [h1] at hy; cases hy
        exact .inr rfl
      · exact .inl (K.below _ _ (mem_of_lookup h4))
  · refine ⟨fun a ha => ?_, fun z a hz => ?_⟩
    · have : a = i ∨ a = j := ha
      rcases this with rfl | rfl
      · exact compNm_tgt (by simp [tgtNames, asName]) h1
      · exact compNm_tgt (by simp [tgtNames, asName]) h2
    · rcases compNm_cases hz with ⟨h3, h4⟩ | ⟨h3, h4⟩
      · have hm := List.mem_of_getElem? h4
        simp [tgtNames, asName] at hm
        rcases hm with rfl | rfl
        · rw [h1] at hz; cases hz
          exact .inr (.inl rfl)
        · rw [h2] at hz; cases hz
          exact .inr (.inr rfl)
      · exact .inl (K.below _ _ (mem_of_lookup h4))

theorem comp_core {elt target iter : Expr} {ifs : List Expr} {scope : Scope} {pos pos' : Pos} {nx : Nat} {t : Tgt} {it : CIt} {c : CE} {cs : CEs} {F' : Expr → Option CE} {two : Bool} {xs l : List V} {w : List (Nat × MObj)} {σ σ₁ σ₂ : Sto} {use : Option (Value → Sem Unit)} {Q : Value → Shared → Prop}
    (hA : AOk A d) (K : CompOk scope env.scope nm nx (tgtNames target)) (hs : ∀ x, foldedSetIterable iter env x = pure x) (htg : tgOk two target)
    (hi : SndI g A env nm iter two (srcC call it)) (hct : cTgt (relS scope env.scope) (compNm scope nm nx (tgtNames target)) target = some t)
    (hE : ∀ e', e'.scope = relS scope env.scope → SndE g A e' (compNm scope nm nx (tgtNames target)) elt (evalC call c)) (hcs : cList F' ifs = some cs) (hT : ∀ e', e'.scope = relS scope env.scope → ∀ e c, F' e = some c → SndT g A e' (compNm scope nm nx (tgtNames target)) e (testC call c))
    (h1 : srcC call it ρ σ = some (xs, w, σ₁)) (h2 : compL (evalC call c) (testCs call cs) t w xs ρ σ₁ = some (l, σ₂)) (hl : l.length ≤ szLine) (R : RepS g φ σ s.heap) (F : FrR g φ env nm ρ s.heap)
    (hQ : ∀ D C s', CompEnd g φ s C D l σ₂ s' → s.heap.get? C = none → compPost (model g.prog g.w) A E use Q (.ref D) C (.ok .next) s') :
    wpAny (model g.prog g.w) A (comprehension (.ListComp elt [⟨target, iter, ifs, 0⟩] scope pos) scope env pos' (newList []) false (eval iter env) use) Q E s := by
  refine wpAny_comprehension_free (use := use) rfl hs (closureFor_eq scope (clos_of F K)) K.kind (fun x hx hl => K.uniq _ _ (by rw [← hl]; exact hx)) (wpAny_mono (hi ρ σ xs w σ₁ h1 φ s R F E) (fun xv s₁ h₁ => ?_) fun _ _ e => e)
  obtain ⟨φ', S₁, R₁, T₁, mk⟩ := h₁
  refine mk E _ fun I ys vs wr kp St Mid h' Ti st₀ hk hys hwr0 hn hB => ?_
  have lv : ∀ b, b ∈ wr ∨ b ∈ kp → ∃ o, h'.get? b = some o := fun b hb => by
    rcases hb with hb | hb
    · obtain ⟨o, e, _⟩ := Ti.wrN _ _ st₀ b hb; exact ⟨o, e⟩
    · obtain ⟨o, _, _, e, _⟩ := Ti.kpN _ _ st₀ b hb; exact ⟨o, e⟩
  have R₂ : RepS g φ' σ₁ h' := R₁.keeps hk
  have F₁ := F.step R S₁
  refine wpAny_newObj_type ?_
  have hk3 : ∀ b o, h'.get? b = some o → (h'.push { cls := .type "list", data := .seq ([] : List Value).toArray }).get? b = some o := fun b o e => Heap.get?_push_of_some _ e
  have hDp : (h'.push { cls := .type "list", data := .seq ([] : List Value).toArray }).PlainList h'.objs.size #[] := ⟨_, Heap.get?_push_size _ rfl⟩
  show wpAny _ _ _ _ _ { s₁ with heap := h'.push { cls := .type "list", data := .seq ([] : List Value).toArray } }
  generalize h'.push { cls := .type "list", data := .seq ([] : List Value).toArray } = h₃ at hk3 hDp
  have hk13 : ∀ b o, s₁.heap.get? b = some o → h₃.get? b = some o := fun b o e => hk3 b o (hk b o e)
  have S₁₃ : SE φ' s₁.heap φ' h₃ := SE.keeps _ hk13
  have R₃ : RepS g φ' σ₁ h₃ := R₁.keeps hk13
  refine comp_env (s := { s₁ with heap := h₃ }) K R₃ (F₁.step R₁ S₁₃) fun cenv h₄ hk4 hsc F₄ hC3 hown hcells => ?_
  dsimp only at hk4 hC3 hown hcells
  have hk14 : ∀ b o, s₁.heap.get? b = some o → h₄.get? b = some o := fun b o e => hk4 b o (hk13 b o e)
  have S₁₄ : SE φ' s₁.heap φ' h₄ := SE.keeps _ hk14
  have fr : ∀ b, h₃.get? b = none → s.heap.get? b = none := fun b hb => S₁.back (fresh_of hk13 hb)
  obtain ⟨hsl, hrg⟩ := tgt_slots (env' := { cenv with scope := relabel scope env }) K (by show cTgt (relabel scope env) _ _ = _; rw [relabel_rel]; exact hct)
  have hDf : h'.get? h'.objs.size = none := fresh_size _
  have hcelB : ∀ x b, cenv.cells.lookup x = some b → (∃ o, h'.get? b = some o) → ∃ y, env.cells.lookup y = some b := fun x b e ⟨o, ho⟩ => by
    rcases hcells x b e with q | q
    · rw [hk3 b o ho] at q; cases q
    · exact q
  have envLive : ∀ y b, env.cells.lookup y = some b → ∃ u, s.heap.IsCell b u := fun y b e => (F.cellF y b e).1
  have loop : codeAny (model g.prog g.w) A (.compLoop (.ListComp elt [⟨target, iter, ifs, 0⟩] scope pos) 0 (.ref I) (.ref h'.objs.size) { cenv with scope := relabel scope env }) (compPost (model g.prog g.w) A E use Q (.ref h'.objs.size) cenv.locals) { s₁ with heap := h₄ } := by
    refine comp_run (s₀ := s) (φ₀ := φ) (cenv := { cenv with scope := relabel scope env }) (φ := φ') (l := l) (σe := σ₂) (ρ := ρ) (t := t) (nx := nx) (c := c) (cs := cs) (F' := F') (call := call) hA Ti htg (by show cTgt (relabel scope env) _ _ = _; rw [relabel_rel]; exact hct) hsl hrg
      (hE _ (relabel_rel _ _)) hcs (hT _ (relabel_rel _ _)) ⟨?_, ?_, ?_⟩ ?_ ?_ (fr _ hC3) (fun x hx c e => fr _ (hown x hx c e)) hwr0 ?_ hB ?_ hl h2 (S₁.trans S₁₄) (T₁.trans ⟨rfl, rfl, rfl⟩) (R₁.keeps hk14) F₄ (Ti.frame _ _ _ st₀ fun b _ o e => hk4 b o (hk3 b o e)) (hys.step R₂ (SE.keeps _ fun b o e => hk4 b o (hk3 b o e))) hn (hDp.at fun o e => hk4 _ o e) ?_ fun s' hs' => hQ _ _ s' hs' (fr _ hC3)
    · rintro b hb rfl
      obtain ⟨o, e⟩ := lv _ hb
      rw [hk3 _ o e] at hC3; cases hC3
    · intro b hb x e
      obtain ⟨y, hy⟩ := hcelB x b e (lv b hb)
      obtain ⟨u, o, ho, hd⟩ := envLive y b hy
      rcases hb with hb | hb
      · rw [hwr0 b hb] at ho; cases ho
      · obtain ⟨o', items, n', e', hd'⟩ := Ti.kpN _ _ st₀ b hb
        have hcell : h'.get? b = some o := hk b o (S₁.pres b o ho (F.cellF y b hy).2.1)
        rw [hcell] at e'; cases e'
        rw [hd] at hd'; cases hd'
    · rintro b hb rfl
      obtain ⟨o, e⟩ := lv _ hb
      rw [hDf] at e; cases e
    · rintro e
      obtain ⟨n', ho⟩ := hDp
      rw [show cenv.locals = h'.objs.size from e.symm, ho] at hC3; cases hC3
    · intro x e
      rcases hcells x _ e with q | ⟨y, hy⟩
      · obtain ⟨n', ho⟩ := hDp
        rw [ho] at q; cases q
      · obtain ⟨u, o, ho, hd⟩ := envLive y _ hy
        have : h'.get? h'.objs.size = some o := hk _ o (S₁.pres _ o ho (F.cellF y _ hy).2.1)
        rw [hDf] at this; cases this
    · exact S₁.back (fresh_of hk hDf)
    · exact fresh_base R₂ hDf
    · exact fresh_phi R₂ hDf
  exact codeAny_compStart_list loop (Ti.self 0 _ _ _ (Ti.frame _ _ _ st₀ fun b _ o e => hk4 b o (hk3 b o e)) loop)

theorem CompEnd.evp {C D : Addr} {l : List V} {σe : Sto} {s' : Shared} {h' : Heap} {σ : Sto} (R : RepS g φ σ s.heap) (x : CompEnd g φ s C D l σe s') (hC : s.heap.get? C = none) (hs : Heap.SameBut C s'.heap h') : EvP g φ s (.ref σe.length) (σe ++ [.lst l]) (.ref D) { s' with heap := h' } := by
  obtain ⟨φ', S, R', V', T, hCφ, m, hn⟩ := x
  have M : ∀ b o, b ≠ C → s'.heap.get? b = some o → h'.get? b = some o := fun b o hb e => hs.extBut b o hb e
  have R₂ : RepS g φ' (σe ++ [.lst l]) h' := R'.other hCφ (fresh_base R hC) M (Ns.noSeq hn)
  refine ⟨φ', Stp.mv (wr := [C]) S R₂ (fun b o hb _ e => M b o (by simpa using hb) e) (fun _ q => q) (by simpa using hC), R₂, ?_, T.trans ⟨rfl, rfl, rfl⟩⟩
  cases V' with
  | ref h => exact .ref h

theorem snd_comp {elt target iter : Expr} {ifs : List Expr} {scope : Scope} {pos : Pos} {nx : Nat} {t : Tgt} {it : CIt} {c : CE} {cs : CEs} {F' : Expr → Option CE} {two : Bool}
    (hA : AOk A d) (K : CompOk scope env.scope nm nx (tgtNames target)) (hs : ∀ x, foldedSetIterable iter env x = pure x) (htg : tgOk two target)
    (hi : SndI g A env nm iter two (srcC call it)) (hct : cTgt (relS scope env.scope) (compNm scope nm nx (tgtNames target)) target = some t)
    (hE : ∀ e', e'.scope = relS scope env.scope → SndE g A e' (compNm scope nm nx (tgtNames target)) elt (evalC call c)) (hcs : cList F' ifs = some cs) (hT : ∀ e', e'.scope = relS scope env.scope → ∀ e c, F' e = some c → SndT g A e' (compNm scope nm nx (tgtNames target)) e (testC call c)) :
    SndE g A env nm (.ListComp elt [⟨target, iter, ifs, 0⟩] scope pos) (evalC call (.comp c t it cs)) := by
  intro ρ σ v σ' he φ s R F E
  obtain ⟨xs, w, σ₁, h1, he⟩ := bnd3_some he
  · · obtain ⟨l, σ₂, h2, he⟩ := bnd_some he
      obtain ⟨hz, rfl, rfl⟩ := new_some he
      rw [eval_ListComp]
      refine comp_core hA K hs htg hi hct hE hcs hT h1 h2 hz R F fun D C s' hce hC => ?_
      obtain ⟨φ', S, R', V', T, hCφ, m, hn⟩ := id hce
      exact ⟨m, hn, fun h' hs' => hce.evp R hC hs'⟩
end
end Lar

set_option autoImplicit false
set_option maxRecDepth 100000
namespace Lar
open PySem PyProof.Rows PySem.Calls PySem.SeqAt

theorem cExpr_star (cx : CCtx) (n : Nat) (sc : Scope) (nm : List (Str × Nat)) (nx : Nat) (e : Expr) (p : Pos) : cExpr cx n sc nm nx (.Starred e p) = none := by
  cases n <;> rfl
theorem cExpr_ns {cx : CCtx} {n : Nat} {sc : Scope} {nm : List (Str × Nat)} {nx : Nat} {x : Expr} {c : CE} (h : cExpr cx n sc nm nx x = some c) : ∀ e q, x ≠ .Starred e q := by
  rintro e q rfl
  exact no ((cExpr_star cx n sc nm nx e q).symm.trans h)
theorem cExpr_nslc {cx : CCtx} {n : Nat} {sc : Scope} {nm : List (Str × Nat)} {nx : Nat} {x : Expr} {c : CE} (h : cExpr cx n sc nm nx x = some c) : ∀ l u st p, x ≠ .Slice l u st p := by
  rintro l u st p rfl
  cases n <;> exact no h

section
variable {g : G} {cx : CCtx} {fs : List Fn} {mg mb : Str → Option Value} {A : Around} {call : CallF} {d : Nat}

theorem fold_iter {n : Nat} {cx : CCtx} {sc : Scope} {nm : List (Str × Nat)} {nx : Nat} {e : Expr} {it : CIt} {env : Env} (h : cIter cx n sc nm nx e = some it) : ∀ x, foldedSetIterable e env x = pure x := by
  intro x
  cases e with
  | Set a b c =>
    obtain ⟨c', h, _⟩ := ob (m := cExpr cx n sc nm nx (.Set a b c)) (k := fun c => some (CIt.ex c)) h
    cases n <;> exact no h
  | _ => rfl

theorem tgOk_of {it : CIt} {t : Tgt} {e : Expr} {sc : Scope} {nm : List (Str × Nat)} (h : itTgtOk it t = true) (hc : cTgt sc nm e = some t) : tgOk (itTwo it) e := by
  unfold cTgt at hc
  cases hn : asName e with
  | some x =>
    rw [hn] at hc
    obtain ⟨p, ht⟩ := asName_some hn
    obtain ⟨i, _, hc⟩ := ob hc
    refine .inr ⟨?_, x, p, ht⟩
    rw [← sm hc, itTgtOk] at h
    cases hq : itTwo it with
    | false => rfl
    | true =>
      rw [hq] at h
      exact absurd h Bool.false_ne_true
  | none =>
    rw [hn] at hc
    obtain ⟨l, hl, _⟩ := ob hc
    obtain ⟨k, p, ht⟩ := asTup_some hl
    exact .inl ⟨_, _, _, ht⟩

theorem both {env : Env} {nm : List (Str × Nat)} {e : Expr} {c : CE} (h : SndE g A env nm e (evalC call c)) (he : isTrue e env (eval e env) = (do let v ← eval e env; standAt e.pos; holding [v] (truthy v))) :
    SndE g A env nm e (evalC call c) ∧ SndT g A env nm e (testC call c) := ⟨h, snd_plain h he⟩

/-- what is known of the parts of an expression -/
noncomputable def IHE (g : G) (A : Around) (call : CallF) (F : Scope → List (Str × Nat) → Nat → Expr → Option CE) : Prop := ∀ (env : Env) nm nx e c, F env.scope nm nx e = some c → SndE g A env nm e (evalC call c) ∧ SndT g A env nm e (testC call c)

theorem snd_cmpC {env : Env} {nm : List (Str × Nat)} {f : Expr → Option CE} (hA : AOk A d) (ih1 : ∀ e c, f e = some c → SndE g A env nm e (evalC call c)) {l : Expr} {ops : List CmpOp} {rs : List Expr} {p : Pos} {c : CE} (h : cCmp f l ops rs = some c) :
    SndE g A env nm (.Compare l ops rs p) (evalC call c) ∧ SndT g A env nm (.Compare l ops rs p) (testC call c) := by
  obtain ⟨op, h1, h⟩ := ob h
  obtain ⟨r, h2, h⟩ := ob h
  obtain ⟨hm, h⟩ := iteN h
  obtain ⟨a, ha, h⟩ := ob h
  obtain ⟨b, hb, h⟩ := ob h
  obtain rfl := sm h
  obtain rfl := sole_some h1
  obtain rfl := sole_some h2
  exact snd_cmp hA (Bool.eq_false_iff.mpr hm) (ih1 _ _ ha) (ih1 _ _ hb)

theorem snd_subC {env : Env} {nm : List (Str × Nat)} {f : Expr → Option CE} (ih1 : ∀ e c, f e = some c → SndE g A env nm e (evalC call c)) (hns : ∀ e c, f e = some c → ∀ l u st p, e ≠ .Slice l u st p) {v i : Expr} {p : Pos} {c : CE} (h : cSub f v i = some c) :
    SndE g A env nm (.Subscript v i p) (evalC call c) := by
  obtain ⟨a, ha, h⟩ := ob h
  by_cases hs : ∃ lo hi st p, i = .Slice lo hi st p
  · obtain ⟨lo, hi, st, q, rfl⟩ := hs
    obtain ⟨hst, h⟩ := iteS h
    obtain ⟨x, hx, h⟩ := ob h
    obtain ⟨y, hy, h⟩ := ob h
    obtain rfl := sm h
    cases st with
    | none => exact snd_slc ih1 (ih1 _ _ ha) hx hy
    | some _ => exact nomatch hst
  · have h' : ((f i).bind fun x => some (CE.idx a x)) = some c := by
      cases i with
      | Slice lo hi st p => exact absurd ⟨lo, hi, st, p, rfl⟩ hs
      | _ => exact h
    obtain ⟨x, hx, h⟩ := ob h'
    obtain rfl := sm h
    exact snd_idx (hns _ _ hx) (ih1 _ _ ha) (ih1 _ _ hx)

theorem not_star {f : Expr → Option CE} (hs : ∀ e p, f (.Starred e p) = none) {x : Expr} {a : CE} (hx : f x = some a) : ∀ e q, x ≠ .Starred e q := fun e q eq => by
  rw [eq, hs] at hx; exact no hx
theorem snd_isiC {env : Env} {nm : List (Str × Nat)} {f : Expr → Option CE} (hA : AOk A d) (G : GOk g cx fs mg mb) (hs : ∀ e p, f (.Starred e p) = none) (ih1 : ∀ e c, f e = some c → SndE g A env nm e (evalC call c)) {as : List Expr} {p pos : Pos} {c : CE} (hg : isGlob env.scope ("isinstance" : Str) = true)
    (h : cIsiC f env.scope as = some c) : SndE g A env nm (.Call (.Name ("isinstance" : Str) p) as [] pos) (evalC call c) := by
  obtain ⟨⟨x, t⟩, hl, h⟩ := ob h
  obtain ⟨tn, ht, h⟩ := ob h
  obtain ⟨hgt, h⟩ := iteS h
  obtain ⟨q, hq, h⟩ := ob h
  obtain ⟨a, ha, h⟩ := ob h
  obtain rfl := sm h
  obtain rfl := two_some hl
  obtain ⟨p', rfl⟩ := asName_some ht
  exact snd_isi hA G (not_star hs ha) (ih1 _ _ ha) hg hgt hq
theorem snd_callN {env : Env} {nm : List (Str × Nat)} {f : Expr → Option CE} (hA : AOk A d) (G : GOk g cx fs mg mb) (hC : SndC g A fs call) (hs : ∀ e p, f (.Starred e p) = none) (ih1 : ∀ e c, f e = some c → SndE g A env nm e (evalC call c)) {gn : Str} {as : List Expr} {p pos : Pos} {c : CE} (hg : isGlob env.scope gn = true)
    (h : cCallN f cx env.scope gn as = some c) : SndE g A env nm (.Call (.Name gn p) as [] pos) (evalC call c) := by
  unfold cCallN at h
  cases hk : funIdx cx gn with
  | some k =>
    rw [hk] at h
    obtain ⟨hne, h⟩ := iteN h
    obtain ⟨cs, hcs, h⟩ := ob h
    obtain rfl := sm h
    exact snd_call G hC hs ih1 hg hk (Bool.eq_false_iff.mpr hne) hcs
  | none =>
    rw [hk] at h
    by_cases hi : (gn == ("isinstance" : Str)) = true
    · replace h := (if_pos hi).symm.trans h
      obtain rfl := beq_iff_eq.mp hi
      exact snd_isiC hA G hs ih1 hg h
    · replace h := (if_neg hi).symm.trans h
      obtain ⟨q, hq, h⟩ := ob h
      obtain ⟨cs, hcs, h⟩ := ob h
      obtain rfl := sm h
      exact snd_prim hA G hs ih1 hg hq hcs
theorem snd_callC {env : Env} {nm : List (Str × Nat)} {f : Expr → Option CE} (hA : AOk A d) (G : GOk g cx fs mg mb) (hC : SndC g A fs call) (hs : ∀ e p, f (.Starred e p) = none) (ih1 : ∀ e c, f e = some c → SndE g A env nm e (evalC call c)) {fn : Expr} {as : List Expr} {ks : List Keyword} {pos : Pos} {c : CE}
    (h : cCall f cx env.scope fn as ks pos = some c) : SndE g A env nm (.Call fn as ks pos) (evalC call c) := by
  cases fn with
  | Name gname p =>
    cases ks with
    | nil => exact snd_callN hA G hC hs ih1 (iteS h).1 (iteS h).2
    | cons k ks => exact no (iteS h).2
  | Attribute o m ap =>
    obtain ⟨hc, h⟩ := iteS h
    obtain ⟨q, hq, h⟩ := ob h
    obtain ⟨a, ha, h⟩ := ob h
    obtain ⟨cs, hcs, h⟩ := ob h
    obtain rfl := sm h
    simp only [Bool.and_eq_true] at hc
    obtain ⟨⟨hk, hro⟩, hline⟩ := hc
    obtain rfl := List.isEmpty_iff.mp hk
    exact snd_meth G hs ih1 (ih1 _ _ ha) hro hline hq hcs
  | _ => exact no h

theorem snd_rangeC {env : Env} {nm : List (Str × Nat)} {f : Expr → Option CE} (hA : AOk A d) (G : GOk g cx fs mg mb) (hs : ∀ e p, f (.Starred e p) = none) (ih1 : ∀ e c, f e = some c → SndE g A env nm e (evalC call c)) {as : List Expr} {p q : Pos} {it : CIt} (hg : isGlob env.scope ("range" : Str) = true) (h : cRange f as = some it) : SndI g A env nm (.Call (.Name ("range" : Str) p) as [] q) (itTwo it) (srcC call it) := by
  match as, h with
  | [], h => exact no h
  | [a], h =>
    obtain ⟨x, hx, h⟩ := ob h
    obtain rfl := sm h
    exact snd_rng1 hA G hg (not_star hs hx) (ih1 _ _ hx)
  | [a, b], h =>
    obtain ⟨x, hx, h⟩ := ob h
    obtain ⟨y, hy, h⟩ := ob h
    obtain rfl := sm h
    exact snd_rng2 hA G hg (not_star hs hx) (not_star hs hy) (ih1 _ _ hx) (ih1 _ _ hy)
  | a :: b :: c :: r, h =>
    obtain ⟨x, hx, h⟩ := ob h
    obtain ⟨y, hy, h⟩ := ob h
    exact no h
theorem snd_srcC {env : Env} {nm : List (Str × Nat)} {f : Expr → Option CE} (hA : AOk A d) (G : GOk g cx fs mg mb) (hs : ∀ e p, f (.Starred e p) = none) (ih1 : ∀ e c, f e = some c → SndE g A env nm e (evalC call c)) {gn : Str} {as : List Expr} {p q : Pos} {it : CIt} (hg : isGlob env.scope gn = true)
    (h : cSrc f gn as (.Call (.Name gn p) as [] q) = some it) : SndI g A env nm (.Call (.Name gn p) as [] q) (itTwo it) (srcC call it) := by
  unfold cSrc at h
  by_cases h1 : (gn == ("range" : Str)) = true
  · replace h := (if_pos h1).symm.trans h
    obtain rfl := beq_iff_eq.mp h1
    exact snd_rangeC hA G hs ih1 hg h
  · replace h := (if_neg h1).symm.trans h
    ·
      ·
        obtain ⟨c, hc, h⟩ := ob h
        obtain rfl := sm h
        exact snd_ex hA (ih1 _ _ hc)

theorem snd_itC {env : Env} {nm : List (Str × Nat)} {f : Expr → Option CE} (hA : AOk A d) (G : GOk g cx fs mg mb) (hs : ∀ e p, f (.Starred e p) = none) (ih1 : ∀ e c, f e = some c → SndE g A env nm e (evalC call c)) {e : Expr} {it : CIt} (h : cIt f cx env.scope e = some it) : SndI g A env nm e (itTwo it) (srcC call it) := by
  have ex : cEx1 f e = some it → SndI g A env nm e (itTwo it) (srcC call it) := fun h => by
    obtain ⟨c, hc, h⟩ := ob h
    obtain rfl := sm h
    exact snd_ex hA (ih1 _ _ hc)
  unfold cIt at h
  cases hp : callName e with
  | none => rw [hp] at h; exact ex h
  | some p =>
    rw [hp] at h
    obtain ⟨gn, as⟩ := p
    by_cases hg : (isGlob env.scope gn && (funIdx cx gn).isNone) = true
    · replace h := (if_pos hg).symm.trans h
      have hg' : isGlob env.scope gn = true := (Bool.and_eq_true_iff.mp hg).1
      obtain ⟨p, q, rfl⟩ := callName_some hp
      exact snd_srcC hA G hs ih1 hg' h
    · exact ex ((if_neg hg).symm.trans h)

/-- the parts of a comprehension -/
theorem cLC_some {F : Scope → List (Str × Nat) → Nat → Expr → Option CE} {fI : Expr → Option CIt} {sc : Scope} {nm : List (Str × Nat)} {nx : Nat} {elt : Expr} {gens : List Comprehension} {scope : Scope} {a : CE} (h : cLC F fI sc nm nx elt gens scope = some a) :
    ∃ target iter ifs it t cs c, gens = [⟨target, iter, ifs, 0⟩] ∧ compOk scope sc nm nx (tgtNames target) = true ∧ fI iter = some it ∧ cTgt (relS scope sc) (compNm scope nm nx (tgtNames target)) target = some t ∧
      cList (F (relS scope sc) (compNm scope nm nx (tgtNames target)) (nx + 2)) ifs = some cs ∧ F (relS scope sc) (compNm scope nm nx (tgtNames target)) (nx + 2) elt = some c ∧ itTgtOk it t = true ∧ a = .comp c t it cs := by
  obtain ⟨⟨target, iter, ifs, as⟩, h1, h⟩ := ob h
  obtain ⟨hok, h⟩ := iteS h
  obtain ⟨ha, hok⟩ := Bool.and_eq_true_iff.mp hok
  obtain ⟨it, hit, h⟩ := ob h
  obtain ⟨t, ht, h⟩ := ob h
  obtain ⟨cs, hcs, h⟩ := ob h
  obtain ⟨c, hc, h⟩ := ob h
  obtain ⟨htt, h⟩ := iteS h
  have hc' := (sm h).symm
  obtain rfl := sole_some h1
  obtain rfl : as = 0 := beq_iff_eq.mp ha
  exact ⟨target, iter, ifs, it, t, cs, c, rfl, hok, hit, ht, hcs, hc, htt, hc'⟩

theorem snd_all (hA : AOk A d) (G : GOk g cx fs mg mb) (hC : SndC g A fs call) : ∀ n, IHE g A call (cExpr cx n) := by
  intro n
  induction n with
  | zero => exact fun env nm nx e c h => no h
  | succ n ih =>
    intro env nm nx e c h
    have hs : ∀ e p, cExpr cx n env.scope nm nx (.Starred e p) = none := fun e p => cExpr_star ..
    have ih1 : ∀ e c, cExpr cx n env.scope nm nx e = some c → SndE g A env nm e (evalC call c) := fun e c h => (ih env nm nx e c h).1
    have ih2 : ∀ e c, cExpr cx n env.scope nm nx e = some c → SndT g A env nm e (testC call c) := fun e c h => (ih env nm nx e c h).2
    replace h : cExprF (cExpr cx n) (fun i => cIt (cExpr cx n env.scope nm nx) cx env.scope i) cx env.scope nm nx e = some c := h
    cases e with
    | Constant k _ _ =>
      obtain ⟨v, hv, h⟩ := ob h
      obtain rfl := sm h
      exact both (snd_const hv) rfl
    | Name x p => exact both (snd_name G h) rfl
    | BinOp l op r p =>
      obtain ⟨a, ha, h⟩ := ob h
      obtain ⟨b, hb, h⟩ := ob h
      obtain rfl := sm h
      exact both (snd_bin (ih1 _ _ ha) (ih1 _ _ hb)) rfl
    | UnaryOp op x p =>
      obtain ⟨a, ha, h⟩ := ob h
      cases op with
      | Not => obtain rfl := sm h; exact snd_not (ih1 _ _ ha) (ih2 _ _ ha)
      | USub => obtain rfl := sm h; exact both (snd_neg (ih1 _ _ ha)) rfl
      | _ => exact no h
    | BoolOp op vs p => exact ⟨snd_boolE ih1 _ _ _ _ h, fun ρ σ b σ' he φ s R F E => snd_boolT ih2 _ _ _ _ _ h ρ σ b σ' he φ s R F E⟩
    | IfExp t a b p =>
      obtain ⟨x, hx, h⟩ := ob h
      obtain ⟨y, hy, h⟩ := ob h
      obtain ⟨z, hz, h⟩ := ob h
      obtain rfl := sm h
      exact snd_ite (ih2 _ _ hx) (ih1 _ _ hy) (ih2 _ _ hy) (ih1 _ _ hz) (ih2 _ _ hz)
    | Compare l ops rs p => exact snd_cmpC hA ih1 h
    | List es p =>
      obtain ⟨cs, hcs, h⟩ := ob h
      obtain rfl := sm h
      exact both (snd_list hs ih1 hcs) rfl
    | Tuple es k p =>
      obtain ⟨cs, hcs, h⟩ := ob h
      obtain rfl := sm h
      exact both (snd_tuple hs ih1 hcs) rfl
    | Dict ks vs p =>
      obtain ⟨hk, h⟩ := iteS h
      obtain rfl := sm h
      obtain ⟨h1, h2⟩ := Bool.and_eq_true_iff.mp hk
      obtain rfl := List.isEmpty_iff.mp h1
      obtain rfl := List.isEmpty_iff.mp h2
      exact both snd_dict0 rfl
    | Subscript v i p => exact both (snd_subC ih1 (fun e c h => cExpr_nslc h) h) rfl
    | Call fn as ks p => exact both (snd_callC hA G hC hs ih1 h) rfl
    | ListComp elt gens scope pos =>
      obtain ⟨target, iter, ifs, it, t, cs, c', rfl, hok, hit, ht, hcs, hc', htt, rfl⟩ := cLC_some h
      refine both (snd_comp hA (compOk_of hok) (fold_iter hit) (tgOk_of htt ht) (snd_itC hA G hs ih1 hit) ht (fun e' he' => ?_) hcs fun e' he' e c h => ?_) rfl
      · rw [← he'] at hc'; exact (ih _ _ _ _ _ hc').1
      · rw [← he'] at h; exact (ih _ _ _ _ _ h).2
    | _ => exact no h
theorem snd_iter (hA : AOk A d) (G : GOk g cx fs mg mb) (hC : SndC g A fs call) (n : Nat) (env : Env) (nm : List (Str × Nat)) (nx : Nat) (e : Expr) (it : CIt) (h : cIter cx n env.scope nm nx e = some it) : SndI g A env nm e (itTwo it) (srcC call it) :=
  snd_itC hA G (fun e p => cExpr_star ..) (fun e c h => (snd_all hA G hC n env nm nx e c h).1) h
end
end Lar

set_option autoImplicit false
set_option maxRecDepth 100000
namespace Lar
open PySem PyProof.Rows PySem.Calls PySem.SeqAt

noncomputable def FlP (g : G) (φ : List Addr) (env : Env) (nm : List (Str × Nat)) (s : Shared) : Flow → Loc → Sto → PySem.Flow → Shared → Prop
  | .next, ρ', σ', f, s' => f = .next ∧ ExP g φ env nm s ρ' σ' s'
  | .ret v, _, σ', f, s' => ∃ a φ', f = .ret a ∧ Stp (FM φ env) φ s.heap φ' s'.heap ∧ RepS g φ' σ' s'.heap ∧ VR g φ' s'.heap v a ∧ Same s s'
  | .exc _ _, _, _, _, _ => False

noncomputable def okF : Flow → Prop
  | .exc _ _ => False
  | _ => True

noncomputable def SndS (g : G) (A : Around) (env : Env) (nm : List (Str × Nat)) (st : Stmt) (m : Loc → Sto → Option (Flow × Loc × Sto)) : Prop :=
  ∀ ρ σ fl ρ' σ', m ρ σ = some (fl, ρ', σ') → okF fl → ∀ φ s, RepS g φ σ s.heap → FrR g φ env nm ρ s.heap → ∀ E, wpAny (model g.prog g.w) A (exec st env) (FlP g φ env nm s fl ρ' σ') E s
noncomputable def SndSs (g : G) (A : Around) (env : Env) (nm : List (Str × Nat)) (st : List Stmt) (m : Loc → Sto → Option (Flow × Loc × Sto)) : Prop :=
  ∀ ρ σ fl ρ' σ', m ρ σ = some (fl, ρ', σ') → okF fl → ∀ φ s, RepS g φ σ s.heap → FrR g φ env nm ρ s.heap → ∀ E, wpAny (model g.prog g.w) A (execs st env) (FlP g φ env nm s fl ρ' σ') E s

section
variable {g : G} {cx : CCtx} {fs : List Fn} {mg mb : Str → Option Value} {A : Around} {E : Value → Shared → Prop} {φ φ₁ : List Addr} {σ σ₁ σ' : Sto} {s s₁ : Shared} {env : Env} {nm : List (Str × Nat)} {ρ ρ' : Loc} {call : CallF} {d : Nat}

theorem FlP.after {fl : Flow} {f : PySem.Flow} {s₂ : Shared} (S : Stp (FM φ env) φ s.heap φ₁ s₁.heap) (T : Same s s₁) (h : FlP g φ₁ env nm s₁ fl ρ' σ' f s₂) : FlP g φ env nm s fl ρ' σ' f s₂ := by
  cases fl with
  | next =>
    obtain ⟨e, φ', S', R', F', T'⟩ := h
    exact ⟨e, φ', FM.trans S S', R', F', T.trans T'⟩
  | ret v =>
    obtain ⟨a, φ', e, S', R', V', T'⟩ := h
    exact ⟨a, φ', e, FM.trans S S', R', V', T.trans T'⟩
  | exc c w => exact h.elim

theorem swap_false {v : Expr} {t : Expr} {ln : Nat} (hv : ∀ a b c d, v ≠ .ListComp a b c d) {n : Nat} {sc : Scope} {nx : Nat} {c : CE} (hc : cExpr cx n sc nm nx v = some c) : swapsWith v (some t) ln env = pure false := by
  cases v with
  | ListComp a b c d => exact absurd rfl (hv a b c d)
  | SetComp a b c d => cases n <;> exact no hc
  | DictComp a b c d e => cases n <;> exact no hc
  | _ => rfl

theorem snd_assign {x : Str} {p pos : Pos} {v : Expr} {t : Tgt} {a : CE} (hA : AOk A d) (ht : cTgt env.scope nm (.Name x p) = some t) (hs : swapsWith v (some (.Name x p)) pos.line env = pure false) (hv : SndE g A env nm v (evalC call a)) :
    SndS g A env nm (.Assign [.Name x p] v pos) (execC call (.assign t a)) := by
  intro ρ σ fl ρ' σ' he hok φ s R F E
  rw [ex_assign] at he
  obtain ⟨x', σ₁, h1, he⟩ := bnd_some he
  obtain ⟨ρ₁, hp, he⟩ := ob he
  obtain ⟨rfl, rfl, rfl⟩ := sm3 he
  refine wpAny_Assign_Name (hv.bind h1 R F fun av s₁ φ₁ S T R₁ F₁ V₁ => ?_) hs
  obtain ⟨i, rfl, hx, hk⟩ := cTgt_name ht
  obtain rfl := sm hp
  refine store_name F₁ R₁ hx hk V₁ fun h' tk S' R' F' _ => ⟨rfl, φ₁, FM.trans (Stp.ofSE S env) (S'.mono fun b hb => ?_), R', F', T.trans ⟨rfl, rfl, rfl⟩⟩
  rcases hb with hb | hb
  · exact .inr (.inl hb)
  · exact .inr (.inr ⟨x, hb⟩)

theorem snd_assignT {ts : List Expr} {k : Nat} {p pos : Pos} {v : Expr} {t : Tgt} {a : CE} (hA : AOk A d) (ht : cTgt env.scope nm (.Tuple ts k p) = some t) (hs : swapsWithSole [.Tuple ts k p] v pos.line env = pure false) (hw : swappedStores [.Tuple ts k p] v env = pure none) (hv : SndE g A env nm v (evalC call a)) :
    SndS g A env nm (.Assign [.Tuple ts k p] v pos) (execC call (.assign t a)) := by
  intro ρ σ fl ρ' σ' he hok φ s R F E
  rw [ex_assign] at he
  obtain ⟨x', σ₁, h1, he⟩ := bnd_some he
  obtain ⟨ρ₁, hp, he⟩ := ob he
  obtain ⟨rfl, rfl, rfl⟩ := sm3 he
  refine Assign_Tuple (hv.bind h1 R F fun av s₁ φ₁ S T R₁ F₁ V₁ => ?_) hs hw
  exact tgt_snd hA.handled ht hp R₁ F₁ V₁ fun h' tk S' R' F' _ => ⟨rfl, φ₁, FM.trans (Stp.ofSE S env) (S'.mono fun b hb => hb.fm), R', F', T.trans ⟨rfl, rfl, rfl⟩⟩

/-- a list display with a loop in it, stored at once -/
theorem snd_assignC {x : Str} {p pos : Pos} {elt target iter : Expr} {ifs : List Expr} {scope : Scope} {cpos : Pos} {nx : Nat} {t t' : Tgt} {it : CIt} {c : CE} {cs : CEs} {F' : Expr → Option CE} {two : Bool}
    (hA : AOk A d) (ht : cTgt env.scope nm (.Name x p) = some t') (hsw : swapsWith (.ListComp elt [⟨target, iter, ifs, 0⟩] scope cpos) (some (.Name x p)) pos.line env = pure true)
    (K : CompOk scope env.scope nm nx (tgtNames target)) (hs : ∀ x, foldedSetIterable iter env x = pure x) (htg : tgOk two target)
    (hi : SndI g A env nm iter two (srcC call it)) (hct : cTgt (relS scope env.scope) (compNm scope nm nx (tgtNames target)) target = some t)
    (hE : ∀ e', e'.scope = relS scope env.scope → SndE g A e' (compNm scope nm nx (tgtNames target)) elt (evalC call c)) (hcs : cList F' ifs = some cs) (hT : ∀ e', e'.scope = relS scope env.scope → ∀ e c, F' e = some c → SndT g A e' (compNm scope nm nx (tgtNames target)) e (testC call c)) :
    SndS g A env nm (.Assign [.Name x p] (.ListComp elt [⟨target, iter, ifs, 0⟩] scope cpos) pos) (execC call (.assign t' (.comp c t it cs))) := by
  intro ρ σ fl ρ' σ' he hok φ s R F E
  rw [ex_assign] at he
  obtain ⟨x', σ₃, h0', he⟩ := bnd_some he
  obtain ⟨xs, w, σ₁, h1, h0'⟩ := bnd3_some h0'
  obtain ⟨l, σ₂, h2, h0'⟩ := bnd_some h0'
  obtain ⟨ρ₁, hp, he⟩ := ob he
  obtain ⟨rfl, rfl, rfl⟩ := sm3 he
  obtain ⟨hz, rfl, rfl⟩ := new_some h0'
  · · · · obtain ⟨i, rfl, hx, hk⟩ := cTgt_name ht
          obtain rfl := sm hp
          rw [exec_Assign_Name_used _ _ _ _ hsw]
          refine wpAny_bind (wpAny_standAt (wpAny_bind ?_))
          show wpAny _ A (do let _ ← comprehension (.ListComp elt [⟨target, iter, ifs, 0⟩] scope cpos) scope env _ (newList []) false (eval iter env) (some (assign (.Name x p) env))) _ _ s
          refine wpAny_bind (wpAny_mono (comp_core (use := some (assign (.Name x p) env)) (Q := fun _ s' => FlP g φ env nm s .next (upd ρ i (.ref σ₂.length)) (σ₂ ++ [.lst l]) .next s') hA K hs htg hi hct hE hcs hT h1 h2 hz R F fun D C s' hce hC => ?_) (fun _ s' hq => wpAny_pure (wpAny_pure hq)) fun _ _ e => e)
          obtain ⟨φ', S, R', V', T, hCφ, m, hn⟩ := id hce
          have F₁ := F.step R S
          have hCL : C ≠ env.locals := by
            rintro rfl
            obtain ⟨m', ⟨o, _, _, ho, _⟩, _⟩ := F.ns
            rw [hC] at ho; cases ho
          have hCc : ∀ y, env.cells.lookup y ≠ some C := fun y e => by
            obtain ⟨⟨u, o, ho, _⟩, _⟩ := F.cellF y C e
            rw [hC] at ho; cases ho
          show wpAny _ A (assign (.Name x p) env (.ref D)) _ _ _
          refine wpAny_assign_Name (store_name F₁ R' hx hk V' fun h₂ tk S₂ R₂ F₂ up => ?_)
          have hn₂ : h₂.Ns C m := by
            obtain ⟨o, es, ep, ho, r⟩ := hn
            exact ⟨o, es, ep, S₂.pres _ _ ho (fun q => by rcases q with q | q; exact hCL q; exact hCc x q), r⟩
          refine ⟨m, hn₂, fun h₃ hs₃ => ⟨rfl, φ', ?_, ?_, ?_, T.trans ⟨rfl, rfl, rfl⟩⟩⟩
          · have S₀₂ : Stp (FM φ env) φ s.heap φ' h₂ := FM.trans (Stp.ofSE S env) (S₂.mono fun b hb => by rcases hb with hb | hb; exact .inr (.inl hb); exact .inr (.inr ⟨x, hb⟩))
            have R₃ : RepS g φ' (σ₂ ++ [.lst l]) h₃ := R₂.other hCφ (fresh_base R hC) (fun b o hb e => hs₃.extBut b o hb e) (Ns.noSeq hn₂)
            exact Stp.mv (wr := [C]) S₀₂ R₃ (fun b o hb _ e => hs₃.extBut b o (by simpa using hb) e) (fun _ q => .inl q) (by simpa using hC)
          · exact R₂.other hCφ (fresh_base R hC) (fun b o hb e => hs₃.extBut b o hb e) (Ns.noSeq hn₂)
          · refine F₂.mv (wr := [C]) (fun b o hb _ e => hs₃.extBut b o (by simpa using hb) e) (fun b hb o e hc hsq => ?_) (by simpa using fun q => hCL q.symm) (fun y c e => by simp; rintro rfl; exact hCc y e)
            simp at hb; subst hb
            obtain ⟨items, n', hd⟩ := hsq
            exact Ns.noSeq hn₂ o e items n' hd

theorem snd_setItem {o i v : Expr} {p pos : Pos} {a b c : CE} (hs : swapsWith v (some (.Subscript o i p)) pos.line env = pure false) (ho : SndE g A env nm o (evalC call a)) (hi : SndE g A env nm i (evalC call b)) (hv : SndE g A env nm v (evalC call c)) :
    SndS g A env nm (.Assign [.Subscript o i p] v pos) (execC call (.setItem a b c)) := by
  intro ρ σ fl ρ' σ' he hok φ s R F E
  rw [ex_setItem] at he
  obtain ⟨x, σ₁, h1, he⟩ := bnd_some he
  obtain ⟨y, σ₂, h2, he⟩ := bnd_some he
  obtain ⟨z, σ₃, h3, he⟩ := bnd_some he
  obtain ⟨σ₄, h4, he⟩ := ob he
  obtain ⟨rfl, rfl, rfl⟩ := sm3 he
  refine wpAny_Assign_Subscript (hv.bind h1 R F fun a s₁ φ₁ S T R₁ F₁ V₁ => ho.bind h2 R₁ F₁ fun b s₂ φ₂ S₂ T₂ R₂ F₂ V₂ => hi.bind h3 R₂ F₂ fun c s₃ φ₃ S₃ T₃ R₃ F₃ V₃ => ?_) hs
  refine set_snd h4 R₃ (V₂.step R₂ S₃) V₃ ((V₁.step R₁ S₂).step R₂ S₃) fun h' tk S' R' => ?_
  exact ⟨rfl, φ₃, Stp.ofSE (S.trans (S₂.trans (S₃.trans S'))) env, R', F₃.step R₃ S', T.trans (T₂.trans (T₃.trans ⟨rfl, rfl, rfl⟩))⟩

theorem snd_expr {e : Expr} {pos : Pos} {m : Meth} {o : CE} {as : CEs} (hm : m.isStep = true) (hk : env.scope.kind = .function) (hs : swapsWith e none pos.line env = pure false) (he : SndE g A env nm e (evalC call (.meth m o as))) :
    SndS g A env nm (.Expr e pos) (execC call (.expr (.meth m o as))) := by
  intro ρ σ fl ρ' σ' h hok φ s R F E
  rw [ex_expr] at h
  obtain ⟨v, σ₁, q, h⟩ := bnd_some h
  obtain ⟨rfl, rfl, rfl⟩ := sm3 h
  have hv : v = .none := by
    obtain ⟨x, σ₂, _, q⟩ := bnd_some q
    obtain ⟨_, q⟩ := iteS q
    obtain ⟨vs, σ₃, _, q⟩ := bnd_some q
    exact step_none hm q
  subst hv
  refine wpAny_Expr (he.bind q R F fun a s₁ φ₁ S T R₁ F₁ V₁ => ?_) (by unfold interactive; rw [hk]; rfl) hs
  cases V₁
  exact ⟨rfl, φ₁, Stp.ofSE S env, R₁, F₁, T⟩

theorem snd_if {t : Expr} {a b : List Stmt} {pos : Pos} {c : CE} {x y : CSs} (ht : SndT g A env nm t (testC call c)) (ha : SndSs g A env nm a (execCs call x)) (hb : SndSs g A env nm b (execCs call y)) : SndS g A env nm (.If t a b pos) (execC call (.ite c x y)) := by
  intro ρ σ fl ρ' σ' h hok φ s R F E
  obtain ⟨p, σ₁, h1, h⟩ := bndB_some h
  refine wpAny_If (ht.bind (testC_of h1) R F fun s₁ φ₁ S T R₁ F₁ => ?_)
  cases p with
  | true => exact wpAny_mono (ha ρ σ₁ fl ρ' σ' h hok φ₁ s₁ R₁ F₁ E) (fun _ _ x => FlP.after (Stp.ofSE S env) T x) fun _ _ x => x
  | false => exact wpAny_mono (hb ρ σ₁ fl ρ' σ' h hok φ₁ s₁ R₁ F₁ E) (fun _ _ x => FlP.after (Stp.ofSE S env) T x) fun _ _ x => x

theorem snd_ret {e : Expr} {pos : Pos} {c : CE} (he : SndE g A env nm e (evalC call c)) : SndS g A env nm (.Return (some e) pos) (execC call (.ret c)) := by
  intro ρ σ fl ρ' σ' h hok φ s R F E
  rw [ex_ret] at h
  obtain ⟨v, σ₁, q, h⟩ := bnd_some h
  obtain ⟨rfl, rfl, rfl⟩ := sm3 h
  exact wpAny_Return_some (he.bind q R F fun a s₁ φ₁ S T R₁ F₁ V₁ => ⟨a, φ₁, rfl, Stp.ofSE S env, R₁, V₁, T⟩)

theorem snd_nil : SndSs g A env nm [] (execCs call .nil) := by
  intro ρ σ fl ρ' σ' h hok φ s R F E
  obtain ⟨rfl, rfl, rfl⟩ := sm3 h
  exact wpAny_execs_nil ⟨rfl, φ, Stp.refl _ _ _, R, F, Same.refl _⟩
theorem snd_cons {st : Stmt} {rest : List Stmt} {c : CS} {cs : CSs} (h1 : SndS g A env nm st (execC call c)) (h2 : SndSs g A env nm rest (execCs call cs)) : SndSs g A env nm (st :: rest) (execCs call (.cons c cs)) := by
  intro ρ σ fl ρ' σ' h hok φ s R F E
  rcases seqF_some h with ⟨ρ₁, σ₁, hx, h⟩ | ⟨hx, hne⟩
  · refine wpAny_execs_cons (wpAny_mono (h1 ρ σ .next ρ₁ σ₁ hx trivial φ s R F E) (fun f s₁ hf => ?_) fun _ _ x => x)
    obtain ⟨rfl, φ₁, S, R₁, F₁, T⟩ := hf
    exact wpAny_mono (h2 ρ₁ σ₁ fl ρ' σ' h hok φ₁ s₁ R₁ F₁ E) (fun _ _ x => FlP.after S T x) fun _ _ x => x
  · refine wpAny_execs_cons (wpAny_mono (h1 ρ σ fl ρ' σ' hx hok φ s R F E) (fun f s₁ hf => ?_) fun _ _ x => x)
    cases fl with
    | next => exact absurd rfl hne
    | ret v =>
      obtain ⟨a, φ', rfl, r⟩ := hf
      exact ⟨a, φ', rfl, r⟩
    | exc c w => exact hf.elim
end
end Lar

set_option autoImplicit false
set_option maxRecDepth 100000
namespace Lar
open PySem PyProof.Rows PySem.Calls PySem.SeqAt

section
variable {g : G} {cx : CCtx} {fs : List Fn} {mg mb : Str → Option Value} {A : Around} {E : Value → Shared → Prop} {φ φ₁ φ₀ : List Addr} {σ σ₁ σ' : Sto} {s s₁ s₀ : Shared} {env : Env} {nm : List (Str × Nat)} {ρ ρ' : Loc} {call : CallF} {d : Nat}

theorem VRs.up {l : List V} {vs : List Value} {h h' : Heap} (up : ∀ {v : V} {a : Value}, VR g φ h v a → VR g φ h' v a) (x : VRs g φ h l vs) : VRs g φ h' l vs := by
  induction vs generalizing l with
  | nil => cases x; exact .nil
  | cons v vs ih => cases x with | cons h1 h2 => exact .cons (up h1) (ih h2)

/-- values behind a step of the frame -/
theorem VR.stepF {h h' : Heap} {v : V} {a : Value} (F : FrR g φ env nm ρ h) (S : Stp (FM φ env) φ h φ₁ h') (x : VR g φ h v a) : VR g φ₁ h' v a := by
  refine x.stepT (fun n a e => S.pre e) fun b o e hc hs hn => ⟨S.pres b o e fun q => ?_, S.notin e hn⟩
  obtain ⟨items, n, hd⟩ := hs
  rcases q with q | q | ⟨y, q⟩
  · exact hn q
  · subst q
    obtain ⟨m, hns, _⟩ := F.ns
    exact Ns.noSeq hns o e items n hd
  · obtain ⟨⟨u, hu⟩, _⟩ := F.cellF y b q
    exact IsCell.noSeq hu o e items n hd
theorem VRs.stepF {h h' : Heap} (F : FrR g φ env nm ρ h) (S : Stp (FM φ env) φ h φ₁ h') {l : List V} {vs : List Value} (x : VRs g φ h l vs) : VRs g φ₁ h' l vs := by
  induction vs generalizing l with
  | nil => cases x; exact .nil
  | cons v vs ih => cases x with | cons h1 h2 => exact .cons (h1.stepF F S) (ih h2)

/-- between two turns -/
structure ForInv (g : G) (φ₀ : List Addr) (s₀ : Shared) (env : Env) (nm : List (Str × Nat)) (ys : List V) (vs : List Value) (wr kp : List Addr) (St : Nat → Heap → Prop) (k : Nat) (φ' : List Addr) (σ' : Sto) (ρ' : Loc) (s : Shared) : Prop where
  S : Stp (FM φ₀ env) φ₀ s₀.heap φ' s.heap
  T : Same s₀ s
  R : RepS g φ' σ' s.heap
  F : FrR g φ' env nm ρ' s.heap
  st : St k s.heap
  ys : VRs g φ' s.heap ys vs
  hn : ∀ b, b ∈ wr ∨ b ∈ kp → b ∉ φ'

theorem for_run {target : Expr} {body : List Stmt} {t : Tgt} {I : Addr} {xs ys : List V} {vs : List Value} {w : List (Nat × MObj)} {two : Bool} {wr kp : List Addr} {St : Nat → Heap → Prop} {Mid : Nat → Value → Heap → Prop} {m : Loc → Sto → Option (Flow × Loc × Sto)} {fl : Flow} {ρe : Loc} {σe : Sto} {Q : Result → Shared → Prop}
    (hA : AOk A d) (Ti : Itr g A I xs w two ys vs wr kp St Mid) (htg : tgOk two target) (hct : cTgt env.scope nm target = some t)
    (hb : SndSs g A env nm body m)
    (hwL : ∀ b, b ∈ wr ∨ b ∈ kp → b ≠ env.locals) (hwC : ∀ b, b ∈ wr ∨ b ∈ kp → ∀ x, env.cells.lookup x ≠ some b) (hwr0 : ∀ b ∈ wr, s₀.heap.get? b = none) (hB : ∀ b ∈ wr, g.B.get? b = none)
    (hc : loopC m t w xs ρ σ = some (fl, ρe, σe)) (hok : okF fl)
    (S : Stp (FM φ₀ env) φ₀ s₀.heap φ s.heap) (T : Same s₀ s) (R : RepS g φ σ s.heap) (F : FrR g φ env nm ρ s.heap) (h0 : St 0 s.heap) (hys : VRs g φ s.heap ys vs) (hn : ∀ b, b ∈ wr ∨ b ∈ kp → b ∉ φ)
    (hQ : ∀ f s', FlP g φ₀ env nm s₀ fl ρe σe f s' → Q (.ok f) s') :
    codeAny (model g.prog g.w) A (.forLoop target (.ref I) body [] env) Q s := by
  have hLw : env.locals ∉ wr := fun q => hwL _ (.inl q) rfl
  have hCw : ∀ x c, env.cells.lookup x = some c → c ∉ wr := fun x c e q => hwC c (.inl q) x e
  refine codeAny_forLoop_any (fun n s => ∃ k φ' σ' ρ', ForInv g φ₀ s₀ env nm ys vs wr kp St k φ' σ' ρ' s ∧ (n = xs.length - k ∧ k ≤ xs.length) ∧ loopC m t w (xs.drop k) ρ' σ' = some (fl, ρe, σe)) ?_ xs.length ⟨0, φ, σ, ρ, ⟨S, T, R, F, h0, hys, hn⟩, ⟨rfl, Nat.zero_le _⟩, hc⟩
  rintro n s ⟨k, φ, σ, ρ, ⟨S, T, R, F, st, hys, hn⟩, ⟨hn', hk⟩, hc⟩
  rcases Nat.lt_or_ge k xs.length with hlt | hge
  · have hx : xs[k]? = some xs[k] := List.getElem?_eq_getElem hlt
    rw [List.drop_eq_getElem_cons hlt] at hc
    obtain ⟨hw, hc⟩ := guardW_some hc
    · · obtain ⟨ρ', hput, hc⟩ := ob hc
        refine Ti.item k φ σ s _ _ xs[k] st R hys hw hn hB hx fun a h₁ tk₁ M₁ R₁ V₁ mid₁ => ?_
        have w1 : ∀ b ∈ wr, NT s.heap b := fun b hb => (Ti.wrN k _ st b hb).nt
        have S₁ := Stp.mv S R₁ M₁ (fun _ q => .inl q) hwr0
        have F₁ := F.mv M₁ w1 hLw hCw
        have ys₁ := M₁.vrsT w1 hys
        refine Ti.go target htg k φ σ a _ _ _ mid₁ R₁ hn hB fun h₂ M₂ R₂ st₂ => ?_
        have w2 : ∀ b ∈ wr, NT h₁ b := fun b hb => (Ti.wrM k a _ mid₁ b hb).nt
        have S₂ := Stp.mv S₁ R₂ M₂ (fun _ q => .inl q) hwr0
        have F₂ := F₁.mv M₂ w2 hLw hCw
        have ys₂ := M₂.vrsT w2 ys₁
        have V₂ := M₂.vrT w2 V₁
        refine tgt_snd (s := { s with heap := h₂, toks := tk₁ }) hA.handled hct hput R₂ F₂ V₂ fun h₃ tk₃ S₃ R₃ F₃ up₃ => ?_
        have keep3 : ∀ b o, b ≠ env.locals → (∀ x, env.cells.lookup x ≠ some b) → h₂.get? b = some o → h₃.get? b = some o := fun b o h1 h2 e => S₃.pres b o e fun q => by
          rcases q with q | ⟨x, _, q⟩
          · exact h1 q
          · exact h2 x q
        have st₃ : St (k + 1) h₃ := Ti.frame _ _ _ st₂ fun b hb o e => keep3 b o (hwL b hb) (hwC b hb) e
        have ys₃ := VRs.up up₃ ys₂
        have S₀₃ : Stp (FM φ₀ env) φ₀ s₀.heap φ h₃ := FM.trans S₂ (S₃.mono fun b hb => hb.fm)
        have T₃ : Same s₀ { s with heap := h₃, toks := tk₃ } := T.trans ⟨rfl, rfl, rfl⟩
        have lv : ∀ b, b ∈ wr ∨ b ∈ kp → ∃ o, h₃.get? b = some o := fun b hb => by
          rcases hb with hb | hb
          · obtain ⟨o, e, _⟩ := Ti.wrN _ _ st₃ b hb; exact ⟨o, e⟩
          · obtain ⟨o, _, _, e, _⟩ := Ti.kpN _ _ st₃ b hb; exact ⟨o, e⟩
        rcases seqF_some hc with ⟨ρ'', σ'', hbody, hc⟩ | ⟨hc, hne⟩
        · refine wpAny_mono (hb ρ' σ .next ρ'' σ'' hbody trivial φ { s with heap := h₃, toks := tk₃ } R₃ F₃ _) (fun f s₄ hf => ?_) fun _ _ x => x
          obtain ⟨rfl, φ₄, S₄, R₄, F₄, T₄⟩ := hf
          have nFM : ∀ b, b ∈ wr ∨ b ∈ kp → ¬ FM φ env b := fun b hb q => by
            rcases q with q | q | ⟨x, q⟩
            · exact hn b hb q
            · exact hwL b hb q
            · exact hwC b hb x q
          refine ⟨xs.length - (k + 1), by omega, k + 1, φ₄, σ'', ρ'', ⟨FM.trans S₀₃ S₄, T₃.trans T₄, R₄, F₄, Ti.frame _ _ _ st₃ fun b hb o e => S₄.pres b o e (nFM b hb), VRs.stepF F₃ S₄ ys₃, fun b hb => ?_⟩, ⟨rfl, hlt⟩, hc⟩
          obtain ⟨o, e⟩ := lv b hb
          exact S₄.notin e (hn b hb)
        · refine wpAny_mono (hb ρ' σ fl ρe σe hc hok φ { s with heap := h₃, toks := tk₃ } R₃ F₃ _) (fun f s₄ hf => ?_) fun _ _ x => x
          cases fl with
          | next => exact absurd rfl hne
          | ret v =>
            have hf' := FlP.after S₀₃ T₃ hf
            obtain ⟨a', φ', rfl, r⟩ := hf
            exact hQ _ _ hf'
          | exc c w => exact hf.elim
  · have hk' : k = xs.length := Nat.le_antisymm hk hge
    rw [hk', List.drop_length] at hc
    obtain ⟨hw, hc⟩ := guardW_some hc
    · obtain ⟨rfl, rfl, rfl⟩ := sm3 hc
      rw [hk'] at st
      refine Ti.done φ _ s _ _ st R hys hw hn hB fun h₁ tk₁ M₁ R₁ => ?_
      have w1 : ∀ b ∈ wr, NT s.heap b := fun b hb => (Ti.wrN _ _ st b hb).nt
      exact wpAny_execs_nil (hQ _ _ ⟨rfl, φ, Stp.mv S R₁ M₁ (fun _ q => .inl q) hwr0, R₁, F.mv M₁ w1 hLw hCw, T.trans ⟨rfl, rfl, rfl⟩⟩)

theorem snd_for {target iter : Expr} {body : List Stmt} {pos : Pos} {t : Tgt} {it : CIt} {b : CSs} {two : Bool} (hA : AOk A d) (hs : ∀ x, foldedSetIterable iter env x = pure x) (htg : tgOk two target) (hct : cTgt env.scope nm target = some t)
    (hi : SndI g A env nm iter two (srcC call it)) (hb : SndSs g A env nm body (execCs call b)) : SndS g A env nm (.For target iter body [] pos) (execC call (.for_ t it b)) := by
  intro ρ σ fl ρ' σ' h hok φ s R F E
  have main : ∀ xs w σ₁, srcC call it ρ σ = some (xs, w, σ₁) → loopC (execCs call b) t w xs ρ σ₁ = some (fl, ρ', σ') → wpAny (model g.prog g.w) A (exec (.For target iter body [] pos) env) (FlP g φ env nm s fl ρ' σ') E s := fun xs w σ₁ h1 h2 => by
    refine wpAny_For (wpAny_mono (hi ρ σ xs w σ₁ h1 φ s R F E) (fun xv s₁ hp => ?_) fun _ _ x => x) hs
    obtain ⟨φ', S₁, R₁, T₁, mk⟩ := hp
    refine mk E _ fun I ys vs wr kp St Mid h' Ti st₀ hk hys hwr0 hn hB => ?_
    have F₁ := F.step R S₁
    have S₁' : SE φ' s₁.heap φ' h' := SE.keeps _ hk
    have F₂ := F₁.step R₁ S₁'
    refine for_run (s₀ := s) (φ₀ := φ) (s := { s₁ with heap := h' }) hA Ti htg hct hb ?_ ?_ hwr0 hB h2 hok (Stp.ofSE (S₁.trans S₁') env) (T₁.trans ⟨rfl, rfl, rfl⟩) (R₁.keeps hk) F₂ st₀ hys hn fun f s' hf => hf
    · rintro b hb rfl
      rcases hb with hb | hb
      · obtain ⟨m', ⟨o, _, _, ho, _⟩, _⟩ := F.ns
        rw [hwr0 _ hb] at ho; cases ho
      · obtain ⟨o', items, n', e', hd'⟩ := Ti.kpN _ _ st₀ _ hb
        obtain ⟨m', hns, _⟩ := F₂.ns
        exact Ns.noSeq hns o' e' items n' hd'
    · intro b hb x e
      rcases hb with hb | hb
      · obtain ⟨⟨u, o, ho, _⟩, _⟩ := F.cellF x b e
        rw [hwr0 _ hb] at ho; cases ho
      · obtain ⟨o', items, n', e', hd'⟩ := Ti.kpN _ _ st₀ _ hb
        obtain ⟨⟨u, hu⟩, _⟩ := F₂.cellF x b e
        exact IsCell.noSeq hu o' e' items n' hd'
  rw [ex_for] at h
  obtain ⟨xs, w, σ₁, h1, h2⟩ := bnd3_some h
  exact main xs w σ₁ h1 h2

theorem swapT {ts : List Expr} {k : Nat} {p : Pos} {v : Expr} {ln : Nat} {n : Nat} {sc : Scope} {nx : Nat} {c : CE} (hc : cExpr cx n sc nm nx v = some c) : swapsWithSole [.Tuple ts k p] v ln env = pure false := by
  cases v with
  | SetComp a b c d => cases n <;> exact no hc
  | DictComp a b c d e => cases n <;> exact no hc
  | _ => rfl
theorem swapS {o i : Expr} {p : Pos} {v : Expr} {ln : Nat} : swapsWith v (some (.Subscript o i p)) ln env = pure false := by
  cases v <;> rfl

theorem swapW {ts : List Expr} {k : Nat} {p : Pos} {v : Expr} (h : ¬ isTupE v = true) : swappedStores [.Tuple ts k p] v env = pure none := by
  cases v with
  | Tuple a b c => exact (h rfl).elim
  | _ => rfl

theorem snd_asgN (hA : AOk A d) (G : GOk g cx fs mg mb) (hC : SndC g A fs call) {env : Env} {nm : List (Str × Nat)} {nx n : Nat} {x : Str} {p pos : Pos} {v : Expr} {t : Tgt} {a : CE} (ht : cTgt env.scope nm (.Name x p) = some t) (ha : cExpr cx n env.scope nm nx v = some a) :
    SndS g A env nm (.Assign [.Name x p] v pos) (execC call (.assign t a)) := by
  have ih := (snd_all (cx := cx) hA G hC n env nm nx v a ha).1
  by_cases hv : ∃ a b c d, v = .ListComp a b c d
  · obtain ⟨elt, gens, scope, cpos, rfl⟩ := hv
    cases n with
    | zero => exact no ha
    | succ n =>
      have hsw : ∃ b, swapsWith (.ListComp elt gens scope cpos) (some (.Name x p)) pos.line env = pure b := ⟨_, rfl⟩
      obtain ⟨b, hsw⟩ := hsw
      cases b with
      | false => exact snd_assign hA ht hsw ih
      | true =>
        obtain ⟨target, iter, ifs, it, t', cs, c', rfl, hok, hit, ht', hcs, hc', htt, rfl⟩ := cLC_some ha
        have jE := snd_all (cx := cx) hA G hC n
        refine snd_assignC hA ht hsw (compOk_of hok) (fold_iter hit) (tgOk_of htt ht') (snd_iter hA G hC n env nm nx iter it hit) ht' (fun e' he' => ?_) hcs fun e' he' e c h => ?_
        · rw [← he'] at hc'; exact (jE _ _ _ _ _ hc').1
        · rw [← he'] at h; exact (jE _ _ _ _ _ h).2
  · exact snd_assign hA ht (swap_false (fun a b c d e => hv ⟨a, b, c, d, e⟩) ha) ih

theorem cStep_some {c : CE} {r : CS} (h : cStep c = some r) : ∃ m o as, c = .meth m o as ∧ m.isStep = true ∧ r = .expr (.meth m o as) := by
  cases c with
  | meth m o as => exact ⟨m, o, as, rfl, (iteS h).1, (sm (iteS h).2).symm⟩
  | _ => exact no h

theorem snd_block {S : Stmt → Option CS} (ih : ∀ st c, S st = some c → SndS g A env nm st (execC call c)) : ∀ {ss : List Stmt} {c : CSs}, cBlock S ss = some c → SndSs g A env nm ss (execCs call c)
  | [], c, h => by obtain rfl := sm h; exact snd_nil
  | st :: r, c, h => by
    obtain ⟨a, ha, h⟩ := ob h
    obtain ⟨b, hb, h⟩ := ob h
    obtain rfl := sm h
    exact snd_cons (ih _ _ ha) (snd_block ih hb)

theorem snd_stmts (hA : AOk A d) (G : GOk g cx fs mg mb) (hC : SndC g A fs call) (env : Env) (nm : List (Str × Nat)) (nx : Nat) (hk : env.scope.kind = .function) : ∀ n st c, cStmt cx env.scope nm nx n st = some c → SndS g A env nm st (execC call c) := by
  intro n
  induction n with
  | zero => exact fun st c h => no h
  | succ n ih =>
    have ihE := snd_all (cx := cx) hA G hC n env nm nx
    have ih1 : ∀ {e c}, cExpr cx n env.scope nm nx e = some c → SndE g A env nm e (evalC call c) := fun h => (ihE _ _ h).1
    intro st c h
    replace h : cStmtF (cExpr cx n env.scope nm nx) (cIter cx n env.scope nm nx) (cBlock (cStmt cx env.scope nm nx n)) env.scope nm st = some c := h
    cases st with
    | Assign ts v pos =>
      obtain ⟨t, ht, h⟩ := ob h
      obtain rfl := sole_some ht
      cases t with
      | Name x p =>
        obtain ⟨t, ht, h⟩ := ob (m := cTgt env.scope nm (.Name x p)) (k := fun t => (cExpr cx n env.scope nm nx v).bind fun a => some (CS.assign t a)) h
        obtain ⟨a, ha, h⟩ := ob h
        obtain rfl := sm h
        exact snd_asgN hA G hC ht ha
      | Tuple ts k p =>
        obtain ⟨hnt, h⟩ := iteN (c := isTupE v = true) (x := (cTgt env.scope nm (.Tuple ts k p)).bind fun t => (cExpr cx n env.scope nm nx v).bind fun a => some (CS.assign t a)) h
        obtain ⟨t, ht, h⟩ := ob h
        obtain ⟨a, ha, h⟩ := ob h
        obtain rfl := sm h
        exact snd_assignT hA ht (swapT ha) (swapW hnt) (ih1 ha)
      | Subscript o i p =>
        obtain ⟨a, ha, h⟩ := ob (m := cExpr cx n env.scope nm nx o) (k := fun a => (cExpr cx n env.scope nm nx i).bind fun b => (cExpr cx n env.scope nm nx v).bind fun c => some (CS.setItem a b c)) h
        obtain ⟨b, hb, h⟩ := ob h
        obtain ⟨c', hc', h⟩ := ob h
        obtain rfl := sm h
        exact snd_setItem swapS (ih1 ha) (ih1 hb) (ih1 hc')
      | _ => exact no h
    | Expr e pos =>
      cases e with
      | Call fn as ks p =>
        obtain ⟨a, ha, h⟩ := ob h
        obtain ⟨m, o, as', rfl, hm, rfl⟩ := cStep_some h
        exact snd_expr hm hk rfl (ih1 ha)
      | _ => exact no h
    | If t a b pos =>
      obtain ⟨x, hx, h⟩ := ob h
      obtain ⟨y, hy, h⟩ := ob h
      obtain ⟨z, hz, h⟩ := ob h
      obtain rfl := sm h
      exact snd_if (ihE _ _ hx).2 (snd_block ih hy) (snd_block ih hz)
    | For t it body orelse pos =>
      obtain ⟨ho, h⟩ := iteS h
      obtain ⟨x, hx, h⟩ := ob h
      obtain ⟨y, hy, h⟩ := ob h
      obtain ⟨z, hz, h⟩ := ob h
      obtain ⟨htt, h⟩ := iteS h
      obtain rfl := sm h
      obtain rfl := List.isEmpty_iff.mp ho
      exact snd_for hA (fold_iter hy) (tgOk_of htt hx) hx (snd_iter hA G hC n env nm nx _ _ hy) (snd_block ih hz)
    | Return v pos =>
      obtain ⟨e, he, h⟩ := ob h
      obtain ⟨c', hc', h⟩ := ob h
      obtain rfl := sm h
      obtain rfl := he
      exact snd_ret (ih1 hc')
    | _ => exact no h
end
end Lar

set_option autoImplicit false
set_option maxRecDepth 100000
namespace Lar
open PySem PyProof.Rows PySem.Calls PySem.SeqAt

theorem zip_lookup_some {α : Type} : ∀ {l : List Str} {vs : List α} {n : Str}, l.length = vs.length → n ∈ l → ((l.zip vs).lookup n).isNone = false
  | [], _, _, _, h => nomatch h
  | a :: l, [], _, e, _ => by simp at e
  | a :: l, v :: vs, n, e, h => by
    rw [List.zip_cons_cons, List.lookup_cons]
    cases hb : n == a with
    | true => rfl
    | false =>
      rcases List.mem_cons.mp h with h | h
      · subst h; simp at hb
      · exact zip_lookup_some (by simpa using e) h
theorem zip_filterMap {α : Type} {l : List Str} {vs : List α} (hl : l.length = vs.length) (hn : l.Nodup) : l.filterMap (fun n => ((l.zip vs).lookup n).map (n, ·)) = l.zip vs := by
  induction l generalizing vs with
  | nil => simp
  | cons a l ih =>
    cases vs with
    | nil => simp at hl
    | cons v vs =>
      rw [List.filterMap_cons]
      simp only [List.zip_cons_cons, List.lookup_cons, beq_self_eq_true, Option.map_some]
      have hn' := List.nodup_cons.mp hn
      have key : ∀ (m : List Str), (∀ n ∈ m, n ≠ a) → m.filterMap (fun n => ((match n == a with | true => some v | false => (l.zip vs).lookup n) : Option α).map (n, ·)) = m.filterMap (fun n => ((l.zip vs).lookup n).map (n, ·)) := by
        intro m hm
        induction m with
        | nil => rfl
        | cons b m ihm =>
          have hb : (b == a) = false := by simpa using hm b List.mem_cons_self
          rw [List.filterMap_cons, List.filterMap_cons, hb, ihm fun n hn => hm n (List.mem_cons_of_mem _ hn)]
      exact congrArg (List.cons (a, v)) ((key l (fun n hn e => hn'.1 (e ▸ hn))).trans (ih (by simpa using hl) hn'.2))
theorem bind_plain {fd : FuncData} {as : List Arg} (hp : fd.params = ⟨[], as, none, [], [], none, []⟩) (hd : fd.defaults = .none) (vals : List Value) (hl : vals.length = as.length) (hn : (as.map (·.arg)).Nodup) : bindArgs fd ⟨vals, []⟩ = pure ((as.map (·.arg)).zip vals) := by
  have hm : (List.map (fun x : Arg => x.arg) as).filter (fun n => (((List.map (fun x : Arg => x.arg) as).zip vals).lookup n).isNone) = [] := by
    rw [List.filter_eq_nil_iff]
    intro n hn
    rw [zip_lookup_some (by simp [hl]) hn]; simp
  have hz := zip_filterMap (l := as.map (·.arg)) (vs := vals) (by simp [hl]) hn
  obtain ⟨name, qual, params, body, scope, globals, closure, defaults, kwd, doc, pm, code, bl⟩ := fd
  simp only at hp hd
  subst hp hd
  have h1 : ¬ ((decide (vals.length > (List.map (fun x : Arg => x.arg) as).length) && true) = true) := by simp [hl]
  have h2 : ¬ ((!((List.take ((List.map (fun x : Arg => x.arg) as).length - 0) (List.map (fun x : Arg => x.arg) as)).filter (fun n => (((List.map (fun x : Arg => x.arg) as).zip vals).lookup n).isNone)).isEmpty) = true) := by
    rw [Nat.sub_zero, List.take_length, hm]; decide
  have hz' : ((List.map (fun x : Arg => x.arg) as) ++ []).filterMap (fun n => (((List.map (fun x : Arg => x.arg) as).zip vals).lookup n).map (n, ·)) = (as.map (·.arg)).zip vals := by rw [List.append_nil]; exact hz
  refine (if_neg h1).trans ?_
  rw [show ∀ i, List.drop i (Option.getD (none : Option (Array Value)) #[]).toList = [] from fun i => List.drop_nil]
  refine (if_neg h2).trans ?_
  rw [List.zip_nil_right]
  exact congrArg (fun b => (pure b : Sem (List (Str × Value)))) hz'

theorem bindL_get {k : Str → Option NameKind} {x : Str} (hk : k x = some .local) : ∀ (b : List (Str × Value)) (m : Str → Option Value), (b.map (·.1)).Nodup → bindL k b m x = match b.lookup x with | some v => some v | none => m x
  | [], m, _ => rfl
  | (n, v) :: r, m, hn => by
    have hn' := List.nodup_cons.mp hn
    unfold bindL
    rw [bindL_get hk r _ hn'.2, List.lookup_cons]
    cases hb : x == n with
    | true =>
      have : x = n := by simpa using hb
      subst this
      have hr : r.lookup x = none := by
        cases q : r.lookup x with
        | none => rfl
        | some y => exact absurd (List.mem_map_of_mem (f := (·.1)) (mem_of_lookup q)) hn'.1
      rw [hr, if_pos hk]; simp
    | false =>
      have hne : x ≠ n := by simpa using hb
      cases q : r.lookup x with
      | some y => rfl
      | none =>
        by_cases hkn : k n = some .local
        · rw [if_pos hkn]; simp [hne]
        · rw [if_neg hkn]
theorem bindC_get {k : Str → Option NameKind} {x : Str} (hk : k x = some .cell) : ∀ (b : List (Str × Value)) (m : Str → Option Value), (b.map (·.1)).Nodup → bindC k b m x = match b.lookup x with | some v => some v | none => m x
  | [], m, _ => rfl
  | (n, v) :: r, m, hn => by
    have hn' := List.nodup_cons.mp hn
    unfold bindC
    rw [bindC_get hk r _ hn'.2, List.lookup_cons]
    cases hb : x == n with
    | true =>
      have : x = n := by simpa using hb
      subst this
      have hr : r.lookup x = none := by
        cases q : r.lookup x with
        | none => rfl
        | some y => exact absurd (List.mem_map_of_mem (f := (·.1)) (mem_of_lookup q)) hn'.1
      rw [hr, if_neg (by rw [hk]; decide)]; simp
    | false =>
      have hne : x ≠ n := by simpa using hb
      cases q : r.lookup x with
      | some y => rfl
      | none =>
        by_cases hkn : k n = some .local
        · rw [if_pos hkn]
        · rw [if_neg hkn]; simp [hne]

theorem zip_get {α : Type} : ∀ {l : List Str} {vs : List α} {i : Nat} {x : Str} {v : α}, l.Nodup → l[i]? = some x → vs[i]? = some v → (l.zip vs).lookup x = some v
  | [], _, _, _, _, _, h, _ => by simp at h
  | a :: l, [], _, _, _, _, _, h => by simp at h
  | a :: l, b :: vs, 0, x, v, _, h1, h2 => by
    simp at h1 h2; subst h1; subst h2
    simp
  | a :: l, b :: vs, i + 1, x, v, hn, h1, h2 => by
    have hn' := List.nodup_cons.mp hn
    simp only [List.getElem?_cons_succ] at h1 h2
    rw [List.zip_cons_cons, List.lookup_cons]
    have : (x == a) = false := by
      simp only [beq_eq_false_iff_ne, ne_eq]; rintro rfl; exact hn'.1 (List.mem_of_getElem? h1)
    rw [this]
    exact zip_get hn'.2 h1 h2

theorem names_nodup {names : List (Str × NameKind)} (hu : ∀ n k, (n, k) ∈ names → names.lookup n = some k) (hd : (names.map (·.1)).Nodup) (p : Str × NameKind → Bool) : ((names.filter p).map (·.1)).Nodup :=
  hd.sublist (List.filter_sublist.map _)

structure FunOk (cx : CCtx) (fn : Fn) (cf : CFun) (as : List Arg) (b : CSs) : Prop where
  params : fn.params = ⟨[], as, none, [], [], none, []⟩
  kind : fn.scope.kind = .function
  gen : fn.scope.isGenerator = false
  cor : fn.scope.isCoroutine = false
  uniq : ∀ n k, (n, k) ∈ fn.scope.names → fn.scope.names.lookup n = some k
  kinds : ∀ n k, (n, k) ∈ fn.scope.names → k = .local ∨ k = .cell ∨ k = .globalImplicit
  nodup : ((funNm fn.scope).map (·.1)).Nodup
  pre : as.map (·.arg) = ((funNm fn.scope).map (·.1)).take as.length
  body : cBlock (cStmt cx fn.scope (funNm fn.scope) (funNm fn.scope).length 200) fn.body = some b
  cf : cf = ⟨as.length, b⟩

theorem plainArgs_some {p : Arguments} (h : plainArgs p = true) : p = ⟨[], p.args, none, [], [], none, []⟩ := by
  obtain ⟨a, b, c, d, e, f, g⟩ := p
  simp only [plainArgs, Bool.and_eq_true, List.isEmpty_iff, Option.isNone_iff_eq_none] at h
  obtain ⟨⟨⟨⟨⟨rfl, rfl⟩, rfl⟩, rfl⟩, rfl⟩, rfl⟩ := h
  rfl
theorem funOk_of {cx : CCtx} {fn : Fn} {cf : CFun} (h : cFun cx fn.params fn.scope fn.body = some cf) : ∃ as b, FunOk cx fn cf as b := by
  obtain ⟨hc, h⟩ := iteS h
  obtain ⟨b, hb, h⟩ := ob h
  obtain rfl := sm h
  simp only [Bool.and_eq_true, beq_iff_eq, Bool.not_eq_true', List.all_eq_true, Bool.or_eq_true, decide_eq_true_eq] at hc
  obtain ⟨⟨⟨⟨⟨⟨h0, h1⟩, h2⟩, h3⟩, h4⟩, h5⟩, h6⟩ := hc
  refine ⟨fn.params.args, b, plainArgs_some h0, h1, h2, h3, fun n k hm => (h4 (n, k) hm).1, fun n k hm => ?_, h6, h5, hb, rfl⟩
  rcases (h4 (n, k) hm).2 with (h | h) | h
  · exact .inl h
  · exact .inr (.inl h)
  · exact .inr (.inr h)
end Lar

set_option autoImplicit false
set_option maxRecDepth 100000
namespace Lar
open PySem PyProof.Rows PySem.Calls PySem.SeqAt

theorem funNm_get {sc : Scope} {x : Str} {i : Nat} (h : (funNm sc).lookup x = some i) : ((funNm sc).map (·.1))[i]? = some x ∧ ∃ k, (x, k) ∈ sc.names ∧ (k = .local ∨ k = .cell) := by
  unfold funNm at h ⊢
  have h1 := zip_lookup h
  simp only [Nat.zero_le, Nat.sub_zero, true_and] at h1
  refine ⟨by simpa using h1, ?_⟩
  have hm := List.mem_of_getElem? h1
  rw [List.mem_map] at hm
  obtain ⟨⟨n, k⟩, hmem, rfl⟩ := hm
  obtain ⟨h2, h3⟩ := List.mem_filter.mp hmem
  simp only [Bool.or_eq_true, beq_iff_eq] at h3
  exact ⟨k, h2, h3⟩

section
variable {g : G} {cx : CCtx} {fs : List Fn} {mg mb : Str → Option Value} {P : List CFun}

theorem Around.ok_deeper {A : Around} {d : Nat} (h : AOk A (d + 1)) (env : Env) : AOk (A.deeper env) d := by
  refine ⟨h.handled, ?_, ?_⟩
  · have := h.depth
    show A.depth + 1 + d ≤ 600
    omega
  · have := h.units
    show A.units + 3 + 3 * d ≤ 9000
    omega

theorem fun_frame {fn : Fn} {cf : CFun} {as : List Arg} {b : CSs} (O : FunOk cx fn cf as b) {a : Addr} {pm cd doc : Value} {φ : List Addr} {σ : Sto} {s s₁ : Shared} {vs : List V} {vals : List Value} (R : RepS g φ σ s.heap) (hv : VRs g φ s.heap vs vals) (hl : vs.length = as.length)
    (x : InCallC s (callEnvC (docDef fn.name fn.params fn.body fn.scope pm cd doc) s.heap.objs.size a).locals (bindL (callEnvC (docDef fn.name fn.params fn.body fn.scope pm cd doc) s.heap.objs.size a).kindOf ((as.map (·.arg)).zip vals) fun _ => none)
      (callEnvC (docDef fn.name fn.params fn.body fn.scope pm cd doc) s.heap.objs.size a).cells (bindC (callEnvC (docDef fn.name fn.params fn.body fn.scope pm cd doc) s.heap.objs.size a).kindOf ((as.map (·.arg)).zip vals) fun _ => none) s₁) :
    FrR g φ (callEnvC (docDef fn.name fn.params fn.body fn.scope pm cd doc) s.heap.objs.size a) (funNm fn.scope) (argsLoc vs) s₁.heap := by
  have hk := x.toInCall.keep
  have S : SE φ s.heap φ s₁.heap := SE.keeps _ hk
  have hlv : vs.length = vals.length := hv.length
  have hnd : (((as.map (·.arg)).zip vals).map (·.1)).Nodup := by
    rw [List.map_fst_zip (by simp; omega), O.pre]
    exact O.nodup.sublist (List.take_sublist _ _)
  have hnd' : (as.map (·.arg)).Nodup := by rw [O.pre]; exact O.nodup.sublist (List.take_sublist _ _)
  have bound : ∀ {x i v}, (funNm fn.scope).lookup x = some i → argsLoc vs i = some v → ∃ av, ((as.map (·.arg)).zip vals).lookup x = some av ∧ VR g φ s₁.heap v av := fun {x i v} hx hi => by
    obtain ⟨h1, _⟩ := funNm_get hx
    obtain ⟨av, h2, h3⟩ := hv.get hi
    have hi' : i < vs.length := (List.getElem?_eq_some_iff.mp hi).1
    refine ⟨av, zip_get hnd' ?_ h2, h3.step R S⟩
    rw [O.pre, List.getElem?_take, if_pos (by omega)]
    exact h1
  have cellLk : ∀ {y c}, (cellsFrom (s.heap.objs.size + 1) fn.scope.names []).lookup y = some c → s.heap.objs.size < c := fun {y c} e => x.above y c (mem_of_lookup e)
  refine ⟨O.kind, rfl, rfl, ⟨_, x.toInCall.ns, ?_⟩, ?_, fresh_phi R (fresh_size _), fresh_base R (fresh_size _), ?_, ?_, ?_⟩
  · intro y i v hy hky hρ
    obtain ⟨av, h1, h2⟩ := bound hy hρ
    refine ⟨av, ?_, h2⟩
    rw [bindL_get hky _ _ hnd, h1]
  · intro y i hy hky
    obtain ⟨_, k, hm, hk2⟩ := funNm_get hy
    have hkk := O.uniq y k hm
    have hcell : k = .cell := by
      rcases hk2 with q | q
      · subst q
        rcases hky with r | r
        · have r' : fn.scope.names.lookup y = some .cell := r
          rw [hkk] at r'; cases r'
        · have r' : fn.scope.names.lookup y = some .free := r
          rw [hkk] at r'; cases r'
      · exact q
    subst hcell
    obtain ⟨c, hc⟩ := cellsFrom_has fn.scope.names (s.heap.objs.size + 1) hm
    obtain ⟨c', hc'⟩ := lookup_isSome hc
    refine ⟨c', _, hc', x.cell y c' hc', fun v hρ => ?_⟩
    obtain ⟨av, h1, h2⟩ := bound hy hρ
    refine ⟨av, ?_, h2⟩
    rw [bindC_get (by exact hkk) _ _ hnd, h1]
  · intro y c e
    have := cellLk e
    have hf : s.heap.get? c = none := fresh_ge (Nat.le_of_lt this)
    exact ⟨⟨_, x.cell y c e⟩, fresh_phi R hf, Nat.ne_of_gt this, fresh_base R hf⟩
  · intro y z c e1 e2
    exact name_of_addr x.apart (mem_of_lookup e1) (mem_of_lookup e2)
  · intro y z i e1 e2
    obtain ⟨h1, _⟩ := funNm_get e1
    obtain ⟨h2, _⟩ := funNm_get e2
    rw [h1] at h2; exact Option.some.inj h2

theorem snd_calls (G : GOk g cx fs mg mb) (hP : ∀ (k : Nat) (fn : Fn), fs[k]? = some fn → ∃ cf, P[k]? = some cf ∧ cFun cx fn.params fn.scope fn.body = some cf) : ∀ d (A : Around), AOk A d → SndC g A fs (callL P d) := by
  intro d
  induction d with
  | zero => intro A hA k as σ v σ' h; exact no h
  | succ d ih =>
    intro A hA k vs σ v σ' h fn hfn φ s vals R hv E
    obtain ⟨cf, hcf, hcomp⟩ := hP k fn hfn
    obtain ⟨as, b, O⟩ := funOk_of hcomp
    obtain ⟨hm, o, pm, cd, doc, ho, hd, hcd⟩ := G.made fn (List.mem_of_getElem? hfn)
    have hlim : s.heap.NoLimit := G.nolimit.keeps R.base
    obtain ⟨cf', hcf', h⟩ := ob (m := P[k]?) (k := fun fn => if vs.length = fn.arity then fin (execCs (callL P d) fn.body (argsLoc vs) σ) else none) h
    obtain rfl := sm (hcf.symm.trans hcf')
    obtain ⟨hlen, h⟩ := iteS h
    · rw [O.cf] at hlen h
      dsimp only at hlen h
      have hlv : vals.length = as.length := by rw [← hv.length]; exact hlen
      have hnd' : (as.map (·.arg)).Nodup := by rw [O.pre]; exact O.nodup.sublist (List.take_sublist _ _)
      have hdep : A.depth < recursionLimit := by
        have h1 := hA.depth
        have : 600 < recursionLimit := by decide
        omega
      refine wpAny_call (codeAny_call_cells (body := fn.body) (binds := (as.map (·.arg)).zip vals) hdep (R.base _ _ ho) hd hlim (hcd.keeps R.base) rfl (bind_plain O.params rfl vals hlv hnd') rfl ?_ (fun s₁ x => ?_) O.cor O.gen O.kind)
      · intro y hy
        have hm1 : y.1 ∈ as.map (·.arg) := (List.of_mem_zip hy).1
        rw [O.pre] at hm1
        have hm2 : y.1 ∈ (funNm fn.scope).map (·.1) := List.mem_of_mem_take hm1
        obtain ⟨⟨n, i⟩, hmem, e⟩ := List.mem_map.mp hm2
        obtain ⟨i', hi'⟩ := lookup_isSome hmem
        have e' : n = y.1 := e
        rw [e'] at hi'
        obtain ⟨_, kk, hkm, hkk⟩ := funNm_get hi'
        rcases hkk with q | q
        · subst q; exact .inl (O.uniq _ _ hkm)
        · subst q
          refine .inr ⟨O.uniq _ _ hkm, ?_⟩
          obtain ⟨c, hc⟩ := cellsFrom_has fn.scope.names (s.heap.objs.size + 1) hkm
          obtain ⟨c', hc'⟩ := lookup_isSome hc
          show ((cellsFrom (s.heap.objs.size + 1) fn.scope.names []).lookup y.1).isSome = true
          rw [hc']; rfl
      · have F := fun_frame O R hv hlen x
        have hk := x.toInCall.keep
        have R₁ : RepS g φ σ s₁.heap := R.keeps hk
        have S₁ : SE φ s.heap φ s₁.heap := SE.keeps _ hk
        obtain ⟨h₁, tk₁, hsame⟩ := x.toInCall.same
        have T₁ : Same s s₁ := by rw [hsame]; exact ⟨rfl, rfl, rfl⟩
        have hA' : AOk (A.deeper (callEnvC (docDef fn.name fn.params fn.body fn.scope pm cd doc) s.heap.objs.size fn.addr)) d := Around.ok_deeper hA _
        have B := snd_block (snd_stmts (cx := cx) hA' G (ih _ hA') (callEnvC (docDef fn.name fn.params fn.body fn.scope pm cd doc) s.heap.objs.size fn.addr) (funNm fn.scope) (funNm fn.scope).length O.kind 200) O.body
        have back : ∀ {φ' : List Addr} {h' : Heap}, Stp (FM φ (callEnvC (docDef fn.name fn.params fn.body fn.scope pm cd doc) s.heap.objs.size fn.addr)) φ s₁.heap φ' h' → SE φ s.heap φ' h' := fun S₂ =>
          Stp.trans S₁ S₂ (fun _ _ _ hb => hb) fun b o e hb q => by
            rcases q with q | q | ⟨y, q⟩
            · exact hb q
            · have q' : b = s.heap.objs.size := q
              exact absurd (Heap.lt_size e) (by rw [q']; exact Nat.lt_irrefl _)
            · have := x.above y b (mem_of_lookup q)
              exact absurd (Heap.lt_size e) (Nat.not_lt.mpr (Nat.le_of_lt this))
        obtain ⟨fl, ρ', σ₂, hb, h⟩ := bnd3_some h
        cases fl with
        | ret v' =>
          obtain ⟨e1, rfl⟩ := sm2 h
          obtain rfl := Res.ok.inj e1
          refine wpAny_mono (B _ σ _ ρ' σ₂ hb trivial φ s₁ R₁ F _) (fun f s' hf => ?_) fun _ _ y => y
          obtain ⟨av, φ', rfl, S₂, R₂, V₂, T₂⟩ := hf
          exact ⟨φ', back S₂, R₂, V₂, T₁.trans T₂⟩
        | next =>
          obtain ⟨e1, rfl⟩ := sm2 h
          obtain rfl := Res.ok.inj e1
          refine wpAny_mono (B _ σ _ ρ' σ₂ hb trivial φ s₁ R₁ F _) (fun f s' hf => ?_) fun _ _ y => y
          obtain ⟨rfl, φ', S₂, R₂, F₂, T₂⟩ := hf
          exact ⟨φ', back S₂, R₂, .none, T₁.trans T₂⟩
        | exc c w => exact nomatch (sm2 h).1
end
end Lar

set_option autoImplicit false
set_option maxRecDepth 100000
namespace Lar
open PySem PySem.W PyProof.Rows PySem.Calls PySem.SeqAt

noncomputable def cxOf (p : Program) (consts : List (Str × Int)) : CCtx := ⟨(recsOf p).map (·.name), consts, []⟩
noncomputable def freeOk (p : Program) (loose : List Str) : Bool := primNames.all fun x => !(startupNames.contains x) && !(loose.contains x) && !(((recsOf p).map (·.name)).contains x) && !(((litsOf p).map (·.1)).contains x) && !(((clssOf p loose).map (·.name)).contains x) && x != ("__name__" : Str)
noncomputable def constsOk (p : Program) (consts : List (Str × Int)) : Bool := consts.all fun (x, i) => match valOf p x with | some (.int j) => i == j | _ => false

theorem fns_of {mg : Str → Option Value} {h : Heap} : ∀ (l : List DefRec), (∀ d ∈ l, ∃ a o pm code doc, mg d.name = some (.ref a) ∧ h.get? a = some o ∧ o.data = .func (docDef d.name d.params d.body d.scope pm code doc) ∧ h.CodeRec code d.name) →
    ∃ fs : List Fn, fs.map (·.name) = l.map (·.name) ∧ fs.map (fun f => (f.params, f.scope, f.body)) = l.map (fun d => (d.params, d.scope, d.body)) ∧
      ∀ f ∈ fs, mg f.name = some (.ref f.addr) ∧ ∃ o pm cd doc, h.get? f.addr = some o ∧ o.data = .func (docDef f.name f.params f.body f.scope pm cd doc) ∧ h.CodeRec cd f.name
  | [], _ => ⟨[], rfl, rfl, fun _ hf => nomatch hf⟩
  | d :: l, hl => by
    obtain ⟨a, o, pm, code, doc, h1, h2, h3, h4⟩ := hl d List.mem_cons_self
    obtain ⟨fs, e1, e2, e3⟩ := fns_of l fun d hd => hl d (List.mem_cons_of_mem _ hd)
    refine ⟨⟨d.name, a, d.params, d.body, d.scope⟩ :: fs, by simp [e1], by simp [e2], fun f hf => ?_⟩
    rcases List.mem_cons.mp hf with rfl | hf
    · exact ⟨h1, o, pm, code, doc, h2, h3, h4⟩
    · exact e3 f hf

theorem top_gok {p prog : Program} {w : World} {loose : List Str} {mean : ExcName → Option Value} {mg mb : Str → Option Value} {h : Heap} (T : Top p loose mean mg mb h) (hi : importsNone p = true) (consts : List (Str × Int)) (hc : constsOk p consts = true) (hf : freeOk p loose = true) :
    ∃ fs, GOk ⟨prog, w, h⟩ (cxOf p consts) fs mg mb ∧ fs.map (fun f => (f.params, f.scope, f.body)) = (recsOf p).map (fun d => (d.params, d.scope, d.body)) := by
  obtain ⟨fs, e1, e2, e3⟩ := fns_of (recsOf p) T.fn
  refine ⟨fs, ⟨T.g, T.b, T.nolimit, ?_, ?_, ?_, e1, e3⟩, e2⟩
  · obtain ⟨mm, ⟨o, _, _, ho, _⟩, _⟩ := (T.seer hi).mods
    exact ⟨o, ho⟩
  · intro x hx
    have := List.all_eq_true.mp hf x hx
    simp only [Bool.and_eq_true, Bool.not_eq_true', List.contains_eq_mem, decide_eq_false_iff_not, bne_iff_ne, ne_eq] at this
    obtain ⟨⟨⟨⟨⟨h1, h2⟩, h3⟩, h4⟩, h5⟩, h6⟩ := this
    exact ⟨T.free x h1 h2 h3 h4 h5, T.builtins x h6⟩
  · intro x i hx
    have hm := mem_of_lookup hx
    have := List.all_eq_true.mp hc _ hm
    dsimp only at this
    split at this
    · rename_i j hj
      have hij : i = j := by simpa using this
      subst hij
      obtain ⟨v, h1, h2⟩ := T.const x _ hj
      have := h2 h
      cases this
      exact ⟨_, h1⟩
    · cases this

theorem law_run {p prog : Program} {w : World} {loose : List Str} {mean : ExcName → Option Value} {mg mb : Str → Option Value} {s : Shared} (T : Top p loose mean mg mb s.heap) (hi : importsNone p = true) (consts : List (Str × Int)) (hc : constsOk p consts = true) (hf : freeOk p loose = true)
    {P : List CFun} (hP : (recsOf p).map (fun d => cFun (cxOf p consts) d.params d.scope d.body) = P.map some) {k : Nat} {name : Str} (hk : ((recsOf p).map (·.name))[k]? = some name) {fa : Addr} (hmg : mg name = some (.ref fa)) {a : Addr} {vs : List Value} {ns : List Int} (hl : s.heap.IsList a vs.toArray) (hz : ns.length ≤ szLine + 1) (hv : IntsAre vs ns)
    {d : Nat} (hd : d ≤ 100) {σ' : Sto} (h : callL P d k [.ro ns] [] = some (.ok (.bool true), σ')) {E : Value → Shared → Prop} {Q : Value → Shared → Prop} (hQ : ∀ s', (∀ b o, s.heap.get? b = some o → s'.heap.get? b = some o) → s'.gens = s.gens → s'.os = s.os → Q (.bool true) s') :
    wpAny (model prog w) callerA (PySem.call (.ref fa) [.ref a]) Q E s := by
  obtain ⟨fs, G, hfs⟩ := top_gok (prog := prog) (w := w) T hi consts hc hf
  have hPP : ∀ (k : Nat) (fn : Fn), fs[k]? = some fn → ∃ cf, P[k]? = some cf ∧ cFun (cxOf p consts) fn.params fn.scope fn.body = some cf := fun k fn hfn => by
    have h1 : (fs.map (fun f => (f.params, f.scope, f.body)))[k]? = some (fn.params, fn.scope, fn.body) := by simp [hfn]
    rw [hfs, List.getElem?_map, Option.map_eq_some_iff] at h1
    obtain ⟨dr, hdr, e⟩ := h1
    injection e with e1 e
    injection e with e2 e3
    have h2 : ((recsOf p).map (fun d => cFun (cxOf p consts) d.params d.scope d.body))[k]? = some (cFun (cxOf p consts) dr.params dr.scope dr.body) := by simp [hdr]
    rw [hP, List.getElem?_map, Option.map_eq_some_iff] at h2
    obtain ⟨cf, hcf, e4⟩ := h2
    exact ⟨cf, hcf, by rw [← e1, ← e2, ← e3]; exact e4.symm⟩
  have c1 : callerA.depth ≤ 500 := by decide
  have c2 : callerA.units ≤ 500 := by decide
  have hA : AOk callerA d := ⟨rfl, by omega, by omega⟩
  have hfn : ∃ fn, fs[k]? = some fn ∧ fn.name = name := by
    rw [show (recsOf p).map (·.name) = fs.map (·.name) from G.names.symm, List.getElem?_map, Option.map_eq_some_iff] at hk
    exact hk
  obtain ⟨fn, hfn, hname⟩ := hfn
  have haddr : fn.addr = fa := by
    have := (G.made fn (List.mem_of_getElem? hfn)).1
    rw [hname, hmg] at this
    injection this with this; injection this with this; exact this.symm
  have R : RepS ⟨prog, w, s.heap⟩ [] [] s.heap := ⟨fun _ _ e => e, fun _ ha => (nomatch ha), rfl, List.nodup_nil, fun i _ _ h => by simp at h⟩
  have := snd_calls G hPP d callerA hA k [.ro ns] [] (.bool true) σ' h fn hfn [] s [.ref a] R (.one (.ro hl hz hv)) E
  rw [haddr] at this
  refine wpAny_mono this (fun v s' hp => ?_) fun _ _ x => x
  obtain ⟨φ', S, R', V', T'⟩ := hp
  cases V'
  exact hQ s' R'.base T'.1 T'.2.2
/-- the head, by evaluation: the opening is the plain one, the rest of the top is run by the kernel -/
theorem left_of {p q : Program} {loose : List Str} {Xt : Shared → Bool} {α : Type} {Yf : Shared → α} {Ya : World → α} {N : Nat} {g0 : Bool}
    (e : opening p = plainProg p.main.scope.names) (hN : Nat.ble 600 N = true) (f : ∀ s, fenceModules? p s = some s)
    (run : ∀ w os, (topFrom treeTable p w N ⟨boot_heap w.params, Array.mk [], boot_drawn, boot_toks, os⟩).map (fun s => (openSeen q loose (importedModules p.main.body) Xt g0 s, Yf s)) = some (openGood q loose, Ya w)) :
    LeftO p q loose Xt Yf Ya N g0 := fun w => by
  obtain ⟨⟨h, gs, d, k, os⟩, e, e'⟩ := Option.map_eq_some_iff.mp (boot_open e hN f w)
  obtain ⟨rfl, rfl, rfl, rfl⟩ : h = boot_heap w.params ∧ gs = Array.mk [] ∧ d = boot_drawn ∧ k = boot_toks := by
    injection e' with e1 e'; injection e' with e2 e'; injection e' with e3 e4; exact ⟨e1, e2, e3, e4⟩
  unfold openEnds
  rw [e]
  exact run w os
theorem top_tw {p q : Program} {loose mods : List Str} {w : World} {N : Nat} {s : Shared} {Xt : Shared → Bool} {g0 : Bool} {α : Type} {Yf : Shared → α} :
    (topFrom treeTable p w N s).map (fun s => (openSeen q loose mods Xt g0 s, Yf s)) =
    (match s.heap.isNs mainGlobals && s.gens.size == 0 with
    | true => (PySem.W.Fast.tw14082659384304107361 PySem.W.Fast.tw14364793385576792824 p w s.heap.objs.size (s.heap.nsMap mainGlobals "__annotations__") N s (topStub p)).bind fun s₁ => match staticsOk (importedModules p.main.body) s.heap s₁.heap && namesBound p s₁.heap && gensDone s₁ && laidKept s.heap s₁.heap with
      | true => some s₁
      | false => none
    | false => none).map (fun s => (PySem.W.Fast.tw4187177175401517315 q loose mods Xt g0 s, Yf s)) := by
  rw [← PySem.W.Fast.te14082659384304107361, ← PySem.W.Fast.te14364793385576792824, ← PySem.W.Fast.te4187177175401517315]
  rfl
end Lar

set_option autoImplicit false
set_option maxRecDepth 100000
namespace Lar
open PySem

noncomputable def f03__law_mixed : CFun := ⟨1, (.cons (.assign (.one 1) (.list .nil))
  (.cons (.assign (.one 2) (.cst (.int 1)))
  (.cons (.for_ (.one 3) (.ex (.var 0)) (.cons (.assign (.one 2) (.bin .Mod (.bin .Add (.bin .Add (.bin .Mult (.var 2) (.cst (.int 6364136223846793005))) (.var 3)) (.cst (.int 1442695040888963407))) (.cst (.int 1000000000000000003))))
  (.cons (.expr (.meth .append (.var 1) (.cons (.var 2) .nil)))
  .nil)))
  (.cons (.ret (.var 1))
  .nil))))⟩
noncomputable def f03__law_cell_at : CFun := ⟨2, (.cons (.ite (.cmp .Lt (.var 1) (.prim .len (.cons (.var 0) .nil))) (.cons (.ret (.idx (.var 0) (.var 1)))
  .nil) .nil)
  (.cons (.ret (.bin .Mult (.bin .Mult (.bin .Add (.var 1) (.cst (.int 3))) (.bin .Add (.var 1) (.cst (.int 7)))) (.cst (.int 7919))))
  .nil))⟩
noncomputable def f03__law_mix : CFun := ⟨2, (.cons (.assign (.one 2) (.bin .Mod (.bin .Add (.bin .Add (.var 0) (.bin .Mult (.cst (.int 104729)) (.var 1))) (.bin .Mult (.bin .Mult (.cst (.int 7919)) (.var 1)) (.var 1))) (.cst (.int 998244353))))
  (.cons (.ret (.bin .Mod (.bin .Mult (.bin .Mod (.bin .Mult (.var 2) (.var 2)) (.cst (.int 998244353))) (.cst (.int 1000003))) (.cst (.int 998244353))))
  .nil))⟩
noncomputable def f03__law_whole : CFun := ⟨1, (.cons (.ret (.and (.prim .isInt (.cons (.var 0) .nil)) (.not (.prim .isBool (.cons (.var 0) .nil)))))
  .nil)⟩
noncomputable def f03__law_amount : CFun := ⟨2, (.cons (.assign (.one 2) (.bin .Mod (.var 0) (.cst (.int 8))))
  (.cons (.ite (.cmp .Eq (.var 2) (.cst (.int 0))) (.cons (.ret (.bin .Add (.cst (.int 1)) (.bin .Mod (.bin .FloorDiv (.var 0) (.cst (.int 8))) (.var 1))))
  .nil) .nil)
  (.cons (.ite (.cmp .Eq (.var 2) (.cst (.int 1))) (.cons (.ret (.bin .Add (.cst (.int 1)) (.bin .Mod (.bin .FloorDiv (.var 0) (.cst (.int 8))) (.cst (.int 60)))))
  .nil) .nil)
  (.cons (.ret (.bin .Add (.cst (.int 1)) (.bin .Mod (.bin .FloorDiv (.var 0) (.cst (.int 8))) (.cst (.int 12)))))
  .nil))))⟩
end Lar

set_option autoImplicit false
set_option maxRecDepth 100000
namespace Lar
open PySem



noncomputable def f09__law_name_by : CFun := ⟨2, (.cons (.assign (.one 2) (.cst (.str ("abcdefghijklmnopqrstuvwxyz" : Str))))
  (.cons (.assign (.one 3) (.list (.cons (.cst (.str ("total" : Str))) (.cons (.cst (.str ("day" : Str))) (.cons (.cst (.str ("flour" : Str))) (.cons (.cst (.str ("salt" : Str))) (.cons (.cst (.str ("left" : Str))) (.cons (.cst (.str ("used" : Str))) (.cons (.cst (.str ("short" : Str))) (.cons (.cst (.str ("salts" : Str))) (.cons (.cst (.str ("a" : Str))) (.cons (.cst (.str ("z" : Str))) (.cons (.cst (.str ("oil" : Str))) .nil)))))))))))))
  (.cons (.assign (.one 4) (.bin .FloorDiv (.var 0) (.cst (.int 6))))
  (.cons (.ite (.and (.cmp .Eq (.bin .Mod (.var 0) (.cst (.int 6))) (.cst (.int 0))) (.cmp .Lt (.var 1) (.cst (.int 4)))) (.cons (.ret (.idx (.var 3) (.bin .Mod (.bin .Add (.var 4) (.var 1)) (.cst (.int 11)))))
  .nil) .nil)
  (.cons (.assign (.one 5) (.cst (.str ("" : Str))))
  (.cons (.assign (.one 6) (.bin .FloorDiv (.var 4) (.cst (.int 7))))
  (.cons (.for_ (.one 7) (.rng1 (.bin .Add (.cst (.int 1)) (.bin .Mod (.var 4) (.cst (.int 7))))) (.cons (.assign (.one 6) (.bin .Add (.bin .Add (.var 6) (.cst (.int 1))) (.bin .Mod (.bin .FloorDiv (.var 4) (.cst (.int 182))) (.cst (.int 25)))))
  (.cons (.assign (.one 5) (.bin .Add (.var 5) (.idx (.var 2) (.bin .Mod (.var 6) (.cst (.int 26))))))
  .nil)))
  (.cons (.assign (.one 8) (.bin .Mod (.bin .FloorDiv (.var 4) (.cst (.int 4550))) (.prim .len (.cons (.var 5) .nil))))
  (.cons (.ite (.cmp .Gt (.var 1) (.cst (.int 3))) (.cons (.assign (.one 9) (.bin .Add (.idx (.var 2) (.bin .Mod (.bin .Add (.var 6) (.bin .FloorDiv (.var 1) (.cst (.int 26)))) (.cst (.int 26)))) (.idx (.var 2) (.bin .Mod (.var 1) (.cst (.int 26))))))
  (.cons (.ret (.bin .Add (.bin .Add (.slc (.var 5) (.cst .none) (.prim .min2 (.cons (.var 8) (.cons (.cst (.int 6)) .nil)))) (.var 9)) (.slc (.var 5) (.prim .min2 (.cons (.var 8) (.cons (.cst (.int 6)) .nil))) (.cst (.int 6)))))
  .nil)) .nil)
  (.cons (.ite (.cmp .Gt (.bin .Mod (.var 0) (.cst (.int 6))) (.cst (.int 3))) (.cons (.ret (.bin .Add (.idx (.var 2) (.bin .Mod (.bin .Add (.bin .FloorDiv (.var 4) (.cst (.int 7))) (.var 1)) (.cst (.int 26)))) (.var 5)))
  .nil) .nil)
  (.cons (.ite (.cmp .Eq (.var 1) (.cst (.int 1))) (.cons (.assign (.one 10) (.idx (.var 2) (.bin .Mod (.bin .Add (.meth .find (.var 2) (.cons (.idx (.var 5) (.var 8)) .nil)) (.cst (.int 1))) (.cst (.int 26)))))
  (.cons (.ret (.bin .Add (.bin .Add (.slc (.var 5) (.cst .none) (.var 8)) (.var 10)) (.slc (.var 5) (.bin .Add (.var 8) (.cst (.int 1))) (.cst .none))))
  .nil)) .nil)
  (.cons (.ret (.bin .Add (.var 5) (.idx (.list (.cons (.cst (.str ("" : Str))) (.cons (.cst (.str ("" : Str))) (.cons (.idx (.var 2) (.bin .Mod (.var 6) (.cst (.int 26)))) (.cons (.idx (.var 2) (.bin .Mod (.bin .Add (.var 6) (.cst (.int 1))) (.cst (.int 26)))) .nil))))) (.var 1))))
  .nil))))))))))))⟩
noncomputable def f09__law_many : CFun := ⟨3, (.cons (.ite (.cmp .Eq (.bin .Mod (.var 0) (.cst (.int 24))) (.cst (.int 0))) (.cons (.ret (.bin .Mod (.bin .FloorDiv (.var 0) (.cst (.int 24))) (.bin .Add (.var 2) (.cst (.int 1)))))
  .nil) .nil)
  (.cons (.ret (.bin .Mod (.bin .FloorDiv (.var 0) (.cst (.int 24))) (.bin .Add (.var 1) (.cst (.int 1)))))
  .nil))⟩
end Lar

set_option autoImplicit false
set_option maxRecDepth 100000
namespace Lar
open PySem



noncomputable def f02_needed : CFun := ⟨2, (.cons (.assign (.one 2) (.bin .Mult (.list (.cons (.cst (.int 0)) .nil)) (.cst (.int 7))))
  (.cons (.for_ (.two 3 4) (.ex (.var 0)) (.cons (.for_ (.two 5 6) (.ex (.var 4)) (.cons (.ite (.cmp .Eq (.var 5) (.var 1)) (.cons (.setItem (.var 2) (.bin .Sub (.var 3) (.cst (.int 1))) (.bin .Add (.idx (.var 2) (.bin .Sub (.var 3) (.cst (.int 1)))) (.var 6)))
  .nil) .nil)
  .nil))
  .nil))
  (.cons (.ret (.prim .tuple (.cons (.var 2) .nil)))
  .nil)))⟩
noncomputable def f02_from_day : CFun := ⟨1, (.cons (.ret (.prim .tuple (.cons (.comp (.prim .sum (.cons (.slc (.var 0) (.var 1) (.cst .none)) .nil)) (.one 1) (.rng1 (.cst (.int 7))) .nil) .nil)))
  .nil)⟩
end Lar

set_option autoImplicit false
set_option maxRecDepth 100000
namespace Lar
open PySem

noncomputable def f01_things_of : CFun := ⟨1, (.cons (.assign (.one 1) .dict0)
  (.cons (.for_ (.one 2) (.ex (.var 0)) (.cons (.for_ (.two 3 4) (.ex (.idx (.var 2) (.cst (.int 1)))) (.cons (.setItem (.var 1) (.var 3) (.cst (.bool true)))
  .nil))
  .nil))
  (.cons (.ret (.prim .tuple (.cons (.prim .sorted (.cons (.var 1) .nil)) .nil)))
  .nil)))⟩
noncomputable def f01_needed : CFun := ⟨2, (.cons (.assign (.one 2) (.bin .Mult (.list (.cons (.cst (.int 0)) .nil)) (.cst (.int 7))))
  (.cons (.for_ (.two 3 4) (.ex (.var 0)) (.cons (.for_ (.two 5 6) (.ex (.var 4)) (.cons (.ite (.cmp .Eq (.var 5) (.var 1)) (.cons (.setItem (.var 2) (.bin .Sub (.var 3) (.cst (.int 1))) (.bin .Add (.idx (.var 2) (.bin .Sub (.var 3) (.cst (.int 1)))) (.var 6)))
  .nil) .nil)
  .nil))
  .nil))
  (.cons (.ret (.prim .tuple (.cons (.var 2) .nil)))
  .nil)))⟩
noncomputable def f01_from_day : CFun := ⟨1, (.cons (.ret (.prim .tuple (.cons (.comp (.prim .sum (.cons (.slc (.var 0) (.var 1) (.cst .none)) .nil)) (.one 1) (.rng1 (.cst (.int 7))) .nil) .nil)))
  .nil)⟩
noncomputable def f01__law_mixed : CFun := ⟨1, (.cons (.assign (.one 1) (.list .nil))
  (.cons (.assign (.one 2) (.cst (.int 1)))
  (.cons (.for_ (.one 3) (.ex (.var 0)) (.cons (.assign (.one 2) (.bin .Mod (.bin .Add (.bin .Add (.bin .Mult (.var 2) (.cst (.int 6364136223846793005))) (.var 3)) (.cst (.int 1442695040888963407))) (.cst (.int 1000000000000000003))))
  (.cons (.expr (.meth .append (.var 1) (.cons (.var 2) .nil)))
  .nil)))
  (.cons (.ret (.var 1))
  .nil))))⟩
noncomputable def f01__law_cell_at : CFun := ⟨2, (.cons (.ite (.cmp .Lt (.var 1) (.prim .len (.cons (.var 0) .nil))) (.cons (.ret (.idx (.var 0) (.var 1)))
  .nil) .nil)
  (.cons (.ret (.bin .Mult (.bin .Mult (.bin .Add (.var 1) (.cst (.int 3))) (.bin .Add (.var 1) (.cst (.int 7)))) (.cst (.int 7919))))
  .nil))⟩
noncomputable def f01__law_mix : CFun := ⟨2, (.cons (.assign (.one 2) (.bin .Mod (.bin .Add (.bin .Add (.var 0) (.bin .Mult (.cst (.int 104729)) (.var 1))) (.bin .Mult (.bin .Mult (.cst (.int 7919)) (.var 1)) (.var 1))) (.cst (.int 998244353))))
  (.cons (.ret (.bin .Mod (.bin .Mult (.bin .Mod (.bin .Mult (.var 2) (.var 2)) (.cst (.int 998244353))) (.cst (.int 1000003))) (.cst (.int 998244353))))
  .nil))⟩
noncomputable def f01__law_whole : CFun := ⟨1, (.cons (.ret (.and (.prim .isInt (.cons (.var 0) .nil)) (.not (.prim .isBool (.cons (.var 0) .nil)))))
  .nil)⟩
noncomputable def f01__law_numbers : CFun := ⟨2, (.cons (.ite (.or (.not (.prim .isTuple (.cons (.var 0) .nil))) (.cmp .NotEq (.prim .len (.cons (.var 0) .nil)) (.prim .len (.cons (.var 1) .nil)))) (.cons (.ret (.cst (.bool false)))
  .nil) .nil)
  (.cons (.for_ (.one 2) (.rng1 (.prim .len (.cons (.var 1) .nil))) (.cons (.ite (.or (.not (.call 6 (.cons (.idx (.var 0) (.var 2)) .nil))) (.cmp .NotEq (.idx (.var 0) (.var 2)) (.idx (.var 1) (.var 2)))) (.cons (.ret (.cst (.bool false)))
  .nil) .nil)
  .nil))
  (.cons (.ret (.cst (.bool true)))
  .nil)))⟩
noncomputable def f01__law_name_by : CFun := ⟨2, (.cons (.assign (.one 2) (.cst (.str ("abcdefghijklmnopqrstuvwxyz" : Str))))
  (.cons (.assign (.one 3) (.list (.cons (.cst (.str ("total" : Str))) (.cons (.cst (.str ("day" : Str))) (.cons (.cst (.str ("flour" : Str))) (.cons (.cst (.str ("salt" : Str))) (.cons (.cst (.str ("left" : Str))) (.cons (.cst (.str ("used" : Str))) (.cons (.cst (.str ("short" : Str))) (.cons (.cst (.str ("salts" : Str))) (.cons (.cst (.str ("a" : Str))) (.cons (.cst (.str ("z" : Str))) (.cons (.cst (.str ("oil" : Str))) .nil)))))))))))))
  (.cons (.assign (.one 4) (.bin .FloorDiv (.var 0) (.cst (.int 6))))
  (.cons (.ite (.and (.cmp .Eq (.bin .Mod (.var 0) (.cst (.int 6))) (.cst (.int 0))) (.cmp .Lt (.var 1) (.cst (.int 4)))) (.cons (.ret (.idx (.var 3) (.bin .Mod (.bin .Add (.var 4) (.var 1)) (.cst (.int 11)))))
  .nil) .nil)
  (.cons (.assign (.one 5) (.cst (.str ("" : Str))))
  (.cons (.assign (.one 6) (.bin .FloorDiv (.var 4) (.cst (.int 7))))
  (.cons (.for_ (.one 7) (.rng1 (.bin .Add (.cst (.int 1)) (.bin .Mod (.var 4) (.cst (.int 7))))) (.cons (.assign (.one 6) (.bin .Add (.bin .Add (.var 6) (.cst (.int 1))) (.bin .Mod (.bin .FloorDiv (.var 4) (.cst (.int 182))) (.cst (.int 25)))))
  (.cons (.assign (.one 5) (.bin .Add (.var 5) (.idx (.var 2) (.bin .Mod (.var 6) (.cst (.int 26))))))
  .nil)))
  (.cons (.assign (.one 8) (.bin .Mod (.bin .FloorDiv (.var 4) (.cst (.int 4550))) (.prim .len (.cons (.var 5) .nil))))
  (.cons (.ite (.cmp .Gt (.var 1) (.cst (.int 3))) (.cons (.assign (.one 9) (.bin .Add (.idx (.var 2) (.bin .Mod (.bin .Add (.var 6) (.bin .FloorDiv (.var 1) (.cst (.int 26)))) (.cst (.int 26)))) (.idx (.var 2) (.bin .Mod (.var 1) (.cst (.int 26))))))
  (.cons (.ret (.bin .Add (.bin .Add (.slc (.var 5) (.cst .none) (.prim .min2 (.cons (.var 8) (.cons (.cst (.int 6)) .nil)))) (.var 9)) (.slc (.var 5) (.prim .min2 (.cons (.var 8) (.cons (.cst (.int 6)) .nil))) (.cst (.int 6)))))
  .nil)) .nil)
  (.cons (.ite (.cmp .Gt (.bin .Mod (.var 0) (.cst (.int 6))) (.cst (.int 3))) (.cons (.ret (.bin .Add (.idx (.var 2) (.bin .Mod (.bin .Add (.bin .FloorDiv (.var 4) (.cst (.int 7))) (.var 1)) (.cst (.int 26)))) (.var 5)))
  .nil) .nil)
  (.cons (.ite (.cmp .Eq (.var 1) (.cst (.int 1))) (.cons (.assign (.one 10) (.idx (.var 2) (.bin .Mod (.bin .Add (.meth .find (.var 2) (.cons (.idx (.var 5) (.var 8)) .nil)) (.cst (.int 1))) (.cst (.int 26)))))
  (.cons (.ret (.bin .Add (.bin .Add (.slc (.var 5) (.cst .none) (.var 8)) (.var 10)) (.slc (.var 5) (.bin .Add (.var 8) (.cst (.int 1))) (.cst .none))))
  .nil)) .nil)
  (.cons (.ret (.bin .Add (.var 5) (.idx (.list (.cons (.cst (.str ("" : Str))) (.cons (.cst (.str ("" : Str))) (.cons (.idx (.var 2) (.bin .Mod (.var 6) (.cst (.int 26)))) (.cons (.idx (.var 2) (.bin .Mod (.bin .Add (.var 6) (.cst (.int 1))) (.cst (.int 26)))) .nil))))) (.var 1))))
  .nil))))))))))))⟩
noncomputable def f01__law_amount : CFun := ⟨2, (.cons (.assign (.one 2) (.bin .Mod (.var 0) (.cst (.int 8))))
  (.cons (.ite (.cmp .Eq (.var 2) (.cst (.int 0))) (.cons (.ret (.bin .Add (.cst (.int 1)) (.bin .Mod (.bin .FloorDiv (.var 0) (.cst (.int 8))) (.var 1))))
  .nil) .nil)
  (.cons (.ite (.cmp .Eq (.var 2) (.cst (.int 1))) (.cons (.ret (.bin .Add (.cst (.int 1)) (.bin .Mod (.bin .FloorDiv (.var 0) (.cst (.int 8))) (.cst (.int 60)))))
  .nil) .nil)
  (.cons (.ret (.bin .Add (.cst (.int 1)) (.bin .Mod (.bin .FloorDiv (.var 0) (.cst (.int 8))) (.cst (.int 12)))))
  .nil))))⟩
noncomputable def f01__law_last : CFun := ⟨1, (.cons (.ite (.cmp .Eq (.bin .Mod (.var 0) (.cst (.int 6))) (.cst (.int 0))) (.cons (.ret (.bin .Add (.cst (.int 1)) (.bin .Mod (.bin .FloorDiv (.var 0) (.cst (.int 6))) (.cst (.int 99)))))
  .nil) .nil)
  (.cons (.ite (.cmp .Lt (.bin .Mod (.var 0) (.cst (.int 6))) (.cst (.int 3))) (.cons (.ret (.bin .Add (.cst (.int 7)) (.bin .Mod (.bin .FloorDiv (.var 0) (.cst (.int 6))) (.cst (.int 2)))))
  .nil) .nil)
  (.cons (.ret (.bin .Add (.cst (.int 1)) (.bin .Mod (.bin .FloorDiv (.var 0) (.cst (.int 6))) (.cst (.int 9)))))
  .nil)))⟩
noncomputable def f01__law_dishes : CFun := ⟨3, (.cons (.assign (.one 3) (.list .nil))
  (.cons (.for_ (.one 4) (.rng1 (.var 2)) (.cons (.assign (.one 5) (.call 5 (.cons (.call 4 (.cons (.var 0) (.cons (.bin .Add (.cst (.int 3)) (.bin .Mod (.var 4) (.cst (.int 20)))) .nil))) (.cons (.var 4) .nil))))
  (.cons (.assign (.one 6) (.list .nil))
  (.cons (.assign (.one 7) (.idx (.list (.cons (.bin .Mod (.bin .FloorDiv (.var 5) (.cst (.int 7))) (.cst (.int 4))) (.cons (.bin .Mod (.bin .FloorDiv (.var 5) (.cst (.int 7))) (.cst (.int 21))) .nil))) (.prim .int (.cons (.cmp .Eq (.bin .Mod (.bin .FloorDiv (.var 5) (.cst (.int 147))) (.cst (.int 40))) (.cst (.int 0))) .nil))))
  (.cons (.for_ (.one 8) (.rng1 (.var 7)) (.cons (.assign (.one 9) (.call 5 (.cons (.bin .FloorDiv (.var 5) (.cst (.int 28))) (.cons (.bin .Add (.var 8) (.cst (.int 1))) .nil))))
  (.cons (.assign (.one 10) (.bin .Add (.cst (.int 1)) (.bin .Mod (.bin .FloorDiv (.var 9) (.cst (.int 60))) (.cst (.int 12)))))
  (.cons (.ite (.cmp .Eq (.bin .Mod (.bin .FloorDiv (.var 9) (.cst (.int 720))) (.cst (.int 40))) (.cst (.int 0))) (.cons (.assign (.one 10) (.call 9 (.cons (.bin .FloorDiv (.var 9) (.cst (.int 28800))) (.cons (.cst (.int 200)) .nil))))
  .nil) .nil)
  (.cons (.expr (.meth .append (.var 6) (.cons (.tuple (.cons (.call 8 (.cons (.idx (.var 1) (.cst (.int 0))) (.cons (.bin .Mod (.bin .Mod (.var 9) (.cst (.int 60))) (.idx (.var 1) (.cst (.int 1)))) .nil))) (.cons (.var 10) .nil))) .nil)))
  .nil)))))
  (.cons (.expr (.meth .append (.var 3) (.cons (.tuple (.cons (.bin .Add (.cst (.int 1)) (.bin .Mod (.var 5) (.cst (.int 7)))) (.cons (.prim .tuple (.cons (.var 6) .nil)) .nil))) .nil)))
  .nil))))))
  (.cons (.ret (.prim .tuple (.cons (.var 3) .nil)))
  .nil)))⟩
noncomputable def f01__law_price : CFun := ⟨1, (.cons (.ite (.cmp .Eq (.bin .Mod (.var 0) (.cst (.int 9))) (.cst (.int 0))) (.cons (.ret (.bin .Mod (.bin .FloorDiv (.var 0) (.cst (.int 9))) (.cst (.int 1000001))))
  .nil) .nil)
  (.cons (.ite (.cmp .Eq (.bin .Mod (.var 0) (.cst (.int 9))) (.cst (.int 1))) (.cons (.ret (.cst (.int 0)))
  .nil) .nil)
  (.cons (.ret (.bin .Mod (.bin .FloorDiv (.var 0) (.cst (.int 9))) (.cst (.int 30))))
  .nil)))⟩
noncomputable def f01__law_packs : CFun := ⟨3, (.cons (.assign (.one 3) (.list .nil))
  (.cons (.for_ (.one 4) (.rng1 (.var 2)) (.cons (.assign (.one 5) (.call 5 (.cons (.call 4 (.cons (.var 0) (.cons (.bin .Add (.cst (.int 33)) (.bin .Mod (.var 4) (.cst (.int 10)))) .nil))) (.cons (.bin .Add (.cst (.int 80)) (.var 4)) .nil))))
  (.cons (.assign (.one 6) (.call 5 (.cons (.var 5) (.cons (.bin .Add (.var 4) (.cst (.int 1))) .nil))))
  (.cons (.assign (.one 7) (.call 8 (.cons (.idx (.var 1) (.cst (.int 0))) (.cons (.bin .Mod (.bin .Mod (.var 5) (.cst (.int 60))) (.idx (.var 1) (.cst (.int 1)))) .nil))))
  (.cons (.expr (.meth .append (.var 3) (.cons (.tuple (.cons (.var 7) (.cons (.call 9 (.cons (.bin .FloorDiv (.var 5) (.cst (.int 60))) (.cons (.cst (.int 200)) .nil))) (.cons (.call 12 (.cons (.var 6) .nil)) (.cons (.call 10 (.cons (.bin .FloorDiv (.var 6) (.cst (.int 997))) .nil)) .nil))))) .nil)))
  .nil)))))
  (.cons (.ret (.prim .tuple (.cons (.var 3) .nil)))
  .nil)))⟩
noncomputable def f01__law_names : CFun := ⟨1, (.cons (.assign (.one 1) (.call 4 (.cons (.var 0) (.cons (.cst (.int 0)) .nil))))
  (.cons (.assign (.one 2) (.idx (.list (.cons (.cst (.int 1)) (.cons (.cst (.int 2)) (.cons (.cst (.int 3)) (.cons (.cst (.int 4)) .nil))))) (.bin .Mod (.call 4 (.cons (.var 0) (.cons (.cst (.int 1)) .nil))) (.cst (.int 4)))))
  (.cons (.ite (.cmp .Eq (.bin .Mod (.bin .FloorDiv (.call 4 (.cons (.var 0) (.cons (.cst (.int 1)) .nil))) (.cst (.int 4))) (.cst (.int 16))) (.cst (.int 0))) (.cons (.assign (.one 2) (.cst (.int 12)))
  .nil) .nil)
  (.cons (.ret (.list (.cons (.var 1) (.cons (.var 2) .nil))))
  .nil))))⟩
noncomputable def f01__law_many : CFun := ⟨3, (.cons (.ite (.cmp .Eq (.bin .Mod (.var 0) (.cst (.int 24))) (.cst (.int 0))) (.cons (.ret (.bin .Mod (.bin .FloorDiv (.var 0) (.cst (.int 24))) (.bin .Add (.var 2) (.cst (.int 1)))))
  .nil) .nil)
  (.cons (.ret (.bin .Mod (.bin .FloorDiv (.var 0) (.cst (.int 24))) (.bin .Add (.var 1) (.cst (.int 1)))))
  .nil))⟩
noncomputable def f01__law_lacks : CFun := ⟨3, (.cons (.assign (.one 3) (.list .nil))
  (.cons (.for_ (.one 4) (.rng2 (.cst (.int 1)) (.cst (.int 8))) (.cons (.assign (.one 5) (.cst (.int 0)))
  (.cons (.for_ (.one 6) (.ex (.var 0)) (.cons (.ite (.cmp .GtE (.idx (.var 6) (.cst (.int 0))) (.var 4)) (.cons (.assign (.one 5) (.bin .Add (.var 5) (.prim .sum (.cons (.comp (.idx (.var 8) (.cst (.int 1))) (.one 8) (.ex (.idx (.var 6) (.cst (.int 1)))) (.cons (.cmp .Eq (.idx (.var 8) (.cst (.int 0))) (.var 2)) .nil)) .nil))))
  .nil) .nil)
  .nil))
  (.cons (.for_ (.one 7) (.ex (.var 1)) (.cons (.ite (.and (.cmp .Eq (.idx (.var 7) (.cst (.int 0))) (.var 2)) (.cmp .GtE (.idx (.var 7) (.cst (.int 2))) (.var 4))) (.cons (.assign (.one 5) (.bin .Sub (.var 5) (.idx (.var 7) (.cst (.int 1)))))
  .nil) .nil)
  .nil))
  (.cons (.expr (.meth .append (.var 3) (.cons (.prim .max2 (.cons (.cst (.int 0)) (.cons (.var 5) .nil))) .nil)))
  .nil)))))
  (.cons (.ret (.var 3))
  .nil)))⟩
noncomputable def f01__law_of_all : CFun := ⟨2, (.cons (.assign (.one 2) (.cst (.int 0)))
  (.cons (.for_ (.one 3) (.ex (.var 0)) (.cons (.assign (.one 2) (.bin .Add (.var 2) (.prim .sum (.cons (.comp (.idx (.var 4) (.cst (.int 1))) (.one 4) (.ex (.idx (.var 3) (.cst (.int 1)))) (.cons (.cmp .Eq (.idx (.var 4) (.cst (.int 0))) (.var 1)) .nil)) .nil))))
  .nil))
  (.cons (.ret (.var 2))
  .nil)))⟩
noncomputable def f01__law_things : CFun := ⟨1, (.cons (.assign (.one 1) .dict0)
  (.cons (.for_ (.one 2) (.ex (.var 0)) (.cons (.for_ (.one 3) (.ex (.idx (.var 2) (.cst (.int 1)))) (.cons (.setItem (.var 1) (.idx (.var 3) (.cst (.int 0))) (.cst (.bool true)))
  .nil))
  .nil))
  (.cons (.ret (.prim .sorted (.cons (.var 1) .nil)))
  .nil)))⟩
noncomputable def f01_law : CFun := ⟨1, (.cons (.assign (.one 1) (.call 3 (.cons (.var 0) .nil)))
  (.cons (.assign (.one 2) (.call 14 (.cons (.var 1) .nil)))
  (.cons (.assign (.one 3) (.call 11 (.cons (.var 1) (.cons (.var 2) (.cons (.call 15 (.cons (.call 4 (.cons (.var 1) (.cons (.cst (.int 2)) .nil))) (.cons (.cst (.int 5)) (.cons (.cst (.int 60)) .nil)))) .nil)))))
  (.cons (.ite (.or (.cmp .NotEq (.cst (.int 7)) (.cst (.int 7))) (.or (.cmp .NotEq (.cst (.int 200)) (.cst (.int 200))) (.cmp .NotEq (.call 0 (.cons (.var 3) .nil)) (.prim .tuple (.cons (.call 18 (.cons (.var 3) .nil)) .nil))))) (.cons (.ret (.cst (.bool false)))
  .nil) .nil)
  (.cons (.for_ (.one 4) (.rng1 (.bin .Add (.idx (.var 2) (.cst (.int 1))) (.cst (.int 1)))) (.cons (.assign (.one 5) (.call 8 (.cons (.idx (.var 2) (.cst (.int 0))) (.cons (.var 4) .nil))))
  (.cons (.assign (.one 6) (.bin .Mult (.list (.cons (.cst (.int 0)) .nil)) (.cst (.int 7))))
  (.cons (.for_ (.one 7) (.ex (.var 3)) (.cons (.for_ (.one 8) (.ex (.idx (.var 7) (.cst (.int 1)))) (.cons (.ite (.cmp .Eq (.idx (.var 8) (.cst (.int 0))) (.var 5)) (.cons (.setItem (.var 6) (.bin .Sub (.idx (.var 7) (.cst (.int 0))) (.cst (.int 1))) (.bin .Add (.idx (.var 6) (.bin .Sub (.idx (.var 7) (.cst (.int 0))) (.cst (.int 1)))) (.idx (.var 8) (.cst (.int 1)))))
  .nil) .nil)
  .nil))
  .nil))
  (.cons (.assign (.one 9) (.call 1 (.cons (.var 3) (.cons (.var 5) .nil))))
  (.cons (.ite (.not (.call 7 (.cons (.var 9) (.cons (.var 6) .nil)))) (.cons (.ret (.cst (.bool false)))
  .nil) .nil)
  (.cons (.ite (.not (.call 7 (.cons (.call 2 (.cons (.var 9) .nil)) (.cons (.comp (.prim .sum (.cons (.comp (.idx (.var 6) (.var 12)) (.one 12) (.rng2 (.var 10) (.cst (.int 7))) .nil) .nil)) (.one 10) (.rng1 (.cst (.int 7))) .nil) .nil)))) (.cons (.ret (.cst (.bool false)))
  .nil) .nil)
  .nil)))))))
  (.cons (.ret (.cst (.bool true)))
  .nil))))))⟩
noncomputable def P01 : List CFun := [f01_things_of, f01_needed, f01_from_day, f01__law_mixed, f01__law_cell_at, f01__law_mix, f01__law_whole, f01__law_numbers, f01__law_name_by, f01__law_amount, f01__law_last, f01__law_dishes, f01__law_price, f01__law_packs, f01__law_names, f01__law_many, f01__law_lacks, f01__law_of_all, f01__law_things, f01_law]
noncomputable def consts01 : List (Str × Int) := [("DAYS", 7), ("MOST", 200)]
end Lar

set_option autoImplicit false
set_option maxRecDepth 100000
namespace Lar
open PySem

noncomputable def Keep (σ σ' : Sto) : Prop := ∀ (i : Nat) (o : MObj), σ[i]? = some o → σ'[i]? = some o
theorem Keep.refl (σ : Sto) : Keep σ σ := fun _ _ h => h
theorem Keep.trans {a b c : Sto} (x : Keep a b) (y : Keep b c) : Keep a c := fun i o h => y i o (x i o h)
theorem Keep.app (σ τ : Sto) : Keep σ (σ ++ τ) := fun i o h => by
  rw [List.getElem?_append_left (List.getElem?_eq_some_iff.mp h).1]; exact h
theorem Keep.set {σ σ' : Sto} {r : Nat} {m : MObj} (h : Keep σ σ') (hr : σ.length ≤ r) : Keep σ (σ'.set r m) := fun i o e => by
  have hi : i < σ.length := (List.getElem?_eq_some_iff.mp e).1
  rw [List.getElem?_set_ne (by omega)]
  exact h i o e
theorem call_at {P : List CFun} {d k : Nat} {f : CFun} {as : List V} {σ : Sto} (hk : P[k]? = some f) (ha : as.length = f.arity) : callL P (d + 1) k as σ = fin (execCs (callL P d) f.body (argsLoc as) σ) := by
  simp only [callL, hk, Option.bind_some, ha, if_true]

theorem ibeq (a b : Int) : (a == b) = decide (a = b) := by
  by_cases h : a = b <;> simp [h]
theorem fmod_range {a b : Int} (h : 0 < b) : 0 ≤ a.fmod b ∧ a.fmod b < b := ⟨Int.fmod_nonneg_of_pos a h, Int.fmod_lt_of_pos a h⟩
theorem mulOk_r {a b : Int} (h : b.natAbs < 18446744073709551616) : mulOk a b = true := by simp [mulOk, h]

noncomputable def mixF (x y : Int) : Int := ((((((x + 104729 * y) + (7919 * y) * y).fmod 998244353) * (((x + 104729 * y) + (7919 * y) * y).fmod 998244353)).fmod 998244353) * 1000003).fmod 998244353
noncomputable def cellF (cs : List Int) (k : Nat) : Int := match cs[k]? with | some x => x | none => ((k : Int) + 3) * ((k : Int) + 7) * 7919
noncomputable def amountF (x m : Int) : Int := if x.fmod 8 = 0 then 1 + (x.fdiv 8).fmod m else if x.fmod 8 = 1 then 1 + (x.fdiv 8).fmod 60 else 1 + (x.fdiv 8).fmod 12
theorem loop_inv {body : Loc → Sto → Option (Flow × Loc × Sto)} {t : Tgt} {w : List (Nat × MObj)} {xs : List V} {ρ : Loc} {σ : Sto} (I : Nat → Loc → Sto → Prop) (h0 : I 0 ρ σ) (hw : ∀ k ρ σ, I k ρ σ → watchOk σ w)
    (step : ∀ k x ρ σ, xs[k]? = some x → I k ρ σ → ∃ ρ' ρ'' σ'', t.put x ρ = some ρ' ∧ body ρ' σ = some (.next, ρ'', σ'') ∧ I (k + 1) ρ'' σ'') :
    ∃ ρe σe, loopC body t w xs ρ σ = some (.next, ρe, σe) ∧ I xs.length ρe σe := by
  suffices H : ∀ (ys : List V) (k : Nat) (ρ : Loc) (σ : Sto), xs.drop k = ys → k ≤ xs.length → I k ρ σ → ∃ ρe σe, loopC body t w ys ρ σ = some (.next, ρe, σe) ∧ I xs.length ρe σe from H xs 0 ρ σ (by simp) (Nat.zero_le _) h0
  intro ys
  induction ys with
  | nil =>
    intro k ρ σ hd hk hI
    have : k = xs.length := by
      have := congrArg List.length hd
      simp at this; omega
    subst this
    exact ⟨ρ, σ, by simp [loopC, guardW_of, seqF, bnd3, Option.bind_some, hw _ _ _ hI], hI⟩
  | cons y ys ih =>
    intro k ρ σ hd hk hI
    have hlt : k < xs.length := by
      have := congrArg List.length hd
      simp at this; omega
    have hx : xs[k]? = some y := by
      have := congrArg (·[0]?) hd
      simpa using this
    obtain ⟨ρ', ρ'', σ'', h1, h2, h3⟩ := step k y ρ σ hx hI
    obtain ⟨ρe, σe, h4, h5⟩ := ih (k + 1) ρ'' σ'' (by rw [← List.drop_drop, hd]; simp) hlt h3
    exact ⟨ρe, σe, by simp [loopC, guardW_of, seqF, bnd3, Option.bind_some, hw _ _ _ hI, h1, h2, h4], h5⟩

theorem watch0 (σ : Sto) : watchOk σ [] := fun _ h => nomatch h
theorem get_self (σ : Sto) (m : MObj) : (σ ++ [m])[σ.length]? = some m := by simp

end Lar

set_option autoImplicit false
set_option maxRecDepth 100000
namespace Lar
open PySem

/-- a block comes to an end, and there Q holds -/
noncomputable def W (call : CallF) (ss : CSs) (ρ : Loc) (σ : Sto) (Q : Flow → Loc → Sto → Prop) : Prop := ∃ fl ρ' σ', execCs call ss ρ σ = some (fl, ρ', σ') ∧ Q fl ρ' σ'

theorem ev_idx {call : CallF} {ρ : Loc} {σ σ₁ σ₂ : Sto} {a i : CE} {x y r : V} (ha : evalC call a ρ σ = some (x, σ₁)) (hi : evalC call i ρ σ₁ = some (y, σ₂)) (h : idxop x y σ₂ = some r) : evalC call (.idx a i) ρ σ = some (r, σ₂) := by
  show bnd (evalC call a ρ σ) (fun x σ₁ => bnd (evalC call i ρ σ₁) fun y σ₂ => (idxop x y σ₂).bind fun r => some (r, σ₂)) = _
  rw [ha]
  show bnd (evalC call i ρ σ₁) (fun y σ₂ => (idxop x y σ₂).bind fun r => some (r, σ₂)) = _
  rw [hi]
  show (idxop x y σ₂).bind (fun r => some (r, σ₂)) = _
  rw [h]; rfl
theorem idxL_of {l : List V} {k : Int} {x : V} (hk0 : 0 ≤ k) (hx : l[k.toNat]? = some x) : idxL l (.int k) = some x := by
  show (if 0 ≤ k then l[k.toNat]? else none) = _
  rw [if_pos hk0, hx]
theorem idx_lst {call : CallF} {ρ : Loc} {σ σ₁ σ₂ : Sto} {a i : CE} (r : Nat) (k : Int) (l : List V) (x : V) (ha : evalC call a ρ σ = some (.ref r, σ₁)) (hi : evalC call i ρ σ₁ = some (.int k, σ₂)) (hr : σ₂[r]? = some (.lst l)) (hk0 : 0 ≤ k) (hx : l[k.toNat]? = some x) : evalC call (.idx a i) ρ σ = some (x, σ₂) :=
  ev_idx ha hi (by
    show (σ₂[r]?).bind (idxM (.int k)) = _
    rw [hr]
    exact idxL_of hk0 hx)
theorem idx_tup {call : CallF} {ρ : Loc} {σ σ₁ σ₂ : Sto} {a i : CE} (k : Int) (l : List V) (x : V) (ha : evalC call a ρ σ = some (.tup l, σ₁)) (hi : evalC call i ρ σ₁ = some (.int k, σ₂)) (hk0 : 0 ≤ k) (hx : l[k.toNat]? = some x) : evalC call (.idx a i) ρ σ = some (x, σ₂) :=
  ev_idx ha hi (idxL_of hk0 hx)
theorem evalC_call {call : CallF} {f : Nat} {as : CEs} {ρ : Loc} {σ σ₁ σ₂ : Sto} {vs : List V} {v : V} (h : evalCs call as ρ σ = some (vs, σ₁)) (hc : call f vs σ₁ = some (.ok v, σ₂)) : evalC call (.call f as) ρ σ = some (v, σ₂) := by
  show bnd (evalCs call as ρ σ) (fun vs σ₁ => bnd (call f vs σ₁) fun r σ₂ => (okV r).bind fun v => some (v, σ₂)) = _
  rw [h]
  show bnd (call f vs σ₁) (fun r σ₂ => (okV r).bind fun v => some (v, σ₂)) = _
  rw [hc]; rfl
theorem ev_bin {call : CallF} {op : Operator} {a b : CE} {ρ : Loc} {σ σ₁ σ₂ : Sto} {x y : V} {r : Option (V × Sto)} (ha : evalC call a ρ σ = some (x, σ₁)) (hb : evalC call b ρ σ₁ = some (y, σ₂)) (h : binop op x y σ₂ = r) : evalC call (.bin op a b) ρ σ = r := by
  show bnd (evalC call a ρ σ) (fun x σ₁ => bnd (evalC call b ρ σ₁) fun y σ₂ => binop op x y σ₂) = _
  rw [ha]
  show bnd (evalC call b ρ σ₁) (fun y σ₂ => binop op x y σ₂) = _
  rw [hb]; exact h
theorem mul_ok {x y : Int} {σ : Sto} (m : mulOk x y = true) : binop .Mult (.int x) (.int y) σ = some (.int (x * y), σ) := by
  show (if mulOk x y = true then some (V.int (x * y), σ) else none) = _
  rw [if_pos m]
theorem mod_ok {x y : Int} {σ : Sto} (m : y ≠ 0) : binop .Mod (.int x) (.int y) σ = some (.int (x.fmod y), σ) := by
  show (if y = 0 then none else some (x.fmod y)).bind (fun z => some (V.int z, σ)) = _
  rw [if_neg m]; rfl
theorem div_ok {x y : Int} {σ : Sto} (m : y ≠ 0) (m' : y.natAbs < 1073741824) : binop .FloorDiv (.int x) (.int y) σ = some (.int (x.fdiv y), σ) := by
  show (if y = 0 ∨ 1073741824 ≤ y.natAbs then none else some (x.fdiv y)).bind (fun z => some (V.int z, σ)) = _
  rw [if_neg (not_or.mpr ⟨m, Nat.not_le.mpr m'⟩)]; rfl
theorem ev_cmp {call : CallF} {op : CmpOp} {a b : CE} {ρ : Loc} {σ σ₁ σ₂ : Sto} {x y : V} {c : Bool} (ha : evalC call a ρ σ = some (x, σ₁)) (hb : evalC call b ρ σ₁ = some (y, σ₂)) (h : cmpop op x y σ₂ = some c) : evalC call (.cmp op a b) ρ σ = some (.bool c, σ₂) := by
  show bnd (evalC call a ρ σ) (fun x σ₁ => bnd (evalC call b ρ σ₁) fun y σ₂ => (cmpop op x y σ₂).bind fun r => some (V.bool r, σ₂)) = _
  rw [ha]
  show bnd (evalC call b ρ σ₁) (fun y σ₂ => (cmpop op x y σ₂).bind fun r => some (V.bool r, σ₂)) = _
  rw [hb]
  show (cmpop op x y σ₂).bind (fun r => some (V.bool r, σ₂)) = _
  rw [h]; rfl
theorem ev_not {call : CallF} {a : CE} {ρ : Loc} {σ σ₁ : Sto} {b : Bool} (ha : evalC call a ρ σ = some (.bool b, σ₁)) : evalC call (.not a) ρ σ = some (.bool (!b), σ₁) := by
  show bndB (evalC call a ρ σ) (fun b σ₁ => some (V.bool (!b), σ₁)) = _
  rw [ha]; rfl
theorem ev_and {call : CallF} {a b : CE} {ρ : Loc} {σ σ₁ : Sto} {r : Option (V × Sto)} (ha : evalC call a ρ σ = some (.bool true, σ₁)) (hb : evalC call b ρ σ₁ = r) : evalC call (.and a b) ρ σ = r := by
  show bndB (evalC call a ρ σ) (fun p σ₁ => if p then evalC call b ρ σ₁ else some (.bool false, σ₁)) = _
  rw [ha]; exact hb
theorem ev_andF {call : CallF} {a b : CE} {ρ : Loc} {σ σ₁ : Sto} (ha : evalC call a ρ σ = some (.bool false, σ₁)) : evalC call (.and a b) ρ σ = some (.bool false, σ₁) := by
  show bndB (evalC call a ρ σ) (fun p σ₁ => if p then evalC call b ρ σ₁ else some (.bool false, σ₁)) = _
  rw [ha]; rfl
theorem ev_or {call : CallF} {a b : CE} {ρ : Loc} {σ σ₁ : Sto} {r : Option (V × Sto)} (ha : evalC call a ρ σ = some (.bool false, σ₁)) (hb : evalC call b ρ σ₁ = r) : evalC call (.or a b) ρ σ = r := by
  show bndB (evalC call a ρ σ) (fun p σ₁ => if p then some (.bool true, σ₁) else evalC call b ρ σ₁) = _
  rw [ha]; exact hb
theorem ev_prim {call : CallF} {p : Prim} {as : CEs} {ρ : Loc} {σ σ₁ : Sto} {vs : List V} {r : Option (V × Sto)} (h : evalCs call as ρ σ = some (vs, σ₁)) (hp : primop p vs σ₁ = r) : evalC call (.prim p as) ρ σ = r := by
  show bnd (evalCs call as ρ σ) (fun vs σ₁ => primop p vs σ₁) = _
  rw [h]; exact hp
theorem ev_args1 {call : CallF} {e : CE} {ρ : Loc} {σ σ₁ : Sto} {v : V} (h : evalC call e ρ σ = some (v, σ₁)) : evalCs call (.cons e .nil) ρ σ = some ([v], σ₁) := by
  show bnd (evalC call e ρ σ) (fun v σ₁ => bnd (evalCs call .nil ρ σ₁) fun vs σ₂ => some (v :: vs, σ₂)) = _
  rw [h]; rfl
theorem ev_args {call : CallF} {e : CE} {r : CEs} {ρ : Loc} {σ σ₁ σ₂ : Sto} {v : V} {vs : List V} (h : evalC call e ρ σ = some (v, σ₁)) (hr : evalCs call r ρ σ₁ = some (vs, σ₂)) : evalCs call (.cons e r) ρ σ = some (v :: vs, σ₂) := by
  show bnd (evalC call e ρ σ) (fun v σ₁ => bnd (evalCs call r ρ σ₁) fun vs σ₂ => some (v :: vs, σ₂)) = _
  rw [h]
  show bnd (evalCs call r ρ σ₁) (fun vs σ₂ => some (v :: vs, σ₂)) = _
  rw [hr]; rfl
theorem ev_var {call : CallF} {i : Nat} {ρ : Loc} {σ : Sto} {v : V} (h : ρ i = some v) : evalC call (.var i) ρ σ = some (v, σ) := by
  show (ρ i).bind (fun v => some (v, σ)) = _
  rw [h]; rfl
theorem ev_comp {call : CallF} {elt : CE} {t : Tgt} {it : CIt} {ifs : CEs} {ρ : Loc} {σ σ₁ σ₂ : Sto} {xs l : List V} {w : List (Nat × MObj)} (hs : srcC call it ρ σ = some (xs, w, σ₁)) (hc : compL (evalC call elt) (testCs call ifs) t w xs ρ σ₁ = some (l, σ₂)) (hz : l.length ≤ szLine) : evalC call (.comp elt t it ifs) ρ σ = some (.ref σ₂.length, σ₂ ++ [.lst l]) := by
  show bnd3 (srcC call it ρ σ) (fun xs w σ₁ => bnd (compL (evalC call elt) (testCs call ifs) t w xs ρ σ₁) fun l σ₂ => new σ₂ l) = _
  rw [hs]
  show bnd (compL (evalC call elt) (testCs call ifs) t w xs ρ σ₁) (fun l σ₂ => new σ₂ l) = _
  rw [hc]
  exact if_pos hz
theorem sum_prim {σ : Sto} {r : Nat} {ns : List Int} {l : List V} (hr : σ[r]? = some (.lst l)) (hi : intsOf l = some ns) : primop .sum [.ref r] σ = some (.int (ns.foldl (· + ·) 0), σ) := by
  show ((lst σ r).bind fun l => some (l, [(r, MObj.lst l)])).bind (fun p => (intsOf p.1).bind fun ns => some (V.int (ns.foldl (· + ·) 0), σ)) = _
  rw [lst_eq hr]
  show (intsOf l).bind (fun ns => some (V.int (ns.foldl (· + ·) 0), σ)) = _
  rw [hi]; rfl
theorem len_tup {σ : Sto} (l : List V) : primop .len [.tup l] σ = some (.int l.length, σ) := rfl
theorem tuple_prim {σ : Sto} {r : Nat} {l : List V} (hr : σ[r]? = some (.lst l)) (hz : l.length ≤ szLine) : primop .tuple [.ref r] σ = some (.tup l, σ) := by
  show (lst σ r).bind (fun l => newT σ l) = _
  rw [lst_eq hr]
  exact if_pos hz

section
variable {call : CallF} {rest : CSs} {ρ ρ' : Loc} {σ σ₁ σ₂ σ₃ : Sto} {Q : Flow → Loc → Sto → Prop}

theorem W.nil (h : Q .next ρ σ) : W call .nil ρ σ Q := ⟨_, _, _, rfl, h⟩
theorem W.step {s : CS} (h : execC call s ρ σ = some (.next, ρ', σ₁)) (k : W call rest ρ' σ₁ Q) : W call (.cons s rest) ρ σ Q := by
  obtain ⟨fl, ρ'', σ'', h1, h2⟩ := k
  refine ⟨fl, ρ'', σ'', ?_, h2⟩
  show seqF (execC call s ρ σ) (execCs call rest) = _
  rw [h]; exact h1
theorem W.assign {i : Nat} {e : CE} (v : V) (σ₁ : Sto) (h : evalC call e ρ σ = some (v, σ₁)) (k : W call rest (upd ρ i v) σ₁ Q) : W call (.cons (.assign (.one i) e) rest) ρ σ Q :=
  W.step (by
    show bnd (evalC call e ρ σ) (fun v σ₁ => ((Tgt.one i).put v ρ).bind fun ρ' => some (Flow.next, ρ', σ₁)) = _
    rw [h]; rfl) k
theorem W.ret {e : CE} (v : V) (σ₁ : Sto) (h : execC call (.ret e) ρ σ = some (.ret v, ρ, σ₁)) (k : Q (.ret v) ρ σ₁) : W call (.cons (.ret e) rest) ρ σ Q := by
  refine ⟨_, _, _, ?_, k⟩
  show seqF (execC call (.ret e) ρ σ) (execCs call rest) = _
  rw [h]; rfl
theorem W.retE {e : CE} {v : V} {σ₁ : Sto} (h : evalC call e ρ σ = some (v, σ₁)) (k : Q (.ret v) ρ σ₁) : W call (.cons (.ret e) rest) ρ σ Q :=
  W.ret v σ₁ (by
    show bnd (evalC call e ρ σ) (fun v σ₁ => some (Flow.ret v, ρ, σ₁)) = _
    rw [h]; rfl) k
theorem W.block {s : CS} {t : CSs} {ρ₁ : Loc} (e : execC call s ρ σ = execCs call t ρ₁ σ₁) (k : W call t ρ₁ σ₁ fun fl ρ' σ' => match fl with | .next => W call rest ρ' σ' Q | fl => Q fl ρ' σ') : W call (.cons s rest) ρ σ Q := by
  obtain ⟨fl, ρ'', σ'', h1, h2⟩ := k
  have h3 : execCs call (.cons s rest) ρ σ = seqF (execC call s ρ σ) (execCs call rest) := rfl
  rw [e, h1] at h3
  cases fl with
  | next =>
    obtain ⟨fl, ρ3, σ3, h4, h5⟩ := h2
    exact ⟨fl, ρ3, σ3, h3.trans h4, h5⟩
  | ret v => exact ⟨_, _, _, h3, h2⟩
  | exc c w => exact ⟨_, _, _, h3, h2⟩
theorem W.iteT {c : CE} {t e : CSs} (σ₁ : Sto) (h : testC call c ρ σ = some (true, σ₁)) (k : W call t ρ σ₁ fun fl ρ' σ' => match fl with | .next => W call rest ρ' σ' Q | fl => Q fl ρ' σ') : W call (.cons (.ite c t e) rest) ρ σ Q :=
  W.block (by
    show bndB (evalC call c ρ σ) (fun b σ₁ => if b then execCs call t ρ σ₁ else execCs call e ρ σ₁) = _
    rw [testC_some h]; rfl) k
theorem W.iteF {c : CE} {t e : CSs} (σ₁ : Sto) (h : testC call c ρ σ = some (false, σ₁)) (k : W call e ρ σ₁ fun fl ρ' σ' => match fl with | .next => W call rest ρ' σ' Q | fl => Q fl ρ' σ') : W call (.cons (.ite c t e) rest) ρ σ Q :=
  W.block (by
    show bndB (evalC call c ρ σ) (fun b σ₁ => if b then execCs call t ρ σ₁ else execCs call e ρ σ₁) = _
    rw [testC_some h]; rfl) k
/-- append one value -/
theorem W.append {o e : CE} (r : Nat) (l : List V) (v : V) (σ₁ : Sto) (ho : evalC call o ρ σ = some (.ref r, σ)) (hr : σ[r]? = some (.lst l)) (he : evalC call e ρ σ = some (v, σ₁)) (hr1 : σ₁[r]? = some (.lst l)) (hz : l.length ≤ szLine)
    (k : W call rest ρ (σ₁.set r (.lst (l ++ [v]))) Q) : W call (.cons (.expr (.meth .append o (.cons e .nil))) rest) ρ σ Q := by
  refine W.step (ρ' := ρ) (σ₁ := σ₁.set r (.lst (l ++ [v]))) ?_ k
  have hrc : recv .append (.ref r) σ = true := by
    show (lst σ r).isSome = true
    rw [lst_eq hr]; rfl
  have e1 : evalC call (.meth .append o (.cons e .nil)) ρ σ = some (.none, σ₁.set r (.lst (l ++ [v]))) := by
    show bnd (evalC call o ρ σ) (fun x σ₁ => if recv .append x σ₁ then bnd (evalCs call (.cons e .nil) ρ σ₁) fun vs σ₂ => methop .append x vs σ₂ else none) = _
    rw [ho]
    show (if recv .append (.ref r) σ then bnd (evalCs call (.cons e .nil) ρ σ) fun vs σ₂ => methop .append (.ref r) vs σ₂ else none) = _
    rw [if_pos hrc, ev_args1 he]
    show (lst σ₁ r).bind (fun l => if l.length ≤ szLine then some (V.none, σ₁.set r (.lst (l ++ [v]))) else none) = _
    rw [lst_eq hr1]
    exact if_pos hz
  show bnd (evalC call (.meth .append o (.cons e .nil)) ρ σ) (fun _ σ₁ => some (Flow.next, ρ, σ₁)) = _
  rw [e1]; rfl
theorem W.for_ {t : Tgt} {it : CIt} {body : CSs} (xs : List V) (w : List (Nat × MObj)) (σ₁ : Sto) (h : srcC call it ρ σ = some (xs, w, σ₁)) (I : Nat → Loc → Sto → Prop) (h0 : I 0 ρ σ₁) (hw : ∀ k ρ σ, I k ρ σ → watchOk σ w)
    (step : ∀ k x ρ σ, xs[k]? = some x → I k ρ σ → ∃ ρ', t.put x ρ = some ρ' ∧ W call body ρ' σ fun fl ρ'' σ'' => fl = .next ∧ I (k + 1) ρ'' σ'')
    (k : ∀ ρ' σ', I xs.length ρ' σ' → W call rest ρ' σ' Q) : W call (.cons (.for_ t it body) rest) ρ σ Q := by
  obtain ⟨ρe, σe, h1, h2⟩ := loop_inv (body := execCs call body) (t := t) I h0 hw fun k x ρ σ hx hI => by
    obtain ⟨ρ', hp, fl, ρ'', σ'', h1, rfl, h2⟩ := step k x ρ σ hx hI
    exact ⟨ρ', ρ'', σ'', hp, h1, h2⟩
  refine W.step (ρ' := ρe) (σ₁ := σe) ?_ (k ρe σe h2)
  show bnd3 (srcC call it ρ σ) (fun xs w σ₁ => loopC (execCs call body) t w xs ρ σ₁) = _
  rw [h]; exact h1
theorem W.append0 {o e : CE} (r : Nat) (l : List V) (v : V) (ho : evalC call o ρ σ = some (.ref r, σ)) (hr : σ[r]? = some (.lst l)) (he : evalC call e ρ σ = some (v, σ)) (hz : l.length ≤ szLine)
    (k : W call rest ρ (σ.set r (.lst (l ++ [v]))) Q) : W call (.cons (.expr (.meth .append o (.cons e .nil))) rest) ρ σ Q := W.append r l v σ ho hr he hr hz k
theorem W.setItem {o i v : CE} (r : Nat) (k : Int) (l : List V) (x : V) (σ₁ : Sto) (hv : evalC call v ρ σ = some (x, σ₁)) (ho : evalC call o ρ σ₁ = some (.ref r, σ₁)) (hi : evalC call i ρ σ₁ = some (.int k, σ₁)) (hr : σ₁[r]? = some (.lst l)) (hk0 : 0 ≤ k) (hk1 : k.toNat < l.length)
    (c : W call rest ρ (σ₁.set r (.lst (l.set k.toNat x))) Q) : W call (.cons (.setItem o i v) rest) ρ σ Q :=
  W.step (by
    have hs : setop (.ref r) (.int k) x σ₁ = some (σ₁.set r (.lst (l.set k.toNat x))) := by
      show (σ₁[r]?).bind (setM σ₁ r (.int k) x) = _
      rw [hr]
      exact if_pos ⟨hk0, hk1⟩
    show bnd (evalC call v ρ σ) (fun x σ₁ => bnd (evalC call o ρ σ₁) fun y σ₂ => bnd (evalC call i ρ σ₂) fun z σ₃ => (setop y z x σ₃).bind fun σ₄ => some (Flow.next, ρ, σ₄)) = _
    rw [hv]
    show bnd (evalC call o ρ σ₁) (fun y σ₂ => bnd (evalC call i ρ σ₂) fun z σ₃ => (setop y z x σ₃).bind fun σ₄ => some (Flow.next, ρ, σ₄)) = _
    rw [ho]
    show bnd (evalC call i ρ σ₁) (fun z σ₃ => (setop (.ref r) z x σ₃).bind fun σ₄ => some (Flow.next, ρ, σ₄)) = _
    rw [hi]
    show (setop (.ref r) (.int k) x σ₁).bind (fun σ₄ => some (Flow.next, ρ, σ₄)) = _
    rw [hs]; rfl) c
end

theorem call_W {P : List CFun} {d k : Nat} {f : CFun} {as : List V} {σ : Sto} (hk : P[k]? = some f) (ha : as.length = f.arity) {R : V → Sto → Prop} (h : W (callL P d) f.body (argsLoc as) σ fun fl _ σ' => ∃ v, fl = .ret v ∧ R v σ') : ∃ v σ', callL P (d + 1) k as σ = some (.ok v, σ') ∧ R v σ' := by
  obtain ⟨fl, ρ', σ', h1, v, rfl, h2⟩ := h
  exact ⟨v, σ', by rw [call_at hk ha, h1]; rfl, h2⟩
end Lar

set_option autoImplicit false
set_option maxRecDepth 100000
namespace Lar
open PySem

/-- fewer locals are known -/
noncomputable def Le (a b : Loc) : Prop := ∀ i v, a i = some v → b i = some v
theorem Le.trans {a b c : Loc} (x : Le a b) (y : Le b c) : Le a c := fun i v h => y i v (x i v h)
theorem Le.upd {a b : Loc} (x : Le a b) (i : Nat) (v : V) : Le (upd a i v) (upd b i v) := fun j w h => by
  unfold Lar.upd at h ⊢
  by_cases hj : j = i
  · rw [if_pos hj] at h ⊢; exact h
  · rw [if_neg hj] at h ⊢; exact x j w h
noncomputable def locs (l : List (Option V)) : Loc := fun i => (l[i]?).join
noncomputable def AllAt (ρ : Loc) : Nat → List (Option V) → Prop
  | _, [] => True
  | i, none :: r => AllAt ρ (i + 1) r
  | i, some v :: r => ρ i = some v ∧ AllAt ρ (i + 1) r
theorem AllAt.get {ρ : Loc} : ∀ {l : List (Option V)} {k i : Nat} {v : V}, AllAt ρ k l → (l[i]?).join = some v → ρ (k + i) = some v
  | [], _, _, _, _, h => by simp at h
  | none :: r, k, 0, _, _, h => by simp at h
  | none :: r, k, i + 1, v, ha, h => by
    have := AllAt.get (l := r) (k := k + 1) (i := i) ha (by simpa using h)
    rwa [Nat.add_right_comm] at this
  | some w :: r, k, 0, v, ha, h => by
    obtain rfl : w = v := by simpa using h
    exact ha.1
  | some w :: r, k, i + 1, v, ha, h => by
    have := AllAt.get (l := r) (k := k + 1) (i := i) ha.2 (by simpa using h)
    rwa [Nat.add_right_comm] at this
theorem le_locs {ρ : Loc} {l : List (Option V)} (h : AllAt ρ 0 l) : Le (locs l) ρ := fun i v e => by
  have := h.get e
  rwa [Nat.zero_add] at this

theorem put_le {t : Tgt} {x : V} {a b a' : Loc} (hl : Le a b) (h : t.put x a = some a') : ∃ b', t.put x b = some b' ∧ Le a' b' := by
  cases t with
  | one i => obtain rfl := sm h; exact ⟨_, rfl, hl.upd _ _⟩
  | two i j =>
    obtain ⟨p, hp, h⟩ := ob h
    obtain rfl := sm h
    refine ⟨_, ?_, (hl.upd i p.1).upd j p.2⟩
    show (asPair x).bind _ = _
    rw [hp]; rfl

theorem bnd_eq {α β : Type} {m m' : Option (α × Sto)} {k k' : α → Sto → Option β} {r : β} (h : bnd m k = some r) (hm : ∀ p, m = some p → m' = some p) (hk : ∀ a σ, k a σ = some r → k' a σ = some r) : bnd m' k' = some r := by
  obtain ⟨a, σ, h1, h2⟩ := bnd_some h
  rw [hm _ h1]
  exact hk a σ h2
theorem bnd3_eq {α β γ : Type} {m m' : Option (α × β × Sto)} {k k' : α → β → Sto → Option γ} {r : γ} (h : bnd3 m k = some r) (hm : ∀ p, m = some p → m' = some p) (hk : ∀ a b σ, k a b σ = some r → k' a b σ = some r) : bnd3 m' k' = some r := by
  obtain ⟨a, b, σ, h1, h2⟩ := bnd3_some h
  rw [hm _ h1]
  exact hk a b σ h2
theorem bndB_eq {β : Type} {m m' : Option (V × Sto)} {k k' : Bool → Sto → Option β} {r : β} (h : bndB m k = some r) (hm : ∀ p, m = some p → m' = some p) (hk : ∀ a σ, k a σ = some r → k' a σ = some r) : bndB m' k' = some r :=
  bnd_eq h hm fun a σ e => by
    obtain ⟨b, h1, h2⟩ := ob e
    rw [h1]; exact hk b σ h2
theorem bndI_eq {β : Type} {m m' : Option (V × Sto)} {k k' : Int → Sto → Option β} {r : β} (h : bndI m k = some r) (hm : ∀ p, m = some p → m' = some p) (hk : ∀ a σ, k a σ = some r → k' a σ = some r) : bndI m' k' = some r :=
  bnd_eq h hm fun a σ e => by
    obtain ⟨b, h1, h2⟩ := ob e
    rw [h1]; exact hk b σ h2

theorem compL_le {elt elt' : Loc → Sto → Option (V × Sto)} {cond cond' : Loc → Sto → Option (Bool × Sto)} {t : Tgt} {w : List (Nat × MObj)} (he : ∀ a b σ r, Le a b → elt a σ = some r → elt' b σ = some r) (hc : ∀ a b σ r, Le a b → cond a σ = some r → cond' b σ = some r) :
    ∀ {xs : List V} {a b : Loc} {σ : Sto} {r : List V × Sto}, Le a b → compL elt cond t w xs a σ = some r → compL elt' cond' t w xs b σ = some r
  | [], a, b, σ, r, hl, h => h
  | x :: xs, a, b, σ, r, hl, h => by
    obtain ⟨hw, h⟩ := guardW_some h
    obtain ⟨a', hp, h⟩ := ob h
    obtain ⟨b', hp', hl'⟩ := put_le hl hp
    show guardW σ w ((t.put x b).bind fun ρ' => _) = _
    rw [guardW_of hw, hp', Option.bind_some]
    refine bnd_eq h (fun p e => hc _ _ _ _ hl' e) fun c σ₁ h => ?_
    cases c with
    | false => exact compL_le he hc hl h
    | true =>
      rw [if_pos rfl] at h ⊢
      exact bnd_eq (m := elt a' σ₁) h (fun p e => he _ _ _ _ hl' e) fun v σ₂ h => bnd_eq h (fun p e => compL_le he hc hl e) fun l σ₃ h => h

mutual
theorem evalC_le {call : CallF} : ∀ (e : CE) {a b : Loc} {σ : Sto} {r : V × Sto}, Le a b → evalC call e a σ = some r → evalC call e b σ = some r
  | .cst v, _, _, _, _, _, h => h
  | .var i, a, b, σ, r, hl, h => by
    obtain ⟨v, h1, h2⟩ := ob h
    show (b i).bind _ = _
    rw [hl i v h1]; exact h2
  | .bin op x y, a, b, σ, r, hl, h => bnd_eq (m := evalC call x a σ) h (fun p e => evalC_le x hl e) fun _ _ h => bnd_eq h (fun p e => evalC_le y hl e) fun _ _ h => h
  | .cmp op x y, a, b, σ, r, hl, h => bnd_eq (m := evalC call x a σ) h (fun p e => evalC_le x hl e) fun _ _ h => bnd_eq h (fun p e => evalC_le y hl e) fun _ _ h => h
  | .not x, a, b, σ, r, hl, h => bndB_eq (m := evalC call x a σ) h (fun p e => evalC_le x hl e) fun _ _ h => h
  | .neg x, a, b, σ, r, hl, h => bndI_eq (m := evalC call x a σ) h (fun p e => evalC_le x hl e) fun _ _ h => h
  | .and x y, a, b, σ, r, hl, h => bndB_eq (m := evalC call x a σ) h (fun p e => evalC_le x hl e) fun c _ h => by
    cases c with
    | true => exact evalC_le y hl h
    | false => exact h
  | .or x y, a, b, σ, r, hl, h => bndB_eq (m := evalC call x a σ) h (fun p e => evalC_le x hl e) fun c _ h => by
    cases c with
    | true => exact h
    | false => exact evalC_le y hl h
  | .ite t x y, a, b, σ, r, hl, h => bndB_eq (m := evalC call t a σ) h (fun p e => evalC_le t hl e) fun c _ h => by
    cases c with
    | true => exact evalC_le x hl h
    | false => exact evalC_le y hl h
  | .list es, a, b, σ, r, hl, h => bnd_eq (m := evalCs call es a σ) h (fun p e => evalCs_le es hl e) fun _ _ h => h
  | .tuple es, a, b, σ, r, hl, h => bnd_eq (m := evalCs call es a σ) h (fun p e => evalCs_le es hl e) fun _ _ h => h
  | .dict0, _, _, _, _, _, h => h
  | .idx x y, a, b, σ, r, hl, h => bnd_eq (m := evalC call x a σ) h (fun p e => evalC_le x hl e) fun _ _ h => bnd_eq h (fun p e => evalC_le y hl e) fun _ _ h => h
  | .slc x y z, a, b, σ, r, hl, h => bnd_eq (m := evalC call x a σ) h (fun p e => evalC_le x hl e) fun _ _ h => bnd_eq h (fun p e => evalC_le y hl e) fun _ _ h => bnd_eq h (fun p e => evalC_le z hl e) fun _ _ h => h
  | .call f as, a, b, σ, r, hl, h => bnd_eq (m := evalCs call as a σ) h (fun p e => evalCs_le as hl e) fun _ _ h => h
  | .prim p as, a, b, σ, r, hl, h => bnd_eq (m := evalCs call as a σ) h (fun p e => evalCs_le as hl e) fun _ _ h => h
  | .meth m o as, a, b, σ, r, hl, h => bnd_eq (m := evalC call o a σ) h (fun p e => evalC_le o hl e) fun x σ₁ h => by
    obtain ⟨hr, h⟩ := iteS h
    rw [if_pos hr]
    exact bnd_eq h (fun p e => evalCs_le as hl e) fun _ _ h => h
  | .comp elt t it ifs, a, b, σ, r, hl, h => bnd3_eq (m := srcC call it a σ) h (fun p e => srcC_le it hl e) fun xs w σ₁ h => bnd_eq h (fun p e => compL_le (elt := evalC call elt) (elt' := evalC call elt) (cond := testCs call ifs) (cond' := testCs call ifs) (fun a b σ r hl e => evalC_le elt (σ := σ) hl e) (fun a b σ r hl e => testCs_le ifs (σ := σ) hl e) hl e) fun _ _ h => h
theorem testCs_le {call : CallF} : ∀ (e : CEs) {a b : Loc} {σ : Sto} {r : Bool × Sto}, Le a b → testCs call e a σ = some r → testCs call e b σ = some r
  | .nil, _, _, _, _, _, h => h
  | .cons x y, a, b, σ, r, hl, h => bndB_eq (m := evalC call x a σ) h (fun p e => evalC_le x hl e) fun c _ h => by
    cases c with
    | true => exact testCs_le y hl h
    | false => exact h
theorem evalCs_le {call : CallF} : ∀ (e : CEs) {a b : Loc} {σ : Sto} {r : List V × Sto}, Le a b → evalCs call e a σ = some r → evalCs call e b σ = some r
  | .nil, _, _, _, _, _, h => h
  | .cons x y, a, b, σ, r, hl, h => bnd_eq (m := evalC call x a σ) h (fun p e => evalC_le x hl e) fun _ _ h => bnd_eq h (fun p e => evalCs_le y hl e) fun _ _ h => h
theorem srcC_le {call : CallF} : ∀ (e : CIt) {a b : Loc} {σ : Sto} {r : List V × List (Nat × MObj) × Sto}, Le a b → srcC call e a σ = some r → srcC call e b σ = some r
  | .ex x, a, b, σ, r, hl, h => by
    rw [srcC_ex] at h ⊢
    exact bnd_eq (m := evalC call x a σ) h (fun p e => evalC_le x hl e) fun _ _ h => h
  | .rng1 x, a, b, σ, r, hl, h => bndI_eq (m := evalC call x a σ) h (fun p e => evalC_le x hl e) fun _ _ h => h
  | .rng2 x y, a, b, σ, r, hl, h => bndI_eq (m := evalC call x a σ) h (fun p e => evalC_le x hl e) fun _ _ h => bndI_eq h (fun p e => evalC_le y hl e) fun _ _ h => h
end

/-- the end of a part, with fewer locals and with more -/
noncomputable def ExLe (x y : Ex) : Prop := ∀ fl a σ, x = some (fl, a, σ) → ∃ b, y = some (fl, b, σ) ∧ Le a b
theorem ExLe.seq {x y : Ex} {k k' : Loc → Sto → Ex} (h : ExLe x y) (hk : ∀ a b σ, Le a b → ExLe (k a σ) (k' b σ)) : ExLe (seqF x k) (seqF y k') := by
  intro fl a σ e
  rcases seqF_some e with ⟨a₁, σ₁, e1, e2⟩ | ⟨e1, hne⟩
  · obtain ⟨b, h1, h2⟩ := h _ _ _ e1
    rw [h1]
    exact hk _ _ _ h2 _ _ _ e2
  · obtain ⟨b, h1, h2⟩ := h _ _ _ e1
    rw [h1]
    cases fl with
    | next => exact absurd rfl hne
    | ret v => exact ⟨b, rfl, h2⟩
    | exc c w => exact ⟨b, rfl, h2⟩
theorem loopC_le {body : Loc → Sto → Ex} {t : Tgt} {w : List (Nat × MObj)} (hb : ∀ a b σ, Le a b → ExLe (body a σ) (body b σ)) : ∀ {xs : List V} {a b : Loc} {σ : Sto}, Le a b → ExLe (loopC body t w xs a σ) (loopC body t w xs b σ)
  | [], a, b, σ, hl => fun fl a' σ' e => by
    obtain ⟨hw, e⟩ := guardW_some e
    obtain ⟨rfl, rfl, rfl⟩ := sm3 e
    exact ⟨b, guardW_of hw, hl⟩
  | x :: xs, a, b, σ, hl => fun fl a' σ' e => by
    obtain ⟨hw, e⟩ := guardW_some e
    obtain ⟨a₁, hp, e⟩ := ob e
    obtain ⟨b₁, hp', hl'⟩ := put_le hl hp
    show ∃ b', guardW σ w ((t.put x b).bind fun ρ' => seqF (body ρ' σ) fun ρ'' σ'' => loopC body t w xs ρ'' σ'') = _ ∧ _
    rw [guardW_of hw, hp', Option.bind_some]
    exact ExLe.seq (k := fun ρ'' σ'' => loopC body t w xs ρ'' σ'') (k' := fun ρ'' σ'' => loopC body t w xs ρ'' σ'') (hb _ _ σ hl') (fun a b σ hl => loopC_le hb (σ := σ) hl) fl a' σ' e
mutual
theorem execC_le {call : CallF} : ∀ (s : CS) {a b : Loc} {σ : Sto}, Le a b → ExLe (execC call s a σ) (execC call s b σ)
  | .assign t e, a, b, σ, hl => fun fl a' σ' h => by
    rw [ex_assign] at h ⊢
    obtain ⟨v, σ₁, h1, h⟩ := bnd_some h
    obtain ⟨a₁, hp, h⟩ := ob h
    obtain ⟨rfl, rfl, rfl⟩ := sm3 h
    obtain ⟨b', hp', hl'⟩ := put_le hl hp
    rw [evalC_le e hl h1]
    refine ⟨b', ?_, hl'⟩
    show (t.put v b).bind _ = _
    rw [hp']; rfl
  | .setItem o i v, a, b, σ, hl => fun fl a' σ' h => by
    rw [ex_setItem] at h ⊢
    obtain ⟨x, σ₁, h1, h⟩ := bnd_some h
    obtain ⟨y, σ₂, h2, h⟩ := bnd_some h
    obtain ⟨z, σ₃, h3, h⟩ := bnd_some h
    obtain ⟨σ₄, h4, h⟩ := ob h
    obtain ⟨rfl, rfl, rfl⟩ := sm3 h
    refine ⟨b, ?_, hl⟩
    simp only [bnd, evalC_le v hl h1, evalC_le o hl h2, evalC_le i hl h3, h4, Option.bind_some]
  | .expr e, a, b, σ, hl => fun fl a' σ' h => by
    rw [ex_expr] at h ⊢
    obtain ⟨v, σ₁, h1, h⟩ := bnd_some h
    obtain ⟨rfl, rfl, rfl⟩ := sm3 h
    rw [evalC_le e hl h1]
    exact ⟨b, rfl, hl⟩
  | .ite c t e, a, b, σ, hl => fun fl a' σ' h => by
    rw [ex_ite] at h ⊢
    obtain ⟨p, σ₁, h1, h⟩ := bndB_some h
    rw [evalC_le c hl h1]
    cases p with
    | true => exact execCs_le t hl fl a' σ' h
    | false => exact execCs_le e hl fl a' σ' h
  | .for_ t it body, a, b, σ, hl => fun fl a' σ' h => by
    rw [ex_for] at h ⊢
    obtain ⟨xs, w, σ₁, h1, h⟩ := bnd3_some h
    rw [srcC_le it hl h1]
    exact loopC_le (body := execCs call body) (fun a b σ hl => execCs_le body (σ := σ) hl) hl fl a' σ' h
  | .ret e, a, b, σ, hl => fun fl a' σ' h => by
    rw [ex_ret] at h ⊢
    obtain ⟨v, σ₁, h1, h⟩ := bnd_some h
    obtain ⟨rfl, rfl, rfl⟩ := sm3 h
    rw [evalC_le e hl h1]
    exact ⟨b, rfl, hl⟩
theorem execCs_le {call : CallF} : ∀ (s : CSs) {a b : Loc} {σ : Sto}, Le a b → ExLe (execCs call s a σ) (execCs call s b σ)
  | .nil, a, b, σ, hl => fun fl a' σ' h => by
    obtain ⟨rfl, rfl, rfl⟩ := sm3 h
    exact ⟨b, rfl, hl⟩
  | .cons s r, a, b, σ, hl => ExLe.seq (k := execCs call r) (k' := execCs call r) (execC_le s (σ := σ) hl) fun a b σ hl => execCs_le r (σ := σ) hl
end

/-- a claim on ends that more locals do not break -/
noncomputable def Up (Q : Flow → Loc → Sto → Prop) : Prop := ∀ fl a b σ, Le a b → Q fl a σ → Q fl b σ
section
variable {call : CallF} {rest : CSs} {ρ ρ' : Loc} {σ σ₁ σ₂ σ₃ : Sto} {Q : Flow → Loc → Sto → Prop}
theorem W.le {ss : CSs} {a : Loc} (hQ : Up Q) (hl : Le a ρ) (h : W call ss a σ Q) : W call ss ρ σ Q := by
  obtain ⟨fl, a', σ', h1, h2⟩ := h
  obtain ⟨b', h3, h4⟩ := execCs_le ss hl fl a' σ' h1
  exact ⟨fl, b', σ', h3, hQ fl a' b' σ' h4 h2⟩
theorem W.set {i : Nat} {e : CE} {v : V} {σ₁ : Sto} (h : evalC call e ρ σ = some (v, σ₁)) (k : W call rest (upd ρ i v) σ₁ Q) : W call (.cons (.assign (.one i) e) rest) ρ σ Q := W.assign v σ₁ h k
/-- a condition that says p -/
theorem W.if_ {c : CE} {t e : CSs} {p : Prop} [Decidable p] {σ₁ : Sto} (h : evalC call c ρ σ = some (.bool (decide p), σ₁)) (hT : p → W call t ρ σ₁ fun fl ρ' σ' => match fl with | .next => W call rest ρ' σ' Q | fl => Q fl ρ' σ')
    (hF : ¬ p → W call e ρ σ₁ fun fl ρ' σ' => match fl with | .next => W call rest ρ' σ' Q | fl => Q fl ρ' σ') : W call (.cons (.ite c t e) rest) ρ σ Q := by
  by_cases hp : p
  · rw [decide_eq_true hp] at h
    exact W.iteT σ₁ (testC_of h) (hT hp)
  · rw [decide_eq_false hp] at h
    exact W.iteF σ₁ (testC_of h) (hF hp)
/-- a loop; the invariant speaks of fewer locals -/
theorem W.loop {t : Tgt} {it : CIt} {body : CSs} {xs : List V} {w : List (Nat × MObj)} {σ₁ : Sto} (hQ : Up Q) (h : srcC call it ρ σ = some (xs, w, σ₁)) (I : Nat → Loc → Sto → Prop) {a : Loc} (ha : Le a ρ) (h0 : I 0 a σ₁) (hw : ∀ k ρ σ, I k ρ σ → watchOk σ w)
    (step : ∀ k x ρ σ, xs[k]? = some x → I k ρ σ → ∃ ρ', t.put x ρ = some ρ' ∧ W call body ρ' σ fun fl ρ'' σ'' => fl = .next ∧ ∃ a, Le a ρ'' ∧ I (k + 1) a σ'')
    (k : ∀ ρ' σ', I xs.length ρ' σ' → W call rest ρ' σ' Q) : W call (.cons (.for_ t it body) rest) ρ σ Q := by
  refine W.for_ xs w σ₁ h (fun k ρ σ => ∃ a, Le a ρ ∧ I k a σ) ⟨a, ha, h0⟩ (fun k ρ σ ⟨a, _, hI⟩ => hw k a σ hI) ?_ fun ρ' σ' ⟨a, hl, hI⟩ => (k a σ' hI).le hQ hl
  rintro k x ρ σ hx ⟨a, hl, hI⟩
  obtain ⟨a', hp, hW⟩ := step k x a σ hx hI
  obtain ⟨b', hp', hl'⟩ := put_le hl hp
  exact ⟨b', hp', hW.le (fun fl a b σ hl ⟨h1, c, h2, h3⟩ => ⟨h1, c, h2.trans hl, h3⟩) hl'⟩
end
theorem up_ret {R : V → Sto → Prop} : Up fun fl _ σ' => ∃ v, fl = .ret v ∧ R v σ' := fun _ _ _ _ _ h => h
end Lar

set_option autoImplicit false
set_option maxRecDepth 100000
namespace Lar
open PySem

section
variable {call : CallF} {ρ : Loc} {σ σ₁ σ₂ : Sto}
theorem ev_eqI {a b : CE} {x y : Int} (ha : evalC call a ρ σ = some (.int x, σ₁)) (hb : evalC call b ρ σ₁ = some (.int y, σ₂)) : evalC call (.cmp .Eq a b) ρ σ = some (.bool (decide (x = y)), σ₂) := by
  rw [← ibeq]; exact ev_cmp ha hb rfl
theorem len_lst {r : Nat} {l : List V} (hr : σ[r]? = some (.lst l)) : primop .len [.ref r] σ = some (.int l.length, σ) := by
  show ((lst σ r).bind _).bind _ = _
  rw [lst_eq hr]; rfl
end
/-- a call that gives one value and leaves the store -/
theorem call_V {P : List CFun} {d k : Nat} {f : CFun} {as : List V} {σ : Sto} {v : V} (hk : P[k]? = some f) (ha : as.length = f.arity) (h : W (callL P d) f.body (argsLoc as) σ fun fl _ σ' => ∃ u, fl = .ret u ∧ u = v ∧ σ' = σ) : callL P (d + 1) k as σ = some (.ok v, σ) := by
  obtain ⟨v', σ', h1, rfl, rfl⟩ := call_W (R := fun u σ' => u = v ∧ σ' = σ) hk ha h
  exact h1

theorem mix_call {P : List CFun} {k d : Nat} {σ : Sto} (hk : P[k]? = some f03__law_mix) (x y : Int) (hy : y.natAbs < 18446744073709551616) : callL P (d + 1) k [.int x, .int y] σ = some (.ok (.int (mixF x y)), σ) := by
  have b1 := fmod_range (a := (x + 104729 * y) + (7919 * y) * y) (b := 998244353) (by decide)
  refine call_V hk rfl ?_
  refine W.assign (.int (((x + 104729 * y) + (7919 * y) * y).fmod 998244353)) σ (ev_bin (ev_bin (ev_bin (x := .int x) rfl (ev_bin (x := .int 104729) (y := .int y) rfl rfl (mul_ok (mulOk_r hy))) rfl) (ev_bin (ev_bin (x := .int 7919) (y := .int y) rfl rfl (mul_ok (mulOk_r hy))) (y := .int y) rfl (mul_ok (mulOk_r hy))) rfl) rfl (mod_ok (by decide))) ?_
  have m4 : mulOk (((x + 104729 * y) + (7919 * y) * y).fmod 998244353) (((x + 104729 * y) + (7919 * y) * y).fmod 998244353) = true := mulOk_r (by omega)
  have em : mixF x y = (((((x + 104729 * y) + (7919 * y) * y).fmod 998244353) * (((x + 104729 * y) + (7919 * y) * y).fmod 998244353)).fmod 998244353 * 1000003).fmod 998244353 := rfl
  rw [em]
  generalize ((x + 104729 * y) + (7919 * y) * y).fmod 998244353 = z at m4
  exact W.retE (ev_bin (ev_bin (ev_bin (ev_bin (x := .int z) (y := .int z) rfl rfl (mul_ok m4)) rfl (mod_ok (by decide))) rfl (mul_ok (mulOk_r (by decide)))) rfl (mod_ok (by decide))) ⟨_, rfl, rfl, rfl⟩

theorem cell_call {P : List CFun} {k d : Nat} {σ : Sto} {r : Nat} {cs : List Int} (hk : P[k]? = some f03__law_cell_at) (hr : σ[r]? = some (.lst (cs.map .int))) (j : Nat) (hj : j < 1000000) : callL P (d + 1) k [.ref r, .int j] σ = some (.ok (.int (cellF cs j)), σ) := by
  have m1 : mulOk ((j : Int) + 3) ((j : Int) + 7) = true := mulOk_r (by omega)
  refine call_V hk rfl ?_
  refine W.if_ (p := (j : Int) < cs.length) (ev_cmp (x := .int j) rfl (ev_prim (vs := [.ref r]) rfl ((len_lst hr).trans (by rw [List.length_map]))) rfl) (fun hc => ?_) fun hc => W.nil ?_
  · have hlt : j < cs.length := by omega
    have e : cs[j]? = some cs[j] := List.getElem?_eq_getElem hlt
    refine W.retE (idx_lst r j _ (.int cs[j]) rfl rfl hr (by omega) (by rw [Int.toNat_natCast, List.getElem?_map, e]; rfl)) ⟨_, rfl, ?_, rfl⟩
    rw [cellF, e]
  · have e : cs[j]? = none := List.getElem?_eq_none (by omega)
    refine W.retE (ev_bin (ev_bin (x := .int (j + 3)) (y := .int (j + 7)) rfl rfl (mul_ok m1)) rfl (mul_ok (mulOk_r (by decide)))) ⟨_, rfl, ?_, rfl⟩
    rw [cellF, e]

theorem amount_call {P : List CFun} {k d : Nat} {σ : Sto} (hk : P[k]? = some f03__law_amount) (x m : Int) (hm : m ≠ 0) : callL P (d + 1) k [.int x, .int m] σ = some (.ok (.int (amountF x m)), σ) := by
  refine call_V hk rfl ?_
  refine W.set (v := .int (x.fmod 8)) (σ₁ := σ) rfl ?_
  refine W.if_ (p := x.fmod 8 = 0) (ev_eqI rfl rfl) (fun hc => ?_) fun hc => W.nil ?_
  · exact W.retE (ev_bin (x := .int 1) rfl (ev_bin (x := .int (x.fdiv 8)) (y := .int m) rfl rfl (mod_ok hm)) rfl) ⟨_, rfl, by rw [amountF, if_pos hc], rfl⟩
  · refine W.if_ (p := x.fmod 8 = 1) (ev_eqI rfl rfl) (fun hc1 => ?_) fun hc1 => W.nil ?_
    · exact W.retE rfl ⟨_, rfl, by rw [amountF, if_neg hc, if_pos hc1], rfl⟩
    · exact W.retE rfl ⟨_, rfl, by rw [amountF, if_neg hc, if_neg hc1], rfl⟩
end Lar

set_option autoImplicit false
set_option maxRecDepth 100000
namespace Lar
open PySem

noncomputable def mixedF : Int → List Int → List Int
  | _, [] => []
  | m, c :: cs => (m * 6364136223846793005 + c + 1442695040888963407).fmod 1000000000000000003 :: mixedF ((m * 6364136223846793005 + c + 1442695040888963407).fmod 1000000000000000003) cs
theorem set_last (σ : Sto) (a b : MObj) : (σ ++ [a]).set σ.length b = σ ++ [b] := by simp

theorem src_ro {call : CallF} {ρ : Loc} {σ σ₁ : Sto} {e : CE} {l : List Int} (h : evalC call e ρ σ = some (.ro l, σ₁)) : srcC call (.ex e) ρ σ = some (l.map .int, [], σ₁) := by
  show bnd (evalC call e ρ σ) (fun x σ₁ => (seqOf σ₁ x).bind fun p => some (p.1, p.2, σ₁)) = _
  rw [h]; rfl
theorem mixed_call {P : List CFun} {k d : Nat} {σ : Sto} (hk : P[k]? = some f03__law_mixed) (ns : List Int) (hn : ns.length ≤ 63) : callL P (d + 1) k [.ro ns] σ = some (.ok (.ref σ.length), σ ++ [.lst ((mixedF 1 ns).map .int)]) := by
  have hsz : szLine = 16777216 := rfl
  obtain ⟨v, σ', h, rfl, rfl⟩ := call_W (R := fun v σ' => v = .ref σ.length ∧ σ' = σ ++ [.lst ((mixedF 1 ns).map .int)]) (σ := σ) (d := d) hk (as := [.ro ns]) rfl (by
    refine W.set (v := .ref σ.length) (σ₁ := σ ++ [.lst []]) rfl ?_
    refine W.set (v := .int 1) (σ₁ := σ ++ [.lst []]) rfl ?_
    refine W.loop (fun _ _ _ _ _ h => h) (src_ro (l := ns) rfl)
      (fun j ρ σ' => ∃ m acc, ρ = locs [none, some (.ref σ.length), some (.int m)] ∧ σ' = σ ++ [.lst (acc.map .int)] ∧ acc ++ mixedF m (ns.drop j) = mixedF 1 ns ∧ acc.length ≤ j ∧ j ≤ ns.length)
      (a := locs [none, some (.ref σ.length), some (.int 1)]) (le_locs ⟨rfl, rfl, trivial⟩) ⟨1, [], rfl, rfl, rfl, Nat.le_refl _, Nat.zero_le _⟩ (fun _ _ _ _ => watch0 _) ?_ ?_
    · rintro j x _ _ hx ⟨m, acc, rfl, rfl, h3, h4, hj⟩
      have hlt : j < ns.length := by have := (List.getElem?_eq_some_iff.mp hx).1; rwa [List.length_map] at this
      have hxe : x = .int ns[j] := by rw [List.getElem?_map, List.getElem?_eq_getElem hlt] at hx; exact (sm hx).symm
      subst hxe
      rw [List.drop_eq_getElem_cons hlt] at h3
      refine ⟨_, rfl, ?_⟩
      generalize hz : (m * 6364136223846793005 + ns[j] + 1442695040888963407).fmod 1000000000000000003 = z
      refine W.set (v := .int z) (σ₁ := σ ++ [.lst (acc.map .int)]) (by rw [← hz]; exact ev_bin (ev_bin (ev_bin (ev_bin (x := .int m) rfl rfl (mul_ok (mulOk_r (by decide)))) rfl rfl) rfl rfl) rfl (mod_ok (by decide))) ?_
      refine W.append0 σ.length (acc.map .int) (.int z) rfl (get_self _ _) rfl (by rw [List.length_map]; omega) ?_
      rw [set_last]
      refine W.nil ⟨rfl, locs [none, some (.ref σ.length), some (.int z)], le_locs ⟨rfl, rfl, trivial⟩, z, acc ++ [z], rfl, by simp, ?_, by simp; omega, hlt⟩
      rw [← h3, mixedF, hz]; simp
    · rintro _ _ ⟨m, acc, rfl, rfl, h3, _⟩
      rw [List.length_map, List.drop_length, mixedF, List.append_nil] at h3
      subst h3
      exact W.retE rfl ⟨_, rfl, rfl, rfl⟩)
  exact h

theorem rangeL_get {n : Nat} {j : Nat} {x : V} (h : (rangeL 0 n 1)[j]? = some x) : j < n ∧ x = .int j := by
  simp only [rangeL, rangeN, List.getElem?_map] at h
  have hn : (if (0:Int) < n then ((n : Int) - 0 - 1) / 1 + 1 else 0).toNat = n := by split <;> simp <;> omega
  simp only [show (1 : Int) > 0 from by decide, if_true, hn] at h
  rcases Nat.lt_or_ge j n with hj | hj
  · rw [List.getElem?_range hj] at h
    simp at h
    exact ⟨hj, h.symm⟩
  · rw [List.getElem?_eq_none (by simpa using hj)] at h
    cases h
theorem rangeL_len (n : Nat) : (rangeL 0 n 1).length = n := by
  simp only [rangeL, rangeN, List.length_map, List.length_range]
  simp only [show (1 : Int) > 0 from by decide, if_true]
  split <;> simp <;> omega

end Lar

set_option autoImplicit false
set_option maxRecDepth 100000
namespace Lar
open PySem

theorem intsOf_map : ∀ (l : List Int), intsOf (l.map .int) = some l
  | [] => rfl
  | x :: l => by simp [intsOf, asI, Option.bind_some, intsOf_map l]

/-- a comprehension over a mapped list -/
theorem comp_map {α : Type} {elt : Loc → Sto → Option (V × Sto)} {cond : Loc → Sto → Option (Bool × Sto)} {t : Tgt} {w : List (Nat × MObj)} {ρ : Loc} {σ : Sto} {g : α → V} {p : α → Bool} {f : α → V} (hw : watchOk σ w) : ∀ {xs : List α},
    (∀ x ∈ xs, ∃ ρ', t.put (g x) ρ = some ρ' ∧ cond ρ' σ = some (p x, σ) ∧ (p x = true → elt ρ' σ = some (f x, σ))) → compL elt cond t w (xs.map g) ρ σ = some ((xs.filter p).map f, σ)
  | [], _ => by simp [compL, guardW_of, bnd, Option.bind_some, hw]
  | x :: xs, h => by
    obtain ⟨ρ', h1, h2, h3⟩ := h x List.mem_cons_self
    have ih := comp_map hw (xs := xs) fun y hy => h y (List.mem_cons_of_mem _ hy)
    simp only [List.map_cons, compL, guardW_of, bnd, Option.bind_some, hw, if_true, h1, h2]
    cases hp : p x with
    | false => simp [ih, hp]
    | true => simp [ih, hp, h3 hp]

noncomputable def sumI (l : List Int) : Int := l.foldl (· + ·) 0
theorem sumI_snoc (l : List Int) (x : Int) : sumI (l ++ [x]) = sumI l + x := by simp [sumI]

/-- a sum over a comprehension -/
theorem sum_comp {α : Type} {call : CallF} {elt : CE} {t : Tgt} {it : CIt} {ifs : CEs} {ρ : Loc} {σ σ₁ : Sto} {w : List (Nat × MObj)} {g : α → V} {p : α → Bool} {f : α → Int} {xs : List α} (hs : srcC call it ρ σ = some (xs.map g, w, σ₁)) (hw : watchOk σ₁ w) (hz : xs.length ≤ szLine)
    (h : ∀ x ∈ xs, ∃ ρ', t.put (g x) ρ = some ρ' ∧ testCs call ifs ρ' σ₁ = some (p x, σ₁) ∧ (p x = true → evalC call elt ρ' σ₁ = some (.int (f x), σ₁))) :
    evalC call (.prim .sum (.cons (.comp elt t it ifs) .nil)) ρ σ = some (.int (sumI ((xs.filter p).map f)), σ₁ ++ [.lst (((xs.filter p).map f).map .int)]) := by
  have hc := comp_map (f := fun x => V.int (f x)) hw h
  rw [show (xs.filter p).map (fun x => V.int (f x)) = ((xs.filter p).map f).map .int from by simp] at hc
  have hz' : (((xs.filter p).map f).map V.int).length ≤ szLine := by
    have := List.length_filter_le p xs
    simp; omega
  exact ev_prim (ev_args1 (ev_comp hs hc hz')) (sum_prim (get_self _ _) (intsOf_map _))
theorem src_rng1 {call : CallF} {a : CE} {ρ : Loc} {σ σ₁ : Sto} {n : Nat} (ha : evalC call a ρ σ = some (.int n, σ₁)) (hn : n ≤ 1000000000) : srcC call (.rng1 a) ρ σ = some (rangeL 0 n 1, [], σ₁) := by
  have hsm : smallI (n : Int) = true := by simp [smallI]; omega
  show bndI (evalC call a ρ σ) (fun n σ₁ => if smallI n then some (rangeL 0 n 1, [], σ₁) else none) = _
  rw [ha]
  exact if_pos hsm
theorem filter_all {α : Type} (l : List α) : l.filter (fun _ => true) = l := List.filter_eq_self.mpr fun _ _ => rfl

theorem ret1 {call : CallF} {e : CE} {ρ : Loc} {σ σ₁ : Sto} {v : V} (h : evalC call e ρ σ = some (v, σ₁)) : fin (execCs call (.cons (.ret e) .nil) ρ σ) = some (.ok v, σ₁) := by
  obtain ⟨fl, ρ', σ', h1, h2, h3⟩ := W.retE (rest := .nil) (Q := fun fl _ σ' => fl = .ret v ∧ σ' = σ₁) h ⟨rfl, rfl⟩
  rw [h1, h2, h3]; rfl

theorem whole_call {P : List CFun} {k d : Nat} {σ : Sto} (hk : P[k]? = some f03__law_whole) (x : Int) : callL P (d + 1) k [.int x] σ = some (.ok (.bool true), σ) :=
  call_V hk rfl (W.retE rfl ⟨_, rfl, rfl, rfl⟩)

theorem rangeL_map (n : Nat) : rangeL 0 n 1 = (List.range n).map fun j : Nat => V.int j := by
  have : rangeN 0 n 1 = n := by
    have := rangeL_len n
    simpa [rangeL] using this
  simp [rangeL, this]

theorem get_int {cs : List Int} {j : Nat} (hj : j < cs.length) : (cs.map V.int)[((j : Nat) : Int).toNat]? = some (.int ((cs[j]?).getD 0)) := by
  rw [Int.toNat_natCast, List.getElem?_map, List.getElem?_eq_getElem hj]; rfl
end Lar

set_option autoImplicit false
set_option maxRecDepth 100000
namespace Lar
open PySem

section
variable {call : CallF} {ρ : Loc} {σ σ₁ σ₂ σ₃ : Sto}
theorem ev_list {es : CEs} {vs : List V} (h : evalCs call es ρ σ = some (vs, σ₁)) (hz : vs.length ≤ szLine) : evalC call (.list es) ρ σ = some (.ref σ₁.length, σ₁ ++ [.lst vs]) := by
  show bnd _ _ = _
  rw [h]
  exact if_pos hz
theorem ev_tuple {es : CEs} {vs : List V} (h : evalCs call es ρ σ = some (vs, σ₁)) (hz : vs.length ≤ szLine) : evalC call (.tuple es) ρ σ = some (.tup vs, σ₁) := by
  show bnd _ _ = _
  rw [h]
  exact if_pos hz
theorem ev_strAdd {a b : CE} {x y : Str} (ha : evalC call a ρ σ = some (.str x, σ₁)) (hb : evalC call b ρ σ₁ = some (.str y, σ₂)) (hz : x.length + y.length ≤ szLine) : evalC call (.bin .Add a b) ρ σ = some (.str (x ++ y), σ₂) :=
  ev_bin ha hb (if_pos hz)
theorem ev_slc {a lo hi : CE} {x y z : V} {r : Option (V × Sto)} (ha : evalC call a ρ σ = some (x, σ₁)) (hl : evalC call lo ρ σ₁ = some (y, σ₂)) (hh : evalC call hi ρ σ₂ = some (z, σ₃)) (h : slcop x y z σ₃ = r) : evalC call (.slc a lo hi) ρ σ = r := by
  show bnd (evalC call a ρ σ) (fun x σ₁ => bnd (evalC call lo ρ σ₁) fun y σ₂ => bnd (evalC call hi ρ σ₂) fun z σ₃ => slcop x y z σ₃) = _
  rw [ha]
  show bnd (evalC call lo ρ σ₁) (fun y σ₂ => bnd (evalC call hi ρ σ₂) fun z σ₃ => slcop x y z σ₃) = _
  rw [hl]
  show bnd (evalC call hi ρ σ₂) (fun z σ₃ => slcop x y z σ₃) = _
  rw [hh]; exact h
theorem ev_find {o e : CE} {x y : Str} (ho : evalC call o ρ σ = some (.str x, σ₁)) (he : evalC call e ρ σ₁ = some (.str y, σ₂)) : evalC call (.meth .find o (.cons e .nil)) ρ σ = some (.int (Txt.find x y), σ₂) := by
  show bnd (evalC call o ρ σ) (fun x σ₁ => if recv .find x σ₁ then bnd (evalCs call (.cons e .nil) ρ σ₁) fun vs σ₂ => methop .find x vs σ₂ else none) = _
  rw [ho]
  show bnd (evalCs call (.cons e .nil) ρ σ₁) (fun vs σ₂ => methop .find (.str x) vs σ₂) = _
  rw [ev_args1 he]; rfl
theorem loOf_int {k : Int} (h : 0 ≤ k ∧ k < 4611686018427387904) : loOf (.int k) = some k.toNat := by
  show (if 0 ≤ k ∧ k < 4611686018427387904 then some k.toNat else none) = _
  rw [if_pos h]
theorem hiOf_int {k : Int} {n : Nat} (h : 0 ≤ k ∧ k < 4611686018427387904) : hiOf n (.int k) = some (min n k.toNat) := by
  show (if 0 ≤ k ∧ k < 4611686018427387904 then some (min n k.toNat) else none) = _
  rw [if_pos h]
theorem cut_len {α : Type} (l : List α) (i j : Nat) : (cut l i j).length ≤ l.length := by
  unfold cut
  rw [List.length_drop, List.length_take]
  omega
theorem ev_lenStr {e : CE} {x : Str} (h : evalC call e ρ σ = some (.str x, σ₁)) (hx : x.length ≤ szLine) : evalC call (.prim .len (.cons e .nil)) ρ σ = some (.int x.length, σ₁) :=
  ev_prim (ev_args1 h) (if_pos hx)
theorem ev_and_d {a b : CE} {p q : Prop} [Decidable p] [Decidable q] (ha : evalC call a ρ σ = some (.bool (decide p), σ)) (hb : evalC call b ρ σ = some (.bool (decide q), σ)) : evalC call (.and a b) ρ σ = some (.bool (decide (p ∧ q)), σ) := by
  by_cases hp : p
  · rw [decide_eq_true hp] at ha
    rw [ev_and ha hb]
    simp [hp]
  · rw [decide_eq_false hp] at ha
    rw [ev_andF ha]
    simp [hp]
theorem ev_neI {a b : CE} {x y : Int} (ha : evalC call a ρ σ = some (.int x, σ₁)) (hb : evalC call b ρ σ₁ = some (.int y, σ₂)) : evalC call (.cmp .NotEq a b) ρ σ = some (.bool (decide (¬ x = y)), σ₂) := by
  have : (!(x == y)) = decide (¬ x = y) := by rw [ibeq]; by_cases h : x = y <;> simp [h]
  rw [← this]; exact ev_cmp ha hb rfl
theorem fm {a b : Int} (h : 0 < b) : ∃ n : Nat, a.fmod b = n ∧ (n : Int) < b := by
  obtain ⟨h1, h2⟩ := fmod_range (a := a) h
  exact ⟨(a.fmod b).toNat, by omega, by omega⟩
end

noncomputable def sg : Str := "abcdefghijklmnopqrstuvwxyz"
theorem sg_len : sg.length = 26 := by decide +kernel
noncomputable def words : List Str := ["total", "day", "flour", "salt", "left", "used", "short", "salts", "a", "z", "oil"]
end Lar

set_option autoImplicit false
set_option maxRecDepth 100000
namespace Lar
open PySem

theorem set_get {σ : Sto} {r : Nat} {m m' : MObj} (e : σ[r]? = some m) : (σ.set r m')[r]? = some m' := List.getElem?_set_self (List.getElem?_eq_some_iff.mp e).1
theorem cell_call' {P : List CFun} {k d : Nat} {σ : Sto} {r : Nat} {cs : List Int} (hk : P[k]? = some f03__law_cell_at) (hr : σ[r]? = some (.lst (cs.map .int))) (j : Nat) (hj : j < 1000) {z : Int} (hz : z = j) : callL P (d + 1) k [.ref r, .int z] σ = some (.ok (.int (cellF cs j)), σ) := by
  subst hz; exact cell_call hk hr j (by omega)

noncomputable def fNames (iC : Nat) : CFun := ⟨1, (.cons (.assign (.one 1) (.call iC (.cons (.var 0) (.cons (.cst (.int 0)) .nil))))
  (.cons (.assign (.one 2) (.idx (.list (.cons (.cst (.int 1)) (.cons (.cst (.int 2)) (.cons (.cst (.int 3)) (.cons (.cst (.int 4)) .nil))))) (.bin .Mod (.call iC (.cons (.var 0) (.cons (.cst (.int 1)) .nil))) (.cst (.int 4)))))
  (.cons (.ite (.cmp .Eq (.bin .Mod (.bin .FloorDiv (.call iC (.cons (.var 0) (.cons (.cst (.int 1)) .nil))) (.cst (.int 4))) (.cst (.int 16))) (.cst (.int 0))) (.cons (.assign (.one 2) (.cst (.int 12)))
  .nil) .nil)
  (.cons (.ret (.list (.cons (.var 1) (.cons (.var 2) .nil))))
  .nil))))⟩
theorem four_at {n : Nat} (h : n < 4) : ([V.int 1, .int 2, .int 3, .int 4] : List V)[n]? = some (.int (n + 1 : Nat)) := by
  match n, h with
  | 0, _ => rfl
  | 1, _ => rfl
  | 2, _ => rfl
  | 3, _ => rfl
theorem names_call {P : List CFun} {k d iC : Nat} {σ : Sto} {r : Nat} {cs : List Int} (hk : P[k]? = some (fNames iC)) (hC : P[iC]? = some f03__law_cell_at) (hr : σ[r]? = some (.lst (cs.map .int))) :
    ∃ (q : Nat) (seed : Int) (m : Nat) (σ' : Sto), callL P (d + 2) k [.ref r] σ = some (.ok (.ref q), σ') ∧ σ'[q]? = some (.lst [.int seed, .int m]) ∧ Keep σ σ' ∧ 1 ≤ m ∧ m ≤ 12 := by
  have ec : ∀ (j : Nat), j < 1000 → ∀ σ', Keep σ σ' → callL P (d + 1) iC [.ref r, .int j] σ' = some (.ok (.int (cellF cs j)), σ') := fun j hj σ' hK => cell_call hC (hK _ _ hr) j (by omega)
  obtain ⟨v, σ', h, q, seed, m, rfl, h1, h2, h3, h4⟩ := call_W (R := fun v σ' => ∃ (q : Nat) (seed : Int) (m : Nat), v = .ref q ∧ σ'[q]? = some (.lst [.int seed, .int m]) ∧ Keep σ σ' ∧ 1 ≤ m ∧ m ≤ 12) (σ := σ) (d := d + 1) hk (as := [.ref r]) rfl (by
    refine W.set (evalC_call (vs := [.ref r, .int 0]) rfl (ec 0 (by omega) σ (Keep.refl _))) ?_
    generalize cellF cs 0 = seed
    have ec1 := ec 1 (by omega)
    generalize cellF cs 1 = c at ec1
    obtain ⟨n, hn, hn'⟩ := fm (a := c) (b := 4) (by decide)
    have K1 : Keep σ (σ ++ [.lst [V.int 1, .int 2, .int 3, .int 4]]) := Keep.app _ _
    refine W.set (v := .int (n + 1 : Nat)) (idx_lst σ.length n _ _ (ev_list (vs := [V.int 1, .int 2, .int 3, .int 4]) rfl (by decide)) (by rw [← hn]; exact ev_bin (evalC_call (vs := [.ref r, .int 1]) rfl (ec1 _ K1)) rfl (mod_ok (by decide))) (get_self _ _) (by omega) (four_at (by omega))) ?_
    generalize σ ++ [.lst [V.int 1, .int 2, .int 3, .int 4]] = σ1 at K1
    have fin : ∀ (m : Nat) (ρ : Loc), ρ 1 = some (.int seed) → ρ 2 = some (.int m) → 1 ≤ m → m ≤ 12 → W (callL P (d + 1)) (.cons (.ret (.list (.cons (.var 1) (.cons (.var 2) .nil)))) .nil) ρ σ1 (fun fl _ σ' => ∃ v, fl = .ret v ∧ ∃ (q : Nat) (seed : Int) (m : Nat), v = .ref q ∧ σ'[q]? = some (.lst [.int seed, .int m]) ∧ Keep σ σ' ∧ 1 ≤ m ∧ m ≤ 12) := by
      intro m ρ g1 g2 h1 h2
      exact W.retE (ev_list (ev_args (ev_var g1) (ev_args1 (ev_var g2))) (by simp only [List.length_cons, List.length_nil]; decide)) ⟨_, rfl, _, seed, m, rfl, get_self _ _, K1.trans (Keep.app _ _), h1, h2⟩
    refine W.if_ (p := (c.fdiv 4).fmod 16 = 0) (ev_eqI (ev_bin (ev_bin (evalC_call (vs := [.ref r, .int 1]) rfl (ec1 _ K1)) rfl (div_ok (by decide) (by decide))) rfl (mod_ok (by decide))) rfl) (fun hc => ?_) fun hc => W.nil ?_
    · refine W.set (v := .int (12 : Nat)) rfl (W.nil ?_)
      exact fin 12 _ rfl rfl (by decide) (by decide)
    · exact fin (n + 1) _ rfl rfl (by omega) (by omega))
  exact ⟨q, seed, m, σ', h, h1, h2, h3, h4⟩

theorem many_call {P : List CFun} {k d : Nat} {σ : Sto} (hk : P[k]? = some f09__law_many) (c : Int) (few room : Nat) (hfr : few ≤ room) : ∃ n : Nat, callL P (d + 1) k [.int c, .int few, .int room] σ = some (.ok (.int n), σ) ∧ n ≤ room := by
  obtain ⟨v, σ', h, rfl, n, rfl, h2⟩ := call_W (R := fun v σ' => σ' = σ ∧ ∃ n : Nat, v = .int n ∧ n ≤ room) (σ := σ) (d := d) hk (as := [.int c, .int few, .int room]) rfl (by
    obtain ⟨n, hn, hn'⟩ := fm (a := c.fdiv 24) (b := (room : Int) + 1) (by omega)
    obtain ⟨m, hm, hm'⟩ := fm (a := c.fdiv 24) (b := (few : Int) + 1) (by omega)
    refine W.if_ (p := c.fmod 24 = 0) (ev_eqI rfl rfl) (fun hc => ?_) fun hc => W.nil ?_
    · exact W.retE (ev_bin (x := .int (c.fdiv 24)) (y := .int ((room : Int) + 1)) rfl rfl (mod_ok (by omega))) ⟨_, rfl, rfl, n, by rw [hn], by omega⟩
    · exact W.retE (ev_bin (x := .int (c.fdiv 24)) (y := .int ((few : Int) + 1)) rfl rfl (mod_ok (by omega))) ⟨_, rfl, rfl, m, by rw [hm], by omega⟩)
  exact ⟨n, h, h2⟩

noncomputable def fNumbers (iW : Nat) : CFun := ⟨2, (.cons (.ite (.or (.not (.prim .isTuple (.cons (.var 0) .nil))) (.cmp .NotEq (.prim .len (.cons (.var 0) .nil)) (.prim .len (.cons (.var 1) .nil)))) (.cons (.ret (.cst (.bool false)))
  .nil) .nil)
  (.cons (.for_ (.one 2) (.rng1 (.prim .len (.cons (.var 1) .nil))) (.cons (.ite (.or (.not (.call iW (.cons (.idx (.var 0) (.var 2)) .nil))) (.cmp .NotEq (.idx (.var 0) (.var 2)) (.idx (.var 1) (.var 2)))) (.cons (.ret (.cst (.bool false)))
  .nil) .nil)
  .nil))
  (.cons (.ret (.cst (.bool true)))
  .nil)))⟩
/-- equal rows of ints -/
theorem numbers_call {P : List CFun} {k d iW : Nat} {σ : Sto} (hk : P[k]? = some (fNumbers iW)) (hW : P[iW]? = some f03__law_whole) (ns : List Int) (hn : ns.length ≤ 1000) {r : Nat} (hr : σ[r]? = some (.lst (ns.map .int))) : callL P (d + 2) k [.tup (ns.map .int), .ref r] σ = some (.ok (.bool true), σ) := by
  obtain ⟨v, σ', h, rfl, rfl⟩ := call_W (R := fun v σ' => v = .bool true ∧ σ' = σ) (σ := σ) (d := d + 1) hk (as := [.tup (ns.map .int), .ref r]) rfl (by
    refine W.iteF σ (testC_of (ev_or (ev_not (b := true) rfl) ?_)) (W.nil ?_)
    · have := ev_neI (call := callL P (d + 1)) (ρ := argsLoc [.tup (ns.map .int), .ref r]) (σ := σ) (a := .prim .len (.cons (.var 0) .nil)) (b := .prim .len (.cons (.var 1) .nil)) (x := ns.length) (y := ns.length) (ev_prim (vs := [.tup (ns.map .int)]) rfl ((len_tup _).trans (by rw [List.length_map]))) (ev_prim (vs := [.ref r]) rfl ((len_lst hr).trans (by rw [List.length_map])))
      rw [decide_eq_false (by simp)] at this
      exact this
    · refine W.loop up_ret (src_rng1 (n := ns.length) (ev_prim (vs := [.ref r]) rfl ((len_lst hr).trans (by rw [List.length_map]))) (by omega)) (fun j ρ σ' => ρ = locs [some (.tup (ns.map .int)), some (.ref r)] ∧ σ' = σ) (a := locs [some (.tup (ns.map .int)), some (.ref r)]) (le_locs ⟨rfl, rfl, trivial⟩) ⟨rfl, rfl⟩ (fun _ _ _ _ => watch0 _) ?_ ?_
      · rintro j x _ σ' hx ⟨rfl, e0⟩
        subst e0
        obtain ⟨hlt, rfl⟩ := rangeL_get hx
        refine ⟨_, rfl, ?_⟩
        have e1 := idx_tup (call := callL P (d + 1)) (a := .var 0) (i := .var 2) (ρ := upd (locs [some (.tup (ns.map .int)), some (.ref r)]) 2 (.int j)) (σ := σ') j _ _ rfl rfl (by omega) (get_int hlt)
        have e2 := idx_lst (call := callL P (d + 1)) (a := .var 1) (i := .var 2) (ρ := upd (locs [some (.tup (ns.map .int)), some (.ref r)]) 2 (.int j)) (σ := σ') r j _ _ rfl rfl hr (by omega) (get_int hlt)
        have e3 := ev_neI e1 e2
        rw [decide_eq_false (by simp)] at e3
        exact W.iteF σ' (testC_of (ev_or (ev_not (b := true) (evalC_call (ev_args1 e1) (whole_call hW _))) e3)) (W.nil (W.nil ⟨rfl, locs [some (.tup (ns.map .int)), some (.ref r)], le_locs ⟨rfl, rfl, trivial⟩, rfl, rfl⟩))
      · rintro _ _ ⟨rfl, rfl⟩
        exact W.retE rfl ⟨_, rfl, rfl, rfl⟩)
  exact h
end Lar

set_option autoImplicit false
set_option maxRecDepth 100000
namespace Lar
open PySem

section
variable {call : CallF} {ρ : Loc} {σ σ₁ σ₂ σ₃ : Sto}
theorem src_tup {e : CE} {l : List V} (h : evalC call e ρ σ = some (.tup l, σ₁)) : srcC call (.ex e) ρ σ = some (l, [], σ₁) := by
  show bnd (evalC call e ρ σ) (fun x σ₁ => (seqOf σ₁ x).bind fun p => some (p.1, p.2, σ₁)) = _
  rw [h]; rfl
end
theorem set_at {ul : List Int} {i j : Nat} {x : Int} (hi : i < ul.length) : ((ul.set i x)[j]?).getD 0 = if i = j then x else (ul[j]?).getD 0 := by
  by_cases h : i = j
  · subst h; rw [if_pos rfl, List.getElem?_set_self hi]; rfl
  · rw [if_neg h, List.getElem?_set_ne h]
theorem take_snoc {α : Type} {l : List α} {k : Nat} {x : α} (h : l[k]? = some x) : l.take (k + 1) = l.take k ++ [x] := by
  rw [List.take_add_one, h]; rfl
theorem map_at {α : Type} {f : α → V} {l : List α} {k : Nat} {x : V} (h : (l.map f)[k]? = some x) : ∃ y, l[k]? = some y ∧ x = f y := by
  rw [List.getElem?_map] at h
  cases hy : l[k]? with
  | none => rw [hy] at h; exact no h
  | some y => rw [hy] at h; exact ⟨y, rfl, (sm h).symm⟩

end Lar

set_option autoImplicit false
set_option maxRecDepth 100000
namespace Lar
open PySem

noncomputable def idxF (x : Str) (n : Nat) : Str := ⟨#[(x.cps[n]?).getD 0]⟩
noncomputable def slF (x : Str) (i j : Nat) : Str := ⟨(cut x.cps.toList i j).toArray⟩
noncomputable def sgF (z : Int) : Str := idxF sg (z.fmod 26).toNat
theorem slF_len (x : Str) (i j : Nat) : (slF x i j).length ≤ x.length := by
  show (cut x.cps.toList i j).toArray.size ≤ _
  rw [List.size_toArray]; exact cut_len _ _ _
section
variable {call : CallF} {ρ : Loc} {σ σ₁ σ₂ σ₃ : Sto}
theorem ev_idxStr1 {a i : CE} {x : Str} {k : Int} (ha : evalC call a ρ σ = some (.str x, σ₁)) (hi : evalC call i ρ σ₁ = some (.int k, σ₂)) (h0 : 0 ≤ k) (h1 : k < x.length) (hx : x.length ≤ 1000) : evalC call (.idx a i) ρ σ = some (.str (idxF x k.toNat), σ₂) := by
  have hlt : k.toNat < x.cps.size := by have : x.length = x.cps.size := rfl; omega
  have e : x.cps[k.toNat]? = some x.cps[k.toNat] := Array.getElem?_eq_getElem hlt
  have hk : 0 ≤ k ∧ k < 4611686018427387904 := by omega
  refine ev_idx ha hi ?_
  show (Option.bind (some k) fun k => if 0 ≤ k ∧ k < 4611686018427387904 then (x.cps[k.toNat]?).bind (fun c => some (V.str ⟨#[c]⟩)) else none) = _
  unfold idxF
  rw [Option.bind_some, if_pos hk, e]
  rfl
theorem ev_slcStr1 {a lo hi : CE} {x : Str} {u v : V} {i j : Nat} (ha : evalC call a ρ σ = some (.str x, σ₁)) (hl : evalC call lo ρ σ₁ = some (u, σ₂)) (hh : evalC call hi ρ σ₂ = some (v, σ₃)) (h0 : loOf u = some i) (h1 : hiOf x.length v = some j) (hx : x.length ≤ 1000) :
    evalC call (.slc a lo hi) ρ σ = some (.str (slF x i j), σ₃) := by
  have hc : (cut x.cps.toList i j).length ≤ x.length := cut_len _ _ _
  have hz : (cut x.cps.toList i j).toArray.size ≤ szLine := by rw [List.size_toArray]; unfold szLine; omega
  refine ev_slc ha hl hh ?_
  show ((loOf u).bind fun i => (hiOf x.length v).bind fun j => newS σ₃ ⟨(cut x.cps.toList i j).toArray⟩) = _
  rw [h0, h1]
  exact if_pos hz
theorem ev_sign1 {i : CE} {z : Int} (hv : ρ 2 = some (.str sg)) (hi : evalC call i ρ σ = some (.int (z.fmod 26), σ₁)) : evalC call (.idx (.var 2) i) ρ σ = some (.str (sgF z), σ₁) := by
  have b := fmod_range (a := z) (b := 26) (by decide)
  have := sg_len
  exact ev_idxStr1 (ev_var hv) hi b.1 (by omega) (by omega)
end
/-- the signs one by one -/
noncomputable def lpF (more : Int) : Nat → Str × Int
  | 0 => (("" : Str), more.fdiv 7)
  | j + 1 => ((lpF more j).1 ++ sgF ((lpF more j).2 + 1 + (more.fdiv 182).fmod 25), (lpF more j).2 + 1 + (more.fdiv 182).fmod 25)
theorem lpF_len (more : Int) : ∀ j, (lpF more j).1.length = j
  | 0 => by show ("" : Str).length = 0; decide +kernel
  | j + 1 => by
    show ((lpF more j).1 ++ sgF _).length = _
    rw [Str.length_append, lpF_len more j]; rfl
noncomputable def tailF (at' : Int) (i : Nat) : Str := ([("" : Str), ("" : Str), sgF at', sgF (at' + 1)] : List Str)[i]?.getD ("" : Str)
/-- a name, by its seed and its number -/
noncomputable def nameF (seed : Int) (i : Nat) : Str :=
  if seed.fmod 6 = 0 ∧ (i : Int) < 4 then (words[((seed.fdiv 6 + i).fmod 11).toNat]?).getD ("" : Str)
  else if (3 : Int) < i then slF (lpF (seed.fdiv 6) (1 + ((seed.fdiv 6).fmod 7).toNat)).1 0 (min (1 + ((seed.fdiv 6).fmod 7).toNat) (min (((seed.fdiv 6).fdiv 4550).fmod (1 + ((seed.fdiv 6).fmod 7).toNat : Nat)) 6).toNat) ++ (sgF ((lpF (seed.fdiv 6) (1 + ((seed.fdiv 6).fmod 7).toNat)).2 + (i : Int).fdiv 26) ++ sgF i) ++ slF (lpF (seed.fdiv 6) (1 + ((seed.fdiv 6).fmod 7).toNat)).1 (min (((seed.fdiv 6).fdiv 4550).fmod (1 + ((seed.fdiv 6).fmod 7).toNat : Nat)) 6).toNat (min (1 + ((seed.fdiv 6).fmod 7).toNat) 6)
  else if (3 : Int) < seed.fmod 6 then sgF ((seed.fdiv 6).fdiv 7 + (i : Int)) ++ (lpF (seed.fdiv 6) (1 + ((seed.fdiv 6).fmod 7).toNat)).1
  else if (i : Int) = 1 then slF (lpF (seed.fdiv 6) (1 + ((seed.fdiv 6).fmod 7).toNat)).1 0 (min (1 + ((seed.fdiv 6).fmod 7).toNat) (((seed.fdiv 6).fdiv 4550).fmod (1 + ((seed.fdiv 6).fmod 7).toNat : Nat)).toNat) ++ sgF (Txt.find sg (idxF (lpF (seed.fdiv 6) (1 + ((seed.fdiv 6).fmod 7).toNat)).1 (((seed.fdiv 6).fdiv 4550).fmod (1 + ((seed.fdiv 6).fmod 7).toNat : Nat)).toNat) + 1) ++ slF (lpF (seed.fdiv 6) (1 + ((seed.fdiv 6).fmod 7).toNat)).1 ((((seed.fdiv 6).fdiv 4550).fmod (1 + ((seed.fdiv 6).fmod 7).toNat : Nat)) + 1).toNat (1 + ((seed.fdiv 6).fmod 7).toNat)
  else (lpF (seed.fdiv 6) (1 + ((seed.fdiv 6).fmod 7).toNat)).1 ++ tailF (lpF (seed.fdiv 6) (1 + ((seed.fdiv 6).fmod 7).toNat)).2 i
theorem tail_get {a : Int} {i : Nat} (h : i < 4) : ([V.str ("" : Str), V.str ("" : Str), V.str (sgF a), V.str (sgF (a + 1))] : List V)[(i : Int).toNat]? = some (.str (tailF a i)) ∧ (tailF a i).length ≤ 1 := by
  have h0 : ("" : Str).length ≤ 1 := by decide +kernel
  match i, h with
  | 0, _ => exact ⟨rfl, h0⟩
  | 1, _ => exact ⟨rfl, h0⟩
  | 2, _ => exact ⟨rfl, Nat.le_refl _⟩
  | 3, _ => exact ⟨rfl, Nat.le_refl _⟩

theorem name1_call {P : List CFun} {k d : Nat} {σ : Sto} (hk : P[k]? = some f09__law_name_by) (seed : Int) (i : Nat) (hi : i < 100) : ∃ σ', callL P (d + 1) k [.int seed, .int i] σ = some (.ok (.str (nameF seed i)), σ') ∧ Keep σ σ' := by
  have hsz : szLine = 16777216 := rfl
  obtain ⟨v, σ', h, rfl, h1⟩ := call_W (R := fun v σ' => v = .str (nameF seed i) ∧ Keep σ σ') (σ := σ) (d := d) hk (as := [.int seed, .int i]) rfl (by
    refine W.set (v := .str sg) (σ₁ := σ) rfl ?_
    refine W.set (v := .ref σ.length) (σ₁ := σ ++ [.lst (words.map .str)]) (ev_list (vs := words.map .str) rfl (by decide)) ?_
    have hw : (σ ++ [.lst (words.map .str)])[σ.length]? = some (.lst (words.map .str)) := get_self _ _
    have kw : Keep σ (σ ++ [.lst (words.map .str)]) := Keep.app _ _
    generalize σ ++ [.lst (words.map .str)] = σ1 at hw kw
    refine W.set (v := .int (seed.fdiv 6)) (σ₁ := σ1) rfl ?_
    unfold nameF
    generalize hm : seed.fdiv 6 = more
    refine W.if_ (ev_and_d (ev_eqI (x := seed.fmod 6) (y := 0) rfl rfl) (ev_cmp (c := decide ((i : Int) < 4)) rfl rfl rfl)) (fun hc => ?_) fun hc => W.nil ?_
    · rw [if_pos hc]
      obtain ⟨n, hn, hn'⟩ := fm (a := more + i) (b := 11) (by decide)
      have hlt : n < words.length := by show n < 11; omega
      have hx : (words.map V.str)[(n : Int).toNat]? = some (.str words[n]) := by rw [Int.toNat_natCast, List.getElem?_map, List.getElem?_eq_getElem hlt]; rfl
      have he : evalC (callL P d) (.bin .Mod (.bin .Add (.var 4) (.var 1)) (.cst (.int 11))) (upd (upd (upd (argsLoc [.int seed, .int i]) 2 (.str sg)) 3 (.ref σ.length)) 4 (.int more)) σ1 = some (.int n, σ1) := by rw [← hn]; rfl
      exact W.retE (idx_lst σ.length n _ _ rfl he hw (by omega) hx) ⟨_, rfl, by rw [hn, Int.toNat_natCast, List.getElem?_eq_getElem hlt]; rfl, kw⟩
    · rw [if_neg hc]
      refine W.set (v := .str ("" : Str)) (σ₁ := σ1) rfl ?_
      refine W.set (v := .int (more.fdiv 7)) (σ₁ := σ1) rfl ?_
      obtain ⟨n, hn, hn'⟩ := fm (a := more) (b := 7) (by decide)
      refine W.loop up_ret (xs := rangeL 0 (1 + n : Nat) 1) (w := []) (σ₁ := σ1) (src_rng1 (by show some (V.int (1 + more.fmod 7), σ1) = _; rw [hn]; rfl) (by omega))
        (fun j ρ σ' => ρ = locs [some (.int seed), some (.int i), some (.str sg), none, some (.int more), some (.str (lpF more j).1), some (.int (lpF more j).2)] ∧ σ' = σ1 ∧ j ≤ 7)
        (a := locs [some (.int seed), some (.int i), some (.str sg), none, some (.int more), some (.str ("" : Str)), some (.int (more.fdiv 7))]) (le_locs ⟨rfl, rfl, rfl, rfl, rfl, rfl, trivial⟩) ⟨rfl, rfl, by omega⟩ (fun _ _ _ _ => watch0 _) ?_ ?_
      · rintro j x _ σ' hx ⟨rfl, e0, hj⟩
        subst e0
        obtain ⟨hlt, rfl⟩ := rangeL_get hx
        refine ⟨_, rfl, ?_⟩
        have hl := lpF_len more j
        refine W.set (v := .int ((lpF more j).2 + 1 + (more.fdiv 182).fmod 25)) (σ₁ := σ') rfl ?_
        refine W.set (v := .str ((lpF more j).1 ++ sgF ((lpF more j).2 + 1 + (more.fdiv 182).fmod 25))) (σ₁ := σ') (ev_strAdd (ev_var rfl) (ev_sign1 rfl rfl) (by show _ + 1 ≤ _; omega)) ?_
        exact W.nil ⟨rfl, locs [some (.int seed), some (.int i), some (.str sg), none, some (.int more), some (.str (lpF more (j + 1)).1), some (.int (lpF more (j + 1)).2)], le_locs ⟨rfl, rfl, rfl, rfl, rfl, rfl, trivial⟩, rfl, rfl, by omega⟩
      · rintro _ σ' ⟨rfl, e0, hj⟩
        subst e0
        rw [rangeL_len] at hj ⊢
        rw [show (more.fmod 7).toNat = n by rw [hn]; rfl]
        have hx := lpF_len more (1 + n)
        generalize (lpF more (1 + n)).1 = x at hx
        generalize (lpF more (1 + n)).2 = at'
        have hwp : 0 < 1 + n := by omega
        generalize 1 + n = w at hx hj hwp
        subst hx
        have hx7 : x.length ≤ 7 := hj
        have hx0 : 0 < (x.length : Int) := by omega
        obtain ⟨sp, hsp, hsp'⟩ := fm (a := more.fdiv 4550) (b := x.length) hx0
        rw [hsp]
        refine W.set (v := .int sp) (σ₁ := σ') (by rw [← hsp]; exact ev_bin (ev_bin rfl rfl (div_ok (by decide) (by decide))) (ev_lenStr (ev_var rfl) (by omega)) (mod_ok (by omega))) ?_
        -- the names of more than four
        refine W.if_ (p := (3 : Int) < i) (ev_cmp rfl rfl rfl) (fun hc => ?_) fun hc => W.nil ?_
        · rw [if_pos hc]
          have hmin : 0 ≤ min (sp : Int) 6 ∧ min (sp : Int) 6 < 4611686018427387904 := by omega
          refine W.set (v := .str (sgF (at' + (i : Int).fdiv 26) ++ sgF i)) (σ₁ := σ') (ev_strAdd (ev_sign1 rfl rfl) (ev_sign1 rfl rfl) (by show 1 + 1 ≤ _; omega)) ?_
          have l3 := slF_len x 0 (min x.length (min (sp : Int) 6).toNat)
          have l4 := slF_len x (min (sp : Int) 6).toNat (min x.length 6)
          refine W.retE (ev_strAdd (ev_strAdd (ev_slcStr1 (u := .none) (v := .int (min sp 6)) (ev_var rfl) rfl rfl rfl (hiOf_int hmin) (by omega)) (ev_var rfl) ?_) (ev_slcStr1 (u := .int (min sp 6)) (v := .int 6) (ev_var rfl) rfl rfl (loOf_int hmin) (hiOf_int (by decide)) (by omega)) ?_) ⟨_, rfl, rfl, kw⟩
          · rw [Str.length_append]; show _ + (1 + 1) ≤ _; omega
          · rw [Str.length_append, Str.length_append]; show _ + (1 + 1) + _ ≤ _; exact Nat.le_trans (Nat.add_le_add (Nat.add_le_add_right l3 _) l4) (by omega)
        · rw [if_neg hc]
          refine W.if_ (p := (3 : Int) < seed.fmod 6) (ev_cmp rfl rfl rfl) (fun hc => ?_) fun hc => W.nil ?_
          · rw [if_pos hc]
            exact W.retE (ev_strAdd (ev_sign1 rfl rfl) (ev_var rfl) (by show 1 + _ ≤ _; omega)) ⟨_, rfl, rfl, kw⟩
          · rw [if_neg hc]
            refine W.if_ (p := (i : Int) = 1) (ev_eqI rfl rfl) (fun hc => ?_) fun hc => W.nil ?_
            · rw [if_pos hc]
              have hsp2 : 0 ≤ (sp : Int) ∧ (sp : Int) < 4611686018427387904 := by omega
              have hsp3 : 0 ≤ (sp : Int) + 1 ∧ (sp : Int) + 1 < 4611686018427387904 := by omega
              refine W.set (v := .str (sgF (Txt.find sg (idxF x (sp : Int).toNat) + 1))) (σ₁ := σ') (ev_sign1 rfl (ev_bin (ev_bin (ev_find (ev_var (v := .str sg) rfl) (ev_idxStr1 (ev_var rfl) (ev_var rfl) (by omega) (by omega) (by omega))) rfl rfl) rfl (mod_ok (by decide)))) ?_
              have l3 := slF_len x 0 (min x.length (sp : Int).toNat)
              have l4 := slF_len x ((sp : Int) + 1).toNat x.length
              refine W.retE (ev_strAdd (ev_strAdd (ev_slcStr1 (u := .none) (v := .int sp) (ev_var rfl) rfl rfl rfl (hiOf_int hsp2) (by omega)) (ev_var rfl) ?_) (ev_slcStr1 (u := .int (sp + 1)) (v := .none) (ev_var rfl) rfl rfl (loOf_int hsp3) rfl (by omega)) ?_) ⟨_, rfl, rfl, kw⟩
              · show _ + 1 ≤ _; omega
              · rw [Str.length_append]; show _ + 1 + _ ≤ _; exact Nat.le_trans (Nat.add_le_add (Nat.add_le_add_right l3 _) l4) (by omega)
            · rw [if_neg hc]
              have hi4 : i < 4 := by omega
              obtain ⟨hs, hs1⟩ := tail_get (a := at') hi4
              exact W.retE (ev_strAdd (ev_var rfl) (idx_lst σ'.length i _ _ (ev_list (vs := [.str ("" : Str), .str ("" : Str), .str (sgF at'), .str (sgF (at' + 1))]) (ev_args (v := .str ("" : Str)) rfl (ev_args (v := .str ("" : Str)) rfl (ev_args (ev_sign1 rfl rfl) (ev_args1 (ev_sign1 rfl rfl))))) (by show 4 ≤ szLine; omega)) (ev_var rfl) (get_self _ _) (by omega) hs) (by omega)) ⟨_, rfl, rfl, kw.trans (Keep.app _ _)⟩)
  exact ⟨σ', h, h1⟩
end Lar

set_option autoImplicit false
set_option maxRecDepth 100000
namespace Lar
open PySem

/-- a dish: its day, its needs -/
structure Dish where
  d : Nat
  ns : List (Str × Int)
noncomputable def needV (p : Str × Int) : V := .tup [.str p.1, .int p.2]
noncomputable def Dish.v (x : Dish) : V := .tup [.int x.d, .tup (x.ns.map needV)]
noncomputable def Dish.ok (x : Dish) : Prop := 1 ≤ x.d ∧ x.d ≤ 7 ∧ x.ns.length ≤ 20

noncomputable def fDishes (iM iC iA iN : Nat) : CFun := ⟨3, (.cons (.assign (.one 3) (.list .nil))
  (.cons (.for_ (.one 4) (.rng1 (.var 2)) (.cons (.assign (.one 5) (.call iM (.cons (.call iC (.cons (.var 0) (.cons (.bin .Add (.cst (.int 3)) (.bin .Mod (.var 4) (.cst (.int 20)))) .nil))) (.cons (.var 4) .nil))))
  (.cons (.assign (.one 6) (.list .nil))
  (.cons (.assign (.one 7) (.idx (.list (.cons (.bin .Mod (.bin .FloorDiv (.var 5) (.cst (.int 7))) (.cst (.int 4))) (.cons (.bin .Mod (.bin .FloorDiv (.var 5) (.cst (.int 7))) (.cst (.int 21))) .nil))) (.prim .int (.cons (.cmp .Eq (.bin .Mod (.bin .FloorDiv (.var 5) (.cst (.int 147))) (.cst (.int 40))) (.cst (.int 0))) .nil))))
  (.cons (.for_ (.one 8) (.rng1 (.var 7)) (.cons (.assign (.one 9) (.call iM (.cons (.bin .FloorDiv (.var 5) (.cst (.int 28))) (.cons (.bin .Add (.var 8) (.cst (.int 1))) .nil))))
  (.cons (.assign (.one 10) (.bin .Add (.cst (.int 1)) (.bin .Mod (.bin .FloorDiv (.var 9) (.cst (.int 60))) (.cst (.int 12)))))
  (.cons (.ite (.cmp .Eq (.bin .Mod (.bin .FloorDiv (.var 9) (.cst (.int 720))) (.cst (.int 40))) (.cst (.int 0))) (.cons (.assign (.one 10) (.call iA (.cons (.bin .FloorDiv (.var 9) (.cst (.int 28800))) (.cons (.cst (.int 200)) .nil))))
  .nil) .nil)
  (.cons (.expr (.meth .append (.var 6) (.cons (.tuple (.cons (.call iN (.cons (.idx (.var 1) (.cst (.int 0))) (.cons (.bin .Mod (.bin .Mod (.var 9) (.cst (.int 60))) (.idx (.var 1) (.cst (.int 1)))) .nil))) (.cons (.var 10) .nil))) .nil)))
  .nil)))))
  (.cons (.expr (.meth .append (.var 3) (.cons (.tuple (.cons (.bin .Add (.cst (.int 1)) (.bin .Mod (.var 5) (.cst (.int 7)))) (.cons (.prim .tuple (.cons (.var 6) .nil)) .nil))) .nil)))
  .nil))))))
  (.cons (.ret (.prim .tuple (.cons (.var 3) .nil)))
  .nil)))⟩

end Lar

set_option autoImplicit false
set_option maxRecDepth 100000
namespace Lar
open PySem

section
variable {call : CallF} {rest : CSs} {ρ : Loc} {σ σ₁ σ₂ σ₃ : Sto} {Q : Flow → Loc → Sto → Prop}
theorem W.ifB {c : CE} {t e : CSs} {b : Bool} {σ₁ : Sto} (h : evalC call c ρ σ = some (.bool b, σ₁)) (hT : b = true → W call t ρ σ₁ fun fl ρ' σ' => match fl with | .next => W call rest ρ' σ' Q | fl => Q fl ρ' σ')
    (hF : b = false → W call e ρ σ₁ fun fl ρ' σ' => match fl with | .next => W call rest ρ' σ' Q | fl => Q fl ρ' σ') : W call (.cons (.ite c t e) rest) ρ σ Q := by
  cases b with
  | true => exact W.iteT σ₁ (testC_of h) (hT rfl)
  | false => exact W.iteF σ₁ (testC_of h) (hF rfl)
theorem src_rng2 {a b : CE} {m n : Int} (ha : evalC call a ρ σ = some (.int m, σ₁)) (hb : evalC call b ρ σ₁ = some (.int n, σ₂)) (h : (smallI m && smallI n) = true) : srcC call (.rng2 a b) ρ σ = some (rangeL m n 1, [], σ₂) := by
  show bndI (evalC call a ρ σ) (fun m σ₁ => bndI (evalC call b ρ σ₁) fun n σ₂ => if smallI m && smallI n then some (rangeL m n 1, [], σ₂) else none) = _
  rw [ha]
  show bndI (evalC call b ρ σ₁) (fun n σ₂ => if smallI m && smallI n then some (rangeL m n 1, [], σ₂) else none) = _
  rw [hb]
  exact if_pos h
theorem sum_tup {l : List Int} : primop .sum [.tup (l.map .int)] σ = some (.int (sumI l), σ) := by
  show (intsOf (l.map .int)).bind (fun ns => some (V.int (ns.foldl (· + ·) 0), σ)) = _
  rw [intsOf_map]; rfl
end
theorem comp_inv {α : Type} {elt : Loc → Sto → Option (V × Sto)} {cond : Loc → Sto → Option (Bool × Sto)} {t : Tgt} {w : List (Nat × MObj)} {ρ : Loc} {g f : α → V} {Inv : Sto → Prop} (hw : ∀ σ, Inv σ → watchOk σ w) (hc : ∀ ρ σ, cond ρ σ = some (true, σ)) : ∀ {xs : List α} {σ : Sto}, Inv σ →
    (∀ x ∈ xs, ∀ σ, Inv σ → ∃ ρ', t.put (g x) ρ = some ρ' ∧ ∃ σ', elt ρ' σ = some (f x, σ') ∧ Inv σ') → ∃ σ' : Sto, compL elt cond t w (xs.map g) ρ σ = some (xs.map f, σ') ∧ Inv σ'
  | [], σ, h0, _ => ⟨σ, guardW_of (hw σ h0), h0⟩
  | x :: xs, σ, h0, hs => by
    obtain ⟨ρ', h1, σ1, h2, h3⟩ := hs x List.mem_cons_self σ h0
    obtain ⟨σ2, h5, h6⟩ := comp_inv hw hc h3 (xs := xs) fun z hz => hs z (List.mem_cons_of_mem _ hz)
    refine ⟨σ2, ?_, h6⟩
    show guardW σ w ((t.put (g x) ρ).bind _) = _
    rw [guardW_of (hw σ h0), h1, Option.bind_some, hc]
    simp only [bnd, if_true, h2, h5, List.map_cons]

/-- what a dish needs of a thing; what is needed on a day; from a day on -/
noncomputable def amtF (ns : List (Str × Int)) (nm : Str) : Int := sumI ((ns.filter fun p => p.1 == nm).map (·.2))
noncomputable def needF (ds : List Dish) (nm : Str) (t : Nat) : Int := sumI ((ds.filter fun x => x.d == t + 1).map fun x => amtF x.ns nm)
theorem amtF_snoc (l : List (Str × Int)) (n : Str) (a : Int) (nm : Str) : amtF (l ++ [(n, a)]) nm = amtF l nm + if (n == nm) = true then a else 0 := by
  unfold amtF
  rw [List.filter_append, List.map_append]
  by_cases h : (n == nm) = true
  · rw [if_pos h, List.filter_cons_of_pos (by exact h)]; exact sumI_snoc _ _
  · rw [if_neg h, List.filter_cons_of_neg (by exact h)]; simp
theorem needF_snoc (l : List Dish) (x : Dish) (nm : Str) (t : Nat) : needF (l ++ [x]) nm t = needF l nm t + if x.d = t + 1 then amtF x.ns nm else 0 := by
  unfold needF
  rw [List.filter_append, List.map_append]
  by_cases h : x.d = t + 1
  · rw [if_pos h, List.filter_cons_of_pos (by simpa using h)]; exact sumI_snoc _ _
  · rw [if_neg h, List.filter_cons_of_neg (by simpa using h)]; simp
theorem needed_call {P : List CFun} {k d : Nat} {σ : Sto} (hk : P[k]? = some f02_needed) (ds : List Dish) (nm : Str) (hok : ∀ x ∈ ds, x.ok) :
    ∃ σ', callL P (d + 1) k [.tup (ds.map Dish.v), .str nm] σ = some (.ok (.tup (((List.range 7).map (needF ds nm)).map .int)), σ') ∧ Keep σ σ' := by
  have hsz : szLine = 16777216 := rfl
  obtain ⟨v, σ', h, rfl, h1⟩ := call_W (R := fun v σ' => v = .tup (((List.range 7).map (needF ds nm)).map .int) ∧ Keep σ σ') (σ := σ) (d := d) hk (as := [.tup (ds.map Dish.v), .str nm]) rfl (by
    refine W.set (v := .ref (σ.length + 1)) (σ₁ := σ ++ [.lst [.int 0]] ++ [.lst (([0, 0, 0, 0, 0, 0, 0] : List Int).map .int)]) ?_ ?_
    · refine ev_bin (ev_list (vs := [.int 0]) rfl (by decide)) rfl ?_
      show ((lst (σ ++ [.lst [.int 0]]) σ.length).bind fun x => if (0 : Int) ≤ 7 ∧ (7 : Int) ≤ 100000 ∧ x.length ≤ 100 then new (σ ++ [.lst [.int 0]]) (rep x (7 : Int).toNat) else none) = _
      rw [lst_eq (get_self _ _), Option.bind_some, if_pos (by decide)]
      unfold new
      rw [if_pos (by decide)]
      simp [rep]
    have hU0 : (σ ++ [.lst [.int 0]] ++ [.lst (([0, 0, 0, 0, 0, 0, 0] : List Int).map .int)])[σ.length + 1]? = some (.lst (([0, 0, 0, 0, 0, 0, 0] : List Int).map .int)) := by
      have := get_self (σ ++ [.lst [.int 0]]) (.lst (([0, 0, 0, 0, 0, 0, 0] : List Int).map .int))
      rwa [List.length_append] at this
    have K0 : Keep σ (σ ++ [.lst [.int 0]] ++ [.lst (([0, 0, 0, 0, 0, 0, 0] : List Int).map .int)]) := (Keep.app _ _).trans (Keep.app _ _)
    have hI0 : ∀ t, t < 7 → (([0, 0, 0, 0, 0, 0, 0] : List Int)[t]?).getD 0 = needF (ds.take 0) nm t := by
      intro t ht
      match t, ht with
      | 0, _ => rfl
      | 1, _ => rfl
      | 2, _ => rfl
      | 3, _ => rfl
      | 4, _ => rfl
      | 5, _ => rfl
      | 6, _ => rfl
    generalize σ ++ [.lst [.int 0]] ++ [.lst (([0, 0, 0, 0, 0, 0, 0] : List Int).map .int)] = σ0 at hU0 K0
    refine W.loop up_ret (src_tup (l := ds.map Dish.v) rfl)
      (fun j ρ σ' => ∃ ul : List Int, ρ = locs [none, some (.str nm), some (.ref (σ.length + 1))] ∧ Keep σ σ' ∧ σ'[σ.length + 1]? = some (.lst (ul.map .int)) ∧ ul.length = 7 ∧ ∀ t, t < 7 → (ul[t]?).getD 0 = needF (ds.take j) nm t)
      (a := locs [none, some (.str nm), some (.ref (σ.length + 1))]) (le_locs ⟨rfl, rfl, trivial⟩) ⟨_, rfl, K0, hU0, rfl, hI0⟩ (fun _ _ _ _ => watch0 _) ?_ ?_
    · rintro j x _ σ1 hx0 ⟨ul, rfl, hK, hU, hlen, hI⟩
      obtain ⟨x, hx, rfl⟩ := map_at hx0
      have hxo := hok x (List.mem_of_getElem? hx)
      refine ⟨_, rfl, ?_⟩
      refine W.loop (fun _ _ _ _ hl ⟨h1, c, h2, h3⟩ => ⟨h1, c, h2.trans hl, h3⟩) (src_tup (l := x.ns.map needV) rfl)
        (fun i ρ σ' => ∃ ul : List Int, ρ = locs [none, some (.str nm), some (.ref (σ.length + 1)), some (.int x.d)] ∧ Keep σ σ' ∧ σ'[σ.length + 1]? = some (.lst (ul.map .int)) ∧ ul.length = 7 ∧ ∀ t, t < 7 → (ul[t]?).getD 0 = needF (ds.take j) nm t + if x.d = t + 1 then amtF (x.ns.take i) nm else 0)
        (a := locs [none, some (.str nm), some (.ref (σ.length + 1)), some (.int x.d)]) (le_locs ⟨rfl, rfl, rfl, trivial⟩) ⟨ul, rfl, hK, hU, hlen, fun t ht => by rw [hI t ht]; show _ = _ + if x.d = t + 1 then 0 else 0; split <;> omega⟩ (fun _ _ _ _ => watch0 _) ?_ ?_
      · rintro i y _ σ2 hy ⟨ul, rfl, hK, hU, hlen, hI⟩
        obtain ⟨⟨p, a⟩, hp, rfl⟩ := map_at hy
        refine ⟨_, rfl, ?_⟩
        have hd : 0 ≤ (x.d : Int) - 1 := by have := hxo.1; omega
        have hdt : ((x.d : Int) - 1).toNat = x.d - 1 := by omega
        have hd7 : x.d - 1 < ul.length := by have := hxo.1; have := hxo.2.1; omega
        refine W.ifB (b := p == nm) (ev_cmp rfl rfl rfl) (fun hc => ?_) fun hc => W.nil (W.nil ⟨rfl, locs [none, some (.str nm), some (.ref (σ.length + 1)), some (.int x.d)], le_locs ⟨rfl, rfl, rfl, trivial⟩, ul, rfl, hK, hU, hlen, fun t ht => ?_⟩)
        · have hx0 : (ul.map V.int)[((x.d : Int) - 1).toNat]? = some (.int ((ul[x.d - 1]?).getD 0)) := by rw [hdt, List.getElem?_map, List.getElem?_eq_getElem hd7]; rfl
          refine W.setItem (σ.length + 1) ((x.d : Int) - 1) (ul.map .int) (.int ((ul[x.d - 1]?).getD 0 + a)) σ2 (ev_bin (idx_lst (σ.length + 1) ((x.d : Int) - 1) _ _ rfl rfl hU hd hx0) rfl rfl) rfl rfl hU hd (by rw [List.length_map, hdt]; exact hd7) ?_
          rw [hdt, ← List.map_set]
          refine W.nil (W.nil ⟨rfl, locs [none, some (.str nm), some (.ref (σ.length + 1)), some (.int x.d)], le_locs ⟨rfl, rfl, rfl, trivial⟩, ul.set (x.d - 1) ((ul[x.d - 1]?).getD 0 + a), rfl, hK.set (by omega), set_get hU, by rw [List.length_set]; exact hlen, fun t ht => ?_⟩)
          rw [take_snoc hp, amtF_snoc, if_pos hc, set_at hd7]
          have h1 := hxo.1
          by_cases hxt : x.d = t + 1
          · have : x.d - 1 = t := by omega
            rw [if_pos this, if_pos hxt, this, hI t ht, if_pos hxt]; omega
          · rw [if_neg (by omega), if_neg hxt, hI t ht, if_neg hxt]
        · have hne : ¬ (p == nm) = true := by rw [hc]; exact Bool.false_ne_true
          rw [hI t ht, take_snoc hp, amtF_snoc, if_neg hne, Int.add_zero]
      · rintro _ σ2 ⟨ul, rfl, hK, hU, hlen, hI⟩
        refine W.nil ⟨rfl, locs [none, some (.str nm), some (.ref (σ.length + 1))], le_locs ⟨rfl, rfl, trivial⟩, ul, rfl, hK, hU, hlen, fun t ht => ?_⟩
        rw [hI t ht, take_snoc hx, needF_snoc, List.length_map, List.take_length]
    · rintro _ σ1 ⟨ul, rfl, hK, hU, hlen, hI⟩
      rw [List.length_map, List.take_length] at hI
      have hul : ul = (List.range 7).map (needF ds nm) := by
        apply List.ext_getElem?
        intro t
        rcases Nat.lt_or_ge t 7 with ht | ht
        · have := hI t ht
          rw [List.getElem?_map, List.getElem?_range ht]
          rw [List.getElem?_eq_getElem (by omega)] at this ⊢
          exact congrArg some this
        · rw [List.getElem?_eq_none (by omega), List.getElem?_eq_none (by simp; omega)]
      exact W.retE (ev_prim (vs := [.ref (σ.length + 1)]) rfl (tuple_prim hU (by rw [List.length_map]; omega))) ⟨_, rfl, by rw [hul], hK⟩)
  exact ⟨σ', h, h1⟩

theorem cut_from {α : Type} (l : List α) (k : Nat) : cut l k l.length = l.drop k := by
  unfold cut; rw [List.take_length]
theorem from_day_call {P : List CFun} {k d : Nat} {σ : Sto} (hk : P[k]? = some f02_from_day) (am : List Int) (hl : am.length ≤ 1000) :
    ∃ σ', callL P (d + 1) k [.tup (am.map .int)] σ = some (.ok (.tup (((List.range 7).map fun j => sumI (am.drop j)).map .int)), σ') ∧ Keep σ σ' := by
  have hsz : szLine = 16777216 := rfl
  have e := comp_map (elt := evalC (callL P d) (.prim .sum (.cons (.slc (.var 0) (.var 1) (.cst .none)) .nil))) (cond := testCs (callL P d) .nil) (t := .one 1) (w := []) (ρ := argsLoc [.tup (am.map .int)]) (σ := σ) (g := fun j : Nat => V.int j) (p := fun _ => true) (f := fun j => V.int (sumI (am.drop j))) (watch0 _) (xs := List.range 7) fun j hj => by
    have hj7 : j < 7 := List.mem_range.mp hj
    refine ⟨_, rfl, rfl, fun _ => ev_prim (vs := [.tup ((am.drop j).map .int)]) (ev_args1 (ev_slc (x := .tup (am.map .int)) (y := .int j) (z := .none) rfl rfl rfl ?_)) sum_tup⟩
    show ((loOf (.int j)).bind fun i => (hiOf (am.map V.int).length .none).bind fun j => newT σ (cut (am.map V.int) i j)) = _
    rw [loOf_int (by omega), Int.toNat_natCast]
    show newT σ (cut (am.map V.int) j (am.map V.int).length) = _
    rw [cut_from, ← List.map_drop]
    exact if_pos (by rw [List.length_map, List.length_drop]; omega)
  rw [filter_all, show (List.range 7).map (fun j => V.int (sumI (am.drop j))) = ((List.range 7).map fun j => sumI (am.drop j)).map .int from by rw [List.map_map]; rfl] at e
  have hz : (((List.range 7).map fun j => sumI (am.drop j)).map V.int).length ≤ szLine := by rw [List.length_map, List.length_map, List.length_range]; omega
  have hs : srcC (callL P d) (.rng1 (.cst (.int 7))) (argsLoc [.tup (am.map .int)]) σ = some ((List.range 7).map fun j : Nat => V.int j, [], σ) := by
    rw [← rangeL_map]; exact src_rng1 (n := 7) rfl (by decide)
  exact ⟨_, (call_at hk rfl).trans (ret1 (ev_prim (ev_args1 (ev_comp hs e hz)) (tuple_prim (get_self _ _) hz))), Keep.app _ _⟩

end Lar

set_option autoImplicit false
set_option maxRecDepth 100000
namespace Lar
open PySem

/-- names out of twelve -/
noncomputable def NOk (seed : Int) (ns : List (Str × Int)) : Prop := ∀ p ∈ ns, ∃ k, k < 12 ∧ p.1 = nameF seed k
noncomputable def Dish.okN (seed : Int) (x : Dish) : Prop := x.ok ∧ NOk seed x.ns
theorem name1_ev {P : List CFun} {d iN : Nat} {σ : Sto} {ρ : Loc} {q m : Nat} {seed c : Int} {i0 i1 : Nat} (hN : P[iN]? = some f09__law_name_by) (hm1 : 1 ≤ m) (hm : m ≤ 12) (hq : σ[q]? = some (.lst [.int seed, .int m])) (g1 : ρ i1 = some (.ref q)) (g5 : ρ i0 = some (.int c)) :
    ∃ nm σ', evalC (callL P (d + 1)) (.call iN (.cons (.idx (.var i1) (.cst (.int 0))) (.cons (.bin .Mod (.bin .Mod (.var i0) (.cst (.int 60))) (.idx (.var i1) (.cst (.int 1)))) .nil))) ρ σ = some (.str nm, σ') ∧ Keep σ σ' ∧ ∃ k, k < 12 ∧ nm = nameF seed k := by
  obtain ⟨k, hk, hk'⟩ := fm (a := c.fmod 60) (b := m) (by omega)
  obtain ⟨σ', h, h1⟩ := name1_call (d := d) (σ := σ) hN seed k (by omega)
  refine ⟨_, σ', evalC_call (vs := [.int seed, .int k]) (ev_args (idx_lst q 0 _ _ (ev_var g1) rfl hq (by decide) rfl) (ev_args1 ?_)) h, h1, k, by omega, rfl⟩
  rw [← hk]
  exact ev_bin (ev_bin (ev_var g5) rfl (mod_ok (by decide))) (idx_lst q 1 _ _ (ev_var g1) rfl hq (by decide) rfl) (mod_ok (by omega))

theorem dishes1_call {P : List CFun} {k d : Nat} {iM iC iA iN : Nat} {σ : Sto} {r q m : Nat} {seed : Int} {cs : List Int} (hk : P[k]? = some (fDishes iM iC iA iN)) (hM : P[iM]? = some f03__law_mix) (hC : P[iC]? = some f03__law_cell_at) (hA : P[iA]? = some f03__law_amount) (hN : P[iN]? = some f09__law_name_by)
    (hr : σ[r]? = some (.lst (cs.map .int))) (hq : σ[q]? = some (.lst [.int seed, .int m])) (hm1 : 1 ≤ m) (hm : m ≤ 12) (n : Nat) (hn : n ≤ 200) :
    ∃ (ds : List Dish) (σ' : Sto), callL P (d + 2) k [.ref r, .ref q, .int n] σ = some (.ok (.tup (ds.map Dish.v)), σ') ∧ Keep σ σ' ∧ ds.length = n ∧ ∀ x ∈ ds, x.okN seed := by
  have hsz : szLine = 16777216 := rfl
  obtain ⟨v, σ', h, ds, rfl, h1, h2, h3⟩ := call_W (R := fun v σ' => ∃ ds : List Dish, v = .tup (ds.map Dish.v) ∧ Keep σ σ' ∧ ds.length = n ∧ ∀ x ∈ ds, x.okN seed) (σ := σ) (d := d + 1) hk (as := [.ref r, .ref q, .int n]) rfl (by
    refine W.set (v := .ref σ.length) (σ₁ := σ ++ [.lst []]) rfl ?_
    refine W.loop up_ret (src_rng1 (n := n) rfl (by omega))
      (fun j ρ σ' => ∃ ds : List Dish, ρ = locs [some (.ref r), some (.ref q), none, some (.ref σ.length)] ∧ Keep σ σ' ∧ σ'[σ.length]? = some (.lst (ds.map Dish.v)) ∧ ds.length = j ∧ j ≤ n ∧ ∀ x ∈ ds, x.okN seed)
      (a := locs [some (.ref r), some (.ref q), none, some (.ref σ.length)]) (le_locs ⟨rfl, rfl, rfl, trivial⟩) ⟨[], rfl, Keep.app _ _, get_self _ _, rfl, by omega, fun _ h => nomatch h⟩ (fun _ _ _ _ => watch0 _) ?_ ?_
    · rintro j x _ σ1 hx ⟨ds, rfl, hK, hb, hlen, hj, hok⟩
      obtain ⟨hlt, rfl⟩ := rangeL_get hx
      refine ⟨_, rfl, ?_⟩
      obtain ⟨j20, hj20, hj20'⟩ := fm (a := (j : Int)) (b := 20) (by decide)
      refine W.set (evalC_call (vs := [.int (cellF cs (3 + j20)), .int j]) (ev_args (evalC_call (vs := [.ref r, .int (3 + (j : Int).fmod 20)]) rfl (cell_call' (d := d) hC (hK _ _ hr) (3 + j20) (by omega) (by omega))) (ev_args1 rfl)) (mix_call hM _ _ (by omega))) ?_
      generalize mixF (cellF cs (3 + j20)) j = c
      refine W.set (v := .ref σ1.length) (σ₁ := σ1 ++ [.lst []]) rfl ?_
      have hl1 : σ.length < σ1.length := (List.getElem?_eq_some_iff.mp hb).1
      have hcnt : ∃ (t : Nat) (σ2 : Sto), evalC (callL P (d + 1)) (.idx (.list (.cons (.bin .Mod (.bin .FloorDiv (.var 5) (.cst (.int 7))) (.cst (.int 4))) (.cons (.bin .Mod (.bin .FloorDiv (.var 5) (.cst (.int 7))) (.cst (.int 21))) .nil))) (.prim .int (.cons (.cmp .Eq (.bin .Mod (.bin .FloorDiv (.var 5) (.cst (.int 147))) (.cst (.int 40))) (.cst (.int 0))) .nil))) (upd (upd (upd (locs [some (.ref r), some (.ref q), none, some (.ref σ.length)]) 4 (.int j)) 5 (.int c)) 6 (.ref σ1.length)) (σ1 ++ [.lst []]) = some (.int t, σ2) ∧ Keep (σ1 ++ [.lst []]) σ2 ∧ t ≤ 20 := by
        obtain ⟨t1, ht1, ht1'⟩ := fm (a := c.fdiv 7) (b := 4) (by decide)
        obtain ⟨t2, ht2, ht2'⟩ := fm (a := c.fdiv 7) (b := 21) (by decide)
        have el := ev_list (call := callL P (d + 1)) (ρ := upd (upd (upd (locs [some (.ref r), some (.ref q), none, some (.ref σ.length)]) 4 (.int j)) 5 (.int c)) 6 (.ref σ1.length)) (σ := σ1 ++ [.lst []]) (es := .cons (.bin .Mod (.bin .FloorDiv (.var 5) (.cst (.int 7))) (.cst (.int 4))) (.cons (.bin .Mod (.bin .FloorDiv (.var 5) (.cst (.int 7))) (.cst (.int 21))) .nil)) (vs := [.int ((c.fdiv 7).fmod 4), .int ((c.fdiv 7).fmod 21)]) (σ₁ := σ1 ++ [.lst []]) rfl (by show 2 ≤ szLine; omega)
        rw [ht1, ht2] at el
        by_cases hp : ((c.fdiv 147).fmod 40 == 0) = true
        · refine ⟨t2, _, idx_lst _ 1 [.int t1, .int t2] _ el (ev_prim (vs := [.bool ((c.fdiv 147).fmod 40 == 0)]) rfl ?_) (get_self _ _) (by decide) rfl, Keep.app _ _, by omega⟩
          rw [hp]; rfl
        · refine ⟨t1, _, idx_lst _ 0 [.int t1, .int t2] _ el (ev_prim (vs := [.bool ((c.fdiv 147).fmod 40 == 0)]) rfl ?_) (get_self _ _) (by decide) rfl, Keep.app _ _, by omega⟩
          rw [Bool.eq_false_iff.mpr hp]; rfl
      obtain ⟨t, σ2, e2, k2, ht⟩ := hcnt
      refine W.set e2 ?_
      have hN2 := k2 _ _ (get_self σ1 (.lst []))
      have hK2 : Keep σ1 σ2 := (Keep.app _ _).trans k2
      have hb2 := hK2 _ _ hb
      refine W.loop (fun _ _ _ _ hl ⟨h1, c, h2, h3⟩ => ⟨h1, c, h2.trans hl, h3⟩) (src_rng1 (n := t) rfl (by omega))
        (fun i ρ σ' => ∃ ns : List (Str × Int), ρ = locs [some (.ref r), some (.ref q), none, some (.ref σ.length), none, some (.int c), some (.ref σ1.length)] ∧ Keep σ1 σ' ∧ σ'[σ1.length]? = some (.lst (ns.map needV)) ∧ ns.length = i ∧ i ≤ t ∧ NOk seed ns)
        (a := locs [some (.ref r), some (.ref q), none, some (.ref σ.length), none, some (.int c), some (.ref σ1.length)]) (le_locs ⟨rfl, rfl, rfl, rfl, rfl, trivial⟩) ⟨[], rfl, hK2, hN2, rfl, by omega, fun _ h => nomatch h⟩ (fun _ _ _ _ => watch0 _) ?_ ?_
      · rintro i x _ σ3 hx ⟨ns, rfl, hK3, hN3, hnl, hit, hno⟩
        obtain ⟨hlt, rfl⟩ := rangeL_get hx
        refine ⟨_, rfl, ?_⟩
        refine W.set (evalC_call (vs := [.int (c.fdiv 28), .int ((i : Int) + 1)]) rfl (mix_call hM _ _ (by omega))) ?_
        generalize mixF (c.fdiv 28) ((i : Int) + 1) = sm
        refine W.set (v := .int (1 + (sm.fdiv 60).fmod 12)) (σ₁ := σ3) rfl ?_
        have tail : ∀ (am : Int) (ρ : Loc), AllAt ρ 0 [some (.ref r), some (.ref q), none, some (.ref σ.length), none, some (.int c), some (.ref σ1.length)] → ρ 9 = some (.int sm) → ρ 10 = some (.int am) → W (callL P (d + 1)) (.cons (.expr (.meth .append (.var 6) (.cons (.tuple (.cons (.call iN (.cons (.idx (.var 1) (.cst (.int 0))) (.cons (.bin .Mod (.bin .Mod (.var 9) (.cst (.int 60))) (.idx (.var 1) (.cst (.int 1)))) .nil))) (.cons (.var 10) .nil))) .nil))) .nil) ρ σ3
            (fun fl ρ'' σ'' => fl = .next ∧ ∃ a, Le a ρ'' ∧ ∃ ns : List (Str × Int), a = locs [some (.ref r), some (.ref q), none, some (.ref σ.length), none, some (.int c), some (.ref σ1.length)] ∧ Keep σ1 σ'' ∧ σ''[σ1.length]? = some (.lst (ns.map needV)) ∧ ns.length = i + 1 ∧ i + 1 ≤ t ∧ NOk seed ns) := by
          intro am ρ hA9 g9 g10
          obtain ⟨nm, σ4, e4, k4, hnm⟩ := name1_ev (d := d) (σ := σ3) (ρ := ρ) (i0 := 9) (i1 := 1) (c := sm) hN hm1 hm (hK3 _ _ (hK _ _ hq)) hA9.2.1 g9
          refine W.append σ1.length (ns.map needV) (needV (nm, am)) σ4 (ev_var hA9.2.2.2.2.1) hN3 (ev_tuple (ev_args e4 (ev_args1 (ev_var g10))) (by show 2 ≤ szLine; omega)) (k4 _ _ hN3) (by rw [List.length_map]; omega) ?_
          refine W.nil ⟨rfl, _, le_locs hA9, ns ++ [(nm, am)], rfl, (hK3.trans k4).set (Nat.le_refl _), ?_, by simp [hnl], by omega, fun p hp => ?_⟩
          · rw [set_get (k4 _ _ hN3)]; simp
          · rcases List.mem_append.mp hp with h | h
            · exact hno p h
            · rw [List.mem_singleton.mp h]; exact hnm
        refine W.if_ (p := (sm.fdiv 720).fmod 40 = 0) (ev_eqI rfl rfl) (fun hc => ?_) fun hc => W.nil ?_
        · refine W.set (evalC_call (vs := [.int (sm.fdiv 28800), .int 200]) rfl (amount_call hA _ _ (by decide))) (W.nil ?_)
          exact tail _ _ ⟨rfl, rfl, rfl, rfl, rfl, trivial⟩ rfl rfl
        · exact tail _ _ ⟨rfl, rfl, rfl, rfl, rfl, trivial⟩ rfl rfl
      · rintro _ σ3 ⟨ns, rfl, hK3, hN3, hnl, hit, hno⟩
        rw [rangeL_len] at hnl
        obtain ⟨dy, hdy, hdy'⟩ := fm (a := c) (b := 7) (by decide)
        have hb3 := hK3 _ _ hb
        refine W.append0 σ.length (ds.map Dish.v) (Dish.v ⟨1 + dy, ns⟩) rfl hb3 (ev_tuple (ev_args (v := .int (1 + dy : Nat)) (by show some (V.int (1 + c.fmod 7), σ3) = _; rw [hdy]; rfl) (ev_args1 (ev_prim (vs := [.ref σ1.length]) rfl (tuple_prim hN3 (by rw [List.length_map]; show ns.length ≤ szLine; omega))))) (by show 2 ≤ szLine; omega)) (by rw [List.length_map]; omega) ?_
        refine W.nil ⟨rfl, locs [some (.ref r), some (.ref q), none, some (.ref σ.length)], le_locs ⟨rfl, rfl, rfl, trivial⟩, ds ++ [⟨1 + dy, ns⟩], rfl, (hK.trans hK3).set (Nat.le_refl _), ?_, by simp [hlen], by omega, fun y hy => ?_⟩
        · rw [set_get hb3]; simp
        · rcases List.mem_append.mp hy with h | h
          · exact hok y h
          · rw [List.mem_singleton.mp h]; exact ⟨⟨by show 1 ≤ 1 + dy; omega, by show 1 + dy ≤ 7; omega, by show ns.length ≤ 20; omega⟩, hno⟩
    · rintro _ σ1 ⟨ds, rfl, hK, hb, hlen, hj, hok⟩
      rw [rangeL_len] at hlen
      exact W.retE (ev_prim (vs := [.ref σ.length]) rfl (tuple_prim hb (by rw [List.length_map]; omega))) ⟨_, rfl, ds, rfl, hK, hlen, hok⟩)
  exact ⟨ds, σ', h, h1, h2, h3⟩
end Lar

set_option autoImplicit false
set_option maxRecDepth 100000
namespace Lar
open PySem

section
variable {call : CallF} {rest : CSs} {ρ : Loc} {σ σ₁ : Sto} {Q : Flow → Loc → Sto → Prop}
theorem W.setStr {o i v : CE} (r : Nat) (k : Str) (l : List (Str × V)) (x : V) (hv : evalC call v ρ σ = some (x, σ)) (ho : evalC call o ρ σ = some (.ref r, σ)) (hi : evalC call i ρ σ = some (.str k, σ)) (hr : σ[r]? = some (.ds l)) (hz : l.length ≤ szLine)
    (c : W call rest ρ (σ.set r (.ds (dput l k x))) Q) : W call (.cons (.setItem o i v) rest) ρ σ Q :=
  W.step (by
    have hs : setop (.ref r) (.str k) x σ = some (σ.set r (.ds (dput l k x))) := by
      show (σ[r]?).bind (setM σ r (.str k) x) = _
      rw [hr]
      exact if_pos hz
    show bnd (evalC call v ρ σ) (fun x σ₁ => bnd (evalC call o ρ σ₁) fun y σ₂ => bnd (evalC call i ρ σ₂) fun z σ₃ => (setop y z x σ₃).bind fun σ₄ => some (Flow.next, ρ, σ₄)) = _
    rw [hv]
    show bnd (evalC call o ρ σ) (fun y σ₂ => bnd (evalC call i ρ σ₂) fun z σ₃ => (setop y z x σ₃).bind fun σ₄ => some (Flow.next, ρ, σ₄)) = _
    rw [ho]
    show bnd (evalC call i ρ σ) (fun z σ₃ => (setop (.ref r) z x σ₃).bind fun σ₄ => some (Flow.next, ρ, σ₄)) = _
    rw [hi]
    show (setop (.ref r) (.str k) x σ).bind (fun σ₄ => some (Flow.next, ρ, σ₄)) = _
    rw [hs]; rfl) c
end
/-- the names, each once -/
noncomputable def thF (l : List Str) : List (Str × V) := l.foldl (fun acc n => dput acc n (.bool true)) []
theorem thF_snoc (l : List Str) (n : Str) : thF (l ++ [n]) = dput (thF l) n (.bool true) := by
  unfold thF
  rw [List.foldl_append]; rfl
theorem dput_keys {v : V} {k : Str} : ∀ (l : List (Str × V)), (l.map (·.1)).Nodup → ((dput l k v).map (·.1)).Nodup ∧ ∀ x ∈ (dput l k v).map (·.1), x = k ∨ x ∈ l.map (·.1)
  | [], _ => by
    show ([k] : List Str).Nodup ∧ ∀ x ∈ ([k] : List Str), _
    exact ⟨List.nodup_cons.mpr ⟨(fun h => nomatch h), List.nodup_nil⟩, fun x hx => .inl (List.mem_singleton.mp hx)⟩
  | (a, b) :: r, h => by
    obtain ⟨h1, h2⟩ := List.nodup_cons.mp (show (a :: r.map (·.1)).Nodup from h)
    obtain ⟨h3, h4⟩ := dput_keys r h2
    show ((if a = k then (a, v) :: r else (a, b) :: dput r k v).map (·.1)).Nodup ∧ ∀ x ∈ (if a = k then (a, v) :: r else (a, b) :: dput r k v).map (·.1), _
    by_cases hk : a = k
    · rw [if_pos hk]
      exact ⟨h, fun x hx => .inr hx⟩
    · rw [if_neg hk]
      refine ⟨List.nodup_cons.mpr ⟨fun hm => ?_, h3⟩, fun x hx => ?_⟩
      · rcases h4 a hm with e | e
        · exact hk e
        · exact h1 e
      · rcases List.mem_cons.mp hx with e | e
        · exact .inr (List.mem_cons.mpr (.inl e))
        · rcases h4 x e with e | e
          · exact .inl e
          · exact .inr (List.mem_cons_of_mem _ e)
theorem thF_keys : ∀ (l acc : List Str), ((thF acc).map (·.1)).Nodup ∧ (∀ x ∈ (thF acc).map (·.1), x ∈ acc) → ((thF (acc ++ l)).map (·.1)).Nodup ∧ ∀ x ∈ (thF (acc ++ l)).map (·.1), x ∈ acc ++ l
  | [], acc, h => by rw [List.append_nil]; exact h
  | n :: l, acc, h => by
    have := thF_keys l (acc ++ [n]) (by
      obtain ⟨h1, h2⟩ := dput_keys (v := .bool true) (k := n) (thF acc) h.1
      rw [thF_snoc]
      refine ⟨h1, fun x hx => ?_⟩
      rcases h2 x hx with e | e
      · rw [e]; exact List.mem_append_right _ List.mem_cons_self
      · exact List.mem_append_left _ (h.2 x e))
    rwa [List.append_assoc] at this
theorem nodup_le {α : Type} [DecidableEq α] : ∀ (l m : List α), l.Nodup → (∀ x ∈ l, x ∈ m) → l.length ≤ m.length
  | [], _, _, _ => Nat.zero_le _
  | x :: l, m, h, hm => by
    obtain ⟨h1, h2⟩ := List.nodup_cons.mp h
    have hx := hm x List.mem_cons_self
    have ih := nodup_le l (m.erase x) h2 fun y hy => (List.mem_erase_of_ne (a := y) (b := x) (fun e => h1 (by rw [← e]; exact hy))).mpr (hm y (List.mem_cons_of_mem _ hy))
    have hpos := List.length_pos_of_mem hx
    rw [List.length_erase_of_mem hx] at ih
    rw [List.length_cons]
    omega
noncomputable def NL (seed : Int) (l : List Str) : Prop := ∀ n ∈ l, ∃ k, k < 12 ∧ n = nameF seed k
theorem thF_small {seed : Int} {l : List Str} (h : NL seed l) : (thF l).length ≤ 12 := by
  obtain ⟨h1, h2⟩ := thF_keys l [] ⟨List.nodup_nil, fun x hx => nomatch hx⟩
  rw [List.nil_append] at h1 h2
  have := nodup_le _ ((List.range 12).map (nameF seed)) h1 fun x hx => by
    obtain ⟨k, hk, e⟩ := h x (h2 x hx)
    exact List.mem_map.mpr ⟨k, List.mem_range.mpr hk, e.symm⟩
  rwa [List.length_map, List.length_map, List.length_range] at this
noncomputable def allN (ds : List Dish) : List Str := ds.flatMap fun x => x.ns.map (·.1)
theorem allN_snoc (l : List Dish) (x : Dish) : allN (l ++ [x]) = allN l ++ x.ns.map (·.1) := by
  unfold allN
  rw [List.flatMap_append]; simp
theorem allN_ok {seed : Int} {ds : List Dish} (h : ∀ x ∈ ds, x.okN seed) : NL seed (allN ds) := fun n hn => by
  obtain ⟨x, hx, hp⟩ := List.mem_flatMap.mp hn
  obtain ⟨p, hp', rfl⟩ := List.mem_map.mp hp
  exact (h x hx).2 p hp'
theorem sortS_len (l : List Str) : (sortS l).length = l.length := by
  unfold sortS
  by_cases h : ∃ m : List Str, m.Perm l ∧ Rising m
  · rw [dif_pos h]; exact (Classical.choose_spec h).1.length_eq
  · rw [dif_neg h]
noncomputable def thS (ds : List Dish) : List V := (sortS ((thF (allN ds)).map (·.1))).map .str
theorem sorted_prim {σ : Sto} {r : Nat} {l : List (Str × V)} (hr : σ[r]? = some (.ds l)) (hz : l.length ≤ 12) : primop .sorted [.ref r] σ = some (.ref σ.length, σ ++ [.lst ((sortS (l.map (·.1))).map .str)]) := by
  show (Option.bind (Option.bind σ[r]? asDs) fun l => if l.length < 64 then new σ ((sortS (l.map (·.1))).map .str) else none) = _
  rw [hr]
  show (if l.length < 64 then new σ ((sortS (l.map (·.1))).map .str) else none) = _
  rw [if_pos (by omega)]
  exact if_pos (by rw [List.length_map, sortS_len, List.length_map]; unfold szLine; omega)
/-- the two loops that gather the names -/
theorem gather_W {call : CallF} {rest : CSs} {σ : Sto} {Q : Flow → Loc → Sto → Prop} {ρ : Loc} {t : Tgt} {kx : CE} {seed : Int} {r : Nat} {ds : List Dish} (hQ : Up Q) (hds : ∀ x ∈ ds, x.okN seed) (g0 : ρ 0 = some (.tup (ds.map Dish.v))) (g1 : ρ 1 = some (.ref r)) (hr : σ[r]? = some (.ds []))
    (ht : ∀ (p : Str × Int) (ρ : Loc), ρ 1 = some (.ref r) → ∃ ρ', t.put (needV p) ρ = some ρ' ∧ ρ' 1 = some (.ref r) ∧ ∀ σ, evalC call kx ρ' σ = some (.str p.1, σ))
    (k : ∀ σ', (∀ i m, i ≠ r → σ[i]? = some m → σ'[i]? = some m) → σ'[r]? = some (.ds (thF (allN ds))) → W call rest (locs [none, some (.ref r)]) σ' Q) :
    W call (.cons (.for_ (.one 2) (.ex (.var 0)) (.cons (.for_ t (.ex (.idx (.var 2) (.cst (.int 1)))) (.cons (.setItem (.var 1) kx (.cst (.bool true))) .nil)) .nil)) rest) ρ σ Q := by
  have hsz : szLine = 16777216 := rfl
  have hall := allN_ok hds
  refine W.loop hQ (src_tup (l := ds.map Dish.v) (ev_var g0))
    (fun j ρ σ' => ρ = locs [none, some (.ref r)] ∧ (∀ i m, i ≠ r → σ[i]? = some m → σ'[i]? = some m) ∧ σ'[r]? = some (.ds (thF (allN (ds.take j)))))
    (a := locs [none, some (.ref r)]) (le_locs ⟨g1, trivial⟩) ⟨rfl, fun _ _ _ h => h, by rw [List.take_zero]; exact hr⟩ (fun _ _ _ _ => watch0 _) ?_ ?_
  · rintro j x _ σ1 hx0 ⟨rfl, hK, hD⟩
    obtain ⟨x, hx, rfl⟩ := map_at hx0
    refine ⟨_, rfl, ?_⟩
    have hnl : NL seed (allN (ds.take j) ++ x.ns.map (·.1)) := by
      rw [← allN_snoc, ← take_snoc hx]
      exact allN_ok fun y hy => hds y (List.mem_of_mem_take hy)
    refine W.loop (fun _ _ _ _ hl ⟨h1, c, h2, h3⟩ => ⟨h1, c, h2.trans hl, h3⟩) (src_tup (l := x.ns.map needV) (idx_tup 1 _ _ (ev_var (v := x.v) rfl) rfl (by decide) rfl))
      (fun i ρ σ' => ρ = locs [none, some (.ref r)] ∧ (∀ i m, i ≠ r → σ[i]? = some m → σ'[i]? = some m) ∧ σ'[r]? = some (.ds (thF (allN (ds.take j) ++ (x.ns.take i).map (·.1)))))
      (a := locs [none, some (.ref r)]) (le_locs ⟨rfl, trivial⟩) ⟨rfl, hK, by rw [List.take_zero, List.map_nil, List.append_nil]; exact hD⟩ (fun _ _ _ _ => watch0 _) ?_ ?_
    · rintro i y _ σ2 hy ⟨rfl, hK2, hD2⟩
      obtain ⟨p, hp, rfl⟩ := map_at hy
      obtain ⟨ρ', hput, g1', hkx⟩ := ht p (locs [none, some (.ref r)]) rfl
      refine ⟨ρ', hput, ?_⟩
      have hsub : NL seed (allN (ds.take j) ++ (x.ns.take i).map (·.1)) := fun n hn => by
        rcases List.mem_append.mp hn with h | h
        · exact hnl n (List.mem_append_left _ h)
        · obtain ⟨p, hp, rfl⟩ := List.mem_map.mp h
          exact hnl _ (List.mem_append_right _ (List.mem_map.mpr ⟨p, List.mem_of_mem_take hp, rfl⟩))
      have hsm := thF_small hsub
      refine W.setStr r p.1 _ (.bool true) rfl (ev_var g1') (hkx _) hD2 (by omega) ?_
      refine W.nil ⟨rfl, locs [none, some (.ref r)], le_locs ⟨g1', trivial⟩, rfl, fun i m hi e => ?_, ?_⟩
      · rw [List.getElem?_set_ne (Ne.symm hi)]; exact hK2 i m hi e
      · rw [set_get hD2, take_snoc hp, List.map_append, ← List.append_assoc, ← thF_snoc]; rfl
    · rintro _ σ2 ⟨rfl, hK2, hD2⟩
      rw [List.length_map, List.take_length] at hD2
      exact W.nil ⟨rfl, locs [none, some (.ref r)], le_locs ⟨rfl, trivial⟩, rfl, hK2, by rw [hD2, take_snoc hx, allN_snoc]⟩
  · rintro _ σ1 ⟨rfl, hK, hD⟩
    rw [List.length_map, List.take_length] at hD
    exact k σ1 hK hD

theorem keep_of {σ σ' : Sto} {m : MObj} (h : ∀ i m', i ≠ σ.length → (σ ++ [m])[i]? = some m' → σ'[i]? = some m') : Keep σ σ' := fun i o e => h i o (Nat.ne_of_lt (List.getElem?_eq_some_iff.mp e).1) (Keep.app _ _ _ _ e)
theorem things_of_call {P : List CFun} {k d : Nat} {σ : Sto} {seed : Int} (hk : P[k]? = some f01_things_of) (ds : List Dish) (hds : ∀ x ∈ ds, x.okN seed) : ∃ σ', callL P (d + 1) k [.tup (ds.map Dish.v)] σ = some (.ok (.tup (thS ds)), σ') ∧ Keep σ σ' := by
  have hsm := thF_small (allN_ok hds)
  obtain ⟨v, σ', h, rfl, h1⟩ := call_W (R := fun v σ' => v = .tup (thS ds) ∧ Keep σ σ') (σ := σ) (d := d) hk (as := [.tup (ds.map Dish.v)]) rfl (by
    refine W.set (v := .ref σ.length) (σ₁ := σ ++ [.ds []]) rfl ?_
    refine gather_W (r := σ.length) up_ret hds rfl rfl (get_self _ _) (fun p ρ hρ => ⟨_, rfl, hρ, fun _ => rfl⟩) fun σ1 hK hD => ?_
    have hz : ((sortS ((thF (allN ds)).map (·.1))).map V.str).length ≤ szLine := by rw [List.length_map, sortS_len, List.length_map]; unfold szLine; omega
    exact W.retE (ev_prim (ev_args1 (ev_prim (ev_args1 (ev_var rfl)) (sorted_prim hD hsm))) (tuple_prim (get_self _ _) hz)) ⟨_, rfl, rfl, (keep_of hK).trans (Keep.app _ _)⟩)
  exact ⟨σ', h, h1⟩
theorem things_call {P : List CFun} {k d : Nat} {σ : Sto} {seed : Int} (hk : P[k]? = some f01__law_things) (ds : List Dish) (hds : ∀ x ∈ ds, x.okN seed) : ∃ r σ', callL P (d + 1) k [.tup (ds.map Dish.v)] σ = some (.ok (.ref r), σ') ∧ Keep σ σ' ∧ σ'[r]? = some (.lst (thS ds)) := by
  have hsm := thF_small (allN_ok hds)
  obtain ⟨v, σ', h, r, rfl, h1⟩ := call_W (R := fun v σ' => ∃ r, v = .ref r ∧ Keep σ σ' ∧ σ'[r]? = some (.lst (thS ds))) (σ := σ) (d := d) hk (as := [.tup (ds.map Dish.v)]) rfl (by
    refine W.set (v := .ref σ.length) (σ₁ := σ ++ [.ds []]) rfl ?_
    refine gather_W (r := σ.length) up_ret hds rfl rfl (get_self _ _) (fun p ρ hρ => ⟨_, rfl, hρ, fun _ => idx_tup 0 _ _ (ev_var (v := needV p) rfl) rfl (by decide) rfl⟩) fun σ1 hK hD => ?_
    exact W.retE (ev_prim (ev_args1 (ev_var rfl)) (sorted_prim hD hsm)) ⟨_, rfl, _, rfl, (keep_of hK).trans (Keep.app _ _), get_self _ _⟩)
  exact ⟨r, σ', h, h1⟩
end Lar

set_option autoImplicit false
set_option maxRecDepth 100000
namespace Lar
open PySem

theorem ul_is {ul : List Int} {f : Nat → Int} (hlen : ul.length = 7) (hI : ∀ t, t < 7 → (ul[t]?).getD 0 = f t) : ul = (List.range 7).map f := by
  apply List.ext_getElem?
  intro t
  rcases Nat.lt_or_ge t 7 with ht | ht
  · have := hI t ht
    rw [List.getElem?_map, List.getElem?_range ht]
    rw [List.getElem?_eq_getElem (by omega)] at this ⊢
    exact congrArg some this
  · rw [List.getElem?_eq_none (by omega), List.getElem?_eq_none (by simp; omega)]
noncomputable def dueB : CSs := .cons (.for_ (.one 8) (.ex (.idx (.var 7) (.cst (.int 1)))) (.cons (.ite (.cmp .Eq (.idx (.var 8) (.cst (.int 0))) (.var 5)) (.cons (.setItem (.var 6) (.bin .Sub (.idx (.var 7) (.cst (.int 0))) (.cst (.int 1))) (.bin .Add (.idx (.var 6) (.bin .Sub (.idx (.var 7) (.cst (.int 0))) (.cst (.int 1)))) (.idx (.var 8) (.cst (.int 1)))))
  .nil) .nil)
  .nil))
  .nil
/-- what the law itself counts of a name, day by day -/
theorem due_W {call : CallF} {rest : CSs} {σ : Sto} {Q : Flow → Loc → Sto → Prop} {ρ : Loc} {q : Nat} {ds : List Dish} {nm : Str} (hQ : Up Q) (hok : ∀ x ∈ ds, x.ok) (g2 : ρ 2 = some (.ref q)) (g3 : ρ 3 = some (.tup (ds.map Dish.v))) (g5 : ρ 5 = some (.str nm))
    (k : ∀ σ' r, Keep σ σ' → σ'[r]? = some (.lst (((List.range 7).map (needF ds nm)).map .int)) → W call rest (locs [none, none, some (.ref q), some (.tup (ds.map Dish.v)), none, some (.str nm), some (.ref r)]) σ' Q) :
    W call (.cons (.assign (.one 6) (.bin .Mult (.list (.cons (.cst (.int 0)) .nil)) (.cst (.int 7)))) (.cons (.for_ (.one 7) (.ex (.var 3)) dueB) rest)) ρ σ Q := by
  have hsz : szLine = 16777216 := rfl
  refine W.set (v := .ref (σ.length + 1)) (σ₁ := σ ++ [.lst [.int 0]] ++ [.lst (([0, 0, 0, 0, 0, 0, 0] : List Int).map .int)]) ?_ ?_
  · refine ev_bin (ev_list (vs := [.int 0]) rfl (by decide)) rfl ?_
    show ((lst (σ ++ [.lst [.int 0]]) σ.length).bind fun x => if (0 : Int) ≤ 7 ∧ (7 : Int) ≤ 100000 ∧ x.length ≤ 100 then new (σ ++ [.lst [.int 0]]) (rep x (7 : Int).toNat) else none) = _
    rw [lst_eq (get_self _ _), Option.bind_some, if_pos (by decide)]
    unfold new
    rw [if_pos (by decide)]
    simp [rep]
  have hU0 : (σ ++ [.lst [.int 0]] ++ [.lst (([0, 0, 0, 0, 0, 0, 0] : List Int).map .int)])[σ.length + 1]? = some (.lst (([0, 0, 0, 0, 0, 0, 0] : List Int).map .int)) := by
    have := get_self (σ ++ [.lst [.int 0]]) (.lst (([0, 0, 0, 0, 0, 0, 0] : List Int).map .int))
    rwa [List.length_append] at this
  have K0 : Keep σ (σ ++ [.lst [.int 0]] ++ [.lst (([0, 0, 0, 0, 0, 0, 0] : List Int).map .int)]) := (Keep.app _ _).trans (Keep.app _ _)
  have hI0 : ∀ t, t < 7 → (([0, 0, 0, 0, 0, 0, 0] : List Int)[t]?).getD 0 = needF (ds.take 0) nm t := by
    intro t ht
    match t, ht with
    | 0, _ => rfl
    | 1, _ => rfl
    | 2, _ => rfl
    | 3, _ => rfl
    | 4, _ => rfl
    | 5, _ => rfl
    | 6, _ => rfl
  generalize σ ++ [.lst [.int 0]] ++ [.lst (([0, 0, 0, 0, 0, 0, 0] : List Int).map .int)] = σ0 at hU0 K0
  refine W.loop hQ (src_tup (l := ds.map Dish.v) (ev_var g3))
    (fun j ρ σ' => ∃ ul : List Int, ρ = locs [none, none, some (.ref q), some (.tup (ds.map Dish.v)), none, some (.str nm), some (.ref (σ.length + 1))] ∧ Keep σ σ' ∧ σ'[σ.length + 1]? = some (.lst (ul.map .int)) ∧ ul.length = 7 ∧ ∀ t, t < 7 → (ul[t]?).getD 0 = needF (ds.take j) nm t)
    (a := locs [none, none, some (.ref q), some (.tup (ds.map Dish.v)), none, some (.str nm), some (.ref (σ.length + 1))]) (le_locs ⟨g2, g3, g5, rfl, trivial⟩) ⟨_, rfl, K0, hU0, rfl, hI0⟩ (fun _ _ _ _ => watch0 _) ?_ ?_
  · rintro j x _ σ1 hx0 ⟨ul, rfl, hK, hU, hlen, hI⟩
    obtain ⟨x, hx, rfl⟩ := map_at hx0
    have hxo := hok x (List.mem_of_getElem? hx)
    refine ⟨_, rfl, ?_⟩
    refine W.loop (fun _ _ _ _ hl ⟨h1, c, h2, h3⟩ => ⟨h1, c, h2.trans hl, h3⟩) (src_tup (l := x.ns.map needV) (idx_tup 1 _ _ (ev_var (v := x.v) rfl) rfl (by decide) rfl))
      (fun i ρ σ' => ∃ ul : List Int, ρ = locs [none, none, some (.ref q), some (.tup (ds.map Dish.v)), none, some (.str nm), some (.ref (σ.length + 1)), some x.v] ∧ Keep σ σ' ∧ σ'[σ.length + 1]? = some (.lst (ul.map .int)) ∧ ul.length = 7 ∧ ∀ t, t < 7 → (ul[t]?).getD 0 = needF (ds.take j) nm t + if x.d = t + 1 then amtF (x.ns.take i) nm else 0)
      (a := locs [none, none, some (.ref q), some (.tup (ds.map Dish.v)), none, some (.str nm), some (.ref (σ.length + 1)), some x.v]) (le_locs ⟨rfl, rfl, rfl, rfl, rfl, trivial⟩) ⟨ul, rfl, hK, hU, hlen, fun t ht => by rw [hI t ht]; show _ = _ + if x.d = t + 1 then 0 else 0; split <;> omega⟩ (fun _ _ _ _ => watch0 _) ?_ ?_
    · rintro i y _ σ2 hy ⟨ul, rfl, hK, hU, hlen, hI⟩
      obtain ⟨⟨p, a⟩, hp, rfl⟩ := map_at hy
      refine ⟨_, rfl, ?_⟩
      have hd : 0 ≤ (x.d : Int) - 1 := by have := hxo.1; omega
      have hdt : ((x.d : Int) - 1).toNat = x.d - 1 := by omega
      have hd7 : x.d - 1 < ul.length := by have := hxo.1; have := hxo.2.1; omega
      have ed : ∀ {σ : Sto} {ρ : Loc}, ρ 7 = some x.v → evalC call (.bin .Sub (.idx (.var 7) (.cst (.int 0))) (.cst (.int 1))) ρ σ = some (.int ((x.d : Int) - 1), σ) := fun h => ev_bin (idx_tup 0 _ _ (ev_var h) rfl (by decide) rfl) rfl rfl
      refine W.ifB (b := p == nm) (ev_cmp (idx_tup 0 _ _ (ev_var (v := needV (p, a)) rfl) rfl (by decide) rfl) rfl rfl) (fun hc => ?_) fun hc => W.nil (W.nil ⟨rfl, locs [none, none, some (.ref q), some (.tup (ds.map Dish.v)), none, some (.str nm), some (.ref (σ.length + 1)), some x.v], le_locs ⟨rfl, rfl, rfl, rfl, rfl, trivial⟩, ul, rfl, hK, hU, hlen, fun t ht => ?_⟩)
      · have hx0 : (ul.map V.int)[((x.d : Int) - 1).toNat]? = some (.int ((ul[x.d - 1]?).getD 0)) := by rw [hdt, List.getElem?_map, List.getElem?_eq_getElem hd7]; rfl
        refine W.setItem (σ.length + 1) ((x.d : Int) - 1) (ul.map .int) (.int ((ul[x.d - 1]?).getD 0 + a)) σ2 (ev_bin (idx_lst (σ.length + 1) ((x.d : Int) - 1) _ _ rfl (ed rfl) hU hd hx0) (idx_tup 1 _ _ (ev_var (v := needV (p, a)) rfl) rfl (by decide) rfl) rfl) rfl (ed rfl) hU hd (by rw [List.length_map, hdt]; exact hd7) ?_
        rw [hdt, ← List.map_set]
        refine W.nil (W.nil ⟨rfl, locs [none, none, some (.ref q), some (.tup (ds.map Dish.v)), none, some (.str nm), some (.ref (σ.length + 1)), some x.v], le_locs ⟨rfl, rfl, rfl, rfl, rfl, trivial⟩, ul.set (x.d - 1) ((ul[x.d - 1]?).getD 0 + a), rfl, hK.set (by omega), set_get hU, by rw [List.length_set]; exact hlen, fun t ht => ?_⟩)
        rw [take_snoc hp, amtF_snoc, if_pos hc, set_at hd7]
        have h1 := hxo.1
        by_cases hxt : x.d = t + 1
        · have : x.d - 1 = t := by omega
          rw [if_pos this, if_pos hxt, this, hI t ht, if_pos hxt]; omega
        · rw [if_neg (by omega), if_neg hxt, hI t ht, if_neg hxt]
      · have hne : ¬ (p == nm) = true := by rw [hc]; exact Bool.false_ne_true
        rw [hI t ht, take_snoc hp, amtF_snoc, if_neg hne, Int.add_zero]
    · rintro _ σ2 ⟨ul, rfl, hK, hU, hlen, hI⟩
      refine W.nil ⟨rfl, locs [none, none, some (.ref q), some (.tup (ds.map Dish.v)), none, some (.str nm), some (.ref (σ.length + 1))], le_locs ⟨rfl, rfl, rfl, rfl, trivial⟩, ul, rfl, hK, hU, hlen, fun t ht => ?_⟩
      rw [hI t ht, take_snoc hx, needF_snoc, List.length_map, List.take_length]
  · rintro _ σ1 ⟨ul, rfl, hK, hU, hlen, hI⟩
    rw [List.length_map, List.take_length] at hI
    rw [ul_is hlen hI] at hU
    exact k σ1 _ hK hU

theorem rangeL_from {t : Nat} (h : t < 7) : rangeL t 7 1 = (List.range (7 - t)).map fun i : Nat => V.int ((t : Int) + i) := by
  match t, h with
  | 0, _ => rfl
  | 1, _ => rfl
  | 2, _ => rfl
  | 3, _ => rfl
  | 4, _ => rfl
  | 5, _ => rfl
  | 6, _ => rfl
theorem drop_from (f : Nat → Int) {t : Nat} (h : t < 7) : ((List.range 7).map f).drop t = (List.range (7 - t)).map fun i => f (t + i) := by
  match t, h with
  | 0, _ => simp
  | 1, _ => rfl
  | 2, _ => rfl
  | 3, _ => rfl
  | 4, _ => rfl
  | 5, _ => rfl
  | 6, _ => rfl
/-- the sums from a day on -/
theorem sums_ev {P : List CFun} {d : Nat} {ρ : Loc} {σ : Sto} {f : Nat → Int} {r : Nat} (g6 : ρ 6 = some (.ref r)) (hr : σ[r]? = some (.lst (((List.range 7).map f).map .int))) :
    ∃ D σ', evalC (callL P d) (.comp (.prim .sum (.cons (.comp (.idx (.var 6) (.var 12)) (.one 12) (.rng2 (.var 10) (.cst (.int 7))) .nil) .nil)) (.one 10) (.rng1 (.cst (.int 7))) .nil) ρ σ = some (.ref D, σ') ∧ Keep σ σ' ∧ σ'[D]? = some (.lst (((List.range 7).map fun j => sumI (((List.range 7).map f).drop j)).map .int)) := by
  have hsz : szLine = 16777216 := rfl
  have hs : srcC (callL P d) (.rng1 (.cst (.int 7))) ρ σ = some ((List.range 7).map fun j : Nat => V.int j, [], σ) := by
    rw [← rangeL_map]; exact src_rng1 (n := 7) rfl (by decide)
  obtain ⟨σ1, e, k1⟩ := comp_inv (elt := evalC (callL P d) (.prim .sum (.cons (.comp (.idx (.var 6) (.var 12)) (.one 12) (.rng2 (.var 10) (.cst (.int 7))) .nil) .nil))) (cond := testCs (callL P d) .nil) (t := .one 10) (w := []) (ρ := ρ) (g := fun j : Nat => V.int j) (f := fun j => V.int (sumI (((List.range 7).map f).drop j))) (Inv := fun σ' => Keep σ σ') (fun _ _ => watch0 _) (fun _ _ => rfl) (xs := List.range 7) (σ := σ) (Keep.refl _) fun t ht σ1 hK => by
    have ht7 : t < 7 := List.mem_range.mp ht
    refine ⟨_, rfl, ?_⟩
    have hs2 : srcC (callL P d) (.rng2 (.var 10) (.cst (.int 7))) (upd ρ 10 (.int t)) σ1 = some ((List.range (7 - t)).map (fun i : Nat => V.int ((t : Int) + i)), [], σ1) := by
      rw [← rangeL_from ht7]
      exact src_rng2 (ev_var rfl) rfl (by simp [smallI]; omega)
    have e := sum_comp (elt := .idx (.var 6) (.var 12)) (t := .one 12) (ifs := .nil) (p := fun _ => true) (f := fun i : Nat => f (t + i)) (xs := List.range (7 - t)) hs2 (watch0 _) (by rw [List.length_range]; omega) fun i hi => by
      have hi7 : t + i < 7 := by have := List.mem_range.mp hi; omega
      refine ⟨_, rfl, rfl, fun _ => idx_lst r ((t : Int) + i) _ _ (ev_var (by exact g6)) (ev_var rfl) (hK _ _ hr) (by omega) ?_⟩
      rw [show ((t : Int) + (i : Int)).toNat = t + i by omega, List.getElem?_map, List.getElem?_map, List.getElem?_range hi7]; rfl
    rw [filter_all] at e
    exact ⟨_, by rw [drop_from f ht7]; exact e, hK.trans (Keep.app _ _)⟩
  rw [show (List.range 7).map (fun j => V.int (sumI (((List.range 7).map f).drop j))) = ((List.range 7).map fun j => sumI (((List.range 7).map f).drop j)).map .int from by rw [List.map_map]; rfl] at e
  have hz : (((List.range 7).map fun j => sumI (((List.range 7).map f).drop j)).map V.int).length ≤ szLine := by rw [List.length_map, List.length_map, List.length_range]; omega
  exact ⟨_, _, ev_comp hs e hz, k1.trans (Keep.app _ _), get_self _ _⟩

theorem eqAllS : ∀ (l : List Str), eqAll (eqN 5) (l.map .str) (l.map .str) = some true
  | [] => rfl
  | x :: l => by
    show (some (x == x)).bind (fun a => (eqAll (eqN 5) (l.map .str) (l.map .str)).bind fun b => some (a && b)) = _
    rw [eqAllS l, beq_self_eq_true]; rfl
theorem strs_ne {l : List Str} {σ : Sto} : cmpop .NotEq (.tup (l.map .str)) (.tup (l.map .str)) σ = some false := by
  show (eqAll (eqN 5) (l.map .str) (l.map .str)).bind _ = _
  rw [eqAllS]; rfl

theorem law01 (ns : List Int) (hn : ns.length ≤ 63) : ∃ σ', callL P01 20 19 [.ro ns] [] = some (.ok (.bool true), σ') := by
  have hsz : szLine = 16777216 := rfl
  have p0 : P01[0]? = some f01_things_of := rfl
  have p1 : P01[1]? = some f02_needed := rfl
  have p2 : P01[2]? = some f02_from_day := rfl
  have p3 : P01[3]? = some f03__law_mixed := rfl
  have p4 : P01[4]? = some f03__law_cell_at := rfl
  have p5 : P01[5]? = some f03__law_mix := rfl
  have p6 : P01[6]? = some f03__law_whole := rfl
  have p7 : P01[7]? = some (fNumbers 6) := rfl
  have p8 : P01[8]? = some f09__law_name_by := rfl
  have p9 : P01[9]? = some f03__law_amount := rfl
  have p11 : P01[11]? = some (fDishes 5 4 9 8) := rfl
  have p14 : P01[14]? = some (fNames 4) := rfl
  have p15 : P01[15]? = some f09__law_many := rfl
  have p18 : P01[18]? = some f01__law_things := rfl
  have p19 : P01[19]? = some f01_law := rfl
  obtain ⟨v, σ', h, rfl⟩ := call_W (R := fun v σ' => v = .bool true) (σ := []) (d := 19) p19 (as := [.ro ns]) rfl (by
    unfold f01_law
    generalize hcs : mixedF 1 ns = cs
    have e1 := mixed_call (d := 18) (σ := []) p3 ns hn
    rw [hcs] at e1
    refine W.set (v := .ref 0) (σ₁ := [.lst (cs.map .int)]) (evalC_call (vs := [.ro ns]) rfl e1) ?_
    have h0 : ([.lst (cs.map .int)] : Sto)[0]? = some (.lst (cs.map .int)) := rfl
    generalize ([.lst (cs.map .int)] : Sto) = σ0 at h0
    obtain ⟨q, seed, m, σ1, e2, hq, k1, hm1, hm⟩ := names_call (d := 17) p14 p4 h0
    refine W.set (evalC_call (vs := [.ref 0]) rfl e2) ?_
    have h1 := k1 _ _ h0
    have ec := cell_call' (d := 18) p4 h1 2 (by omega) (z := 2) rfl
    obtain ⟨n1, e3, hn1⟩ := many_call (d := 18) (σ := σ1) p15 (cellF cs 2) 5 60 (by decide)
    obtain ⟨ds, σ2, e4, k2, hdl, hdok⟩ := dishes1_call (d := 17) p11 p5 p4 p9 p8 h1 hq hm1 hm n1 (by omega)
    refine W.set (evalC_call (vs := [.ref 0, .ref q, .int n1]) (ev_args rfl (ev_args rfl (ev_args1 (evalC_call (vs := [.int (cellF cs 2), .int 5, .int 60]) (ev_args (evalC_call (vs := [.ref 0, .int 2]) rfl ec) rfl) e3)))) e4) ?_
    have hq2 := k2 _ _ hq
    have hdo : ∀ x ∈ ds, x.ok := fun x hx => (hdok x hx).1
    obtain ⟨σ3, e5, k3⟩ := things_of_call (d := 18) (σ := σ2) p0 ds hdok
    obtain ⟨rt, σ4, e6, k4, hrt⟩ := things_call (d := 18) (σ := σ3) p18 ds hdok
    have hthl : (thS ds).length ≤ szLine := by
      unfold thS
      rw [List.length_map, sortS_len, List.length_map]
      have := thF_small (allN_ok hdok)
      omega
    refine W.iteF σ4 (testC_of (ev_or (σ₁ := σ2) rfl (ev_or (σ₁ := σ2) rfl (ev_cmp (x := .tup (thS ds)) (evalC_call (vs := [.tup (ds.map Dish.v)]) rfl e5) (ev_prim (ev_args1 (evalC_call (vs := [.tup (ds.map Dish.v)]) rfl e6)) (tuple_prim hrt hthl)) strs_ne)))) (W.nil ?_)
    have hq4 := k4 _ _ (k3 _ _ hq2)
    refine W.loop up_ret (src_rng1 (n := m + 1) (ev_bin (idx_lst q 1 _ _ rfl rfl hq4 (by decide) rfl) rfl rfl) (by omega))
      (fun j ρ σ' => ρ = locs [none, none, some (.ref q), some (.tup (ds.map Dish.v))] ∧ Keep σ4 σ')
      (a := locs [none, none, some (.ref q), some (.tup (ds.map Dish.v))]) (le_locs ⟨rfl, rfl, trivial⟩) ⟨rfl, Keep.refl _⟩ (fun _ _ _ _ => watch0 _) ?_ ?_
    · rintro j x _ σ5 hx ⟨rfl, hK⟩
      obtain ⟨hlt, rfl⟩ := rangeL_get hx
      refine ⟨_, rfl, ?_⟩
      obtain ⟨σ6, e7, k6⟩ := name1_call (d := 18) (σ := σ5) p8 seed j (by omega)
      refine W.set (evalC_call (vs := [.int seed, .int j]) (ev_args (idx_lst q 0 _ _ rfl rfl (hK _ _ hq4) (by decide) rfl) (ev_args1 rfl)) e7) ?_
      generalize nameF seed j = nm
      refine due_W (q := q) (ds := ds) (nm := nm) (fun _ _ _ _ hl ⟨h1, c, h2, h3⟩ => ⟨h1, c, h2.trans hl, h3⟩) hdo rfl rfl rfl fun σ7 U k7 hU => ?_
      obtain ⟨σ8, e8, k8⟩ := needed_call (d := 18) (σ := σ7) p1 ds nm hdo
      refine W.set (evalC_call (vs := [.tup (ds.map Dish.v), .str nm]) rfl e8) ?_
      have hU8 := k8 _ _ hU
      have e9 := numbers_call (d := 17) (σ := σ8) p7 p6 ((List.range 7).map (needF ds nm)) (by simp) hU8
      refine W.iteF σ8 (testC_of (ev_not (b := true) (evalC_call (vs := [.tup (((List.range 7).map (needF ds nm)).map .int), .ref U]) rfl e9))) (W.nil ?_)
      obtain ⟨σ9, e10, k9⟩ := from_day_call (d := 18) (σ := σ8) p2 ((List.range 7).map (needF ds nm)) (by simp)
      obtain ⟨D, σ10, e11, k10, hD⟩ := sums_ev (P := P01) (d := 19) (ρ := upd (locs [none, none, some (.ref q), some (.tup (ds.map Dish.v)), none, some (.str nm), some (.ref U)]) 9 (.tup (((List.range 7).map (needF ds nm)).map .int))) (σ := σ9) (f := needF ds nm) (r := U) rfl (k9 _ _ hU8)
      have e12 := numbers_call (d := 17) (σ := σ10) p7 p6 ((List.range 7).map fun j => sumI (((List.range 7).map (needF ds nm)).drop j)) (by simp) hD
      exact W.iteF σ10 (testC_of (ev_not (b := true) (evalC_call (ev_args (evalC_call (vs := [.tup (((List.range 7).map (needF ds nm)).map .int)]) rfl e10) (ev_args1 e11)) e12))) (W.nil (W.nil ⟨rfl, locs [none, none, some (.ref q), some (.tup (ds.map Dish.v))], le_locs ⟨rfl, rfl, trivial⟩, rfl, hK.trans (k6.trans (k7.trans (k8.trans (k9.trans k10))))⟩))
    · rintro _ σ5 ⟨rfl, hK⟩
      exact W.retE rfl ⟨_, rfl, rfl⟩)
  exact ⟨σ', h⟩
end Lar

namespace Lar
open PySem PySem.W PyProof.Rows
noncomputable def qv : Program := view PySem.Challenge.pw_uf060007_01 [1, 2, 3, 4, 5, 7, 8, 9, 10, 11, 12, 13, 14, 15, 16, 17, 18, 19, 20, 21, 22, 23]
set_option maxRecDepth 100000 in
theorem q_said : PySem.Challenge.rw_uf060007_01.wellSaid = true := (congrFun PySem.W.Fast.te9446332074065402090 _).trans (by decide +kernel)
set_option maxRecDepth 100000 in
theorem q_open : opening PySem.Challenge.pw_uf060007_01 = plainProg PySem.Challenge.pw_uf060007_01.main.scope.names := by kernel_rfl
theorem q_fence : ∀ s, fenceModules? PySem.Challenge.pw_uf060007_01 s = some s := fun s => by kernel_rfl
set_option maxRecDepth 100000 in
theorem q_left : LeftO PySem.Challenge.pw_uf060007_01 qv [] (fun s => xlAt qv [] s && recOk (RowW.records (OpenRow.toRowW PySem.Challenge.rw_uf060007_01.row)) s) (Hook.obs Hook.none) (Hook.val Hook.none) 6000 :=
  left_of q_open rfl q_fence fun w os => top_tw.trans (by kernel_rfl)
end Lar
open PySem PySem.W PyProof.Rows
set_option maxRecDepth 100000 in
set_option maxHeartbeats 8000000 in
theorem PySem.Challenge.cw_uf060007_01_holds : PySem.Challenge.rw_uf060007_01.Holds := by
  w_on
  refine holds_law Lar.q_said fun said => ?_
  refine holds_open (q := Lar.qv) (loose := []) (Xt := fun s => xlAt Lar.qv [] s && recOk (RowW.records (OpenRow.toRowW PySem.Challenge.rw_uf060007_01.row)) s) (XP := XL Lar.qv []) (Yf := Hook.obs Hook.none) (Ya := Hook.val Hook.none) (YP := Hook.says Hook.none) (N := 6000) Lar.q_left (Hook.of Hook.none) (Hook.keeps Hook.none) (fun s e => xl_of s (Bool.and_eq_true_iff.mp e).1) XL.keeps (d := ?d) (kwd := ?kwd) ?h1 ?h2 ?h3 (fun s e => recFacts_of (Bool.and_eq_true_iff.mp e).2) (by rfl) said (by decide +kernel) ⟨rfl, rfl, rfl, rfl, rfl, by decide +kernel⟩ ?hw ?hc
  case h1 => rfl
  case h2 => rfl
  case h3 => rfl
  (case hw => w_witness2)
  intro w s₀ s₁ mg mb G Y fa o pm cd doc dV kV ho hd hcd hD hmg hg args vals as hpre hlay hrd hwl hlo
  wrow_args hpre hlay hrd hwl hlo
  rename_i ns _ _ _ _ _ _ _ a vs _ _ _ _ _ hI _ hlen _
  obtain ⟨σ', hrun⟩ := Lar.law01 ns (by omega)
  refine Lar.law_run G.T (by decide +kernel) Lar.consts01 (by decide +kernel) (by decide +kernel) (P := Lar.P01) ?_ (k := 19) (name := "law") (by kernel_rfl) hmg (by assumption) (by have : Lar.szLine = 16777216 := rfl; omega) hI (d := 20) (by omega) hrun ?_
  · kernel_rfl
  · intro s' hk hgen hos
    exact ⟨.inl ⟨.bool true, .bool true, [], rfl, fun _ => rfl, .bool true, by wrow_post, fun _ => ⟨List.nodup_nil, fun _ h => nomatch h⟩⟩, .of_keep hk, hos, .of_eq (hgen.trans hg)⟩

