import PyProof.Rows.All
import Wide.All
import OpenK.AllK
import Wide.FinOn
import HandS.Head0
import HandS.Head1
import HandS.Head2
import HandS.HeadEnd
import HandS.HeadHook1
import HandS.HeadHook2
import HandS.HeadWalk
import HandS.EndTab
import HandS.Ends
import HandS.Words
import HandS.Exc
import HandS.Defaults
import HandS.ExcOwn
import HandS.Style
import HandS.Lambda
import HandS.ForMost
import HandS.ForExc
import HandS.Wide
import HandS.Deep
import HandS.IsInst
import HandS.TupAny
import HandS.TupMul
import HandS.Walk
import HandS.Zip
import KE.SortData
import KE.DataMinMax
import KE.OsSortAny
import HandS.SetFor
import HandS.TupSets
import HandS.Strs
import PySem.Challenge.RW_tickbetween_k21_whole_written_by_hand
set_option Elab.async false
set_option linter.all false
set_option autoImplicit false
set_option maxRecDepth 100000
set_option maxHeartbeats 1000000
/-! A small interpreter of a part of Python over plain data (PyData); lists that grow are held by value. -/
namespace TB
open PySem
/-! ### syntax: names by slots, defs by numbers -/
inductive BO where
  | add | sub | mul | fdiv | mod | pow
  deriving DecidableEq
inductive CO where
  | lt | le | gt | ge | eq | ne | isN | notN | inn | nin
  deriving DecidableEq
/-- built-in functions by name -/
inductive BF where
  | len | abs | int | max2 | min2 | list | tuple | str | bool | sorted | min1 | max1 | sortset
  deriving DecidableEq
/-- methods of texts -/
inductive BM where
  | join | split | upper | rjust
  deriving DecidableEq
/-- built-in classes -/
inductive IT where
  | int | bool | str | tuple | list
  deriving DecidableEq
def IT.s : IT → String
  | .int => "int" | .bool => "bool" | .str => "str" | .tuple => "tuple" | .list => "list"
inductive Tg where
  | one (i : Nat) | many (is : List Nat)
mutual
inductive Ex where
  | non | bl (b : Bool) | int (i : Int) | str (s : Str)
  | loc (i : Nat)
  | glb (n : Nat) (x : Str)
  | bin (o : BO) (a b : Ex)
  | neg (a : Ex) | not (a : Ex)
  | and (a b : Ex) | or (a b : Ex)
  | cmp (o : CO) (a b : Ex)
  | chain (o p : CO) (a b c : Ex)
  | ite (c a b : Ex)
  | tup (xs : Exs) | lst (xs : Exs)
  | idx (a i : Ex)
  | idxB (i : Nat) (a : Ex)
  | lenB (i : Nat)
  | cmpB (o : CO) (i : Nat) (a : Ex)
  | ninB (a : Ex) (i : Nat)
  | slc (a lo hi : Ex)
  | rev (a : Ex)
  | omit
  | lc (it : Ex) (tg : Tg) (own : List Nat) (cond elt : Ex)
  | rng1 (a : Ex) | rng2 (a b : Ex) | rng3 (a b : Ex) (c : Int) | zip (a b : Ex) | enm (a : Ex)
  | call (f : Nat) (xs : Exs)
  | callv (f i : Nat) (xs : Exs)
  | bf (b : BF) (xs : Exs)
  | isi (a : Ex) (t : IT)
  | mth (b : BM) (a : Ex) (xs : Exs)
  | lam (f k : Nat) (xs : Exs)
  | sset (a : Ex)
  | lss (a : Ex)
inductive Exs where
  | nil | cons (x : Ex) (xs : Exs)
end
mutual
inductive Sm where
  | pass
  | nev
  | asg (i : Nat) (e : Ex)
  | unp (is : List Nat) (e : Ex)
  | par (is : List Nat) (es : Exs)
  | app (i : Nat) (e : Ex) | ext (i : Nat) (e : Ex) | popS (i : Nat)
  | set (i : Nat) (k e : Ex)
  | ex (e : Ex)
  | ret (e : Ex) | retN
  | ife (c : Ex) (a b : Sms)
  | for (it : Ex) (tg : Tg) (b : Sms)
  | whl (c : Ex) (b : Sms)
  | brk
  | raise (c : Str) (m : Str)
  | raiseL (c : Str) (e : Ex)
inductive Sms where
  | nil | cons (s : Sm) (r : Sms)
end
/-! ### values -/
/-- a slot: nothing, frozen data, a list of one's own, the list that a caller lent -/
inductive Sl where
  | no | val (d : PyData) | own (xs : List PyData) | io (xs : List PyData)
abbrev Gm := List Sl
/-- a result: frozen data, or a new list -/
inductive Rs where
  | fro (d : PyData) | own (xs : List PyData)
def Rs.d : Rs → PyData
  | .fro d => d
  | .own xs => .list xs
/-- an exception: its class, its line -/
structure Ec where
  cls : Str
  arg : Option PyData
inductive R (α : Type) where
  | stuck | exc (e : Ec) | ok (a : α) (g : Gm)
/-- a call's end: the result, what the lent list holds -/
inductive CRs where
  | stuck | exc (e : Ec) | ret (r : Rs) (out : Option (List PyData))
/-- a statement's end -/
inductive O where
  | stuck | exc (e : Ec) | nx (g : Gm) | brk (g : Gm) | ret (r : Rs) (g : Gm)
def R.bind {α β : Type} (r : R α) (k : α → Gm → R β) : R β := match r with
  | .stuck => .stuck
  | .exc e => .exc e
  | .ok a g => k a g
def R.sbind {α : Type} (r : R α) (k : α → Gm → O) : O := match r with
  | .stuck => .stuck
  | .exc e => .exc e
  | .ok a g => k a g
def O.bind (r : O) (k : Gm → O) : O := match r with
  | .nx g => k g
  | o => o
def R.of {α : Type} (o : Option α) (g : Gm) : R α := match o with
  | some a => .ok a g
  | none => .stuck
section
variable {α β : Type}
@[simp] theorem R.bind_ok (a : α) (g : Gm) (k : α → Gm → R β) : (R.ok a g).bind k = k a g := (rfl)
@[simp] theorem R.bind_exc (e : Ec) (k : α → Gm → R β) : (R.exc e).bind k = .exc e := (rfl)
@[simp] theorem R.bind_stuck (k : α → Gm → R β) : (R.stuck : R α).bind k = .stuck := (rfl)
@[simp] theorem R.sbind_ok (a : α) (g : Gm) (k : α → Gm → O) : (R.ok a g).sbind k = k a g := (rfl)
@[simp] theorem R.sbind_exc (e : Ec) (k : α → Gm → O) : (R.exc e).sbind k = .exc e := (rfl)
@[simp] theorem R.sbind_stuck (k : α → Gm → O) : (R.stuck : R α).sbind k = .stuck := (rfl)
@[simp] theorem O.bind_nx (g : Gm) (k : Gm → O) : (O.nx g).bind k = k g := (rfl)
@[simp] theorem O.bind_stuck (k : Gm → O) : O.stuck.bind k = .stuck := (rfl)
@[simp] theorem O.bind_exc (e : Ec) (k : Gm → O) : (O.exc e).bind k = .exc e := (rfl)
@[simp] theorem O.bind_brk (g : Gm) (k : Gm → O) : (O.brk g).bind k = .brk g := (rfl)
@[simp] theorem O.bind_ret (r : Rs) (g : Gm) (k : Gm → O) : (O.ret r g).bind k = .ret r g := (rfl)
@[simp] theorem R.of_some (a : α) (g : Gm) : R.of (some a) g = .ok a g := (rfl)
@[simp] theorem R.of_none (g : Gm) : (R.of none g : R α) = .stuck := (rfl)
@[simp] theorem Rs.d_fro (d : PyData) : (Rs.fro d).d = d := (rfl)
@[simp] theorem Rs.d_own (xs : List PyData) : (Rs.own xs).d = .list xs := (rfl)
end
/-! ### operations on data -/
def mulOk (i j : Int) : Bool := (decide (-(2 ^ 64) < i) && decide (i < 2 ^ 64)) || (decide (-(2 ^ 64) < j) && decide (j < 2 ^ 64))
def opB : BO → PyData → PyData → Option Rs
  | .add, .int i, .int j => some (.fro (.int (i + j)))
  | .add, .str a, .str b => if a.length + b.length ≤ sizeLine then some (.fro (.str (a ++ b))) else none
  | .add, .tuple xs, .tuple ys => if xs.length + ys.length ≤ sizeLine then some (.fro (.tuple (xs ++ ys))) else none
  | .add, .list xs, .list ys => if xs.length + ys.length ≤ sizeLine then some (.own (xs ++ ys)) else none
  | .sub, .int i, .int j => some (.fro (.int (i - j)))
  | .sub, .bool a, .bool b => some (.fro (.int ((if a then 1 else 0) - (if b then 1 else 0))))
  | .mul, .int i, .int j => if mulOk i j then some (.fro (.int (i * j))) else none
  | .mul, .list xs, .int k => if 0 ≤ k ∧ k ≤ 1000 ∧ xs.length ≤ 1000 then some (.own (List.replicate k.toNat xs).flatten) else none
  | .mul, .tuple xs, .int k => if 2 ≤ k ∧ k ≤ 1000 ∧ 1 ≤ xs.length ∧ xs.length ≤ 1000 then some (.fro (.tuple (List.replicate k.toNat xs).flatten)) else none
  | .fdiv, .int i, .int j => if 0 < j ∧ j < 2 ^ 100 then some (.fro (.int (i / j))) else none
  | .mod, .int i, .int j => if 0 < j then some (.fro (.int (i % j))) else none
  | .pow, .int i, .int j => if 0 ≤ j ∧ j ≤ 100 ∧ 0 ≤ i ∧ i < 1000 then some (.fro (.int (i ^ j.toNat))) else none
  | _, _, _ => none
def flatD : PyData → Bool
  | .none | .bool _ | .int _ | .str _ => true
  | _ => false
def eqOk (a b : PyData) : Bool := decide (min a.depth b.depth ≤ 60)
def opC : CO → PyData → PyData → Option Bool
  | .lt, .int i, .int j => some (decide (i < j))
  | .le, .int i, .int j => some (decide (i ≤ j))
  | .gt, .int i, .int j => some (decide (j < i))
  | .ge, .int i, .int j => some (decide (j ≤ i))
  | .eq, a, b => if eqOk a b then some (PyData.eqv a b) else none
  | .ne, a, b => if eqOk a b then some (!PyData.eqv a b) else none
  | .isN, .none, .none => some true
  | .isN, _, .none => some false
  | .notN, .none, .none => some false
  | .notN, _, .none => some true
  | .inn, a, .tuple ds => if decide (a.depth ≤ 60) then some (ds.any fun z => PyData.eqv z a) else none
  | .inn, a, .list ds => if decide (a.depth ≤ 60) then some (ds.any fun z => PyData.eqv z a) else none
  | .nin, a, .tuple ds => if decide (a.depth ≤ 60) then some (!ds.any fun z => PyData.eqv z a) else none
  | .nin, a, .list ds => if decide (a.depth ≤ 60) then some (!ds.any fun z => PyData.eqv z a) else none
  | _, _, _ => none
def atD (xs : List PyData) (i : Int) : Option PyData := L2.atI xs i
def opI : PyData → PyData → Option PyData
  | .tuple xs, .int i => atD xs i
  | .list xs, .int i => atD xs i
  | _, _ => none
/-- a bound of a slice -/
def part : PyData → Option (Option Int)
  | .int i => some (some i)
  | _ => none
def cutD {α : Type} (xs : List α) (lo hi : Option Int) : List α := (xs.drop (HT.sIx xs.length 0 lo)).take (HT.sIx xs.length xs.length hi - HT.sIx xs.length 0 lo)
def opS (a : PyData) (lo hi : Option Int) : Option Rs := match a with
  | .tuple xs => some (.fro (.tuple (cutD xs lo hi)))
  | .list xs => some (.own (cutD xs lo hi))
  | .str z => if z.length ≤ sizeLine then some (.fro (.str (L2.cutS z lo hi))) else none
  | _ => none
def isiD (t : IT) : PyData → Option Bool
  | .none => some false
  | .bool _ => some (match t with
    | .bool => true
    | .int => true
    | _ => false)
  | .int _ => some (match t with
    | .int => true
    | _ => false)
  | .str _ => some (match t with
    | .str => true
    | _ => false)
  | .tuple _ => some (match t with
    | .tuple => true
    | _ => false)
  | .list _ => some (match t with
    | .list => true
    | _ => false)
  | .dict _ => none
mutual
/-- of one shape -/
def shp : PyData → PyData → Bool
  | .bool _, y => (match y with
    | .bool _ => true
    | _ => false)
  | .int _, y => (match y with
    | .int _ => true
    | _ => false)
  | .str _, y => (match y with
    | .str _ => true
    | _ => false)
  | .tuple xs, y => (match y with
    | .tuple ys => shpAll xs ys
    | _ => false)
  | .list xs, y => (match y with
    | .list ys => shpAll xs ys
    | _ => false)
  | _, _ => false
def shpAll : List PyData → List PyData → Bool
  | [], ys => (match ys with
    | [] => true
    | _ => false)
  | x :: xs, ys => (match ys with
    | y :: ys => shp x y && shpAll xs ys
    | _ => false)
end
def noTup0 : PyData → Bool
  | .tuple [] => false
  | _ => true
/-- may be sorted: of one shape, not too deep -/
def ordB : List PyData → Bool
  | [] => true
  | x :: xs => noTup0 x && ((x :: xs).all fun y => shp x y && decide (y.depth ≤ 40))
def ins (x : PyData) : List PyData → List PyData
  | [] => [x]
  | y :: ys => if PySem.W.dataLt y x then y :: ins x ys else x :: y :: ys
def isort : List PyData → List PyData
  | [] => []
  | x :: xs => ins x (isort xs)
def minL (x : PyData) (xs : List PyData) : PyData := xs.foldl (fun a y => if PySem.W.dataLt y a then y else a) x
def maxL (x : PyData) (xs : List PyData) : PyData := xs.foldl (fun a y => if PySem.W.dataLt a y then y else a) x
def opF : BF → List PyData → Option Rs
  | .len, [.tuple xs] => some (.fro (.int xs.length))
  | .len, [.list xs] => some (.fro (.int xs.length))
  | .len, [.str z] => if z.length ≤ sizeLine then some (.fro (.int z.length)) else none
  | .abs, [.int i] => some (.fro (.int (if i < 0 then -i else i)))
  | .int, [.int i] => some (.fro (.int i))
  | .int, [.bool b] => some (.fro (.int (if b then 1 else 0)))
  | .max2, [.int i, .int j] => some (.fro (.int (if j > i then j else i)))
  | .min2, [.int i, .int j] => some (.fro (.int (if j < i then j else i)))
  | .list, [.tuple xs] => some (.own xs)
  | .list, [.list xs] => some (.own xs)
  | .tuple, [.tuple xs] => some (.fro (.tuple xs))
  | .tuple, [.list xs] => some (.fro (.tuple xs))
  | .bool, [.bool b] => some (.fro (.bool b))
  | .sorted, [.list xs] => if ordB xs then some (.own (isort xs)) else none
  | .min1, [.list (x :: xs)] => if ordB (x :: xs) then some (.fro (minL x xs)) else none
  | .max1, [.list (x :: xs)] => if ordB (x :: xs) then some (.fro (maxL x xs)) else none
  | _, _ => none
/-! ### sets -/
def intsOf : List PyData → Option (List Int)
  | [] => some []
  | .int i :: xs => (intsOf xs).map (i :: ·)
  | _ :: _ => none
def insU (x : Int) : List Int → List Int
  | [] => [x]
  | y :: ys => if x < y then x :: y :: ys else if x = y then y :: ys else y :: insU x ys
def usort : List Int → List Int
  | [] => []
  | x :: xs => insU x (usort xs)
/-- so many a set may be made of -/
def setLim : Nat := 60
/-- sorted(set(..)) of a list of ints -/
def opSS : PyData → Option (List PyData)
  | .list xs => (intsOf xs).bind fun ns => if ns.length < setLim then some ((usort ns).map PyData.int) else none
  | _ => none
def pairOf : PyData → Option (List Int)
  | .tuple [.int i, .int j] => if 0 ≤ i ∧ i < 2 ^ 60 ∧ 0 ≤ j ∧ j < 2 ^ 60 then some [i, j] else none
  | _ => none
def pairsOf : List PyData → Option (List (List Int))
  | [] => some []
  | x :: xs => (pairOf x).bind fun p => (pairsOf xs).map (p :: ·)
def nub : List (List Int) → List (List Int)
  | [] => []
  | x :: xs => if x ∈ xs then nub xs else x :: nub xs
/-- len(sorted(set(..))) of a tuple of pairs -/
def opLS : PyData → Option Int
  | .tuple xs => (pairsOf xs).bind fun ps => if ps.length < 60 then some ((nub ps).length : Int) else none
  | _ => none
/-! ### slots -/
def put (g : Gm) (i : Nat) (s : Sl) : Option Gm := match g[i]? with
  | some (.io _) => none
  | some _ => some (g.set i s)
  | none => none
def putAll : List Nat → List PyData → Gm → Option Gm
  | [], [], g => some g
  | i :: is, d :: ds, g => (put g i (.val d)).bind (putAll is ds)
  | _, _, _ => none
def tgt : Tg → PyData → Gm → Option Gm
  | .one i, d, g => put g i (.val d)
  | .many is, .tuple ds, g => putAll is ds g
  | .many _, _, _ => none
def Rs.sl : Rs → Sl
  | .fro d => .val d
  | .own xs => .own xs
def putRs : List Nat → List Rs → Gm → Option Gm
  | [], [], g => some g
  | i :: is, r :: rs, g => (put g i r.sl).bind (putRs is rs)
  | _, _, _ => none
/-- what a slot holds, read in place -/
def held (g : Gm) (i : Nat) : Option PyData := match g[i]? with
  | some (.val d) => some d
  | some (.own xs) => some (.list xs)
  | some (.io xs) => some (.list xs)
  | _ => none
/-- a slot's list that may be lent; whether it was lent to us -/
def lent (g : Gm) (i : Nat) : Option (List PyData × Bool) := match g[i]? with
  | some (.own xs) => some (xs, false)
  | some (.io xs) => some (xs, true)
  | _ => none
def lentSl (k : Bool) (xs : List PyData) : Sl := match k with
  | true => .io xs
  | false => .own xs
/-- the slots of a comprehension's own names, emptied -/
def wipeG (g : Gm) : List Nat → Gm
  | [] => g
  | v :: vs => (wipeG g vs).set v .no
def wipeOk (g : Gm) (vs : List Nat) : Bool := vs.all fun v => match g[v]? with
  | some .no => true
  | some (.val _) => true
  | _ => false
/-- put back -/
def unwipe (g0 g : Gm) : List Nat → Gm
  | [] => g
  | v :: vs => (unwipe g0 g vs).set v (g0.getD v .no)
/-- a lambda's view: own lists hidden -/
def shade (g : Gm) : Gm := g.map fun s => match s with
  | .val d => .val d
  | _ => .no
/-- a for's turns -/
def loopF (tg : Tg) (b : Gm → O) : List PyData → Gm → O
  | [], g => .nx g
  | d :: ds, g => match tgt tg d g with
    | none => .stuck
    | some g1 => match b g1 with
      | .nx g2 => loopF tg b ds g2
      | .brk g2 => .nx g2
      | o => o
/-- a comprehension's turns: what is made so far -/
def loopC (tg : Tg) (own : List Nat) (cond elt : Gm → R Rs) : List PyData → List PyData → Gm → R (List PyData)
  | [], acc, g => .ok acc g
  | d :: ds, acc, g => match tgt tg d g with
    | none => .stuck
    | some g1 => match cond g1 with
      | .ok (.fro (.bool true)) g2 => match elt g2 with
        | .ok r g3 => loopC tg own cond elt ds (acc ++ [r.d]) (wipeG g3 own)
        | _ => .stuck
      | .ok (.fro (.bool false)) g2 => loopC tg own cond elt ds acc (wipeG g2 own)
      | _ => .stuck
/-- a while's turns -/
def loopW (c : Gm → R Rs) (b : Gm → O) : Nat → Gm → O
  | 0, _ => .stuck
  | n + 1, g => match c g with
    | .ok (.fro (.bool true)) g1 => (match b g1 with
      | .nx g2 => loopW c b n g2
      | .brk g2 => .nx g2
      | o => o)
    | .ok (.fro (.bool false)) g1 => .nx g1
    | .exc e => .exc e
    | _ => .stuck
def items : PyData → Option (List PyData)
  | .tuple xs => some xs
  | .list xs => some xs
  | _ => none
def rangeD (lo : Int) (n : Nat) : List PyData := (List.range n).map fun i => .int (lo + (i : Nat))
def rangeC (lo c : Int) (n : Nat) : List PyData := (List.range n).map fun i => .int (lo + (i : Nat) * c)
def cntC (m n s : Int) : Nat := if m < n then ((n - m - 1) / s + 1).toNat else 0
def pairD (x y : PyData) : PyData := .tuple [x, y]
/-! ### the interpreter: cl calls a def, gl is a module's constant, la what a def makes of a lambda's end -/
structure Lk where
  cl : Nat → List PyData → Option (List PyData) → CRs
  cl2 : Nat → List PyData → Option (List PyData) → CRs
  gl : Nat → Option PyData
  la : Nat → PyData ⊕ Ec → Option PyData
  fu : Nat
variable (L : Lk)
/-- an optional bound -/
def partOf (e : Ex) (r : Gm → R Rs) (g : Gm) : R (Option Int) := match e with
  | .omit => .ok none g
  | _ => (r g).bind fun x g1 => match x with
    | .fro (.int i) => .ok (some i) g1
    | _ => .stuck
/-- an optional test -/
def condOf (e : Ex) (r : Gm → R Rs) (g : Gm) : R Rs := match e with
  | .omit => .ok (.fro (.bool true)) g
  | _ => r g
mutual
def ev : Ex → Gm → R Rs
  | .non, g => .ok (.fro .none) g
  | .bl b, g => .ok (.fro (.bool b)) g
  | .int i, g => .ok (.fro (.int i)) g
  | .str s, g => .ok (.fro (.str s)) g
  | .loc i, g => match g[i]? with
    | some (.val d) => .ok (.fro d) g
    | some (.own xs) => .ok (.fro (.list xs)) (g.set i (.val (.list xs)))
    | _ => .stuck
  | .glb n _, g => match L.gl n with
    | some d => .ok (.fro d) g
    | none => .stuck
  | .bin o a b, g => (ev a g).bind fun x g1 => (ev b g1).bind fun y g2 => .of (opB o x.d y.d) g2
  | .neg a, g => (ev a g).bind fun x g1 => match x with
    | .fro (.int i) => .ok (.fro (.int (-i))) g1
    | _ => .stuck
  | .not a, g => (ev a g).bind fun x g1 => match x with
    | .fro (.bool b) => .ok (.fro (.bool (!b))) g1
    | _ => .stuck
  | .and a b, g => (ev a g).bind fun x g1 => match x with
    | .fro (.bool true) => ev b g1
    | .fro (.bool false) => .ok (.fro (.bool false)) g1
    | _ => .stuck
  | .or a b, g => (ev a g).bind fun x g1 => match x with
    | .fro (.bool true) => .ok (.fro (.bool true)) g1
    | .fro (.bool false) => ev b g1
    | _ => .stuck
  | .cmp o a b, g => (ev a g).bind fun x g1 => (ev b g1).bind fun y g2 => match opC o x.d y.d with
    | some k => .ok (.fro (.bool k)) g2
    | none => .stuck
  | .chain o p a b c, g => (ev a g).bind fun x g1 => (ev b g1).bind fun y g2 => match opC o x.d y.d with
    | some true => (ev c g2).bind fun z g3 => (match opC p y.d z.d with
      | some k => .ok (.fro (.bool k)) g3
      | none => .stuck)
    | some false => .ok (.fro (.bool false)) g2
    | none => .stuck
  | .ite c a b, g => (ev c g).bind fun x g1 => match x with
    | .fro (.bool true) => ev a g1
    | .fro (.bool false) => ev b g1
    | _ => .stuck
  | .tup xs, g => (evs xs g).bind fun ds g1 => if ds.length ≤ 1000 then .ok (.fro (.tuple ds)) g1 else .stuck
  | .lst xs, g => (evs xs g).bind fun ds g1 => if ds.length ≤ 1000 then .ok (.own ds) g1 else .stuck
  | .idx a i, g => (ev a g).bind fun x g1 => (ev i g1).bind fun y g2 => match opI x.d y.d with
    | some d => .ok (.fro d) g2
    | none => .stuck
  | .idxB j a, g => match held g j with
    | none => .stuck
    | some _ => (ev a g).bind fun y g2 => match (held g2 j).bind fun x => opI x y.d with
      | some d => .ok (.fro d) g2
      | none => .stuck
  | .lenB j, g => match (held g j).bind fun x => opF .len [x] with
    | some d => .ok d g
    | none => .stuck
  | .cmpB o j a, g => match held g j with
    | none => .stuck
    | some _ => (ev a g).bind fun y g2 => match (held g2 j).bind fun x => opC o x y.d with
      | some k => .ok (.fro (.bool k)) g2
      | none => .stuck
  | .ninB a j, g => (ev a g).bind fun y g2 => match (held g2 j).bind fun x => opC .nin y.d x with
    | some k => .ok (.fro (.bool k)) g2
    | none => .stuck
  | .slc a lo hi, g => (ev a g).bind fun x g1 => (partOf lo (fun g => ev lo g) g1).bind fun l g2 => (partOf hi (fun g => ev hi g) g2).bind fun h g3 => match opS x.d l h with
    | some r => .ok r g3
    | none => .stuck
  | .rev a, g => (ev a g).bind fun x g1 => match x.d with
    | .list xs => .ok (.own xs.reverse) g1
    | .tuple xs => .ok (.fro (.tuple xs.reverse)) g1
    | _ => .stuck
  | .omit, _ => .stuck
  | .lc it tg own c e, g => (ev it g).bind fun x g1 => match items x.d, wipeOk g1 own with
    | some ds, true => (loopC tg own (condOf c (fun g => ev c g)) (fun g => ev e g) ds [] (wipeG g1 own)).bind fun acc g2 => .ok (.own acc) (unwipe g1 g2 own)
    | _, _ => .stuck
  | .rng1 a, g => (ev a g).bind fun x g1 => match x with
    | .fro (.int n) => if -(2 ^ 24) ≤ n ∧ n < 2 ^ 24 then .ok (.own (rangeD 0 n.toNat)) g1 else .stuck
    | _ => .stuck
  | .rng2 a b, g => (ev a g).bind fun x g1 => (ev b g1).bind fun y g2 => match x, y with
    | .fro (.int m), .fro (.int n) => if -(2 ^ 24) ≤ m ∧ -(2 ^ 24) ≤ n ∧ n < 2 ^ 24 ∧ m < 2 ^ 24 ∧ n - m ≤ 2 ^ 24 then .ok (.own (rangeD m (n - m).toNat)) g2 else .stuck
    | _, _ => .stuck
  | .rng3 a b s, g => (ev a g).bind fun x g1 => (ev b g1).bind fun y g2 => match x, y with
    | .fro (.int m), .fro (.int n) => if 0 < s ∧ s < 1000 ∧ -(2 ^ 24) ≤ m ∧ -(2 ^ 24) ≤ n ∧ n < 2 ^ 24 ∧ m < 2 ^ 24 ∧ n - m ≤ 2 ^ 24 then .ok (.own (rangeC m s (cntC m n s))) g2 else .stuck
    | _, _ => .stuck
  | .zip a b, g => (ev a g).bind fun x g1 => (ev b g1).bind fun y g2 => match x.d, y.d with
    | .list xs, .list ys => .ok (.own (List.zipWith pairD xs ys)) g2
    | .tuple xs, .tuple ys => .ok (.own (List.zipWith pairD xs ys)) g2
    | _, _ => .stuck
  | .enm a, g => (ev a g).bind fun x g1 => match x.d with
    | .list xs => .ok (.own (List.zipWith pairD (rangeD 0 xs.length) xs)) g1
    | _ => .stuck
  | .call f xs, g => (evs xs g).bind fun ds g1 => match L.cl f ds none with
    | .ret r none => .ok r g1
    | .exc e => .exc e
    | _ => .stuck
  | .callv f i xs, g => match lent g i with
    | none => .stuck
    | some _ => (evs xs g).bind fun ds g1 => match lent g1 i with
      | none => .stuck
      | some (ys, k) => (match L.cl f ds (some ys) with
        | .ret r (some zs) => .ok r (g1.set i (lentSl k zs))
        | _ => .stuck)
  | .bf b xs, g => (evs xs g).bind fun ds g1 => .of (opF b ds) g1
  | .isi a t, g => (ev a g).bind fun x g1 => match isiD t x.d with
    | some k => .ok (.fro (.bool k)) g1
    | none => .stuck
  | .mth _ _ _, _ => .stuck
  | .lam f k xs, g => match evs xs (shade g) with
    | .ok ds _ => (match L.cl2 k ds none with
      | .ret r none => (match L.la f (.inl r.d) with
        | some d => .ok (.fro d) g
        | none => .stuck)
      | .exc e => (match L.la f (.inr e) with
        | some d => .ok (.fro d) g
        | none => .stuck)
      | _ => .stuck)
    | _ => .stuck
  | .sset a, g => (ev a g).bind fun x g1 => match opSS x.d with
    | some xs => .ok (.own xs) g1
    | none => .stuck
  | .lss a, g => (ev a g).bind fun x g1 => match opLS x.d with
    | some n => .ok (.fro (.int n)) g1
    | none => .stuck
/-- arguments -/
def evs : Exs → Gm → R (List PyData)
  | .nil, g => .ok [] g
  | .cons x xs, g => (ev x g).bind fun r g1 => (evs xs g1).bind fun ds g2 => .ok (r.d :: ds) g2
end
/-- what is walked -/
def evi (L : Lk) (e : Ex) (g : Gm) : R (List PyData) := (ev L e g).bind fun x g1 => .of (items x.d) g1
mutual
def exS : Sm → Gm → O
  | .pass, g => .nx g
  | .nev, _ => .stuck
  | .asg i e, g => (ev L e g).sbind fun r g1 => match put g1 i r.sl with
    | some g2 => .nx g2
    | none => .stuck
  | .unp is e, g => (ev L e g).sbind fun r g1 => match tgt (.many is) r.d g1 with
    | some g2 => .nx g2
    | none => .stuck
  | .par is es, g => (evr es g).sbind fun rs g1 => match putRs is rs g1 with
    | some g2 => .nx g2
    | none => .stuck
  | .app i e, g => match lent g i with
    | none => .stuck
    | some _ => (ev L e g).sbind fun r g1 => match lent g1 i with
      | some (xs, k) => if xs.length < sizeLine then .nx (g1.set i (lentSl k (xs ++ [r.d]))) else .stuck
      | none => .stuck
  | .ext i e, g => match lent g i with
    | none => .stuck
    | some _ => (ev L e g).sbind fun r g1 => match lent g1 i, r.d with
      | some (xs, k), .list ys => if xs.length + ys.length ≤ sizeLine then .nx (g1.set i (lentSl k (xs ++ ys))) else .stuck
      | _, _ => .stuck
  | .popS i, g => match lent g i with
    | some (xs, k) => (match xs with
      | [] => .stuck
      | _ :: _ => .nx (g.set i (lentSl k xs.dropLast)))
    | none => .stuck
  | .set i k e, g => (ev L e g).sbind fun r g1 => match lent g1 i with
    | none => .stuck
    | some _ => (ev L k g1).sbind fun x g2 => match x, lent g2 i with
      | .fro (.int j), some (xs, kk) => (match L2.ixN xs.length j with
        | some m => .nx (g2.set i (lentSl kk (xs.set m r.d)))
        | none => .stuck)
      | _, _ => .stuck
  | .ex e, g => (ev L e g).sbind fun _ g1 => .nx g1
  | .ret e, g => (ev L e g).sbind fun r g1 => .ret r g1
  | .retN, g => .ret (.fro .none) g
  | .ife c a b, g => (ev L c g).sbind fun x g1 => match x with
    | .fro (.bool true) => exs a g1
    | .fro (.bool false) => exs b g1
    | _ => .stuck
  | .for it tg b, g => (evi L it g).sbind fun ds g1 => loopF tg (fun g => exs b g) ds g1
  | .whl c b, g => loopW (fun g => ev L c g) (fun g => exs b g) L.fu g
  | .brk, g => .brk g
  | .raise c _, _ => .exc ⟨c, none⟩
  | .raiseL c e, g => (ev L e g).sbind fun r _ => .exc ⟨c, some r.d⟩
def exs : Sms → Gm → O
  | .nil, g => .nx g
  | .cons s r, g => (exS s g).bind fun g1 => exs r g1
/-- results side by side, none frozen -/
def evr : Exs → Gm → R (List Rs)
  | .nil, g => .ok [] g
  | .cons x xs, g => (ev L x g).bind fun r g1 => (evr xs g1).bind fun rs g2 => .ok (r :: rs) g2
end
/-! ### defs -/
structure Df where
  /-- the number of names -/
  n : Nat
  /-- the first parameter is a lent list -/
  io : Bool
  /-- the number of (other) parameters -/
  ps : Nat
  body : Sms
def startG (d : Df) (ds : List PyData) (io : Option (List PyData)) : Option Gm :=
  if ds.length = d.ps then (match d.io, io with
    | false, none => some (ds.map Sl.val ++ List.replicate (d.n - ds.length) Sl.no)
    | true, some xs => some (Sl.io xs :: ds.map Sl.val ++ List.replicate (d.n - (ds.length + 1)) Sl.no)
    | _, _ => none) else none
/-- a list of one's own that a name holds, given back: as it is -/
def endG (d : Df) (r : Rs) (g : Gm) : CRs := match d.io with
  | false => .ret r none
  | true => (match g[(0 : Nat)]? with
    | some (.io xs) => .ret r (some xs)
    | _ => .stuck)
def runD (L : Lk) (d : Df) (ds : List PyData) (io : Option (List PyData)) : CRs := match startG d ds io with
  | none => .stuck
  | some g => match exs L d.body g with
    | .nx g1 => endG d (.fro .none) g1
    | .ret r g1 => endG d r g1
    | .exc e => (match d.io with
      | false => .exc e
      | true => .stuck)
    | _ => .stuck
/-- all defs of a text: D tells each def; k calls deep -/
structure Tx where
  D : Nat → Option Df
  gl : Nat → Option PyData
  la : Nat → PyData ⊕ Ec → Option PyData
def Tx.lk (T : Tx) (cl cl2 : Nat → List PyData → Option (List PyData) → CRs) : Lk := ⟨cl, cl2, T.gl, T.la, 100000⟩
def noRun : Nat → List PyData → Option (List PyData) → CRs := fun _ _ _ => .stuck
/-- a run k deep, and those one and two less deep -/
def runs (T : Tx) : Nat → (Nat → List PyData → Option (List PyData) → CRs) × (Nat → List PyData → Option (List PyData) → CRs) × (Nat → List PyData → Option (List PyData) → CRs)
  | 0 => (noRun, noRun, noRun)
  | k + 1 => (fun f ds io => match T.D f with
    | none => .stuck
    | some d => runD (T.lk (runs T k).1 (runs T k).2.2) d ds io, (runs T k).1, (runs T k).2.1)
def run (T : Tx) (k : Nat) : Nat → List PyData → Option (List PyData) → CRs := (runs T k).1
theorem run_zero (T : Tx) : run T 0 = noRun := rfl
theorem run_succ (T : Tx) (k f : Nat) (ds : List PyData) (io : Option (List PyData)) : run T (k + 1) f ds io = match T.D f with
    | none => .stuck
    | some d => runD (T.lk (run T k) (runs T k).2.2) d ds io := rfl
end TB
set_option maxHeartbeats 1000000
/-! What the interpreter's values are in the heap. -/
namespace TB
open PySem L2
abbrev Stt := List (Option V)
/-! ### frozen data in a heap -/
mutual
inductive Rp (K : PySem.W.Frag) (F : Hp) : V → PyData → Prop
  | non : Rp K F .non .none
  | bl (b : Bool) : Rp K F (.bl b) (.bool b)
  | int (i : Int) : Rp K F (.int i) (.int i)
  | str (x : Str) (h : PyData.strOk x = true) : Rp K F (.str x) (.str x)
  | lst {a : Addr} {vs : List V} {ds : List PyData} : Rd F a (.lst vs) → RpA K F vs ds → ds.length ≤ sizeLine → Rp K F (.ref a) (.list ds)
  | tup {a : Addr} {vs : List V} {ds : List PyData} : SqT K F a vs → RpA K F vs ds → ds.length ≤ sizeLine → Rp K F (.ref a) (.tuple ds)
inductive RpA (K : PySem.W.Frag) (F : Hp) : List V → List PyData → Prop
  | nil : RpA K F [] []
  | cons {v : V} {vs : List V} {d : PyData} {ds : List PyData} : Rp K F v d → RpA K F vs ds → RpA K F (v :: vs) (d :: ds)
end
def Sub (F H : Hp) : Prop := ∀ a o, F a = some o → H a = some o
theorem Sub.refl (F : Hp) : Sub F F := fun _ _ h => h
theorem Sub.trans {F G H : Hp} (a : Sub F G) (b : Sub G H) : Sub F H := fun x o h => b x o (a x o h)
theorem Sub.upd {F : Hp} {a : Addr} {o : HO} (h : F a = none) : Sub F (upd F a o) := fun b u e => by
  rw [upd_ne (ne_of_none e h)]
  exact e
section
variable {K : PySem.W.Frag} {F G H : Hp}
theorem Rd_sub {a : Addr} {u : HO} (e : Sub F H) (h : Rd F a u) : Rd H a u := by
  rcases h with h | ⟨o, h⟩
  · exact .inl (e a _ h)
  · exact .inr ⟨o, e a _ h⟩
theorem SqT_sub {a : Addr} {xs : List V} (e : Sub F H) (h : SqT K F a xs) : SqT K H a xs := by
  rcases h with h | h
  · exact .inl (Rd_sub e h)
  · exact .inr h
mutual
theorem Rp.mono (e : Sub F H) : ∀ (d : PyData) (v : V), Rp K F v d → Rp K H v d
  | .none, _, h => by cases h; exact .non
  | .bool b, _, h => by cases h; exact .bl b
  | .int i, _, h => by cases h; exact .int i
  | .str x, _, h => by cases h with | str _ h => exact .str x h
  | .list ds, _, h => by
    cases h with
    | lst h1 h2 h3 => exact .lst (Rd_sub e h1) (Rp.monoA e ds _ h2) h3
  | .tuple ds, _, h => by
    cases h with
    | tup h1 h2 h3 => exact .tup (SqT_sub e h1) (Rp.monoA e ds _ h2) h3
  | .dict _, _, h => by cases h
theorem Rp.monoA (e : Sub F H) : ∀ (ds : List PyData) (vs : List V), RpA K F vs ds → RpA K H vs ds
  | [], _, h => by cases h; exact .nil
  | d :: ds, _, h => by
    cases h with
    | cons h1 h2 => exact .cons (Rp.mono e d _ h1) (Rp.monoA e ds _ h2)
end
theorem Rp.up {v : V} {d : PyData} (h : Rp K F v d) (e : Sub F H) : Rp K H v d := Rp.mono e d v h
theorem RpA.up {vs : List V} {ds : List PyData} (h : RpA K F vs ds) (e : Sub F H) : RpA K H vs ds := Rp.monoA e ds vs h
mutual
theorem Rp.dp : ∀ (d : PyData) (v : V), Rp K F v d → Dp K F v d
  | .none, _, h => by cases h; exact .non
  | .bool b, _, h => by cases h; exact .bl b
  | .int i, _, h => by cases h; exact .int i
  | .str x, _, h => by cases h; exact .str x
  | .list ds, _, h => by
    cases h with
    | lst h1 h2 h3 => exact .lst (.inl h1) (Rp.dpA ds _ h2)
  | .tuple ds, _, h => by
    cases h with
    | tup h1 h2 h3 => exact .tup h1 (Rp.dpA ds _ h2)
  | .dict _, _, h => by cases h
theorem Rp.dpA : ∀ (ds : List PyData) (vs : List V), RpA K F vs ds → DpAll K F vs ds
  | [], _, h => by cases h; exact .nil
  | d :: ds, _, h => by
    cases h with
    | cons h1 h2 => exact .cons (Rp.dp d _ h1) (Rp.dpA ds _ h2)
end
mutual
theorem Rp.lay : ∀ (d : PyData) (v : V), Rp K F v d → d.canLay0 = true
  | .none, _, _ => by simp [PyData.canLay0]
  | .bool b, _, _ => by simp [PyData.canLay0]
  | .int i, _, _ => by simp [PyData.canLay0]
  | .str x, _, h => by cases h with | str _ h => simpa [PyData.canLay0] using h
  | .list ds, _, h => by
    cases h with
    | lst h1 h2 h3 => simpa [PyData.canLay0] using Rp.layA ds _ h2
  | .tuple ds, _, h => by
    cases h with
    | tup h1 h2 h3 => simpa [PyData.canLay0] using Rp.layA ds _ h2
  | .dict _, _, h => by cases h
theorem Rp.layA : ∀ (ds : List PyData) (vs : List V), RpA K F vs ds → PyData.canLayAll0 ds = true
  | [], _, _ => by simp [PyData.canLayAll0]
  | d :: ds, _, h => by
    cases h with
    | cons h1 h2 => simp [PyData.canLayAll0, Rp.lay d _ h1, Rp.layA ds _ h2]
end
theorem RpA.length : ∀ {vs : List V} {ds : List PyData}, RpA K F vs ds → vs.length = ds.length
  | _, _, .nil => rfl
  | _, _, .cons _ t => by simp [RpA.length t]
theorem RpA.get : ∀ {vs : List V} {ds : List PyData} {i : Nat} {d : PyData}, RpA K F vs ds → ds[i]? = some d → ∃ v, vs[i]? = some v ∧ Rp K F v d
  | _, _, _, _, .nil, e => by simp at e
  | _, _, 0, _, .cons h _, e => by simp at e; subst e; exact ⟨_, rfl, h⟩
  | _, _, i + 1, d, .cons _ t, e => by
    obtain ⟨v, h1, h2⟩ := RpA.get (i := i) (d := d) t (by simpa using e)
    exact ⟨v, by simpa using h1, h2⟩
theorem RpA.getv : ∀ {vs : List V} {ds : List PyData} {i : Nat} {v : V}, RpA K F vs ds → vs[i]? = some v → ∃ d, ds[i]? = some d ∧ Rp K F v d
  | _, _, _, _, .nil, e => by simp at e
  | _, _, 0, _, .cons h _, e => by simp at e; subst e; exact ⟨_, rfl, h⟩
  | _, _, i + 1, d, .cons _ t, e => by
    obtain ⟨v, h1, h2⟩ := RpA.getv (i := i) (v := d) t (by simpa using e)
    exact ⟨v, by simpa using h1, h2⟩
theorem RpA.append : ∀ {vs ws : List V} {ds es : List PyData}, RpA K F vs ds → RpA K F ws es → RpA K F (vs ++ ws) (ds ++ es)
  | _, _, _, _, .nil, s => s
  | _, _, _, _, .cons r t, s => .cons r (RpA.append t s)
theorem RpA.take : ∀ {vs : List V} {ds : List PyData} (n : Nat), RpA K F vs ds → RpA K F (vs.take n) (ds.take n)
  | _, _, 0, _ => .nil
  | _, _, _ + 1, .nil => .nil
  | _, _, n + 1, .cons r t => .cons r (RpA.take n t)
theorem RpA.drop : ∀ {vs : List V} {ds : List PyData} (n : Nat), RpA K F vs ds → RpA K F (vs.drop n) (ds.drop n)
  | _, _, 0, r => r
  | _, _, _ + 1, .nil => .nil
  | _, _, n + 1, .cons _ t => RpA.drop n t
theorem RpA.set {v : V} {d : PyData} (r : Rp K F v d) : ∀ {vs : List V} {ds : List PyData} (i : Nat), RpA K F vs ds → RpA K F (vs.set i v) (ds.set i d)
  | _, _, _, .nil => .nil
  | _, _, 0, .cons _ t => .cons r t
  | _, _, i + 1, .cons q t => .cons q (RpA.set r i t)
theorem RpA.reverse {vs : List V} {ds : List PyData} (h : RpA K F vs ds) : RpA K F vs.reverse ds.reverse := by
  induction h using RpA.rec (motive_1 := fun _ _ _ => True) with
  | nil => exact .nil
  | cons h1 h2 _ ih => simp only [List.reverse_cons]; exact ih.append (.cons h1 .nil)
  | _ => trivial
theorem RpA.rep {vs : List V} {ds : List PyData} (h : RpA K F vs ds) : ∀ n : Nat, RpA K F (List.replicate n vs).flatten (List.replicate n ds).flatten
  | 0 => .nil
  | n + 1 => by simp only [List.replicate_succ, List.flatten_cons]; exact h.append (RpA.rep h n)
theorem RpA.dropLast {vs : List V} {ds : List PyData} (h : RpA K F vs ds) : RpA K F vs.dropLast ds.dropLast := by
  rw [List.dropLast_eq_take, List.dropLast_eq_take, h.length]
  exact h.take _
theorem cutD_len {α : Type} (xs : List α) (lo hi : Option Int) : (cutD xs lo hi).length ≤ xs.length := by
  unfold cutD
  rw [List.length_take, List.length_drop]
  omega
theorem RpA.cut {vs : List V} {ds : List PyData} (h : RpA K F vs ds) (lo hi : Option Int) : RpA K F (cutV vs lo hi) (cutD ds lo hi) := by
  unfold cutV cutD
  rw [h.length]
  exact (h.drop _).take _
theorem RpA.atI {vs : List V} {ds : List PyData} {i : Int} {d : PyData} (h : RpA K F vs ds) (e : atD ds i = some d) : ∃ v, L2.atI vs i = some v ∧ Rp K F v d := by
  unfold atD L2.atI at e
  unfold L2.atI
  rw [h.length]
  cases q : ixN ds.length i with
  | none => rw [q] at e; simp at e
  | some j =>
    rw [q] at e
    have e' : ds[j]? = some d := e
    obtain ⟨v, h1, h2⟩ := h.get e'
    exact ⟨v, by simpa using h1, h2⟩
theorem Rp.ints {F : Hp} : ∀ {vs : List V} {ds : List PyData}, RpA K F vs ds → True := fun _ => trivial
end
/-! ### the def's entry -/
structure Zc where
  K : PySem.W.Frag
  H0 : Hp
  F0 : Hp
  io : Option Addr
  T : List (Addr × Str)
def NoTbl (o : HO) : Prop := ∀ ps, o ≠ .tbl ps
structure Grow (z : Zc) (H F : Hp) : Prop where
  le : Sub F H
  nt : ∀ a ps, F a ≠ some (.tbl ps)
  gr : Sub z.F0 F
  kp : ∀ a o, z.H0 a = some o → NoTbl o → z.io ≠ some a → H a = some o
  nw : ∀ a, z.H0 a ≠ none → z.F0 a = none → F a = none
  al : ∀ a, z.H0 a ≠ none → H a ≠ none
  tb : LamX.Tabs z.T H
def isOwn (g : Gm) (i : Nat) : Prop := (∃ xs, g[i]? = some (Sl.own xs)) ∨ ∃ xs, g[i]? = some (Sl.io xs)
def atOwn (g : Gm) (σ : Stt) (a : Addr) : Prop := ∃ i, isOwn g i ∧ σ[i]? = some (some (.ref a))
structure OwnAt (K : PySem.W.Frag) (H F : Hp) (σ : Stt) (i : Nat) (a : Addr) (xs : List PyData) : Prop where
  sl : σ[i]? = some (some (.ref a))
  vs : ∃ vs, H a = some (.lst vs) ∧ RpA K F vs xs ∧ xs.length ≤ sizeLine
  nf : F a = none
structure Sim (z : Zc) (g : Gm) (σ : Stt) (H F : Hp) : Prop where
  G : Grow z H F
  len : g.length = σ.length
  val : ∀ (i : Nat) d, g[i]? = some (Sl.val d) → ∃ v, σ[i]? = some (some v) ∧ Rp z.K F v d
  own : ∀ (i : Nat) xs, g[i]? = some (Sl.own xs) → ∃ a, OwnAt z.K H F σ i a xs ∧ z.H0 a = none
  io : ∀ (i : Nat) xs, g[i]? = some (Sl.io xs) → ∃ a, OwnAt z.K H F σ i a xs ∧ z.io = some a
  hio : ∀ a, z.io = some a → z.H0 a ≠ none
  dj : ∀ (i j : Nat) a, isOwn g i → isOwn g j → σ[i]? = some (some (.ref a)) → σ[j]? = some (some (.ref a)) → i = j
structure Stp (g : Gm) (σ : Stt) (H F : Hp) (g' : Gm) (H' F' : Hp) : Prop where
  f : Sub F F'
  k : ∀ a o, H a = some o → NoTbl o → ¬ atOwn g σ a → H' a = some o
  n : ∀ a, H a ≠ none → F a = none → ¬ atOwn g σ a → F' a = none
  o : ∀ i, isOwn g' i → isOwn g i
  h : ∀ a, H a ≠ none → H' a ≠ none
theorem Stp.refl (g : Gm) (σ : Stt) (H F : Hp) : Stp g σ H F g H F := ⟨Sub.refl F, fun _ _ h _ _ => h, fun _ _ h _ => h, fun _ h => h, fun _ h => h⟩
section
variable {z : Zc} {g g1 g2 : Gm} {σ : Stt} {H H1 H2 F F1 F2 : Hp}
theorem Stp.trans (p : Stp g σ H F g1 H1 F1) (q : Stp g1 σ H1 F1 g2 H2 F2) : Stp g σ H F g2 H2 F2 := by
  have no : ∀ a, ¬ atOwn g σ a → ¬ atOwn g1 σ a := fun a n ⟨i, h1, h2⟩ => n ⟨i, p.o i h1, h2⟩
  exact ⟨p.f.trans q.f, fun a o h nt n => q.k a o (p.k a o h nt n) nt (no a n), fun a h hf n => q.n a (p.h a h) (p.n a h hf n) (no a n), fun i h => p.o i (q.o i h), fun a h => q.h a (p.h a h)⟩
def RsOk (z : Zc) (H : Hp) (g' : Gm) (σ : Stt) (H' F' : Hp) (v : V) : Rs → Prop
  | .fro d => Rp z.K F' v d
  | .own xs => ∃ a, v = .ref a ∧ (∃ vs, H' a = some (.lst vs) ∧ RpA z.K F' vs xs ∧ xs.length ≤ sizeLine) ∧ F' a = none ∧ z.H0 a = none ∧ H a = none ∧ ¬ atOwn g' σ a
theorem upd_none {H : Hp} {a b : Addr} {o : HO} (h : H b = none) (n : b ≠ a) : upd H a o b = none := by rw [upd_ne n]; exact h
/-- a new list is frozen -/
theorem freeze {g' : Gm} {H' F' : Hp} {v : V} {r : Rs} (S : Sim z g' σ H' F') (P : Stp g σ H F g' H' F') (q : RsOk z H g' σ H' F' v r) :
    ∃ F'', Sim z g' σ H' F'' ∧ Stp g σ H F g' H' F'' ∧ Rp z.K F'' v r.d := by
  cases r with
  | fro d => exact ⟨F', S, P, q⟩
  | own xs =>
    obtain ⟨a, rfl, ⟨vs, h1, h2, h3⟩, nf, n0, nH, no⟩ := q
    have sb : Sub F' (upd F' a (.lst vs)) := Sub.upd nf
    refine ⟨upd F' a (.lst vs), ⟨⟨fun b o e => ?_, fun b ps e => ?_, S.G.gr.trans sb, S.G.kp, fun b hb h0 => ?_, S.G.al, S.G.tb⟩, S.len, fun i d e => ?_, fun i ys e => ?_, fun i ys e => ?_, S.hio, S.dj⟩, ⟨P.f.trans sb, P.k, fun b hb h0 n => ?_, P.o, P.h⟩, .lst (.inl upd_same) (h2.up sb) h3⟩
    · by_cases hb : b = a
      · subst hb; rw [upd_same] at e; cases e; exact h1
      · rw [upd_ne hb] at e; exact S.G.le b o e
    · by_cases hb : b = a
      · subst hb; rw [upd_same] at e; cases e
      · rw [upd_ne hb] at e; exact S.G.nt b ps e
    · exact upd_none (S.G.nw b hb h0) fun e => hb (e ▸ n0)
    · obtain ⟨w, e1, e2⟩ := S.val i d e
      exact ⟨w, e1, e2.up sb⟩
    · obtain ⟨b, o, nb⟩ := S.own i ys e
      refine ⟨b, ⟨o.sl, ?_, upd_none o.nf fun e' => no ⟨i, .inl ⟨ys, e⟩, e' ▸ o.sl⟩⟩, nb⟩
      obtain ⟨ws, a1, a2, a3⟩ := o.vs
      exact ⟨ws, a1, a2.up sb, a3⟩
    · obtain ⟨b, o, nb⟩ := S.io i ys e
      refine ⟨b, ⟨o.sl, ?_, upd_none o.nf fun e' => no ⟨i, .inr ⟨ys, e⟩, e' ▸ o.sl⟩⟩, nb⟩
      obtain ⟨ws, a1, a2, a3⟩ := o.vs
      exact ⟨ws, a1, a2.up sb, a3⟩
    · exact upd_none (P.n b hb h0 n) fun e => hb (e ▸ nH)
/-- new things laid: the frozen part grows by what is new -/
theorem Sim.laid {p : Addr} {o : HO} (S : Sim z g σ H F) (hp : H p = none) (ho : NoTbl o) : Sim z g σ (upd H p o) F ∧ Stp g σ H F g (upd H p o) F ∧ z.H0 p = none ∧ F p = none ∧ ¬ atOwn g σ p := by
  have keep : Sub H (upd H p o) := Sub.upd hp
  have n0 : z.H0 p = none := by
    cases e : z.H0 p with
    | none => rfl
    | some u => exact absurd hp (S.G.al p (by rw [e]; simp))
  have nf : F p = none := by
    cases e : F p with
    | none => rfl
    | some u => rw [S.G.le p u e] at hp; cases hp
  have al : ∀ b, H b ≠ none → upd H p o b ≠ none := fun b hb => by
    rw [upd_ne (fun e => hb (by rw [e]; exact hp))]
    exact hb
  refine ⟨⟨⟨S.G.le.trans keep, S.G.nt, S.G.gr, fun b u e nt ni => keep b u (S.G.kp b u e nt ni), S.G.nw, fun b hb => al b (S.G.al b hb), S.G.tb.ext keep⟩, S.len, S.val, fun i xs e => ?_, fun i xs e => ?_, S.hio, S.dj⟩, ⟨Sub.refl F, fun b u e _ _ => keep b u e, fun _ _ h _ => h, fun _ h => h, al⟩, n0, nf, ?_⟩
  · obtain ⟨a, ow, na⟩ := S.own i xs e
    obtain ⟨vs, h1, h2⟩ := ow.vs
    exact ⟨a, ⟨ow.sl, ⟨vs, keep a _ h1, h2⟩, ow.nf⟩, na⟩
  · obtain ⟨a, ow, na⟩ := S.io i xs e
    obtain ⟨vs, h1, h2⟩ := ow.vs
    exact ⟨a, ⟨ow.sl, ⟨vs, keep a _ h1, h2⟩, ow.nf⟩, na⟩
  · rintro ⟨i, hi, hs⟩
    rcases hi with ⟨xs, e⟩ | ⟨xs, e⟩
    · obtain ⟨a, ow, na⟩ := S.own i xs e
      obtain ⟨vs, h1, h2⟩ := ow.vs
      have := ow.sl
      rw [hs] at this; cases this
      rw [hp] at h1; cases h1
    · obtain ⟨a, ow, na⟩ := S.io i xs e
      obtain ⟨vs, h1, h2⟩ := ow.vs
      have := ow.sl
      rw [hs] at this; cases this
      rw [hp] at h1; cases h1
/-- what a primitive hands back -/
def Made (K : PySem.W.Frag) (F H : Hp) (v : V) (H' : Hp) : Rs → Prop
  | .fro d => (H' = H ∧ Rp K F v d) ∨ ∃ p vs ds, H p = none ∧ v = .ref p ∧ d = .tuple ds ∧ H' = upd H p (.tup vs) ∧ RpA K F vs ds ∧ ds.length ≤ sizeLine
  | .own xs => ∃ p vs, H p = none ∧ v = .ref p ∧ H' = upd H p (.lst vs) ∧ RpA K F vs xs ∧ xs.length ≤ sizeLine
theorem Sim.frz {p : Addr} {o : HO} (S : Sim z g σ H F) (ho : H p = some o) (nt : NoTbl o) (n0 : z.H0 p = none) (nf : F p = none) (no : ¬ atOwn g σ p) : Sim z g σ H (upd F p o) := by
  have sb : Sub F (upd F p o) := Sub.upd nf
  refine ⟨⟨fun b u e => ?_, fun b ps e => ?_, S.G.gr.trans sb, S.G.kp, fun b hb h0 => upd_none (S.G.nw b hb h0) fun e => hb (e ▸ n0), S.G.al, S.G.tb⟩, S.len, fun i d e => ?_, fun i ys e => ?_, fun i ys e => ?_, S.hio, S.dj⟩
  · by_cases hb : b = p
    · subst hb; rw [upd_same] at e; cases e; exact ho
    · rw [upd_ne hb] at e; exact S.G.le b u e
  · by_cases hb : b = p
    · subst hb; rw [upd_same] at e; cases e; exact nt ps rfl
    · rw [upd_ne hb] at e; exact S.G.nt b ps e
  · obtain ⟨w, e1, e2⟩ := S.val i d e
    exact ⟨w, e1, e2.up sb⟩
  · obtain ⟨b, o', nb⟩ := S.own i ys e
    refine ⟨b, ⟨o'.sl, ?_, upd_none o'.nf fun e' => no ⟨i, .inl ⟨ys, e⟩, e' ▸ o'.sl⟩⟩, nb⟩
    obtain ⟨ws, a1, a2, a3⟩ := o'.vs
    exact ⟨ws, a1, a2.up sb, a3⟩
  · obtain ⟨b, o', nb⟩ := S.io i ys e
    refine ⟨b, ⟨o'.sl, ?_, upd_none o'.nf fun e' => no ⟨i, .inr ⟨ys, e⟩, e' ▸ o'.sl⟩⟩, nb⟩
    obtain ⟨ws, a1, a2, a3⟩ := o'.vs
    exact ⟨ws, a1, a2.up sb, a3⟩
theorem made_post {v : V} {H' : Hp} {r : Rs} (S : Sim z g σ H F) (m : Made z.K F H v H' r) : ∃ F', Sim z g σ H' F' ∧ Stp g σ H F g H' F' ∧ RsOk z H g σ H' F' v r := by
  cases r with
  | fro d =>
    rcases m with ⟨rfl, q⟩ | ⟨p, vs, ds, hp, rfl, rfl, rfl, q, ql⟩
    · exact ⟨F, S, Stp.refl _ _ _ _, q⟩
    · obtain ⟨S1, P1, n0, nf, no⟩ := S.laid hp (o := .tup vs) (fun ps e => nomatch e)
      have sb : Sub F (upd F p (.tup vs)) := Sub.upd nf
      refine ⟨upd F p (.tup vs), S1.frz upd_same (fun ps e => nomatch e) n0 nf no, ⟨sb, P1.k, fun b hb h0 n => upd_none h0 fun e => hb (e ▸ hp), P1.o, P1.h⟩, .tup (SqT.of upd_same) (q.up sb) ql⟩
  | own xs =>
    obtain ⟨p, vs, hp, rfl, rfl, q, ql⟩ := m
    obtain ⟨S1, P1, n0, nf, no⟩ := S.laid hp (o := .lst vs) (fun ps e => nomatch e)
    exact ⟨F, S1, P1, p, rfl, ⟨vs, upd_same, q, ql⟩, nf, n0, hp, no⟩
end
end TB
set_option maxHeartbeats 1000000
/-! The primitives by values. -/
namespace TB
open PySem PySem.Spec PyProof.Rows L2
section
variable {X : Cx}
/-! ### reading the parts -/
theorem Rp.int_inv {K : PySem.W.Frag} {F : Hp} {v : V} {i : Int} (h : Rp K F v (.int i)) : v = .int i := by cases h; rfl
theorem Rp.bl_inv {K : PySem.W.Frag} {F : Hp} {v : V} {b : Bool} (h : Rp K F v (.bool b)) : v = .bl b := by cases h; rfl
theorem Rp.str_inv {K : PySem.W.Frag} {F : Hp} {v : V} {b : Str} (h : Rp K F v (.str b)) : v = .str b ∧ PyData.strOk b = true := by cases h; exact ⟨rfl, by assumption⟩
theorem Rp.non_inv {K : PySem.W.Frag} {F : Hp} {v : V} (h : Rp K F v .none) : v = .non := by cases h; rfl
theorem Rp.tup_inv {K : PySem.W.Frag} {F : Hp} {v : V} {ds : List PyData} (h : Rp K F v (.tuple ds)) : ∃ a vs, v = .ref a ∧ SqT K F a vs ∧ RpA K F vs ds ∧ ds.length ≤ sizeLine := by
  cases h with
  | tup h1 h2 h3 => exact ⟨_, _, rfl, h1, h2, h3⟩
theorem Rp.lst_inv {K : PySem.W.Frag} {F : Hp} {v : V} {ds : List PyData} (h : Rp K F v (.list ds)) : ∃ a vs, v = .ref a ∧ Rd F a (.lst vs) ∧ RpA K F vs ds ∧ ds.length ≤ sizeLine := by
  cases h with
  | lst h1 h2 h3 => exact ⟨_, _, rfl, h1, h2, h3⟩
theorem rd_obj {H : Hp} {pins : List (Addr × Obj)} {σ : Stt} {s : Shared} {a : Addr} {vs : List V} (I : Inv X pins σ H s) (h : Rd H a (.lst vs)) :
    vs.length ≤ sizeLine ∧ ∃ (its : List Value) (n : Nat), Vals vs its ∧ s.heap.get? a = some { cls := .type "list", data := .seq its.toArray n } := by
  obtain ⟨z, its, n, r, e⟩ := h.ok I.hok
  exact ⟨z, its, n, r, e⟩
theorem strOk_app {a b : Str} (ha : PyData.strOk a = true) (hb : PyData.strOk b = true) : PyData.strOk (a ++ b) = true := by
  unfold PyData.strOk at *
  have e : (a ++ b).cps = a.cps ++ b.cps := rfl
  rw [e, Array.all_append, ha, hb]
  rfl
/-! ### operators -/
def rOf (K : PySem.W.Frag) (op : PyData → PyData → Option Rs) : R2 := fun x y H Q => ∃ F d e r, Sub F H ∧ Rp K F x d ∧ Rp K F y e ∧ op d e = some r ∧ ∀ v H', Made K F H v H' r → Q v H'
def boOp : BO → Operator
  | .add => .Add | .sub => .Sub | .mul => .Mult | .fdiv => .FloorDiv | .mod => .Mod | .pow => .Pow
theorem app_list {pins : List (Addr × Obj)} {σ : Stt} {H : Hp} {s : Shared} {Q : VK} {E : Value → Shared → Prop} {a b : Addr} {xs zs : List V} (I : Inv X pins σ H s) (ha : Rd H a (.lst xs)) (hb : Rd H b (.lst zs)) (hz : xs.length + zs.length ≤ sizeLine)
    (q : ∀ p, H p = none → Q (.ref p) (upd H p (.lst (xs ++ zs)))) : wpAny (model X.prog X.w) X.A (binaryOp .Add (.ref a) (.ref b)) (EP X pins σ Q) E s := by
  obtain ⟨z, its, n, r, e⟩ := rd_obj I ha
  obtain ⟨z2, its2, n2, r2, e2⟩ := rd_obj I hb
  have hl := r.length
  have hl2 := r2.length
  refine PySem.P.add_list e e2 ?_ (by rw [List.size_toArray, List.size_toArray]; omega)
  have ea : its.toArray ++ its2.toArray = (its ++ its2).toArray := by simp
  rw [ea]
  exact ⟨.ref _, _, I.lnew (t' := s.toks) (r.append r2) (by rw [List.length_append]; omega), rfl, q _ I.fresh⟩
theorem op_addD : OpR X (binaryOp .Add) (rOf X.K (opB .add)) := by
  intro pins s σ H x y v u Q I rx ry h
  obtain ⟨F, d, e, r, sb, hd, he, ho, q⟩ := h
  unfold opB at ho
  split at ho
  · cases hd.int_inv; cases he.int_inv
    cases ho
    exact op_add pins s σ H _ _ v u Q I rx ry ⟨_, _, rfl, rfl, q _ _ (.inl ⟨rfl, .int _⟩)⟩
  · obtain ⟨rfl, h1⟩ := hd.str_inv
    obtain ⟨rfl, h2⟩ := he.str_inv
    split at ho
    · cases ho
      exact op_add_str pins s σ H _ _ v u Q I rx ry ⟨_, _, rfl, rfl, by assumption, q _ _ (.inl ⟨rfl, .str _ (strOk_app h1 h2)⟩)⟩
    · cases ho
  · obtain ⟨a, vs, rfl, h1, h2, h3⟩ := hd.tup_inv
    obtain ⟨b, ws, rfl, g1, g2, g3⟩ := he.tup_inv
    split at ho
    · cases ho
      have e1 := h2.length
      have e2 := g2.length
      refine op_catA pins s σ H _ _ v u Q I rx ry ⟨a, b, vs, ws, rfl, rfl, SqT_sub sb h1, SqT_sub sb g1, by omega, fun z => ?_, fun _ z => ?_, fun _ _ p hp => ?_⟩
      · subst z
        cases h2
        exact q _ _ (.inl ⟨rfl, .tup g1 g2 g3⟩)
      · subst z
        cases g2
        exact q _ _ (.inl ⟨rfl, by rw [List.append_nil]; exact .tup h1 h2 h3⟩)
      · exact q _ _ (.inr ⟨p, _, _, hp, rfl, rfl, rfl, h2.append g2, by rw [List.length_append]; assumption⟩)
    · cases ho
  · obtain ⟨a, vs, rfl, h1, h2, h3⟩ := hd.lst_inv
    obtain ⟨b, ws, rfl, g1, g2, g3⟩ := he.lst_inv
    split at ho
    · cases ho
      have e1 := h2.length
      have e2 := g2.length
      cases rx
      cases ry
      exact app_list I (Rd_sub sb h1) (Rd_sub sb g1) (by omega) fun p hp => q _ _ ⟨p, _, hp, rfl, rfl, h2.append g2, by rw [List.length_append]; assumption⟩
    · cases ho
  all_goals first | contradiction | (cases ho)
theorem sub_bools (a b : Bool) : Gives (Builtin.«int.__sub__» ⟨[.bool a, .bool b], []⟩) (.int ((if a = true then (1 : Int) else 0) - if b = true then (1 : Int) else 0)) :=
  .of_wp fun M A E s Q h => by
    obtain ⟨hp, g, d, tk, os⟩ := s
    wp_walk
    exact ⟨_, rfl, h⟩
theorem op_subB {a b : Bool} {pins : List (Addr × Obj)} {σ : Stt} {H : Hp} {s : Shared} {Q : VK} (I : Inv X pins σ H s) (q : Q (.int ((if a = true then (1 : Int) else 0) - if b = true then (1 : Int) else 0)) H) : wpAny (model X.prog X.w) X.A (binaryOp .Sub (.bool a) (.bool b)) (EP X pins σ Q) X.xe s :=
  binaryOp_gives (op := .Sub) (PySem.typeIs_bool s a) (PySem.typeIs_bool s b) F.fills_bool_sub F.slot_bool_sub F.entry_int_sub (F.args_int_sub_2 _ _) (sub_bools a b) trivial ⟨.int _, H, I.tok _, ⟨_, rfl⟩, q⟩
theorem op_subD : OpR X (binaryOp .Sub) (rOf X.K (opB .sub)) := by
  intro pins s σ H x y v u Q I rx ry h
  obtain ⟨F, d, e, r, sb, hd, he, ho, q⟩ := h
  unfold opB at ho
  split at ho
  all_goals first
    | contradiction
    | (cases hd.int_inv; cases he.int_inv
       cases ho
       exact op_sub pins s σ H _ _ v u Q I rx ry ⟨_, _, rfl, rfl, q _ _ (.inl ⟨rfl, .int _⟩)⟩)
    | (cases hd.bl_inv; cases he.bl_inv
       cases ho
       cases rx; cases ry
       exact op_subB I (q _ _ (.inl ⟨rfl, .int _⟩)))
    | (cases ho)
theorem mulOk_ok {i j : Int} (h : mulOk i j = true) : CMul i j := by
  unfold mulOk at h
  simp only [Bool.or_eq_true, Bool.and_eq_true, decide_eq_true_eq] at h
  exact h
theorem rep_list {pins : List (Addr × Obj)} {σ : Stt} {H : Hp} {s : Shared} {Q : VK} {l : Addr} {k : Int} {t : Tok} {xs : List V} (I : Inv X pins σ H s) (hH : Rd H l (.lst xs)) (h1 : 0 ≤ k) (h2 : k ≤ 1000) (hz : xs.length ≤ 1000)
    (q : ∀ p, H p = none → Q (.ref p) (upd H p (.lst (List.replicate k.toNat xs).flatten))) : wpAny (model X.prog X.w) X.A (binaryOp .Mult (.ref l) (.int k t)) (EP X pins σ Q) X.xe s := by
  obtain ⟨z, its, n, r, e⟩ := rd_obj I hH
  have hl := r.length
  have hzz : xs.length * k.toNat ≤ sizeLine := by
    have a1 : xs.length * k.toNat ≤ 1000 * 1000 := Nat.mul_le_mul hz (by omega)
    rw [sizeLine_eq]
    omega
  have hlen : its.toArray.size * k.toNat ≤ sizeLine := by rw [List.size_toArray, ← hl]; exact hzz
  have hcap : ¬ its.toArray.size * k.toNat > (2 ^ 63 - 1) / 8 := by
    have : (sizeLine : Nat) ≤ (2 ^ 63 - 1) / 8 := by decide
    omega
  have hfit : ¬ (!Builtin.List.listFitsIndex k) = true := by
    rw [fitsIndex_both (by omega) (by omega)]
    exact Bool.false_ne_true
  have hlong : ¬ Builtin.List.listTooLong (its.toArray.size * k.toNat) = true := by
    rw [notLongL hlen]
    exact Bool.false_ne_true
  have hnew : List.foldl (fun x1 x2 => x1 ++ x2) #[] (List.replicate (if its.toArray.isEmpty = true then 0 else k.toNat) its.toArray) = (List.replicate k.toNat its).flatten.toArray := by
    have f0 : ∀ m : Nat, List.foldl (fun x1 x2 => x1 ++ x2) #[] (List.replicate m its.toArray) = (List.replicate m its).flatten.toArray := fun m => by
      have := foldl_rep its m []
      rw [List.nil_append] at this
      exact this
    rw [f0]
    cases its with
    | nil => simp
    | cons a r' => rw [if_neg (by simp)]
  refine wpAny_binaryOp_repeat_ref (T := "list") (U := "int") (by decide) ⟨_, e, rfl⟩ (fun s' => typeIs_int s' k t) noFill_list_mul F.fills_int_mul F.slot_int_rmul repeat_list F.slot_int_index.lookup
    (call_meets F.slot_int_rmul (typeIs_int s k t) F.entry_int_rmul (F.args_int_rmul_2 _ _) (int___rmul___int_list k t l its.toArray n)
      ⟨e, rfl, ⟨_, e, rfl⟩, call_meets F.slot_list_mul ⟨_, e, rfl⟩ F.entry_list_mul (F.args_list_mul_2 _ _) (AutoListH.list___mul___list_int_3 l its.toArray n k t hfit hcap hlong) ⟨e, ?_⟩⟩)
  rw [hnew]
  exact ⟨.ref _, _, I.lnew (t' := s.toks) (r.rep k.toNat) (by rw [PyProof.Rows.lm_len_rep_flat, Nat.mul_comm]; exact hzz), rfl, q _ I.fresh⟩
theorem op_mulD : OpR X (binaryOp .Mult) (rOf X.K (opB .mul)) := by
  intro pins s σ H x y v u Q I rx ry h
  obtain ⟨F, d, e, r, sb, hd, he, ho, q⟩ := h
  unfold opB at ho
  split at ho
  all_goals first
    | contradiction
    | (cases hd.int_inv; cases he.int_inv
       split at ho
       · cases ho
         exact op_mul pins s σ H _ _ v u Q I rx ry ⟨_, _, rfl, rfl, mulOk_ok (by assumption), q _ _ (.inl ⟨rfl, .int _⟩)⟩
       · cases ho)
    | skip
  · rename_i xs k _
    obtain ⟨a, vs, rfl, h1, h2, h3⟩ := hd.lst_inv
    cases he.int_inv
    split at ho
    · rename_i hk
      cases ho
      have e1 := h2.length
      cases rx
      obtain ⟨t, rfl⟩ := ry
      refine rep_list I (Rd_sub sb h1) hk.1 hk.2.1 (by omega) fun p hp => q _ _ ⟨p, _, hp, rfl, rfl, h2.rep _, ?_⟩
      rw [PyProof.Rows.lm_len_rep_flat, sizeLine_eq]
      have a1 : k.toNat * xs.length ≤ 1000 * 1000 := Nat.mul_le_mul (by omega) (by omega)
      omega
    · cases ho
  · rename_i xs k _
    obtain ⟨a, vs, rfl, h1, h2, h3⟩ := hd.tup_inv
    cases he.int_inv
    split at ho
    · rename_i hk
      cases ho
      have e1 := h2.length
      refine op_repT pins s σ H _ _ v u Q I rx ry ⟨a, k, vs, rfl, rfl, SqT_sub sb h1, fun z => ?_, hk.1, hk.2.1, by omega, fun p hp => q _ _ (.inr ⟨p, _, _, hp, rfl, rfl, rfl, h2.rep _, ?_⟩)⟩
      · rw [z] at e1
        have := hk.2.2.1
        simp at e1
        omega
      · rw [PyProof.Rows.lm_len_rep_flat, sizeLine_eq]
        have a1 : k.toNat * xs.length ≤ 1000 * 1000 := Nat.mul_le_mul (by omega) (by omega)
        omega
    · cases ho
theorem op_fdivD : OpR X (binaryOp .FloorDiv) (rOf X.K (opB .fdiv)) := by
  intro pins s σ H x y v u Q I rx ry h
  obtain ⟨F, d, e, r, sb, hd, he, ho, q⟩ := h
  unfold opB at ho
  split at ho
  all_goals first
    | contradiction
    | (cases hd.int_inv; cases he.int_inv
       split at ho
       · rename_i hj
         cases ho
         exact op_fdivW pins s σ H _ _ v u Q I rx ry ⟨_, _, rfl, rfl, wide_div (b := 100) hj.1 (by omega) (by decide) (by decide), q _ _ (.inl ⟨rfl, .int _⟩)⟩
       · cases ho)
    | (cases ho)
theorem op_modD : OpR X (binaryOp .Mod) (rOf X.K (opB .mod)) := by
  intro pins s σ H x y v u Q I rx ry h
  obtain ⟨F, d, e, r, sb, hd, he, ho, q⟩ := h
  unfold opB at ho
  split at ho
  all_goals first
    | contradiction
    | (cases hd.int_inv; cases he.int_inv
       split at ho
       · rename_i hj
         cases ho
         exact op_mod pins s σ H _ _ v u Q I rx ry ⟨_, _, rfl, rfl, hj, q _ _ (.inl ⟨rfl, .int _⟩)⟩
       · cases ho)
    | (cases ho)
theorem op_powD : OpR X (binaryOp .Pow) (rOf X.K (opB .pow)) := by
  intro pins s σ H x y v u Q I rx ry h
  obtain ⟨F, d, e, r, sb, hd, he, ho, q⟩ := h
  unfold opB at ho
  split at ho
  all_goals first
    | contradiction
    | (cases hd.int_inv; cases he.int_inv
       split at ho
       · rename_i hj
         cases ho
         exact op_pow pins s σ H _ _ v u Q I rx ry ⟨_, _, rfl, rfl, ⟨hj.1, by omega, by omega⟩, q _ _ (.inl ⟨rfl, .int _⟩)⟩
       · cases ho)
    | (cases ho)
theorem op_bin (o : BO) : OpR X (binaryOp (boOp o)) (rOf X.K (opB o)) := by
  cases o with
  | add => exact op_addD
  | sub => exact op_subD
  | mul => exact op_mulD
  | fdiv => exact op_fdivD
  | mod => exact op_modD
  | pow => exact op_powD
/-! ### comparisons -/
def rCo (K : PySem.W.Frag) (o : CO) : R2 := fun x y H Q => ∃ F d e k, Sub F H ∧ Rp K F x d ∧ Rp K F y e ∧ opC o d e = some k ∧ Q (.bl k) H
def coOp : CO → CmpOp
  | .lt => .Lt | .le => .LtE | .gt => .Gt | .ge => .GtE | .eq => .Eq | .ne => .NotEq | .isN => .Is | .notN => .IsNot | .inn => .In | .nin => .NotIn
theorem depth_tup (ds : List PyData) : PyData.depth (.tuple ds) = PyData.depthAll ds + 1 := by simp only [PyData.depth]
theorem depth_lst (ds : List PyData) : PyData.depth (.list ds) = PyData.depthAll ds + 1 := by simp only [PyData.depth]
theorem op_cmp (hu : X.A.units + 64 < cLine) (o : CO) : OpR X (compareOp (coOp o)) (rCo X.K o) := by
  intro pins s σ H x y v u Q I rx ry h
  obtain ⟨F, d, e, k, sb, hd, he, ho, q⟩ := h
  have hu' : X.A.units + 1 + 60 < cLine := by omega
  unfold opC at ho
  split at ho
  · cases hd.int_inv; cases he.int_inv; cases ho
    exact op_lt pins s σ H _ _ v u Q I rx ry ⟨_, _, rfl, rfl, q⟩
  · cases hd.int_inv; cases he.int_inv; cases ho
    exact op_le pins s σ H _ _ v u Q I rx ry ⟨_, _, rfl, rfl, q⟩
  · cases hd.int_inv; cases he.int_inv; cases ho
    exact op_gt pins s σ H _ _ v u Q I rx ry ⟨_, _, rfl, rfl, q⟩
  · cases hd.int_inv; cases he.int_inv; cases ho
    exact op_ge pins s σ H _ _ v u Q I rx ry ⟨_, _, rfl, rfl, q⟩
  · split at ho
    · rename_i hq
      cases ho
      have hq := of_decide_eq_true hq
      obtain ⟨as, r1⟩ := Dp.reads I _ x v (Rp.dp _ _ (hd.up sb)) rx
      obtain ⟨bs, r2⟩ := Dp.reads I _ y u (Rp.dp _ _ (he.up sb)) ry
      exact SeqAt.compareEq_reads r1 r2 (Rp.lay _ _ hd) (Rp.lay _ _ he) (by omega) ⟨.bl _, H, I, rfl, q⟩
    · cases ho
  · split at ho
    · rename_i hq
      cases ho
      have hq := of_decide_eq_true hq
      obtain ⟨as, r1⟩ := Dp.reads I _ x v (Rp.dp _ _ (hd.up sb)) rx
      obtain ⟨bs, r2⟩ := Dp.reads I _ y u (Rp.dp _ _ (he.up sb)) ry
      exact SeqAt.compareNe_reads r1 r2 (Rp.lay _ _ hd) (Rp.lay _ _ he) (by omega) ⟨.bl _, H, I, rfl, q⟩
    · cases ho
  · cases hd.non_inv; cases he.non_inv; cases ho
    exact op_isN pins s σ H _ _ v u Q I rx ry ⟨rfl, by simpa using q⟩
  · cases he.non_inv; cases ho
    refine op_isN pins s σ H _ _ v u Q I rx ry ⟨rfl, ?_⟩
    have hx : x ≠ .non := by
      intro z
      subst z
      cases hd
      simp_all
    rw [decide_eq_false hx]
    exact q
  · cases hd.non_inv; cases he.non_inv; cases ho
    exact op_notN pins s σ H _ _ v u Q I rx ry ⟨rfl, by simpa using q⟩
  · cases he.non_inv; cases ho
    refine op_notN pins s σ H _ _ v u Q I rx ry ⟨rfl, ?_⟩
    have hx : x ≠ .non := by
      intro z
      subst z
      cases hd
      simp_all
    rw [decide_eq_false hx]
    exact q
  all_goals first
    | (cases ho; done)
    | (split at ho
       · rename_i hq
         cases ho
         have hq := of_decide_eq_true hq
         obtain ⟨as, r1⟩ := Dp.reads I _ x v (Rp.dp _ _ (hd.up sb)) rx
         obtain ⟨bs, r2⟩ := Dp.reads I _ y u (Rp.dp _ _ (he.up sb)) ry
         have hl := Rp.lay _ _ he
         simp only [PyData.canLay0] at hl
         first
           | exact SeqAt.in_tuple_reads r2 r1 hl (Rp.lay _ _ hd) (by omega) ⟨.bl _, H, I, rfl, q⟩
           | exact SeqAt.in_list_reads r2 r1 hl (Rp.lay _ _ hd) (by omega) ⟨.bl _, H, I, rfl, q⟩
           | exact SeqAt.notIn_tuple_reads r2 r1 hl (Rp.lay _ _ hd) (by omega) ⟨.bl _, H, I, rfl, q⟩
           | exact SeqAt.notIn_list_reads r2 r1 hl (Rp.lay _ _ hd) (by omega) ⟨.bl _, H, I, rfl, q⟩
       · cases ho)
end
end TB
set_option maxHeartbeats 1000000
/-! Readings of expressions by the interpreter. -/
namespace TB
open PySem PySem.Spec PyProof.Rows L2
/-- what stands around an expression: the interpreter's links, the def's entry, the classes of exceptions, the wish of an exception -/
structure Cn where
  L : Lk
  z : Zc
  xa : Str → Option Addr
  E : XK
def XRep (K : PySem.W.Frag) (xa : Str → Option Addr) (e : Ec) (cv : Value) (dx : Option Addr) (H F : Hp) : Prop :=
  ∃ C, xa e.cls = some C ∧ cv = .ref C ∧ match e.arg with
    | none => dx = none
    | some d => ∃ a v, dx = some a ∧ H a = some (.xd [("line", v)]) ∧ Rp K F v d
def XOk (c : Cn) (e : Ec) : Prop := ∀ cv dx H F, Grow c.z H F → XRep c.z.K c.xa e cv dx H F → c.E cv dx H
def Pst {α : Type} (c : Cn) (r : R α) (k : α → Gm → Prop) : Prop := match r with
  | .stuck => False
  | .exc e => XOk c e
  | .ok a g => k a g
section
variable {α β : Type} {c : Cn} {r : R α}
theorem Pst.bind {k : α → Gm → R β} {K : β → Gm → Prop} (h : Pst c (r.bind k) K) : Pst c r fun a g => Pst c (k a g) K := by
  cases r with
  | stuck => exact h
  | exc e => exact h
  | ok a g => exact h
theorem Pst.mono {K K' : α → Gm → Prop} (h : Pst c r K) (f : ∀ a g, K a g → K' a g) : Pst c r K' := by
  cases r with
  | stuck => exact h
  | exc e => exact h
  | ok a g => exact f a g h
end
def EndE (c : Cn) (g : Gm) (σ : Stt) (H F : Hp) (Q : VK) (r : Rs) (g' : Gm) : Prop :=
  ∀ v H' F', Sim c.z g' σ H' F' → Stp g σ H F g' H' F' → RsOk c.z H g' σ H' F' v r → Q v H'
def EndF (c : Cn) (g : Gm) (σ : Stt) (H F : Hp) (Q : List V → Hp → Prop) (ds : List PyData) (g' : Gm) : Prop :=
  ∀ vs H' F', Sim c.z g' σ H' F' → Stp g σ H F g' H' F' → RpA c.z.K F' vs ds → Q vs H'
def EndT (c : Cn) (g : Gm) (σ : Stt) (H F : Hp) (Q : Bool → Hp → Prop) (r : Rs) (g' : Gm) : Prop :=
  ∃ b, r = .fro (.bool b) ∧ ∀ H' F', Sim c.z g' σ H' F' → Stp g σ H F g' H' F' → Q b H'
def tE (c : Cn) (x : Ex) : TE := fun σ H Q => ∃ g F, Sim c.z g σ H F ∧ Pst c (ev c.L x g) (EndE c g σ H F Q)
def tA (c : Cn) (xs : Exs) : TA := fun σ H Q => ∃ g F, Sim c.z g σ H F ∧ Pst c (evs c.L xs g) (EndF c g σ H F Q)
def tT (c : Cn) (x : Ex) : TT := fun σ H Q => ∃ g F, Sim c.z g σ H F ∧ Pst c (ev c.L x g) (EndT c g σ H F Q)
section
variable {c : Cn} {g g1 : Gm} {σ : Stt} {H H1 F F1 : Hp}
theorem RsOk.back {g' : Gm} {H' F' : Hp} {v : V} {r : Rs} (T : Stp g σ H F g1 H1 F1) (q : RsOk c.z H1 g' σ H' F' v r) : RsOk c.z H g' σ H' F' v r := by
  cases r with
  | fro d => exact q
  | own xs =>
    obtain ⟨a, e, h1, h2, h3, h4, h5⟩ := q
    refine ⟨a, e, h1, h2, h3, ?_, h5⟩
    cases q : H a with
    | none => rfl
    | some o => exact absurd h4 (T.h a (by rw [q]; simp))
theorem EndE.shift {Q : VK} {r : Rs} {g' : Gm} (e : EndE c g σ H F Q r g') (T : Stp g σ H F g1 H1 F1) : EndE c g1 σ H1 F1 Q r g' :=
  fun v H' F' S' T' R' => e v H' F' S' (T.trans T') (R'.back T)
theorem EndF.shift {Q : List V → Hp → Prop} {r : List PyData} {g' : Gm} (e : EndF c g σ H F Q r g') (T : Stp g σ H F g1 H1 F1) : EndF c g1 σ H1 F1 Q r g' :=
  fun v H' F' S' T' R' => e v H' F' S' (T.trans T') R'
theorem EndT.shift {Q : Bool → Hp → Prop} {r : Rs} {g' : Gm} (e : EndT c g σ H F Q r g') (T : Stp g σ H F g1 H1 F1) : EndT c g1 σ H1 F1 Q r g' := by
  obtain ⟨b, e1, e2⟩ := e
  exact ⟨b, e1, fun H' F' S' T' => e2 H' F' S' (T.trans T')⟩
/-- a first part, frozen, then the rest -/
theorem tE_step {β : Type} {x : Ex} {k : Rs → Gm → R β} {K : β → Gm → Prop} {Q1 : VK} (S : Sim c.z g σ H F) (P : Pst c ((ev c.L x g).bind k) K)
    (h : ∀ r1 g1 v1 H1 F1, Sim c.z g1 σ H1 F1 → Stp g σ H F g1 H1 F1 → Rp c.z.K F1 v1 r1.d → Pst c (k r1 g1) K → Q1 v1 H1) : tE c x σ H Q1 := by
  refine ⟨g, F, S, P.bind.mono fun r1 g1 P1 v1 H1 F1 S1 T1 R1 => ?_⟩
  obtain ⟨F2, S2, T2, R2⟩ := freeze S1 T1 R1
  exact h r1 g1 v1 H1 F2 S2 T2 R2 P1
theorem tA_step {β : Type} {xs : Exs} {k : List PyData → Gm → R β} {K : β → Gm → Prop} {Q1 : List V → Hp → Prop} (S : Sim c.z g σ H F) (P : Pst c ((evs c.L xs g).bind k) K)
    (h : ∀ ds g1 vs H1 F1, Sim c.z g1 σ H1 F1 → Stp g σ H F g1 H1 F1 → RpA c.z.K F1 vs ds → Pst c (k ds g1) K → Q1 vs H1) : tA c xs σ H Q1 :=
  ⟨g, F, S, P.bind.mono fun ds g1 P1 vs H1 F1 S1 T1 R1 => h ds g1 vs H1 F1 S1 T1 R1 P1⟩
/-- a test first -/
theorem tT_step {β : Type} {x : Ex} {k : Rs → Gm → R β} {K : β → Gm → Prop} {Q1 : Bool → Hp → Prop} (S : Sim c.z g σ H F) (P : Pst c ((ev c.L x g).bind k) K) (hb : ∀ r g1, Pst c (k r g1) K → ∃ b, r = .fro (.bool b))
    (h : ∀ b g1 H1 F1, Sim c.z g1 σ H1 F1 → Stp g σ H F g1 H1 F1 → Pst c (k (.fro (.bool b)) g1) K → Q1 b H1) : tT c x σ H Q1 := by
  refine ⟨g, F, S, P.bind.mono fun r1 g1 P1 => ?_⟩
  obtain ⟨b, rfl⟩ := hb r1 g1 P1
  exact ⟨b, rfl, fun H1 F1 S1 T1 => h b g1 H1 F1 S1 T1 P1⟩
theorem fin_made {Q : VK} {r : Rs} {v : V} {H' : Hp} (S : Sim c.z g σ H F) (P : EndE c g σ H F Q r g) (m : Made c.z.K F H v H' r) : Q v H' := by
  obtain ⟨F', S', T', R'⟩ := made_post S m
  exact P v H' F' S' T' R'
theorem fin_here {Q : VK} {d : PyData} {v : V} (S : Sim c.z g σ H F) (P : EndE c g σ H F Q (.fro d) g) (m : Rp c.z.K F v d) : Q v H := P v H F S (Stp.refl _ _ _ _) m
end
theorem PE_weak {X : Cx} {e : Expr} {t t' : TE} (h : PE X e t) (w : ∀ σ H Q, t' σ H Q → t σ H Q) : PE X e t' := ⟨fun pins s σ H Q I q => h.run pins s σ H Q I (w σ H Q q)⟩
theorem PT_weak {X : Cx} {e : Expr} {t t' : TT} (h : PT X e t) (w : ∀ σ H Q, t' σ H Q → t σ H Q) : PT X e t' := ⟨fun pins s σ H Q I q => h.run pins s σ H Q I (w σ H Q q)⟩
theorem PW_weak {X : Cx} {e : Expr} {t t' : TT} (h : PW X e t) (w : ∀ σ H Q, t' σ H Q → t σ H Q) : PW X e t' := ⟨fun wh pins s σ H Q I q => h.run wh pins s σ H Q I (w σ H Q q)⟩
theorem PA_weak {X : Cx} {e : List Expr} {t t' : TA} (h : PA X e t) (w : ∀ σ H Q, t' σ H Q → t σ H Q) : PA X e t' := ⟨fun pos pins s σ H Q I q => h.run pos pins s σ H Q I (w σ H Q q)⟩
section
variable {c : Cn} {N : List Str} {sc : Scope} {X : Cx} {e e1 e2 e3 : Expr} {a b d : Ex} {pos : Pos}
/-! ### constants and names -/
theorem e_non {j : Nat} : PE X (.Constant .none j pos) (tE c .non) := PE_weak pe_non fun σ H Q ⟨g, F, S, P⟩ => by unfold ev at P; exact fin_here S P .non
theorem e_bl {k : Bool} {j : Nat} : PE X (.Constant (.bool k) j pos) (tE c (.bl k)) := PE_weak pe_bl fun σ H Q ⟨g, F, S, P⟩ => by unfold ev at P; exact fin_here S P (.bl k)
theorem e_int {i : Int} {j : Nat} : PE X (.Constant (.int i) j pos) (tE c (.int i)) := PE_weak pe_int fun σ H Q ⟨g, F, S, P⟩ => by unfold ev at P; exact fin_here S P (.int i)
theorem e_str {s : Str} {j : Nat} (h : PyData.strOk s = true) : PE X (.Constant (.str s) j pos) (tE c (.str s)) := PE_weak pe_str fun σ H Q ⟨g, F, S, P⟩ => by unfold ev at P; exact fin_here S P (.str s h)
theorem get_set_ne {g : Gm} {i j : Nat} {s : Sl} (h : i ≠ j) : (g.set i s)[j]? = g[j]? := List.getElem?_set_ne h
theorem isOwn_set_val {g : Gm} {i j : Nat} {d : PyData} (h : isOwn (g.set i (.val d)) j) : isOwn g j ∧ j ≠ i := by
  by_cases e : i = j
  · subst e
    exfalso
    rcases h with ⟨xs, h⟩ | ⟨xs, h⟩
    all_goals
      rw [List.getElem?_set] at h
      simp only [if_pos] at h
      split at h <;> cases h
  · unfold isOwn at *
    rw [get_set_ne e] at h
    exact ⟨h, fun q => e q.symm⟩
/-- a list of one's own is frozen where it stands -/
theorem own_frz {z : Zc} {g : Gm} {σ : Stt} {H F : Hp} {i : Nat} {xs : List PyData} (S : Sim z g σ H F) (e : g[i]? = some (Sl.own xs)) :
    ∃ a F', σ[i]? = some (some (.ref a)) ∧ Rp z.K F' (.ref a) (.list xs) ∧ Sim z (g.set i (.val (.list xs))) σ H F' ∧ Stp g σ H F (g.set i (.val (.list xs))) H F' := by
  obtain ⟨a, ow, n0⟩ := S.own i xs e
  obtain ⟨vs, h1, h2, h3⟩ := ow.vs
  have hi : i < g.length := (List.getElem?_eq_some_iff.mp e).1
  have sb : Sub F (upd F a (.lst vs)) := Sub.upd ow.nf
  have rp : Rp z.K (upd F a (.lst vs)) (.ref a) (.list xs) := .lst (.inl upd_same) (h2.up sb) h3
  have ne : ∀ j b, isOwn g j → j ≠ i → σ[j]? = some (some (.ref b)) → b ≠ a := fun j b o n s q => n (S.dj j i b o (.inl ⟨xs, e⟩) s (by rw [q]; exact ow.sl))
  have own' : ∀ (j : Nat), j ≠ i → ∀ s, (g.set i (.val (.list xs)))[j]? = some s → g[j]? = some s := fun j n s h => by rw [get_set_ne (Ne.symm n)] at h; exact h
  refine ⟨a, upd F a (.lst vs), ow.sl, rp, ⟨⟨fun b o q => ?_, fun b ps q => ?_, S.G.gr.trans sb, S.G.kp, fun b hb h0 => upd_none (S.G.nw b hb h0) fun q => hb (q ▸ n0), S.G.al, S.G.tb⟩, by rw [List.length_set]; exact S.len, fun j d q => ?_, fun j ys q => ?_, fun j ys q => ?_, S.hio, fun j k b h1 h2 => S.dj j k b (isOwn_set_val h1).1 (isOwn_set_val h2).1⟩,
    ⟨sb, fun _ _ h _ _ => h, fun b hb h0 n => upd_none h0 fun q => n ⟨i, .inl ⟨xs, e⟩, q ▸ ow.sl⟩, fun j h => (isOwn_set_val h).1, fun _ h => h⟩⟩
  · by_cases hb : b = a
    · subst hb; rw [upd_same] at q; cases q; exact h1
    · rw [upd_ne hb] at q; exact S.G.le b o q
  · by_cases hb : b = a
    · subst hb; rw [upd_same] at q; cases q
    · rw [upd_ne hb] at q; exact S.G.nt b ps q
  · by_cases hj : j = i
    · subst hj
      rw [List.getElem?_set_self hi] at q
      cases q
      exact ⟨_, ow.sl, rp⟩
    · obtain ⟨v, s1, s2⟩ := S.val j d (own' j hj _ q)
      exact ⟨v, s1, s2.up sb⟩
  · by_cases hj : j = i
    · subst hj
      rw [List.getElem?_set_self hi] at q
      cases q
    · have q' := own' j hj _ q
      obtain ⟨b, o, nb⟩ := S.own j ys q'
      obtain ⟨ws, a1, a2, a3⟩ := o.vs
      exact ⟨b, ⟨o.sl, ⟨ws, a1, a2.up sb, a3⟩, upd_none o.nf (ne j b (.inl ⟨ys, q'⟩) hj o.sl)⟩, nb⟩
  · by_cases hj : j = i
    · subst hj
      rw [List.getElem?_set_self hi] at q
      cases q
    · have q' := own' j hj _ q
      obtain ⟨b, o, nb⟩ := S.io j ys q'
      obtain ⟨ws, a1, a2, a3⟩ := o.vs
      exact ⟨b, ⟨o.sl, ⟨ws, a1, a2.up sb, a3⟩, upd_none o.nf (ne j b (.inr ⟨ys, q'⟩) hj o.sl)⟩, nb⟩
theorem e_loc {i : Nat} {x : Str} (hN : X.N[i]? = some x) (hv : Vis X.env.scope x) (hd : (x == ("__debug__" : Str)) = false) (hcd : (x == ("__classdict__" : Str)) = false) : PE X (.Name x pos) (tE c (.loc i)) := by
  refine PE_weak (pe_var hN hv hd hcd) fun σ H Q ⟨g, F, S, P⟩ => ?_
  unfold ev at P
  cases q : g[i]? with
  | none => rw [q] at P; exact P.elim
  | some s =>
    rw [q] at P
    cases s with
    | no => exact P.elim
    | io xs => exact P.elim
    | val d =>
      obtain ⟨v, h1, h2⟩ := S.val i d q
      exact ⟨v, h1, fin_here S P h2⟩
    | own xs =>
      obtain ⟨a, F', h1, h2, S', T'⟩ := own_frz S q
      exact ⟨_, h1, P _ _ F' S' T' h2⟩
theorem e_glb {n : Nat} {x : Str} {d : PyData} {v : V} {u : Value} (hg : Gl X x) (hm : X.mg x = some u) (r : RelV v u) (rp : ∀ F, Rp c.z.K F v d) (hl : c.L.gl n = some d) (hd : (x == ("__debug__" : Str)) = false) : PE X (.Name x pos) (tE c (.glb n x)) := by
  refine PE_weak (pe_glob hg hm r hd) fun σ H Q ⟨g, F, S, P⟩ => ?_
  unfold ev at P
  rw [hl] at P
  exact fin_here S P (rp F)
/-! ### operators -/
theorem e_bin {o : BO} (hK : X.K = c.z.K) (ha : PE X e1 (tE c a)) (hb : PE X e2 (tE c b)) : PE X (.BinOp e1 (boOp o) e2 pos) (tE c (.bin o a b)) := by
  have ho := op_bin (X := X) o
  rw [hK] at ho
  refine PE_weak (pe_op ho ha hb) fun σ H Q ⟨g, F, S, P⟩ => ?_
  unfold ev at P
  refine tE_step S P fun r1 g1 v1 H1 F1 S1 T1 R1 P1 => tE_step S1 P1 fun r2 g2 v2 H2 F2 S2 T2 R2 P2 => ?_
  cases q : opB o r1.d r2.d with
  | none => rw [q] at P2; exact P2.elim
  | some r =>
    rw [q] at P2
    exact ⟨F2, _, _, r, S2.G.le, R1.up T2.f, R2, q, fun v H' m => fin_made S2 (EndE.shift P2 (T1.trans T2)) m⟩
theorem e_neg (ha : PE X e1 (tE c a)) : PE X (.UnaryOp .USub e1 pos) (tE c (.neg a)) := by
  refine PE_weak (pe_un un_neg ha) fun σ H Q ⟨g, F, S, P⟩ => ?_
  unfold ev at P
  refine tE_step S P fun r1 g1 v1 H1 F1 S1 T1 R1 P1 => ?_
  cases r1 with
  | own xs => exact P1.elim
  | fro d =>
    cases d with
    | int i =>
      cases R1.int_inv
      exact ⟨i, rfl, fin_here S1 (EndE.shift P1 T1) (.int _)⟩
    | _ => exact P1.elim
theorem e_not (ha : PE X e1 (tE c a)) : PE X (.UnaryOp .Not e1 pos) (tE c (.not a)) := by
  refine PE_weak (pe_not ha) fun σ H Q ⟨g, F, S, P⟩ => ?_
  unfold ev at P
  refine tE_step S P fun r1 g1 v1 H1 F1 S1 T1 R1 P1 => ?_
  cases r1 with
  | own xs => exact P1.elim
  | fro d =>
    cases d with
    | bool k =>
      cases R1.bl_inv
      exact ⟨k, rfl, fin_here S1 (EndE.shift P1 T1) (.bl _)⟩
    | _ => exact P1.elim
theorem tT_of {x : Ex} {σ : Stt} {H : Hp} {Q : Bool → Hp → Prop} (h : tT c x σ H Q) : tB (tE c x) σ H Q := by
  obtain ⟨g, F, S, P⟩ := h
  refine ⟨g, F, S, P.mono fun r g' ⟨b, e, q⟩ v H' F' S' T' R' => ?_⟩
  subst e
  cases (show Rp c.z.K F' v (.bool b) from R').bl_inv
  exact ⟨b, rfl, q H' F' S' T'⟩
theorem t_val {x : Ex} (h : PE X e (tE c x)) (he : ∀ whole, isTrue e X.env whole = (do let v ← whole; standAt e.pos; holding [v] (truthy v))) : PT X e (tT c x) :=
  PT_weak (pt_val h he) fun σ H Q q => tT_of q
theorem t_not (ha : PT X e1 (tT c a)) : PT X (.UnaryOp .Not e1 pos) (tT c (.not a)) := by
  refine PT_weak (pt_not ha) fun σ H Q ⟨g, F, S, P⟩ => ?_
  unfold ev at P
  refine tT_step S P (fun r g1 p => ?_) fun k g1 H1 F1 S1 T1 P1 => ?_
  · cases r with
    | own xs => exact p.elim
    | fro d =>
      cases d with
      | bool k => exact ⟨k, rfl⟩
      | _ => exact p.elim
  · obtain ⟨b, e, q⟩ := EndT.shift P1 T1
    cases e
    exact q H1 F1 S1 (Stp.refl _ _ _ _)
theorem bool_of {α : Type} {r : Rs} {g : Gm} {K : α → Gm → Prop} {k1 k2 : Gm → R α} (p : Pst c (match r with
    | .fro (.bool true) => k1 g
    | .fro (.bool false) => k2 g
    | _ => .stuck) K) : ∃ b, r = .fro (.bool b) := by
  cases r with
  | own xs => exact p.elim
  | fro d =>
    cases d with
    | bool k => exact ⟨k, rfl⟩
    | _ => exact p.elim
theorem e_and {rest : List Expr} (ha : PE X e1 (tE c a)) (hb : PE X (.BoolOp .And (e2 :: rest) pos) (tE c b)) : PE X (.BoolOp .And (e1 :: e2 :: rest) pos) (tE c (.and a b)) := by
  refine PE_weak (pe_and ha hb) fun σ H Q ⟨g, F, S, P⟩ => ?_
  unfold ev at P
  refine tE_step S P fun r1 g1 v1 H1 F1 S1 T1 R1 P1 => ?_
  obtain ⟨k, rfl⟩ := bool_of P1
  cases R1.bl_inv
  refine ⟨k, rfl, ?_⟩
  cases k with
  | true => exact ⟨g1, F1, S1, P1.mono fun r g' q => EndE.shift q T1⟩
  | false => exact fin_here S1 (EndE.shift P1 T1) (.bl _)
theorem e_or {rest : List Expr} (ha : PE X e1 (tE c a)) (hb : PE X (.BoolOp .Or (e2 :: rest) pos) (tE c b)) : PE X (.BoolOp .Or (e1 :: e2 :: rest) pos) (tE c (.or a b)) := by
  refine PE_weak (pe_or ha hb) fun σ H Q ⟨g, F, S, P⟩ => ?_
  unfold ev at P
  refine tE_step S P fun r1 g1 v1 H1 F1 S1 T1 R1 P1 => ?_
  obtain ⟨k, rfl⟩ := bool_of (k1 := fun g1 => (R.ok (Rs.fro (PyData.bool true)) g1 : R Rs)) P1
  cases R1.bl_inv
  refine ⟨k, rfl, ?_⟩
  cases k with
  | false => exact ⟨g1, F1, S1, P1.mono fun r g' q => EndE.shift q T1⟩
  | true => exact fin_here S1 (EndE.shift P1 T1) (.bl _)
theorem w_and {rest : List Expr} (ha : PT X e1 (tT c a)) (hb : PW X (.BoolOp .And (e2 :: rest) pos) (tT c b)) : PW X (.BoolOp .And (e1 :: e2 :: rest) pos) (tT c (.and a b)) := by
  refine PW_weak (pw_and ha hb) fun σ H Q ⟨g, F, S, P⟩ => ?_
  unfold ev at P
  refine tT_step S P (fun r g1 p => bool_of p) fun k g1 H1 F1 S1 T1 P1 => ?_
  cases k with
  | true => exact ⟨g1, F1, S1, P1.mono fun r g' q => EndT.shift q T1⟩
  | false =>
    obtain ⟨b, e, q⟩ := EndT.shift P1 T1
    cases e
    exact q H1 F1 S1 (Stp.refl _ _ _ _)
theorem w_or {rest : List Expr} (ha : PT X e1 (tT c a)) (hb : PW X (.BoolOp .Or (e2 :: rest) pos) (tT c b)) : PW X (.BoolOp .Or (e1 :: e2 :: rest) pos) (tT c (.or a b)) := by
  refine PW_weak (pw_or ha hb) fun σ H Q ⟨g, F, S, P⟩ => ?_
  unfold ev at P
  refine tT_step S P (fun r g1 p => bool_of (k1 := fun g1 => (R.ok (Rs.fro (PyData.bool true)) g1 : R Rs)) p) fun k g1 H1 F1 S1 T1 P1 => ?_
  cases k with
  | false => exact ⟨g1, F1, S1, P1.mono fun r g' q => EndT.shift q T1⟩
  | true =>
    obtain ⟨b, e, q⟩ := EndT.shift P1 T1
    cases e
    exact q H1 F1 S1 (Stp.refl _ _ _ _)
theorem e_ite (hc : PT X e1 (tT c d)) (ha : PE X e2 (tE c a)) (hb : PE X e3 (tE c b)) : PE X (.IfExp e1 e2 e3 pos) (tE c (.ite d a b)) := by
  refine PE_weak (pe_ifExp hc ha hb) fun σ H Q ⟨g, F, S, P⟩ => ?_
  unfold ev at P
  refine tT_step S P (fun r g1 p => bool_of p) fun k g1 H1 F1 S1 T1 P1 => ?_
  cases k with
  | true => exact ⟨g1, F1, S1, P1.mono fun r g' q => EndE.shift q T1⟩
  | false => exact ⟨g1, F1, S1, P1.mono fun r g' q => EndE.shift q T1⟩
/-! ### comparisons -/
theorem cmp_read {o : CO} {σ : Stt} {H : Hp} {Q : VK} (h : tE c (.cmp o a b) σ H Q) : tOp (rCo c.z.K o) (tE c a) (tE c b) σ H Q := by
  obtain ⟨g, F, S, P⟩ := h
  unfold ev at P
  refine tE_step S P fun r1 g1 v1 H1 F1 S1 T1 R1 P1 => tE_step S1 P1 fun r2 g2 v2 H2 F2 S2 T2 R2 P2 => ?_
  cases q : opC o r1.d r2.d with
  | none => rw [q] at P2; exact P2.elim
  | some k =>
    rw [q] at P2
    exact ⟨F2, _, _, k, S2.G.le, R1.up T2.f, R2, q, fin_here S2 (EndE.shift P2 (T1.trans T2)) (.bl _)⟩
theorem e_cmp {o : CO} (hK : X.K = c.z.K) (hu : X.A.units + 64 < cLine) (ha : PE X e1 (tE c a)) (hb : PE X e2 (tE c b)) (hm : behindInMarks (coOp o) e2 = false) : PE X (.Compare e1 [coOp o] [e2] pos) (tE c (.cmp o a b)) := by
  have ho := op_cmp hu o
  rw [hK] at ho
  exact PE_weak (pe_cmpR ho ha hb hm) fun σ H Q h => cmp_read h
/-- a reading told as a test -/
theorem tT_mono {x : Ex} {t : TE} (h : ∀ σ H Q, tE c x σ H Q → t σ H Q) {σ : Stt} {H : Hp} {Q : Bool → Hp → Prop} (q : tT c x σ H Q) : tTest t σ H Q := h σ H _ (tT_of q)
theorem t_cmp {o : CO} (hK : X.K = c.z.K) (hu : X.A.units + 64 < cLine) (ha : PE X e1 (tE c a)) (hb : PE X e2 (tE c b)) (hm : behindInMarks (coOp o) e2 = false) : PT X (.Compare e1 [coOp o] [e2] pos) (tT c (.cmp o a b)) := by
  have ho := op_cmp hu o
  rw [hK] at ho
  exact PT_weak (pt_cmpR ho ha hb hm) fun σ H Q h => tT_mono (fun σ H Q h => cmp_read h) h
theorem chain_read {o p : CO} {σ : Stt} {H : Hp} {Q : VK} (h : tE c (.chain o p a b d) σ H Q) : tChain (rCo c.z.K o) (rCo c.z.K p) (tE c a) (tE c b) (tE c d) σ H Q := by
  obtain ⟨g, F, S, P⟩ := h
  unfold ev at P
  refine tE_step S P fun r1 g1 v1 H1 F1 S1 T1 R1 P1 => tE_step S1 P1 fun r2 g2 v2 H2 F2 S2 T2 R2 P2 => ?_
  cases q : opC o r1.d r2.d with
  | none => rw [q] at P2; exact P2.elim
  | some k =>
    rw [q] at P2
    refine ⟨F2, _, _, k, S2.G.le, R1.up T2.f, R2, q, k, rfl, ?_⟩
    cases k with
    | false => exact fin_here S2 (EndE.shift P2 (T1.trans T2)) (.bl _)
    | true =>
      refine tE_step S2 P2 fun r3 g3 v3 H3 F3 S3 T3 R3 P3 => ?_
      cases q2 : opC p r2.d r3.d with
      | none => rw [q2] at P3; exact P3.elim
      | some k =>
        rw [q2] at P3
        exact ⟨F3, _, _, k, S3.G.le, R2.up T3.f, R3, q2, fin_here S3 (EndE.shift P3 ((T1.trans T2).trans T3)) (.bl _)⟩
theorem e_chain {o p : CO} (hK : X.K = c.z.K) (hu : X.A.units + 64 < cLine) (ha : PE X e1 (tE c a)) (hb : PE X e2 (tE c b)) (hd : PE X e3 (tE c d)) (hm : lastMarks [coOp o, coOp p] [e2, e3] = false) : PE X (.Compare e1 [coOp o, coOp p] [e2, e3] pos) (tE c (.chain o p a b d)) := by
  have ho := op_cmp hu o
  have hp := op_cmp hu p
  rw [hK] at ho hp
  exact PE_weak (pe_chain ho hp ha hb hd hm) fun σ H Q h => chain_read h
theorem t_chain {o p : CO} (hK : X.K = c.z.K) (hu : X.A.units + 64 < cLine) (ha : PE X e1 (tE c a)) (hb : PE X e2 (tE c b)) (hd : PE X e3 (tE c d)) (hm : lastMarks [coOp o, coOp p] [e2, e3] = false) : PT X (.Compare e1 [coOp o, coOp p] [e2, e3] pos) (tT c (.chain o p a b d)) := by
  have ho := op_cmp hu o
  have hp := op_cmp hu p
  rw [hK] at ho hp
  exact PT_weak (pt_chain ho hp ha hb hd hm) fun σ H Q h => tT_mono (fun σ H Q h => chain_read h) h
/-! ### displays, arguments -/
theorem a_nil : PA X [] (tA c .nil) := PA_weak pa_nil fun σ H Q ⟨g, F, S, P⟩ => by unfold evs at P; exact P [] H F S (Stp.refl _ _ _ _) .nil
theorem a_cons {x : Ex} {xs : Exs} {es : List Expr} (ha : PE X e (tE c x)) (hr : PA X es (tA c xs)) (hs : starEach (e :: es) X.env = (false, eval e X.env) :: starEach es X.env) : PA X (e :: es) (tA c (.cons x xs)) := by
  refine PA_weak (pa_cons ha hr hs) fun σ H Q ⟨g, F, S, P⟩ => ?_
  unfold evs at P
  refine tE_step S P fun r1 g1 v1 H1 F1 S1 T1 R1 P1 => tA_step S1 P1 fun ds g2 vs H2 F2 S2 T2 R2 P2 => ?_
  exact EndF.shift P2 (T1.trans T2) _ H2 F2 S2 (Stp.refl _ _ _ _) (.cons (R1.up T2.f) R2)
theorem le_line {n : Nat} (h : n ≤ 1000) : n ≤ sizeLine := Nat.le_trans h (by rw [sizeLine_eq]; decide)
theorem e_tup {xs : Exs} {es : List Expr} {k : Nat} (h : PA X es (tA c xs)) : PE X (.Tuple es k pos) (tE c (.tup xs)) := by
  refine PE_weak (pe_tup h) fun σ H Q ⟨g, F, S, P⟩ => ?_
  unfold ev at P
  refine tA_step S P fun ds g1 vs H1 F1 S1 T1 R1 P1 => ?_
  split at P1
  · rename_i hl
    exact ⟨by rw [R1.length]; exact le_line hl, fun p hp => fin_made S1 (EndE.shift P1 T1) (.inr ⟨p, vs, ds, hp, rfl, rfl, rfl, R1, le_line hl⟩)⟩
  · exact P1.elim
theorem e_lst {xs : Exs} {es : List Expr} (h : PA X es (tA c xs)) : PE X (.List es pos) (tE c (.lst xs)) := by
  refine PE_weak (pe_lst h) fun σ H Q ⟨g, F, S, P⟩ => ?_
  unfold ev at P
  refine tA_step S P fun ds g1 vs H1 F1 S1 T1 R1 P1 => ?_
  split at P1
  · rename_i hl
    exact ⟨by rw [R1.length]; exact le_line hl, fun p hp => fin_made S1 (EndE.shift P1 T1) ⟨p, vs, hp, rfl, rfl, R1, le_line hl⟩⟩
  · exact P1.elim
/-! ### subscripts -/
def rIxP (K : PySem.W.Frag) : R2 := fun x y H Q => ∃ F d e w, Sub F H ∧ Rp K F x d ∧ Rp K F y e ∧ opI d e = some w ∧ ∀ v, Rp K F v w → Q v H
theorem ix_data : IxR X (rIxP X.K) := by
  intro value slice pins s σ H x y v u Q I rx ry h hs
  obtain ⟨F, d, e, w, sb, hd, he, ho, q⟩ := h
  unfold opI at ho
  split at ho
  · obtain ⟨a, vs, rfl, h1, h2, h3⟩ := hd.tup_inv
    cases he.int_inv
    obtain ⟨v', e1, e2⟩ := h2.atI ho
    exact ix_tup value slice pins s σ H _ _ v u Q I rx ry ⟨a, vs, _, v', rfl, rfl, SqT_sub sb h1, e1, q v' e2⟩ hs
  · obtain ⟨a, vs, rfl, h1, h2, h3⟩ := hd.lst_inv
    cases he.int_inv
    obtain ⟨v', e1, e2⟩ := h2.atI ho
    exact ix_list value slice pins s σ H _ _ v u Q I rx ry ⟨a, vs, _, v', rfl, rfl, .inl (Rd_sub sb h1), e1, q v' e2⟩ hs
  · cases ho
theorem e_idx (hK : X.K = c.z.K) (ha : PE X e1 (tE c a)) (hb : PE X e2 (tE c b)) (hs : PlainIx e2) : PE X (.Subscript e1 e2 pos) (tE c (.idx a b)) := by
  have hi := ix_data (X := X)
  rw [hK] at hi
  refine PE_weak (pe_ix hi ha hb hs) fun σ H Q ⟨g, F, S, P⟩ => ?_
  unfold ev at P
  refine tE_step S P fun r1 g1 v1 H1 F1 S1 T1 R1 P1 => tE_step S1 P1 fun r2 g2 v2 H2 F2 S2 T2 R2 P2 => ?_
  cases q : opI r1.d r2.d with
  | none => rw [q] at P2; exact P2.elim
  | some w =>
    rw [q] at P2
    exact ⟨F2, _, _, w, S2.G.le, R1.up T2.f, R2, q, fun v m => fin_here S2 (EndE.shift P2 (T1.trans T2)) m⟩
end
end TB
set_option maxHeartbeats 1000000
/-! sorted, min, max of data of one shape. -/
namespace TB
open PySem PySem.W PySem.Spec PyProof.Rows L2
mutual
theorem shp_alike : ∀ (h x y : PyData), shp h x = true → shp h y = true → alike x y = true
  | .bool _, x, y, h1, h2 => by
    cases x <;> cases y <;> first | (simp [alike]; done) | (simp [shp] at h1; done) | (simp [shp] at h2; done)
  | .int _, x, y, h1, h2 => by
    cases x <;> cases y <;> first | (simp [alike]; done) | (simp [shp] at h1; done) | (simp [shp] at h2; done)
  | .str _, x, y, h1, h2 => by
    cases x <;> cases y <;> first | (simp [alike]; done) | (simp [shp] at h1; done) | (simp [shp] at h2; done)
  | .tuple xs, x, y, h1, h2 => by
    cases x with
    | tuple as =>
      cases y with
      | tuple bs =>
        simp only [shp] at h1 h2
        simp only [alike]
        exact shpAll_alike xs as bs h1 h2
      | _ => simp [shp] at h2
    | _ => simp [shp] at h1
  | .list xs, x, y, h1, h2 => by
    cases x with
    | list as =>
      cases y with
      | list bs =>
        simp only [shp] at h1 h2
        simp only [alike]
        exact shpAll_alike xs as bs h1 h2
      | _ => simp [shp] at h2
    | _ => simp [shp] at h1
  | .none, x, y, h1, h2 => by simp [shp] at h1
  | .dict _, x, y, h1, h2 => by simp [shp] at h1
theorem shpAll_alike : ∀ (h x y : List PyData), shpAll h x = true → shpAll h y = true → alikeAll x y = true
  | [], x, y, h1, h2 => by
    cases x with
    | nil => cases y <;> simp [alikeAll]
    | cons _ _ => simp [shpAll] at h1
  | h :: hs, x, y, h1, h2 => by
    cases x with
    | nil => simp [shpAll] at h1
    | cons a as =>
      cases y with
      | nil => simp [shpAll] at h2
      | cons b bs =>
        simp only [shpAll, Bool.and_eq_true] at h1 h2
        simp only [alikeAll, Bool.and_eq_true]
        exact ⟨shp_alike h a b h1.1 h2.1, shpAll_alike hs as bs h1.2 h2.2⟩
end
theorem ord_all {x : PyData} {xs : List PyData} (h : ordB (x :: xs) = true) : noTup0 x = true ∧ ∀ y ∈ x :: xs, shp x y = true ∧ y.depth ≤ 40 := by
  unfold ordB at h
  rw [Bool.and_eq_true] at h
  refine ⟨h.1, fun y hy => ?_⟩
  have q := List.all_eq_true.mp h.2 y hy
  rw [Bool.and_eq_true] at q
  exact ⟨q.1, of_decide_eq_true q.2⟩
theorem ord_alike {xs : List PyData} (h : ordB xs = true) : AllAlike xs := by
  cases xs with
  | nil => intro d hd; cases hd
  | cons x xs =>
    obtain ⟨_, h2⟩ := ord_all h
    exact fun a ha b hb => shp_alike x a b (h2 a ha).1 (h2 b hb).1
theorem ord_depth {xs : List PyData} (h : ordB xs = true) : ∀ y ∈ xs, y.depth ≤ 40 := by
  cases xs with
  | nil => intro d hd; cases hd
  | cons x xs => exact fun y hy => ((ord_all h).2 y hy).2
theorem depthAll_le {n : Nat} : ∀ {xs : List PyData}, (∀ y ∈ xs, y.depth ≤ n) → PyData.depthAll xs ≤ n
  | [], _ => by simp [PyData.depthAll]
  | x :: xs, h => by
    simp only [PyData.depthAll]
    have h1 := h x (List.mem_cons_self ..)
    have h2 := depthAll_le (n := n) fun y hy => h y (List.mem_cons_of_mem _ hy)
    omega
theorem ord_none {xs : List PyData} (h : ordB xs = true) : ∀ y ∈ xs, y ≠ .none := by
  cases xs with
  | nil => intro d hd; cases hd
  | cons x xs =>
    rintro y hy rfl
    have := ((ord_all h).2 _ hy).1
    cases x <;> simp [shp] at this
theorem ord_sortable {xs : List PyData} (h : ordB xs = true) : Sortable xs := by
  cases xs with
  | nil => exact .inl fun d hd => by cases hd
  | cons x xs =>
    obtain ⟨h1, h2⟩ := ord_all h
    cases x with
    | tuple as =>
      cases as with
      | nil => cases h1
      | cons a as =>
        refine .inl fun d hd => ?_
        have := (h2 d hd).1
        cases d with
        | tuple bs =>
          cases bs with
          | nil => simp [shp, shpAll] at this
          | cons b bs => exact ⟨b, bs, rfl⟩
        | _ => simp [shp] at this
    | none => have := (h2 _ (List.mem_cons_self ..)).1; simp [shp] at this
    | dict _ => have := (h2 _ (List.mem_cons_self ..)).1; simp [shp] at this
    | _ =>
      refine .inr fun d hd => ?_
      have := (h2 d hd).1
      refine ⟨?_, fun xs e => ?_⟩
      · rintro rfl; simp [shp] at this
      · subst e; simp [shp] at this
end TB
set_option maxHeartbeats 1000000
/-! the sort -/
namespace TB
open PySem PySem.W PySem.Spec PyProof.Rows L2
/-! ### the sort -/
abbrev dle : PyData → PyData → Bool := dataLe false id
theorem dle_eq (a b : PyData) : dle a b = !dataLt b a := rfl
theorem dle_tot : TotalLe dle := sortLe_total (listOrd itemOrd) false fun b => keyToks (id b)
theorem ins_perm (x : PyData) : ∀ ys : List PyData, (ins x ys).Perm (x :: ys)
  | [] => List.Perm.refl _
  | y :: ys => by
    unfold ins
    split
    · exact ((ins_perm x ys).cons y).trans (List.Perm.swap x y ys)
    · exact List.Perm.refl _
theorem isort_perm : ∀ xs : List PyData, (isort xs).Perm xs
  | [] => List.Perm.refl _
  | x :: xs => (ins_perm x _).trans ((isort_perm xs).cons x)
theorem ins_ord {x : PyData} : ∀ {ys : List PyData}, ys.Pairwise (fun a b => dle a b = true) → (ins x ys).Pairwise (fun a b => dle a b = true)
  | [], _ => List.pairwise_singleton _ _
  | y :: ys, h => by
    unfold ins
    obtain ⟨h1, h2⟩ := List.pairwise_cons.mp h
    split
    · rename_i q
      refine List.pairwise_cons.mpr ⟨fun z hz => ?_, ins_ord h2⟩
      rcases List.mem_cons.mp ((ins_perm x ys).mem_iff.mp hz) with e | e
      · subst e
        have t := dle_tot.total y z
        have : dle z y = false := by rw [dle_eq, q]; rfl
        rw [this] at t
        simpa using t
      · exact h1 z e
    · rename_i q
      have q' : dle x y = true := by rw [dle_eq]; simpa using q
      refine List.pairwise_cons.mpr ⟨fun z hz => ?_, h⟩
      rcases List.mem_cons.mp hz with e | e
      · subst e; exact q'
      · exact dle_tot.trans _ _ _ q' (h1 z e)
theorem isort_ord : ∀ xs : List PyData, (isort xs).Pairwise (fun a b => dle a b = true)
  | [] => List.Pairwise.nil
  | x :: xs => ins_ord (isort_ord xs)
open PySem.W.Srt in
theorem ins_cls {x z : PyData} : ∀ ys : List PyData, (ins x ys).filter (PySem.W.Srt.alike dle z) = (x :: ys).filter (PySem.W.Srt.alike dle z)
  | [] => rfl
  | y :: ys => by
    unfold ins
    split
    · rename_i q
      have hxy : dle x y = false := by rw [dle_eq, q]; rfl
      have ih := ins_cls (x := x) (z := z) ys
      by_cases hx : PySem.W.Srt.alike dle z x = true
      · have hy : PySem.W.Srt.alike dle z y = false := by
          cases hy : PySem.W.Srt.alike dle z y with
          | false => rfl
          | true =>
            unfold PySem.W.Srt.alike at hx hy
            rw [Bool.and_eq_true] at hx hy
            rw [dle_tot.trans _ _ _ hx.2 hy.1] at hxy
            cases hxy
        have hy' : ¬ PySem.W.Srt.alike dle z y = true := by rw [hy]; simp
        rw [List.filter_cons_of_neg hy', ih, List.filter_cons_of_pos hx, List.filter_cons_of_pos hx, List.filter_cons_of_neg hy']
      · rw [List.filter_cons_of_neg hx] at ih
        rw [List.filter_cons_of_neg hx, List.filter_cons, List.filter_cons, ih]
    · rfl
theorem isort_cls {z : PyData} : ∀ xs : List PyData, (isort xs).filter (PySem.W.Srt.alike dle z) = xs.filter (PySem.W.Srt.alike dle z)
  | [] => rfl
  | x :: xs => by
    show (ins x (isort xs)).filter _ = _
    rw [ins_cls, List.filter_cons, List.filter_cons, isort_cls xs]
theorem isort_eq (xs : List PyData) : isort xs = xs.mergeSort dle :=
  PySem.W.Srt.the dle (fun a b c => dle_tot.trans a b c) (fun a b => Bool.or_eq_true_iff.mpr (dle_tot.total a b)) (isort_ord xs) fun z => isort_cls xs
/-! ### calls -/
section
variable {X : Cx} {pins : List (Addr × Obj)} {σ : Stt} {H F : Hp} {s : Shared} {Q : VK}
def ItR (K : PySem.W.Frag) (F : Hp) (u : Value) (d : PyData) : Prop := ∃ x, RelV x u ∧ Rp K F x d
theorem each_rp {K : PySem.W.Frag} : ∀ {vs : List V} {xs : List PyData} {us : List Value}, RpA K F vs xs → Vals vs us → EachIs (ItR K F) us xs
  | [], _, _, r, w => by cases r; cases w; exact .nil
  | v :: vs, _, _, r, w => by
    cases r with
    | cons r1 r2 =>
      cases w with
      | cons w1 w2 => exact .cons ⟨v, w1, r1⟩ (each_rp r2 w2)
theorem each_back {K : PySem.W.Frag} : ∀ {us : List Value} {xs : List PyData}, EachIs (ItR K F) us xs → ∃ vs, Vals vs us ∧ RpA K F vs xs
  | _, _, .nil => ⟨[], .nil, .nil⟩
  | _, _, .cons ⟨x, h1, h2⟩ t => by
    obtain ⟨vs, w1, w2⟩ := each_back t
    exact ⟨x :: vs, .cons h1 w1, .cons h2 w2⟩
theorem sorted_call {vs : List V} {us : List Value} {xs : List PyData} (hu : X.A.units + 64 < cLine) (I : Inv X pins σ H s) (r : Vals vs us) (sb : Sub F H) (rp : RpA X.K F vs [.list xs]) (ho : ordB xs = true) (q : ∀ v H', Made X.K F H v H' (.own (isort xs)) → Q v H') :
    wpAny (model X.prog X.w) X.A (call (.builtin "sorted") us) (EP X pins σ Q) X.xe s := by
  cases rp with
  | cons rp0 rp1 =>
    cases rp1
    obtain ⟨a, ws, rfl, h1, h2, h3⟩ := rp0.lst_inv
    rw [Vals.ref1 r]
    obtain ⟨its, rv, hl, hz⟩ := I.list (.inl (Rd_sub sb h1))
    have e := each_rp h2 rv
    refine sorted_data (R := ItR X.K F) (enc := id) hl.isList e (e.mono fun u d ⟨x, w1, w2⟩ => Dp.reads I d x u (Rp.dp d x (w2.up sb)) w1) (by rw [List.map_id]; exact ord_alike ho) (by rw [List.map_id]; exact ord_sortable ho) h3 (fun b hb => ?_) fun out hout eo => ?_
    · have := ord_depth ho b hb
      show X.A.units + 2 + b.depth < cLine
      omega
    · have eq : xs.mergeSort (dataLe false id) = isort xs := (isort_eq xs).symm
      rw [eq] at eo
      obtain ⟨zs, w1, w2⟩ := each_back eo
      obtain ⟨ep, he'⟩ := PyProof.Rows.sortedAll_at s.heap its out.toArray
      have hlen : zs.length ≤ sizeLine := by
        rw [w2.length, (isort_perm xs).length_eq]
        exact h3
      exact ⟨.ref _, upd H (s.heap.objs.size + 1) (.lst zs), I.laid (t' := s.toks) (fun _ _ => PyProof.Rows.sortedAll_old) (Nat.le_succ _) ⟨hlen, out, ep, w1, he'⟩, rfl, q _ _ ⟨_, zs, I.hok.fresh (Nat.le_succ _), rfl, rfl, w2, by rw [← w2.length]; exact hlen⟩⟩
theorem fold_mem (f : PyData → PyData → Bool) : ∀ (xs : List PyData) (x : PyData), xs.foldl (fun a y => if f a y then y else a) x ∈ x :: xs
  | [], x => List.mem_singleton.mpr rfl
  | y :: xs, x => by
    rw [List.foldl_cons]
    have := fold_mem f xs (if f x y then y else x)
    rcases List.mem_cons.mp this with e | e
    · rw [e]
      split
      · exact List.mem_cons_of_mem _ (List.mem_cons_self ..)
      · exact List.mem_cons_self ..
    · exact List.mem_cons_of_mem _ (List.mem_cons_of_mem _ e)
theorem minL_mem (x : PyData) (xs : List PyData) : minL x xs ∈ x :: xs := fold_mem (fun a y => dataLt y a) xs x
theorem maxL_mem (x : PyData) (xs : List PyData) : maxL x xs ∈ x :: xs := fold_mem (fun a y => dataLt a y) xs x
theorem ord_alikeAll {xs : List PyData} (h : ordB xs = true) : AlikeAll xs := ⟨ord_alike h, ord_none h⟩
/-- an item that reads as one of the list is that one -/
theorem pick_item {vs : List V} {its : List Value} {xs : List PyData} {i : Nat} {v : Value} {m : PyData} {bs : List Addr} {h' : Heap} {tk : Nat} (I : Inv X pins σ H { s with heap := h', toks := tk }) (sb : Sub F H) (rv : Vals vs its) (h2 : RpA X.K F vs xs) (ho : ordB xs = true) (hv : its.toArray[i]? = some v) (hm : m ∈ xs)
    (rd : Reads h' v m bs) (q : ∀ w, Rp X.K F w m → Q w H) : EP X pins σ Q v { s with heap := h', toks := tk } := by
  have hv' : its[i]? = some v := by simpa using hv
  have hi : i < vs.length := by
    rw [rv.length]
    exact (List.getElem?_eq_some_iff.mp hv').1
  have hx : vs[i]? = some vs[i] := List.getElem?_eq_getElem hi
  obtain ⟨u, hu, ru⟩ := rv.get hx
  rw [hv'] at hu
  cases hu
  obtain ⟨d, hd, rd2⟩ := h2.getv hx
  obtain ⟨as, rd3⟩ := Dp.reads I d _ v (Rp.dp d _ (rd2.up sb)) ru
  have e := alike_unique _ _ _ _ _ (ord_alike ho d (List.mem_of_getElem? hd) m hm) rd3 rd
  subst e
  exact ⟨_, H, I, ru, q _ rd2⟩
theorem min_call {vs : List V} {us : List Value} {x : PyData} {xs : List PyData} (hc : X.calm = true) (hu : X.A.units + 64 < cLine) (I : Inv X pins σ H s) (r : Vals vs us) (sb : Sub F H) (rp : RpA X.K F vs [.list (x :: xs)]) (ho : ordB (x :: xs) = true) (q : ∀ v H', Made X.K F H v H' (.fro (minL x xs)) → Q v H') :
    wpAny (model X.prog X.w) X.A (call (.builtin "min") us) (EP X pins σ Q) X.xe s := by
  cases rp with
  | cons rp0 rp1 =>
    cases rp1
    obtain ⟨a, ws, rfl, h1, h2, h3⟩ := rp0.lst_inv
    rw [Vals.ref1 r]
    obtain ⟨its, rv, hl, hz⟩ := I.list (.inl (Rd_sub sb h1))
    obtain ⟨as, ra⟩ := Dp.readsAll I (x :: xs) ws its (Rp.dpA _ _ (h2.up sb)) rv
    have hd := depthAll_le (n := 40) (ord_depth ho)
    refine min_list_data (I.ok.hd hc) hl.isList (by simpa using ra) (ord_alikeAll ho) (by omega) fun i v h' tk bs hv rd hk => ?_
    exact pick_item (I.kept (t' := tk) hk) sb rv h2 ho hv (minL_mem x xs) rd fun w rw' => q w H (.inl ⟨rfl, rw'⟩)
theorem max_call {vs : List V} {us : List Value} {x : PyData} {xs : List PyData} (hc : X.calm = true) (hu : X.A.units + 64 < cLine) (I : Inv X pins σ H s) (r : Vals vs us) (sb : Sub F H) (rp : RpA X.K F vs [.list (x :: xs)]) (ho : ordB (x :: xs) = true) (q : ∀ v H', Made X.K F H v H' (.fro (maxL x xs)) → Q v H') :
    wpAny (model X.prog X.w) X.A (call (.builtin "max") us) (EP X pins σ Q) X.xe s := by
  cases rp with
  | cons rp0 rp1 =>
    cases rp1
    obtain ⟨a, ws, rfl, h1, h2, h3⟩ := rp0.lst_inv
    rw [Vals.ref1 r]
    obtain ⟨its, rv, hl, hz⟩ := I.list (.inl (Rd_sub sb h1))
    obtain ⟨as, ra⟩ := Dp.readsAll I (x :: xs) ws its (Rp.dpA _ _ (h2.up sb)) rv
    have hd := depthAll_le (n := 40) (ord_depth ho)
    refine max_list_data (I.ok.hd hc) hl.isList (by simpa using ra) (ord_alikeAll ho) (by omega) fun i v h' tk bs hv rd hk => ?_
    exact pick_item (I.kept (t' := tk) hk) sb rv h2 ho hv (maxL_mem x xs) rd fun w rw' => q w H (.inl ⟨rfl, rw'⟩)
end
end TB
set_option maxHeartbeats 1000000
/-! Slices, lists read in place, built-ins, calls of defs. -/
namespace TB
open PySem PySem.Spec PyProof.Rows L2
section
variable {c : Cn} {N : List Str} {sc : Scope} {X : Cx} {e e1 e2 e3 : Expr} {a b d : Ex} {pos p1 p2 : Pos}
/-! ### slices -/
theorem strOk_cut {z : Str} {lo hi : Option Int} (h : PyData.strOk z = true) : PyData.strOk (cutS z lo hi) = true := by
  unfold PyData.strOk cutS at *
  rw [← Array.all_toList, List.all_eq_true] at h
  rw [← Array.all_toList, List.all_eq_true]
  intro x hx
  exact h x (List.mem_of_mem_drop (List.mem_of_mem_take (by simpa using hx)))
def rSlP (K : PySem.W.Frag) : V → Option Int → Option Int → Hp → VK → Prop := fun x lo hi H Q => ∃ F d r, Sub F H ∧ Rp K F x d ∧ opS d lo hi = some r ∧ ∀ v H', Made K F H v H' r → Q v H'
theorem sl_data : SlR X (rSlP X.K) := by
  intro pins s σ H x v vl vu lo hi sl Q I rx hs pl pu h
  obtain ⟨F, d, r, sb, hd, ho, q⟩ := h
  unfold opS at ho
  split at ho
  · obtain ⟨a, vs, rfl, h1, h2, h3⟩ := hd.tup_inv
    cases ho
    refine sl_tupA pins s σ H _ v vl vu lo hi sl Q I rx hs pl pu ⟨a, vs, rfl, SqT_sub sb h1, fun w => ?_, fun w p hp => ?_⟩
    · refine q _ _ (.inl ⟨rfl, ?_⟩)
      rename_i xs
      have e : cutD xs lo hi = xs := by
        unfold cutD
        rw [← h2.length, w.1, w.2]
        simp [h2.length]
      rw [e]
      exact hd
    · exact q _ _ (.inr ⟨p, _, _, hp, rfl, rfl, rfl, h2.cut lo hi, Nat.le_trans (cutD_len _ _ _) h3⟩)
  · obtain ⟨a, vs, rfl, h1, h2, h3⟩ := hd.lst_inv
    cases ho
    exact sl_list pins s σ H _ v vl vu lo hi sl Q I rx hs pl pu ⟨a, vs, rfl, .inl (Rd_sub sb h1), fun p hp => q _ _ ⟨p, _, hp, rfl, rfl, h2.cut lo hi, Nat.le_trans (cutD_len _ _ _) h3⟩⟩
  · obtain ⟨rfl, hz⟩ := hd.str_inv
    split at ho
    · cases ho
      exact sl_str pins s σ H _ v vl vu lo hi sl Q I rx hs pl pu ⟨_, rfl, by assumption, q _ _ (.inl ⟨rfl, .str _ (strOk_cut hz)⟩)⟩
    · cases ho
  · cases ho
def EndP (c : Cn) (g : Gm) (σ : Stt) (H F : Hp) (Q : Option Int → Hp → Prop) (o : Option Int) (g' : Gm) : Prop := ∀ H' F', Sim c.z g' σ H' F' → Stp g σ H F g' H' F' → Q o H'
def evp (L : Lk) (x : Ex) (g : Gm) : R (Option Int) := partOf x (fun g => ev L x g) g
def tP (c : Cn) (x : Ex) : TO := fun σ H Q => ∃ g F, Sim c.z g σ H F ∧ Pst c (evp c.L x g) (EndP c g σ H F Q)
theorem o_none : PO X none (tP c .omit) := by
  refine ⟨fun pins s σ H Q I ⟨g, F, S, P⟩ => ?_⟩
  exact po_none.run pins s σ H Q I ((show EndP c g σ H F Q none g from P) H F S (Stp.refl _ _ _ _))
theorem evp_ne {L : Lk} {x : Ex} {g : Gm} (h : ∀ q : x = .omit, False) : evp L x g = (ev L x g).bind fun y g1 => match y with
    | .fro (.int i) => .ok (some i) g1
    | _ => .stuck := by
  unfold evp partOf
  split
  · exact (h rfl).elim
  · rfl
theorem o_some {x : Ex} (h : PE X e (tE c x)) (hx : ∀ q : x = .omit, False) : PO X (some e) (tP c x) := by
  refine ⟨fun pins s σ H Q I ⟨g, F, S, P⟩ => ?_⟩
  rw [evp_ne hx] at P
  refine (po_some h).run pins s σ H Q I (show tPart (tE c x) σ H Q from tE_step S P fun r1 g1 v1 H1 F1 S1 T1 R1 P1 => ?_)
  cases r1 with
  | own xs => exact P1.elim
  | fro d =>
    cases d with
    | int i =>
      cases R1.int_inv
      exact ⟨i, rfl, P1 H1 F1 S1 T1⟩
    | _ => exact P1.elim
theorem e_slc {lo hi : Option Expr} {x y z : Ex} (hK : X.K = c.z.K) (ha : PE X e (tE c x)) (hl : PO X lo (tP c y)) (hu : PO X hi (tP c z)) : PE X (.Subscript e (.Slice lo hi none p2) pos) (tE c (.slc x y z)) := by
  have hs := sl_data (X := X)
  rw [hK] at hs
  refine PE_weak (pe_slice hs ha hl hu) fun σ H Q ⟨g, F, S, P⟩ => ?_
  unfold ev at P
  refine tE_step S P fun r1 g1 v1 H1 F1 S1 T1 R1 P1 => ⟨g1, F1, S1, P1.bind.mono fun l g2 P2 H2 F2 S2 T2 => ⟨g2, F2, S2, P2.bind.mono fun u g3 P3 H3 F3 S3 T3 => ?_⟩⟩
  cases q : opS r1.d l u with
  | none => rw [q] at P3; exact P3.elim
  | some r =>
    rw [q] at P3
    exact ⟨F3, _, r, S3.G.le, R1.up (T2.f.trans T3.f), q, fun v H' m => fin_made S3 (EndE.shift P3 ((T1.trans T2).trans T3)) m⟩
/-! ### a slot read in place -/
theorem held_rp {z : Zc} {g : Gm} {σ : Stt} {H F : Hp} {j : Nat} {x : PyData} (S : Sim z g σ H F) (h : held g j = some x) : ∃ v F', σ[j]? = some (some v) ∧ Sub F' H ∧ Sub F F' ∧ Rp z.K F' v x := by
  unfold held at h
  have own : ∀ a xs, OwnAt z.K H F σ j a xs → ∃ v F', σ[j]? = some (some v) ∧ Sub F' H ∧ Sub F F' ∧ Rp z.K F' v (.list xs) := fun a xs ow => by
    obtain ⟨vs, h1, h2, h3⟩ := ow.vs
    have sb : Sub F (upd F a (.lst vs)) := Sub.upd ow.nf
    refine ⟨_, upd F a (.lst vs), ow.sl, fun b o q => ?_, sb, .lst (.inl upd_same) (h2.up sb) h3⟩
    by_cases hb : b = a
    · subst hb; rw [upd_same] at q; cases q; exact h1
    · rw [upd_ne hb] at q; exact S.G.le b o q
  split at h
  · cases h
    obtain ⟨v, h1, h2⟩ := S.val j _ (by assumption)
    exact ⟨v, F, h1, S.G.le, Sub.refl F, h2⟩
  · cases h
    obtain ⟨a, ow, _⟩ := S.own j _ (by assumption)
    exact own a _ ow
  · cases h
    obtain ⟨a, ow, _⟩ := S.io j _ (by assumption)
    exact own a _ ow
  · cases h
theorem held_slot {z : Zc} {g : Gm} {σ : Stt} {H F : Hp} {j : Nat} {x : PyData} (S : Sim z g σ H F) (h : held g j = some x) : ∃ v, σ[j]? = some (some v) := by
  obtain ⟨v, _, e, _⟩ := held_rp S h
  exact ⟨v, e⟩
/-- an item of a list at hand: the items' own frozen part told apart -/
def rIxO (K : PySem.W.Frag) : R2 := fun x y H Q => ∃ a vs F xs i w, x = .ref a ∧ y = .int i ∧ H a = some (.lst vs) ∧ RpA K F vs xs ∧ atD xs i = some w ∧ ∀ v, Rp K F v w → Q v H
theorem ix_own : IxR X (rIxO X.K) := by
  intro value slice pins s σ H x y v u Q I rx ry h hs
  obtain ⟨a, vs, F, xs, i, w, rfl, rfl, h1, h2, ho, q⟩ := h
  obtain ⟨v', e1, e2⟩ := h2.atI ho
  exact ix_list value slice pins s σ H _ _ v u Q I rx ry ⟨a, vs, _, v', rfl, rfl, SqL.of h1, e1, q v' e2⟩ hs
theorem e_idxB {j : Nat} {x : Str} (hK : X.K = c.z.K) (hN : X.N[j]? = some x) (hv : Vis X.env.scope x) (hd : (x == ("__debug__" : Str)) = false) (hcd : (x == ("__classdict__" : Str)) = false) (hb : PE X e2 (tE c b)) (hs : PlainIx e2) : PE X (.Subscript (.Name x p1) e2 pos) (tE c (.idxB j b)) := by
  have hi := (ix_data (X := X)).or ix_own
  rw [hK] at hi
  refine PE_weak (pe_ix hi (pe_var hN hv hd hcd) hb hs) fun σ H Q ⟨g, F, S, P⟩ => ?_
  unfold ev at P
  cases q0 : held g j with
  | none => rw [q0] at P; exact P.elim
  | some x0 =>
    rw [q0] at P
    obtain ⟨v0, e0⟩ := held_slot S q0
    refine ⟨v0, e0, tE_step S P fun r2 g2 v2 H2 F2 S2 T2 R2 P2 => ?_⟩
    cases q : held g2 j with
    | none => rw [q] at P2; exact P2.elim
    | some x1 =>
      rw [q] at P2
      cases q1 : opI x1 r2.d with
      | none => rw [show (some x1).bind (fun x => opI x r2.d) = opI x1 r2.d from rfl, q1] at P2; exact P2.elim
      | some w =>
        rw [show (some x1).bind (fun x => opI x r2.d) = opI x1 r2.d from rfl, q1] at P2
        have fin : ∀ v, Rp c.z.K F2 v w → Q v H2 := fun v m => fin_here S2 (EndE.shift P2 T2) m
        have own : ∀ a xs, OwnAt c.z.K H2 F2 σ j a xs → x1 = .list xs → rIxO c.z.K v0 v2 H2 Q := fun a xs ow ex => by
          subst ex
          have := ow.sl
          rw [e0] at this; cases this
          obtain ⟨vs, h1, h2, h3⟩ := ow.vs
          unfold opI at q1
          split at q1
          · rename_i z1 z2; cases z1
          · rename_i ys i z1 z2
            cases z1
            rw [z2] at R2
            cases R2.int_inv
            exact ⟨a, vs, F2, xs, i, w, rfl, rfl, h1, h2, q1, fin⟩
          · cases q1
        unfold held at q
        split at q
        · cases q
          obtain ⟨v, h1, h2⟩ := S2.val j _ (by assumption)
          rw [e0] at h1; cases h1
          exact .inl ⟨F2, _, _, w, S2.G.le, h2, R2, q1, fin⟩
        · cases q
          obtain ⟨a, ow, _⟩ := S2.own j _ (by assumption)
          exact .inr (own a _ ow rfl)
        · cases q
          obtain ⟨a, ow, _⟩ := S2.io j _ (by assumption)
          exact .inr (own a _ ow rfl)
        · cases q
theorem cmpB_read {o : CO} {j : Nat} {σ : Stt} {H : Hp} {Q : VK} (h : tE c (.cmpB o j b) σ H Q) : tOp (rCo c.z.K o) (tVar j) (tE c b) σ H Q := by
  obtain ⟨g, F, S, P⟩ := h
  unfold ev at P
  cases q0 : held g j with
  | none => rw [q0] at P; exact P.elim
  | some x0 =>
    rw [q0] at P
    obtain ⟨v0, e0⟩ := held_slot S q0
    refine ⟨v0, e0, tE_step S P fun r2 g2 v2 H2 F2 S2 T2 R2 P2 => ?_⟩
    cases q : held g2 j with
    | none => rw [q] at P2; exact P2.elim
    | some x1 =>
      rw [q] at P2
      obtain ⟨v1, F', e1, s1, s2, rp⟩ := held_rp S2 q
      rw [e0] at e1; cases e1
      cases q1 : opC o x1 r2.d with
      | none => rw [show (some x1).bind (fun x => opC o x r2.d) = opC o x1 r2.d from rfl, q1] at P2; exact P2.elim
      | some k =>
        rw [show (some x1).bind (fun x => opC o x r2.d) = opC o x1 r2.d from rfl, q1] at P2
        exact ⟨F', _, _, k, s1, rp, R2.up s2, q1, fin_here S2 (EndE.shift P2 T2) (.bl _)⟩
theorem e_cmpB {o : CO} {j : Nat} {x : Str} (hK : X.K = c.z.K) (hu : X.A.units + 64 < cLine) (hN : X.N[j]? = some x) (hv : Vis X.env.scope x) (hd : (x == ("__debug__" : Str)) = false) (hcd : (x == ("__classdict__" : Str)) = false) (hb : PE X e2 (tE c b)) (hm : behindInMarks (coOp o) e2 = false) :
    PE X (.Compare (.Name x p1) [coOp o] [e2] pos) (tE c (.cmpB o j b)) := by
  have ho := op_cmp hu o
  rw [hK] at ho
  exact PE_weak (pe_cmpR ho (pe_var hN hv hd hcd) hb hm) fun σ H Q h => cmpB_read h
theorem t_cmpB {o : CO} {j : Nat} {x : Str} (hK : X.K = c.z.K) (hu : X.A.units + 64 < cLine) (hN : X.N[j]? = some x) (hv : Vis X.env.scope x) (hd : (x == ("__debug__" : Str)) = false) (hcd : (x == ("__classdict__" : Str)) = false) (hb : PE X e2 (tE c b)) (hm : behindInMarks (coOp o) e2 = false) :
    PT X (.Compare (.Name x p1) [coOp o] [e2] pos) (tT c (.cmpB o j b)) := by
  have ho := op_cmp hu o
  rw [hK] at ho
  exact PT_weak (pt_cmpR ho (pe_var hN hv hd hcd) hb hm) fun σ H Q h => tT_mono (fun σ H Q h => cmpB_read h) h
theorem ninB_read {j : Nat} {σ : Stt} {H : Hp} {Q : VK} (h : tE c (.ninB b j) σ H Q) : tOp (rCo c.z.K .nin) (tE c b) (tVar j) σ H Q := by
  obtain ⟨g, F, S, P⟩ := h
  unfold ev at P
  refine tE_step S P fun r2 g2 v2 H2 F2 S2 T2 R2 P2 => ?_
  cases q : held g2 j with
  | none => rw [q] at P2; exact P2.elim
  | some x1 =>
    rw [q] at P2
    obtain ⟨v1, F', e1, s1, s2, rp⟩ := held_rp S2 q
    cases q1 : opC .nin r2.d x1 with
    | none => rw [show (some x1).bind (fun x => opC .nin r2.d x) = opC .nin r2.d x1 from rfl, q1] at P2; exact P2.elim
    | some k =>
      rw [show (some x1).bind (fun x => opC .nin r2.d x) = opC .nin r2.d x1 from rfl, q1] at P2
      exact ⟨v1, e1, F', _, _, k, s1, R2.up s2, rp, q1, fin_here S2 (EndE.shift P2 T2) (.bl _)⟩
theorem e_ninB {j : Nat} {x : Str} (hK : X.K = c.z.K) (hu : X.A.units + 64 < cLine) (hN : X.N[j]? = some x) (hv : Vis X.env.scope x) (hd : (x == ("__debug__" : Str)) = false) (hcd : (x == ("__classdict__" : Str)) = false) (hb : PE X e2 (tE c b)) :
    PE X (.Compare e2 [.NotIn] [.Name x p1] pos) (tE c (.ninB b j)) := by
  have ho := op_cmp hu .nin
  rw [hK] at ho
  exact PE_weak (pe_cmpR ho hb (pe_var hN hv hd hcd) rfl) fun σ H Q h => ninB_read h
theorem t_ninB {j : Nat} {x : Str} (hK : X.K = c.z.K) (hu : X.A.units + 64 < cLine) (hN : X.N[j]? = some x) (hv : Vis X.env.scope x) (hd : (x == ("__debug__" : Str)) = false) (hcd : (x == ("__classdict__" : Str)) = false) (hb : PE X e2 (tE c b)) :
    PT X (.Compare e2 [.NotIn] [.Name x p1] pos) (tT c (.ninB b j)) := by
  have ho := op_cmp hu .nin
  rw [hK] at ho
  exact PT_weak (pt_cmpR ho hb (pe_var hN hv hd hcd) rfl) fun σ H Q h => tT_mono (fun σ H Q h => ninB_read h) h
/-! ### built-ins -/
def rFn (K : PySem.W.Frag) (f : BF) : List V → Hp → VK → Prop := fun vs H Q => ∃ F ds r, Sub F H ∧ RpA K F vs ds ∧ opF f ds = some r ∧ ∀ v H', Made K F H v H' r → Q v H'
def bfName : BF → Str
  | .len => "len" | .abs => "abs" | .int => "int" | .max2 => "max" | .min2 => "min" | .list => "list" | .tuple => "tuple" | .str => "str" | .bool => "bool" | .sorted => "sorted" | .min1 => "min" | .max1 => "max" | .sortset => "sorted"
def bfVal : BF → Value
  | .len => .builtin "len" | .abs => .builtin "abs" | .int => .type "int" | .max2 => .builtin "max" | .min2 => .builtin "min" | .list => .type "list" | .tuple => .type "tuple" | .str => .type "str" | .bool => .type "bool"
  | .sorted => .builtin "sorted" | .min1 => .builtin "min" | .max1 => .builtin "max" | .sortset => .builtin "sorted"
theorem bf_boot (f : BF) : bootBuiltins (bfName f) = some (bfVal f) := by
  cases f <;> first | exact PySem.boot_len | exact PyProof.Rows.boot_abs | exact PyProof.Rows.boot_int | exact PyProof.Rows.boot_max | exact PyProof.Rows.boot_min | exact PyProof.Rows.boot_list | exact PyProof.Rows.boot_tuple | exact PyProof.Rows.boot_str | exact PyProof.Rows.boot_bool | exact PyProof.Rows.boot_sorted
theorem RpA.one {K : PySem.W.Frag} {F : Hp} {vs : List V} {d : PyData} (h : RpA K F vs [d]) : ∃ v, vs = [v] ∧ Rp K F v d := by
  cases h with
  | cons h1 h2 => cases h2; exact ⟨_, rfl, h1⟩
theorem RpA.two {K : PySem.W.Frag} {F : Hp} {vs : List V} {d d' : PyData} (h : RpA K F vs [d, d']) : ∃ v w, vs = [v, w] ∧ Rp K F v d ∧ Rp K F w d' := by
  cases h with
  | cons h1 h2 =>
    obtain ⟨w, rfl, h3⟩ := h2.one
    exact ⟨_, _, rfl, h1, h3⟩
theorem bf_call (hc : X.calm = true) (hu : X.A.units + 64 < cLine) (f : BF) : CallR X (bfVal f) (rFn X.K f) := by
  intro pins s σ H xs us Q I r h
  obtain ⟨F, ds, r', sb, ha, ho, q⟩ := h
  unfold opF at ho
  split at ho
  · obtain ⟨v, rfl, h1⟩ := ha.one
    obtain ⟨a, vs, rfl, g1, g2, g3⟩ := h1.tup_inv
    cases ho
    refine call_len_seq pins s σ H _ us Q I r ⟨a, vs, rfl, .inr (SqT_sub sb g1), ?_⟩
    rw [g2.length]
    exact q _ _ (.inl ⟨rfl, .int _⟩)
  · obtain ⟨v, rfl, h1⟩ := ha.one
    obtain ⟨a, vs, rfl, g1, g2, g3⟩ := h1.lst_inv
    cases ho
    refine call_len_seq pins s σ H _ us Q I r ⟨a, vs, rfl, .inl (.inl (Rd_sub sb g1)), ?_⟩
    rw [g2.length]
    exact q _ _ (.inl ⟨rfl, .int _⟩)
  · obtain ⟨v, rfl, h1⟩ := ha.one
    obtain ⟨rfl, hz⟩ := h1.str_inv
    split at ho
    · cases ho
      exact call_len_str pins s σ H _ us Q I r ⟨_, rfl, by assumption, q _ _ (.inl ⟨rfl, .int _⟩)⟩
    · cases ho
  · obtain ⟨v, rfl, h1⟩ := ha.one
    cases h1.int_inv
    cases ho
    exact call_abs pins s σ H _ us Q I r ⟨_, rfl, q _ _ (.inl ⟨rfl, .int _⟩)⟩
  · obtain ⟨v, rfl, h1⟩ := ha.one
    cases h1.int_inv
    cases ho
    exact call_int1 pins s σ H _ us Q I r (.inl ⟨_, rfl, q _ _ (.inl ⟨rfl, .int _⟩)⟩)
  · obtain ⟨v, rfl, h1⟩ := ha.one
    cases h1.bl_inv
    cases ho
    exact call_int1 pins s σ H _ us Q I r (.inr ⟨_, rfl, q _ _ (.inl ⟨rfl, .int _⟩)⟩)
  · obtain ⟨v, w, rfl, h1, h2⟩ := ha.two
    cases h1.int_inv; cases h2.int_inv
    cases ho
    exact call_max2 hc pins s σ H _ us Q I r ⟨_, _, rfl, q _ _ (.inl ⟨rfl, .int _⟩)⟩
  · obtain ⟨v, w, rfl, h1, h2⟩ := ha.two
    cases h1.int_inv; cases h2.int_inv
    cases ho
    exact call_min2 hc pins s σ H _ us Q I r ⟨_, _, rfl, q _ _ (.inl ⟨rfl, .int _⟩)⟩
  · obtain ⟨v, rfl, h1⟩ := ha.one
    obtain ⟨a, vs, rfl, g1, g2, g3⟩ := h1.tup_inv
    cases ho
    exact call_list_of pins s σ H _ us Q I r ⟨a, vs, rfl, .inr (SqT_sub sb g1), fun l hl => q _ _ ⟨l, _, hl, rfl, rfl, g2, g3⟩⟩
  · obtain ⟨v, rfl, h1⟩ := ha.one
    obtain ⟨a, vs, rfl, g1, g2, g3⟩ := h1.lst_inv
    cases ho
    exact call_list_of pins s σ H _ us Q I r ⟨a, vs, rfl, .inl (.inl (Rd_sub sb g1)), fun l hl => q _ _ ⟨l, _, hl, rfl, rfl, g2, g3⟩⟩
  · obtain ⟨v, rfl, h1⟩ := ha.one
    obtain ⟨a, vs, rfl, g1, g2, g3⟩ := h1.tup_inv
    cases ho
    exact call_tuple_of pins s σ H _ us Q I r ⟨a, vs, rfl, .inr ⟨SqT_sub sb g1, q _ _ (.inl ⟨rfl, h1⟩)⟩⟩
  · obtain ⟨v, rfl, h1⟩ := ha.one
    obtain ⟨a, vs, rfl, g1, g2, g3⟩ := h1.lst_inv
    cases ho
    exact call_tuple_of pins s σ H _ us Q I r ⟨a, vs, rfl, .inl ⟨.inl (Rd_sub sb g1), fun l hl => q _ _ (.inr ⟨l, _, _, hl, rfl, rfl, rfl, g2, g3⟩)⟩⟩
  · obtain ⟨v, rfl, h1⟩ := ha.one
    cases h1.bl_inv
    cases ho
    exact call_bool1 pins s σ H _ us Q I r (.inr ⟨_, rfl, q _ _ (.inl ⟨rfl, .bl _⟩)⟩)
  · split at ho
    · cases ho
      exact sorted_call hu I r sb ha (by assumption) q
    · cases ho
  · split at ho
    · cases ho
      exact min_call hc hu I r sb ha (by assumption) q
    · cases ho
  · split at ho
    · cases ho
      exact max_call hc hu I r sb ha (by assumption) q
    · cases ho
  · cases ho
/-- a call of a built-in by its name, whatever it is -/
theorem pe_builtin {x : Str} {u : Value} {es : List Expr} {t : TA} {r : List V → Hp → VK → Prop} (hc : CallR X u r) (hu : (∃ id, u = .builtin id) ∨ ∃ T, u = .type T) (hg : Gl X x) (hm : X.mg x = none) (hv : bootBuiltins x = some u) (ha : PA X (e :: es) t)
    (hn : x ≠ "__name__") (hdb : (x == ("__debug__" : Str)) = false) (he : starEach (e :: es) X.env = (false, eval e X.env) :: starEach es X.env) (hpl : (backTo pos (starEach es X.env)).any (·.1) = false) : PE X (.Call (.Name x p1) (e :: es) [] pos) (tCB r t) := by
  rcases hu with ⟨id, rfl⟩ | ⟨T, rfl⟩
  · exact pe_callB hc hg hm hv ha hn hdb he hpl
  · exact pe_callTy hc hg hm hv ha hn hdb he hpl
theorem bfVal_kind (f : BF) : (∃ id, bfVal f = .builtin id) ∨ ∃ T, bfVal f = .type T := by
  cases f <;> first | exact .inl ⟨_, rfl⟩ | exact .inr ⟨_, rfl⟩
theorem bf_names (f : BF) : bfName f ≠ "__name__" ∧ (bfName f == ("__debug__" : Str)) = false := by
  cases f <;> exact ⟨by decide +kernel, by decide +kernel⟩
theorem e_bf {f : BF} {xs : Exs} {es : List Expr} (hK : X.K = c.z.K) (hc : X.calm = true) (hu : X.A.units + 64 < cLine) (hg : Gl X (bfName f)) (hm : X.mg (bfName f) = none) (ha : PA X (e :: es) (tA c xs))
    (he : starEach (e :: es) X.env = (false, eval e X.env) :: starEach es X.env) (hpl : (backTo pos (starEach es X.env)).any (·.1) = false) : PE X (.Call (.Name (bfName f) p1) (e :: es) [] pos) (tE c (.bf f xs)) := by
  have hr := bf_call hc hu f
  rw [hK] at hr
  refine PE_weak (pe_builtin hr (bfVal_kind f) hg hm (bf_boot f) ha (bf_names f).1 (bf_names f).2 he hpl) fun σ H Q ⟨g, F, S, P⟩ => ?_
  unfold ev at P
  refine tA_step S P fun ds g1 vs H1 F1 S1 T1 R1 P1 => ?_
  cases q : opF f ds with
  | none => rw [q] at P1; exact P1.elim
  | some r =>
    rw [q] at P1
    exact ⟨F1, ds, r, S1.G.le, R1, q, fun v H' m => fin_made S1 (EndE.shift P1 T1) m⟩
theorem e_lenB {j : Nat} {x : Str} (hK : X.K = c.z.K) (hg : Gl X "len") (hm : X.mg "len" = none) (hN : X.N[j]? = some x) (hv : Vis X.env.scope x) (hd : (x == ("__debug__" : Str)) = false) (hcd : (x == ("__classdict__" : Str)) = false) :
    PE X (.Call (.Name "len" p1) [.Name x p2] [] pos) (tE c (.lenB j)) := by
  refine PE_weak (pe_callB call_len hg hm PySem.boot_len (pa_cons (pe_var hN hv hd hcd) pa_nil)) fun σ H Q ⟨g, F, S, P⟩ => ?_
  unfold ev at P
  cases q : held g j with
  | none => rw [q] at P; exact P.elim
  | some x1 =>
    rw [q] at P
    obtain ⟨v, F', e1, s1, s2, rp0⟩ := held_rp S q
    have rp : Rp X.K F' v x1 := by rw [hK]; exact rp0
    refine ⟨v, e1, v, ?_⟩
    cases q1 : opF .len [x1] with
    | none => rw [show (some x1).bind (fun x => opF .len [x]) = opF .len [x1] from rfl, q1] at P; exact P.elim
    | some r =>
      rw [show (some x1).bind (fun x => opF .len [x]) = opF .len [x1] from rfl, q1] at P
      unfold opF at q1
      split at q1
      all_goals first | contradiction | skip
      all_goals rename_i z; cases z
      · obtain ⟨a, vs, rfl, g1, g2, g3⟩ := rp.tup_inv
        cases q1
        refine ⟨_, rfl, .inr ⟨vs, SqT_sub s1 g1, rfl⟩, ?_⟩
        rw [g2.length]
        exact fin_here S P (.int _)
      · obtain ⟨a, vs, rfl, g1, g2, g3⟩ := rp.lst_inv
        cases q1
        refine ⟨_, rfl, .inl ⟨vs, .inl (Rd_sub s1 g1), rfl⟩, ?_⟩
        rw [g2.length]
        exact fin_here S P (.int _)
      · obtain ⟨rfl, hz⟩ := rp.str_inv
        split at q1
        · cases q1
          exact ⟨_, rfl, ⟨by assumption, rfl⟩, fin_here S P (.int _)⟩
        · cases q1
/-! ### isinstance with a built-in class -/
def tyN : PyData → String
  | .none => "NoneType" | .bool _ => "bool" | .int _ => "int" | .str _ => "str" | .tuple _ => "tuple" | .list _ => "list" | .dict _ => "dict"
theorem rp_ty {K : PySem.W.Frag} {F H : Hp} {v : V} {d : PyData} (sb : Sub F H) (h : Rp K F v d) : TyX K H v (.type (tyN d)) := by
  cases d with
  | none => cases h; exact .base .non
  | bool b => cases h; exact .base (.bl b)
  | int i => cases h; exact .base (.int i)
  | str x => cases h; exact .base (.str x)
  | list ds =>
    obtain ⟨a, vs, rfl, g1, g2, g3⟩ := h.lst_inv
    rcases Rd_sub sb g1 with e | ⟨o, e⟩
    · exact .base (.lst e)
    · exact .base (.frz e)
  | tuple ds =>
    obtain ⟨a, vs, rfl, g1, g2, g3⟩ := h.tup_inv
    rcases SqT_sub sb g1 with (e | ⟨o, e⟩) | ⟨o, its, n, e, cl, _⟩
    · exact .base (.tup e)
    · exact .fTuple e
    · exact .kTuple e cl
  | dict _ => cases h
theorem isi_kit {K : PySem.W.Frag} {t : IT} {d : PyData} {k : Bool} (h : isiD t d = some k) : PySem.W.kitOne K (.type (tyN d)) (.type t.s) = some k := by
  refine kit_ty ?_
  cases t <;> cases d <;> simp only [isiD] at h <;> cases h <;> simp only [tyN, IT.s] <;> decide +kernel
theorem boot_of_isi (t : IT) : bootBuiltins (Str.ofString t.s) = some (.type t.s) := by
  cases t <;> decide +kernel
theorem clsV_ty (n : String) : ClsV (.ty n) (.type n) := by
  first | exact .ty n | exact .ty | exact ClsV.ty _
theorem e_isi {t : IT} (hK : X.K = c.z.K) (hg : Gl X "isinstance") (hm : X.mg "isinstance" = none) (hgt : Gl X (Str.ofString t.s)) (hmt : X.mg (Str.ofString t.s) = none) (ha : PE X e (tE c a))
    (he : starEach [e, .Name (Str.ofString t.s) p2] X.env = (false, eval e X.env) :: starEach [.Name (Str.ofString t.s) p2] X.env) : PE X (.Call (.Name "isinstance" p1) [e, .Name (Str.ofString t.s) p2] [] pos) (tE c (.isi a t)) := by
  have hr := call_isi (X := X)
  rw [hK] at hr
  have nn : Str.ofString t.s ≠ "__name__" ∧ (Str.ofString t.s == ("__debug__" : Str)) = false := by
    cases t <;> exact ⟨by decide +kernel, by decide +kernel⟩
  have hb : PE X (.Name (Str.ofString t.s) p2) (tC (.ty t.s)) := pe_bltn hgt hmt (boot_of_isi t) rfl nn.1 nn.2
  refine PE_weak (pe_callB hr hg hm PyProof.Rows.boot_isinstance (pa_cons ha (pa_cons hb pa_nil) he) (he := he) (hpl := rfl)) fun σ H Q ⟨g, F, S, P⟩ => ?_
  unfold ev at P
  refine tE_step S P fun r1 g1 v1 H1 F1 S1 T1 R1 P1 => ?_
  cases q : isiD t r1.d with
  | none => rw [q] at P1; exact P1.elim
  | some k =>
    rw [q] at P1
    exact ⟨v1, _, _, _, k, rfl, clsV_ty t.s, rp_ty S1.G.le R1, isi_kit q, fin_here S1 (EndE.shift P1 T1) (.bl _)⟩
end
end TB
set_option maxHeartbeats 1000000
/-! Calls of defs. -/
namespace TB
open PySem PySem.Spec PyProof.Rows L2
/-- the arguments of a call: data, ahead of them perhaps a list that is lent -/
inductive ArgRep (K : PySem.W.Frag) (F H : Hp) : List V → List PyData → Option (List PyData) → Option Addr → Prop
  | plain {vs : List V} {ds : List PyData} : RpA K F vs ds → ArgRep K F H vs ds none none
  | lent {a : Addr} {vs ws : List V} {ds xs : List PyData} : H a = some (.lst ws) → RpA K F ws xs → xs.length ≤ sizeLine → F a = none → RpA K F vs ds → ArgRep K F H (.ref a :: vs) ds (some xs) (some a)
/-- what the lent list holds behind the call -/
def OutOk (K : PySem.W.Frag) (ioa : Option Addr) (out : Option (List PyData)) (H F : Hp) : Prop := match ioa with
  | none => out = none
  | some a => ∃ ys ws, out = some ys ∧ H a = some (.lst ws) ∧ RpA K F ws ys ∧ ys.length ≤ sizeLine ∧ F a = none
def zAt (K : PySem.W.Frag) (T : List (Addr × Str)) (H F : Hp) (ioa : Option Addr) : Zc := ⟨K, H, F, ioa, T⟩
/-- a def's promise by what the interpreter says of it -/
def spF (K : PySem.W.Frag) (T : List (Addr × Str)) (xa : Str → Option Addr) (sem : List PyData → Option (List PyData) → CRs) : Sp := fun vs H Q E =>
  ∃ F ds io ioa, Sub F H ∧ (∀ a ps, F a ≠ some (.tbl ps)) ∧ LamX.Tabs T H ∧ ArgRep K F H vs ds io ioa ∧ match sem ds io with
    | .stuck => False
    | .exc e => ioa = none ∧ ∀ cv dx H' F', Grow (zAt K T H F ioa) H' F' → XRep K xa e cv dx H' F' → E cv dx H'
    | .ret r out => ∀ v H' F', Grow (zAt K T H F ioa) H' F' → RsOk (zAt K T H F ioa) H [] [] H' F' v r → OutOk K ioa out H' F' → Q v H'
section
variable {z : Zc} {g : Gm} {σ : Stt} {H F H' F' : Hp}
theorem Grow.comp (a : Grow z H F) (hio : ∀ b, z.io = some b → z.H0 b ≠ none) {ioa : Option Addr} (hi : ∀ b, ioa = some b → z.H0 b ≠ none → z.io = some b) (b : Grow (zAt z.K z.T H F ioa) H' F') : Grow z H' F' where
  le := b.le
  nt := b.nt
  gr := a.gr.trans b.gr
  kp := fun x o h nt n => b.kp x o (a.kp x o h nt n) nt fun e => n (hi x e (by rw [h]; simp))
  nw := fun x h h0 => b.nw x (a.al x h) (a.nw x h h0)
  al := fun x h => b.al x (a.al x h)
  tb := b.tb
theorem after_call (S : Sim z g σ H F) (G : Grow (zAt z.K z.T H F none) H' F') : Sim z g σ H' F' ∧ Stp g σ H F g H' F' := by
  have kp : ∀ a o, H a = some o → NoTbl o → H' a = some o := fun a o h nt => G.kp a o h nt (fun e => by cases e)
  refine ⟨⟨S.G.comp S.hio (fun b e => by cases e) G, S.len, fun i d e => ?_, fun i xs e => ?_, fun i xs e => ?_, S.hio, S.dj⟩, ⟨G.gr, fun a o h nt _ => kp a o h nt, fun a h h0 _ => G.nw a h h0, fun _ h => h, G.al⟩⟩
  · obtain ⟨v, h1, h2⟩ := S.val i d e
    exact ⟨v, h1, h2.up G.gr⟩
  · obtain ⟨a, ow, n0⟩ := S.own i xs e
    obtain ⟨vs, h1, h2, h3⟩ := ow.vs
    exact ⟨a, ⟨ow.sl, ⟨vs, kp a _ h1 (fun ps q => by cases q), h2.up G.gr, h3⟩, G.nw a (show H a ≠ none by rw [h1]; simp) ow.nf⟩, n0⟩
  · obtain ⟨a, ow, n0⟩ := S.io i xs e
    obtain ⟨vs, h1, h2, h3⟩ := ow.vs
    exact ⟨a, ⟨ow.sl, ⟨vs, kp a _ h1 (fun ps q => by cases q), h2.up G.gr, h3⟩, G.nw a (show H a ≠ none by rw [h1]; simp) ow.nf⟩, n0⟩
theorem isOwn_set {g : Gm} {i j : Nat} {s : Sl} (h0 : isOwn g i) (h : isOwn (g.set i s) j) : isOwn g j := by
  by_cases e : i = j
  · subst e; exact h0
  · unfold isOwn at *
    rw [get_set_ne e] at h
    exact h
theorem lent_own {g : Gm} {i : Nat} {xs : List PyData} {k : Bool} (e : lent g i = some (xs, k)) : isOwn g i := by
  unfold lent at e
  split at e
  · exact .inl ⟨_, by assumption⟩
  · exact .inr ⟨_, by assumption⟩
  · cases e
theorem lent_at {z : Zc} {g : Gm} {σ : Stt} {H F : Hp} {i : Nat} {xs : List PyData} {k : Bool} (S : Sim z g σ H F) (e : lent g i = some (xs, k)) : ∃ a, OwnAt z.K H F σ i a xs ∧ ((k = false ∧ z.H0 a = none) ∨ (k = true ∧ z.io = some a)) := by
  unfold lent at e
  split at e
  · cases e
    obtain ⟨a, ow, h⟩ := S.own i _ (by assumption)
    exact ⟨a, ow, .inl ⟨rfl, h⟩⟩
  · cases e
    obtain ⟨a, ow, h⟩ := S.io i _ (by assumption)
    exact ⟨a, ow, .inr ⟨rfl, h⟩⟩
  · cases e
/-- behind a call that was lent the list of slot i -/
theorem after_callv {i : Nat} {a : Addr} {xs ys : List PyData} {k : Bool} (S : Sim z g σ H F) (e : lent g i = some (xs, k)) (ow : OwnAt z.K H F σ i a xs) (hs : (k = false ∧ z.H0 a = none) ∨ (k = true ∧ z.io = some a))
    (G : Grow (zAt z.K z.T H F (some a)) H' F') (o : OutOk z.K (some a) (some ys) H' F') :
    Sim z (g.set i (lentSl k ys)) σ H' F' ∧ Stp g σ H F (g.set i (lentSl k ys)) H' F' := by
  have kp : ∀ b o, H b = some o → NoTbl o → b ≠ a → H' b = some o := fun b o h nt n => G.kp b o h nt (fun e => n (Option.some.inj e).symm)
  have own0 : isOwn g i := lent_own e
  have hi : i < g.length := by
    rcases own0 with ⟨_, h⟩ | ⟨_, h⟩ <;> exact (List.getElem?_eq_some_iff.mp h).1
  have ne : ∀ j b, isOwn g j → j ≠ i → σ[j]? = some (some (.ref b)) → b ≠ a := fun j b o n s q => n (S.dj j i b o own0 s (by rw [q]; exact ow.sl))
  obtain ⟨ys', ws, e1, o1, o2, o3, o4⟩ := o
  cases e1
  have here : OwnAt z.K H' F' σ i a ys := ⟨ow.sl, ⟨ws, o1, o2, o3⟩, o4⟩
  refine ⟨⟨S.G.comp S.hio (fun b q h0 => ?_) G, by rw [List.length_set]; exact S.len, fun j d q => ?_, fun j zs q => ?_, fun j zs q => ?_, S.hio, fun j k b h1 h2 => S.dj j k b (isOwn_set own0 h1) (isOwn_set own0 h2)⟩, ⟨G.gr, fun b o h nt n => kp b o h nt fun q => n ⟨i, own0, q ▸ ow.sl⟩, fun b h h0 _ => G.nw b h h0, fun j h => isOwn_set own0 h, G.al⟩⟩
  · cases q
    rcases hs with ⟨_, n0⟩ | ⟨_, n0⟩
    · exact absurd n0 h0
    · exact n0
  · by_cases hj : i = j
    · subst hj
      rw [List.getElem?_set_self hi] at q
      cases k <;> cases q
    · rw [get_set_ne hj] at q
      obtain ⟨v, h1, h2⟩ := S.val j d q
      exact ⟨v, h1, h2.up G.gr⟩
  · by_cases hj : i = j
    · subst hj
      rw [List.getElem?_set_self hi] at q
      rcases hs with ⟨rfl, n0⟩ | ⟨rfl, _⟩
      · cases q; exact ⟨a, here, n0⟩
      · cases q
    · rw [get_set_ne hj] at q
      obtain ⟨b, w, n0⟩ := S.own j zs q
      obtain ⟨vs, h1, h2, h3⟩ := w.vs
      exact ⟨b, ⟨w.sl, ⟨vs, kp b _ h1 (fun ps q => by cases q) (ne j b (.inl ⟨zs, q⟩) (fun x => hj x.symm) w.sl), h2.up G.gr, h3⟩, G.nw b (show H b ≠ none by rw [h1]; simp) w.nf⟩, n0⟩
  · by_cases hj : i = j
    · subst hj
      rw [List.getElem?_set_self hi] at q
      rcases hs with ⟨rfl, _⟩ | ⟨rfl, n0⟩
      · cases q
      · cases q; exact ⟨a, here, n0⟩
    · rw [get_set_ne hj] at q
      obtain ⟨b, w, n0⟩ := S.io j zs q
      obtain ⟨vs, h1, h2, h3⟩ := w.vs
      exact ⟨b, ⟨w.sl, ⟨vs, kp b _ h1 (fun ps q => by cases q) (ne j b (.inr ⟨zs, q⟩) (fun x => hj x.symm) w.sl), h2.up G.gr, h3⟩, G.nw b (show H b ≠ none by rw [h1]; simp) w.nf⟩, n0⟩
end
/-- a def that the interpreter's call speaks of -/
structure Lnk (X : Cx) (c : Cn) (f : Nat) (x : Str) : Prop where
  ex : ∃ fa fd ps k, X.mg x = some (.ref fa) ∧ PySem.W.keepIn X.K (.ref fa) = true ∧ Binds X.K fd ps [] ∧ FnOk X.prog X.w X.K X.mg X.base (CX X.prog X.w) k fa fd ps (spF c.z.K c.z.T c.xa (c.L.cl f)) ∧ Room k X.A
section
variable {c : Cn} {N : List Str} {sc : Scope} {X : Cx} {e e1 e2 e3 : Expr} {a b d : Ex} {pos p1 p2 : Pos}
/-- a result at its maker's end is one here -/
theorem rs_back {z : Zc} {g : Gm} {σ : Stt} {H F H' F' : Hp} {ioa : Option Addr} {v : V} {r : Rs} (S : Sim z g σ H F) {g' : Gm} (o : ∀ i, isOwn g' i → isOwn g i) (q : RsOk (zAt z.K z.T H F ioa) H [] [] H' F' v r) : RsOk z H g' σ H' F' v r := by
  cases r with
  | fro d => exact q
  | own xs =>
    obtain ⟨a, e, h1, h2, h3, h4, h5⟩ := q
    refine ⟨a, e, h1, h2, ?_, h4, fun ⟨i, hi, hs⟩ => ?_⟩
    · cases q : z.H0 a with
      | none => rfl
      | some o => exact absurd h4 (S.G.al a (by rw [q]; simp))
    · rcases o i hi with ⟨ys, hy⟩ | ⟨ys, hy⟩
      · obtain ⟨b, w, _⟩ := S.own i ys hy
        obtain ⟨vs, w1, _⟩ := w.vs
        have := w.sl
        rw [hs] at this; cases this
        rw [h4] at w1; cases w1
      · obtain ⟨b, w, _⟩ := S.io i ys hy
        obtain ⟨vs, w1, _⟩ := w.vs
        have := w.sl
        rw [hs] at this; cases this
        rw [h4] at w1; cases w1
theorem call_read {f : Nat} {xs : Exs} {σ : Stt} {H : Hp} {Q : VK} (h : tE c (.call f xs) σ H Q) : tCall (spF c.z.K c.z.T c.xa (c.L.cl f)) [] c.E (tA c xs) σ H Q := by
  obtain ⟨g, F, S, P⟩ := h
  unfold ev at P
  refine tA_step S P fun ds g1 vs H1 F1 S1 T1 R1 P1 => ?_
  rw [List.append_nil]
  refine ⟨F1, ds, none, none, S1.G.le, S1.G.nt, S1.G.tb, .plain R1, ?_⟩
  cases q : c.L.cl f ds none with
  | stuck => rw [q] at P1; exact P1.elim
  | exc e =>
    rw [q] at P1
    exact ⟨rfl, fun cv dx H' F' G X => P1 cv dx H' F' (S1.G.comp S1.hio (fun b e => by cases e) G) X⟩
  | ret r out =>
    rw [q] at P1
    intro v H' F' G R O
    cases out with
    | some ys => exact P1.elim
    | none =>
      obtain ⟨S2, T2⟩ := after_call S1 G
      exact EndE.shift P1 T1 v H' F' S2 T2 (rs_back S1 (fun _ h => h) R)
theorem e_call {f : Nat} {x : Str} {xs : Exs} {es : List Expr} (L : Lnk X c f x) (hx : Passes (CX X.prog X.w) X c.E) (hg : Gl X x) (ha : PA X es (tA c xs)) (hdb : (x == ("__debug__" : Str)) = false) (hn : es = [] → xs = .nil)
    (he : ∀ e r, es = e :: r → starEach (e :: r) X.env = (false, eval e X.env) :: starEach r X.env) (hpl : ∀ e r, es = e :: r → (backTo pos (starEach r X.env)).any (·.1) = false) : PE X (.Call (.Name x p1) es [] pos) (tE c (.call f xs)) := by
  obtain ⟨fa, fd, ps, k, hm, hk, hb, F, hr⟩ := L.ex
  cases es with
  | nil =>
    cases hn rfl
    refine PE_weak (pe_call0 F hr hg hm hk hb .nil hx hdb) fun σ H Q ⟨g, F0, S, P⟩ => ?_
    unfold ev evs at P
    refine ⟨F0, [], none, none, S.G.le, S.G.nt, S.G.tb, .plain .nil, ?_⟩
    cases q : c.L.cl f [] none with
    | stuck => rw [R.bind_ok, q] at P; exact P.elim
    | exc e =>
      rw [R.bind_ok, q] at P
      exact ⟨rfl, fun cv dx H' F' G X => P cv dx H' F' (S.G.comp S.hio (fun b e => by cases e) G) X⟩
    | ret r out =>
      rw [R.bind_ok, q] at P
      intro v H' F' G R O
      cases out with
      | some ys => exact P.elim
      | none =>
        obtain ⟨S2, T2⟩ := after_call S G
        exact (show EndE c g σ H F0 Q r g from P) v H' F' S2 T2 (rs_back S (fun _ h => h) R)
  | cons e r => exact PE_weak (pe_call F hr hg hm hk hb .nil hx ha hdb (he e r rfl) (hpl e r rfl)) fun σ H Q h => call_read h
theorem callv_read {f i : Nat} {xs : Exs} {σ : Stt} {H : Hp} {Q : VK} (h : tE c (.callv f i xs) σ H Q) : tCall (spF c.z.K c.z.T c.xa (c.L.cl f)) [] c.E (tCons (tVar i) (tA c xs)) σ H Q := by
  obtain ⟨g, F, S, P⟩ := h
  unfold ev at P
  cases q0 : lent g i with
  | none => rw [q0] at P; exact P.elim
  | some s0 =>
    rw [q0] at P
    obtain ⟨a0, ow0, _⟩ := lent_at S q0
    refine ⟨.ref a0, ow0.sl, tA_step S P fun ds g1 vs H1 F1 S1 T1 R1 P1 => ?_⟩
    show spF c.z.K c.z.T c.xa (c.L.cl f) ((.ref a0 :: vs) ++ []) H1 Q c.E
    rw [List.append_nil]
    cases q1 : lent g1 i with
    | none => rw [q1] at P1; exact P1.elim
    | some s1 =>
      obtain ⟨ys, k⟩ := s1
      rw [q1] at P1
      obtain ⟨a, ow, hs⟩ := lent_at S1 q1
      have := ow.sl
      rw [ow0.sl] at this; cases this
      obtain ⟨ws, w1, w2, w3⟩ := ow.vs
      refine ⟨F1, ds, some ys, some a0, S1.G.le, S1.G.nt, S1.G.tb, .lent w1 w2 w3 ow.nf R1, ?_⟩
      cases q : c.L.cl f ds (some ys) with
      | stuck => simp only [q] at P1; exact P1.elim
      | exc e => simp only [q] at P1; exact P1.elim
      | ret r out =>
        cases out with
        | none => simp only [q] at P1; exact P1.elim
        | some zs =>
          simp only [q] at P1
          intro v H' F' G R O
          obtain ⟨S2, T2⟩ := after_callv S1 q1 ow hs G O
          exact EndE.shift P1 T1 v H' F' S2 T2 (rs_back S1 T2.o R)
theorem e_callv {f i : Nat} {x y : Str} {xs : Exs} {es : List Expr} (L : Lnk X c f x) (hx : Passes (CX X.prog X.w) X c.E) (hg : Gl X x) (ha : PA X es (tA c xs)) (hdb : (x == ("__debug__" : Str)) = false)
    (hN : X.N[i]? = some y) (hv : Vis X.env.scope y) (hd : (y == ("__debug__" : Str)) = false) (hcd : (y == ("__classdict__" : Str)) = false) (hpl : (backTo pos (starEach es X.env)).any (·.1) = false) : PE X (.Call (.Name x p1) (.Name y p2 :: es) [] pos) (tE c (.callv f i xs)) := by
  obtain ⟨fa, fd, ps, k, hm, hk, hb, F, hr⟩ := L.ex
  exact PE_weak (pe_call F hr hg hm hk hb .nil hx (pa_cons (pe_var hN hv hd hcd) ha) hdb rfl hpl) fun σ H Q h => callv_read h
end
end TB
set_option maxHeartbeats 1000000
/-! Statements. -/
namespace TB
open PySem PySem.Spec PyProof.Rows L2
/-! ### a slot is written -/
section
variable {z : Zc} {g g2 : Gm} {σ : Stt} {H F Hs : Hp} {i : Nat}
theorem put_inv {s : Sl} (h : put g i s = some g2) : i < g.length ∧ (∀ xs, g[i]? ≠ some (Sl.io xs)) ∧ g2 = g.set i s := by
  unfold put at h
  split at h
  · cases h
  · rename_i s0 h0 h1
    cases h
    exact ⟨(List.getElem?_eq_some_iff.mp h1).1, fun xs e => by rw [e] at h1; cases h1; exact h0 xs rfl, rfl⟩
  · cases h
theorem set_get {α : Type} {l : List α} {i j : Nat} {a b : α} (h : (l.set i a)[j]? = some b) : (i = j ∧ a = b ∧ i < l.length) ∨ (i ≠ j ∧ l[j]? = some b) := by
  by_cases e : i = j
  · subst e
    rw [List.getElem?_set] at h
    simp only [if_pos] at h
    split at h
    · cases h; exact .inl ⟨rfl, rfl, by assumption⟩
    · cases h
  · rw [List.getElem?_set_ne e] at h
    exact .inr ⟨e, h⟩
/-- a result is stored at a name -/
theorem sim_put {r : Rs} {v : V} (S : Sim z g σ H F) (q : RsOk z Hs g σ H F v r) (h : put g i r.sl = some g2) : Sim z g2 (σ.set i (some v)) H F := by
  obtain ⟨hi, nio, rfl⟩ := put_inv h
  have hσ : i < σ.length := by rw [← S.len]; exact hi
  have σne : ∀ j, i ≠ j → (σ.set i (some v))[j]? = σ[j]? := fun j e => List.getElem?_set_ne e
  have σat : (σ.set i (some v))[i]? = some (some v) := List.getElem?_set_self hσ
  have ownN : ∀ j, j ≠ i → isOwn (g.set i r.sl) j → isOwn g j := fun j e h => by
    unfold isOwn at *
    rw [List.getElem?_set_ne (Ne.symm e)] at h
    exact h
  have new : isOwn (g.set i r.sl) i → ∃ a, v = .ref a ∧ ¬ atOwn g σ a := fun h => by
    cases r with
    | fro d =>
      exfalso
      rcases h with ⟨xs, h⟩ | ⟨xs, h⟩ <;> rcases set_get h with ⟨_, e, _⟩ | ⟨e, _⟩ <;> first | cases e | exact e rfl
    | own xs =>
      obtain ⟨a, e, _, _, _, _, n⟩ := q
      exact ⟨a, e, n⟩
  refine ⟨S.G, by rw [List.length_set, List.length_set]; exact S.len, fun j d e => ?_, fun j ys e => ?_, fun j ys e => ?_, S.hio, fun j k b hj hk ej ek => ?_⟩
  · rcases set_get e with ⟨rfl, e, _⟩ | ⟨ne, e⟩
    · cases r with
      | fro d' => cases e; exact ⟨v, σat, q⟩
      | own xs => cases e
    · rw [σne j ne]
      exact S.val j d e
  · rcases set_get e with ⟨rfl, e, _⟩ | ⟨ne, e⟩
    · cases r with
      | fro d' => cases e
      | own xs =>
        cases e
        obtain ⟨a, rfl, vs, nf, n0, _, _⟩ := q
        exact ⟨a, ⟨σat, vs, nf⟩, n0⟩
    · obtain ⟨a, ow, n0⟩ := S.own j ys e
      exact ⟨a, ⟨by rw [σne j ne]; exact ow.sl, ow.vs, ow.nf⟩, n0⟩
  · rcases set_get e with ⟨rfl, e, _⟩ | ⟨ne, e⟩
    · cases r <;> cases e
    · obtain ⟨a, ow, n0⟩ := S.io j ys e
      exact ⟨a, ⟨by rw [σne j ne]; exact ow.sl, ow.vs, ow.nf⟩, n0⟩
  · by_cases h1 : j = i
    · by_cases h2 : k = i
      · rw [h1, h2]
      · exfalso
        subst h1
        obtain ⟨a, ev, n⟩ := new hj
        rw [σat] at ej; cases ej
        cases ev
        rw [σne k (Ne.symm h2)] at ek
        exact n ⟨k, ownN k h2 hk, ek⟩
    · by_cases h2 : k = i
      · exfalso
        subst h2
        obtain ⟨a, ev, n⟩ := new hk
        rw [σat] at ek; cases ek
        cases ev
        rw [σne j (Ne.symm h1)] at ej
        exact n ⟨j, ownN j h1 hj, ej⟩
      · rw [σne j (Ne.symm h1)] at ej
        rw [σne k (Ne.symm h2)] at ek
        exact S.dj j k b (ownN j h1 hj) (ownN k h2 hk) ej ek
/-- a list of one's own (or lent) is written -/
theorem sim_write {xs ys : List PyData} {k : Bool} {ws : List V} {a : Addr} (S : Sim z g σ H F) (e : lent g i = some (xs, k)) (ow : OwnAt z.K H F σ i a xs) (r : RpA z.K F ws ys) (hl : ys.length ≤ sizeLine) (hk : k = true → z.io = some a) (hk2 : k = false → z.H0 a = none) :
    Sim z (g.set i (lentSl k ys)) σ (upd H a (.lst ws)) F := by
  have own0 := lent_own e
  have hi : i < g.length := by
    rcases own0 with ⟨_, h⟩ | ⟨_, h⟩ <;> exact (List.getElem?_eq_some_iff.mp h).1
  obtain ⟨vs0, h0, _⟩ := ow.vs
  have ne : ∀ j b, isOwn g j → j ≠ i → σ[j]? = some (some (.ref b)) → b ≠ a := fun j b o n s q => n (S.dj j i b o own0 s (by rw [q]; exact ow.sl))
  have fne : ∀ b o, F b = some o → b ≠ a := fun b o h q => by rw [q, ow.nf] at h; cases h
  have here : OwnAt z.K (upd H a (.lst ws)) F σ i a ys := ⟨ow.sl, ⟨ws, upd_same, r, hl⟩, ow.nf⟩
  refine ⟨⟨fun b o h => by rw [upd_ne (fne b o h)]; exact S.G.le b o h, S.G.nt, S.G.gr, fun b o h nt n => ?_, S.G.nw, fun b h => ?_, fun p hp => ?_⟩, by rw [List.length_set]; exact S.len, fun j d q => ?_, fun j zs q => ?_, fun j zs q => ?_, S.hio, fun j k b h1 h2 => S.dj j k b (isOwn_set own0 h1) (isOwn_set own0 h2)⟩
  · have hb : b ≠ a := fun q => by
      cases k with
      | true => exact n (by rw [q]; exact hk rfl)
      | false => rw [q, hk2 rfl] at h; cases h
    rw [upd_ne hb]
    exact S.G.kp b o h nt n
  · by_cases hb : b = a
    · subst hb; rw [upd_same]; simp
    · rw [upd_ne hb]; exact S.G.al b h
  · obtain ⟨ps, t1, t2, t3⟩ := S.G.tb p hp
    have n1 : p.1 ≠ a := fun q => by rw [q, h0] at t1; cases t1
    refine ⟨ps, by rw [upd_ne n1]; exact t1, t2, fun pos cv hc => ?_⟩
    obtain ⟨c', c1, c2⟩ := t3 pos cv hc
    refine ⟨c', c1, ?_⟩
    rw [upd_ne (fun q => by rw [q, h0] at c2; unfold LamX.CodeO at c2; cases c2)]
    exact c2
  · rcases set_get q with ⟨rfl, q, _⟩ | ⟨n, q⟩
    · cases k <;> cases q
    · exact S.val j d q
  · rcases set_get q with ⟨rfl, q, _⟩ | ⟨n, q⟩
    · cases k <;> cases q
      exact ⟨a, here, hk2 rfl⟩
    · obtain ⟨b, w, n0⟩ := S.own j zs q
      obtain ⟨us, u1, u2⟩ := w.vs
      exact ⟨b, ⟨w.sl, ⟨us, by rw [upd_ne (ne j b (.inl ⟨zs, q⟩) (Ne.symm n) w.sl)]; exact u1, u2⟩, w.nf⟩, n0⟩
  · rcases set_get q with ⟨rfl, q, _⟩ | ⟨n, q⟩
    · cases k <;> cases q
      exact ⟨a, here, hk rfl⟩
    · obtain ⟨b, w, n0⟩ := S.io j zs q
      obtain ⟨us, u1, u2⟩ := w.vs
      exact ⟨b, ⟨w.sl, ⟨us, by rw [upd_ne (ne j b (.inr ⟨zs, q⟩) (Ne.symm n) w.sl)]; exact u1, u2⟩, w.nf⟩, n0⟩
end
/-! ### statements' ends -/
def EndO (c : Cn) (F : Hp) (D : Ends) : O → Prop
  | .stuck => False
  | .exc e => XOk c e
  | .nx g => ∀ σ' H' F', Sim c.z g σ' H' F' → Sub F F' → D.nx σ' H'
  | .brk g => ∀ σ' H' F', Sim c.z g σ' H' F' → Sub F F' → D.bk σ' H'
  | .ret r g => ∀ v σ' H' F', Sim c.z g σ' H' F' → RsOk c.z c.z.H0 g σ' H' F' v r → D.rt v H'
theorem EndO.mono {c : Cn} {F F1 : Hp} {D : Ends} {o : O} (h : EndO c F D o) (s : Sub F F1) : EndO c F1 D o := by
  cases o with
  | stuck => exact h
  | exc e => exact h
  | nx g => exact fun σ' H' F' S q => h σ' H' F' S (s.trans q)
  | brk g => exact fun σ' H' F' S q => h σ' H' F' S (s.trans q)
  | ret r g => exact h
def tS (c : Cn) (s : Sm) : TS := fun D σ H => ∃ g F, Sim c.z g σ H F ∧ EndO c F D (exS c.L s g)
def tSs (c : Cn) (s : Sms) : TS := fun D σ H => ∃ g F, Sim c.z g σ H F ∧ EndO c F D (exs c.L s g)
theorem PS_weak {X : Cx} {s : Stmt} {t t' : TS} (h : PS X s t) (w : ∀ D σ H, t' D σ H → t D σ H) : PS X s t' := ⟨fun pins s σ H Q I q => h.run pins s σ H Q I (w Q σ H q)⟩
theorem PSs_weak {X : Cx} {s : List Stmt} {t t' : TS} (h : PSs X s t) (w : ∀ D σ H, t' D σ H → t D σ H) : PSs X s t' := ⟨fun pins s σ H Q I q => h.run pins s σ H Q I (w Q σ H q)⟩
section
variable {c : Cn} {g g1 : Gm} {σ : Stt} {H H1 F F1 : Hp} {D : Ends}
/-- an expression ahead, its value not frozen -/
theorem o_step {x : Ex} {k : Rs → Gm → O} {Q1 : VK} (S : Sim c.z g σ H F) (P : EndO c F D ((ev c.L x g).sbind k))
    (h : ∀ r1 g1 v1 H1 F1, Sim c.z g1 σ H1 F1 → Stp g σ H F g1 H1 F1 → RsOk c.z H g1 σ H1 F1 v1 r1 → EndO c F1 D (k r1 g1) → Q1 v1 H1) : tE c x σ H Q1 := by
  refine ⟨g, F, S, ?_⟩
  cases q : ev c.L x g with
  | stuck => rw [q] at P; exact P
  | exc e => rw [q] at P; exact P
  | ok r1 g1 =>
    rw [q] at P
    exact fun v1 H1 F1 S1 T1 R1 => h r1 g1 v1 H1 F1 S1 T1 R1 (EndO.mono P T1.f)
/-- .. frozen -/
theorem o_stepF {x : Ex} {k : Rs → Gm → O} {Q1 : VK} (S : Sim c.z g σ H F) (P : EndO c F D ((ev c.L x g).sbind k))
    (h : ∀ r1 g1 v1 H1 F1, Sim c.z g1 σ H1 F1 → Stp g σ H F g1 H1 F1 → Rp c.z.K F1 v1 r1.d → EndO c F1 D (k r1 g1) → Q1 v1 H1) : tE c x σ H Q1 := by
  refine ⟨g, F, S, ?_⟩
  cases q : ev c.L x g with
  | stuck => rw [q] at P; exact P
  | exc e => rw [q] at P; exact P
  | ok r1 g1 =>
    rw [q] at P
    intro v1 H1 F1 S1 T1 R1
    obtain ⟨F2, S2, T2, R2⟩ := freeze S1 T1 R1
    exact h r1 g1 v1 H1 F2 S2 T2 R2 (EndO.mono P T2.f)
theorem o_stepT {x : Ex} {k : Rs → Gm → O} {Q1 : Bool → Hp → Prop} (S : Sim c.z g σ H F) (P : EndO c F D ((ev c.L x g).sbind k)) (hb : ∀ r g1 F1, EndO c F1 D (k r g1) → ∃ b, r = .fro (.bool b))
    (h : ∀ b g1 H1 F1, Sim c.z g1 σ H1 F1 → Stp g σ H F g1 H1 F1 → EndO c F1 D (k (.fro (.bool b)) g1) → Q1 b H1) : tT c x σ H Q1 := by
  refine ⟨g, F, S, ?_⟩
  cases q : ev c.L x g with
  | stuck => rw [q] at P; exact P
  | exc e => rw [q] at P; exact P
  | ok r1 g1 =>
    rw [q] at P
    obtain ⟨b, rfl⟩ := hb r1 g1 F P
    exact ⟨b, rfl, fun H1 F1 S1 T1 => h b g1 H1 F1 S1 T1 (EndO.mono P T1.f)⟩
theorem RsOk.h0 {v : V} {r : Rs} (q : RsOk c.z H g σ H1 F1 v r) : RsOk c.z c.z.H0 g σ H1 F1 v r := by
  cases r with
  | fro d => exact q
  | own xs =>
    obtain ⟨a, e, h1, h2, h3, h4, h5⟩ := q
    exact ⟨a, e, h1, h2, h3, h3, h5⟩
theorem o_boolean {α : Type} {r : Rs} {g : Gm} {F : Hp} {D : Ends} {k1 k2 : Gm → O} (p : EndO c F D (match r with
    | .fro (.bool true) => k1 g
    | .fro (.bool false) => k2 g
    | _ => .stuck)) : ∃ b, r = .fro (.bool b) := by
  cases r with
  | own xs => exact p.elim
  | fro d =>
    cases d with
    | bool k => exact ⟨k, rfl⟩
    | _ => exact p.elim
end
section
variable {c : Cn} {X : Cx} {e e1 e2 : Expr} {a b d : Ex} {pos p1 p2 p3 : Pos} {st : Stmt} {rest : List Stmt} {s : Sm} {ss s1 s2 : Sms}
theorem b_nil : PSs X [] (tSs c .nil) := PSs_weak pss_nil fun D σ H ⟨g, F, S, P⟩ => by
  unfold exs at P
  exact P σ H F S (Sub.refl F)
theorem b_cons (h1 : PS X st (tS c s)) (h2 : PSs X rest (tSs c ss)) : PSs X (st :: rest) (tSs c (.cons s ss)) := PSs_weak (pss_cons h1 h2) fun D σ H ⟨g, F, S, P⟩ => by
  unfold exs at P
  refine ⟨g, F, S, ?_⟩
  cases q : exS c.L s g with
  | stuck => rw [q] at P; exact P
  | exc e => rw [q] at P; exact P
  | nx g1 =>
    rw [q] at P
    exact fun σ' H' F' S' sb => ⟨g1, F', S', EndO.mono P sb⟩
  | brk g1 => rw [q] at P; exact P
  | ret r g1 => rw [q] at P; exact P
theorem s_pass : PS X (.Pass pos) (tS c .pass) := PS_weak ps_pass fun D σ H ⟨g, F, S, P⟩ => by
  unfold exS at P
  exact P σ H F S (Sub.refl F)
theorem s_doc {x : Str} {j : Nat} : PS X (.Expr (.Constant (.str x) j p1) pos) (tS c .pass) := PS_weak ps_doc fun D σ H ⟨g, F, S, P⟩ => by
  unfold exS at P
  exact P σ H F S (Sub.refl F)
theorem s_nev : PS X st (tS c .nev) := PS_weak ps_never fun D σ H ⟨g, F, S, P⟩ => by
  unfold exS at P
  exact P
theorem s_brk : PS X (.Break pos) (tS c .brk) := PS_weak ps_break fun D σ H ⟨g, F, S, P⟩ => by
  unfold exS at P
  exact P σ H F S (Sub.refl F)
theorem s_ret (h : PE X e (tE c a)) : PS X (.Return (some e) pos) (tS c (.ret a)) := PS_weak (ps_ret h) fun D σ H ⟨g, F, S, P⟩ => by
  unfold exS at P
  exact o_step S P fun r1 g1 v1 H1 F1 S1 T1 R1 P1 => P1 v1 σ H1 F1 S1 R1.h0
theorem s_retN : PS X (.Return none pos) (tS c .retN) := PS_weak ps_retN fun D σ H ⟨g, F, S, P⟩ => by
  unfold exS at P
  exact P .non σ H F S .non
theorem s_ife (hc : PT X e (tT c a)) (h1 : PSs X rest (tSs c s1)) {rest2 : List Stmt} (h2 : PSs X rest2 (tSs c s2)) : PS X (.If e rest rest2 pos) (tS c (.ife a s1 s2)) := PS_weak (ps_if hc h1 h2) fun D σ H ⟨g, F, S, P⟩ => by
  unfold exS at P
  refine o_stepT S P (fun r g1 F1 p => o_boolean (α := Unit) (k1 := fun g => exs c.L s1 g) (k2 := fun g => exs c.L s2 g) p) fun k g1 H1 F1 S1 T1 P1 => ?_
  cases k with
  | true => exact ⟨g1, F1, S1, P1⟩
  | false => exact ⟨g1, F1, S1, P1⟩
theorem s_ex (h : PE X e (tE c a)) (hs : swapsWith e none pos.line X.env = pure false) : PS X (.Expr e pos) (tS c (.ex a)) := PS_weak (ps_expr h hs) fun D σ H ⟨g, F, S, P⟩ => by
  unfold exS at P
  exact o_step S P fun r1 g1 v1 H1 F1 S1 T1 R1 P1 => P1 σ H1 F1 S1 (Sub.refl F1)
/-! ### stores at names -/
theorem asg_read {i : Nat} {te : TE} {D : Ends} {σ : Stt} {H : Hp} (h : ∀ Q, tE c a σ H Q → te σ H Q) (q : tS c (.asg i a) D σ H) : tAsg te (gName i) D σ H := by
  obtain ⟨g, F, S, P⟩ := q
  unfold exS at P
  refine h _ (o_step S P fun r1 g1 v1 H1 F1 S1 T1 R1 P1 => ?_)
  cases q : put g1 i r1.sl with
  | none => rw [q] at P1; exact P1.elim
  | some g2 =>
    rw [q] at P1
    exact P1 _ H1 F1 (sim_put S1 R1 q) (Sub.refl F1)
theorem s_asg {i : Nat} {x : Str} (hN : X.N.Nodup) (hi : X.N[i]? = some x) (hx : Loc X.env.scope x) (h : PE X e (tE c a)) (hs : swapsWith e (some (.Name x p1)) pos.line X.env = pure false) (hf : X.fn x = true ∨ X.env.scope.names.lookup x = some .local) :
    PS X (.Assign [.Name x p1] e pos) (tS c (.asg i a)) := PS_weak (ps_set hN hi hx h hs hf) fun D σ H q => asg_read (fun Q z => z) q
/-- a row of names as targets -/
def gRow : List Nat → TGs
  | [] => gNil
  | i :: is => gCons (gName i) (gRow is)
theorem g_row (hN : X.N.Nodup) : ∀ {is : List Nat} {es : List Expr}, Paired (fun i e => ∃ x p, e = Expr.Name x p ∧ X.N[i]? = some x ∧ Loc X.env.scope x ∧ (X.fn x = true ∨ X.env.scope.names.lookup x = some .local)) is es → PGs X es (gRow is)
  | _, _, .nil => pgs_nil
  | _, _, .cons ⟨x, p, e, h1, h2, h3⟩ t => by
    subst e
    exact pgs_cons (pg_name hN h1 h2 h3) (g_row hN t)
theorem row_assigns : ∀ {is : List Nat} {es : List Expr} {P : Nat → Expr → Prop}, (∀ i e, P i e → ∃ x p, e = Expr.Name x p) → Paired P is es → (assignEach es X.env).length = is.length ∧ (assignEach es X.env).findIdx? (·.1) = none
  | _, _, _, _, .nil => ⟨rfl, rfl⟩
  | _, _, _, hP, .cons h t => by
    obtain ⟨x, p, rfl⟩ := hP _ _ h
    obtain ⟨h1, h2⟩ := row_assigns hP t
    refine ⟨?_, ?_⟩
    · show ((false, assign (.Name x p) X.env) :: assignEach _ X.env).length = _
      simp [h1]
    · show ((false, assign (.Name x p) X.env) :: assignEach _ X.env).findIdx? (·.1) = none
      rw [List.findIdx?_cons]
      simp [h2]
theorem row_put {z : Zc} {H F : Hp} {Q : Stt → Hp → Prop} : ∀ {is : List Nat} {vs : List V} {ds : List PyData} {g g2 : Gm} {σ : Stt}, Sim z g σ H F → RpA z.K F vs ds → putAll is ds g = some g2 → (∀ σ', Sim z g2 σ' H F → Q σ' H) → gRow is vs σ H Q
  | [], _, _, g, g2, σ, S, .nil, h, q => by
    unfold putAll at h
    cases h
    exact ⟨rfl, q σ S⟩
  | i :: is, _, _, g, g2, σ, S, .cons (v := v) (vs := vs) (d := d) h1 h2, h, q => by
    unfold putAll at h
    cases e : put g i (.val d) with
    | none => rw [e] at h; cases h
    | some g1 =>
      rw [e] at h
      refine ⟨v, vs, rfl, ?_⟩
      exact row_put (sim_put (r := .fro d) (Hs := H) S h1 e) h2 h q
  | [], _, _, g, g2, σ, S, .cons h1 h2, h, q => by unfold putAll at h; cases h
  | i :: is, _, _, g, g2, σ, S, .nil, h, q => by unfold putAll at h; cases h
/-- a for's, a comprehension's target -/
def gTgt (K : PySem.W.Frag) : Tg → TG
  | .one i => gName i
  | .many is => gTup K is.length (gRow is)
theorem tgt_put {z : Zc} {H F : Hp} {Q : Stt → Hp → Prop} {tg : Tg} {v : V} {d : PyData} {g g2 : Gm} {σ : Stt} (S : Sim z g σ H F) (r : Rp z.K F v d) (h : tgt tg d g = some g2) (q : ∀ σ', Sim z g2 σ' H F → Q σ' H) : gTgt z.K tg v σ H Q := by
  cases tg with
  | one i => exact q _ (sim_put (r := .fro d) (Hs := H) S r h)
  | many is =>
    cases d with
    | tuple ds =>
      obtain ⟨a, vs, rfl, h1, h2, h3⟩ := r.tup_inv
      refine ⟨a, vs, rfl, SqT_sub S.G.le h1, ?_, row_put S h2 h q⟩
      rw [h2.length]
      have len : ∀ {is : List Nat} {ds : List PyData} {g g2 : Gm}, putAll is ds g = some g2 → ds.length = is.length := by
        intro is
        induction is with
        | nil => intro ds g g2 h; cases ds with | nil => rfl | cons _ _ => unfold putAll at h; cases h
        | cons i is ih =>
          intro ds g g2 h
          cases ds with
          | nil => unfold putAll at h; cases h
          | cons d ds =>
            unfold putAll at h
            cases e : put g i (.val d) with
            | none => rw [e] at h; cases h
            | some g1 => rw [e] at h; simp [ih h]
      exact len h
    | _ => cases h
theorem s_unp {is : List Nat} {es : List Expr} {k : Nat} (hK : X.K = c.z.K) (hN : X.N.Nodup) (hc : X.calm = true) (h : PE X e (tE c a)) (row : Paired (fun i e => ∃ x p, e = Expr.Name x p ∧ X.N[i]? = some x ∧ Loc X.env.scope x ∧ (X.fn x = true ∨ X.env.scope.names.lookup x = some .local)) is es)
    (hs : swapsWithSole [.Tuple es k p1] e pos.line X.env = pure false) (hw : swappedStores [.Tuple es k p1] e X.env = pure none) (h1 : (assignEach [.Tuple es k p1] X.env).map (·.2) = [assign (.Tuple es k p1) X.env]) :
    PS X (.Assign [.Tuple es k p1] e pos) (tS c (.unp is a)) := by
  obtain ⟨l1, l2⟩ := row_assigns (X := X) (fun i e ⟨x, p, q, _⟩ => ⟨x, p, q⟩) row
  have hg := pg_tup (pos := p1) (k := k) hc (g_row hN row) l1 l2
  rw [hK] at hg
  refine PS_weak (ps_asg h hg hs hw h1) fun D σ H ⟨g, F, S, P⟩ => ?_
  unfold exS at P
  refine o_stepF S P fun r1 g1 v1 H1 F1 S1 T1 R1 P1 => ?_
  cases q : tgt (.many is) r1.d g1 with
  | none => rw [q] at P1; exact P1.elim
  | some g2 =>
    rw [q] at P1
    exact tgt_put (tg := .many is) S1 R1 q fun σ' S' => P1 σ' H1 F1 S' (Sub.refl F1)
end
end TB
set_option maxHeartbeats 1000000
/-! Statements: lists of one's own, several targets. -/
namespace TB
open PySem PySem.Spec PyProof.Rows L2
section
variable {c : Cn} {X : Cx} {e e1 e2 : Expr} {a b d : Ex} {pos p1 p2 p3 : Pos} {st : Stmt} {rest : List Stmt}
/-! ### lists of one's own -/
theorem tyV_own {K : PySem.W.Frag} {H F : Hp} {σ : Stt} {i : Nat} {ad : Addr} {xs : List PyData} (ow : OwnAt K H F σ i ad xs) : tyV K "list" (.ref ad) H := by
  obtain ⟨vs, h, _⟩ := ow.vs
  exact .inl ⟨rfl, vs, SqL.of h⟩
theorem lent_k {z : Zc} {g : Gm} {σ : Stt} {H F : Hp} {i : Nat} {xs : List PyData} {k : Bool} (S : Sim z g σ H F) (e : lent g i = some (xs, k)) : ∃ a, OwnAt z.K H F σ i a xs ∧ (k = true → z.io = some a) ∧ (k = false → z.H0 a = none) := by
  obtain ⟨a, ow, h⟩ := lent_at S e
  rcases h with ⟨rfl, h⟩ | ⟨rfl, h⟩
  · exact ⟨a, ow, (fun q => by cases q), fun _ => h⟩
  · exact ⟨a, ow, fun _ => h, (fun q => by cases q)⟩
theorem s_app {i : Nat} {x : Str} {apos : Pos} (hK : X.K = c.z.K) (hN : X.N[i]? = some x) (hv : Vis X.env.scope x) (hd : (x == ("__debug__" : Str)) = false) (hcd : (x == ("__classdict__" : Str)) = false) (h : PE X e (tE c a)) (hst : starEach [e] X.env = [(false, eval e X.env)])
    (hline : (apos.endLine == p2.line) = true) : PS X (.Expr (.Call (.Attribute (.Name x p1) "append" apos) [e] [] p2) pos) (tS c (.app i a)) := by
  have hs1 : starEach [e] X.env = (false, eval e X.env) :: starEach [] X.env := hst
  refine PS_weak (ps_expr (pe_bm PySem.F.plainAttrs_list PySem.F.slot_list_append PySem.F.type_list_append mt_append (pe_var hN hv hd hcd) (pa_cons h pa_nil hs1) (hfew := by rw [hst]; rfl) (hline := hline) (hs := hs1)) rfl) fun D σ H ⟨g, F, S, P⟩ => ?_
  unfold exS at P
  cases q0 : lent g i with
  | none => rw [q0] at P; exact P.elim
  | some s0 =>
    rw [q0] at P
    obtain ⟨a0, ow0, _⟩ := lent_k S q0
    refine ⟨.ref a0, ow0.sl, by rw [hK]; exact tyV_own ow0, o_stepF S P fun r1 g1 v1 H1 F1 S1 T1 R1 P1 => ?_⟩
    cases q1 : lent g1 i with
    | none => rw [q1] at P1; exact P1.elim
    | some s1 =>
      obtain ⟨xs, k⟩ := s1
      rw [q1] at P1
      obtain ⟨a1, ow, hk, hk2⟩ := lent_k S1 q1
      have := ow.sl
      rw [ow0.sl] at this; cases this
      obtain ⟨ws, w1, w2, w3⟩ := ow.vs
      dsimp only at P1
      split at P1
      · rename_i hl
        refine ⟨a0, ws, v1, rfl, rfl, w1, by rw [w2.length]; exact hl, ?_⟩
        exact P1 σ _ F1 (sim_write S1 q1 ow (w2.append (.cons R1 .nil)) (by rw [List.length_append]; exact hl) hk hk2) (Sub.refl F1)
      · exact P1.elim
theorem mt_extendR : MtM X "list.extend" (fun x vs H Q => ∃ l b xs zs, x = .ref l ∧ vs = [.ref b] ∧ H l = some (.lst xs) ∧ Rd H b (.lst zs) ∧ xs.length + zs.length ≤ sizeLine ∧ Q .non (upd H l (.lst (xs ++ zs)))) := by
  intro pins s σ H x vs v us Q I rx rv h
  obtain ⟨l, b, xs, zs, rfl, rfl, hH, hB, hz, q⟩ := h
  cases rx
  obtain ⟨u, rfl, ru⟩ := rv.one
  cases ru
  obtain ⟨z, its, n, r, hl, e⟩ := I.lstM hH
  obtain ⟨z2, its2, n2, r2, e2⟩ := rd_obj I hB
  have hl2 := r2.length
  have hsz : its.toArray.size + its2.toArray.size ≤ sizeLine := by rw [List.size_toArray, List.size_toArray]; omega
  have hlong : ¬ (!its.toArray.isEmpty && Builtin.List.listTooLong (its.toArray.size + its2.toArray.size)) = true := by
    rw [notLongL hsz, Bool.and_false]
    exact Bool.false_ne_true
  refine call_meets F.slot_list_extend ⟨_, e, rfl⟩ F.entry_list_extend (F.args_list_extend_2 _ _)
    (AutoSeq1.list_extend_list_list_0 l its.toArray n b its2.toArray n2 hlong (by rw [List.size_toArray]; omega) (by omega)) ⟨e, e2, ?_⟩
  refine ⟨.non, _, I.lset (its' := its ++ its2) hH e (by simp) (r.append r2) ?_, rfl, q⟩
  rw [List.length_append]
  omega
theorem s_ext {i : Nat} {x : Str} {apos : Pos} (hK : X.K = c.z.K) (hN : X.N[i]? = some x) (hv : Vis X.env.scope x) (hd : (x == ("__debug__" : Str)) = false) (hcd : (x == ("__classdict__" : Str)) = false) (h : PE X e (tE c a)) (hst : starEach [e] X.env = [(false, eval e X.env)])
    (hline : (apos.endLine == p2.line) = true) : PS X (.Expr (.Call (.Attribute (.Name x p1) "extend" apos) [e] [] p2) pos) (tS c (.ext i a)) := by
  have hs1 : starEach [e] X.env = (false, eval e X.env) :: starEach [] X.env := hst
  refine PS_weak (ps_expr (pe_bm PySem.F.plainAttrs_list PySem.F.slot_list_extend PySem.F.type_list_extend mt_extendR (pe_var hN hv hd hcd) (pa_cons h pa_nil hs1) (hfew := by rw [hst]; rfl) (hline := hline) (hs := hs1)) rfl) fun D σ H ⟨g, F, S, P⟩ => ?_
  unfold exS at P
  cases q0 : lent g i with
  | none => rw [q0] at P; exact P.elim
  | some s0 =>
    rw [q0] at P
    obtain ⟨a0, ow0, _⟩ := lent_k S q0
    refine ⟨.ref a0, ow0.sl, by rw [hK]; exact tyV_own ow0, o_stepF S P fun r1 g1 v1 H1 F1 S1 T1 R1 P1 => ?_⟩
    cases q1 : lent g1 i with
    | none => rw [q1] at P1; exact P1.elim
    | some s1 =>
      obtain ⟨xs, k⟩ := s1
      rw [q1] at P1
      obtain ⟨a1, ow, hk, hk2⟩ := lent_k S1 q1
      have := ow.sl
      rw [ow0.sl] at this; cases this
      obtain ⟨ws, w1, w2, w3⟩ := ow.vs
      cases q2 : r1.d with
      | list ys =>
        rw [q2] at P1 R1
        dsimp only at P1
        obtain ⟨b, us, rfl, u1, u2, u3⟩ := R1.lst_inv
        split at P1
        · rename_i hl
          refine ⟨a0, b, ws, us, rfl, rfl, w1, Rd_sub S1.G.le u1, by rw [w2.length, u2.length]; exact hl, ?_⟩
          exact P1 σ _ F1 (sim_write S1 q1 ow (w2.append u2) (by rw [List.length_append]; exact hl) hk hk2) (Sub.refl F1)
        · exact P1.elim
      | _ => rw [q2] at P1; exact P1.elim
theorem s_popS {i : Nat} {x : Str} {apos : Pos} (hK : X.K = c.z.K) (hN : X.N[i]? = some x) (hv : Vis X.env.scope x) (hd : (x == ("__debug__" : Str)) = false) (hcd : (x == ("__classdict__" : Str)) = false)
    (hline : (apos.endLine == p2.line) = true) : PS X (.Expr (.Call (.Attribute (.Name x p1) "pop" apos) [] [] p2) pos) (tS c (.popS i)) := by
  refine PS_weak (ps_expr (pe_bm0 PySem.F.plainAttrs_list PySem.F.slot_list_pop PySem.F.type_list_pop mt_pop (pe_var hN hv hd hcd) (hline := hline)) rfl) fun D σ H ⟨g, F, S, P⟩ => ?_
  unfold exS at P
  cases q0 : lent g i with
  | none => rw [q0] at P; exact P.elim
  | some s0 =>
    obtain ⟨xs, k⟩ := s0
    rw [q0] at P
    obtain ⟨a0, ow, hk, hk2⟩ := lent_k S q0
    obtain ⟨ws, w1, w2, w3⟩ := ow.vs
    cases xs with
    | nil => exact P.elim
    | cons y ys =>
      have hw := w2.length
      have hpos : ws.length - 1 < ws.length := by rw [hw]; simp
      refine ⟨.ref a0, ow.sl, by rw [hK]; exact tyV_own ow, a0, ws, ws[ws.length - 1], rfl, rfl, w1, by simp [hpos], ?_⟩
      exact P σ _ F (sim_write S q0 ow w2.dropLast (by rw [List.length_dropLast]; omega) hk hk2) (Sub.refl F)
theorem s_set {i : Nat} {x : Str} (hN : X.N[i]? = some x) (hv : Vis X.env.scope x) (hd : (x == ("__debug__" : Str)) = false) (hcd : (x == ("__classdict__" : Str)) = false) (h : PE X e (tE c a)) (hk : PE X e1 (tE c b))
    (hsub : ∀ v, assign (.Subscript (.Name x p1) e1 p2) X.env v = (do
      let ov ← holding [v] (eval (.Name x p1) X.env)
      let iv ← holding [v, ov] (eval e1 X.env)
      standAt p2
      holding [v, ov, iv] (setItem ov iv v)
      release [v, ov, iv] [])) (hs : swapsWithSole [.Subscript (.Name x p1) e1 p2] e pos.line X.env = pure false) (hw : swappedStores [.Subscript (.Name x p1) e1 p2] e X.env = pure none)
    (h1 : (assignEach [.Subscript (.Name x p1) e1 p2] X.env).map (·.2) = [assign (.Subscript (.Name x p1) e1 p2) X.env]) : PS X (.Assign [.Subscript (.Name x p1) e1 p2] e pos) (tS c (.set i b a)) := by
  refine PS_weak (ps_asg h (pg_sub (pe_var hN hv hd hcd) hk set_list hsub) hs hw h1) fun D σ H ⟨g, F, S, P⟩ => ?_
  unfold exS at P
  refine o_stepF S P fun r1 g1 v1 H1 F1 S1 T1 R1 P1 => ?_
  cases q0 : lent g1 i with
  | none => rw [q0] at P1; exact P1.elim
  | some s0 =>
    rw [q0] at P1
    obtain ⟨a0, ow0, _⟩ := lent_k S1 q0
    refine ⟨.ref a0, ow0.sl, o_stepF S1 P1 fun r2 g2 v2 H2 F2 S2 T2 R2 P2 => ?_⟩
    cases r2 with
    | own zs => exact P2.elim
    | fro d2 =>
      cases d2 with
      | int j =>
        cases R2.int_inv
        cases q1 : lent g2 i with
        | none => rw [q1] at P2; exact P2.elim
        | some s1 =>
          obtain ⟨xs, k⟩ := s1
          rw [q1] at P2
          obtain ⟨a1, ow, hk, hk2⟩ := lent_k S2 q1
          have := ow.sl
          rw [ow0.sl] at this; cases this
          obtain ⟨ws, w1, w2, w3⟩ := ow.vs
          cases q2 : ixN xs.length j with
          | none => simp only [q2] at P2; exact P2.elim
          | some m =>
            simp only [q2] at P2
            refine ⟨a0, ws, j, m, rfl, rfl, w1, by rw [w2.length]; exact q2, ?_⟩
            exact P2 σ _ F2 (sim_write S2 q1 ow (w2.set (R1.up T2.f) m) (by rw [List.length_set]; exact w3) hk hk2) (Sub.refl F2)
      | _ => exact P2.elim
/-! ### results side by side -/
def ownA : List V → List Rs → List Addr
  | .ref a :: vs, .own _ :: rs => a :: ownA vs rs
  | _ :: vs, _ :: rs => ownA vs rs
  | _, _ => []
inductive RsAll (z : Zc) (H : Hp) (g' : Gm) (σ : Stt) (H' F' : Hp) : List V → List Rs → Prop
  | nil : RsAll z H g' σ H' F' [] []
  | cons {v : V} {vs : List V} {r : Rs} {rs : List Rs} : RsOk z H g' σ H' F' v r → RsAll z H g' σ H' F' vs rs → (∀ ad xs, r = .own xs → v = .ref ad → ad ∉ ownA vs rs) → RsAll z H g' σ H' F' (v :: vs) (r :: rs)
theorem RsAll.length {z : Zc} {H : Hp} {g' : Gm} {σ : Stt} {H' F' : Hp} : ∀ {vs : List V} {rs : List Rs}, RsAll z H g' σ H' F' vs rs → vs.length = rs.length
  | _, _, .nil => rfl
  | _, _, .cons _ t _ => by simp [RsAll.length t]
theorem RsOk.keep {z : Zc} {H H1 F1 H2 F2 : Hp} {g1 g2 : Gm} {σ : Stt} {v : V} {r : Rs} (q : RsOk z H g1 σ H1 F1 v r) (T : Stp g1 σ H1 F1 g2 H2 F2) : RsOk z H g2 σ H2 F2 v r := by
  cases r with
  | fro d => exact (show Rp z.K F1 v d from q).up T.f
  | own xs =>
    obtain ⟨a, e, ⟨vs, h1, h2, h3⟩, nf, n0, nH, no⟩ := q
    exact ⟨a, e, ⟨vs, T.k a _ h1 (fun ps q => by cases q) no, h2.up T.f, h3⟩, T.n a (by rw [h1]; simp) nf no, n0, nH, fun ⟨i, h, s⟩ => no ⟨i, T.o i h, s⟩⟩
theorem ownA_new {z : Zc} {H : Hp} {g' : Gm} {σ : Stt} {H' F' : Hp} : ∀ {vs : List V} {rs : List Rs}, RsAll z H g' σ H' F' vs rs → ∀ ad ∈ ownA vs rs, H ad = none
  | _, _, .nil, ad, h => by simp [ownA] at h
  | _, _, .cons (v := v) (vs := vs) (r := r) (rs := rs) q t _, ad, h => by
    cases r with
    | fro d =>
      have e : ownA (v :: vs) (.fro d :: rs) = ownA vs rs := by cases v <;> rfl
      rw [e] at h
      exact ownA_new t ad h
    | own xs =>
      obtain ⟨a, rfl, _, _, _, nH, _⟩ := q
      have e : ownA (.ref a :: vs) (.own xs :: rs) = a :: ownA vs rs := rfl
      rw [e] at h
      rcases List.mem_cons.mp h with rfl | h
      · exact nH
      · exact ownA_new t ad h
theorem RsAll.back {z : Zc} {c : Cn} (hz : z = c.z) {H F H1 F1 : Hp} {g g1 g' : Gm} {σ : Stt} {H' F' : Hp} (T : Stp g σ H F g1 H1 F1) : ∀ {vs : List V} {rs : List Rs}, RsAll z H1 g' σ H' F' vs rs → RsAll z H g' σ H' F' vs rs
  | _, _, .nil => .nil
  | _, _, .cons q t n => by
    subst hz
    exact .cons (RsOk.back T q) (RsAll.back rfl T t) n
def EndR (c : Cn) (g : Gm) (σ : Stt) (H F : Hp) (Q : List V → Hp → Prop) (rs : List Rs) (g' : Gm) : Prop :=
  ∀ vs H' F', Sim c.z g' σ H' F' → Stp g σ H F g' H' F' → RsAll c.z H g' σ H' F' vs rs → Q vs H'
def tR (c : Cn) (xs : Exs) : TA := fun σ H Q => ∃ g F, Sim c.z g σ H F ∧ Pst c (evr c.L xs g) (EndR c g σ H F Q)
theorem r_nil : PA X [] (tR c .nil) := PA_weak pa_nil fun σ H Q ⟨g, F, S, P⟩ => by unfold evr at P; exact P [] H F S (Stp.refl _ _ _ _) .nil
theorem r_cons {x : Ex} {xs : Exs} {es : List Expr} (ha : PE X e (tE c x)) (hr : PA X es (tR c xs)) (hs : starEach (e :: es) X.env = (false, eval e X.env) :: starEach es X.env) : PA X (e :: es) (tR c (.cons x xs)) := by
  refine PA_weak (pa_cons ha hr hs) fun σ H Q ⟨g, F, S, P⟩ => ?_
  unfold evr at P
  refine ⟨g, F, S, P.bind.mono fun r1 g1 P1 v1 H1 F1 S1 T1 R1 => ⟨g1, F1, S1, P1.bind.mono fun rs g2 P2 vs H2 F2 S2 T2 R2 => ?_⟩⟩
  refine (show EndR c g σ H F Q (r1 :: rs) g2 from P2) _ H2 F2 S2 (T1.trans T2) (.cons (R1.keep T2) (R2.back rfl T1) fun ad xs e ev hm => ?_)
  subst e
  obtain ⟨a, ev2, ⟨ws, h1, _⟩, _⟩ := R1
  rw [ev] at ev2
  cases ev2
  rw [ownA_new R2 ad hm] at h1
  cases h1
/-- one is stored, another keeps -/
theorem RsOk.put {z : Zc} {Hs H F : Hp} {g g1 : Gm} {σ : Stt} {i : Nat} {v w : V} {r q : Rs} (S : Sim z g σ H F) (R : RsOk z Hs g σ H F v r) (W : RsOk z Hs g σ H F w q) (h : put g i r.sl = some g1) (n : ∀ ad xs ys, r = .own xs → v = .ref ad → q = .own ys → w ≠ .ref ad) :
    RsOk z Hs g1 (σ.set i (some v)) H F w q := by
  obtain ⟨hi, nio, rfl⟩ := put_inv h
  cases q with
  | fro d => exact W
  | own ys =>
    obtain ⟨a, rfl, h1, h2, h3, h4, no⟩ := W
    refine ⟨a, rfl, h1, h2, h3, h4, fun ⟨j, hj, hs⟩ => ?_⟩
    by_cases e : i = j
    · subst e
      have hσ : i < σ.length := by rw [← S.len]; exact hi
      rw [List.getElem?_set_self hσ] at hs
      cases hs
      cases r with
      | fro d =>
        rcases hj with ⟨xs, hj⟩ | ⟨xs, hj⟩ <;> rcases set_get hj with ⟨_, e, _⟩ | ⟨e, _⟩ <;> first | cases e | exact e rfl
      | own xs => exact n a xs ys rfl rfl rfl rfl
    · rw [List.getElem?_set_ne e] at hs
      refine no ⟨j, ?_, hs⟩
      unfold isOwn at *
      rw [List.getElem?_set_ne e] at hj
      exact hj
theorem RsAll.put {z : Zc} {Hs H F : Hp} {g g1 : Gm} {σ : Stt} {i : Nat} {v : V} {r : Rs} (S : Sim z g σ H F) (R : RsOk z Hs g σ H F v r) (h : put g i r.sl = some g1) : ∀ {vs : List V} {rs : List Rs}, RsAll z Hs g σ H F vs rs → (∀ ad xs, r = .own xs → v = .ref ad → ad ∉ ownA vs rs) → RsAll z Hs g1 (σ.set i (some v)) H F vs rs
  | _, _, .nil, _ => .nil
  | _, _, .cons (v := w) (vs := vs) (r := q) (rs := rs) W t n, no => by
    refine .cons (RsOk.put S R W h fun ad xs ys e1 e2 e3 e4 => ?_) (RsAll.put S R h t fun ad xs e1 e2 hm => no ad xs e1 e2 ?_) n
    · subst e3 e4
      exact no ad xs e1 e2 (by show ad ∈ ad :: ownA vs rs; exact List.mem_cons_self)
    · unfold ownA
      split
      · rename_i e5 e6
        cases e5; cases e6
        exact List.mem_cons_of_mem _ hm
      · rename_i e5 e6
        cases e5; cases e6
        exact hm
      · rename_i x1 x2 x3 x4
        exact (x4 _ _ _ _ rfl rfl).elim
theorem rowR_put {z : Zc} {H F Hs : Hp} {Q : Stt → Hp → Prop} : ∀ {is : List Nat} {vs : List V} {rs : List Rs} {g g2 : Gm} {σ : Stt}, Sim z g σ H F → RsAll z Hs g σ H F vs rs → putRs is rs g = some g2 → (∀ σ', Sim z g2 σ' H F → Q σ' H) → gRow is vs σ H Q
  | [], _, _, g, g2, σ, S, .nil, h, q => by
    unfold putRs at h
    cases h
    exact ⟨rfl, q σ S⟩
  | i :: is, _, _, g, g2, σ, S, .cons (v := v) (vs := vs) (r := r) h1 h2 n, h, q => by
    unfold putRs at h
    cases e : put g i r.sl with
    | none => rw [e] at h; cases h
    | some g1 =>
      rw [e] at h
      refine ⟨v, vs, rfl, ?_⟩
      exact rowR_put (sim_put S h1 e) (RsAll.put S h1 e h2 n) h q
  | [], _, _, g, g2, σ, S, .cons _ _ _, h, q => by unfold putRs at h; cases h
  | i :: is, _, _, g, g2, σ, S, .nil, h, q => by unfold putRs at h; cases h
theorem putRs_len : ∀ {is : List Nat} {rs : List Rs} {g g2 : Gm}, putRs is rs g = some g2 → rs.length = is.length
  | [], [], _, _, _ => rfl
  | [], _ :: _, _, _, h => by unfold putRs at h; cases h
  | _ :: _, [], _, _, h => by unfold putRs at h; cases h
  | i :: is, r :: rs, g, g2, h => by
    unfold putRs at h
    cases e : put g i r.sl with
    | none => rw [e] at h; cases h
    | some g1 => rw [e] at h; simp [putRs_len h]
theorem RsOk.laid {z : Zc} {Hs H F : Hp} {g : Gm} {σ : Stt} {p : Addr} {o : HO} {v : V} {r : Rs} (hp : H p = none) (q : RsOk z Hs g σ H F v r) : RsOk z Hs g σ (upd H p o) F v r := by
  cases r with
  | fro d => exact q
  | own xs =>
    obtain ⟨a, e, ⟨vs, h1, h2⟩, h3⟩ := q
    exact ⟨a, e, ⟨vs, by rw [upd_ne (ne_of_none h1 hp)]; exact h1, h2⟩, h3⟩
theorem RsAll.laid {z : Zc} {Hs H F : Hp} {g : Gm} {σ : Stt} {p : Addr} {o : HO} (hp : H p = none) : ∀ {vs : List V} {rs : List Rs}, RsAll z Hs g σ H F vs rs → RsAll z Hs g σ (upd H p o) F vs rs
  | _, _, .nil => .nil
  | _, _, .cons q t n => .cons (RsOk.laid hp q) (RsAll.laid hp t) n
/-- a, b = x, y: no pair is made -/
theorem par_read {is : List Nat} {xs : Exs} {D : Ends} {σ : Stt} {H : Hp} (q : tS c (.par is xs) D σ H) : tR c xs σ H fun vs H1 => vs.length = is.length ∧ gRow is vs σ H1 D.nx := by
  obtain ⟨g, F, S, P⟩ := q
  unfold exS at P
  refine ⟨g, F, S, ?_⟩
  cases q : evr c.L xs g with
  | stuck => rw [q] at P; exact P
  | exc e => rw [q] at P; exact P
  | ok rs g1 =>
    rw [q] at P
    intro vs H1 F1 S1 T1 R1
    dsimp only [R.sbind] at P
    cases q2 : putRs is rs g1 with
    | none => rw [q2] at P; exact P.elim
    | some g2 =>
      rw [q2] at P
      exact ⟨by rw [R1.length, putRs_len q2], rowR_put S1 R1 q2 fun σ' S' => P σ' H1 F1 S' T1.f⟩
theorem par_tup {is : List Nat} {xs : Exs} {D : Ends} {σ : Stt} {H : Hp} (q : tS c (.par is xs) D σ H) (hl : is.length ≤ 1000) : tAsg (tTup (tR c xs)) (gTup c.z.K is.length (gRow is)) D σ H := by
  obtain ⟨g, F, S, P⟩ := q
  unfold exS at P
  refine ⟨g, F, S, ?_⟩
  cases q : evr c.L xs g with
  | stuck => rw [q] at P; exact P
  | exc e => rw [q] at P; exact P
  | ok rs g1 =>
    rw [q] at P
    intro vs H1 F1 S1 T1 R1
    dsimp only [R.sbind] at P
    cases q2 : putRs is rs g1 with
    | none => rw [q2] at P; exact P.elim
    | some g2 =>
      rw [q2] at P
      have el : vs.length = is.length := by rw [R1.length, putRs_len q2]
      refine ⟨by rw [el]; exact le_line hl, fun p hp => ?_⟩
      obtain ⟨S2, T2, _⟩ := S1.laid hp (o := .tup vs) (fun ps e => by cases e)
      exact ⟨p, vs, rfl, SqT.of upd_same, el, rowR_put S2 (RsAll.laid hp R1) q2 fun σ' S' => P σ' _ F1 S' T1.f⟩
theorem s_par {is : List Nat} {es ts : List Expr} {xs : Exs} {k k2 : Nat} (hK : X.K = c.z.K) (hN : X.N.Nodup) (hc : X.calm = true) (h : PA X es (tR c xs)) (hl : is.length ≤ 1000) (row : Paired (fun i e => ∃ x p, e = Expr.Name x p ∧ X.N[i]? = some x ∧ Loc X.env.scope x ∧ (X.fn x = true ∨ X.env.scope.names.lookup x = some .local)) is ts)
    (hs : swapsWithSole [.Tuple ts k p1] (.Tuple es k2 p2) pos.line X.env = pure false) (hw : swappedStores [.Tuple ts k p1] (.Tuple es k2 p2) X.env = pure none) (h1 : (assignEach [.Tuple ts k p1] X.env).map (·.2) = [assign (.Tuple ts k p1) X.env]) :
    PS X (.Assign [.Tuple ts k p1] (.Tuple es k2 p2) pos) (tS c (.par is xs)) := by
  obtain ⟨l1, l2⟩ := row_assigns (X := X) (fun i e ⟨x, p, q, _⟩ => ⟨x, p, q⟩) row
  have hg := pg_tup (pos := p1) (k := k) hc (g_row hN row) l1 l2
  rw [hK] at hg
  exact PS_weak (ps_asg (pe_tup h) hg hs hw h1) fun D σ H q => par_tup q hl
theorem s_par2 {i j : Nat} {x y : Str} {xs : Exs} {px py pt pt2 : Pos} {kt k2 : Nat} (hc : X.calm = true) (hN : X.N.Nodup) (hi : X.N[i]? = some x) (hj : X.N[j]? = some y) (hij : i ≠ j) (hx : X.env.scope.names.lookup x = some .local) (hy : X.env.scope.names.lookup y = some .local) (h : PA X [e1, e2] (tR c xs))
    (hw : swappedStores [.Tuple [.Name x px, .Name y py] kt pt] (.Tuple [e1, e2] k2 pt2) X.env = pure (some [x, y])) :
    PS X (.Assign [.Tuple [.Name x px, .Name y py] kt pt] (.Tuple [e1, e2] k2 pt2) pos) (tS c (.par [i, j] xs)) := by
  refine PS_weak (ps_par hc hN hi hj hij hx hy h hw) fun D σ H q => ?_
  obtain ⟨g, F, S, P⟩ := par_read q
  refine ⟨g, F, S, P.mono fun rs g' z vs H1 F1 S1 T1 R1 => ?_⟩
  obtain ⟨el, v, r, e1, w, r2, e2, e3, q⟩ := z vs H1 F1 S1 T1 R1
  subst e1 e2 e3
  exact ⟨v, w, rfl, q⟩
end
end TB
set_option maxHeartbeats 1000000
/-! Loops and comprehensions. -/
namespace TB
open PySem PySem.Spec PyProof.Rows L2
/-! ### what is walked -/
def YD (K : PySem.W.Frag) (F : Hp) (ds : List PyData) : Nat → Hp → V → Hp → Prop := fun i H x H' => ∃ d, ds[i]? = some d ∧ Made K F H x H' (.fro d)
def WalkD (K : PySem.W.Frag) (F : Hp) (J : It) (ds : List PyData) : Prop := Walk J ds.length (fun H => Sub F H) (YD K F ds)
section
variable {K : PySem.W.Frag} {F : Hp} {a b : Addr} {vs ws : List V} {ds es : List PyData}
theorem yat_yd {P : Hp → Prop} (r : RpA K F vs ds) : ∀ i H x H', i < ds.length → P H → YAt vs i H x H' → YD K F ds i H x H' := fun i H x H' hi _ y => by
  obtain ⟨d, e, q⟩ := r.getv y.2
  exact ⟨d, e, .inl ⟨y.1, q⟩⟩
theorem walkD_list (h : Rd F a (.lst vs)) (r : RpA K F vs ds) : WalkD K F (Itl K a) ds := by
  have w := (walk_list (K := K) (a := a) (xs := vs)).mono (G' := fun H => Sub F H) (Y' := YD K F ds) (fun H s => .inl (Rd_sub s h)) (fun i H x H' hi g y => yat_yd (P := fun _ => True) r i H x H' (by rw [← r.length]; exact hi) trivial y)
  rw [r.length] at w
  exact w
theorem walkD_tup (h : SqT K F a vs) (r : RpA K F vs ds) : WalkD K F (Itt K a) ds := by
  have w := (walk_tup (K := K) (a := a) (xs := vs)).mono (G' := fun H => Sub F H) (Y' := YD K F ds) (fun H s => SqT_sub s h) (fun i H x H' hi g y => yat_yd (P := fun _ => True) r i H x H' (by rw [← r.length]; exact hi) trivial y)
  rw [r.length] at w
  exact w
theorem walkD_range {lo : Int} {n : Nat} : WalkD K F (Itr lo n) (rangeD lo n) := by
  have w := (walk_range (lo := lo) (n := n)).mono (G' := fun H => Sub F H) (Y' := YD K F (rangeD lo n)) (fun H s => trivial) (fun i H x H' hi g y => ⟨.int (lo + (i : Nat)), by simp [rangeD, hi], .inl ⟨y.1, by rw [y.2]; exact .int _⟩⟩)
  unfold WalkD
  rw [show (rangeD lo n).length = n by simp [rangeD]]
  exact w
theorem walkD_rangeC {lo s : Int} {n : Nat} : WalkD K F (Itc lo s n) (rangeC lo s n) := by
  have w := (walk_rangeC (lo := lo) (c := s) (n := n)).mono (G' := fun H => Sub F H) (Y' := YD K F (rangeC lo s n)) (fun H s => trivial) (fun i H x H' hi g y => ⟨.int (lo + (i : Nat) * s), by simp [rangeC, hi], .inl ⟨y.1, by rw [y.2]; exact .int _⟩⟩)
  unfold WalkD
  rw [show (rangeC lo s n).length = n by simp [rangeC]]
  exact w
theorem pair_yd {xs ys : Nat → Option V} {us : List PyData} (h : ∀ i x y, i < us.length → xs i = some x → ys i = some y → ∃ d e, us[i]? = some (pairD d e) ∧ Rp K F x d ∧ Rp K F y e) : ∀ i H v H', i < us.length → YPair xs ys i H v H' → YD K F us i H v H' := fun i H v H' hi ⟨T, x, y, h1, h2, h3, h4, h5⟩ => by
  obtain ⟨d, e, e1, e2, e3⟩ := h i x y hi h4 h5
  exact ⟨_, e1, .inr ⟨T, [x, y], [d, e], h2, h1, rfl, h3, .cons e2 (.cons e3 .nil), by rw [sizeLine_eq]; simp⟩⟩
theorem zip_at {r : RpA K F vs ds} {q : RpA K F ws es} : ∀ i x y, i < (List.zipWith pairD ds es).length → vs[i]? = some x → ws[i]? = some y → ∃ d e, (List.zipWith pairD ds es)[i]? = some (pairD d e) ∧ Rp K F x d ∧ Rp K F y e := fun i x y hi h1 h2 => by
  obtain ⟨d, e1, r1⟩ := r.getv h1
  obtain ⟨e, e2, r2⟩ := q.getv h2
  exact ⟨d, e, by rw [List.getElem?_zipWith, e1, e2], r1, r2⟩
theorem walkD_zip (h : Rd F a (.lst vs)) (r : RpA K F vs ds) (h' : Rd F b (.lst ws)) (r' : RpA K F ws es) : WalkD K F (Itz K a b) (List.zipWith pairD ds es) := by
  have el : (List.zipWith pairD ds es).length = min vs.length ws.length := by rw [List.length_zipWith, r.length, r'.length]
  unfold WalkD
  rw [el]
  exact (walk_zip (K := K) (a := a) (b := b) (xs := vs) (ys := ws) rfl).mono (G' := fun H => Sub F H) (Y' := YD K F (List.zipWith pairD ds es)) (fun H s => ⟨.inl (Rd_sub s h), .inl (Rd_sub s h')⟩) (fun i H x H' hi g y => pair_yd (zip_at (r := r) (q := r')) i H x H' (by rw [el]; exact hi) y)
theorem walk_zipT0 {xs ys : List V} {n : Nat} (hn : n = min xs.length ys.length) : Walk (RZ.ItzT K a b) n (fun H => SqT K H a xs ∧ SqT K H b ys) (YPair (fun i => xs[i]?) (fun i => ys[i]?)) := by
  subst hn
  refine ⟨fun i _ hi q => ?_, fun _ q => ⟨xs, ys, q.1, q.2, by omega⟩, fun i H v H' _ q y => ?_⟩
  · have h1 : i < xs.length := by omega
    have h2 : i < ys.length := by omega
    exact ⟨xs, ys, xs[i], ys[i], q.1, q.2, by simp [h1], by simp [h2]⟩
  · obtain ⟨T, x, z, h1, h2, h3, h4, h5⟩ := y
    exact ⟨T, x, z, h1, h2, h3, h4 xs q.1, h5 ys q.2⟩
theorem walkD_zipT (h : SqT K F a vs) (r : RpA K F vs ds) (h' : SqT K F b ws) (r' : RpA K F ws es) : WalkD K F (RZ.ItzT K a b) (List.zipWith pairD ds es) := by
  have el : (List.zipWith pairD ds es).length = min vs.length ws.length := by rw [List.length_zipWith, r.length, r'.length]
  unfold WalkD
  rw [el]
  refine (walk_zipT0 (K := K) (a := a) (b := b) (xs := vs) (ys := ws) rfl).mono (G' := fun H => Sub F H) (Y' := YD K F (List.zipWith pairD ds es)) (fun H s => ⟨SqT_sub s h, SqT_sub s h'⟩) (fun i H x H' hi g y => pair_yd (zip_at (r := r) (q := r')) i H x H' (by rw [el]; exact hi) y)
theorem walkD_enum (h : Rd F a (.lst vs)) (r : RpA K F vs ds) : WalkD K F (Ite K a) (List.zipWith pairD (rangeD 0 ds.length) ds) := by
  have el : (List.zipWith pairD (rangeD 0 ds.length) ds).length = vs.length := by rw [List.length_zipWith, r.length]; simp [rangeD]
  unfold WalkD
  rw [el]
  refine (walk_enum (K := K) (a := a) (xs := vs)).mono (G' := fun H => Sub F H) (Y' := YD K F (List.zipWith pairD (rangeD 0 ds.length) ds)) (fun H s => .inl (Rd_sub s h)) (fun i H x H' hi g y => pair_yd (fun i x y hi h1 h2 => ?_) i H x H' (by rw [el]; exact hi) y)
  obtain ⟨e, e2, r2⟩ := r.getv h2
  cases h1
  have hi2 : i < ds.length := by rw [el, r.length] at hi; exact hi
  exact ⟨.int (i : Nat), e, by rw [List.getElem?_zipWith, e2]; simp [rangeD, hi2], .int _, r2⟩
end
def tI (c : Cn) (x : Ex) : TI := fun σ H R => ∃ g F, Sim c.z g σ H F ∧ Pst c (ev c.L x g) fun r g' => ∃ ds, items r.d = some ds ∧ ∀ J H' F', Sim c.z g' σ H' F' → Stp g σ H F g' H' F' → WalkD c.z.K F' J ds → ds.length ≤ sizeLine → R J H'
theorem PI_weak {X : Cx} {tg e : Expr} {t t' : TI} (h : PI X tg e t) (w : ∀ σ H R, t' σ H R → t σ H R) : PI X tg e t' := ⟨fun pins s σ H R I q => h.run pins s σ H R I (w σ H R q)⟩
section
variable {c : Cn} {X : Cx} {e e1 e2 e3 tg : Expr} {a b d : Ex} {pos p1 p2 p3 : Pos}
/-- a list or a tuple, which of them is seen at the walk -/
def iSeq (K : PySem.W.Frag) (tl : TE) : TI := fun σ H R => tl σ H fun x H1 => (∃ a, x = .ref a ∧ (∃ xs, SqL K H1 a xs) ∧ R (Itl K a) H1) ∨ (∃ a, x = .ref a ∧ (∃ xs, SqT K H1 a xs) ∧ R (Itt K a) H1)
theorem pi_seq {l : Expr} {tl : TE} (hl : PE X l tl) : PI X tg l (iSeq X.K tl) := by
  refine ⟨fun pins s σ H R I h => ?_⟩
  refine thn (hl.run pins s σ H _ I h) fun v s1 ⟨x, H1, I1, r1, q1⟩ => ?_
  rcases q1 with ⟨a, e, ⟨xs, hq⟩, q⟩ | ⟨a, e, ⟨xs, hq⟩, q⟩
  · subst e
    cases r1
    obtain ⟨its, rv, p, hz⟩ := I1.list hq
    refine wpAny_pyIter_list p.isList ?_
    refine ⟨s1.heap.objs.size, [s1.heap.objs.size], _, _, H1, rfl, I1.kept (t' := s1.toks) fun b o e => Heap.get?_push_of_some _ e, turn_list a _, ⟨_, Heap.get?_push_size _ rfl, rfl, rfl⟩, fun b hb => ?_, q⟩
    have e : b = s1.heap.objs.size := by simpa using hb
    subst e
    exact I1.fpOk (Nat.le_refl _) (I1.hok.fresh (Nat.le_refl _))
  · subst e
    cases r1
    obtain ⟨its, rv, p, hz⟩ := I1.tuple hq
    refine wpAny_pyIter_tuple (show s1.heap.IsTuple a its.toArray from p) ?_
    refine ⟨s1.heap.objs.size, [s1.heap.objs.size], _, _, H1, rfl, I1.kept (t' := s1.toks) fun b o e => Heap.get?_push_of_some _ e, turn_tuple a _, ⟨_, Heap.get?_push_size _ rfl, rfl, rfl⟩, fun b hb => ?_, q⟩
    have e : b = s1.heap.objs.size := by simpa using hb
    subst e
    exact I1.fpOk (Nat.le_refl _) (I1.hok.fresh (Nat.le_refl _))
theorem i_seq (hK : X.K = c.z.K) (h : PE X e (tE c a)) : PI X tg e (tI c a) := by
  have hp := pi_seq (tg := tg) h
  rw [hK] at hp
  refine PI_weak hp fun σ H R ⟨g, F, S, P⟩ => ⟨g, F, S, P.mono fun r g' ⟨ds, e, q⟩ v H' F' S' T' R' => ?_⟩
  obtain ⟨F2, S2, T2, R2⟩ := freeze S' T' R'
  cases hd : r.d with
  | list ys =>
    rw [hd] at e R2
    cases e
    obtain ⟨ad, vs, rfl, h1, h2, h3⟩ := R2.lst_inv
    exact .inl ⟨ad, rfl, ⟨vs, .inl (Rd_sub S2.G.le h1)⟩, q _ H' F2 S2 T2 (walkD_list h1 h2) h3⟩
  | tuple ys =>
    rw [hd] at e R2
    cases e
    obtain ⟨ad, vs, rfl, h1, h2, h3⟩ := R2.tup_inv
    exact .inr ⟨ad, rfl, ⟨vs, SqT_sub S2.G.le h1⟩, q _ H' F2 S2 T2 (walkD_tup h1 h2) h3⟩
  | _ => rw [hd] at e; cases e
theorem i_rng1 (hg : Gl X "range") (hm : X.mg "range" = none) (h : PE X e (tE c a)) (hst : starEach [e] X.env = [(false, eval e X.env)]) : PI X tg (.Call (.Name "range" p1) [e] [] pos) (tI c (.rng1 a)) := by
  refine PI_weak (pi_range1 hg hm (pa_cons h pa_nil hst) hst) fun σ H R ⟨g, F, S, P⟩ => ?_
  unfold ev at P
  refine tE_step S P fun r1 g1 v1 H1 F1 S1 T1 R1 P1 => ?_
  cases r1 with
  | own xs => exact P1.elim
  | fro d =>
    cases d with
    | int n =>
      cases R1.int_inv
      dsimp only at P1
      split at P1
      · rename_i hn
        obtain ⟨ds, e, q⟩ := P1
        cases e
        exact ⟨n, rfl, by omega, by omega, q _ H1 F1 S1 T1 walkD_range (by simp [rangeD]; rw [sizeLine_eq]; omega)⟩
      · exact P1.elim
    | _ => exact P1.elim
theorem i_rng2 (hg : Gl X "range") (hm : X.mg "range" = none) (h : PE X e1 (tE c a)) (h2 : PE X e2 (tE c b)) (hst : starEach [e1, e2] X.env = [(false, eval e1 X.env), (false, eval e2 X.env)]) (hst2 : starEach [e2] X.env = [(false, eval e2 X.env)]) : PI X tg (.Call (.Name "range" p1) [e1, e2] [] pos) (tI c (.rng2 a b)) := by
  refine PI_weak (pi_range2 hg hm (pa_cons h (pa_cons h2 pa_nil hst2) (by rw [hst, hst2])) hst hst2) fun σ H R ⟨g, F, S, P⟩ => ?_
  unfold ev at P
  refine tE_step S P fun r1 g1 v1 H1 F1 S1 T1 R1 P1 => tE_step S1 P1 fun r2 g2 v2 H2 F2 S2 T2 R2 P2 => ?_
  cases r1 with
  | own xs => exact P2.elim
  | fro d =>
    cases d with
    | int m =>
      cases r2 with
      | own xs => exact P2.elim
      | fro d =>
        cases d with
        | int n =>
          cases R1.int_inv
          cases R2.int_inv
          dsimp only at P2
          split at P2
          · rename_i hn
            obtain ⟨ds, e, q⟩ := P2
            cases e
            exact ⟨m, n, rfl, ⟨by omega, by omega, by omega, by omega⟩, q _ H2 F2 S2 (T1.trans T2) walkD_range (by simp [rangeD]; rw [sizeLine_eq]; omega)⟩
          · exact P2.elim
        | _ => exact P2.elim
    | _ => exact P2.elim
theorem cntC_le {m n s : Int} (h0 : 0 < s) : (cntC m n s : Int) = if m < n then (n - m - 1) / s + 1 else 0 := by
  unfold cntC
  split
  · have : 0 ≤ (n - m - 1) / s := Int.ediv_nonneg (by omega) (by omega)
    omega
  · rfl
theorem cnt_lt {m n s : Int} (h0 : 0 < s) (h2 : -(2 ^ 24) ≤ m) (h4 : n < 2 ^ 24) : 0 ≤ (if m < n then (n - m - 1) / s + 1 else 0) ∧ (if m < n then (n - m - 1) / s + 1 else 0) ≤ if m < n then n - m else 0 := by
  split
  · have a : 0 ≤ (n - m - 1) / s := Int.ediv_nonneg (by omega) (by omega)
    have b : (n - m - 1) / s ≤ n - m - 1 := Int.ediv_le_self s (by omega)
    omega
  · omega
theorem rgC_pos {m n s : Int} (h0 : 0 < s) (h1 : s < 1000) (h2 : -(2 ^ 24) ≤ m) (h3 : -(2 ^ 24) ≤ n) (h4 : n < 2 ^ 24) (h5 : m < 2 ^ 24) : RgC m n s (cntC m n s) := by
  have hr : Builtin.Range.rangeSize m n s = if m < n then (n - m - 1) / s + 1 else 0 := by
    unfold Builtin.Range.rangeSize
    rw [if_pos (by omega)]
  have b := cnt_lt h0 h2 h4
  have b2 : (if m < n then n - m else 0) ≤ 2 ^ 26 := by split <;> omega
  refine ⟨by omega, by omega, ?_, ?_⟩
  · unfold Builtin.Range.small
    rw [hr]
    simp only [Builtin.Range.rangeFitsLong, Bool.and_eq_true, Bool.or_eq_true, decide_eq_true_eq, beq_iff_eq, if_pos (show s > 0 by omega)]
    generalize (if m < n then (n - m - 1) / s + 1 else 0) = z at b ⊢
    generalize (if m < n then n - m else 0) = w at b b2 ⊢
    omega
  · rw [hr, cntC_le h0]
theorem i_rng3 {k : Int} {j : Nat} {p3 : Pos} (hg : Gl X "range") (hm : X.mg "range" = none) (h : PE X e1 (tE c a)) (h2 : PE X e2 (tE c b)) (hst : starEach [e1, e2, .Constant (.int k) j p3] X.env = (false, eval e1 X.env) :: starEach [e2, .Constant (.int k) j p3] X.env)
    (hst2 : starEach [e2, .Constant (.int k) j p3] X.env = (false, eval e2 X.env) :: starEach [.Constant (.int k) j p3] X.env) : PI X tg (.Call (.Name "range" p1) [e1, e2, .Constant (.int k) j p3] [] pos) (tI c (.rng3 a b k)) := by
  have hpl : (backTo pos (starEach [e2, .Constant (.int k) j p3] X.env)).any (·.1) = false := by
    rw [hst2]
    rfl
  refine PI_weak (pi_range3 hg hm (pa_cons h (pa_cons h2 (pa_cons pe_int pa_nil rfl) hst2) hst) hst hpl) fun σ H R ⟨g, F, S, P⟩ => ?_
  unfold ev at P
  refine tE_step S P fun r1 g1 v1 H1 F1 S1 T1 R1 P1 => tE_step S1 P1 fun r2 g2 v2 H2 F2 S2 T2 R2 P2 => ?_
  cases r1 with
  | own xs => exact P2.elim
  | fro d =>
    cases d with
    | int m =>
      cases r2 with
      | own xs => exact P2.elim
      | fro d =>
        cases d with
        | int n =>
          cases R1.int_inv
          cases R2.int_inv
          dsimp only at P2
          split at P2
          · rename_i hn
            obtain ⟨h0, h1, g1, g2, g3, g4, g5⟩ := hn
            obtain ⟨ds, e, q⟩ := P2
            cases e
            have b := cnt_lt h0 g1 g3
            have b2 : (if m < n then n - m else 0) ≤ 2 ^ 24 := by split <;> omega
            have cl := cntC_le (m := m) (n := n) h0
            exact ⟨m, n, k, cntC m n k, rfl, rgC_pos h0 h1 g1 g2 g3 g4, q _ H2 F2 S2 (T1.trans T2) walkD_rangeC (by simp [rangeC]; rw [sizeLine_eq]; omega)⟩
          · exact P2.elim
        | _ => exact P2.elim
    | _ => exact P2.elim
theorem i_zip {elts : List Expr} {kk : Nat} (hK : X.K = c.z.K) (hg : Gl X "zip") (hm : X.mg "zip" = none) (h : PE X e1 (tE c a)) (h2 : PE X e2 (tE c b)) (hst : starEach [e1, e2] X.env = (false, eval e1 X.env) :: starEach [e2] X.env) (hst2 : starEach [e2] X.env = [(false, eval e2 X.env)]) :
    PI X (.Tuple elts kk p2) (.Call (.Name "zip" p1) [e1, e2] [] pos) (tI c (.zip a b)) := by
  have hp := RZ.pi_zipA (elts := elts) (kk := kk) (tpos := p2) (p := p1) (pos := pos) hg hm (pa_cons h (pa_cons h2 pa_nil hst2) hst) hst (by rw [hst2]; rfl)
  rw [hK] at hp
  refine PI_weak hp fun σ H R ⟨g, F, S, P⟩ => ?_
  unfold ev at P
  refine tE_step S P fun r1 g1 v1 H1 F1 S1 T1 R1 P1 => tE_step S1 P1 fun r2 g2 v2 H2 F2 S2 T2 R2 P2 => ?_
  have R1' := R1.up T2.f
  cases q1 : r1.d with
  | list xs =>
    cases q2 : r2.d with
    | list ys =>
      rw [q1, q2] at P2
      rw [q1] at R1'
      rw [q2] at R2
      obtain ⟨ad, vs, rfl, h1, h2, h3⟩ := R1'.lst_inv
      obtain ⟨bd, ws, rfl, k1, k2, k3⟩ := R2.lst_inv
      obtain ⟨ds, e, q⟩ := P2
      cases e
      exact ⟨ad, bd, vs, ws, rfl, .inl ⟨.inl (Rd_sub S2.G.le h1), .inl (Rd_sub S2.G.le k1), q _ H2 F2 S2 (T1.trans T2) (walkD_zip h1 h2 k1 k2) (by rw [List.length_zipWith]; omega)⟩⟩
    | _ => rw [q1, q2] at P2; exact P2.elim
  | tuple xs =>
    cases q2 : r2.d with
    | tuple ys =>
      rw [q1, q2] at P2
      rw [q1] at R1'
      rw [q2] at R2
      obtain ⟨ad, vs, rfl, h1, h2, h3⟩ := R1'.tup_inv
      obtain ⟨bd, ws, rfl, k1, k2, k3⟩ := R2.tup_inv
      obtain ⟨ds, e, q⟩ := P2
      cases e
      exact ⟨ad, bd, vs, ws, rfl, .inr ⟨SqT_sub S2.G.le h1, SqT_sub S2.G.le k1, q _ H2 F2 S2 (T1.trans T2) (walkD_zipT h1 h2 k1 k2) (by rw [List.length_zipWith]; omega)⟩⟩
    | _ => rw [q1, q2] at P2; exact P2.elim
  | _ => rw [q1] at P2; exact P2.elim
theorem i_enm {elts : List Expr} {kk : Nat} (hK : X.K = c.z.K) (hg : Gl X "enumerate") (hm : X.mg "enumerate" = none) (h : PE X e (tE c a)) (hst : starEach [e] X.env = [(false, eval e X.env)]) : PI X (.Tuple elts kk p2) (.Call (.Name "enumerate" p1) [e] [] pos) (tI c (.enm a)) := by
  have hp := pi_enum (elts := elts) (kk := kk) (tpos := p2) (p := p1) (pos := pos) hg hm (pa_cons h pa_nil hst) hst
  rw [hK] at hp
  refine PI_weak hp fun σ H R ⟨g, F, S, P⟩ => ?_
  unfold ev at P
  refine tE_step S P fun r1 g1 v1 H1 F1 S1 T1 R1 P1 => ?_
  cases q1 : r1.d with
  | list xs =>
    rw [q1] at P1 R1
    obtain ⟨ad, vs, rfl, h1, h2, h3⟩ := R1.lst_inv
    obtain ⟨ds, e, q⟩ := P1
    cases e
    exact ⟨ad, vs, rfl, .inl (Rd_sub S1.G.le h1), q _ H1 F1 S1 T1 (walkD_enum h1 h2) (by rw [List.length_zipWith]; omega)⟩
  | _ => rw [q1] at P1; exact P1.elim
/-! ### for -/
theorem s_for {it : Ex} {tg : Tg} {te iter : Expr} {body : List Stmt} {bs : Sms} (hp : PassesOwn (model X.prog X.w) X.A X.env X.xe) (hc : X.calm = true) (hi : PI X te iter (tI c it)) (hg : PG X te (gTgt c.z.K tg)) (hb : PSs X body (tSs c bs)) (hs : ∀ x, foldedSetIterable iter X.env x = pure x) :
    PS X (.For te iter body [] pos) (tS c (.for it tg bs)) := by
  refine PS_weak (ps_for hp hc hi hg hb hs) fun D σ H ⟨g, F, S, P⟩ => ?_
  unfold exS evi at P
  refine ⟨g, F, S, ?_⟩
  cases q0 : ev c.L it g with
  | stuck => rw [q0] at P; exact P
  | exc e => rw [q0] at P; exact P
  | ok r1 g1 =>
    rw [q0] at P
    cases q1 : items r1.d with
    | none => simp only [R.bind_ok, q1, R.of_none, R.sbind_stuck] at P; exact P.elim
    | some ds =>
      simp only [R.bind_ok, q1, R.of_some, R.sbind_ok] at P
      refine ⟨ds, q1, fun J H1 F1 S1 T1 W hz => ?_⟩
      refine for_it W (D := D) (fun i σ' H' => ∃ g' F', Sim c.z g' σ' H' F' ∧ Sub F1 F' ∧ EndO c F1 D (loopF tg (fun g => exs c.L bs g) (ds.drop i) g')) ⟨g1, F1, S1, Sub.refl F1, EndO.mono P T1.f⟩ (fun i σ' H' _ ⟨g', F', S', sb, _⟩ => sb.trans S'.G.le) ?_ ?_
      · rintro i x σ2 H2 H3 hi ⟨g2, F2, S2, sb2, P2⟩ ⟨dd, ed, md⟩
        have hdrop : ds.drop i = dd :: ds.drop (i + 1) := by
          obtain ⟨h1, h2⟩ := List.getElem?_eq_some_iff.mp ed
          rw [List.drop_eq_getElem_cons h1, h2]
        rw [hdrop] at P2
        unfold loopF at P2
        have md2 : Made c.z.K F2 H2 x H3 (.fro dd) := by
          rcases md with ⟨e, r⟩ | ⟨p, vs, es, h1, h2, h3, h4, h5, h6⟩
          · exact .inl ⟨e, r.up sb2⟩
          · exact .inr ⟨p, vs, es, h1, h2, h3, h4, h5.up sb2, h6⟩
        obtain ⟨F3, S3, T3, R3⟩ := made_post S2 md2
        cases q2 : tgt tg dd g2 with
        | none => rw [q2] at P2; exact P2.elim
        | some g3 =>
          rw [q2] at P2
          refine tgt_put S3 R3 q2 fun σ4 S4 => ⟨g3, F3, S4, ?_⟩
          dsimp only at P2
          cases q3 : exs c.L bs g3 with
          | stuck => rw [q3] at P2; exact P2
          | exc e => rw [q3] at P2; exact P2
          | nx g4 =>
            rw [q3] at P2
            exact fun σ5 H5 F5 S5 sb5 => ⟨g4, F5, S5, (sb2.trans T3.f).trans sb5, P2⟩
          | brk g4 =>
            rw [q3] at P2
            exact fun σ5 H5 F5 S5 sb5 => P2 σ5 H5 F5 S5 ((sb2.trans T3.f).trans sb5)
          | ret r g4 => rw [q3] at P2; exact P2
      · rintro σ2 H2 ⟨g2, F2, S2, sb2, P2⟩
        rw [List.drop_length] at P2
        exact P2 σ2 H2 F2 S2 sb2
/-! ### while -/
theorem s_whl {cd : Ex} {ce : Expr} {body : List Stmt} {bs : Sms} (hp : PassesOwn (model X.prog X.w) X.A X.env X.xe) (hc : PT X ce (tT c cd)) (hb : PSs X body (tSs c bs)) : PS X (.While ce body [] pos) (tS c (.whl cd bs)) := by
  refine PS_weak (ps_while hp hc hb) fun D σ H ⟨g, F, S, P⟩ => ?_
  unfold exS at P
  refine ⟨fun m σ' H' => ∃ g' F', Sim c.z g' σ' H' F' ∧ Sub F F' ∧ EndO c F D (loopW (fun g => ev c.L cd g) (fun g => exs c.L bs g) m g'), ⟨c.L.fu, g, F, S, Sub.refl F, P⟩, ?_⟩
  rintro m σ2 H2 ⟨g2, F2, S2, sb2, P2⟩
  cases m with
  | zero => exact P2.elim
  | succ m =>
    unfold loopW at P2
    refine ⟨g2, F2, S2, ?_⟩
    cases q : ev c.L cd g2 with
    | stuck => rw [q] at P2; exact P2
    | exc e => rw [q] at P2; exact P2
    | ok r g3 =>
      rw [q] at P2
      cases r with
      | own xs => exact P2.elim
      | fro d =>
        cases d with
        | bool k =>
          refine ⟨k, rfl, fun H3 F3 S3 T3 => ?_⟩
          cases k with
          | false =>
            refine P2 σ2 H3 F3 S3 (sb2.trans T3.f)
          | true =>
            refine ⟨fun σ' H' => ∃ g' F', Sim c.z g' σ' H' F' ∧ Sub F F' ∧ EndO c F D (loopW (fun g => ev c.L cd g) (fun g => exs c.L bs g) m g'), fun σ' H' h => ⟨m, Nat.lt_succ_self m, h⟩, g3, F3, S3, ?_⟩
            dsimp only at P2
            cases q3 : exs c.L bs g3 with
            | stuck => rw [q3] at P2; exact P2
            | exc e => rw [q3] at P2; exact P2
            | nx g4 =>
              rw [q3] at P2
              exact fun σ5 H5 F5 S5 sb5 => ⟨g4, F5, S5, (sb2.trans T3.f).trans sb5, P2⟩
            | brk g4 =>
              rw [q3] at P2
              exact fun σ5 H5 F5 S5 sb5 => P2 σ5 H5 F5 S5 ((sb2.trans T3.f).trans sb5)
            | ret r g4 => rw [q3] at P2; exact P2
        | _ => exact P2.elim
end
end TB
set_option maxHeartbeats 1000000
/-! Comprehensions. -/
namespace TB
open PySem PySem.Spec PyProof.Rows L2
theorem wipeG_length (g : Gm) : ∀ vs : List Nat, (wipeG g vs).length = g.length
  | [] => rfl
  | v :: vs => by unfold wipeG; rw [List.length_set, wipeG_length g vs]
theorem wipeG_get {g : Gm} {i : Nat} {s : Sl} : ∀ {vs : List Nat}, (wipeG g vs)[i]? = some s → s ≠ .no → g[i]? = some s ∧ i ∉ vs
  | [], h, _ => ⟨h, by simp⟩
  | v :: vs, h, n => by
    unfold wipeG at h
    rcases set_get h with ⟨_, e, _⟩ | ⟨ne, h⟩
    · exact absurd e.symm n
    · obtain ⟨h1, h2⟩ := wipeG_get h n
      exact ⟨h1, by simp only [List.mem_cons, not_or]; exact ⟨fun e => ne e.symm, h2⟩⟩
theorem wipe_get {σ : Stt} {i : Nat} : ∀ {vs : List Nat}, i ∉ vs → (wipe σ vs)[i]? = σ[i]?
  | [], _ => rfl
  | v :: vs, h => by
    simp only [List.mem_cons, not_or] at h
    unfold wipe
    rw [List.getElem?_set_ne (fun e => h.1 e.symm)]
    exact wipe_get h.2
section
variable {z : Zc} {g g1 g2 : Gm} {σ : Stt} {H H1 F F1 : Hp} {own : List Nat}
theorem wipe_own {i : Nat} (h : isOwn (wipeG g own) i) : isOwn g i ∧ i ∉ own := by
  rcases h with ⟨xs, h⟩ | ⟨xs, h⟩
  · obtain ⟨h1, h2⟩ := wipeG_get h (fun e => by cases e)
    exact ⟨.inl ⟨xs, h1⟩, h2⟩
  · obtain ⟨h1, h2⟩ := wipeG_get h (fun e => by cases e)
    exact ⟨.inr ⟨xs, h1⟩, h2⟩
theorem sim_wipe (S : Sim z g σ H F) : Sim z (wipeG g own) (wipe σ own) H F := by
  refine ⟨S.G, by rw [wipeG_length, wipe_length]; exact S.len, fun i d e => ?_, fun i xs e => ?_, fun i xs e => ?_, S.hio, fun i j a h1 h2 e1 e2 => ?_⟩
  · obtain ⟨h1, h2⟩ := wipeG_get e (fun e => by cases e)
    rw [wipe_get h2]
    exact S.val i d h1
  · obtain ⟨h1, h2⟩ := wipeG_get e (fun e => by cases e)
    obtain ⟨a, ow, n⟩ := S.own i xs h1
    exact ⟨a, ⟨by rw [wipe_get h2]; exact ow.sl, ow.vs, ow.nf⟩, n⟩
  · obtain ⟨h1, h2⟩ := wipeG_get e (fun e => by cases e)
    obtain ⟨a, ow, n⟩ := S.io i xs h1
    exact ⟨a, ⟨by rw [wipe_get h2]; exact ow.sl, ow.vs, ow.nf⟩, n⟩
  · obtain ⟨o1, n1⟩ := wipe_own h1
    obtain ⟨o2, n2⟩ := wipe_own h2
    rw [wipe_get n1] at e1
    rw [wipe_get n2] at e2
    exact S.dj i j a o1 o2 e1 e2
theorem unwipe_get {g0 : Gm} {i : Nat} : ∀ {vs : List Nat}, i ∉ vs → (unwipe g0 g vs)[i]? = g[i]?
  | [], _ => rfl
  | v :: vs, h => by
    simp only [List.mem_cons, not_or] at h
    unfold unwipe
    rw [List.getElem?_set_ne (fun e => h.1 e.symm)]
    exact unwipe_get h.2
theorem unwipe_length {g0 : Gm} : ∀ vs : List Nat, (unwipe g0 g vs).length = g.length
  | [] => rfl
  | v :: vs => by unfold unwipe; rw [List.length_set, unwipe_length vs]
theorem unwipe_in {g0 : Gm} {i : Nat} : ∀ {vs : List Nat}, i ∈ vs → i < g.length → (unwipe g0 g vs)[i]? = some (g0.getD i .no)
  | v :: vs, h, hl => by
    unfold unwipe
    by_cases e : v = i
    · subst e
      rw [List.getElem?_set_self (by rw [unwipe_length]; exact hl)]
    · rw [List.getElem?_set_ne e]
      rcases List.mem_cons.mp h with h | h
      · exact absurd h.symm e
      · exact unwipe_in h hl
theorem wipeOk_at (h : wipeOk g own = true) {i : Nat} (hi : i ∈ own) : g.getD i .no = .no ∨ ∃ d, g.getD i .no = .val d ∧ g[i]? = some (Sl.val d) := by
  unfold wipeOk at h
  have q := List.all_eq_true.mp h i hi
  rw [List.getD_eq_getElem?_getD]
  cases e : g[i]? with
  | none => exact .inl rfl
  | some s =>
    rw [e] at q
    cases s with
    | no => exact .inl rfl
    | val d => exact .inr ⟨d, rfl, rfl⟩
    | own xs => cases q
    | io xs => cases q
theorem unwipe_own (h : wipeOk g1 own = true) {i : Nat} (q : isOwn (unwipe g1 g own) i) : isOwn g i ∧ i ∉ own := by
  have no : i ∉ own := fun hi => by
    have hl : i < g.length := by
      rcases q with ⟨_, q⟩ | ⟨_, q⟩ <;> (have := (List.getElem?_eq_some_iff.mp q).1; rw [unwipe_length] at this; exact this)
    have e := unwipe_in (g0 := g1) hi hl
    rcases wipeOk_at h hi with e2 | ⟨d, e2, _⟩ <;> (rw [e2] at e; rcases q with ⟨_, q⟩ | ⟨_, q⟩ <;> (rw [e] at q; cases q))
  unfold isOwn at *
  rw [unwipe_get no] at q
  exact ⟨q, no⟩
theorem sim_unwipe (S1 : Sim z g1 σ H1 F1) (h : wipeOk g1 own = true) (S : Sim z g (wipe σ own) H F) (sb : Sub F1 F) : Sim z (unwipe g1 g own) σ H F := by
  refine ⟨S.G, by rw [unwipe_length, S.len, wipe_length], fun i d e => ?_, fun i xs e => ?_, fun i xs e => ?_, S.hio, fun i j a h1 h2 e1 e2 => ?_⟩
  · by_cases hi : i ∈ own
    · have hl : i < g.length := by have := (List.getElem?_eq_some_iff.mp e).1; rw [unwipe_length] at this; exact this
      have e' := unwipe_in (g0 := g1) hi hl
      rw [e] at e'
      rcases wipeOk_at h hi with e2 | ⟨d', e2, e3⟩
      · rw [e2] at e'; cases e'
      · rw [e2] at e'
        cases e'
        obtain ⟨v, v1, v2⟩ := S1.val i d e3
        exact ⟨v, v1, v2.up sb⟩
    · rw [unwipe_get hi] at e
      obtain ⟨v, v1, v2⟩ := S.val i d e
      rw [wipe_get hi] at v1
      exact ⟨v, v1, v2⟩
  · obtain ⟨_, no⟩ := unwipe_own h (.inl ⟨xs, e⟩)
    rw [unwipe_get no] at e
    obtain ⟨a, ow, n⟩ := S.own i xs e
    exact ⟨a, ⟨by rw [← wipe_get no]; exact ow.sl, ow.vs, ow.nf⟩, n⟩
  · obtain ⟨_, no⟩ := unwipe_own h (.inr ⟨xs, e⟩)
    rw [unwipe_get no] at e
    obtain ⟨a, ow, n⟩ := S.io i xs e
    exact ⟨a, ⟨by rw [← wipe_get no]; exact ow.sl, ow.vs, ow.nf⟩, n⟩
  · obtain ⟨o1, n1⟩ := unwipe_own h h1
    obtain ⟨o2, n2⟩ := unwipe_own h h2
    rw [← wipe_get n1] at e1
    rw [← wipe_get n2] at e2
    exact S.dj i j a o1 o2 e1 e2
/-- the made list at D is written -/
theorem sim_side {D : Addr} {o o' : HO} (S : Sim z g σ H F) (hD : H D = some o) (nt : NoTbl o) (nf : F D = none) (no : ¬ atOwn g σ D) (n0 : z.H0 D = none) (nc : ∀ c q, o ≠ LamX.CodeO c q) : Sim z g σ (upd H D o') F := by
  refine ⟨⟨fun b u h => ?_, S.G.nt, S.G.gr, fun b u h nt' ni => ?_, S.G.nw, fun b h => ?_, fun p hp => ?_⟩, S.len, S.val, fun i xs e => ?_, fun i xs e => ?_, S.hio, S.dj⟩
  · rw [upd_ne (fun q => by rw [q, nf] at h; cases h)]
    exact S.G.le b u h
  · rw [upd_ne (fun q => by rw [q, n0] at h; cases h)]
    exact S.G.kp b u h nt' ni
  · by_cases hb : b = D
    · subst hb; rw [upd_same]; simp
    · rw [upd_ne hb]; exact S.G.al b h
  · obtain ⟨ps, t1, t2, t3⟩ := S.G.tb p hp
    refine ⟨ps, by rw [upd_ne (fun q => by rw [q, hD] at t1; exact nt ps (Option.some.inj t1))]; exact t1, t2, fun pos cv hc => ?_⟩
    obtain ⟨c', c1, c2⟩ := t3 pos cv hc
    exact ⟨c', c1, by rw [upd_ne (fun q => by rw [q, hD] at c2; exact nc _ _ (Option.some.inj c2))]; exact c2⟩
  · obtain ⟨a, ow, n⟩ := S.own i xs e
    obtain ⟨vs, v1, v2⟩ := ow.vs
    exact ⟨a, ⟨ow.sl, ⟨vs, by rw [upd_ne (fun (q : a = D) => no ⟨i, .inl ⟨xs, e⟩, q ▸ ow.sl⟩)]; exact v1, v2⟩, ow.nf⟩, n⟩
  · obtain ⟨a, ow, n⟩ := S.io i xs e
    obtain ⟨vs, v1, v2⟩ := ow.vs
    exact ⟨a, ⟨ow.sl, ⟨vs, by rw [upd_ne (fun (q : a = D) => no ⟨i, .inr ⟨xs, e⟩, q ▸ ow.sl⟩)]; exact v1, v2⟩, ow.nf⟩, n⟩
end
theorem wipe_wipe (σ : Stt) (own : List Nat) : wipe (wipe σ own) own = wipe σ own := by
  have gen : ∀ (vs : List Nat), (∀ i ∈ vs, i ∈ own) → wipe (wipe σ own) vs = wipe σ own := by
    intro vs
    induction vs with
    | nil => intro _; rfl
    | cons v vs ih =>
      intro h
      show (wipe (wipe σ own) vs).set v none = wipe σ own
      rw [ih fun i hi => h i (List.mem_cons_of_mem _ hi)]
      refine List.ext_getElem? fun j => ?_
      by_cases e : v = j
      · subst e
        have at_ : ∀ ws : List Nat, v ∈ ws → v < σ.length → (wipe σ ws)[v]? = some none := by
          intro ws
          induction ws with
          | nil => intro h; cases h
          | cons w ws ih =>
            intro h hl
            unfold wipe
            by_cases e : w = v
            · subst e
              rw [List.getElem?_set_self (by rw [wipe_length]; exact hl)]
            · rw [List.getElem?_set_ne e]
              rcases List.mem_cons.mp h with h | h
              · exact absurd h.symm e
              · exact ih h hl
        by_cases hl : v < σ.length
        · rw [List.getElem?_set_self (by rw [wipe_length]; exact hl), at_ own (h v List.mem_cons_self) hl]
        · rw [List.getElem?_eq_none (by rw [List.length_set, wipe_length]; omega), List.getElem?_eq_none (by rw [wipe_length]; omega)]
      · rw [List.getElem?_set_ne e]
  exact gen own fun _ h => h
/-- no exception leaves -/
def Cn.quiet (c : Cn) : Cn := { c with E := fun _ _ _ => False }
section
variable {c : Cn} {X : Cx} {e e1 e2 e3 tg : Expr} {a b d : Ex} {pos p1 p2 p3 : Pos}
theorem putAll_isOwn : ∀ {is : List Nat} {ds : List PyData} {g g2 : Gm}, putAll is ds g = some g2 → ∀ j, isOwn g2 j → isOwn g j
  | [], [], g, g2, h, j, o => by unfold putAll at h; cases h; exact o
  | [], _ :: _, _, _, h, _, _ => by unfold putAll at h; cases h
  | _ :: _, [], _, _, h, _, _ => by unfold putAll at h; cases h
  | i :: is, d :: ds, g, g2, h, j, o => by
    unfold putAll at h
    cases e : put g i (.val d) with
    | none => rw [e] at h; cases h
    | some g1 =>
      rw [e] at h
      obtain ⟨_, _, rfl⟩ := put_inv e
      exact (isOwn_set_val (putAll_isOwn h j o)).1
theorem tgt_isOwn {tg : Tg} {d : PyData} {g g2 : Gm} (h : tgt tg d g = some g2) : ∀ j, isOwn g2 j → isOwn g j := fun j o => by
  cases tg with
  | one i =>
    obtain ⟨_, _, rfl⟩ := put_inv h
    exact (isOwn_set_val o).1
  | many is =>
    cases d with
    | tuple ds => exact putAll_isOwn h j o
    | _ => cases h
def tgIn (own : List Nat) : Tg → Bool
  | .one i => decide (i ∈ own)
  | .many is => is.all fun i => decide (i ∈ own)
theorem wipe_set {σ : Stt} {i : Nat} {x : Option V} : ∀ {vs : List Nat}, i ∈ vs → wipe (σ.set i x) vs = wipe σ vs := by
  intro vs hi
  refine List.ext_getElem? fun j => ?_
  have len : (wipe (σ.set i x) vs).length = (wipe σ vs).length := by rw [wipe_length, wipe_length, List.length_set]
  by_cases hj : j ∈ vs
  · have at_ : ∀ (σ : Stt) (ws : List Nat), j ∈ ws → (wipe σ ws)[j]? = if j < σ.length then some none else none := by
      intro σ ws
      induction ws with
      | nil => intro h; cases h
      | cons w ws ih =>
        intro h
        unfold wipe
        by_cases e : w = j
        · subst e
          by_cases hl : w < σ.length
          · rw [if_pos hl, List.getElem?_set_self (by rw [wipe_length]; exact hl)]
          · rw [if_neg hl, List.getElem?_eq_none (by rw [List.length_set, wipe_length]; omega)]
        · rw [List.getElem?_set_ne e]
          rcases List.mem_cons.mp h with h | h
          · exact absurd h.symm e
          · exact ih h
    rw [at_ _ _ hj, at_ _ _ hj, List.length_set]
  · rw [wipe_get hj, wipe_get hj]
    exact List.getElem?_set_ne fun (e : i = j) => hj (e ▸ hi)
theorem row_slots {z : Zc} {H F : Hp} {own : List Nat} {Q : Stt → Hp → Prop} : ∀ {is : List Nat} {vs : List V} {ds : List PyData} {g g2 : Gm} {σ : Stt}, (is.all fun i => decide (i ∈ own)) = true → Sim z g σ H F → RpA z.K F vs ds → putAll is ds g = some g2 → (∀ σ', Sim z g2 σ' H F → wipe σ' own = wipe σ own → (∀ j, j ∉ own → σ'[j]? = σ[j]?) → Q σ' H) → gRow is vs σ H Q
  | [], _, _, g, g2, σ, _, S, .nil, h, q => by
    unfold putAll at h
    cases h
    exact ⟨rfl, q σ S rfl fun _ _ => rfl⟩
  | i :: is, _, _, g, g2, σ, hw, S, .cons (v := v) (vs := vs) (d := d) h1 h2, h, q => by
    unfold putAll at h
    cases e : put g i (.val d) with
    | none => rw [e] at h; cases h
    | some g1 =>
      rw [e] at h
      simp only [List.all_cons, Bool.and_eq_true, decide_eq_true_eq] at hw
      refine ⟨v, vs, rfl, ?_⟩
      refine row_slots hw.2 (sim_put (r := .fro d) (Hs := H) S h1 e) h2 h fun σ' S' w1 w2 => q σ' S' (by rw [w1, wipe_set hw.1]) fun j hj => ?_
      rw [w2 j hj, List.getElem?_set_ne fun (e : i = j) => hj (e ▸ hw.1)]
  | [], _, _, g, g2, σ, _, S, .cons h1 h2, h, q => by unfold putAll at h; cases h
  | i :: is, _, _, g, g2, σ, _, S, .nil, h, q => by unfold putAll at h; cases h
theorem tgt_slots {z : Zc} {H F : Hp} {Q : Stt → Hp → Prop} {tg : Tg} {own : List Nat} {v : V} {d : PyData} {g g2 : Gm} {σ : Stt} (hw : tgIn own tg = true) (S : Sim z g σ H F) (r : Rp z.K F v d) (h : tgt tg d g = some g2) (q : ∀ σ', Sim z g2 σ' H F → wipe σ' own = wipe σ own → (∀ j, j ∉ own → σ'[j]? = σ[j]?) → Q σ' H) : gTgt z.K tg v σ H Q := by
  cases tg with
  | one i =>
    have hi : i ∈ own := of_decide_eq_true hw
    exact q _ (sim_put (r := .fro d) (Hs := H) S r h) (wipe_set hi) fun j hj => List.getElem?_set_ne fun (e : i = j) => hj (e ▸ hi)
  | many is =>
    cases d with
    | tuple ds =>
      obtain ⟨a, vs, rfl, h1, h2, h3⟩ := r.tup_inv
      have len : ∀ {is : List Nat} {ds : List PyData} {g g2 : Gm}, putAll is ds g = some g2 → ds.length = is.length := by
        intro is
        induction is with
        | nil => intro ds g g2 h; cases ds with | nil => rfl | cons _ _ => unfold putAll at h; cases h
        | cons i is ih =>
          intro ds g g2 h
          cases ds with
          | nil => unfold putAll at h; cases h
          | cons d ds =>
            unfold putAll at h
            cases e : put g i (.val d) with
            | none => rw [e] at h; cases h
            | some g1 => rw [e] at h; simp [ih h]
      exact ⟨a, vs, rfl, SqT_sub S.G.le h1, by rw [h2.length]; exact len h, row_slots hw S h2 h q⟩
    | _ => cases h
/-- a test that may lack -/
def tC2 (c : Cn) (x : Ex) : TT := fun σ H Q => ∃ g F, Sim c.z g σ H F ∧ Pst c (condOf x (fun g => ev c.L x g) g) (EndT c g σ H F Q)
theorem c_none : PTs X [] (tC2 c .omit) := ⟨fun pins s σ H Q I ⟨g, F, S, P⟩ => by
  obtain ⟨b, e, q⟩ := (show EndT c g σ H F Q (.fro (.bool true)) g from P)
  cases e
  exact pts_nil.run pins s σ H Q I (q H F S (Stp.refl _ _ _ _))⟩
theorem condOf_ne {x : Ex} {r : Gm → R Rs} {g : Gm} (h : x ≠ .omit) : condOf x r g = r g := by
  unfold condOf
  split
  · exact absurd rfl h
  · rfl
theorem c_some {x : Ex} (hx : x ≠ .omit) (h : PT X e (tT c x)) : PTs X [e] (tC2 c x) := ⟨fun pins s σ H Q I ⟨g, F, S, P⟩ => by
  rw [condOf_ne hx] at P
  exact (pts_one h).run pins s σ H Q I ⟨g, F, S, P⟩⟩
theorem lc_read {it cd el : Ex} {tg : Tg} {own : List Nat} {σ : Stt} {H : Hp} {Q : VK} (hw : tgIn own tg = true) (h : tE c (.lc it tg own cd el) σ H Q) : tLc (tI c it) (gTgt c.z.K tg) (tC2 c.quiet cd) (tE c.quiet el) own σ H Q := by
  obtain ⟨g, F, S, P⟩ := h
  unfold ev at P
  refine ⟨g, F, S, P.bind.mono fun r1 g1 P1 => ?_⟩
  cases q1 : items r1.d with
  | none => rw [q1] at P1; exact P1.elim
  | some ds =>
    cases q2 : wipeOk g1 own with
    | false => rw [q1, q2] at P1; exact P1.elim
    | true =>
      rw [q1, q2] at P1
      refine ⟨ds, rfl, fun J H1 F1 S1 T1 W hz D hD => ?_⟩
      obtain ⟨SD, TD, nD0, nDF, nDo⟩ := S1.laid hD (o := .lst []) (fun ps e => by cases e)
      have no : ∀ g', (∀ i, isOwn g' i → isOwn g1 i ∧ i ∉ own) → ¬ atOwn g' (wipe σ own) D := fun g' o ⟨i, h1, h2⟩ => nDo ⟨i, (o i h1).1, by rw [← wipe_get (o i h1).2]; exact h2⟩
      refine lc_it W (fun i H' => ∃ g' F' acc vs, Sim c.z g' (wipe σ own) H' F' ∧ Stp g1 σ H1 F1 g' H' F' ∧ (∀ i, isOwn g' i → isOwn g1 i ∧ i ∉ own) ∧ H' D = some (.lst vs) ∧ RpA c.z.K F' vs acc ∧ acc.length ≤ i ∧ F' D = none ∧
          Pst c (loopC tg own (condOf cd fun g => ev c.L cd g) (fun g => ev c.L el g) (ds.drop i) acc g') (fun acc g2 => EndE c g σ H F Q (.own acc) (unwipe g1 g2 own))) ?_ ?_ ?_ ?_
      · exact ⟨wipeG g1 own, F1, [], [], sim_wipe SD, ⟨Sub.refl F1, fun b o h nt n => Sub.upd hD b o h, fun b _ h0 _ => h0, fun i o => (wipe_own o).1, fun b h => by rw [upd_ne (fun e => h (by rw [e]; exact hD))]; exact h⟩, fun i o => wipe_own o, upd_same, .nil, Nat.le_refl _, nDF, P1.bind⟩
      · rintro i H' _ ⟨g', F', acc, vs, S', T', _⟩
        exact T'.f.trans S'.G.le
      · rintro i x H2 H3 hi ⟨g2, F2, acc, vs, S2, T2, O2, hD2, r2, l2, nf2, P2⟩ ⟨dd, ed, md⟩
        have hdrop : ds.drop i = dd :: ds.drop (i + 1) := by
          obtain ⟨h1, h2⟩ := List.getElem?_eq_some_iff.mp ed
          rw [List.drop_eq_getElem_cons h1, h2]
        rw [hdrop] at P2
        unfold loopC at P2
        have md2 : Made c.z.K F2 H2 x H3 (.fro dd) := by
          rcases md with ⟨e, r⟩ | ⟨p, vs, es, h1, h2, h3, h4, h5, h6⟩
          · exact .inl ⟨e, r.up T2.f⟩
          · exact .inr ⟨p, vs, es, h1, h2, h3, h4, h5.up T2.f, h6⟩
        obtain ⟨F3, S3, T3, R3⟩ := made_post S2 md2
        have nD2 : ¬ atOwn g2 (wipe σ own) D := no g2 O2
        have hD3 : H3 D = some (.lst vs) := T3.k D _ hD2 (fun ps e => by cases e) nD2
        have nf3 : F3 D = none := T3.n D (by rw [hD2]; simp) nf2 nD2
        -- what is known from the start, over a step within the block
        have glue : ∀ {g4 : Gm} {σ4 : Stt} {H4 F4 H5 F5 : Hp} {g5 : Gm}, Stp g1 σ H1 F1 g4 H4 F4 → (∀ i, isOwn g4 i → isOwn g1 i ∧ i ∉ own) → (∀ j, j ∉ own → σ4[j]? = (wipe σ own)[j]?) → Stp g4 σ4 H4 F4 g5 H5 F5 → Stp g1 σ H1 F1 g5 H5 F5 := fun {g4 σ4 H4 F4 H5 F5 g5} A O eqσ B => by
          have bk : ∀ b, ¬ atOwn g1 σ b → ¬ atOwn g4 σ4 b := fun b n ⟨i, h1, h2⟩ => n ⟨i, (O i h1).1, by rw [eqσ i (O i h1).2, wipe_get (O i h1).2] at h2; exact h2⟩
          exact ⟨A.f.trans B.f, fun b o h nt n => B.k b o (A.k b o h nt n) nt (bk b n), fun b h h0 n => B.n b (A.h b h) (A.n b h h0 n) (bk b n), fun i h => A.o i (B.o i h), fun b h => B.h b (A.h b h)⟩
        have T3' := glue T2 O2 (fun j _ => rfl) T3
        cases q3 : tgt tg dd g2 with
        | none => rw [q3] at P2; exact P2.elim
        | some g3 =>
          rw [q3] at P2
          dsimp only at P2
          refine tgt_slots hw S3 R3 q3 fun σ4 S4 w1 w2 => ⟨by rw [w1, wipe_wipe], g3, F3, S4, ?_⟩
          have O3 : ∀ i, isOwn g3 i → isOwn g1 i ∧ i ∉ own := fun i h => O2 i (tgt_isOwn q3 i h)
          have T3g : Stp g1 σ H1 F1 g3 H3 F3 := ⟨T3'.f, T3'.k, T3'.n, fun i h => (O3 i h).1, T3'.h⟩
          have nD4 : ∀ g', (∀ i, isOwn g' i → isOwn g3 i) → ¬ atOwn g' σ4 D := fun g' o ⟨i, h1, h2⟩ => by
            obtain ⟨o1, n1⟩ := O3 i (o i h1)
            rw [w2 i n1, wipe_get n1] at h2
            exact nDo ⟨i, o1, h2⟩
          cases q4 : condOf cd (fun g => ev c.L cd g) g3 with
          | stuck => rw [q4] at P2; exact P2.elim
          | exc e => rw [q4] at P2; exact P2.elim
          | ok r4 g4 =>
            rw [q4] at P2
            show Pst c.quiet (condOf cd (fun g => ev c.L cd g) g3) _
            rw [q4]
            cases r4 with
            | own xs => exact P2.elim
            | fro d4 =>
              cases d4 with
              | bool k =>
                refine ⟨k, rfl, fun H4 F4 S4' T4 => ?_⟩
                have T4g := glue T3g O3 w2 T4
                have hD4 : H4 D = some (.lst vs) := T4.k D _ hD3 (fun ps e => by cases e) (nD4 g3 fun _ h => h)
                have nf4 : F4 D = none := T4.n D (by rw [hD3]; simp) nf3 (nD4 g3 fun _ h => h)
                have O4 : ∀ i, isOwn g4 i → isOwn g1 i ∧ i ∉ own := fun i h => O3 i (T4.o i h)
                cases k with
                | false =>
                  dsimp only at P2
                  refine ⟨wipeG g4 own, F4, acc, vs, by have := sim_wipe (own := own) S4'; rw [w1] at this; exact (by rw [show wipe (wipe σ own) own = wipe σ own from wipe_wipe σ own] at this; exact this), ⟨T4g.f, T4g.k, T4g.n, fun i h => (O4 i (wipe_own h).1).1, T4g.h⟩, fun i h => O4 i (wipe_own h).1, hD4, r2.up (T3.f.trans T4.f), by omega, nf4, P2⟩
                | true =>
                  dsimp only at P2
                  refine ⟨g4, F4, S4', ?_⟩
                  cases q5 : ev c.L el g4 with
                  | stuck => rw [q5] at P2; exact P2.elim
                  | exc e => rw [q5] at P2; exact P2.elim
                  | ok r5 g5 =>
                    rw [q5] at P2
                    show Pst c.quiet (ev c.L el g4) _
                    rw [q5]
                    intro y H5 F5 S5 T5 R5
                    obtain ⟨F6, S6, T6, R6⟩ := freeze S5 T5 R5
                    have T6g := glue T4g O4 w2 T6
                    have nD5 : ¬ atOwn g4 σ4 D := nD4 g4 T4.o
                    have hD6 : H5 D = some (.lst vs) := T6.k D _ hD4 (fun ps e => by cases e) nD5
                    have nf6 : F6 D = none := T6.n D (by rw [hD4]; simp) nf4 nD5
                    have O5 : ∀ i, isOwn g5 i → isOwn g1 i ∧ i ∉ own := fun i h => O4 i (T6.o i h)
                    have lz : acc.length < ds.length := by omega
                    refine ⟨vs, hD6, by rw [r2.length]; omega, wipeG g5 own, F6, acc ++ [r5.d], vs ++ [y], ?_, ⟨T6g.f, fun b o h nt n => ?_, T6g.n, fun i h => (O5 i (wipe_own h).1).1, fun b h => ?_⟩, fun i h => O5 i (wipe_own h).1, upd_same, (r2.up ((T3.f.trans T4.f).trans T6.f)).append (.cons R6 .nil), by simp; omega, nf6, P2⟩
                    · have s7 := sim_wipe (own := own) (sim_side (o' := .lst (vs ++ [y])) S6 hD6 (fun ps e => by cases e) nf6 (nD4 g5 fun i h => T4.o i (T6.o i h)) nD0 (fun c q e => by unfold LamX.CodeO at e; cases e))
                      rw [w1, wipe_wipe] at s7
                      exact s7
                    · rw [upd_ne (fun e => by rw [e, hD] at h; cases h)]
                      exact T6g.k b o h nt n
                    · by_cases hb : b = D
                      · subst hb; rw [upd_same]; simp
                      · rw [upd_ne hb]; exact T6g.h b h
              | _ => exact P2.elim
      · rintro H2 ⟨g2, F2, acc, vs, S2, T2, O2, hD2, r2, l2, nf2, P2⟩
        rw [List.drop_length] at P2
        have e : EndE c g σ H F Q (.own acc) (unwipe g1 g2 own) := P2
        have hDH : H D = none := by
          cases q : H D with
          | none => rfl
          | some o => exact absurd hD (T1.h D (by rw [q]; simp))
        have T2' : Stp g1 σ H1 F1 (unwipe g1 g2 own) H2 F2 := ⟨T2.f, T2.k, T2.n, fun i h => (O2 i (unwipe_own q2 h).1).1, T2.h⟩
        exact e _ H2 F2 (sim_unwipe S1 q2 S2 T2.f) (T1.trans T2') ⟨D, rfl, ⟨vs, hD2, r2, by omega⟩, nf2, nD0, hDH, fun ⟨i, h1, h2⟩ => nDo ⟨i, T2'.o i h1, h2⟩⟩
end
end TB
set_option maxHeartbeats 3200000
/-! set(..) of a list of ints, of a tuple of tuples of ints. -/
namespace TB
open PySem PySem.Spec PyProof.Rows L2 RZ
abbrev nset (w : World) : Obj := { cls := .type "set", dict := none, data := .set #[] 0 (.fresh 0 0 (!w.params.followText "set-order")) }
section
variable {P : Program} {w : World} {A : Around} {E : Value → Shared → Prop} {s : Shared}
theorem set_ints {l : Addr} {items : Array Value} (ns : List Int) {Q : Value → Shared → Prop} (hd0 : A.handled = none) (hq : s.heap.IsList l items) (hv0 : IntsAre items.toList ns) (hb9 : ns.length + 1 < scanBound)
    (h : ∀ (h' : Heap) (tk c : Nat), SetR w h' s.heap.objs.size (fun j => decide (j ∈ ns)) c → c ≤ ns.length → (∀ b o, s.heap.get? b = some o → h'.get? b = some o) → Q (.ref s.heap.objs.size) { s with heap := h', toks := tk }) :
    wpAny (model P w) A (call (.type "set") [.ref l]) Q E s := by
  have sz0 : items.size = ns.length := by
    have q := IntsAre.length hv0
    rw [Array.length_toList] at q
    exact q
  obtain ⟨c, tt, mr0⟩ := F.called_set.mro
  have md0 := F.called_set.made
  have sb0 := F.called_set.sub
  refine wpAny_call (codeAny_of_tree ?_)
  show wpAny _ _ (callAny (.type "set") _) _ _ _
  refine wpAny_pure ⟨Code.quiet_builtin _ (by decide +kernel), codeAny_builtin F.entry_type_call ?_⟩
  rw [Around.under_plain (weight_type_call_type "set" [.ref l] []) rfl]
  have t1 := F.called_set.notType
  have t2 := F.called_set.canCreate
  have ct0 := F.typeCall_set_1 (.ref l)
  repeat (any_goals (first | assumption | wp_step))

  refine codeAny_mono (code_set_led1 (.ref l) (E := E) (Q₁ := fun ob1 s₁ => ob1 = .ref s.heap.objs.size ∧ s₁ = { s with heap := s.heap.push (nset w) }) ⟨rfl, rfl⟩) fun r s₁ gr => ?_
  cases r with
  | error e => exact gr
  | ok fl =>
    cases fl with
    | ret ob1 =>
      obtain ⟨rfl, rfl⟩ := gr
      have gS : (s.heap.push (nset w)).get? s.heap.objs.size = some (nset w) := Heap.get?_push_size _ rfl
      have tS : Shared.TypeIs { s with heap := s.heap.push (nset w) } (.ref s.heap.objs.size) "set" := ⟨_, gS, rfl⟩
      have lk0 := F.called_set.init.lookup
      have bd0 := F.called_set.init.bind (.ref s.heap.objs.size)
      repeat (any_goals (first | assumption | wp_step))

      refine codeAny_mono (codeAny_call_builtin (R := wants (fun r s₂ => r = .none ∧ ∃ h' tk c, s₂ = { s with heap := h', toks := tk } ∧ SetR w h' s.heap.objs.size (fun j => decide (j ∈ ns)) c ∧ c ≤ ns.length ∧
          (∀ b o, s.heap.get? b = some o → h'.get? b = some o)) E) F.called_set.init.plain F.entry_set_init (check_set_init_1 tS ?_)) fun r₂ s₂ gr₂ => ?_
      · obtain ⟨oo, og, kg, nn, dg⟩ := hq
        obtain ⟨oc1, oc2, oc3, oc4⟩ := oo
        simp only at kg dg
        subst kg; subst dg
        have og' : (s.heap.push (nset w)).get? l = some { cls := .type "list", dict := oc2, data := .seq items nn, slots := oc4 } := Heap.get?_push_of_some _ og
        have f1 := F.sub_list_set
        have f2 := F.sub_list_frozenset
        have f3 : (Value.type "list" == Value.type "dict") = false := by decide
        have lg : (s.heap.push (nset w)).IsList l items := ⟨_, og', rfl, nn, rfl⟩
        unfold Builtin.«set.__init__» noKeywords Builtin.Frozenset.updateFrom
        generalize ePI : pyIter = pI
        wp_walk
        subst ePI

        refine wpAny_pyIter_list lg ?_
        refine wpAny_bind (wpAny_runValue ?_)
        have ltS : l < s.heap.objs.size := Heap.lt_size og
        have hd3 : A.in1.in1.in1.handled = none := by simp [hd0]
        have z1 : (s.heap.push (nset w)).objs.size = s.heap.objs.size + 1 := Heap.size_push ..
        have neI : l ≠ (s.heap.push (nset w)).objs.size := by
          rw [Heap.size_push]; exact Nat.ne_of_lt (Nat.lt_succ_of_lt ltS)
        have nfS : s.heap.objs.size ∉ [(s.heap.push (nset w)).objs.size, l] := by
          rw [Heap.size_push]; simp only [List.mem_cons, List.mem_singleton, List.not_mem_nil, or_false, not_or]
          exact ⟨Nat.ne_of_lt (Nat.lt_succ_self _), Nat.ne_of_gt ltS⟩
        have valI : ∀ (i : Nat) (v : Value), items[i]? = some v → ∃ k t, ns[i]? = some k ∧ v = .int k t := fun i v hv => by
          have hi0 : i < ns.length := by rw [← sz0]; exact (Array.getElem?_eq_some_iff.mp hv).1
          obtain ⟨t, e⟩ := PyProof.Rows.IntsAre.int_at hv0 i v (by rw [Array.getElem?_toList]; exact hv)
          refine ⟨ns[i], t, List.getElem?_eq_getElem hi0, ?_⟩
          rw [e, List.getD_eq_getElem?_getD, List.getElem?_eq_getElem hi0] <;> rfl
        refine set_update_ints ((Walks.list hd3 _ l neI items).toS) s.heap.objs.size
          nfS ns sz0 hb9 valI (items.size - 0) 0 _ (by omega) (Nat.zero_le _)
          ⟨⟨_, Heap.get?_push_size _ rfl, rfl, rfl⟩, (lg.push _)⟩ ?gS0 ?gR
        case gS0 =>
          have gt0 : ((s.heap.push (nset w)).push { cls := .type "list_iterator", data := .fields #[.ref l, .int 0 0] }).get? s.heap.objs.size
              = some (nset w) := Heap.get?_push_of_some _ gS
          exact ⟨0, Nat.le_refl 0, setR_new_at gt0⟩
        case gR =>
          intro s' c' mv gc' gS'
          obtain ⟨h', g2, d', tk', os'⟩ := s'
          have e1 : g2 = s.gens := mv.gens
          have e2 : d' = s.drawn := mv.drawn
          have e3 : os' = s.os := mv.os
          subst e1; subst e2; subst e3
          show wpAny _ _ _ _ _ _
          refine wpAny_pure ?_
          show wpAny _ _ (ret Value.none) _ _ _
          rw [sz0] at gc'
          refine wpAny_pure ⟨rfl, h', tk', c', rfl, gS', gc', fun b o e => ?_⟩
          have b0 : b < s.heap.objs.size := Heap.lt_size e
          have b1 : b ≠ s.heap.objs.size := Nat.ne_of_lt b0
          have b2 : b ≠ (s.heap.push (nset w)).objs.size := by
            rw [Heap.size_push]; exact Nat.ne_of_lt (Nat.lt_succ_of_lt b0)
          exact mv.heap b o (by simp only [List.mem_cons, List.mem_singleton, List.not_mem_nil, or_false, not_or]; exact ⟨b1, b2⟩) (Heap.get?_push_of_some _ (Heap.get?_push_of_some _ e))

      · cases r₂ with
        | error e => exact gr₂
        | ok fl₂ =>
          cases fl₂ with
          | ret r =>
            obtain ⟨rfl, h', tk, c', rfl, gS', gc', kp'⟩ := gr₂
            repeat (any_goals (first | assumption | wp_step))
            exact h _ _ _ gS' gc' kp'
          | _ => exact gr₂.elim
    | _ => exact gr.elim

theorem set_tups {l : Addr} {items : Array Value} (ks : List (Addr × List Int)) {Q : Value → Shared → Prop} (hd0 : A.handled = none) (hq : s.heap.IsTuple l items) (hv0 : items.toList = ks.map fun p => Value.ref p.1)
    (kp : ∀ p ∈ ks, IsT P w s.heap p.2 p.1) (fw : ks.length < 64) (hu0 : A.units + 3 < cLine)
    (h : ∀ (h' : Heap) (tk : Nat) L es ep t, SetTR P w h' s.heap.objs.size L es ep t → Got ks ks.length L → (∀ b o, s.heap.get? b = some o → h'.get? b = some o) → Q (.ref s.heap.objs.size) { s with heap := h', toks := tk }) :
    wpAny (model P w) A (call (.type "set") [.ref l]) Q E s := by
  have sz0 : items.size = ks.length := by
    have q := congrArg List.length hv0
    rw [Array.length_toList, List.length_map] at q
    exact q
  obtain ⟨c, tt, mr0⟩ := F.called_set.mro
  have md0 := F.called_set.made
  have sb0 := F.called_set.sub
  refine wpAny_call (codeAny_of_tree ?_)
  show wpAny _ _ (callAny (.type "set") _) _ _ _
  refine wpAny_pure ⟨Code.quiet_builtin _ (by decide +kernel), codeAny_builtin F.entry_type_call ?_⟩
  rw [Around.under_plain (weight_type_call_type "set" [.ref l] []) rfl]
  have t1 := F.called_set.notType
  have t2 := F.called_set.canCreate
  have ct0 := F.typeCall_set_1 (.ref l)
  repeat (any_goals (first | assumption | wp_step))

  refine codeAny_mono (code_set_led1 (.ref l) (E := E) (Q₁ := fun ob1 s₁ => ob1 = .ref s.heap.objs.size ∧ s₁ = { s with heap := s.heap.push (nset w) }) ⟨rfl, rfl⟩) fun r s₁ gr => ?_
  cases r with
  | error e => exact gr
  | ok fl =>
    cases fl with
    | ret ob1 =>
      obtain ⟨rfl, rfl⟩ := gr
      have gS : (s.heap.push (nset w)).get? s.heap.objs.size = some (nset w) := Heap.get?_push_size _ rfl
      have tS : Shared.TypeIs { s with heap := s.heap.push (nset w) } (.ref s.heap.objs.size) "set" := ⟨_, gS, rfl⟩
      have lk0 := F.called_set.init.lookup
      have bd0 := F.called_set.init.bind (.ref s.heap.objs.size)
      repeat (any_goals (first | assumption | wp_step))

      refine codeAny_mono (codeAny_call_builtin (R := wants (fun r s₂ => r = .none ∧ ∃ h' tk L es ep t, s₂ = { s with heap := h', toks := tk } ∧ SetTR P w h' s.heap.objs.size L es ep t ∧ Got ks ks.length L ∧
          (∀ b o, s.heap.get? b = some o → h'.get? b = some o)) E) F.called_set.init.plain F.entry_set_init (check_set_init_1 tS ?_)) fun r₂ s₂ gr₂ => ?_
      · obtain ⟨oo, og, kg, nn, dg⟩ := hq
        obtain ⟨oc1, oc2, oc3, oc4⟩ := oo
        simp only at kg dg
        subst kg; subst dg
        have og' : (s.heap.push (nset w)).get? l = some { cls := .type "tuple", dict := oc2, data := .seq items nn, slots := oc4 } := Heap.get?_push_of_some _ og
        have f1 := F.sub_tuple_set
        have f2 := F.sub_tuple_frozenset
        have f3 : (Value.type "tuple" == Value.type "dict") = false := by decide
        have lg : (s.heap.push (nset w)).IsTuple l items := ⟨_, og', rfl, nn, rfl⟩
        unfold Builtin.«set.__init__» noKeywords Builtin.Frozenset.updateFrom
        generalize ePI : pyIter = pI
        wp_walk
        subst ePI

        refine wpAny_pyIter_tuple lg ?_
        refine wpAny_bind (wpAny_runValue ?_)
        have ltS : l < s.heap.objs.size := Heap.lt_size og
        have hd3 : A.in1.in1.in1.handled = none := by simp [hd0]
        have z1 : (s.heap.push (nset w)).objs.size = s.heap.objs.size + 1 := Heap.size_push ..
        have neI : l ≠ (s.heap.push (nset w)).objs.size := by
          rw [Heap.size_push]; exact Nat.ne_of_lt (Nat.lt_succ_of_lt ltS)
        have nfS : s.heap.objs.size ∉ [(s.heap.push (nset w)).objs.size, l] := by
          rw [Heap.size_push]; simp only [List.mem_cons, List.mem_singleton, List.not_mem_nil, or_false, not_or]
          exact ⟨Nat.ne_of_lt (Nat.lt_succ_self _), Nat.ne_of_gt ltS⟩
        have valI : ∀ (i : Nat) (v : Value), items[i]? = some v → ∃ p, ks[i]? = some p ∧ v = .ref p.1 := fun i v hv => by
          have q : items.toList[i]? = some v := by rw [Array.getElem?_toList]; exact hv
          rw [hv0, List.getElem?_map] at q
          cases hq : ks[i]? with
          | none => rw [hq] at q; cases q
          | some p =>
            rw [hq] at q
            exact ⟨p, rfl, (Option.some.inj q).symm⟩
        have vac : ∀ b, s.heap.objs.size ≤ b → s.heap.get? b = none := fun b hb9 => by
          cases q : s.heap.get? b with
          | none => rfl
          | some o => exact absurd (Nat.lt_of_lt_of_le (Heap.lt_size q) hb9) (Nat.lt_irrefl _)
        refine set_update_tups ((Walks.tuple hd3 _ l neI items).toS) s.heap.objs.size
          nfS ks sz0 fw valI s.heap kp (vac _ (Nat.le_refl _)) (fun b hb9 => vac b (by
            rw [List.mem_singleton.mp hb9, Heap.size_push]
            exact Nat.le_succ _)) hu0 (items.size - 0) 0 _ (by omega) (Nat.zero_le _)
          ⟨⟨_, Heap.get?_push_size _ rfl, rfl, rfl⟩, (lg.push _)⟩ (fun b o e => Heap.get?_push_of_some _ (Heap.get?_push_of_some _ e)) ?gS0 ?gR
        case gS0 =>
          have gt0 : ((s.heap.push (nset w)).push { cls := .type "tuple_iterator", data := .fields #[.ref l, .int 0 0] }).get? s.heap.objs.size
              = some (nset w) := Heap.get?_push_of_some _ gS
          exact ⟨[], #[], 0, _, setTR_fresh gt0, Got.zero ks⟩
        case gR =>
          intro s' L es ep t mv gS' g' kp2
          obtain ⟨h', g2, d', tk', os'⟩ := s'
          have e1 : g2 = s.gens := mv.gens
          have e2 : d' = s.drawn := mv.drawn
          have e3 : os' = s.os := mv.os
          subst e1; subst e2; subst e3
          show wpAny _ _ _ _ _ _
          refine wpAny_pure ?_
          show wpAny _ _ (ret Value.none) _ _ _
          rw [sz0] at g'
          exact wpAny_pure ⟨rfl, h', tk', L, es, ep, t, rfl, gS', g', kp2⟩

      · cases r₂ with
        | error e => exact gr₂
        | ok fl₂ =>
          cases fl₂ with
          | ret r =>
            obtain ⟨rfl, h', tk, L, es, ep, t, rfl, gS', g', kp'⟩ := gr₂
            repeat (any_goals (first | assumption | wp_step))
            exact h _ _ _ _ _ _ gS' g' kp'
          | _ => exact gr₂.elim
    | _ => exact gr.elim

end
end TB
set_option maxHeartbeats 1000000
/-! sorted(set(..)), len(sorted(set(..))). -/
namespace TB
open PySem PySem.Spec PyProof.Rows L2
/-! ### plain laws -/
theorem insU_mem (x z : Int) : ∀ ys : List Int, z ∈ insU x ys ↔ z = x ∨ z ∈ ys
  | [] => by simp [insU]
  | y :: ys => by
    unfold insU
    split
    · simp
    · split
      · rename_i h
        subst h
        simp
      · simp only [List.mem_cons, insU_mem x z ys]
        constructor
        · rintro (h | h | h) <;> simp [h]
        · rintro (h | h | h) <;> simp [h]
theorem usort_mem (z : Int) : ∀ xs : List Int, z ∈ usort xs ↔ z ∈ xs
  | [] => by simp [usort]
  | x :: xs => by
    show z ∈ insU x (usort xs) ↔ _
    rw [insU_mem, usort_mem z xs, List.mem_cons]
theorem insU_ord {x : Int} : ∀ {ys : List Int}, ys.Pairwise (· < ·) → (insU x ys).Pairwise (· < ·)
  | [], _ => List.pairwise_singleton _ _
  | y :: ys, h => by
    unfold insU
    obtain ⟨h1, h2⟩ := List.pairwise_cons.mp h
    split
    · rename_i q
      refine List.pairwise_cons.mpr ⟨fun z hz => ?_, h⟩
      rcases List.mem_cons.mp hz with e | e
      · subst e; exact q
      · exact Int.lt_trans q (h1 z e)
    · split
      · exact h
      · refine List.pairwise_cons.mpr ⟨fun z hz => ?_, insU_ord h2⟩
        rcases (insU_mem x z ys).mp hz with e | e
        · subst e; omega
        · exact h1 z e
theorem usort_ord : ∀ xs : List Int, (usort xs).Pairwise (· < ·)
  | [] => List.Pairwise.nil
  | x :: xs => insU_ord (usort_ord xs)
theorem rising_one : ∀ {a b : List Int}, a.Pairwise (· < ·) → b.Pairwise (· < ·) → (∀ z, z ∈ a ↔ z ∈ b) → a = b
  | [], [], _, _, _ => rfl
  | [], y :: b, _, _, h => absurd ((h y).mpr (List.mem_cons_self ..)) (by simp)
  | x :: a, [], _, _, h => absurd ((h x).mp (List.mem_cons_self ..)) (by simp)
  | x :: a, y :: b, ha, hb, h => by
    obtain ⟨a1, a2⟩ := List.pairwise_cons.mp ha
    obtain ⟨b1, b2⟩ := List.pairwise_cons.mp hb
    have e : x = y := by
      have h1 := (h x).mp (List.mem_cons_self ..)
      have h2 := (h y).mpr (List.mem_cons_self ..)
      rcases List.mem_cons.mp h1 with e | e
      · exact e
      · rcases List.mem_cons.mp h2 with e2 | e2
        · exact e2.symm
        · have := b1 x e
          have := a1 y e2
          omega
    subst e
    refine congrArg (x :: ·) (rising_one a2 b2 fun z => ?_)
    constructor
    · intro hz
      rcases List.mem_cons.mp ((h z).mp (List.mem_cons_of_mem _ hz)) with e | e
      · subst e; exact absurd (a1 z hz) (by omega)
      · exact e
    · intro hz
      rcases List.mem_cons.mp ((h z).mpr (List.mem_cons_of_mem _ hz)) with e | e
      · subst e; exact absurd (b1 z hz) (by omega)
      · exact e
theorem nub_mem (z : List Int) : ∀ xs : List (List Int), z ∈ nub xs ↔ z ∈ xs
  | [] => by simp [nub]
  | x :: xs => by
    unfold nub
    split
    · rename_i h
      rw [nub_mem z xs, List.mem_cons]
      constructor
      · exact fun q => .inr q
      · rintro (q | q)
        · subst q; exact h
        · exact q
    · rw [List.mem_cons, List.mem_cons, nub_mem z xs]
theorem nub_nodup : ∀ xs : List (List Int), (nub xs).Nodup
  | [] => List.nodup_nil
  | x :: xs => by
    unfold nub
    split
    · exact nub_nodup xs
    · rename_i h
      exact List.nodup_cons.mpr ⟨fun q => h ((nub_mem x xs).mp q), nub_nodup xs⟩
theorem intsOf_eq : ∀ {xs : List PyData} {ns : List Int}, intsOf xs = some ns → xs = ns.map PyData.int
  | [], _, h => by cases h; rfl
  | x :: xs, ns, h => by
    cases x with
    | int i =>
      unfold intsOf at h
      cases q : intsOf xs with
      | none => rw [q] at h; cases h
      | some ms =>
        rw [q] at h
        cases h
        rw [intsOf_eq q]
        rfl
    | _ => unfold intsOf at h; cases h
theorem rpA_ints {K : PySem.W.Frag} {F : Hp} : ∀ {ns : List Int} {vs : List V}, RpA K F vs (ns.map PyData.int) → vs = ns.map V.int
  | [], _, h => by cases h; rfl
  | n :: ns, _, h => by
    cases h with
    | cons h1 h2 => rw [h1.int_inv, rpA_ints h2]; rfl
theorem int_rps0 {K : PySem.W.Frag} {F : Hp} : ∀ ns : List Int, RpA K F (ns.map V.int) (ns.map PyData.int)
  | [] => .nil
  | n :: ns => .cons (.int n) (int_rps0 ns)
section
variable {X : Cx} {c : Cn} {e : Expr} {a : Ex} {pos p1 p2 p3 q1 q2 : Pos}
def rSetLI (K : PySem.W.Frag) (w : World) : List V → Hp → VK → Prop := fun xs H Q => ∃ (l : Addr) (ns : List Int), xs = [V.ref l] ∧ SqL K H l (ns.map V.int) ∧ ns.length < 60 ∧
  ∀ b n, H b = none → n ≤ ns.length → Q (.ref b) (upd H b (SetO w b (fun j => decide (j ∈ ns)) n))
theorem cr_setLI (hc : X.calm = true) : CallR X (.type "set") (rSetLI X.K X.w) := by
  intro pins s σ H xs us Q I r h
  obtain ⟨l, ns, rfl, hl, hf, q⟩ := h
  rw [Vals.ref1 r]
  obtain ⟨its, rv, pl, hz⟩ := I.list hl
  refine set_ints (P := X.prog) (w := X.w) ns (I.ok.hd hc) pl.isList (by simpa using rv.ints) (by unfold scanBound; omega) fun h' tk n R hn k => ?_
  exact ⟨.ref s.heap.objs.size, upd H s.heap.objs.size (SetO X.w s.heap.objs.size (fun j => decide (j ∈ ns)) n), I.laid (t' := tk) k (Nat.le_refl _) (setO_new R), rfl, q _ n (I.hok.fresh (Nat.le_refl _)) hn⟩
def rSetTT (K : PySem.W.Frag) (P : Program) (w : World) : List V → Hp → VK → Prop := fun xs H Q => ∃ (l : Addr) (ks : List (Addr × List Int)), xs = [V.ref l] ∧ SqT K H l (ks.map fun p => V.ref p.1) ∧ (∀ p ∈ ks, SqT K H p.1 (p.2.map V.int)) ∧ ks.length < 64 ∧
  ∀ b L, H b = none → (∀ p ∈ L, p ∈ ks) → (∀ p ∈ ks, p.2 ∈ L.map (·.2)) → Q (.ref b) (upd H b (SetTO P w b L))
theorem cr_setTT (hc : X.calm = true) (hu : X.A.units + 64 < cLine) : CallR X (.type "set") (rSetTT X.K X.prog X.w) := by
  intro pins s σ H xs us Q I r h
  obtain ⟨l, ks, rfl, hl, hk, hf, q⟩ := h
  rw [Vals.ref1 r]
  obtain ⟨its, rv, pl, hz⟩ := I.tuple hl
  have il : s.heap.IsTuple l its.toArray := by
    obtain ⟨o, e1, e2, n, e3⟩ := pl
    exact ⟨o, e1, e2, n, e3⟩
  refine set_tups (P := X.prog) (w := X.w) ks (I.ok.hd hc) il (by simpa using refs_of_vals rv) (fun p hp => I.isT (hk p hp)) hf (by omega) fun h' tk L es ep t R g k => ?_
  refine ⟨.ref s.heap.objs.size, upd H s.heap.objs.size (SetTO X.prog X.w s.heap.objs.size L), I.laid (t' := tk) k (Nat.le_refl _) (setTO_new R.t0), rfl, q _ L (I.hok.fresh (Nat.le_refl _)) (fun p hp => List.mem_of_mem_take (g.sub p hp)) fun p hp => g.all p (by rw [List.take_length]; exact hp)⟩
theorem e_sset (hK : X.K = c.z.K) (hc : X.calm = true) (hg : Gl X "sorted") (hm : X.mg "sorted" = none) (hg2 : Gl X "set") (hm2 : X.mg "set" = none) (h : PE X e (tE c a)) (hst : starEach [e] X.env = (false, eval e X.env) :: starEach [] X.env) :
    PE X (.Call (.Name "sorted" p1) [.Call (.Name "set" p2) [e] [] q1] [] pos) (tE c (.sset a)) := by
  have hs := cr_setLI hc
  rw [hK] at hs
  refine PE_weak (pe_callB (cr_sortedSet hc) hg hm PyProof.Rows.boot_sorted (pa_cons (pe_callTy hs hg2 hm2 PyProof.Rows.boot_set (pa_cons h pa_nil hst) (he := hst)) pa_nil rfl)) fun σ H Q ⟨g, F, S, P⟩ => ?_
  unfold ev at P
  refine tE_step S P fun r1 g1 v1 H1 F1 S1 T1 R1 P1 => ?_
  cases q0 : opSS r1.d with
  | none => rw [q0] at P1; exact P1.elim
  | some xs =>
    rw [q0] at P1
    cases hd : r1.d with
    | list ys =>
      rw [hd] at q0 R1
      have q0 : ((intsOf ys).bind fun ns => if ns.length < setLim then some ((usort ns).map PyData.int) else none) = some xs := q0
      cases q2 : intsOf ys with
      | none => rw [q2] at q0; cases q0
      | some ns =>
        rw [q2] at q0
        simp only [Option.bind_some] at q0
        split at q0
        · rename_i hlt
          have hlt : ns.length < 60 := hlt
          cases q0
          have e1 := intsOf_eq q2
          subst e1
          obtain ⟨ad, vs, rfl, h1, h2, h3⟩ := R1.lst_inv
          have e2 := rpA_ints h2
          subst e2
          refine ⟨ad, ns, rfl, .inl (Rd_sub S1.G.le h1), hlt, fun b n hb hn => ?_⟩
          obtain ⟨S2, T2, n0, nF, no⟩ := S1.laid (o := SetO X.w b (fun j => decide (j ∈ ns)) n) hb (fun ps e => by cases e)
          refine ⟨b, _, n, rfl, upd_same, by omega, fun ms p hp hm hl hp0 => ?_⟩
          have e3 : ms = usort ns := rising_one hp (usort_ord ns) fun z => by
            rw [hm z, usort_mem]
            simp
          subst e3
          refine fin_made S2 (EndE.shift P1 (T1.trans T2)) ⟨p, _, hp0, rfl, rfl, int_rps0 _, ?_⟩
          rw [List.length_map, hl, sizeLine_eq]
          omega
        · cases q0
    | _ => rw [hd] at q0; cases q0
/-! ### len(sorted(set(..))) -/
theorem pairOf_eq {x : PyData} {p : List Int} (h : pairOf x = some p) : x = .tuple (p.map PyData.int) ∧ p.length = 2 ∧ TS.Bd (2 ^ 60) p := by
  unfold pairOf at h
  split at h
  · split at h
    · rename_i i j hb
      cases h
      refine ⟨rfl, rfl, fun z hz => ?_⟩
      rcases List.mem_cons.mp hz with e | e
      · subst e; omega
      · rw [List.mem_singleton.mp e]; omega
    · cases h
  · cases h
/-- the pairs with their places -/
theorem pairs_at {K : PySem.W.Frag} {F : Hp} : ∀ {xs : List PyData} {ps : List (List Int)} {vs : List V}, pairsOf xs = some ps → RpA K F vs xs →
    ∃ ks : List (Addr × List Int), vs = (ks.map fun p => V.ref p.1) ∧ ks.map (·.2) = ps ∧ (∀ p ∈ ks, SqT K F p.1 (p.2.map V.int)) ∧ ∀ p ∈ ks, p.2.length = 2 ∧ TS.Bd (2 ^ 60) p.2
  | [], _, _, h, r => by
    cases h
    cases r
    exact ⟨[], rfl, rfl, fun p hp => (by cases hp), fun p hp => (by cases hp)⟩
  | x :: xs, ps, _, h, r => by
    cases r with
    | @cons v vs _ _ r1 r2 =>
      unfold pairsOf at h
      cases q1 : pairOf x with
      | none => rw [q1] at h; cases h
      | some p =>
        rw [q1] at h
        cases q2 : pairsOf xs with
        | none => rw [q2] at h; cases h
        | some qs =>
          rw [q2] at h
          cases h
          obtain ⟨ks, e1, e2, e3, e4⟩ := pairs_at q2 r2
          obtain ⟨w1, w2, w3⟩ := pairOf_eq q1
          subst w1
          obtain ⟨ad, us, rfl, t1, t2, t3⟩ := r1.tup_inv
          have := rpA_ints t2
          subst this
          refine ⟨(ad, p) :: ks, by rw [e1]; rfl, by rw [List.map_cons, e2], fun z hz => ?_, fun z hz => ?_⟩
          · rcases List.mem_cons.mp hz with e | e
            · subst e; exact t1
            · exact e3 z e
          · rcases List.mem_cons.mp hz with e | e
            · subst e; exact ⟨w2, w3⟩
            · exact e4 z e
theorem e_lss (hK : X.K = c.z.K) (hc : X.calm = true) (hu : X.A.units + 64 < cLine) (hg0 : Gl X "len") (hm0 : X.mg "len" = none) (hg : Gl X "sorted") (hm : X.mg "sorted" = none) (hg2 : Gl X "set") (hm2 : X.mg "set" = none) (h : PE X e (tE c a)) (hst : starEach [e] X.env = (false, eval e X.env) :: starEach [] X.env) :
    PE X (.Call (.Name "len" p3) [.Call (.Name "sorted" p1) [.Call (.Name "set" p2) [e] [] q1] [] q2] [] pos) (tE c (.lss a)) := by
  have hs := cr_setTT hc hu
  have ho := cr_sortedT (X := X) hc
  have hl := call_len (X := X)
  rw [hK] at hs ho hl
  refine PE_weak (pe_callB hl hg0 hm0 PySem.boot_len (pa_cons (pe_callB ho hg hm PyProof.Rows.boot_sorted (pa_cons (pe_callTy hs hg2 hm2 PyProof.Rows.boot_set (pa_cons h pa_nil hst) (he := hst)) pa_nil rfl)) pa_nil rfl)) fun σ H Q ⟨g, F, S, P⟩ => ?_
  unfold ev at P
  refine tE_step S P fun r1 g1 v1 H1 F1 S1 T1 R1 P1 => ?_
  cases q0 : opLS r1.d with
  | none => rw [q0] at P1; exact P1.elim
  | some m =>
    rw [q0] at P1
    cases hd : r1.d with
    | tuple ys =>
      rw [hd] at q0 R1
      have q0 : ((pairsOf ys).bind fun ps => if ps.length < 60 then some ((nub ps).length : Int) else none) = some m := q0
      cases q2 : pairsOf ys with
      | none => rw [q2] at q0; cases q0
      | some ps =>
        rw [q2] at q0
        simp only [Option.bind_some] at q0
        split at q0
        · rename_i hlt
          cases q0
          obtain ⟨ad, vs, rfl, h1, h2, h3⟩ := R1.tup_inv
          obtain ⟨ks, e1, e2, e3, e4⟩ := pairs_at q2 h2
          subst e1 e2
          rw [List.length_map] at hlt
          refine ⟨ad, ks, rfl, SqT_sub S1.G.le h1, fun p hp => SqT_sub S1.G.le (e3 p hp), by omega, fun b L hb hL1 hL2 => ?_⟩
          obtain ⟨S2, T2, n0, nF, no⟩ := S1.laid (o := SetTO X.prog X.w b L) hb (fun ps e => by cases e)
          refine ⟨b, L, 2, 2 ^ 60, rfl, upd_same, fun p hp => SqT_sub S2.G.le (e3 p (hL1 p hp)), by decide, fun p hp => e4 p (hL1 p hp), fun L' p pm nd hf pw hp0 => ?_⟩
          obtain ⟨S3, T3, n3, nF3, no3⟩ := S2.laid (o := HO.lst (L'.map fun q => V.ref q.1)) hp0 (fun ps e => by cases e)
          have en : L'.length = (nub (ks.map (·.2))).length := by
            have pr : (L'.map (·.2)).Perm (nub (ks.map (·.2))) := by
              refine (List.perm_ext_iff_of_nodup nd (nub_nodup _)).mpr fun z => ?_
              rw [nub_mem, (pm.map (·.2)).mem_iff]
              constructor
              · intro hz
                obtain ⟨p', hp', rfl⟩ := List.mem_map.mp hz
                exact List.mem_map_of_mem (hL1 p' hp')
              · intro hz
                obtain ⟨p', hp', rfl⟩ := List.mem_map.mp hz
                exact hL2 p' hp'
            have := pr.length_eq
            rw [List.length_map] at this
            exact this
          refine ⟨_, L'.length, rfl, .inl ⟨_, .inl (.inl upd_same), by rw [List.length_map]⟩, ?_⟩
          rw [en]
          exact fin_here S3 (EndE.shift P1 ((T1.trans T2).trans T3)) (.int _)
        · cases q0
    | _ => rw [hd] at q0; cases q0
end
end TB
set_option maxHeartbeats 1000000
/-! The text is matched with the interpreter's syntax. -/
namespace TB
open PySem PySem.Spec PyProof.Rows L2
/-! ### names -/
def visB (sc : Scope) (x : Str) : Bool := match sc.names.lookup x with
  | some .local => true
  | some .cell => true
  | some .free => true
  | _ => false
def locB (sc : Scope) (x : Str) : Bool := match sc.names.lookup x with
  | some .local => true
  | some .cell => true
  | _ => false
def isLoc (sc : Scope) (x : Str) : Bool := match sc.names.lookup x with
  | some .local => true
  | _ => false
def glB (sc : Scope) (x : Str) : Bool := match sc.names.lookup x with
  | some .globalImplicit => true
  | _ => false
def okN (x : Str) : Bool := !(x == ("__debug__" : Str)) && !(x == ("__classdict__" : Str))
/-- what is known of a text: a def's names; the defs that are linked and their names; the constants -/
structure Mc where
  N : List Str
  nm : Nat → Str
  lk : Nat → Bool
  gc : Nat → Str → Bool
  /-- the defs that take a lambda -/
  la : Nat → Bool
  /-- the classes of exceptions -/
  rc : Str → Bool
def biN : List Str := ["len", "abs", "int", "max", "min", "list", "tuple", "str", "bool", "sorted", "range", "zip", "enumerate", "isinstance", "set"]
def notStar : Expr → Bool
  | .Starred .. => false
  | _ => true
def plainB : Expr → Bool
  | .Slice .. => false
  | _ => true
def notSet : Expr → Bool
  | .Set .. => false
  | _ => true
def notComp : Expr → Bool
  | .ListComp .. => false
  | .SetComp .. => false
  | .DictComp .. => false
  | _ => true
def notTup : Expr → Bool
  | .Tuple .. => false
  | _ => true
def isBool : Expr → Bool
  | .BoolOp .. => true
  | _ => false
def isOmit : Ex → Bool
  | .omit => true
  | _ => false
/-- has a test's form -/
def ptOk : Ex → Bool
  | .ite .. => false
  | _ => true
def isIt : Ex → Bool
  | .rng1 .. => true
  | .rng2 .. => true
  | .rng3 .. => true
  | .zip .. => true
  | .enm .. => true
  | _ => false
/-- a name that a comprehension's block binds -/
def okBlk (scope sc : Scope) (x : Str) : Bool := isLoc sc x || (locB sc x && (scope.names.lookup x == some .cell))
def nam (N : List Str) (sc : Scope) (i : Nat) : Expr → Bool
  | .Name x _ => decide (N[i]? = some x) && visB sc x && okN x
  | _ => false
def tgN (ok : Scope → Str → Bool) (N : List Str) (sc : Scope) (i : Nat) : Expr → Bool
  | .Name x _ => decide (N[i]? = some x) && ok sc x
  | _ => false
def tgRow (ok : Scope → Str → Bool) (N : List Str) (sc : Scope) : List Nat → List Expr → Bool
  | [], [] => true
  | i :: is, e :: es => tgN ok N sc i e && tgRow ok N sc is es
  | _, _ => false
def mTg (ok : Scope → Str → Bool) (N : List Str) (sc : Scope) : Tg → Expr → Bool
  | .one i, e => tgN ok N sc i e
  | .many is, .Tuple es _ _ => tgRow ok N sc is es
  | _, _ => false
def ownPs (N : List Str) (own : List Nat) : List (Str × Nat) := own.map fun i => (N.getD i Str.empty, i)
section
variable (M : Mc)
mutual
def mE : Ex → Option Expr → Scope → Expr → Bool
  | .non, _, _, e => match e with
    | .Constant .none _ _ => true
    | _ => false
  | .bl b, _, _, e => match e with
    | .Constant (.bool b') _ _ => b == b'
    | _ => false
  | .int i, _, _, e => match e with
    | .Constant (.int i') _ _ => decide (i = i')
    | _ => false
  | .str s, _, _, e => match e with
    | .Constant (.str s') _ _ => decide (s = s') && PyData.strOk s
    | _ => false
  | .loc i, _, sc, e => nam M.N sc i e
  | .glb n x, _, sc, e => match e with
    | .Name y _ => decide (x = y) && glB sc x && M.gc n x && okN x
    | _ => false
  | .bin o a b, _, sc, e => match e with
    | .BinOp a' o' b' _ => decide (o' = boOp o) && mE a none sc a' && mE b none sc b'
    | _ => false
  | .neg a, _, sc, e => match e with
    | .UnaryOp .USub a' _ => mE a none sc a'
    | _ => false
  | .not a, _, sc, e => match e with
    | .UnaryOp .Not a' _ => ptOk a && mE a none sc a'
    | _ => false
  | .and a b, _, sc, e => match e with
    | .BoolOp .And (x :: y :: []) _ => ptOk a && ptOk b && mE a none sc x && mE b none sc y
    | .BoolOp .And (x :: y :: y' :: r) p => ptOk a && ptOk b && mE a none sc x && mE b none sc (.BoolOp .And (y :: y' :: r) p)
    | _ => false
  | .or a b, _, sc, e => match e with
    | .BoolOp .Or (x :: y :: []) _ => ptOk a && ptOk b && mE a none sc x && mE b none sc y
    | .BoolOp .Or (x :: y :: y' :: r) p => ptOk a && ptOk b && mE a none sc x && mE b none sc (.BoolOp .Or (y :: y' :: r) p)
    | _ => false
  | .cmp o a b, _, sc, e => match e with
    | .Compare a' [o'] [b'] _ => decide (o' = coOp o) && mE a none sc a' && mE b none sc b' && !behindInMarks (coOp o) b'
    | _ => false
  | .chain o p a b d, _, sc, e => match e with
    | .Compare a' [o', p'] [b', d'] _ => decide (o' = coOp o) && decide (p' = coOp p) && mE a none sc a' && mE b none sc b' && mE d none sc d' && !lastMarks [coOp o, coOp p] [b', d']
    | _ => false
  | .ite d a b, _, sc, e => match e with
    | .IfExp d' a' b' _ => ptOk d && mE d none sc d' && mE a none sc a' && mE b none sc b'
    | _ => false
  | .tup xs, _, sc, e => match e with
    | .Tuple es _ _ => mEs xs sc es
    | _ => false
  | .lst xs, _, sc, e => match e with
    | .List es _ => mEs xs sc es
    | _ => false
  | .idx a i, _, sc, e => match e with
    | .Subscript a' i' _ => mE a none sc a' && mE i none sc i' && plainB i'
    | _ => false
  | .idxB j a, _, sc, e => match e with
    | .Subscript n i' _ => nam M.N sc j n && mE a none sc i' && plainB i'
    | _ => false
  | .lenB j, _, sc, e => match e with
    | .Call (.Name x _) [n] [] _ => decide (x = ("len" : Str)) && glB sc x && nam M.N sc j n
    | _ => false
  | .cmpB o j a, _, sc, e => match e with
    | .Compare n [o'] [b'] _ => decide (o' = coOp o) && nam M.N sc j n && mE a none sc b' && !behindInMarks (coOp o) b'
    | _ => false
  | .ninB a j, _, sc, e => match e with
    | .Compare a' [o'] [n] _ => decide (o' = .NotIn) && mE a none sc a' && nam M.N sc j n
    | _ => false
  | .slc a lo hi, _, sc, e => match e with
    | .Subscript a' (.Slice lo' hi' none _) _ => mE a none sc a' && (match lo' with
        | none => isOmit lo
        | some l => !isOmit lo && mE lo none sc l) && (match hi' with
        | none => isOmit hi
        | some l => !isOmit hi && mE hi none sc l)
    | _ => false
  | .rev _, _, _, _ => false
  | .omit, _, _, _ => false
  | .lc it tg own cd el, _, sc, e => match e with
    | .ListComp elt [⟨t, iter, ifs, 0⟩] scope _ => mE it (some t) sc iter && notSet iter && tgIn own tg && blkC M.N sc scope (ownPs M.N own) && mTg (okBlk scope) M.N (relS scope sc) tg t && mE el none (relS scope sc) elt && !isIt el && (match ifs with
        | [] => isOmit cd
        | [q] => !isOmit cd && ptOk cd && !isIt cd && mE cd none (relS scope sc) q
        | _ => false)
    | _ => false
  | .rng1 a, t, sc, e => match t, e with
    | some _, .Call (.Name x _) [a'] [] _ => decide (x = ("range" : Str)) && glB sc x && mE a none sc a' && notStar a'
    | _, _ => false
  | .rng2 a b, t, sc, e => match t, e with
    | some _, .Call (.Name x _) [a', b'] [] _ => decide (x = ("range" : Str)) && glB sc x && mE a none sc a' && notStar a' && mE b none sc b' && notStar b'
    | _, _ => false
  | .rng3 a b k, t, sc, e => match t, e with
    | some _, .Call (.Name x _) [a', b', .Constant (.int k') _ _] [] _ => decide (x = ("range" : Str)) && glB sc x && mE a none sc a' && notStar a' && mE b none sc b' && notStar b' && decide (k = k')
    | _, _ => false
  | .zip a b, t, sc, e => match t, e with
    | some (.Tuple _ _ _), .Call (.Name x _) [a', b'] [] _ => decide (x = ("zip" : Str)) && glB sc x && mE a none sc a' && notStar a' && mE b none sc b' && notStar b'
    | _, _ => false
  | .enm a, t, sc, e => match t, e with
    | some (.Tuple _ _ _), .Call (.Name x _) [a'] [] _ => decide (x = ("enumerate" : Str)) && glB sc x && mE a none sc a' && notStar a'
    | _, _ => false
  | .call f xs, _, sc, e => match e with
    | .Call (.Name x _) es [] _ => decide (x = M.nm f) && M.lk f && glB sc x && okN x && mEs xs sc es
    | _ => false
  | .callv f i xs, _, sc, e => match e with
    | .Call (.Name x _) (n :: es) [] _ => decide (x = M.nm f) && M.lk f && glB sc x && okN x && nam M.N sc i n && mEs xs sc es
    | _ => false
  | .bf b xs, _, sc, e => match e with
    | .Call (.Name x _) (e1 :: es) [] _ => decide (x = bfName b) && glB sc x && mEs xs sc (e1 :: es)
    | _ => false
  | .isi a t, _, sc, e => match e with
    | .Call (.Name x _) [a', .Name y _] [] _ => decide (x = ("isinstance" : Str)) && glB sc x && decide (y = Str.ofString t.s) && glB sc y && mE a none sc a' && notStar a'
    | _ => false
  | .mth _ _ _, _, _, _ => false
  | .lam _ _ _, _, _, _ => false
  | .sset a, _, sc, e => match e with
    | .Call (.Name x _) [.Call (.Name y _) [a'] [] _] [] _ => decide (x = ("sorted" : Str)) && decide (y = ("set" : Str)) && glB sc x && glB sc y && mE a none sc a' && notStar a'
    | _ => false
  | .lss a, _, sc, e => match e with
    | .Call (.Name z _) [.Call (.Name x _) [.Call (.Name y _) [a'] [] _] [] _] [] _ => decide (z = ("len" : Str)) && decide (x = ("sorted" : Str)) && decide (y = ("set" : Str)) && glB sc z && glB sc x && glB sc y && mE a none sc a' && notStar a'
    | _ => false
def mEs : Exs → Scope → List Expr → Bool
  | .nil, _, es => match es with
    | [] => true
    | _ => false
  | .cons x xs, sc, es => match es with
    | e :: r => mE x none sc e && !isIt x && notStar e && mEs xs sc r
    | _ => false
end
end
/-! ### what stands around -/
structure Gx (M : Mc) (c : Cn) (sc : Scope) (X : Cx) : Prop where
  K : X.K = c.z.K
  names : X.N = M.N
  nd : M.N.Nodup
  sc : X.env.scope = sc
  calm : X.calm = true
  un : X.A.units + 64 < cLine
  hx : Passes (CX X.prog X.w) X c.E
  lk : ∀ f, M.lk f = true → Lnk X c f (M.nm f)
  bi : ∀ x ∈ biN, X.mg x = none
  gc : ∀ n x, M.gc n x = true → ∃ d v u, c.L.gl n = some d ∧ X.mg x = some u ∧ RelV v u ∧ ∀ F, Rp c.z.K F v d
structure EOk (c : Cn) (X : Cx) (x : Ex) (e : Expr) : Prop where
  pe : PE X e (tE c x)
  pt : ptOk x = true → PT X e (tT c x)
  pw : isBool e = true → PW X e (tT c x)
section
variable {M : Mc} {c : Cn} {X : Cx} {sc : Scope} {e : Expr} {x : Ex}
theorem ba {a b : Bool} (h : (a && b) = true) : a = true ∧ b = true := Bool.and_eq_true_iff.mp h
theorem vis_ok {y : Str} (h : visB sc y = true) : Vis sc y := by
  unfold visB at h
  unfold Vis
  split at h <;> first | (exact .inl (by assumption)) | (exact .inr (.inl (by assumption))) | (exact .inr (.inr (by assumption))) | cases h
theorem loc_ok {y : Str} (h : locB sc y = true) : L2.Loc sc y := by
  unfold locB at h
  unfold L2.Loc
  split at h <;> first | (exact .inl (by assumption)) | (exact .inr (by assumption)) | cases h
theorem isLoc_ok {y : Str} (h : isLoc sc y = true) : sc.names.lookup y = some .local := by
  unfold isLoc at h
  split at h <;> first | assumption | cases h
theorem gl_ok {y : Str} (hs : X.env.scope = sc) (h : glB sc y = true) : Gl X y := by
  unfold glB at h
  unfold Gl Env.kindOf
  rw [hs]
  split at h <;> first | assumption | cases h
theorem okN_ok {y : Str} (h : okN y = true) : (y == ("__debug__" : Str)) = false ∧ (y == ("__classdict__" : Str)) = false := by
  unfold okN at h
  obtain ⟨h1, h2⟩ := ba h
  exact ⟨by simpa using h1, by simpa using h2⟩
theorem nam_ok {N : List Str} {i : Nat} {n : Expr} (hN : X.N = N) (hs : X.env.scope = sc) (h : nam N sc i n = true) : ∃ y p, n = .Name y p ∧ X.N[i]? = some y ∧ Vis X.env.scope y ∧ (y == ("__debug__" : Str)) = false ∧ (y == ("__classdict__" : Str)) = false := by
  unfold nam at h
  split at h
  · obtain ⟨h1, h2⟩ := ba h
    obtain ⟨h3, h4⟩ := ba h1
    obtain ⟨d1, d2⟩ := okN_ok h2
    exact ⟨_, _, rfl, by rw [hN]; exact of_decide_eq_true h3, by rw [hs]; exact vis_ok h4, d1, d2⟩
  · cases h
theorem star_ok {env : Env} {es : List Expr} (h : notStar e = true) : starEach (e :: es) env = (false, eval e env) :: starEach es env := by
  cases e <;> first | rfl | cases h
theorem plain_ok (h : plainB e = true) : PlainIx e := by
  intro o i
  cases e <;> first | rfl | cases h
theorem fold_ok {env : Env} (h : notSet e = true) : ∀ v, foldedSetIterable e env v = pure v := by
  intro v
  cases e <;> first | rfl | cases h
/-- no value that is a test of its own form -/
def plainT : Expr → Bool
  | .UnaryOp .Not _ _ => false
  | .BoolOp .. => false
  | .IfExp .. => false
  | .Compare .. => false
  | _ => true
theorem plainT_ok {env : Env} (h : plainT e = true) : ∀ whole, isTrue e env whole = (do let v ← whole; standAt e.pos; holding [v] (truthy v)) := by
  intro whole
  cases e with
  | UnaryOp op a p => cases op <;> first | rfl | cases h
  | BoolOp _ _ _ => cases h
  | IfExp _ _ _ _ => cases h
  | Compare _ _ _ _ => cases h
  | _ => rfl
theorem EOk.val (h : PE X e (tE c x)) (hp : plainT e = true) : EOk c X x e := ⟨h, fun _ => t_val h (plainT_ok hp), fun q => by cases e <;> first | (cases hp; done) | (cases q; done)⟩
theorem EOk.cmp (h : PE X e (tE c x)) (hp : PT X e (tT c x)) (hb : isBool e = false) : EOk c X x e := ⟨h, fun _ => hp, fun q => by rw [hb] at q; cases q⟩
theorem bi_mem {y : Str} (G : Gx M c sc X) (h : y ∈ biN) : X.mg y = none := G.bi y h
theorem bf_bi (f : BF) : bfName f ∈ biN := by
  cases f <;> simp [bfName, biN]
theorem isi_bi (t : IT) : Str.ofString t.s ∈ biN := by
  cases t <;> simp [biN, IT.s]
theorem stars_ok {env : Env} {pos : Pos} : ∀ {es : List Expr}, (es.all notStar) = true → (backTo pos (starEach es env)).any (·.1) = false := by
  intro es
  have e : (backTo pos (starEach es env)).any (·.1) = (starEach es env).any (·.1) := by
    unfold backTo
    rw [List.any_map]
    rfl
  rw [e]
  clear e
  induction es with
  | nil => intro _; rfl
  | cons e es ih =>
    intro h
    simp only [List.all_cons, Bool.and_eq_true] at h
    rw [star_ok h.1, List.any_cons, ih h.2]
    rfl
theorem mEs_stars : ∀ {xs : Exs} {es : List Expr}, mEs M xs sc es = true → es.all notStar = true
  | .nil, [], _ => rfl
  | .nil, _ :: _, h => by unfold mEs at h; cases h
  | .cons _ _, [], h => by unfold mEs at h; cases h
  | .cons x xs, e :: es, h => by
    unfold mEs at h
    obtain ⟨h1, h2⟩ := ba h
    obtain ⟨h3, h4⟩ := ba h1
    rw [List.all_cons, h4, mEs_stars h2]
    rfl
/-- the block of a comprehension -/
theorem Gx.blk (G : Gx M c sc X) (s : Shared) (H : Hp) (scope : Scope) (C : Addr) (cl : List (Str × Addr)) (fp : List Addr) : Gx M c.quiet (relS scope sc) (X.blk s H scope (compEnvC scope cl C X.env) fp) where
  K := G.K
  names := G.names
  nd := G.nd
  sc := by
    show relS scope X.env.scope = _
    rw [G.sc]
  calm := G.calm
  un := G.un
  hx := fun pins σ H s e s' _ h => by
    obtain ⟨_, _, _, _, _, _, _, _, _, _, _, _, z⟩ := h
    exact z.elim
  lk := fun f h => ⟨(G.lk f h).ex⟩
  bi := G.bi
  gc := G.gc
/-- the one place where a name stands for a slot -/
theorem tgN_ok {ok : Scope → Str → Bool} {N : List Str} {i : Nat} (hN : X.N = N) (hs : X.env.scope = sc) (ho : ∀ y, ok sc y = true → L2.Loc sc y ∧ (X.fn y = true ∨ sc.names.lookup y = some .local)) (h : tgN ok N sc i e = true) :
    ∃ y p, e = .Name y p ∧ X.N[i]? = some y ∧ L2.Loc X.env.scope y ∧ (X.fn y = true ∨ X.env.scope.names.lookup y = some .local) := by
  unfold tgN at h
  split at h
  · obtain ⟨h1, h2⟩ := ba h
    obtain ⟨o1, o2⟩ := ho _ h2
    exact ⟨_, _, rfl, by rw [hN]; exact of_decide_eq_true h1, by rw [hs]; exact o1, by rw [hs]; exact o2⟩
  · cases h
theorem tgRow_ok {ok : Scope → Str → Bool} {N : List Str} (hN : X.N = N) (hs : X.env.scope = sc) (ho : ∀ y, ok sc y = true → L2.Loc sc y ∧ (X.fn y = true ∨ sc.names.lookup y = some .local)) : ∀ {is : List Nat} {es : List Expr}, tgRow ok N sc is es = true →
    Paired (fun i e => ∃ x p, e = Expr.Name x p ∧ X.N[i]? = some x ∧ L2.Loc X.env.scope x ∧ (X.fn x = true ∨ X.env.scope.names.lookup x = some .local)) is es
  | [], [], _ => .nil
  | [], _ :: _, h => by unfold tgRow at h; cases h
  | _ :: _, [], h => by unfold tgRow at h; cases h
  | i :: is, e :: es, h => by
    unfold tgRow at h
    obtain ⟨h1, h2⟩ := ba h
    exact .cons (tgN_ok hN hs ho h1) (tgRow_ok hN hs ho h2)
theorem mTg_ok {ok : Scope → Str → Bool} {N : List Str} {tg : Tg} (hN : X.N = N) (hnd : N.Nodup) (hs : X.env.scope = sc) (hc : X.calm = true) (ho : ∀ y, ok sc y = true → L2.Loc sc y ∧ (X.fn y = true ∨ sc.names.lookup y = some .local)) (h : mTg ok N sc tg e = true) : PG X e (gTgt X.K tg) := by
  have nd : X.N.Nodup := by rw [hN]; exact hnd
  cases tg with
  | one i =>
    obtain ⟨y, p, rfl, h1, h2, h3⟩ := tgN_ok hN hs ho (show tgN ok N sc i e = true from h)
    exact pg_name nd h1 h2 h3
  | many is =>
    unfold mTg at h
    split at h
    · contradiction
    · rename_i is' es k p e1
      cases e1
      have row := tgRow_ok hN hs ho h
      obtain ⟨l1, l2⟩ := row_assigns (X := X) (fun i e ⟨x, p, q, _⟩ => ⟨x, p, q⟩) row
      exact pg_tup hc (g_row nd row) l1 l2
    · cases h
end
end TB
set_option maxHeartbeats 1000000
/-! A text that matches is read as the interpreter says. -/
namespace TB
open PySem PySem.Spec PyProof.Rows L2
section
variable {M : Mc} {c : Cn} {X : Cx} {sc : Scope} {e : Expr} {x : Ex}
structure Says (c : Cn) (X : Cx) (x : Ex) (tgo : Option Expr) (e : Expr) : Prop where
  eo : isIt x = false → EOk c X x e
  it : ∀ tg, tgo = some tg → PI X tg e (tI c x)
theorem nope {p : Prop} {b : Bool} (h : b = false) (q : b = true) : p := by rw [h] at q; cases q
theorem says_val {tgo : Option Expr} (G : Gx M c sc X) (h : EOk c X x e) : Says c X x tgo e := ⟨fun _ => h, fun _ _ => i_seq G.K h.pe⟩
theorem says_it {tgo : Option Expr} (hx : isIt x = true) (h : ∀ tg, tgo = some tg → PI X tg e (tI c x)) : Says c X x tgo e := ⟨fun q => nope q hx, h⟩
theorem not_it (h : mE M x none sc e = true) : isIt x = false := by
  cases x <;> first | rfl | (unfold mE at h; cases h)
theorem Says.eo1 (h : Says c X x none e) (hm : mE M x none sc e = true) : EOk c X x e := h.eo (not_it hm)
theorem isLoc_ho {y : Str} (h : isLoc sc y = true) : L2.Loc sc y ∧ (X.fn y = true ∨ sc.names.lookup y = some .local) := ⟨.inl (isLoc_ok h), .inr (isLoc_ok h)⟩
theorem okBlk_ho {scope : Scope} {y : Str} (hf : X.fn = fun x => scope.names.lookup x == some .cell) (h : okBlk scope sc y = true) : L2.Loc sc y ∧ (X.fn y = true ∨ sc.names.lookup y = some .local) := by
  unfold okBlk at h
  rcases Bool.or_eq_true_iff.mp h with h | h
  · exact isLoc_ho h
  · obtain ⟨h1, h2⟩ := ba h
    exact ⟨loc_ok h1, .inl (by rw [hf]; exact h2)⟩
theorem own_eq {N : List Str} (own : List Nat) : (ownPs N own).map (·.2) = own := by
  unfold ownPs
  rw [List.map_map]
  exact List.map_id'' (fun _ => rfl) own
theorem omit_ne (h : (!isOmit x) = true) : x ≠ .omit := by
  rintro rfl
  cases h
theorem omit_eq (h : isOmit x = true) : x = .omit := by
  cases x <;> first | rfl | cases h
theorem bnot {b : Bool} (h : (!b) = true) : b = false := by
  cases b <;> first | rfl | cases h
theorem star2 {env : Env} {e1 e2 : Expr} (h1 : notStar e1 = true) (h2 : notStar e2 = true) : starEach [e1, e2] env = [(false, eval e1 env), (false, eval e2 env)] := by
  rw [star_ok h1, star_ok h2]
  rfl
end
section
variable {M : Mc}
mutual
theorem mE_ok : ∀ (x : Ex) {tgo : Option Expr} {sc : Scope} {c : Cn} {X : Cx} {e : Expr}, Gx M c sc X → mE M x tgo sc e = true → Says c X x tgo e
  | .non, _, _, _, _, e, G, h => by
    unfold mE at h
    split at h
    · exact says_val G (.val e_non rfl)
    · cases h
  | .bl b, _, _, _, _, e, G, h => by
    unfold mE at h
    split at h
    · cases eq_of_beq h
      exact says_val G (.val e_bl rfl)
    · cases h
  | .int i, _, _, _, _, e, G, h => by
    unfold mE at h
    split at h
    · cases of_decide_eq_true h
      exact says_val G (.val e_int rfl)
    · cases h
  | .str s, _, _, _, _, e, G, h => by
    unfold mE at h
    split at h
    · obtain ⟨h1, h2⟩ := ba h
      cases of_decide_eq_true h1
      exact says_val G (.val (e_str h2) rfl)
    · cases h
  | .loc i, _, _, _, _, e, G, h => by
    unfold mE at h
    obtain ⟨y, p, rfl, h1, h2, h3, h4⟩ := nam_ok G.names G.sc h
    exact says_val G (.val (e_loc h1 h2 h3 h4) rfl)
  | .glb n x, _, _, _, _, e, G, h => by
    unfold mE at h
    split at h
    · obtain ⟨h', h4⟩ := ba h
      obtain ⟨h', h3⟩ := ba h'
      obtain ⟨h1, h2⟩ := ba h'
      cases of_decide_eq_true h1
      obtain ⟨d, v, u, g1, g2, g3, g4⟩ := G.gc _ _ h3
      exact says_val G (.val (e_glb (gl_ok G.sc h2) g2 g3 g4 g1 (okN_ok h4).1) rfl)
    · cases h
  | .bin o a b, _, _, _, _, e, G, h => by
    unfold mE at h
    split at h
    · obtain ⟨h', h3⟩ := ba h
      obtain ⟨h1, h2⟩ := ba h'
      cases of_decide_eq_true h1
      exact says_val G (.val (e_bin G.K ((mE_ok a G h2).eo1 h2).pe ((mE_ok b G h3).eo1 h3).pe) rfl)
    · cases h
  | .neg a, _, _, _, _, e, G, h => by
    unfold mE at h
    split at h
    · exact says_val G (.val (e_neg ((mE_ok a G h).eo1 h).pe) rfl)
    · cases h
  | .not a, _, _, _, _, e, G, h => by
    unfold mE at h
    split at h
    · obtain ⟨h1, h2⟩ := ba h
      have A := (mE_ok a G h2).eo1 h2
      exact says_val G (.cmp (e_not A.pe) (t_not (A.pt h1)) rfl)
    · cases h
  | .and a b, _, _, _, _, e, G, h => by
    unfold mE at h
    split at h
    · obtain ⟨h', h4⟩ := ba h
      obtain ⟨h', h3⟩ := ba h'
      obtain ⟨h1, h2⟩ := ba h'
      have A := (mE_ok a G h3).eo1 h3
      have B := (mE_ok b G h4).eo1 h4
      have w := w_and (pos := by assumption) (A.pt h1) (pw_and1 (B.pt h2))
      exact says_val G ⟨e_and A.pe (pe_one B.pe), fun _ => w.pt, fun _ => w⟩
    · obtain ⟨h', h4⟩ := ba h
      obtain ⟨h', h3⟩ := ba h'
      obtain ⟨h1, h2⟩ := ba h'
      have A := (mE_ok a G h3).eo1 h3
      have B := (mE_ok b G h4).eo1 h4
      have w := w_and (A.pt h1) (B.pw rfl)
      exact says_val G ⟨e_and A.pe B.pe, fun _ => w.pt, fun _ => w⟩
    · cases h
  | .or a b, _, _, _, _, e, G, h => by
    unfold mE at h
    split at h
    · obtain ⟨h', h4⟩ := ba h
      obtain ⟨h', h3⟩ := ba h'
      obtain ⟨h1, h2⟩ := ba h'
      have A := (mE_ok a G h3).eo1 h3
      have B := (mE_ok b G h4).eo1 h4
      have w := w_or (pos := by assumption) (A.pt h1) (pw_or1 (B.pt h2))
      exact says_val G ⟨e_or A.pe (pe_one B.pe), fun _ => w.pt, fun _ => w⟩
    · obtain ⟨h', h4⟩ := ba h
      obtain ⟨h', h3⟩ := ba h'
      obtain ⟨h1, h2⟩ := ba h'
      have A := (mE_ok a G h3).eo1 h3
      have B := (mE_ok b G h4).eo1 h4
      have w := w_or (A.pt h1) (B.pw rfl)
      exact says_val G ⟨e_or A.pe B.pe, fun _ => w.pt, fun _ => w⟩
    · cases h
  | .cmp o a b, _, _, _, _, e, G, h => by
    unfold mE at h
    split at h
    · obtain ⟨h', h4⟩ := ba h
      obtain ⟨h', h3⟩ := ba h'
      obtain ⟨h1, h2⟩ := ba h'
      cases of_decide_eq_true h1
      have A := ((mE_ok a G h2).eo1 h2).pe
      have B := ((mE_ok b G h3).eo1 h3).pe
      exact says_val G (.cmp (e_cmp G.K G.un A B (bnot h4)) (t_cmp G.K G.un A B (bnot h4)) rfl)
    · cases h
  | .chain o p a b d, _, _, _, _, e, G, h => by
    unfold mE at h
    split at h
    · obtain ⟨h', h6⟩ := ba h
      obtain ⟨h', h5⟩ := ba h'
      obtain ⟨h', h4⟩ := ba h'
      obtain ⟨h', h3⟩ := ba h'
      obtain ⟨h1, h2⟩ := ba h'
      cases of_decide_eq_true h1
      cases of_decide_eq_true h2
      have A := ((mE_ok a G h3).eo1 h3).pe
      have B := ((mE_ok b G h4).eo1 h4).pe
      have D := ((mE_ok d G h5).eo1 h5).pe
      exact says_val G (.cmp (e_chain G.K G.un A B D (bnot h6)) (t_chain G.K G.un A B D (bnot h6)) rfl)
    · cases h
  | .ite d a b, _, _, _, _, e, G, h => by
    unfold mE at h
    split at h
    · obtain ⟨h', h4⟩ := ba h
      obtain ⟨h', h3⟩ := ba h'
      obtain ⟨h1, h2⟩ := ba h'
      exact says_val G ⟨e_ite (((mE_ok d G h2).eo1 h2).pt h1) ((mE_ok a G h3).eo1 h3).pe ((mE_ok b G h4).eo1 h4).pe, fun q => nope (b := false) rfl q, fun q => nope (b := false) rfl q⟩
    · cases h
  | .tup xs, _, _, _, _, e, G, h => by
    unfold mE at h
    split at h
    · exact says_val G (.val (e_tup (mEs_ok xs G h).1) rfl)
    · cases h
  | .lst xs, _, _, _, _, e, G, h => by
    unfold mE at h
    split at h
    · exact says_val G (.val (e_lst (mEs_ok xs G h).1) rfl)
    · cases h
  | .idx a i, _, _, _, _, e, G, h => by
    unfold mE at h
    split at h
    · obtain ⟨h', h3⟩ := ba h
      obtain ⟨h1, h2⟩ := ba h'
      exact says_val G (.val (e_idx G.K ((mE_ok a G h1).eo1 h1).pe ((mE_ok i G h2).eo1 h2).pe (plain_ok h3)) rfl)
    · cases h
  | .idxB j a, _, _, _, _, e, G, h => by
    unfold mE at h
    split at h
    · obtain ⟨h', h3⟩ := ba h
      obtain ⟨h1, h2⟩ := ba h'
      obtain ⟨y, p, rfl, n1, n2, n3, n4⟩ := nam_ok G.names G.sc h1
      exact says_val G (.val (e_idxB G.K n1 n2 n3 n4 ((mE_ok a G h2).eo1 h2).pe (plain_ok h3)) rfl)
    · cases h
  | .lenB j, _, _, _, _, e, G, h => by
    unfold mE at h
    split at h
    · obtain ⟨h', h3⟩ := ba h
      obtain ⟨h1, h2⟩ := ba h'
      cases of_decide_eq_true h1
      obtain ⟨y, p, rfl, n1, n2, n3, n4⟩ := nam_ok G.names G.sc h3
      exact says_val G (.val (e_lenB G.K (gl_ok G.sc h2) (G.bi _ (by simp [biN])) n1 n2 n3 n4) rfl)
    · cases h
  | .cmpB o j a, _, _, _, _, e, G, h => by
    unfold mE at h
    split at h
    · obtain ⟨h', h4⟩ := ba h
      obtain ⟨h', h3⟩ := ba h'
      obtain ⟨h1, h2⟩ := ba h'
      cases of_decide_eq_true h1
      obtain ⟨y, p, rfl, n1, n2, n3, n4⟩ := nam_ok G.names G.sc h2
      have B := ((mE_ok a G h3).eo1 h3).pe
      exact says_val G (.cmp (e_cmpB G.K G.un n1 n2 n3 n4 B (bnot h4)) (t_cmpB G.K G.un n1 n2 n3 n4 B (bnot h4)) rfl)
    · cases h
  | .ninB a j, _, _, _, _, e, G, h => by
    unfold mE at h
    split at h
    · obtain ⟨h', h3⟩ := ba h
      obtain ⟨h1, h2⟩ := ba h'
      cases of_decide_eq_true h1
      obtain ⟨y, p, rfl, n1, n2, n3, n4⟩ := nam_ok G.names G.sc h3
      have B := ((mE_ok a G h2).eo1 h2).pe
      exact says_val G (.cmp (e_ninB G.K G.un n1 n2 n3 n4 B) (t_ninB G.K G.un n1 n2 n3 n4 B) rfl)
    · cases h
  | .slc a lo hi, _, sc, c, X, e, G, h => by
    unfold mE at h
    split at h
    · obtain ⟨h', h3⟩ := ba h
      obtain ⟨h1, h2⟩ := ba h'
      refine says_val G (.val (e_slc G.K ((mE_ok a G h1).eo1 h1).pe ?_ ?_) rfl)
      · split at h2
        · rw [omit_eq h2]; exact o_none
        · obtain ⟨g1, g2⟩ := ba h2
          exact o_some ((mE_ok lo G g2).eo1 g2).pe (omit_ne g1)
      · split at h3
        · rw [omit_eq h3]; exact o_none
        · obtain ⟨g1, g2⟩ := ba h3
          exact o_some ((mE_ok hi G g2).eo1 g2).pe (omit_ne g1)
    · cases h
  | .rev _, _, _, _, _, e, G, h => by unfold mE at h; cases h
  | .omit, _, _, _, _, e, G, h => by unfold mE at h; cases h
  | .lc it tg own cd el, _, sc, c, X, e, G, h => by
    unfold mE at h
    split at h
    · rename_i elt t iter ifs scope p
      obtain ⟨h', h8⟩ := ba h
      obtain ⟨h', h7⟩ := ba h'
      obtain ⟨h', h6⟩ := ba h'
      obtain ⟨h', h5⟩ := ba h'
      obtain ⟨h', h4⟩ := ba h'
      obtain ⟨h', h3⟩ := ba h'
      obtain ⟨h1, h2⟩ := ba h'
      have bk : BlkOk X.N X.env.scope scope (ownPs M.N own) := by
        rw [G.names, G.sc]
        exact blkOk_by h4
      have ht : ∀ (s : Shared) (H : Hp) (C : Addr) (cl : List (Str × Addr)) (fp : List Addr), PTs (X.blk s H scope (compEnvC scope cl C X.env) fp) ifs (tC2 c.quiet cd) := by
        intro s H C cl fp
        have Gb := G.blk s H scope C cl fp
        split at h8
        · rw [omit_eq h8]; exact c_none
        · obtain ⟨q', q3⟩ := ba h8
          obtain ⟨q', q2⟩ := ba q'
          obtain ⟨q0, q1⟩ := ba q'
          exact c_some (omit_ne q0) (((mE_ok cd Gb q3).eo1 q3).pt q1)
        · cases h8
      have r := pe_lc (own := ownPs M.N own) (pos := p) (g := gTgt c.z.K tg) (tt := tC2 c.quiet cd) (te := tE c.quiet el) G.calm (by rw [G.names]; exact G.nd) ((mE_ok it G h1).it t rfl) bk
        (fun s H C cl fp => by
          have Gb := G.blk s H scope C cl fp
          have := mTg_ok Gb.names G.nd Gb.sc Gb.calm (fun y q => okBlk_ho rfl q) h5
          rw [Gb.K] at this
          exact this)
        ht
        (fun s H C cl fp => by
          have Gb := G.blk s H scope C cl fp
          exact ((mE_ok el Gb h6).eo1 h6).pe)
        (fold_ok h2)
      rw [own_eq] at r
      exact says_val G (.val (PE_weak r fun σ H Q q => lc_read h3 q) rfl)
    · cases h
  | .rng1 a, _, _, _, _, e, G, h => by
    unfold mE at h
    split at h
    · obtain ⟨h', h4⟩ := ba h
      obtain ⟨h', h3⟩ := ba h'
      obtain ⟨h1, h2⟩ := ba h'
      cases of_decide_eq_true h1
      exact says_it rfl fun tg _ => i_rng1 (gl_ok G.sc h2) (G.bi _ (by simp [biN])) ((mE_ok a G h3).eo1 h3).pe (star_ok h4)
    · cases h
  | .rng2 a b, _, _, _, _, e, G, h => by
    unfold mE at h
    split at h
    · obtain ⟨h', h6⟩ := ba h
      obtain ⟨h', h5⟩ := ba h'
      obtain ⟨h', h4⟩ := ba h'
      obtain ⟨h', h3⟩ := ba h'
      obtain ⟨h1, h2⟩ := ba h'
      cases of_decide_eq_true h1
      exact says_it rfl fun tg _ => i_rng2 (gl_ok G.sc h2) (G.bi _ (by simp [biN])) ((mE_ok a G h3).eo1 h3).pe ((mE_ok b G h5).eo1 h5).pe (star2 h4 h6) (star_ok h6)
    · cases h
  | .rng3 a b k, _, _, _, _, e, G, h => by
    unfold mE at h
    split at h
    · obtain ⟨h', h7⟩ := ba h
      obtain ⟨h', h6⟩ := ba h'
      obtain ⟨h', h5⟩ := ba h'
      obtain ⟨h', h4⟩ := ba h'
      obtain ⟨h', h3⟩ := ba h'
      obtain ⟨h1, h2⟩ := ba h'
      cases of_decide_eq_true h1
      cases of_decide_eq_true h7
      exact says_it rfl fun tg _ => i_rng3 (gl_ok G.sc h2) (G.bi _ (by simp [biN])) ((mE_ok a G h3).eo1 h3).pe ((mE_ok b G h5).eo1 h5).pe (star_ok h4) (star_ok h6)
    · cases h
  | .zip a b, _, _, _, _, e, G, h => by
    unfold mE at h
    split at h
    · obtain ⟨h', h6⟩ := ba h
      obtain ⟨h', h5⟩ := ba h'
      obtain ⟨h', h4⟩ := ba h'
      obtain ⟨h', h3⟩ := ba h'
      obtain ⟨h1, h2⟩ := ba h'
      cases of_decide_eq_true h1
      refine says_it rfl fun tg q => ?_
      cases q
      exact i_zip G.K (gl_ok G.sc h2) (G.bi _ (by simp [biN])) ((mE_ok a G h3).eo1 h3).pe ((mE_ok b G h5).eo1 h5).pe (star_ok h4) (star_ok h6)
    · cases h
  | .enm a, _, _, _, _, e, G, h => by
    unfold mE at h
    split at h
    · obtain ⟨h', h4⟩ := ba h
      obtain ⟨h', h3⟩ := ba h'
      obtain ⟨h1, h2⟩ := ba h'
      cases of_decide_eq_true h1
      refine says_it rfl fun tg q => ?_
      cases q
      exact i_enm G.K (gl_ok G.sc h2) (G.bi _ (by simp [biN])) ((mE_ok a G h3).eo1 h3).pe (star_ok h4)
    · cases h
  | .call f xs, _, _, c, X, e, G, h => by
    unfold mE at h
    split at h
    · obtain ⟨h', h5⟩ := ba h
      obtain ⟨h', h4⟩ := ba h'
      obtain ⟨h', h3⟩ := ba h'
      obtain ⟨h1, h2⟩ := ba h'
      cases of_decide_eq_true h1
      have st := mEs_stars h5
      refine says_val G (.val (e_call (G.lk f h2) G.hx (gl_ok G.sc h3) (mEs_ok xs G h5).1 (okN_ok h4).1 (fun q => ?_) (fun a r q => ?_) (fun a r q => ?_)) rfl)
      · subst q
        cases xs with
        | nil => rfl
        | cons x xs => unfold mEs at h5; cases h5
      · subst q
        rw [List.all_cons] at st
        exact star_ok (ba st).1
      · subst q
        rw [List.all_cons] at st
        exact stars_ok (ba st).2
    · cases h
  | .callv f i xs, _, _, c, X, e, G, h => by
    unfold mE at h
    split at h
    · obtain ⟨h', h6⟩ := ba h
      obtain ⟨h', h5⟩ := ba h'
      obtain ⟨h', h4⟩ := ba h'
      obtain ⟨h', h3⟩ := ba h'
      obtain ⟨h1, h2⟩ := ba h'
      cases of_decide_eq_true h1
      obtain ⟨y, p, rfl, n1, n2, n3, n4⟩ := nam_ok G.names G.sc h5
      exact says_val G (.val (e_callv (G.lk f h2) G.hx (gl_ok G.sc h3) (mEs_ok xs G h6).1 (okN_ok h4).1 n1 n2 n3 n4 (stars_ok (mEs_stars h6))) rfl)
    · cases h
  | .bf b xs, _, _, c, X, e, G, h => by
    unfold mE at h
    split at h
    · obtain ⟨h', h3⟩ := ba h
      obtain ⟨h1, h2⟩ := ba h'
      cases of_decide_eq_true h1
      have st := mEs_stars h3
      rw [List.all_cons] at st
      exact says_val G (.val (e_bf G.K G.calm G.un (gl_ok G.sc h2) (G.bi _ (bf_bi b)) (mEs_ok xs G h3).1 (star_ok (ba st).1) (stars_ok (ba st).2)) rfl)
    · cases h
  | .isi a t, _, _, c, X, e, G, h => by
    unfold mE at h
    split at h
    · obtain ⟨h', h7⟩ := ba h
      obtain ⟨h', h6⟩ := ba h'
      obtain ⟨h', h5⟩ := ba h'
      obtain ⟨h', h4⟩ := ba h'
      obtain ⟨h1, h2⟩ := ba h'
      cases of_decide_eq_true h1
      cases of_decide_eq_true h4
      exact says_val G (.val (e_isi G.K (gl_ok G.sc h2) (G.bi _ (by simp [biN])) (gl_ok G.sc h5) (G.bi _ (isi_bi t)) ((mE_ok a G h6).eo1 h6).pe (star_ok h7)) rfl)
    · cases h
  | .mth _ _ _, _, _, _, _, e, G, h => by unfold mE at h; cases h
  | .lam _ _ _, _, _, _, _, e, G, h => by unfold mE at h; cases h
  | .sset a, _, _, _, _, e, G, h => by
    unfold mE at h
    split at h
    · obtain ⟨h', h6⟩ := ba h
      obtain ⟨h', h5⟩ := ba h'
      obtain ⟨h', h4⟩ := ba h'
      obtain ⟨h', h3⟩ := ba h'
      obtain ⟨h1, h2⟩ := ba h'
      cases of_decide_eq_true h1
      cases of_decide_eq_true h2
      exact says_val G (.val (e_sset G.K G.calm (gl_ok G.sc h3) (G.bi _ (by simp [biN])) (gl_ok G.sc h4) (G.bi _ (by simp [biN])) ((mE_ok a G h5).eo1 h5).pe (star_ok h6)) rfl)
    · cases h
  | .lss a, _, _, _, _, e, G, h => by
    unfold mE at h
    split at h
    · obtain ⟨h', h8⟩ := ba h
      obtain ⟨h', h7⟩ := ba h'
      obtain ⟨h', h6⟩ := ba h'
      obtain ⟨h', h5⟩ := ba h'
      obtain ⟨h', h4⟩ := ba h'
      obtain ⟨h', h3⟩ := ba h'
      obtain ⟨h1, h2⟩ := ba h'
      cases of_decide_eq_true h1
      cases of_decide_eq_true h2
      cases of_decide_eq_true h3
      exact says_val G (.val (e_lss G.K G.calm G.un (gl_ok G.sc h4) (G.bi _ (by simp [biN])) (gl_ok G.sc h5) (G.bi _ (by simp [biN])) (gl_ok G.sc h6) (G.bi _ (by simp [biN])) ((mE_ok a G h7).eo1 h7).pe (star_ok h8)) rfl)
    · cases h
theorem mEs_ok : ∀ (xs : Exs) {sc : Scope} {c : Cn} {X : Cx} {es : List Expr}, Gx M c sc X → mEs M xs sc es = true → PA X es (tA c xs) ∧ PA X es (tR c xs)
  | .nil, _, _, _, es, G, h => by
    unfold mEs at h
    split at h
    · exact ⟨a_nil, r_nil⟩
    · cases h
  | .cons x xs, _, _, _, es, G, h => by
    unfold mEs at h
    split at h
    · obtain ⟨h', h4⟩ := ba h
      obtain ⟨h', h3⟩ := ba h'
      obtain ⟨h1, h2⟩ := ba h'
      have A := (mE_ok x G h1).eo1 h1
      have B := mEs_ok xs G h4
      exact ⟨a_cons A.pe B.1 (star_ok h3), r_cons A.pe B.2 (star_ok h3)⟩
    · cases h
end
end
end TB
set_option maxHeartbeats 1000000
/-! Statements that match. -/
namespace TB
open PySem PySem.Spec PyProof.Rows L2
/-! ### stores -/
def fnK (sc : Scope) : Bool := match sc.kind with
  | .function => true
  | _ => false
theorem fnK_ok {sc : Scope} (h : fnK sc = true) : sc.kind = .function := by
  unfold fnK at h
  split at h <;> first | assumption | cases h
/-- a comprehension that is stored under its own names' end -/
def swC (sc : Scope) (v : Expr) (x : Str) (p : Pos) : Bool := match v with
  | .ListComp _ _ scope q => fnK sc && isLoc sc x && (p.line == q.line) && !(scope.names.any fun (n, k) => n == x && (k == .local || k == .cell))
  | _ => false
/-- a value that is stored plainly -/
def swN (sc : Scope) (v : Expr) (x : Str) (p : Pos) : Bool := match v with
  | .ListComp _ _ scope q => fnK sc && !(decide (sc.names.lookup x = some .local) && (p.line == q.line) && !(scope.names.any fun (n, k) => n == x && (k == .local || k == .cell)))
  | .SetComp .. => false
  | .DictComp .. => false
  | _ => true
def starB : Expr → Bool
  | .Starred .. => true
  | _ => false
/-- swappedStores, at a def's names -/
def tsNames (sc : Scope) (line : Nat) (ts : List Expr) : List Str := ts.filterMap fun
  | .Name id pos => if sc.names.lookup id == some .local && pos.line == line then some id else none
  | _ => none
def swP (sc : Scope) (ts vs : List Expr) : Option (Option (List Str)) :=
  if !(ts.length == 2 || ts.length == 3) || vs.length != ts.length then some none
  else if !fnK sc then none
  else if vs.any starB then none
  else if (tsNames sc ((ts.head?.map (·.pos.line)).getD 0) ts).length != ts.length || (tsNames sc ((ts.head?.map (·.pos.line)).getD 0) ts).eraseDups.length != (tsNames sc ((ts.head?.map (·.pos.line)).getD 0) ts).length then some none
  else if vs.all (foldedForSure 8) then some none
  else if vs.all (constantsAlone 8) then none
  else some (some (tsNames sc ((ts.head?.map (·.pos.line)).getD 0) ts))
section
variable {sc : Scope} {env : Env} {v e : Expr} {x : Str} {p pos : Pos}
theorem blk_fn (hs : env.scope = sc) (h : fnK sc = true) : env.blockKind = .function := by
  unfold Env.blockKind
  rw [hs, fnK_ok h]
  rfl
theorem swC_ok {l : Nat} (hs : env.scope = sc) (h : swC sc v x p = true) : swapsWith v (some (.Name x p)) l env = pure true := by
  unfold swC at h
  split at h
  · obtain ⟨h', h4⟩ := ba h
    obtain ⟨h', h3⟩ := ba h'
    obtain ⟨h1, h2⟩ := ba h'
    exact sw_true (by rw [hs]; exact fnK_ok h1) (by rw [hs]; exact isLoc_ok h2) h3 (bnot h4)
  · cases h
theorem swN_ok {l : Nat} (hs : env.scope = sc) (h : swN sc v x p = true) : swapsWith v (some (.Name x p)) l env = pure false := by
  cases v with
  | ListComp elt gs scope q =>
    obtain ⟨h1, h2⟩ := ba (show (fnK sc && !(decide (sc.names.lookup x = some .local) && (p.line == q.line) && !(scope.names.any fun (n, k) => n == x && (k == .local || k == .cell)))) = true from h)
    have hb := blk_fn hs h1
    have ky : env.kindOf x = sc.names.lookup x := by unfold Env.kindOf; rw [hs]
    unfold swapsWith
    simp only [hb, ky, Expr.pos]
    have h3 := bnot h2
    rw [← h3]
    by_cases q : sc.names.lookup x = some .local
    · simp [q]
    · have : (sc.names.lookup x == some NameKind.local) = false := by
        cases r : sc.names.lookup x with
        | none => rfl
        | some k =>
          rw [r] at q
          cases k <;> first | rfl | exact absurd rfl q
      simp [this, q]
  | _ => first | rfl | cases h
theorem swNone_ok {l : Nat} (h : notComp v = true) : swapsWith v none l env = pure false := by
  cases v <;> first | rfl | cases h
theorem swT_ok {l : Nat} {t : Expr} (h : notComp v = true) : swapsWith v (some t) l env = pure false := by
  cases v <;> first | rfl | cases h
theorem tsNames_eq {line : Nat} (hs : env.scope = sc) (ts : List Expr) : (ts.filterMap fun
    | .Name id pos => if env.kindOf id == some .local && pos.line == line then some id else none
    | _ => none) = tsNames sc line ts := by
  unfold Env.kindOf
  rw [hs]
  rfl
theorem swP_ok {ts vs : List Expr} {k k2 : Nat} {p1 p2 : Pos} {r : Option (List Str)} (hs : env.scope = sc) (h : swP sc ts vs = some r) : swappedStores [.Tuple ts k p1] (.Tuple vs k2 p2) env = pure r := by
  unfold swP at h
  generalize hl : (ts.head?.map (·.pos.line)).getD 0 = line at h
  have hn : (ts.filterMap fun
    | .Name id pos => if env.kindOf id == some .local && pos.line == (ts.head?.map (·.pos.line)).getD 0 then some id else none
    | _ => none) = tsNames sc line ts := by
    rw [hl]
    exact tsNames_eq hs ts
  unfold swappedStores
  have key : ∀ (ns : List Str), (ts.filterMap fun
    | .Name id pos => if env.kindOf id == some .local && pos.line == (ts.head?.map (·.pos.line)).getD 0 then some id else none
    | _ => none) = ns → ∀ {α : Type} (k : List Str → α), k (ts.filterMap fun
    | .Name id pos => if env.kindOf id == some .local && pos.line == (ts.head?.map (·.pos.line)).getD 0 then some id else none
    | _ => none) = k ns := fun ns e _ k => congrArg k e
  refine (key _ hn fun ns => if (!(ts.length == 2 || ts.length == 3) || vs.length != ts.length || env.blockKind != ScopeKind.function) = true then pure none else if (vs.any starB) = true then pure none else
    if (ns.length != ts.length || ns.eraseDups.length != ns.length) = true then pure none else if vs.all (foldedForSure 8) = true then pure none else if vs.all (constantsAlone 8) = true then (do
      unsupported "assign.tuple-of-constant-expressions:order-of-the-stores"
      pure (some ns)) else pure (some ns)).trans ?_
  by_cases c1 : (!(ts.length == 2 || ts.length == 3) || vs.length != ts.length) = true
  · rw [if_pos c1] at h
    cases h
    rw [if_pos (by rw [c1]; rfl)]
  · rw [if_neg c1] at h
    by_cases c2 : (!fnK sc) = true
    · rw [if_pos c2] at h; cases h
    · rw [if_neg c2] at h
      have hb := blk_fn (env := env) hs (by simpa using c2)
      rw [if_neg (by rw [hb]; simpa using c1)]
      split at h
      · cases h
      · rename_i c3
        rw [if_neg c3]
        split at h
        · cases h
          rename_i c4
          rw [if_pos c4]
        · rename_i c4
          rw [if_neg c4]
          split at h
          · cases h
            rename_i c5
            rw [if_pos c5]
          · rename_i c5
            rw [if_neg c5]
            split at h
            · cases h
            · cases h
              rename_i c6
              rw [if_neg c6]
theorem swTup_ok {t : List Expr} {k : Nat} {p1 : Pos} (h : notTup v = true) : swappedStores [.Tuple t k p1] v env = pure none := by
  cases v <;> first | rfl | cases h
theorem swSub_ok {a b : Expr} {p1 : Pos} : swappedStores [.Subscript a b p1] v env = pure none := by
  cases v <;> rfl
theorem asg_sub {a b : Expr} {p1 : Pos} (h : plainB b = true) : ∀ w, assign (.Subscript a b p1) env w = (do
      let ov ← holding [w] (eval a env)
      let iv ← holding [w, ov] (eval b env)
      standAt p1
      holding [w, ov, iv] (setItem ov iv w)
      release [w, ov, iv] []) := by
  intro w
  cases b <;> first | rfl | cases h
end
end TB
set_option maxHeartbeats 1000000
/-! Bodies that match. -/
namespace TB
open PySem PySem.Spec PyProof.Rows L2
/-! ### own exceptions over ValueError, raised with a text -/
def excBm : List Value := [.type "ValueError", .type "Exception", .type "BaseException", .type "object"]
structure ExcK (K : PySem.W.Frag) (C : Addr) : Prop where
  ex : PySem.W.excIn K C excBm "ValueError.__new__" = true
  kp : PySem.W.keepIn K (.ref C) = true
  bs : PySem.W.subIn K (.ref C) (.type "BaseException") = some true
  ty : PySem.W.typeIn K (.ref C) = some (.type "type")
theorem s_raise {c : Cn} {X : Cx} {x m : Str} {C : Addr} {j : Nat} {p p2 q pos : Pos} (hc : X.calm = true) (tk : Takes X fun cls d _ H => c.E cls d H) (hm : X.mg x = some (.ref C)) (hx : c.xa x = some C) (e : ExcK X.K C) (hg : Gl X x) (hd : (x == ("__debug__" : Str)) = false) :
    PS X (.Raise (some (.Call (.Name x p) [.Constant (.str m) j p2] [] q)) none pos) (tS c (.raise x m)) := by
  refine PS_weak (ps_raise hc tk (pmk_own PySem.F.excBase_ValueError e.ex hm e.kp (raises_own e.bs e.ty) hg hd)) fun D σ H ⟨g, F, S, P⟩ => ?_
  unfold exS at P
  exact P (.ref C) none H F S.G ⟨C, hx, rfl, rfl⟩
section
variable {c : Cn} {X : Cx} {e1 e2 e3 : Expr} {pos : Pos}
theorem s_par3 {i j l : Nat} {x y z : Str} {xs : Exs} {px py pz pt pt2 : Pos} {kt k2 : Nat} (hc : X.calm = true) (hN : X.N.Nodup) (hi : X.N[i]? = some x) (hj : X.N[j]? = some y) (hl : X.N[l]? = some z) (hij : i ≠ j) (hil : i ≠ l) (hjl : j ≠ l) (hx : X.env.scope.names.lookup x = some .local) (hy : X.env.scope.names.lookup y = some .local) (hz : X.env.scope.names.lookup z = some .local) (h : PA X [e1, e2, e3] (tR c xs))
    (hw : swappedStores [.Tuple [.Name x px, .Name y py, .Name z pz] kt pt] (.Tuple [e1, e2, e3] k2 pt2) X.env = pure (some [x, y, z])) :
    PS X (.Assign [.Tuple [.Name x px, .Name y py, .Name z pz] kt pt] (.Tuple [e1, e2, e3] k2 pt2) pos) (tS c (.par [i, j, l] xs)) := by
  refine PS_weak (ps_par3 hc hN hi hj hl hij hil hjl hx hy hz h hw) fun D σ H q => ?_
  obtain ⟨g, F, S, P⟩ := par_read q
  refine ⟨g, F, S, P.mono fun rs g' z vs H1 F1 S1 T1 R1 => ?_⟩
  obtain ⟨el, v, r, e1, w, r2, e2, u, r3, e3, e4, q⟩ := z vs H1 F1 S1 T1 R1
  subst e1 e2 e3 e4
  exact ⟨v, w, u, rfl, q⟩
end
/-- two or three names that are stored from the right -/
def par2B (N : List Str) (sc : Scope) : List Nat → List Expr → List Str → Bool
  | [i, j], [.Name x _, .Name y _], ns => decide (ns = [x, y]) && decide (N[i]? = some x) && decide (N[j]? = some y) && decide (i ≠ j) && isLoc sc x && isLoc sc y
  | [i, j, l], [.Name x _, .Name y _, .Name z _], ns => decide (ns = [x, y, z]) && decide (N[i]? = some x) && decide (N[j]? = some y) && decide (N[l]? = some z) && decide (i ≠ j) && decide (i ≠ l) && decide (j ≠ l) && isLoc sc x && isLoc sc y && isLoc sc z
  | _, _, _ => false
section
variable (M : Mc)
mutual
def mS : Sm → Scope → Stmt → Bool
  | .pass, _, s => match s with
    | .Pass _ => true
    | .Expr (.Constant (.str _) _ _) _ => true
    | _ => false
  | .nev, _, _ => true
  | .asg i e, sc, s => match s with
    | .Assign [.Name x p1] v _ => decide (M.N[i]? = some x) && locB sc x && mE M e none sc v && (swN sc v x p1 || swC sc v x p1)
    | _ => false
  | .unp is e, sc, s => match s with
    | .Assign [.Tuple es _ _] v _ => tgRow locB M.N sc is es && mE M e none sc v && notTup v && notComp v
    | _ => false
  | .par is xs, sc, s => match s with
    | .Assign [.Tuple ts _ _] (.Tuple es _ _) _ => mEs M xs sc es && decide (is.length ≤ 1000) && (match swP sc ts es with
      | some none => tgRow locB M.N sc is ts
      | some (some ns) => par2B M.N sc is ts ns
      | none => false)
    | _ => false
  | .app i e, sc, s => match s with
    | .Expr (.Call (.Attribute n m apos) [a] [] p2) _ => decide (m = ("append" : Str)) && nam M.N sc i n && mE M e none sc a && notStar a && (apos.endLine == p2.line)
    | _ => false
  | .ext i e, sc, s => match s with
    | .Expr (.Call (.Attribute n m apos) [a] [] p2) _ => decide (m = ("extend" : Str)) && nam M.N sc i n && mE M e none sc a && notStar a && (apos.endLine == p2.line)
    | _ => false
  | .popS i, sc, s => match s with
    | .Expr (.Call (.Attribute n m apos) [] [] p2) _ => decide (m = ("pop" : Str)) && nam M.N sc i n && (apos.endLine == p2.line)
    | _ => false
  | .set i k e, sc, s => match s with
    | .Assign [.Subscript n k' _] v _ => nam M.N sc i n && mE M k none sc k' && plainB k' && mE M e none sc v && notComp v
    | _ => false
  | .ex e, sc, s => match s with
    | .Expr v _ => mE M e none sc v && notComp v
    | _ => false
  | .ret e, sc, s => match s with
    | .Return (some v) _ => mE M e none sc v
    | _ => false
  | .retN, _, s => match s with
    | .Return none _ => true
    | _ => false
  | .ife t a b, sc, s => match s with
    | .If t' a' b' _ => ptOk t && mE M t none sc t' && mSs a sc a' && mSs b sc b'
    | _ => false
  | .for it tg b, sc, s => match s with
    | .For te iter body [] _ => mE M it (some te) sc iter && notSet iter && mTg locB M.N sc tg te && mSs b sc body
    | _ => false
  | .whl t b, sc, s => match s with
    | .While t' body [] _ => ptOk t && mE M t none sc t' && mSs b sc body
    | _ => false
  | .brk, _, s => match s with
    | .Break _ => true
    | _ => false
  | .raise y m, sc, s => match s with
    | .Raise (some (.Call (.Name x _) [.Constant (.str m') _ _] [] _)) none _ => decide (x = y) && decide (m' = m) && M.rc x && glB sc x && okN x
    | _ => false
  | .raiseL _ _, _, _ => false
def mSs : Sms → Scope → List Stmt → Bool
  | .nil, _, ss => match ss with
    | [] => true
    | _ => false
  | .cons s r, sc, ss => match ss with
    | t :: rest => mS s sc t && mSs r sc rest
    | _ => false
end
end
theorem swSole_ok {v t : Expr} {l : Nat} {env : Env} (h : notComp v = true) : swapsWithSole [t] v l env = pure false := by
  cases v <;> first | rfl | cases h
/-- what stands around a def's statements -/
structure Gs (M : Mc) (c : Cn) (sc : Scope) (X : Cx) : Prop extends Gx M c sc X where
  fn : ∀ x, X.fn x = true
  rc : ∀ x, M.rc x = true → ∃ C, X.mg x = some (.ref C) ∧ c.xa x = some C ∧ ExcK X.K C
  tk : Takes X fun cls d _ H => c.E cls d H
  own : PassesOwn (model X.prog X.w) X.A X.env X.xe
section
variable {M : Mc} {sc : Scope} {c : Cn} {X : Cx}
theorem Gs.ho (G : Gs M c sc X) {y : Str} (h : locB sc y = true) : L2.Loc sc y ∧ (X.fn y = true ∨ sc.names.lookup y = some .local) := ⟨loc_ok h, .inl (G.fn y)⟩
theorem Gs.nds (G : Gs M c sc X) : X.N.Nodup := by rw [G.names]; exact G.nd
/-- a comprehension, stored -/
theorem lc_set (G : Gs M c sc X) {i : Nat} {y : Str} {py p spos : Pos} {it cd el : Ex} {tg : Tg} {own : List Nat} {elt t iter : Expr} {ifs : List Expr} {scope : Scope} (hy : X.N[i]? = some y) (hyl : sc.names.lookup y = some .local)
    (hsw : swapsWith (.ListComp elt [⟨t, iter, ifs, 0⟩] scope p) (some (.Name y py)) spos.line X.env = pure true) (h : mE M (.lc it tg own cd el) none sc (.ListComp elt [⟨t, iter, ifs, 0⟩] scope p) = true) :
    PS X (.Assign [.Name y py] (.ListComp elt [⟨t, iter, ifs, 0⟩] scope p) spos) (tS c (.asg i (.lc it tg own cd el))) := by
  unfold mE at h
  obtain ⟨h', h8⟩ := ba h
  obtain ⟨h', h7⟩ := ba h'
  obtain ⟨h', h6⟩ := ba h'
  obtain ⟨h', h5⟩ := ba h'
  obtain ⟨h', h4⟩ := ba h'
  obtain ⟨h', h3⟩ := ba h'
  obtain ⟨h1, h2⟩ := ba h'
  have bk : BlkOk X.N X.env.scope scope (ownPs M.N own) := by
    rw [G.names, G.sc]
    exact blkOk_by h4
  have ht : ∀ (s : Shared) (H : Hp) (C : Addr) (cl : List (Str × Addr)) (fp : List Addr), PTs (X.blk s H scope (compEnvC scope cl C X.env) fp) ifs (tC2 c.quiet cd) := by
    intro s H C cl fp
    have Gb := G.toGx.blk s H scope C cl fp
    split at h8
    · rw [omit_eq h8]; exact c_none
    · obtain ⟨q', q3⟩ := ba h8
      obtain ⟨q', q2⟩ := ba q'
      obtain ⟨q0, q1⟩ := ba q'
      exact c_some (omit_ne q0) (((mE_ok cd Gb q3).eo1 q3).pt q1)
    · cases h8
  have r := ps_setLc (own := ownPs M.N own) (pos := p) (g := gTgt c.z.K tg) (tt := tC2 c.quiet cd) (te := tE c.quiet el) G.calm G.nds hy (by rw [G.sc]; exact hyl) hsw ((mE_ok it G.toGx h1).it t rfl) bk
    (fun s H C cl fp => by
      have Gb := G.toGx.blk s H scope C cl fp
      have := mTg_ok Gb.names G.nd Gb.sc Gb.calm (fun y q => okBlk_ho rfl q) h5
      rw [Gb.K] at this
      exact this)
    ht
    (fun s H C cl fp => by
      have Gb := G.toGx.blk s H scope C cl fp
      exact ((mE_ok el Gb h6).eo1 h6).pe)
    (fold_ok h2)
  rw [own_eq] at r
  exact PS_weak r fun D σ H q => asg_read (fun Q z => lc_read h3 z) q
theorem asg_ok (G : Gs M c sc X) {i : Nat} {e : Ex} {x : Str} {v : Expr} {p1 pos : Pos} (hN : X.N[i]? = some x) (hl : locB sc x = true) (h : mE M e none sc v = true) (hs : (swN sc v x p1 || swC sc v x p1) = true) : PS X (.Assign [.Name x p1] v pos) (tS c (.asg i e)) := by
  rcases Bool.or_eq_true_iff.mp hs with hs | hs
  · exact s_asg G.nds hN (by rw [G.sc]; exact loc_ok hl) ((mE_ok e G.toGx h).eo1 h).pe (swN_ok G.sc hs) (.inl (G.fn x))
  · have hw := swC_ok (l := pos.line) G.sc hs
    have hx : sc.names.lookup x = some .local := by
      unfold swC at hs
      split at hs
      · obtain ⟨h', h4⟩ := ba hs
        obtain ⟨h', h3⟩ := ba h'
        exact isLoc_ok (ba h').2
      · cases hs
    cases v with
    | ListComp elt gs scope q =>
      cases e with
      | lc it tg own cd el =>
        cases gs with
        | nil => unfold mE at h; cases h
        | cons g gs =>
          have hg : ∃ t iter ifs, g = ⟨t, iter, ifs, 0⟩ ∧ gs = [] := by
            unfold mE at h
            split at h
            · rename_i q
              cases q
              exact ⟨_, _, _, rfl, rfl⟩
            · cases h
          obtain ⟨t, iter, ifs, rfl, rfl⟩ := hg
          exact lc_set G hN hx hw h
      | rng1 a => unfold mE at h; cases h
      | rng2 a b => unfold mE at h; cases h
      | zip a b => unfold mE at h; cases h
      | enm a => unfold mE at h; cases h
      | loc i => unfold mE nam at h; cases h
      | _ => unfold mE at h; cases h
    | _ => cases hs
theorem par_ok (G : Gs M c sc X) {is : List Nat} {xs : Exs} {ts es : List Expr} {k k2 : Nat} {p1 p2 pos : Pos} (h : mEs M xs sc es = true) (hl : is.length ≤ 1000) (hs : (match swP sc ts es with
      | some none => tgRow locB M.N sc is ts
      | some (some ns) => par2B M.N sc is ts ns
      | none => false) = true) : PS X (.Assign [.Tuple ts k p1] (.Tuple es k2 p2) pos) (tS c (.par is xs)) := by
  have A := (mEs_ok xs G.toGx h).2
  split at hs
  · rename_i q
    exact s_par G.K G.nds G.calm A hl (tgRow_ok G.names G.sc (fun y q => G.ho q) hs) rfl (swP_ok G.sc q) rfl
  · rename_i ns q
    have hw := swP_ok (k := k) (k2 := k2) (p1 := p1) (p2 := p2) G.sc q
    unfold par2B at hs
    split at hs
    · obtain ⟨h', h6⟩ := ba hs
      obtain ⟨h', h5⟩ := ba h'
      obtain ⟨h', h4⟩ := ba h'
      obtain ⟨h', h3⟩ := ba h'
      obtain ⟨h1, h2⟩ := ba h'
      cases of_decide_eq_true h1
      have h2 := of_decide_eq_true h2
      have h3 := of_decide_eq_true h3
      rw [← G.names] at h2 h3
      have l2 : es.length = 2 := by
        unfold swP at q
        split at q
        · cases q
        · rename_i q0
          simp at q0
          omega
      match es, l2 with
      | [a, b], _ => exact s_par2 G.calm G.nds h2 h3 (of_decide_eq_true h4) (by rw [G.sc]; exact isLoc_ok h5) (by rw [G.sc]; exact isLoc_ok h6) A hw
    · obtain ⟨h', h10⟩ := ba hs
      obtain ⟨h', h9⟩ := ba h'
      obtain ⟨h', h8⟩ := ba h'
      obtain ⟨h', h7⟩ := ba h'
      obtain ⟨h', h6⟩ := ba h'
      obtain ⟨h', h5⟩ := ba h'
      obtain ⟨h', h4⟩ := ba h'
      obtain ⟨h', h3⟩ := ba h'
      obtain ⟨h1, h2⟩ := ba h'
      cases of_decide_eq_true h1
      have h2 := of_decide_eq_true h2
      have h3 := of_decide_eq_true h3
      have h4 := of_decide_eq_true h4
      rw [← G.names] at h2 h3 h4
      have l2 : es.length = 3 := by
        unfold swP at q
        split at q
        · cases q
        · rename_i q0
          simp at q0
          omega
      match es, l2 with
      | [a, b, d], _ => exact s_par3 G.calm G.nds h2 h3 h4 (of_decide_eq_true h5) (of_decide_eq_true h6) (of_decide_eq_true h7) (by rw [G.sc]; exact isLoc_ok h8) (by rw [G.sc]; exact isLoc_ok h9) (by rw [G.sc]; exact isLoc_ok h10) A hw
    · cases hs
  · cases hs
end
section
variable {M : Mc}
mutual
theorem mS_ok : ∀ (s : Sm) {sc : Scope} {c : Cn} {X : Cx} {st : Stmt}, Gs M c sc X → mS M s sc st = true → PS X st (tS c s)
  | .pass, _, _, _, _, G, h => by
    unfold mS at h
    split at h
    · exact s_pass
    · exact s_doc
    · cases h
  | .nev, _, _, _, _, G, h => s_nev
  | .asg i e, _, _, _, _, G, h => by
    unfold mS at h
    split at h
    · obtain ⟨h', h4⟩ := ba h
      obtain ⟨h', h3⟩ := ba h'
      obtain ⟨h1, h2⟩ := ba h'
      exact asg_ok G (by rw [G.names]; exact of_decide_eq_true h1) h2 h3 h4
    · cases h
  | .unp is e, _, _, _, _, G, h => by
    unfold mS at h
    split at h
    · obtain ⟨h', h4⟩ := ba h
      obtain ⟨h', h3⟩ := ba h'
      obtain ⟨h1, h2⟩ := ba h'
      exact s_unp G.K G.nds G.calm ((mE_ok e G.toGx h2).eo1 h2).pe (tgRow_ok G.names G.sc (fun y q => G.ho q) h1) (swSole_ok h4) (swTup_ok h3) rfl
    · cases h
  | .par is xs, _, _, _, _, G, h => by
    unfold mS at h
    split at h
    · obtain ⟨h', h3⟩ := ba h
      obtain ⟨h1, h2⟩ := ba h'
      exact par_ok G h1 (of_decide_eq_true h2) h3
    · cases h
  | .app i e, _, _, _, _, G, h => by
    unfold mS at h
    split at h
    · obtain ⟨h', h5⟩ := ba h
      obtain ⟨h', h4⟩ := ba h'
      obtain ⟨h', h3⟩ := ba h'
      obtain ⟨h1, h2⟩ := ba h'
      cases of_decide_eq_true h1
      obtain ⟨y, p, rfl, n1, n2, n3, n4⟩ := nam_ok G.names G.sc h2
      exact s_app G.K n1 n2 n3 n4 ((mE_ok e G.toGx h3).eo1 h3).pe (star_ok h4) h5
    · cases h
  | .ext i e, _, _, _, _, G, h => by
    unfold mS at h
    split at h
    · obtain ⟨h', h5⟩ := ba h
      obtain ⟨h', h4⟩ := ba h'
      obtain ⟨h', h3⟩ := ba h'
      obtain ⟨h1, h2⟩ := ba h'
      cases of_decide_eq_true h1
      obtain ⟨y, p, rfl, n1, n2, n3, n4⟩ := nam_ok G.names G.sc h2
      exact s_ext G.K n1 n2 n3 n4 ((mE_ok e G.toGx h3).eo1 h3).pe (star_ok h4) h5
    · cases h
  | .popS i, _, _, _, _, G, h => by
    unfold mS at h
    split at h
    · obtain ⟨h', h3⟩ := ba h
      obtain ⟨h1, h2⟩ := ba h'
      cases of_decide_eq_true h1
      obtain ⟨y, p, rfl, n1, n2, n3, n4⟩ := nam_ok G.names G.sc h2
      exact s_popS G.K n1 n2 n3 n4 h3
    · cases h
  | .set i k e, _, _, _, _, G, h => by
    unfold mS at h
    split at h
    · obtain ⟨h', h5⟩ := ba h
      obtain ⟨h', h4⟩ := ba h'
      obtain ⟨h', h3⟩ := ba h'
      obtain ⟨h1, h2⟩ := ba h'
      obtain ⟨y, p, rfl, n1, n2, n3, n4⟩ := nam_ok G.names G.sc h1
      exact s_set n1 n2 n3 n4 ((mE_ok e G.toGx h4).eo1 h4).pe ((mE_ok k G.toGx h2).eo1 h2).pe (asg_sub h3) (swSole_ok h5) swSub_ok rfl
    · cases h
  | .ex e, _, _, _, _, G, h => by
    unfold mS at h
    split at h
    · obtain ⟨h1, h2⟩ := ba h
      exact s_ex ((mE_ok e G.toGx h1).eo1 h1).pe (swNone_ok h2)
    · cases h
  | .ret e, _, _, _, _, G, h => by
    unfold mS at h
    split at h
    · exact s_ret ((mE_ok e G.toGx h).eo1 h).pe
    · cases h
  | .retN, _, _, _, _, G, h => by
    unfold mS at h
    split at h
    · exact s_retN
    · cases h
  | .ife t a b, _, _, _, _, G, h => by
    unfold mS at h
    split at h
    · obtain ⟨h', h4⟩ := ba h
      obtain ⟨h', h3⟩ := ba h'
      obtain ⟨h1, h2⟩ := ba h'
      exact s_ife (((mE_ok t G.toGx h2).eo1 h2).pt h1) (mSs_ok a G h3) (mSs_ok b G h4)
    · cases h
  | .for it tg b, _, _, _, _, G, h => by
    unfold mS at h
    split at h
    · obtain ⟨h', h4⟩ := ba h
      obtain ⟨h', h3⟩ := ba h'
      obtain ⟨h1, h2⟩ := ba h'
      have g := mTg_ok G.names G.nd G.sc G.calm (fun y q => G.ho q) h3
      rw [G.K] at g
      exact s_for G.own G.calm ((mE_ok it G.toGx h1).it _ rfl) g (mSs_ok b G h4) (fold_ok h2)
    · cases h
  | .whl t b, _, _, _, _, G, h => by
    unfold mS at h
    split at h
    · obtain ⟨h', h3⟩ := ba h
      obtain ⟨h1, h2⟩ := ba h'
      exact s_whl G.own (((mE_ok t G.toGx h2).eo1 h2).pt h1) (mSs_ok b G h3)
    · cases h
  | .brk, _, _, _, _, G, h => by
    unfold mS at h
    split at h
    · exact s_brk
    · cases h
  | .raise y m, _, _, _, _, G, h => by
    unfold mS at h
    split at h
    · obtain ⟨h', h5⟩ := ba h
      obtain ⟨h', h4⟩ := ba h'
      obtain ⟨h', h3⟩ := ba h'
      obtain ⟨h1, h2⟩ := ba h'
      cases of_decide_eq_true h1
      cases of_decide_eq_true h2
      obtain ⟨C, q1, q2, q3⟩ := G.rc _ h3
      exact s_raise G.calm G.tk q1 q2 q3 (gl_ok G.sc h4) (okN_ok h5).1
    · cases h
  | .raiseL _ _, _, _, _, _, G, h => by unfold mS at h; cases h
theorem mSs_ok : ∀ (s : Sms) {sc : Scope} {c : Cn} {X : Cx} {st : List Stmt}, Gs M c sc X → mSs M s sc st = true → PSs X st (tSs c s)
  | .nil, _, _, _, _, G, h => by
    unfold mSs at h
    split at h
    · exact b_nil
    · cases h
  | .cons s r, _, _, _, _, G, h => by
    unfold mSs at h
    split at h
    · obtain ⟨h1, h2⟩ := ba h
      exact b_cons (mS_ok s G h1) (mSs_ok r G h2)
    · cases h
end
end
end TB
set_option maxHeartbeats 1000000
/-! Defs: each keeps what the interpreter's run says of it, as deep as there is room. -/
namespace TB
open PySem PySem.Spec PyProof.Rows L2
def BindOk (params : Arguments) (ps : List Str) : Prop := ∀ (x qual : Str) (body : List Stmt) (scope : Scope) (kV doc pm : Value) (an : Option Addr) (cdv ct : Value) (us : List Value), us.length = ps.length → bindArgs (PySem.W.fnOf x qual params body scope .none kV doc pm an cdv ct) ⟨us, []⟩ = pure (ps.zip us)
def ioN (b : Bool) : Nat := match b with
  | true => 1
  | false => 0
def Mc.at (M : Mc) (N : List Str) : Mc := { M with N := N }
/-- the defs of a text, linked -/
structure LkD (K : PySem.W.Frag) (mg : Str → Option Value) (M : Mc) (T : Tx) (xa : Str → Option Addr) : Prop where
  defs : ∀ f d, T.D f = some d → ∃ x params body scope N ps fa fd, mg (M.nm f) = some (.ref fa) ∧ FunD K x x params body scope [] [] fa fd ∧ BindOk params ps ∧ FnScope N ps scope ∧ N.length = d.n ∧ ps.length = ioN d.io + d.ps ∧ mSs (M.at N) d.body scope body = true
  lk : ∀ f, M.lk f = true → (T.D f).isSome = true
  bi : ∀ x ∈ biN, mg x = none
  gc : ∀ n x, M.gc n x = true → ∃ d v u, T.gl n = some d ∧ mg x = some u ∧ RelV v u ∧ ∀ F, Rp K F v d
  rc : ∀ x, M.rc x = true → ∃ C, mg x = some (.ref C) ∧ xa x = some C ∧ ExcK K C
section
variable {z : Zc} {H F : Hp} {d : Df}
theorem start_val : ∀ {ds : List PyData} {vs : List V} {n m : Nat} {i : Nat} {e : PyData}, RpA z.K F vs ds → (ds.map Sl.val ++ List.replicate n Sl.no)[i]? = some (.val e) → ∃ v, (vs.map some ++ List.replicate m none)[i]? = some (some v) ∧ Rp z.K F v e := by
  intro ds vs n m i e r h
  by_cases hi : i < ds.length
  · rw [List.getElem?_append_left (by simpa using hi), List.getElem?_map] at h
    cases q : ds[i]? with
    | none => rw [q] at h; cases h
    | some e' =>
      rw [q] at h
      cases h
      obtain ⟨v, h1, h2⟩ := r.get q
      refine ⟨v, ?_, h2⟩
      rw [List.getElem?_append_left (by rw [List.length_map, r.length]; exact hi), List.getElem?_map, h1]
      rfl
  · rw [List.getElem?_append_right (by simpa using hi), List.getElem?_replicate] at h
    split at h <;> cases h
theorem start_no {ds : List PyData} {n i : Nat} : (∀ xs, (ds.map Sl.val ++ List.replicate n Sl.no)[i]? ≠ some (.own xs)) ∧ ∀ xs, (ds.map Sl.val ++ List.replicate n Sl.no)[i]? ≠ some (.io xs) := by
  have key : ∀ s, (ds.map Sl.val ++ List.replicate n Sl.no)[i]? = some s → (∃ e, s = .val e) ∨ s = .no := by
    intro s h
    have := List.mem_of_getElem? h
    rw [List.mem_append] at this
    rcases this with q | q
    · rw [List.mem_map] at q
      obtain ⟨e, _, rfl⟩ := q
      exact .inl ⟨e, rfl⟩
    · exact .inr (List.eq_of_mem_replicate q)
  refine ⟨fun xs h => ?_, fun xs h => ?_⟩
  · rcases key _ h with ⟨e, q⟩ | q <;> cases q
  · rcases key _ h with ⟨e, q⟩ | q <;> cases q
theorem grow_start {K : PySem.W.Frag} {tb : List (Addr × Str)} {ioa : Option Addr} (sb : Sub F H) (nt : ∀ a ps, F a ≠ some (.tbl ps)) (tbs : LamX.Tabs tb H) : Grow (zAt K tb H F ioa) H F where
  le := sb
  nt := nt
  gr := Sub.refl F
  kp := fun _ _ h _ _ => h
  nw := fun _ _ h => h
  al := fun _ h => h
  tb := tbs
/-- the entry of a def -/
theorem sim_start {K : PySem.W.Frag} {tb : List (Addr × Str)} {N : List Str} {vs : List V} {ds : List PyData} {io : Option (List PyData)} {ioa : Option Addr} {g : Gm} (sb : Sub F H) (nt : ∀ a ps, F a ≠ some (.tbl ps)) (tbs : LamX.Tabs tb H)
    (r : ArgRep K F H vs ds io ioa) (h : startG d ds io = some g) (hn : N.length = d.n) (hv : vs.length ≤ N.length) : Sim (zAt K tb H F ioa) g (start N vs) H F := by
  have G := grow_start (K := K) (ioa := ioa) sb nt tbs
  unfold startG at h
  split at h
  · rename_i hl
    cases r with
    | plain r =>
      have hg : g = ds.map Sl.val ++ List.replicate (d.n - ds.length) Sl.no := by
        cases q : d.io with
        | true => rw [q] at h; cases h
        | false => rw [q] at h; exact (Option.some.inj h).symm
      subst hg
      have el := r.length
      refine ⟨G, ?_, fun i e q => start_val (z := zAt K tb H F none) r q, fun i xs q => absurd q ((start_no).1 xs), fun i xs q => absurd q ((start_no).2 xs), fun a q => (by cases q), fun i j a q => ?_⟩
      · unfold L2.start
        simp only [List.length_append, List.length_map, List.length_replicate]
        omega
      · rcases q with ⟨xs, q⟩ | ⟨xs, q⟩
        · exact absurd q ((start_no).1 xs)
        · exact absurd q ((start_no).2 xs)
    | @lent a vs ws ds xs ha hw hx hf r =>
      have hg : g = Sl.io xs :: (ds.map Sl.val ++ List.replicate (d.n - (ds.length + 1)) Sl.no) := by
        cases q : d.io with
        | false => rw [q] at h; cases h
        | true => rw [q] at h; exact (Option.some.inj h).symm
      subst hg
      have el := r.length
      have hs : start N (V.ref a :: vs) = some (V.ref a) :: (vs.map some ++ List.replicate (N.length - (vs.length + 1)) none) := rfl
      have h0 : (start N (V.ref a :: vs))[0]? = some (some (V.ref a)) := rfl
      have own : OwnAt K H F (start N (V.ref a :: vs)) 0 a xs := ⟨h0, ⟨ws, ha, hw, hx⟩, hf⟩
      refine ⟨G, ?_, fun i e q => ?_, fun i ys q => ?_, fun i ys q => ?_, fun b q => ?_, fun i j b q1 q2 s1 s2 => ?_⟩
      · rw [hs]
        simp only [List.length_cons, List.length_append, List.length_map, List.length_replicate] at hv ⊢
        omega
      · cases i with
        | zero => cases q
        | succ i =>
          obtain ⟨v, v1, v2⟩ := start_val (z := zAt K tb H F (some a)) (m := N.length - (vs.length + 1)) r q
          exact ⟨v, v1, v2⟩
      · cases i with
        | zero => cases q
        | succ i => exact absurd q ((start_no).1 ys)
      · cases i with
        | zero => cases q; exact ⟨a, own, rfl⟩
        | succ i => exact absurd q ((start_no).2 ys)
      · cases q
        show H a ≠ none
        rw [ha]
        simp
      · have z : ∀ i, isOwn (Sl.io xs :: (ds.map Sl.val ++ List.replicate (d.n - (ds.length + 1)) Sl.no)) i → i = 0 := by
          intro i q
          cases i with
          | zero => rfl
          | succ i =>
            rcases q with ⟨ys, q⟩ | ⟨ys, q⟩
            · exact absurd q ((start_no).1 ys)
            · exact absurd q ((start_no).2 ys)
        rw [z i q1, z j q2]
  · cases h
theorem arg_len {K : PySem.W.Frag} {vs : List V} {ds : List PyData} {io : Option (List PyData)} {ioa : Option Addr} {g : Gm} (r : ArgRep K F H vs ds io ioa) (h : startG d ds io = some g) : vs.length = ioN d.io + d.ps := by
  unfold startG at h
  split at h
  · rename_i hl
    cases r with
    | plain r =>
      cases q : d.io with
      | true => rw [q] at h; cases h
      | false =>
        rw [r.length, hl]
        show _ = 0 + _
        omega
    | lent ha hw hx hf r =>
      cases q : d.io with
      | false => rw [q] at h; cases h
      | true =>
        rw [List.length_cons, r.length, hl]
        show _ = 1 + _
        omega
  · cases h
theorem io_of {K : PySem.W.Frag} {vs : List V} {ds : List PyData} {io : Option (List PyData)} {ioa : Option Addr} {g : Gm} (r : ArgRep K F H vs ds io ioa) (h : startG d ds io = some g) : (d.io = false ∧ ioa = none) ∨ (d.io = true ∧ ∃ a, ioa = some a) := by
  unfold startG at h
  split at h
  · cases r with
    | plain r =>
      cases q : d.io with
      | true => rw [q] at h; cases h
      | false => exact .inl ⟨rfl, rfl⟩
    | lent ha hw hx hf r =>
      cases q : d.io with
      | false => rw [q] at h; cases h
      | true => exact .inr ⟨rfl, _, rfl⟩
  · cases h
end
/-- what a run says, from the body's end -/
theorem end_ret {K : PySem.W.Frag} {tb : List (Addr × Str)} {xa : Str → Option Addr} {d : Df} {H F : Hp} {ioa : Option Addr} {Q : VK} {E : XK} {r : Rs} {g : Gm} {σ : Stt} {H' F' : Hp} {v : V} (hio : (d.io = false ∧ ioa = none) ∨ (d.io = true ∧ ∃ a, ioa = some a))
    (P : match endG d r g with
      | .stuck => False
      | .exc e => ioa = none ∧ ∀ cv dx H' F', Grow (zAt K tb H F ioa) H' F' → XRep K xa e cv dx H' F' → E cv dx H'
      | .ret r out => ∀ v H' F', Grow (zAt K tb H F ioa) H' F' → RsOk (zAt K tb H F ioa) H [] [] H' F' v r → OutOk K ioa out H' F' → Q v H')
    (S : Sim (zAt K tb H F ioa) g σ H' F') (R : RsOk (zAt K tb H F ioa) H g σ H' F' v r) : Q v H' := by
  have R' : RsOk (zAt K tb H F ioa) H [] [] H' F' v r := by
    cases r with
    | fro e => exact R
    | own xs =>
      obtain ⟨a, e, h1, h2, h3, h4, h5⟩ := R
      exact ⟨a, e, h1, h2, h3, h4, fun ⟨i, h, _⟩ => by rcases h with ⟨_, h⟩ | ⟨_, h⟩ <;> cases h⟩
  unfold endG at P
  rcases hio with ⟨h1, h2⟩ | ⟨h1, a, h2⟩
  · rw [h1] at P
    subst h2
    exact P v H' F' S.G R' rfl
  · rw [h1] at P
    subst h2
    cases q0 : g[0]? with
    | none => simp only [q0] at P
    | some sl =>
      cases sl with
      | io xs =>
        simp only [q0] at P
        obtain ⟨b, w, hb⟩ := S.io 0 xs q0
        have hb : (some a : Option Addr) = some b := hb
        cases hb
        obtain ⟨ws, w1, w2, w3⟩ := w.vs
        exact P v H' F' S.G R' ⟨xs, ws, rfl, w1, w2, w3, w.nf⟩
      | _ => simp only [q0] at P
theorem spF_stuck {K : PySem.W.Frag} {tb : List (Addr × Str)} {xa : Str → Option Addr} {vs : List V} {H : Hp} {Q : VK} {E : XK} (h : spF K tb xa (fun _ _ => .stuck) vs H Q E) : False := by
  obtain ⟨F, ds, io, ioa, _, _, _, _, q⟩ := h
  exact q
section
variable {P : Program} {W : World} {K : PySem.W.Frag} {mg : Str → Option Value} {base : Heap} {M : Mc} {T : Tx} {tb : List (Addr × Str)} {xa : Str → Option Addr}
/-- the body of a linked def -/
theorem body_ok (L : LkD K mg M T xa) {k : Nat} {cl2 : Nat → List PyData → Option (List PyData) → CRs} (ih : ∀ f d, T.D f = some d → ∃ fa fd ps, mg (M.nm f) = some (.ref fa) ∧ PySem.W.keepIn K (.ref fa) = true ∧ Binds K fd ps [] ∧ FnOk P W K mg base (CX P W) k fa fd ps (spF K tb xa (run T k f)))
    {d : Df} {N ps : List Str} {x : Str} {body : List Stmt} {scope : Scope} {fa : Addr} (sc : FnScope N ps scope) (hN : N.length = d.n) (hps : ps.length = ioN d.io + d.ps) (hm : mSs (M.at N) d.body scope body = true)
    {cdv : Value} {A : Around} {outer : List Env} {s : Shared} {H : Hp} {vs : List V} {Q : VK} {E : XK} (hr : Room k (A.deeper (envOfC x scope s.heap.objs.size fa cdv))) (h : spF K tb xa (runD (T.lk (run T k) cl2) d) vs H Q E) :
    ∃ t, PSs (cxOf (CX P W) P W K mg base N x scope fa cdv A outer s H E) body t ∧ t { nx := fun _ H' => Q .non H', rt := Q } (start N vs) H := by
  obtain ⟨F, ds, io, ioa, sb, nt, tbs, ar, q⟩ := h
  unfold runD at q
  cases q0 : startG d ds io with
  | none => rw [q0] at q; exact q.elim
  | some g =>
    rw [q0] at q
    dsimp only at q
    have hio := io_of ar q0
    have hl : vs.length ≤ N.length := by
      rw [arg_len ar q0, ← hps]
      have := congrArg List.length sc.pre
      rw [List.length_take] at this
      omega
    have S := sim_start (tb := tb) (N := N) sb nt tbs ar q0 hN hl
    let c : Cn := ⟨T.lk (run T k) cl2, zAt K tb H F ioa, xa, E⟩
    have Gs0 : Gs (M.at N) c scope (cxOf (CX P W) P W K mg base N x scope fa cdv A outer s H E) := {
      K := rfl
      names := rfl
      nd := sc.nd
      sc := rfl
      calm := rfl
      un := hr.units
      hx := passes_call (takes_of rfl rfl rfl rfl) fun _ _ _ _ h => h
      lk := fun f hf => by
        have hd := L.lk f hf
        cases qd : T.D f with
        | none => rw [qd] at hd; cases hd
        | some df =>
          obtain ⟨fa', fd', ps', h1, h2, h3, h4⟩ := ih f df qd
          exact ⟨fa', fd', ps', k, h1, h2, h3, h4, hr⟩
      bi := L.bi
      gc := L.gc
      fn := fun _ => rfl
      rc := L.rc
      tk := takes_of rfl rfl rfl rfl
      own := passes_of (K := fun e s'' => CX P W outer H s E e s'') rfl }
    refine ⟨tSs c d.body, mSs_ok d.body Gs0 hm, g, F, S, ?_⟩
    cases q1 : exs (T.lk (run T k) cl2) d.body g with
    | stuck => rw [q1] at q; exact q.elim
    | exc e =>
      rw [q1] at q
      show XOk c e
      rcases hio with ⟨h1, h2⟩ | ⟨h1, a, h2⟩
      · simp only [h1] at q
        exact q.2
      · simp only [h1] at q
    | nx g1 =>
      rw [q1] at q
      intro σ' H' F' S' _
      exact end_ret (v := V.non) hio q S' .non
    | brk g1 => rw [q1] at q; exact q.elim
    | ret r g1 =>
      rw [q1] at q
      intro v σ' H' F' S' R
      exact end_ret hio q S' R
theorem link_ok (L : LkD K mg M T xa) : ∀ k f d, T.D f = some d → ∃ fa fd ps, mg (M.nm f) = some (.ref fa) ∧ PySem.W.keepIn K (.ref fa) = true ∧ Binds K fd ps [] ∧ FnOk P W K mg base (CX P W) k fa fd ps (spF K tb xa (run T k f))
  | 0, f, d, hf => by
    obtain ⟨x, params, body, scope, N, ps, fa, fd, h1, h2, h3, h4, h5, h6, h7⟩ := L.defs f d hf
    exact ⟨fa, fd, ps, h1, h2.kp, h2.bindsN fun kV doc pm an cdv ct us hl => h3 _ _ _ _ kV doc pm an cdv ct us hl, ⟨fun _ _ _ _ q => (spF_stuck q).elim, fun _ _ _ _ _ _ _ _ _ _ _ _ _ q => (spF_stuck q).elim⟩⟩
  | k + 1, f, d, hf => by
    obtain ⟨x, params, body, scope, N, ps, fa, fd, h1, h2, h3, h4, h5, h6, h7⟩ := L.defs f d hf
    refine ⟨fa, fd, ps, h1, h2.kp, h2.bindsN fun kV doc pm an cdv ct us hl => h3 _ _ _ _ kV doc pm an cdv ct us hl, ?_⟩
    have hs : ∃ cl2, run T (k + 1) f = runD (T.lk (run T k) cl2) d := by
      refine ⟨(runs T k).2.2, ?_⟩
      funext ds io
      rw [run_succ, hf]
    obtain ⟨cl2, hs⟩ := hs
    rw [hs]
    refine h2.ok h4 (fun vs H Q E q => ?_) fun cdv A outer s H vs Q E hr q => body_ok L (link_ok L k) h4 h5 h6 h7 hr q
    obtain ⟨F, ds, io, ioa, sb, nt, tbs, ar, q⟩ := q
    unfold runD at q
    cases q0 : startG d ds io with
    | none => rw [q0] at q; exact q.elim
    | some g => rw [arg_len ar q0, h6]
end
end TB
set_option maxHeartbeats 1000000
/-! A law by its text: what is asked of the heap behind the module's top; the law's end. -/
namespace TB
open PySem PySem.Spec PyProof.Rows L2
/-! ### parameters -/
theorem fm_congr {α β : Type} {f g : α → Option β} : ∀ {l : List α}, (∀ n ∈ l, f n = g n) → l.filterMap f = l.filterMap g
  | [], _ => rfl
  | a :: l, h => by
    rw [List.filterMap_cons, List.filterMap_cons, h a (List.mem_cons_self ..), fm_congr fun n hn => h n (List.mem_cons_of_mem _ hn)]
theorem zip_look : ∀ {ps : List Str} {us : List Value}, us.length = ps.length → ps.Nodup → (ps.filter fun n => ((ps.zip us).lookup n).isNone) = [] ∧ (ps.filterMap fun n => ((ps.zip us).lookup n).map (n, ·)) = ps.zip us
  | [], us, _, _ => ⟨rfl, by cases us <;> rfl⟩
  | p :: ps, [], h, _ => by simp at h
  | p :: ps, u :: us, h, nd => by
    have h' : us.length = ps.length := by simpa using h
    obtain ⟨n1, n2⟩ := List.nodup_cons.mp nd
    obtain ⟨i1, i2⟩ := zip_look h' n2
    have self : ((p :: ps).zip (u :: us)).lookup p = some u := by simp [List.lookup_cons]
    have other : ∀ n ∈ ps, ((p :: ps).zip (u :: us)).lookup n = (ps.zip us).lookup n := fun n hn => by
      have : (n == p) = false := by
        cases q : (n == p) with
        | false => rfl
        | true => rw [beq_iff_eq.mp q] at hn; exact absurd hn n1
      simp [List.lookup_cons, this]
    constructor
    · rw [List.filter_cons, self, if_neg (by simp), ← i1]
      exact List.filter_congr fun n hn => by rw [other n hn]
    · rw [List.filterMap_cons, self]
      refine congrArg ((p, u) :: ·) (Eq.trans ?_ i2)
      exact fm_congr fun n hn => by rw [other n hn]
theorem bind_gen {as : List Arg} (nd : (as.map (·.arg)).Nodup) : BindOk ⟨[], as, none, [], [], none, []⟩ (as.map (·.arg)) := by
  intro x qual body scope kV doc pm an cdv ct us hl
  obtain ⟨z1, z2⟩ := zip_look hl nd
  have hl2 : us.length = as.length := by simpa using hl
  unfold bindArgs PySem.W.fnOf
  have e1 : seqItems? Value.none = pure none := rfl
  simp only [List.map_nil, List.nil_append, List.append_nil, List.forIn_nil, pure_bind, List.length_map, e1, hl2]
  have hg : (decide (as.length > as.length) && (none : Option Arg).isNone) = false := by simp
  rw [if_neg (by rw [hg]; simp)]
  have ht : List.take (as.length - (List.drop ((((none : Option (Array Value)).getD #[]).toList).length - as.length) (((none : Option (Array Value)).getD #[]).toList)).length) (List.map (fun x => x.arg) as) = List.map (fun x => x.arg) as := by
    simp
    exact List.take_of_length_le (by simp)
  rw [ht, z1]
  rw [List.filterMap_map] at z2
  simp [z2]
/-! ### a text's defs -/
structure Itm where
  ix : Nat
  N : List Str
  ps : List Str
  d : Df
def stAt (body : List Stmt) (it : Itm) : Stmt := body.getD it.ix (.Pass ⟨0, 0, 0, 0⟩)
def defName : Stmt → Str
  | .FunctionDef n _ _ _ _ _ _ _ _ _ => n
  | _ => Str.empty
def dfOf (body : List Stmt) (it : Itm) : He.DefD := ⟨(defName (stAt body it), none), defName (stAt body it), defName (stAt body it), defArgs (stAt body it), defBody (stAt body it), defScope (stAt body it), [], []⟩
/-- what stands under a number -/
def lkN {α : Type} : List (Nat × α) → Nat → Option α
  | [], _ => none
  | (m, a) :: l, n => bif Nat.beq m n then some a else lkN l n
theorem lkN_mem {α : Type} : ∀ {l : List (Nat × α)} {n : Nat} {a : α}, lkN l n = some a → (n, a) ∈ l
  | [], _, _, h => by cases h
  | (m, b) :: l, n, a, h => by
    unfold lkN at h
    cases q : Nat.beq m n with
    | true =>
      rw [q] at h
      cases h
      rw [Nat.eq_of_beq_eq_true q]
      exact List.mem_cons_self ..
    | false =>
      rw [q] at h
      exact List.mem_cons_of_mem _ (lkN_mem h)
def txOf (its : List (Nat × Itm)) (gl : List (Nat × Str × PyData)) (la : Nat → PyData ⊕ Ec → Option PyData) : Tx := ⟨fun f => (lkN its f).map (·.d), fun n => (lkN gl n).map (·.2), la⟩
def mcOf (body : List Stmt) (its : List (Nat × Itm)) (gl : List (Nat × Str × PyData)) (la : Nat → Bool) (rc : Str → Bool) : Mc where
  N := []
  nm := fun f => match lkN its f with
    | some it => defName (stAt body it)
    | none => Str.empty
  lk := fun f => (lkN its f).isSome
  gc := fun n x => match lkN gl n with
    | some p => decide (p.1 = x)
    | none => false
  la := la
  rc := rc
def scB (N ps : List Str) (sc : Scope) : Bool := fnK sc && !sc.isCoroutine && !sc.isGenerator && decide N.Nodup && decide (N.take ps.length = ps) && (ps.all fun x => locB sc x) && (sc.names.all fun y => match y.2 with
  | .free => false
  | _ => true)
theorem scB_ok {N ps : List Str} {sc : Scope} (h : scB N ps sc = true) : FnScope N ps sc := by
  unfold scB at h
  obtain ⟨h', h7⟩ := ba h
  obtain ⟨h', h6⟩ := ba h'
  obtain ⟨h', h5⟩ := ba h'
  obtain ⟨h', h4⟩ := ba h'
  obtain ⟨h', h3⟩ := ba h'
  obtain ⟨h1, h2⟩ := ba h'
  refine ⟨fnK_ok h1, bnot h2, bnot h3, of_decide_eq_true h4, of_decide_eq_true h5, fun x hx => loc_ok (List.all_eq_true.mp h6 x hx), fun y hy e => ?_⟩
  have q := List.all_eq_true.mp h7 y hy
  rw [e] at q
  cases q
def argB (a : Arguments) (ps : List Str) : Bool := match a with
  | ⟨[], as, none, [], [], none, []⟩ => decide (as.map (·.arg) = ps) && decide ps.Nodup
  | _ => false
theorem argB_ok {a : Arguments} {ps : List Str} (h : argB a ps = true) : BindOk a ps := by
  unfold argB at h
  split at h
  · obtain ⟨h1, h2⟩ := ba h
    have e := of_decide_eq_true h1
    subst e
    exact bind_gen (of_decide_eq_true h2)
  · cases h
def itB (M : Mc) (body : List Stmt) (it : Itm) : Bool := scB it.N it.ps (defScope (stAt body it)) && argB (defArgs (stAt body it)) it.ps && decide (it.N.length = it.d.n) && decide (it.ps.length = ioN it.d.io + it.d.ps) && mSs (M.at it.N) it.d.body (defScope (stAt body it)) (defBody (stAt body it))
/-! ### constants of the module -/
mutual
def relD (K : PySem.W.Frag) : PyData → Value → Bool
  | .none, v => (match v with
    | .none => true
    | _ => false)
  | .bool b, v => (match v with
    | .bool c => b == c
    | _ => false)
  | .int i, v => (match v with
    | .int j _ => decide (i = j)
    | _ => false)
  | .str x, v => (match v with
    | .str y _ => decide (x = y) && PyData.strOk x
    | _ => false)
  | .tuple ds, v => (match v with
    | .ref a => (match K.lookup a with
      | some ⟨.type c, _, .seq its _, _⟩ => decide (c = "tuple") && decide (its.size ≤ sizeLine) && relDs K ds its.toList
      | _ => false)
    | _ => false)
  | _, _ => false
def relDs (K : PySem.W.Frag) : List PyData → List Value → Bool
  | [], us => (match us with
    | [] => true
    | _ => false)
  | d :: ds, us => (match us with
    | u :: us => relD K d u && relDs K ds us
    | _ => false)
end
mutual
theorem relD_ok {K : PySem.W.Frag} : ∀ {d : PyData} {u : Value}, relD K d u = true → ∃ v, RelV v u ∧ ∀ F, Rp K F v d
  | .none, u, h => by
    unfold relD at h
    split at h
    · exact ⟨.non, rfl, fun F => .non⟩
    · cases h
  | .bool b, u, h => by
    unfold relD at h
    split at h
    · cases eq_of_beq h
      exact ⟨.bl b, rfl, fun F => .bl b⟩
    · cases h
  | .int i, u, h => by
    unfold relD at h
    split at h
    · cases of_decide_eq_true h
      exact ⟨.int i, ⟨_, rfl⟩, fun F => .int i⟩
    · cases h
  | .str x, u, h => by
    unfold relD at h
    split at h
    · obtain ⟨h1, h2⟩ := ba h
      cases of_decide_eq_true h1
      exact ⟨.str x, ⟨_, rfl⟩, fun F => .str x h2⟩
    · cases h
  | .tuple ds, u, h => by
    unfold relD at h
    split at h
    · rename_i a
      split at h
      · rename_i c od its n sl q
        obtain ⟨h', h3⟩ := ba h
        obtain ⟨h1, h2⟩ := ba h'
        obtain ⟨vs, r1, r2⟩ := relDs_ok h3
        have hl : ds.length ≤ sizeLine := by
          rw [← (r2 fun _ => none).length, r1.length]
          simpa using of_decide_eq_true h2
        exact ⟨.ref a, rfl, fun F => .tup (.inr ⟨_, its, n, q, congrArg Value.type (of_decide_eq_true h1), rfl, of_decide_eq_true h2, r1⟩) (r2 F) hl⟩
      · cases h
    · cases h
  | .list _, u, h => by unfold relD at h; cases h
  | .dict _, u, h => by unfold relD at h; cases h
theorem relDs_ok {K : PySem.W.Frag} : ∀ {ds : List PyData} {us : List Value}, relDs K ds us = true → ∃ vs, Vals vs us ∧ ∀ F, RpA K F vs ds
  | [], us, h => by
    unfold relDs at h
    split at h
    · exact ⟨[], .nil, fun F => .nil⟩
    · cases h
  | d :: ds, us, h => by
    unfold relDs at h
    split at h
    · obtain ⟨h1, h2⟩ := ba h
      obtain ⟨v, v1, v2⟩ := relD_ok h1
      obtain ⟨vs, w1, w2⟩ := relDs_ok h2
      exact ⟨v :: vs, .cons v1 w1, fun F => .cons (v2 F) (w2 F)⟩
    · cases h
end
def glD (K : PySem.W.Frag) (x : Str) (d : PyData) : Bool := match PySem.W.nsIn K mainGlobals x with
  | some (some u) => relD K d u
  | _ => false
def noLst (K : PySem.W.Frag) : Bool := K.all fun p => match p.2.cls with
  | .type n => !decide (n = "list")
  | _ => true
theorem look_mem {α β : Type} [BEq α] [LawfulBEq α] {a : α} {b : β} : ∀ {l : List (α × β)}, l.lookup a = some b → (a, b) ∈ l
  | [], h => by cases h
  | (x, y) :: l, h => by
    rw [List.lookup_cons] at h
    split at h
    · rename_i q
      cases h
      rw [beq_iff_eq.mp q]
      exact List.mem_cons_self ..
    · exact List.mem_cons_of_mem _ (look_mem h)
theorem noLst_ok {K : PySem.W.Frag} (h : noLst K = true) {a : Addr} {o : Obj} (e : K.lookup a = some o) : o.cls ≠ .type "list" := by
  intro q
  have hm : (a, o) ∈ K := look_mem e
  have z := List.all_eq_true.mp h _ hm
  simp only [q] at z
  simp at z
/-! ### the Hook -/
def nexts (g : Addr → Option Obj) (as : List Addr) : List Addr := as.flatMap fun a => match g a with
  | some o => He.refsD o
  | none => []
def asT (g : Addr → Option Obj) (xs : List Str) : Nat → List Addr
  | 0 => xs.map (He.ga (He.frG g [mainGlobals]))
  | n + 1 => nexts g (asT g xs n)
def allT (g : Addr → Option Obj) (xs : List Str) : Nat → List Addr
  | 0 => mainGlobals :: asT g xs 0
  | n + 1 => allT g xs n ++ asT g xs (n + 1)
def frT (g : Addr → Option Obj) (xs : List Str) (n : Nat) : PySem.W.Frag := He.frG g (allT g xs n)
def obsK (chk : PySem.W.Frag → Bool) (fn : List He.DefD) (K : PySem.W.Frag) : He.AlD := (chk K && fn.all fun d => d.ok K, fn.map fun d => He.fnW K d.at_)
def obsT (n : Nat) (xs : List Str) (chk : PySem.W.Frag → Bool) (fn : List He.DefD) (g : Addr → Option Obj) : He.AlD := obsK chk fn (frT g xs n)
def hookT (n : Nat) (xs : List Str) (chk : PySem.W.Frag → Bool) (fn : List He.DefD) : PySem.W.Hook where
  α := He.AlD
  obs := fun s => obsT n xs chk fn s.heap.get?
  val := fun _ => He.valD fn
  says := fun _ h => ∃ K : PySem.W.Frag, K.In h ∧ obsK chk fn K = He.valD fn
  of := fun _ _ e => ⟨_, He.frG_in, e⟩
  keeps := fun _ _ _ ⟨K, hK, c⟩ k => ⟨K, PySem.W.Frag.In.keeps hK k, c⟩
theorem obsT_eq {n : Nat} {xs : List Str} {chk : PySem.W.Frag → Bool} {fn : List He.DefD} {g : Addr → Option Obj} {s : Shared} (h : ∀ a, g a = s.heap.get? a) : obsT n xs chk fn g = (hookT n xs chk fn).obs s := by
  have e : g = s.heap.get? := funext h
  rw [e] <;> rfl
theorem says_chk {chk : PySem.W.Frag → Bool} {fn : List He.DefD} {K : PySem.W.Frag} (c : obsK chk fn K = He.valD fn) : chk K = true ∧ ∀ d ∈ fn, ∃ fd, FunD K d.name d.qual d.params d.body d.scope (d.dvs K) (d.kws K) (He.fAd K d.at_) fd := by
  obtain ⟨c1, c2⟩ := ba (show (chk K && fn.all fun d => d.ok K) = true from congrArg (fun z : He.AlD => z.1) c)
  have e : fn.map (fun d => He.fnW K d.at_) = fn.map He.DefD.val := congrArg (fun z : He.AlD => z.2) c
  refine ⟨c1, fun d hd => ?_⟩
  exact He.DefD.funD (List.map_inj_left.mp e d hd) (List.all_eq_true.mp c2 d hd)
/-! ### classes of exceptions -/
def xaOf (K : PySem.W.Frag) (x : Str) : Option Addr := match PySem.W.nsIn K mainGlobals x with
  | some (some (.ref C)) => some C
  | _ => none
def excB (K : PySem.W.Frag) (x : Str) : Bool := match PySem.W.nsIn K mainGlobals x with
  | some (some (.ref C)) => PySem.W.excIn K C excBm "ValueError.__new__" && PySem.W.keepIn K (.ref C) && (PySem.W.subIn K (.ref C) (.type "BaseException") == some true) && (PySem.W.typeIn K (.ref C) == some (.type "type"))
  | _ => false
theorem excB_ok {K : PySem.W.Frag} {h : Heap} {mg : Str → Option Value} (X : K.In h) (G : h.Ns mainGlobals mg) {x : Str} (e : excB K x = true) : ∃ C, mg x = some (.ref C) ∧ xaOf K x = some C ∧ ExcK K C := by
  unfold excB at e
  split at e
  · rename_i C hC
    obtain ⟨e', e4⟩ := ba e
    obtain ⟨e', e3⟩ := ba e'
    obtain ⟨e1, e2⟩ := ba e'
    refine ⟨C, PySem.W.mg_of X G hC, ?_, ⟨e1, e2, eq_of_beq e3, eq_of_beq e4⟩⟩
    unfold xaOf
    rw [hC]
  · cases e
/-- what is asked at the least -/
def chk0 (cls names : List Str) (gl : List (Nat × Str × PyData)) (K : PySem.W.Frag) : Bool := (biN.all fun x => (He.Fa.free x).ok K) && (names.all fun x => (He.Fa.glo x).ok K) && (gl.all fun p => glD K p.2.1 p.2.2) && (cls.all (excB K)) && noLst K
theorem link_of {body : List Stmt} {its : List (Nat × Itm)} {gl : List (Nat × Str × PyData)} {la : Nat → PyData ⊕ Ec → Option PyData} {lb : Nat → Bool} {cls : List Str} {K : PySem.W.Frag} {h : Heap} {mg : Str → Option Value} (X : K.In h) (G : h.Ns mainGlobals mg)
    (hok : (its.all fun it => itB (mcOf body its gl lb fun x => decide (x ∈ cls)) body it.2) = true) (c0 : chk0 cls (its.map fun it => defName (stAt body it.2)) gl K = true) (cf : ∀ d ∈ its.map (fun it => dfOf body it.2), ∃ fd, FunD K d.name d.qual d.params d.body d.scope (d.dvs K) (d.kws K) (He.fAd K d.at_) fd) :
    LkD K mg (mcOf body its gl lb fun x => decide (x ∈ cls)) (txOf its gl la) (xaOf K) := by
  unfold chk0 at c0
  obtain ⟨c', c4⟩ := ba c0
  obtain ⟨c', c5⟩ := ba c'
  obtain ⟨c', c3⟩ := ba c'
  obtain ⟨c1, c2⟩ := ba c'
  refine ⟨fun f d hd => ?_, fun f hf => ?_, fun x hx => He.free_ok X G (List.all_eq_true.mp c1 x hx), fun n x hx => ?_, fun x hx => excB_ok X G (List.all_eq_true.mp c5 x (of_decide_eq_true hx))⟩
  · have hd : (lkN its f).map (·.d) = some d := hd
    cases q : lkN its f with
    | none => rw [q] at hd; cases hd
    | some it =>
      rw [q] at hd
      cases hd
      have hm : (f, it) ∈ its := lkN_mem q
      have hb := List.all_eq_true.mp hok (f, it) hm
      unfold itB at hb
      obtain ⟨b', b5⟩ := ba hb
      obtain ⟨b', b4⟩ := ba b'
      obtain ⟨b', b3⟩ := ba b'
      obtain ⟨b1, b2⟩ := ba b'
      obtain ⟨fd, F⟩ := cf (dfOf body it) (List.mem_map_of_mem (f := fun it : Nat × Itm => dfOf body it.2) hm)
      have gl0 := He.glo_ok X G (List.all_eq_true.mp c2 (defName (stAt body it)) (List.mem_map_of_mem (f := fun it : Nat × Itm => defName (stAt body it.2)) hm))
      refine ⟨defName (stAt body it), defArgs (stAt body it), defBody (stAt body it), defScope (stAt body it), it.N, it.ps, He.fAd K (defName (stAt body it), none), fd, ?_, F, argB_ok b2, scB_ok b1, of_decide_eq_true b3, of_decide_eq_true b4, b5⟩
      show mg (match lkN its f with
        | some it => defName (stAt body it)
        | none => Str.empty) = _
      rw [q]
      exact gl0
  · show ((lkN its f).map _).isSome = true
    rw [Option.isSome_map]
    exact hf
  · have hx : (match lkN gl n with
      | some p => decide (p.1 = x)
      | none => false) = true := hx
    cases q : lkN gl n with
    | none => rw [q] at hx; cases hx
    | some p =>
      rw [q] at hx
      cases of_decide_eq_true hx
      have g := List.all_eq_true.mp c3 _ (lkN_mem q)
      unfold glD at g
      split at g
      · rename_i u hu
        obtain ⟨v, v1, v2⟩ := relD_ok g
        refine ⟨p.2, v, u, ?_, PySem.W.mg_of X G hu, v1, v2⟩
        show (lkN gl n).map _ = _
        rw [q]
        rfl
      · cases g
theorem int_rps {K : PySem.W.Frag} {F : Hp} : ∀ ns : List Int, RpA K F (ns.map V.int) (ns.map PyData.int)
  | [] => .nil
  | n :: ns => .cons (.int n) (int_rps ns)
/-- THE END of a law without lambdas: the interpreter's run of it gives True -/
theorem law_walk {l : PySem.W.OpenLaw} {body : List Stmt} {its : List (Nat × Itm)} {gl : List (Nat × Str × PyData)} {la : Nat → PyData ⊕ Ec → Option PyData} {lb : Nat → Bool} {cls : List Str} {more : PySem.W.Frag → Bool} {m n k f0 : Nat} {xs : List Str} {q : Program} {loose : List Str} {XP : (Str → Option Value) → Heap → Prop} {d : DefRec} {it0 : Itm} {px : Str}
    (hn : l.most = some n) (hn2 : n ≤ sizeLine) (hdf : d.params.defaults = []) (hr : Room k callerA)
    (hok : (its.all fun it => itB (mcOf body its gl lb fun x => decide (x ∈ cls)) body it.2) = true) (h0 : lkN its f0 = some it0) (hd : d.name = defName (stAt body it0)) (hps : it0.ps = [px])
    (hrun : ∀ ns : List Int, ns.length ≤ n → run (txOf its gl la) k f0 [.list (ns.map PyData.int)] none = .ret (.fro (.bool true)) none) :
    PySem.W.WalkO q loose XP (hookT m xs (fun K => chk0 cls (its.map fun it => defName (stAt body it.2)) gl K && more K) (its.map fun it => dfOf body it.2)).says l.row.toRowW d [] (fun f vs => PySem.call f vs) := by
  refine LamX.walk_ofTsE (k := k) (CX := fun w => CX l.prog w) (x := px) hn hn2 hdf hr (fun w mg fa h Y G hmg => ?_) fun w H s e s' z => ?_
  · obtain ⟨K, KX, c⟩ := Y
    obtain ⟨c1, c2⟩ := says_chk c
    obtain ⟨c1, c3⟩ := ba c1
    have Lk := link_of (la := la) KX G hok c1 c2
    have nl : noLst K = true := by
      unfold chk0 at c1
      exact (ba c1).2
    have hD : (txOf its gl la).D f0 = some it0.d := by
      show (lkN its f0).map _ = _
      rw [h0]
      rfl
    have hnm : (mcOf body its gl lb fun x => decide (x ∈ cls)).nm f0 = defName (stAt body it0) := by
      show (match lkN its f0 with
        | some it => defName (stAt body it)
        | none => Str.empty) = _
      rw [h0]
    refine ⟨K, KX, ?_⟩
    have hm : (f0, it0) ∈ its := lkN_mem h0
    obtain ⟨fd, F⟩ := c2 (dfOf body it0) (List.mem_map_of_mem (f := fun it : Nat × Itm => dfOf body it.2) hm)
    have hb := List.all_eq_true.mp hok (f0, it0) hm
    unfold itB at hb
    obtain ⟨b', b5⟩ := ba hb
    obtain ⟨b', b4⟩ := ba b'
    obtain ⟨b', b3⟩ := ba b'
    obtain ⟨b1, b2⟩ := ba b'
    refine ⟨fd, [], spF K [] (xaOf K) (run (txOf its gl la) k f0), fun p hp => absurd hp (by simp), fun p hp => absurd hp (by simp), fun p hp => absurd hp (by simp), fun s u => ?_, fun H a ns hlen _ _ hS => ?_, fun base KB GB _ => ?_⟩
    · have := FunD.bindsA (ps := it0.ps) F (fun kV doc pm an cdv ct us hl => argB_ok b2 _ _ _ _ kV doc pm an cdv ct us hl) s [u] (by rw [hps]; rfl)
      rw [hps] at this
      exact this
    · rcases hS with hS | ⟨o, its', n', e1, e2, _⟩
      · have key : ∀ o, H a = some o → (∀ ps, o ≠ .tbl ps) → Rd (upd (fun _ => none) a o) a (.lst (ns.map V.int)) → spF K [] (xaOf K) (run (txOf its gl la) k f0) [.ref a] H (fun v _ => v = .bl true) fun _ _ _ => False := by
          intro o ho nt rd
          refine ⟨upd (fun _ => none) a o, [.list (ns.map PyData.int)], none, none, fun b u e => ?_, fun b ps e => ?_, fun p hp => absurd hp (by simp), .plain (.cons (.lst rd (int_rps ns) (by rw [List.length_map]; omega)) .nil), ?_⟩
          · by_cases hb : b = a
            · subst hb; rw [upd_same] at e; cases e; exact ho
            · rw [upd_ne hb] at e; cases e
          · by_cases hb : b = a
            · subst hb; rw [upd_same] at e; cases e; exact nt ps rfl
            · rw [upd_ne hb] at e; cases e
          · rw [hrun ns hlen]
            intro v H' F' _ R _
            exact (show Rp K F' v (.bool true) from R).bl_inv
        rcases hS with e | ⟨ob, e⟩
        · exact key _ e (fun ps q => by cases q) (.inl upd_same)
        · exact key _ e (fun ps q => by cases q) (.inr ⟨ob, upd_same⟩)
      · exact absurd e2 (noLst_ok nl e1)
    · have Lk2 : LkD K mg (mcOf body its gl lb fun x => decide (x ∈ cls)) (txOf its gl la) (xaOf K) := Lk
      obtain ⟨x, params, bd, scope, N, ps, fa', fd', q1, q2, q3, q4, q5, q6, q7⟩ := Lk2.defs f0 _ hD
      have hps1 : [px].length = ioN it0.d.io + it0.d.ps := by rw [← hps]; exact of_decide_eq_true b4
      have e1 : mg (defName (stAt body it0)) = some (.ref (He.fAd K (defName (stAt body it0), none))) := by
        unfold chk0 at c1
        obtain ⟨c', _⟩ := ba c1
        obtain ⟨c', _⟩ := ba c'
        obtain ⟨c', _⟩ := ba c'
        obtain ⟨_, g2⟩ := ba c'
        exact He.glo_ok KX G (List.all_eq_true.mp g2 (defName (stAt body it0)) (List.mem_map_of_mem (f := fun it : Nat × Itm => defName (stAt body it.2)) hm))
      have e2 : fa = He.fAd K (defName (stAt body it0), none) := by
        rw [hd, e1] at hmg
        cases hmg
        rfl
      subst e2
      have hN := of_decide_eq_true b3
      have hpsl := of_decide_eq_true b4
      cases k with
      | zero =>
        have hz := hrun [] (Nat.zero_le _)
        rw [run_zero] at hz
        cases hz
      | succ k =>
        have hs : run (txOf its gl la) (k + 1) f0 = runD ((txOf its gl la).lk (run (txOf its gl la) k) (runs (txOf its gl la) k).2.2) it0.d := by
          funext ds io
          rw [run_succ, hD]
        rw [hs]
        have sc0 := scB_ok b1
        rw [hps] at sc0 hpsl
        refine FunD.ok F sc0 (fun vs H Q E q => ?_) fun cdv A outer s H vs Q E hr q => body_ok Lk (link_ok Lk k) sc0 hN hpsl b5 hr q
        obtain ⟨F0, ds, io, ioa, sb, nt, tbs, ar, q⟩ := q
        unfold runD at q
        cases q0 : startG it0.d ds io with
        | none => rw [q0] at q; exact q.elim
        | some g => rw [arg_len ar q0, hpsl]
  · obtain ⟨_, _, _, _, _, _, _, _, _, _, _, _, z⟩ := z
    exact z
end TB
set_option maxHeartbeats 0
namespace TB
open PySem
def q1_law_k01 : Ex := (.not (.call 26 (.cons (.loc 4) .nil)))
def e1_law_k01 : Ex := (.loc 4)
def l4_law_k01 : Sms := (.cons (.asg 7 (.callv 27 3 (.cons (.ite (.cmp .eq (.bin .mod (.loc 8) (.int 3)) (.int 0)) (.loc 4) (.loc 7)) .nil)))
  (.cons (.ife (.not (.call 26 (.cons (.loc 7) .nil))) (.cons (.ret (.bl false))
  .nil) .nil)
  .nil))
def l3_law_k01 : Sms := (.cons (.ife (.not (.call 26 (.cons (.loc 4) .nil))) (.cons (.ret (.bl false))
  .nil) .nil)
  (.cons (.asg 7 (.loc 4))
  (.cons (.for (.rng1 (.int 12)) (.one 8) l4_law_k01)
  .nil)))
def l2_law_k01 : Sms := (.cons (.asg 3 (.call 22 (.cons (.loc 0) (.cons (.loc 1) .nil))))
  (.cons (.for (.tup (.cons (.callv 23 3 (.cons (.int 8) .nil)) (.cons (.callv 24 3 (.cons (.int 50) .nil)) (.cons (.callv 25 3 .nil) .nil)))) (.one 4) l3_law_k01)
  (.cons (.ife (.not (.call 26 (.cons (.callv 28 3 (.cons (.int 2) .nil)) .nil))) (.cons (.ret (.bl false))
  .nil) .nil)
  .nil)))
/-- law_k01 -/
def b_law_k01 : Sms := (.cons (.for (.rng1 (.bf .max2 (.cons (.int 4) (.cons (.bf .min2 (.cons (.int 9) (.cons (.bf .len (.cons (.loc 0) .nil)) .nil))) .nil)))) (.one 1) l2_law_k01)
  (.cons (.par [5, 6] (.cons (.tup (.cons (.str (⟨#[119, 97, 105, 116]⟩ : PySem.Str)) (.cons (.int 1) (.cons (.int 4) .nil)))) (.cons (.bin .pow (.int 10) (.int 12)) .nil)))
  (.cons (.asg 2 (.lst (.cons (.bin .mul (.tup (.cons (.loc 5) .nil)) (.int 8)) (.cons (.bin .mul (.tup (.cons (.loc 5) .nil)) (.int 9)) (.cons (.tup (.cons (.tup (.cons (.str (⟨#[98, 111, 116, 104]⟩ : PySem.Str)) (.cons (.int 0) (.cons (.int 0) .nil)))) .nil)) (.cons (.tup (.cons (.tup (.cons (.str (⟨#[114, 105, 110, 103]⟩ : PySem.Str)) (.cons (.int 0) .nil))) .nil)) (.cons (.tup (.cons (.tup (.cons (.str (⟨#[103, 111]⟩ : PySem.Str)) (.cons (.bl true) .nil))) .nil)) (.cons (.tup (.cons (.tup (.cons (.str (⟨#[115, 116, 111, 112]⟩ : PySem.Str)) .nil)) .nil)) .nil))))))))
  (.cons (.asg 2 (.bin .add (.loc 2) (.lst (.cons (.tup (.cons (.int 4) (.cons (.int 1) .nil))) (.cons (.tup (.cons (.int 5) (.cons (.int 1) .nil))) (.cons (.tup (.cons (.int 1) (.cons (.int 5) .nil))) (.cons (.tup (.cons (.int 1) (.cons (.int 4) .nil))) (.cons (.tup (.cons (.loc 6) (.cons (.loc 6) .nil))) (.cons (.tup (.cons (.loc 6) (.cons (.bin .add (.loc 6) (.int 1)) .nil))) .nil)))))))))
  (.cons (.asg 2 (.bin .add (.loc 2) (.lst (.cons (.tup (.cons (.bl true) (.cons (.int 1) .nil))) (.cons (.tup (.cons (.int 10) (.cons (.int 49) .nil))) (.cons (.tup (.cons (.int 10) (.cons (.int 50) .nil))) .nil))))))
  (.cons (.asg 2 (.bin .add (.loc 2) (.lst (.cons (.tup (.cons (.tup (.cons (.int 1) (.cons (.int 5) .nil))) (.cons (.tup (.cons (.int 5) (.cons (.int 1) .nil))) .nil))) (.cons (.tup (.cons (.tup (.cons (.int 5) (.cons (.int 1) .nil))) (.cons (.tup (.cons (.int 1) (.cons (.int 5) .nil))) .nil))) (.cons (.tup (.cons (.tup (.cons (.int 1) (.cons (.int 5) .nil))) (.cons (.tup (.cons (.int 1) (.cons (.int 5) .nil))) .nil))) (.cons (.tup (.cons (.tup (.cons (.int 1) (.cons (.int 5) .nil))) (.cons (.tup (.cons (.int 1) (.cons (.int 4) .nil))) .nil))) (.cons (.tup (.cons (.tup (.cons (.int 2) (.cons (.int 2) .nil))) (.cons (.tup (.cons (.int 3) (.cons (.int 1) .nil))) .nil))) .nil))))))))
  (.cons (.ret (.cmp .eq (.lc (.loc 2) (.one 4) [4] q1_law_k01 e1_law_k01) (.lst .nil)))
  .nil)))))))
def d_law_k01 : Df := ⟨9, false, 1, b_law_k01⟩
abbrev f_law_k01 : Nat := 0
def l2_law_k02 : Sms := (.cons (.asg 8 (.lst (.cons (.lam 36 60 (.cons (.loc 2) (.cons (.loc 5) .nil))) .nil)))
  (.cons (.app 8 (.lam 36 61 (.cons (.loc 2) (.cons (.loc 5) .nil))))
  (.cons (.app 8 (.lam 36 62 (.cons (.loc 2) (.cons (.loc 5) .nil))))
  (.cons (.ife (.cmpB .ne 8 (.bin .mul (.lst (.cons (.str (⟨#[112, 101, 114, 105, 111, 100, 115, 32, 118, 97, 108, 117, 101]⟩ : PySem.Str)) .nil)) (.int 3))) (.cons (.ret (.bl false))
  .nil) .nil)
  .nil))))
def l3_law_k02 : Sms := (.cons (.ife (.not (.call 59 (.cons (.loc 2) (.cons (.callv 24 3 (.cons (.callv 32 3 (.cons (.lst (.cons (.int 4) (.cons (.int 9) (.cons (.int 60) .nil)))) .nil)) .nil)) .nil)))) (.cons (.ret (.bl false))
  .nil) .nil)
  .nil)
def l1_law_k02 : Sms := (.cons (.asg 3 (.call 22 (.cons (.loc 0) (.cons (.loc 1) .nil))))
  (.cons (.asg 2 (.callv 23 3 (.cons (.int 8) .nil)))
  (.cons (.for (.rng1 (.int 5)) (.one 4) l3_law_k02)
  (.cons (.par [6, 7] (.cons (.callv 24 3 (.cons (.int 2000) .nil)) (.cons (.bin .add (.int 1) (.callv 30 3 (.cons (.bin .pow (.int 10) (.int 7)) .nil))) .nil)))
  (.cons (.ife (.not (.call 59 (.cons (.loc 2) (.cons (.tup (.cons (.bin .mul (.idx (.loc 6) (.int 0)) (.loc 7)) (.cons (.bin .mul (.idx (.loc 6) (.int 1)) (.loc 7)) .nil))) .nil)))) (.cons (.ret (.bl false))
  .nil) .nil)
  (.cons (.for (.lst (.cons .non (.cons (.tup (.cons (.int 5) (.cons (.int 1) .nil))) (.cons (.tup (.cons (.int 1) (.cons (.int 5) .nil))) (.cons (.lst (.cons (.int 1) (.cons (.int 1) .nil))) (.cons (.tup (.cons (.int 1) (.cons (.bl true) .nil))) (.cons (.int 5) (.cons (.tup (.cons (.int 1) (.cons (.int 1) (.cons (.int 1) .nil)))) (.cons (.tup (.cons (.int 0) (.cons (.int 1) .nil))) (.cons (.tup (.cons (.bin .pow (.int 10) (.int 13)) (.cons (.bin .pow (.int 10) (.int 13)) .nil))) .nil)))))))))) (.one 5) l2_law_k02)
  (.cons (.ife (.cmp .ne (.lam 36 60 (.cons (.bf .list (.cons (.loc 2) .nil)) (.cons .non .nil))) (.str (⟨#[115, 99, 114, 105, 112, 116, 32, 118, 97, 108, 117, 101]⟩ : PySem.Str))) (.cons (.ret (.bl false))
  .nil) .nil)
  .nil)))))))
/-- law_k02 -/
def b_law_k02 : Sms := (.cons (.for (.rng1 (.bf .max2 (.cons (.int 6) (.cons (.bf .min2 (.cons (.int 14) (.cons (.bf .len (.cons (.loc 0) .nil)) .nil))) .nil)))) (.one 1) l1_law_k02)
  (.cons (.asg 2 (.tup (.cons (.tup (.cons (.str (⟨#[119, 97, 105, 116]⟩ : PySem.Str)) (.cons (.int 1) (.cons (.int 1) .nil)))) (.cons (.tup (.cons (.str (⟨#[103, 111]⟩ : PySem.Str)) (.cons (.int 0) .nil))) (.cons (.tup (.cons (.str (⟨#[99, 111, 117, 110, 116]⟩ : PySem.Str)) (.cons (.int 1) (.cons (.int 2) .nil)))) (.cons (.tup (.cons (.str (⟨#[114, 105, 110, 103]⟩ : PySem.Str)) .nil)) .nil))))))
  (.cons (.ife (.or (.cmp .ne (.call 60 (.cons (.loc 2) (.cons (.tup (.cons (.int 2) (.cons (.int 3) .nil))) .nil))) (.lst (.cons (.int 9) .nil))) (.cmp .ne (.call 61 (.cons (.loc 2) (.cons (.tup (.cons (.int 2) (.cons (.int 3) .nil))) .nil))) (.tup (.cons (.int 3) .nil)))) (.cons (.ret (.bl false))
  .nil) .nil)
  (.cons (.ret (.and (.cmp .eq (.call 61 (.cons (.tup (.cons (.tup (.cons (.str (⟨#[98, 111, 116, 104]⟩ : PySem.Str)) (.cons (.int 0) (.cons (.int 3) .nil)))) .nil)) (.cons (.tup (.cons (.int 2) (.cons (.int 3) .nil))) .nil))) (.tup (.cons (.int 1) .nil))) (.cmp .eq (.call 62 (.cons (.tup (.cons (.tup (.cons (.str (⟨#[115, 116, 111, 112]⟩ : PySem.Str)) (.cons (.int 0) .nil))) (.cons (.tup (.cons (.str (⟨#[98, 111, 116, 104]⟩ : PySem.Str)) (.cons (.int 1) (.cons (.int 2) .nil)))) .nil))) (.cons (.tup (.cons (.int 3) (.cons (.int 2) .nil))) .nil))) (.int 4))))
  .nil))))
def d_law_k02 : Df := ⟨9, false, 1, b_law_k02⟩
abbrev f_law_k02 : Nat := 1
def l2_law_k03 : Sms := (.cons (.ife (.cmp .ne (.lam 36 75 (.cons (.loc 2) (.cons (.loc 6) .nil))) (.str (⟨#[105, 110, 100, 101, 120, 32, 118, 97, 108, 117, 101]⟩ : PySem.Str))) (.cons (.ret (.bl false))
  .nil) .nil)
  .nil)
def l3_law_k03 : Sms := (.cons (.asg 7 (.call 75 (.cons (.loc 2) (.cons (.loc 5) .nil))))
  (.cons (.ife (.or (.not (.isi (.loc 7) .list)) (.cmp .ne (.loc 7) (.call 77 (.cons (.loc 4) (.cons (.loc 5) .nil))))) (.cons (.ret (.bl false))
  .nil) .nil)
  .nil))
def l1_law_k03 : Sms := (.cons (.asg 3 (.call 22 (.cons (.loc 0) (.cons (.loc 1) .nil))))
  (.cons (.asg 2 (.callv 73 3 (.cons (.int 7) .nil)))
  (.cons (.asg 4 (.call 74 (.cons (.loc 2) .nil)))
  (.cons (.for (.rng1 (.call 44 (.cons (.loc 2) (.cons (.lst (.cons (.str (⟨#[114, 105, 110, 103]⟩ : PySem.Str)) .nil)) .nil)))) (.one 5) l3_law_k03)
  (.cons (.for (.lst (.cons (.neg (.int 1)) (.cons (.call 44 (.cons (.loc 2) (.cons (.lst (.cons (.str (⟨#[114, 105, 110, 103]⟩ : PySem.Str)) .nil)) .nil))) (.cons .non (.cons (.bl true) (.cons (.str (⟨#[48]⟩ : PySem.Str)) .nil)))))) (.one 6) l2_law_k03)
  .nil)))))
/-- law_k03 -/
def b_law_k03 : Sms := (.cons (.for (.rng1 (.bf .max2 (.cons (.int 4) (.cons (.bf .min2 (.cons (.int 8) (.cons (.bf .len (.cons (.loc 0) .nil)) .nil))) .nil)))) (.one 1) l1_law_k03)
  (.cons (.asg 2 (.tup (.cons (.tup (.cons (.str (⟨#[119, 97, 105, 116]⟩ : PySem.Str)) (.cons (.int 0) (.cons (.int 1) .nil)))) (.cons (.tup (.cons (.str (⟨#[114, 105, 110, 103]⟩ : PySem.Str)) .nil)) (.cons (.tup (.cons (.str (⟨#[119, 97, 105, 116]⟩ : PySem.Str)) (.cons (.int 1) (.cons (.int 1) .nil)))) (.cons (.tup (.cons (.str (⟨#[114, 105, 110, 103]⟩ : PySem.Str)) .nil)) .nil))))))
  (.cons (.ife (.cmp .ne (.call 75 (.cons (.loc 2) (.cons (.int 0) .nil))) (.lst (.cons (.tup (.cons (.call 76 .nil) (.cons (.tup (.cons (.int 1) (.cons (.int 0) .nil))) .nil))) .nil))) (.cons (.ret (.bl false))
  .nil) .nil)
  (.cons (.ret (.cmp .eq (.slc (.call 75 (.cons (.loc 2) (.cons (.int 1) .nil))) (.int 3) .omit) (.lst (.cons (.tup (.cons (.tup (.cons (.tup (.cons (.int 3) (.cons (.int 1) .nil))) (.cons (.tup (.cons (.int 4) (.cons (.int 1) .nil))) .nil))) (.cons (.tup (.cons (.int 0) (.cons (.int 4) .nil))) .nil))) (.cons (.tup (.cons (.tup (.cons (.tup (.cons (.int 4) (.cons (.int 1) .nil))) (.cons (.tup (.cons (.int 5) (.cons (.int 1) .nil))) .nil))) (.cons (.tup (.cons (.int 0) (.cons (.int 5) .nil))) .nil))) .nil)))))
  .nil))))
def d_law_k03 : Df := ⟨8, false, 1, b_law_k03⟩
abbrev f_law_k03 : Nat := 2
def l2_law_k04 : Sms := (.cons (.ife (.cmp .ne (.lam 36 110 (.cons (.loc 4) (.cons (.loc 7) .nil))) (.str (⟨#[105, 110, 100, 101, 120, 32, 118, 97, 108, 117, 101]⟩ : PySem.Str))) (.cons (.ret (.bl false))
  .nil) .nil)
  .nil)
def l3_law_k04 : Sms := (.cons (.asg 8 (.call 110 (.cons (.loc 4) (.cons (.loc 6) .nil))))
  (.cons (.ife (.or (.not (.isi (.loc 8) .list)) (.cmp .ne (.loc 8) (.call 78 (.cons (.loc 5) (.cons (.loc 6) .nil))))) (.cons (.ret (.bl false))
  .nil) .nil)
  .nil))
def l1_law_k04 : Sms := (.cons (.asg 3 (.call 22 (.cons (.loc 0) (.cons (.loc 1) .nil))))
  (.cons (.asg 4 (.callv 73 3 (.cons (.int 7) .nil)))
  (.cons (.asg 5 (.call 74 (.cons (.loc 4) .nil)))
  (.cons (.for (.rng1 (.call 44 (.cons (.loc 4) (.cons (.lst (.cons (.str (⟨#[114, 105, 110, 103]⟩ : PySem.Str)) .nil)) .nil)))) (.one 6) l3_law_k04)
  (.cons (.for (.lst (.cons (.neg (.int 1)) (.cons (.int 8) (.cons (.bl false) (.cons (.str (⟨#[114, 105, 110, 103]⟩ : PySem.Str)) .nil))))) (.one 7) l2_law_k04)
  (.cons (.ife (.cmp .ne (.lam 36 110 (.cons .non (.cons (.int 0) .nil))) (.str (⟨#[115, 99, 114, 105, 112, 116, 32, 118, 97, 108, 117, 101]⟩ : PySem.Str))) (.cons (.ret (.bl false))
  .nil) .nil)
  .nil))))))
/-- law_k04 -/
def b_law_k04 : Sms := (.cons (.for (.rng1 (.bf .max2 (.cons (.int 4) (.cons (.bf .min2 (.cons (.int 8) (.cons (.bf .len (.cons (.loc 0) .nil)) .nil))) .nil)))) (.one 1) l1_law_k04)
  (.cons (.asg 2 (.lst (.cons (.tup (.cons (.int 1) (.cons (.int 2) .nil))) (.cons (.tup (.cons (.int 1) (.cons (.int 1) .nil))) (.cons (.tup (.cons (.int 3) (.cons (.int 2) .nil))) (.cons (.tup (.cons (.int 2) (.cons (.int 1) .nil))) (.cons (.tup (.cons (.int 5) (.cons (.int 2) .nil))) (.cons (.tup (.cons (.int 3) (.cons (.int 1) .nil))) (.cons (.tup (.cons (.int 7) (.cons (.int 2) .nil))) (.cons (.tup (.cons (.int 4) (.cons (.int 1) .nil))) (.cons (.tup (.cons (.int 9) (.cons (.int 2) .nil))) .nil)))))))))))
  (.cons (.ife (.cmp .ne (.call 110 (.cons (.tup (.cons (.tup (.cons (.str (⟨#[98, 111, 116, 104]⟩ : PySem.Str)) (.cons (.int 0) (.cons (.int 3) .nil)))) (.cons (.tup (.cons (.str (⟨#[114, 105, 110, 103]⟩ : PySem.Str)) .nil)) .nil))) (.cons (.int 0) .nil))) (.loc 2)) (.cons (.ret (.bl false))
  .nil) .nil)
  (.cons (.ret (.cmp .eq (.call 110 (.cons (.tup (.cons (.tup (.cons (.str (⟨#[98, 111, 116, 104]⟩ : PySem.Str)) (.cons (.int 0) (.cons (.int 1) .nil)))) (.cons (.tup (.cons (.str (⟨#[114, 105, 110, 103]⟩ : PySem.Str)) .nil)) .nil))) (.cons (.int 0) .nil))) (.lst .nil)))
  .nil))))
def d_law_k04 : Df := ⟨9, false, 1, b_law_k04⟩
abbrev f_law_k04 : Nat := 3
/-- law_k05 -/
def b_law_k05 : Sms := (.cons .nev .nil)
def d_law_k05 : Df := ⟨9, false, 1, b_law_k05⟩
abbrev f_law_k05 : Nat := 4
def l3_law_k06 : Sms := (.cons (.asg 9 (.callv 24 3 (.cons (.int 30) .nil)))
  (.cons (.asg 10 (.call 118 (.cons (.idx (.idx (.call 63 (.cons (.loc 2) (.cons (.loc 9) .nil))) (.int 3)) (.loc 5)) (.cons (.idx (.loc 9) (.loc 4)) .nil))))
  (.cons (.ife (.or (.call 33 (.cons (.loc 10) (.cons (.idx (.idx (.loc 7) (.int 0)) (.int 0)) .nil))) (.call 33 (.cons (.idx (.idx (.loc 7) (.int 1)) (.int 0)) (.cons (.loc 10) .nil)))) (.cons (.ret (.bl false))
  .nil) .nil)
  .nil)))
def l2_law_k06 : Sms := (.cons (.asg 7 (.call 117 (.cons (.loc 2) (.cons (.loc 5) (.cons (.loc 4) .nil)))))
  (.cons (.ife (.cmp .ne (.loc 7) (.call 80 (.cons (.loc 6) (.cons (.loc 5) (.cons (.loc 4) .nil))))) (.cons (.ret (.bl false))
  .nil) .nil)
  (.cons (.for (.rng1 (.int 3)) (.one 8) l3_law_k06)
  .nil)))
def l1_law_k06 : Sms := (.cons (.asg 3 (.call 22 (.cons (.loc 0) (.cons (.loc 1) .nil))))
  (.cons (.asg 2 (.callv 73 3 (.cons (.int 7) .nil)))
  (.cons (.par [5, 6] (.cons (.callv 30 3 (.cons (.call 44 (.cons (.loc 2) (.cons (.lst (.cons (.str (⟨#[114, 105, 110, 103]⟩ : PySem.Str)) .nil)) .nil))) .nil)) (.cons (.call 74 (.cons (.loc 2) .nil)) .nil)))
  (.cons (.for (.tup (.cons (.int 0) (.cons (.int 1) .nil))) (.one 4) l2_law_k06)
  (.cons (.ife (.cmp .ne (.lam 36 117 (.cons (.loc 2) (.cons (.loc 5) (.cons (.int 2) .nil)))) (.str (⟨#[112, 101, 110, 100, 117, 108, 117, 109, 32, 118, 97, 108, 117, 101]⟩ : PySem.Str))) (.cons (.ret (.bl false))
  .nil) .nil)
  (.cons (.ife (.cmp .ne (.lam 36 117 (.cons (.loc 2) (.cons .non (.cons (.int 2) .nil)))) (.str (⟨#[105, 110, 100, 101, 120, 32, 118, 97, 108, 117, 101]⟩ : PySem.Str))) (.cons (.ret (.bl false))
  .nil) .nil)
  .nil))))))
/-- law_k06 -/
def b_law_k06 : Sms := (.cons (.for (.rng1 (.bf .max2 (.cons (.int 4) (.cons (.bf .min2 (.cons (.int 8) (.cons (.bf .len (.cons (.loc 0) .nil)) .nil))) .nil)))) (.one 1) l1_law_k06)
  (.cons (.asg 2 (.tup (.cons (.tup (.cons (.str (⟨#[119, 97, 105, 116]⟩ : PySem.Str)) (.cons (.int 0) (.cons (.int 1) .nil)))) (.cons (.tup (.cons (.str (⟨#[114, 105, 110, 103]⟩ : PySem.Str)) .nil)) (.cons (.tup (.cons (.str (⟨#[119, 97, 105, 116]⟩ : PySem.Str)) (.cons (.int 1) (.cons (.int 1) .nil)))) (.cons (.tup (.cons (.str (⟨#[114, 105, 110, 103]⟩ : PySem.Str)) .nil)) .nil))))))
  (.cons (.ife (.cmp .ne (.call 117 (.cons (.loc 2) (.cons (.int 1) (.cons (.int 0) .nil)))) (.tup (.cons (.tup (.cons (.tup (.cons (.int 1) (.cons (.int 1) .nil))) (.cons (.bl false) .nil))) (.cons (.tup (.cons (.tup (.cons (.int 5) (.cons (.int 1) .nil))) (.cons (.bl false) .nil))) .nil)))) (.cons (.ret (.bl false))
  .nil) .nil)
  (.cons (.ret (.cmp .eq (.call 117 (.cons (.loc 2) (.cons (.int 1) (.cons (.int 1) .nil)))) (.tup (.cons (.tup (.cons (.tup (.cons (.int 1) (.cons (.int 1) .nil))) (.cons (.bl true) .nil))) (.cons (.tup (.cons (.tup (.cons (.int 5) (.cons (.int 1) .nil))) (.cons (.bl true) .nil))) .nil)))))
  .nil))))
def d_law_k06 : Df := ⟨11, false, 1, b_law_k06⟩
abbrev f_law_k06 : Nat := 5
def l2_law_k07 : Sms := (.cons (.ife (.cmp .ne (.lam 36 123 (.cons (.loc 2) (.cons (.loc 7) .nil))) (.str (⟨#[97, 110, 115, 119, 101, 114, 115, 32, 118, 97, 108, 117, 101]⟩ : PySem.Str))) (.cons (.ret (.bl false))
  .nil) .nil)
  .nil)
def q3_law_k07 : Ex := (.cmp .eq (.loc 11) (.loc 5))
def e3_law_k07 : Ex := (.loc 10)
def e4_law_k07 : Ex := (.callv 30 3 (.cons (.int 5) .nil))
def l5_law_k07 : Sms := (.cons (.unp [10, 11] (.callv 32 3 (.cons (.loc 8) .nil)))
  (.cons (.ife (.cmp .ne (.call 123 (.cons (.loc 2) (.cons (.loc 11) .nil))) (.loc 10)) (.cons (.ret (.bl false))
  .nil) .nil)
  .nil))
def l1_law_k07 : Sms := (.cons (.asg 3 (.call 22 (.cons (.loc 0) (.cons (.loc 1) .nil))))
  (.cons (.asg 2 (.callv 23 3 (.cons (.int 6) .nil)))
  (.cons (.par [8, 9] (.cons (.call 81 (.cons (.call 74 (.cons (.loc 2) .nil)) .nil)) (.cons (.call 122 (.cons (.loc 2) .nil)) .nil)))
  (.cons (.ife (.or (.not (.isi (.loc 9) .list)) (.cmp .ne (.loc 9) (.loc 8))) (.cons (.ret (.bl false))
  .nil) .nil)
  (.cons (.for (.rng1 (.int 3)) (.one 4) l5_law_k07)
  (.cons (.asg 5 (.bf .tuple (.cons (.lc (.rng1 (.callv 30 3 (.cons (.int 4) .nil))) (.one 12) [12] .omit e4_law_k07) .nil)))
  (.cons (.asg 6 (.lc (.loc 8) (.many [10, 11]) [10, 11] q3_law_k07 e3_law_k07))
  (.cons (.ife (.cmp .ne (.call 123 (.cons (.loc 2) (.cons (.loc 5) .nil))) (.ite (.cmp .ne (.loc 6) (.lst .nil)) (.idx (.loc 6) (.int 0)) (.lst .nil))) (.cons (.ret (.bl false))
  .nil) .nil)
  (.cons (.for (.lst (.cons .non (.cons (.lst (.cons (.int 1) .nil)) (.cons (.tup (.cons (.bl true) .nil)) (.cons (.tup (.cons (.neg (.int 1)) .nil)) (.cons (.tup (.cons (.int 41) .nil)) (.cons (.bin .mul (.tup (.cons (.int 1) .nil)) (.int 9)) (.cons (.str (⟨#[49, 50]⟩ : PySem.Str)) .nil)))))))) (.one 7) l2_law_k07)
  .nil)))))))))
/-- law_k07 -/
def b_law_k07 : Sms := (.cons (.for (.rng1 (.bf .max2 (.cons (.int 4) (.cons (.bf .min2 (.cons (.int 8) (.cons (.bf .len (.cons (.loc 0) .nil)) .nil))) .nil)))) (.one 1) l1_law_k07)
  (.cons (.asg 2 (.tup (.cons (.tup (.cons (.str (⟨#[99, 111, 117, 110, 116]⟩ : PySem.Str)) (.cons (.int 0) (.cons (.int 2) .nil)))) .nil)))
  (.cons (.ife (.or (.cmp .ne (.bf .len (.cons (.call 122 (.cons (.loc 2) .nil)) .nil)) (.int 10)) (.cmp .ne (.call 123 (.cons (.loc 2) (.cons (.tup (.cons (.int 2) .nil)) .nil))) (.lst (.cons (.tup (.cons (.tup (.cons (.int 1) (.cons (.int 1) .nil))) (.cons (.tup (.cons (.int 1) (.cons (.int 1) .nil))) .nil))) (.cons (.tup (.cons (.tup (.cons (.int 1) (.cons (.int 1) .nil))) (.cons (.tup (.cons (.int 3) (.cons (.int 2) .nil))) .nil))) .nil))))) (.cons (.ret (.bl false))
  .nil) .nil)
  (.cons (.ret (.cmp .eq (.bf .len (.cons (.call 123 (.cons (.tup (.cons (.tup (.cons (.str (⟨#[98, 111, 116, 104]⟩ : PySem.Str)) (.cons (.int 0) (.cons (.int 3) .nil)))) .nil)) (.cons (.tup (.cons (.int 1) .nil)) .nil))) .nil)) (.int 19)))
  .nil))))
def d_law_k07 : Df := ⟨13, false, 1, b_law_k07⟩
abbrev f_law_k07 : Nat := 6
def l1_law_k08 : Sms := (.cons (.asg 4 (.call 22 (.cons (.loc 0) (.cons (.loc 1) .nil))))
  (.cons (.asg 5 (.callv 23 4 (.cons (.int 7) .nil)))
  (.cons (.asg 6 (.call 126 (.cons (.loc 5) .nil)))
  (.cons (.ife (.cmp .ne (.loc 6) (.call 82 (.cons (.loc 5) .nil))) (.cons (.ret (.bl false))
  .nil) .nil)
  (.cons (.par [8, 9] (.cons (.callv 24 4 (.cons (.int 40) .nil)) (.cons (.callv 24 4 (.cons (.int 40) .nil)) .nil)))
  (.cons (.asg 7 (.cmp .eq (.idx (.call 63 (.cons (.loc 5) (.cons (.loc 8) .nil))) (.int 2)) (.idx (.call 63 (.cons (.loc 5) (.cons (.loc 9) .nil))) (.int 2))))
  (.cons (.ife (.and (.loc 7) (.call 33 (.cons (.loc 8) (.cons (.loc 9) .nil)))) (.cons (.ife (.call 33 (.cons (.loc 6) (.cons (.call 127 (.cons (.loc 9) (.cons (.loc 8) .nil))) .nil))) (.cons (.ret (.bl false))
  .nil) .nil)
  .nil) .nil)
  (.cons (.ife (.cmp .ne (.lam 36 126 (.cons (.bf .list (.cons (.loc 5) .nil)) .nil)) (.str (⟨#[115, 99, 114, 105, 112, 116, 32, 118, 97, 108, 117, 101]⟩ : PySem.Str))) (.cons (.ret (.bl false))
  .nil) .nil)
  .nil))))))))
/-- law_k08 -/
def b_law_k08 : Sms := (.cons (.for (.rng1 (.bf .max2 (.cons (.int 4) (.cons (.bf .min2 (.cons (.int 9) (.cons (.bf .len (.cons (.loc 0) .nil)) .nil))) .nil)))) (.one 1) l1_law_k08)
  (.cons (.asg 2 (.tup (.cons (.tup (.cons (.str (⟨#[99, 111, 117, 110, 116]⟩ : PySem.Str)) (.cons (.int 0) (.cons (.int 2) .nil)))) .nil)))
  (.cons (.asg 3 (.tup (.cons (.tup (.cons (.str (⟨#[119, 97, 105, 116]⟩ : PySem.Str)) (.cons (.int 1) (.cons (.int 1) .nil)))) (.cons (.tup (.cons (.str (⟨#[103, 111]⟩ : PySem.Str)) (.cons (.int 0) .nil))) (.cons (.tup (.cons (.str (⟨#[99, 111, 117, 110, 116]⟩ : PySem.Str)) (.cons (.int 1) (.cons (.int 2) .nil)))) (.cons (.tup (.cons (.str (⟨#[114, 105, 110, 103]⟩ : PySem.Str)) .nil)) .nil))))))
  (.cons (.ret (.cmp .eq (.lst (.cons (.call 126 (.cons (.loc 2) .nil)) (.cons (.call 126 (.cons (.tup .nil) .nil)) (.cons (.call 126 (.cons (.bin .add (.loc 2) (.loc 3)) .nil)) .nil)))) (.lst (.cons (.tup (.cons (.int 5) (.cons (.int 2) .nil))) (.cons (.tup (.cons (.int 25) (.cons (.int 1) .nil))) (.cons (.tup (.cons (.int 3) (.cons (.int 2) .nil))) .nil))))))
  .nil))))
def d_law_k08 : Df := ⟨10, false, 1, b_law_k08⟩
abbrev f_law_k08 : Nat := 7
def l1_law_k09 : Sms := (.cons (.asg 3 (.call 22 (.cons (.loc 0) (.cons (.loc 1) .nil))))
  (.cons (.par [5, 6] (.cons (.callv 23 3 (.cons (.int 8) .nil)) (.cons (.callv 129 3 .nil) .nil)))
  (.cons (.ife (.not (.call 35 (.cons (.call 128 (.cons (.loc 5) (.cons (.loc 6) .nil))) (.cons (.call 134 (.cons (.loc 5) (.cons (.loc 6) .nil))) .nil)))) (.cons (.ret (.bl false))
  .nil) .nil)
  (.cons (.asg 4 (.callv 30 3 (.cons (.int 3) .nil)))
  (.cons (.par [7, 8] (.cons (.call 130 (.cons (.loc 6) (.cons (.loc 4) .nil))) (.cons (.call 131 (.cons (.loc 6) (.cons (.loc 4) .nil))) .nil)))
  (.cons (.ife (.cmp .ne (.cmp .isN (.loc 8) .non) (.cmp .isN (.loc 7) .non)) (.cons (.ret (.bl false))
  .nil) .nil)
  (.cons (.ife (.cmp .notN (.loc 8) .non) (.cons (.ife (.or (.not (.call 34 (.cons (.loc 8) .nil))) (.or (.cmp .ne (.bf .len (.cons (.loc 8) .nil)) (.loc 7)) (.not (.call 134 (.cons (.loc 8) (.cons (.loc 6) .nil)))))) (.cons (.ret (.bl false))
  .nil) .nil)
  .nil) .nil)
  (.cons (.ife (.not (.call 132 (.cons (.loc 5) .nil))) (.cons (.ret (.bl false))
  .nil) .nil)
  .nil))))))))
/-- law_k09 -/
def b_law_k09 : Sms := (.cons (.for (.rng1 (.bf .max2 (.cons (.int 3) (.cons (.bf .min2 (.cons (.int 6) (.cons (.bf .len (.cons (.loc 0) .nil)) .nil))) .nil)))) (.one 1) l1_law_k09)
  (.cons (.asg 2 (.tup (.cons (.tup (.cons (.int 1) (.cons (.int 1) .nil))) (.cons (.tup (.cons (.int 5) (.cons (.int 4) .nil))) .nil))))
  (.cons (.ife (.or (.cmp .ne (.bf .len (.cons (.call 131 (.cons (.loc 2) (.cons (.int 3) .nil))) .nil)) (.int 1)) (.cmp .notN (.call 131 (.cons (.loc 2) (.cons (.int 0) .nil))) .non)) (.cons (.ret (.bl false))
  .nil) .nil)
  (.cons (.ret (.and (.call 128 (.cons (.tup (.cons (.tup (.cons (.str (⟨#[98, 111, 116, 104]⟩ : PySem.Str)) (.cons (.int 0) (.cons (.int 3) .nil)))) .nil)) (.cons (.loc 2) .nil))) (.not (.call 128 (.cons (.tup (.cons (.tup (.cons (.str (⟨#[99, 111, 117, 110, 116]⟩ : PySem.Str)) (.cons (.int 0) (.cons (.int 2) .nil)))) .nil)) (.cons (.loc 2) .nil))))))
  .nil))))
def d_law_k09 : Df := ⟨9, false, 1, b_law_k09⟩
abbrev f_law_k09 : Nat := 8
def e1_law_k10 : Ex := (.tup (.cons (.tup (.cons (.loc 7) (.cons (.int 1) .nil))) (.cons (.tup (.cons (.loc 7) (.cons (.int 1) .nil))) .nil)))
def l3_law_k10 : Sms := (.cons (.ife (.not (.call 142 (.cons (.loc 2) (.cons (.callv 143 5 (.cons (.loc 2) .nil)) .nil)))) (.cons (.ret (.bl false))
  .nil) .nil)
  .nil)
def l2_law_k10 : Sms := (.cons (.asg 5 (.call 22 (.cons (.loc 0) (.cons (.loc 1) .nil))))
  (.cons (.asg 2 (.callv 23 5 (.cons (.int 5) .nil)))
  (.cons (.for (.rng1 (.int 2)) (.one 6) l3_law_k10)
  (.cons (.ife (.cmp .notN (.call 140 (.cons (.loc 2) (.cons (.loc 2) .nil))) .non) (.cons (.ret (.bl false))
  .nil) .nil)
  .nil))))
/-- law_k10 -/
def b_law_k10 : Sms := (.cons (.for (.rng1 (.bf .max2 (.cons (.int 2) (.cons (.bf .min2 (.cons (.int 4) (.cons (.bf .len (.cons (.loc 0) .nil)) .nil))) .nil)))) (.one 1) l2_law_k10)
  (.cons (.asg 2 (.tup (.cons (.tup (.cons (.str (⟨#[119, 97, 105, 116]⟩ : PySem.Str)) (.cons (.int 0) (.cons (.int 1) .nil)))) (.cons (.tup (.cons (.str (⟨#[114, 105, 110, 103]⟩ : PySem.Str)) .nil)) (.cons (.tup (.cons (.str (⟨#[119, 97, 105, 116]⟩ : PySem.Str)) (.cons (.int 1) (.cons (.int 1) .nil)))) (.cons (.tup (.cons (.str (⟨#[114, 105, 110, 103]⟩ : PySem.Str)) .nil)) .nil))))))
  (.cons (.asg 3 (.bin .add (.bin .add (.slc (.loc 2) .omit (.int 2)) (.tup (.cons (.tup (.cons (.str (⟨#[103, 111]⟩ : PySem.Str)) (.cons (.int 1) .nil))) .nil))) (.slc (.loc 2) (.int 2) .omit)))
  (.cons (.asg 4 (.lc (.tup (.cons (.int 1) (.cons (.int 2) (.cons (.int 3) (.cons (.int 4) .nil))))) (.one 7) [7] .omit e1_law_k10))
  (.cons (.ife (.or (.cmp .ne (.call 141 (.cons (.loc 2) (.cons (.loc 3) .nil))) (.loc 4)) (.cmp .ne (.call 140 (.cons (.loc 2) (.cons (.loc 3) .nil))) (.tup (.cons (.int 1) (.cons (.int 2) .nil))))) (.cons (.ret (.bl false))
  .nil) .nil)
  (.cons (.ret (.and (.call 139 (.cons (.loc 2) (.cons (.bin .add (.loc 2) (.tup (.cons (.tup (.cons (.str (⟨#[115, 116, 111, 112]⟩ : PySem.Str)) (.cons (.int 0) .nil))) .nil))) .nil))) (.cmp .eq (.call 140 (.cons (.loc 2) (.cons (.tup .nil) .nil))) (.tup (.cons (.int 1) (.cons (.int 1) .nil))))))
  .nil))))))
def d_law_k10 : Df := ⟨8, false, 1, b_law_k10⟩
abbrev f_law_k10 : Nat := 9
def q3_law_k11 : Ex := (.not (.idx (.loc 8) (.int 2)))
def e3_law_k11 : Ex := (.loc 8)
def l2_law_k11 : Sms := (.cons (.asg 7 (.bin .add (.slc (.loc 2) .omit (.loc 4)) (.slc (.loc 2) (.bin .add (.loc 4) (.int 1)) .omit)))
  (.cons (.ife (.cmp .eq (.lc (.call 148 (.cons (.loc 2) (.cons (.loc 7) .nil))) (.one 8) [8] q3_law_k11 e3_law_k11) (.lst .nil)) (.cons (.app 6 (.loc 4))
  .nil) .nil)
  .nil))
def l1_law_k11 : Sms := (.cons (.asg 3 (.call 22 (.cons (.loc 0) (.cons (.loc 1) .nil))))
  (.cons (.asg 2 (.callv 23 3 (.cons (.int 3) .nil)))
  (.cons (.asg 4 (.callv 30 3 (.cons (.bin .add (.bf .len (.cons (.loc 2) .nil)) (.int 1)) .nil)))
  (.cons (.asg 5 (.callv 32 3 (.cons (.lst (.cons (.tup (.cons (.tup (.cons (.str (⟨#[103, 111]⟩ : PySem.Str)) (.cons (.int 0) .nil))) (.cons (.tup (.cons (.str (⟨#[103, 111]⟩ : PySem.Str)) (.cons (.int 0) .nil))) .nil))) (.cons (.tup (.cons (.tup (.cons (.str (⟨#[115, 116, 111, 112]⟩ : PySem.Str)) (.cons (.int 1) .nil))) (.cons (.tup (.cons (.str (⟨#[103, 111]⟩ : PySem.Str)) (.cons (.int 1) .nil))) .nil))) (.cons (.tup .nil) (.cons (.tup (.cons (.tup (.cons (.str (⟨#[115, 116, 111, 112]⟩ : PySem.Str)) (.cons (.int 0) .nil))) .nil)) .nil))))) .nil)))
  (.cons (.asg 2 (.bin .add (.bin .add (.slc (.loc 2) .omit (.loc 4)) (.loc 5)) (.slc (.loc 2) (.loc 4) .omit)))
  (.cons (.asg 6 (.lst .nil))
  (.cons (.for (.rng1 (.bf .len (.cons (.loc 2) .nil))) (.one 4) l2_law_k11)
  (.cons (.ife (.cmp .ne (.call 159 (.cons (.loc 2) .nil)) (.loc 6)) (.cons (.ret (.bl false))
  .nil) .nil)
  (.cons (.ife (.cmp .ne (.lam 36 159 (.cons (.bin .add (.loc 2) (.tup (.cons (.int 5) .nil))) .nil)) (.str (⟨#[115, 99, 114, 105, 112, 116, 32, 118, 97, 108, 117, 101]⟩ : PySem.Str))) (.cons (.ret (.bl false))
  .nil) .nil)
  .nil)))))))))
/-- law_k11 -/
def b_law_k11 : Sms := (.cons (.for (.rng1 (.bf .max2 (.cons (.int 2) (.cons (.bf .min2 (.cons (.int 4) (.cons (.bf .len (.cons (.loc 0) .nil)) .nil))) .nil)))) (.one 1) l1_law_k11)
  (.cons (.asg 2 (.tup (.cons (.tup (.cons (.str (⟨#[119, 97, 105, 116]⟩ : PySem.Str)) (.cons (.int 1) (.cons (.int 1) .nil)))) (.cons (.tup (.cons (.str (⟨#[103, 111]⟩ : PySem.Str)) (.cons (.int 0) .nil))) (.cons (.tup (.cons (.str (⟨#[99, 111, 117, 110, 116]⟩ : PySem.Str)) (.cons (.int 1) (.cons (.int 2) .nil)))) (.cons (.tup (.cons (.str (⟨#[114, 105, 110, 103]⟩ : PySem.Str)) .nil)) .nil))))))
  (.cons (.ife (.or (.cmp .ne (.call 159 (.cons (.loc 2) .nil)) (.lst .nil)) (.cmp .ne (.call 159 (.cons (.bin .add (.loc 2) (.tup (.cons (.tup (.cons (.str (⟨#[115, 116, 111, 112]⟩ : PySem.Str)) (.cons (.int 0) .nil))) .nil))) .nil)) (.lst (.cons (.int 4) .nil)))) (.cons (.ret (.bl false))
  .nil) .nil)
  (.cons (.ret (.cmp .eq (.call 159 (.cons (.tup (.cons (.tup (.cons (.str (⟨#[103, 111]⟩ : PySem.Str)) (.cons (.int 0) .nil))) (.cons (.tup (.cons (.str (⟨#[119, 97, 105, 116]⟩ : PySem.Str)) (.cons (.int 1) (.cons (.int 2) .nil)))) (.cons (.tup (.cons (.str (⟨#[115, 116, 111, 112]⟩ : PySem.Str)) (.cons (.int 1) .nil))) (.cons (.tup (.cons (.str (⟨#[103, 111]⟩ : PySem.Str)) (.cons (.int 1) .nil))) (.cons (.tup (.cons (.str (⟨#[114, 105, 110, 103]⟩ : PySem.Str)) .nil)) .nil)))))) .nil)) (.lst (.cons (.int 0) (.cons (.int 2) (.cons (.int 3) .nil))))))
  .nil))))
def d_law_k11 : Df := ⟨9, false, 1, b_law_k11⟩
abbrev f_law_k11 : Nat := 10
def l2_law_k12 : Sms := (.cons (.ife (.cmp .ne (.call 123 (.cons (.loc 4) (.cons (.loc 8) .nil))) (.call 161 (.cons (.loc 7) .nil))) (.cons (.ret (.bl false))
  .nil) .nil)
  .nil)
def l3_law_k12 : Sms := (.cons (.asg 6 (.callv 24 2 (.cons (.int 30) .nil)))
  (.cons (.ife (.cmp .ne (.call 60 (.cons (.loc 3) (.cons (.loc 6) .nil))) (.call 60 (.cons (.loc 4) (.cons (.rev (.loc 6)) .nil)))) (.cons (.ret (.bl false))
  .nil) .nil)
  (.cons (.ife (.cmp .ne (.call 61 (.cons (.loc 3) (.cons (.loc 6) .nil))) (.call 61 (.cons (.loc 4) (.cons (.rev (.loc 6)) .nil)))) (.cons (.ret (.bl false))
  .nil) .nil)
  .nil)))
def l1_law_k12 : Sms := (.cons (.asg 2 (.call 22 (.cons (.loc 0) (.cons (.loc 1) .nil))))
  (.cons (.asg 3 (.callv 73 2 (.cons (.int 6) .nil)))
  (.cons (.asg 4 (.call 160 (.cons (.loc 3) .nil)))
  (.cons (.for (.rng1 (.int 3)) (.one 5) l3_law_k12)
  (.cons (.ife (.or (.not (.call 162 (.cons (.loc 3) (.cons (.loc 4) (.cons (.int 0) .nil))))) (.cmp .ne (.call 126 (.cons (.loc 4) .nil)) (.call 126 (.cons (.loc 3) .nil)))) (.cons (.ret (.bl false))
  .nil) .nil)
  (.cons (.for (.slc (.call 122 (.cons (.loc 3) .nil)) .omit (.int 5)) (.many [7, 8]) l2_law_k12)
  (.cons (.ife (.cmp .ne (.call 159 (.cons (.loc 4) .nil)) (.call 159 (.cons (.loc 3) .nil))) (.cons (.ret (.bl false))
  .nil) .nil)
  (.cons (.ife (.cmp .ne (.call 141 (.cons (.loc 4) (.cons (.loc 3) .nil))) (.call 161 (.cons (.call 141 (.cons (.loc 3) (.cons (.loc 4) .nil))) .nil))) (.cons (.ret (.bl false))
  .nil) .nil)
  .nil))))))))
/-- law_k12 -/
def b_law_k12 : Sms := (.cons (.for (.rng1 (.bf .max2 (.cons (.int 3) (.cons (.bf .min2 (.cons (.int 6) (.cons (.bf .len (.cons (.loc 0) .nil)) .nil))) .nil)))) (.one 1) l1_law_k12)
  (.cons (.ret (.cmp .eq (.call 60 (.cons (.call 160 (.cons (.tup (.cons (.tup (.cons (.str (⟨#[119, 97, 105, 116]⟩ : PySem.Str)) (.cons (.int 0) (.cons (.int 2) .nil)))) (.cons (.tup (.cons (.str (⟨#[114, 105, 110, 103]⟩ : PySem.Str)) .nil)) .nil))) .nil)) (.cons (.tup (.cons (.int 3) (.cons (.int 2) .nil))) .nil))) (.lst (.cons (.int 4) .nil))))
  .nil))
def d_law_k12 : Df := ⟨9, false, 1, b_law_k12⟩
abbrev f_law_k12 : Nat := 11
def e2_law_k13 : Ex := (.call 61 (.cons (.loc 3) (.cons (.loc 6) .nil)))
def l3_law_k13 : Sms := (.cons (.ife (.not (.call 163 (.cons (.loc 3) (.cons (.loc 4) (.cons (.loc 6) (.cons (.bin .add (.int 1) (.callv 30 2 (.cons (.bin .pow (.int 10) (.int 6)) .nil))) .nil)))))) (.cons (.ret (.bl false))
  .nil) .nil)
  .nil)
def l1_law_k13 : Sms := (.cons (.asg 2 (.call 22 (.cons (.loc 0) (.cons (.loc 1) .nil))))
  (.cons (.asg 3 (.callv 23 2 (.cons (.int 5) .nil)))
  (.cons (.asg 4 (.callv 143 2 (.cons (.loc 3) .nil)))
  (.cons (.asg 5 (.lst (.cons (.tup (.cons (.int 1) (.cons (.int 1) .nil))) (.cons (.tup (.cons (.int 2) (.cons (.int 1) .nil))) (.cons (.callv 24 2 (.cons (.int 9) .nil)) (.cons (.callv 24 2 (.cons (.int 60) .nil)) .nil))))))
  (.cons (.for (.bin .add (.loc 5) (.lst (.cons (.tup (.cons (.int 1) (.cons (.int 2) .nil))) (.cons (.tup (.cons (.int 3) (.cons (.int 2) .nil))) .nil)))) (.one 6) l3_law_k13)
  (.cons (.asg 7 (.tup (.cons (.callv 24 2 (.cons (.int 20) .nil)) (.cons (.tup (.cons (.int 1) (.cons (.int 1) .nil))) (.cons (.tup (.cons (.int 7) (.cons (.int 2) .nil))) .nil)))))
  (.cons (.ife (.cmp .nin (.idx (.loc 7) (.int 0)) (.slc (.loc 7) (.int 1) .omit)) (.cons (.asg 8 (.lc (.loc 7) (.one 6) [6] .omit e2_law_k13))
  (.cons (.asg 9 (.and (.cmp .ne (.idx (.loc 8) (.int 0)) (.idx (.loc 8) (.int 1))) (.and (.cmp .ne (.idx (.loc 8) (.int 0)) (.idx (.loc 8) (.int 2))) (.cmp .ne (.idx (.loc 8) (.int 1)) (.idx (.loc 8) (.int 2))))))
  (.cons (.ife (.not (.call 35 (.cons (.call 128 (.cons (.loc 3) (.cons (.loc 7) .nil))) (.cons (.loc 9) .nil)))) (.cons (.ret (.bl false))
  .nil) .nil)
  .nil))) .nil)
  .nil)))))))
/-- law_k13 -/
def b_law_k13 : Sms := (.cons (.for (.rng1 (.bf .max2 (.cons (.int 3) (.cons (.bf .min2 (.cons (.int 6) (.cons (.bf .len (.cons (.loc 0) .nil)) .nil))) .nil)))) (.one 1) l1_law_k13)
  (.cons (.ret (.bl true))
  .nil))
def d_law_k13 : Df := ⟨10, false, 1, b_law_k13⟩
abbrev f_law_k13 : Nat := 12
/-- law_k14 -/
def b_law_k14 : Sms := (.cons .nev .nil)
def d_law_k14 : Df := ⟨10, false, 1, b_law_k14⟩
abbrev f_law_k14 : Nat := 13
/-- law_k15 -/
def b_law_k15 : Sms := (.cons .nev .nil)
def d_law_k15 : Df := ⟨12, false, 1, b_law_k15⟩
abbrev f_law_k15 : Nat := 14
/-- law_k16 -/
def b_law_k16 : Sms := (.cons .nev .nil)
def d_law_k16 : Df := ⟨11, false, 1, b_law_k16⟩
abbrev f_law_k16 : Nat := 15
/-- law_k17 -/
def b_law_k17 : Sms := (.cons .nev .nil)
def d_law_k17 : Df := ⟨6, false, 1, b_law_k17⟩
abbrev f_law_k17 : Nat := 16
/-- law_k18 -/
def b_law_k18 : Sms := (.cons .nev .nil)
def d_law_k18 : Df := ⟨9, false, 1, b_law_k18⟩
abbrev f_law_k18 : Nat := 17
/-- law_k19 -/
def b_law_k19 : Sms := (.cons .nev .nil)
def d_law_k19 : Df := ⟨9, false, 1, b_law_k19⟩
abbrev f_law_k19 : Nat := 18
/-- law_k20 -/
def b_law_k20 : Sms := (.cons .nev .nil)
def d_law_k20 : Df := ⟨9, false, 1, b_law_k20⟩
abbrev f_law_k20 : Nat := 19
def l2_law_k21 : Sms := (.cons (.unp [4, 5] (.callv 24 2 (.cons (.int 60) .nil)))
  (.cons (.ife (.cmp .inn (.bl false) (.call 192 (.cons (.loc 4) (.cons (.loc 5) .nil)))) (.cons (.ret (.bl false))
  .nil) .nil)
  .nil))
def l1_law_k21 : Sms := (.cons (.asg 2 (.call 22 (.cons (.loc 0) (.cons (.loc 1) .nil))))
  (.cons (.for (.rng1 (.int 5)) (.one 3) l2_law_k21)
  .nil))
/-- law_k21 -/
def b_law_k21 : Sms := (.cons (.for (.rng1 (.bf .max2 (.cons (.int 2) (.cons (.bf .min2 (.cons (.int 5) (.cons (.bf .len (.cons (.loc 0) .nil)) .nil))) .nil)))) (.one 1) l1_law_k21)
  (.cons (.ret (.cmp .nin (.bl false) (.bin .add (.call 190 .nil) (.call 191 .nil))))
  .nil))
def d_law_k21 : Df := ⟨6, false, 1, b_law_k21⟩
abbrev f_law_k21 : Nat := 20
/-- law_k22 -/
def b_law_k22 : Sms := (.cons .nev .nil)
def d_law_k22 : Df := ⟨8, false, 1, b_law_k22⟩
abbrev f_law_k22 : Nat := 21
/-- _law_vat -/
def b__law_vat : Sms := (.cons (.asg 2 (.bin .add (.bin .mul (.int 7919) (.loc 1)) (.int 43)))
  (.cons (.ife (.cmp .lt (.loc 1) (.bf .len (.cons (.loc 0) .nil))) (.cons (.asg 2 (.bf .abs (.cons (.bf .int (.cons (.idx (.loc 0) (.loc 1)) .nil)) .nil)))
  .nil) .nil)
  (.cons (.ret (.lst (.cons (.ite (.cmp .ge (.loc 2) (.bin .pow (.int 10) (.int 18))) (.loc 2) (.int 0)) (.cons (.bin .add (.bin .mod (.bf .int (.cons (.bin .add (.bin .add (.bin .mul (.loc 2) (.int 131071)) (.bin .mul (.int 8191) (.loc 1))) (.int 5)) .nil)) (.int 2147483629)) (.int 1)) .nil))))
  .nil)))
def d__law_vat : Df := ⟨3, false, 2, b__law_vat⟩
abbrev f__law_vat : Nat := 22
def e1__law_script : Ex := (.callv 29 0 .nil)
/-- _law_script -/
def b__law_script : Sms := (.cons (.asg 2 (.bf .tuple (.cons (.lc (.rng1 (.callv 30 0 (.cons (.bin .add (.loc 1) (.int 1)) .nil))) (.one 3) [3] .omit e1__law_script) .nil)))
  (.cons (.ife (.and (.cmp .gt (.callv 30 0 (.cons (.int 3) .nil)) (.int 0)) (.cmp .ne (.loc 2) (.tup .nil))) (.cons (.asg 2 (.bin .add (.slc (.loc 2) .omit (.neg (.int 1))) (.tup (.cons (.tup (.cons (.str (⟨#[114, 105, 110, 103]⟩ : PySem.Str)) .nil)) .nil))))
  .nil) .nil)
  (.cons (.ret (.loc 2))
  .nil)))
def d__law_script : Df := ⟨4, true, 1, b__law_script⟩
abbrev f__law_script : Nat := 23
/-- _law_ratio -/
def b__law_ratio : Sms := (.cons (.asg 2 (.bin .add (.int 1) (.callv 30 0 (.cons (.loc 1) .nil))))
  (.cons (.par [3, 4] (.cons (.bin .add (.bin .fdiv (.loc 2) (.int 5)) (.int 1)) (.cons (.bin .sub (.bin .mul (.int 5) (.loc 2)) (.int 1)) .nil)))
  (.cons (.ret (.call 31 (.cons (.loc 2) (.cons (.bin .add (.loc 3) (.callv 30 0 (.cons (.bin .add (.bin .sub (.loc 4) (.loc 3)) (.int 1)) .nil))) .nil))))
  .nil)))
def d__law_ratio : Df := ⟨5, true, 1, b__law_ratio⟩
abbrev f__law_ratio : Nat := 24
def e1__law_stretch : Ex := (.callv 24 0 (.cons (.callv 32 0 (.cons (.lst (.cons (.int 4) (.cons (.int 9) (.cons (.int 30) .nil)))) .nil)) .nil))
/-- _law_stretch -/
def b__law_stretch : Sms := (.cons (.asg 1 (.bin .add (.lst (.cons (.tup (.cons (.int 1) (.cons (.int 5) .nil))) (.cons (.tup (.cons (.int 5) (.cons (.int 1) .nil))) .nil))) (.lc (.rng1 (.int 3)) (.one 4) [4] .omit e1__law_stretch)))
  (.cons (.par [2, 3] (.cons (.callv 32 0 (.cons (.slc (.loc 1) (.int 2) .omit) .nil)) (.cons (.callv 32 0 (.cons (.loc 1) .nil)) .nil)))
  (.cons (.ife (.cmp .eq (.loc 2) (.loc 3)) (.cons (.ret (.tup (.cons (.loc 2) (.cons (.loc 2) .nil))))
  .nil) .nil)
  (.cons (.ret (.ite (.call 33 (.cons (.loc 2) (.cons (.loc 3) .nil))) (.tup (.cons (.loc 2) (.cons (.loc 3) .nil))) (.tup (.cons (.loc 3) (.cons (.loc 2) .nil)))))
  .nil))))
def d__law_stretch : Df := ⟨5, true, 0, b__law_stretch⟩
abbrev f__law_stretch : Nat := 25
/-- _law_judged -/
def b__law_judged : Sms := (.cons (.ife (.not (.call 35 (.cons (.call 37 (.cons (.loc 0) .nil)) (.cons (.call 34 (.cons (.loc 0) .nil)) .nil)))) (.cons (.ret (.bl false))
  .nil) .nil)
  (.cons (.ife (.not (.call 35 (.cons (.call 38 (.cons (.loc 0) .nil)) (.cons (.call 39 (.cons (.loc 0) .nil)) .nil)))) (.cons (.ret (.bl false))
  .nil) .nil)
  (.cons (.ife (.not (.call 35 (.cons (.call 40 (.cons (.loc 0) .nil)) (.cons (.call 41 (.cons (.loc 0) .nil)) .nil)))) (.cons (.ret (.bl false))
  .nil) .nil)
  (.cons (.ife (.call 34 (.cons (.loc 0) .nil)) (.cons (.asg 1 (.lst (.cons (.call 42 (.cons (.loc 0) .nil)) (.cons (.call 43 (.cons (.loc 0) .nil)) .nil))))
  (.cons (.ret (.cmpB .eq 1 (.lst (.cons (.call 44 (.cons (.loc 0) (.cons (.lst (.cons (.str (⟨#[114, 105, 110, 103]⟩ : PySem.Str)) .nil)) .nil))) (.cons (.call 44 (.cons (.loc 0) (.cons (.lst (.cons (.str (⟨#[99, 111, 117, 110, 116]⟩ : PySem.Str)) (.cons (.str (⟨#[98, 111, 116, 104]⟩ : PySem.Str)) .nil))) .nil))) .nil)))))
  .nil)) .nil)
  (.cons (.asg 1 (.lst (.cons (.lam 36 42 (.cons (.loc 0) .nil)) .nil)))
  (.cons (.app 1 (.lam 36 43 (.cons (.loc 0) .nil)))
  (.cons (.ret (.cmpB .eq 1 (.bin .mul (.lst (.cons (.str (⟨#[115, 99, 114, 105, 112, 116, 32, 118, 97, 108, 117, 101]⟩ : PySem.Str)) .nil)) (.int 2))))
  .nil)))))))
def d__law_judged : Df := ⟨2, false, 1, b__law_judged⟩
abbrev f__law_judged : Nat := 26
/-- _law_bent -/
def b__law_bent : Sms := (.cons .nev .nil)
def d__law_bent : Df := ⟨5, true, 1, b__law_bent⟩
abbrev f__law_bent : Nat := 27
def e1__law_odd : Ex := (.callv 28 0 (.cons (.bin .sub (.loc 1) (.int 1)) .nil))
/-- _law_odd -/
def b__law_odd : Sms := (.cons (.asg 2 (.lst (.cons .non (.cons (.bl true) (.cons (.bl false) (.cons (.int 0) (.cons (.int 1) (.cons (.int 2) (.cons (.int 4) (.cons (.int 5) (.cons (.neg (.int 1)) (.cons (.bin .pow (.int 10) (.int 30)) (.cons (.str (⟨#[]⟩ : PySem.Str)) (.cons (.str (⟨#[114, 105, 110, 103]⟩ : PySem.Str)) (.cons (.str (⟨#[119, 97, 105, 116]⟩ : PySem.Str)) (.cons (.str (⟨#[103, 111]⟩ : PySem.Str)) (.cons (.tup .nil) (.cons (.lst .nil) .nil))))))))))))))))))
  (.cons (.asg 2 (.bin .add (.loc 2) (.lst (.cons (.tup (.cons (.int 1) (.cons (.int 1) .nil))) (.cons (.tup (.cons (.int 1) (.cons (.int 5) .nil))) (.cons (.tup (.cons (.int 5) (.cons (.int 1) .nil))) (.cons (.tup (.cons (.int 4) (.cons (.int 1) .nil))) (.cons (.tup (.cons (.int 2) (.cons (.int 2) .nil))) (.cons (.tup (.cons (.str (⟨#[114, 105, 110, 103]⟩ : PySem.Str)) .nil)) (.cons (.tup (.cons (.str (⟨#[103, 111]⟩ : PySem.Str)) (.cons (.int 0) .nil))) (.cons (.tup (.cons (.str (⟨#[98, 111, 116, 104]⟩ : PySem.Str)) (.cons (.int 1) (.cons (.int 4) .nil)))) .nil)))))))))))
  (.cons (.asg 2 (.bin .add (.loc 2) (.lst (.cons (.tup (.cons (.str (⟨#[119, 97, 105, 116]⟩ : PySem.Str)) (.cons (.int 0) (.cons (.int 5) .nil)))) (.cons (.tup (.cons (.tup (.cons (.int 1) (.cons (.int 5) .nil))) (.cons (.tup (.cons (.int 5) (.cons (.int 1) .nil))) .nil))) (.cons (.tup (.cons (.tup (.cons (.int 1) (.cons (.int 1) .nil))) (.cons (.tup (.cons (.int 1) (.cons (.int 1) .nil))) .nil))) .nil))))))
  (.cons (.ife (.or (.cmp .eq (.loc 1) (.int 0)) (.cmp .lt (.callv 30 0 (.cons (.int 9) .nil)) (.int 6))) (.cons (.ret (.callv 32 0 (.cons (.loc 2) .nil)))
  .nil) .nil)
  (.cons (.asg 3 (.lc (.rng1 (.callv 30 0 (.cons (.int 4) .nil))) (.one 4) [4] .omit e1__law_odd))
  (.cons (.ret (.ite (.cmp .eq (.callv 30 0 (.cons (.int 3) .nil)) (.int 0)) (.loc 3) (.bf .tuple (.cons (.loc 3) .nil))))
  .nil))))))
def d__law_odd : Df := ⟨5, true, 1, b__law_odd⟩
abbrev f__law_odd : Nat := 28
/-- _law_step -/
def b__law_step : Sms := (.cons (.asg 1 (.callv 32 0 (.cons (.lst (.cons (.str (⟨#[119, 97, 105, 116]⟩ : PySem.Str)) (.cons (.str (⟨#[99, 111, 117, 110, 116]⟩ : PySem.Str)) (.cons (.str (⟨#[98, 111, 116, 104]⟩ : PySem.Str)) (.cons (.str (⟨#[99, 111, 117, 110, 116]⟩ : PySem.Str)) (.cons (.str (⟨#[103, 111]⟩ : PySem.Str)) (.cons (.str (⟨#[114, 105, 110, 103]⟩ : PySem.Str)) (.cons (.str (⟨#[119, 97, 105, 116]⟩ : PySem.Str)) (.cons (.str (⟨#[98, 111, 116, 104]⟩ : PySem.Str)) (.cons (.str (⟨#[115, 116, 111, 112]⟩ : PySem.Str)) .nil)))))))))) .nil)))
  (.cons (.ife (.cmp .eq (.loc 1) (.str (⟨#[114, 105, 110, 103]⟩ : PySem.Str))) (.cons (.ret (.tup (.cons (.str (⟨#[114, 105, 110, 103]⟩ : PySem.Str)) .nil)))
  .nil) .nil)
  (.cons (.ife (.cmp .inn (.loc 1) (.tup (.cons (.str (⟨#[103, 111]⟩ : PySem.Str)) (.cons (.str (⟨#[115, 116, 111, 112]⟩ : PySem.Str)) .nil)))) (.cons (.ret (.tup (.cons (.ite (.cmp .eq (.callv 30 0 (.cons (.int 3) .nil)) (.int 0)) (.loc 1) (.str (⟨#[103, 111]⟩ : PySem.Str))) (.cons (.callv 30 0 (.cons (.int 2) .nil)) .nil))))
  .nil) .nil)
  (.cons (.ret (.tup (.cons (.loc 1) (.cons (.callv 30 0 (.cons (.int 2) .nil)) (.cons (.bin .add (.int 1) (.callv 30 0 (.cons (.int 4) .nil))) .nil)))))
  .nil))))
def d__law_step : Df := ⟨2, true, 0, b__law_step⟩
abbrev f__law_step : Nat := 29
/-- _law_under -/
def b__law_under : Sms := (.cons (.ife (.cmp .gt (.idxB 0 (.int 0)) (.int 0)) (.cons (.asg 3 (.bin .mod (.bf .int (.cons (.idxB 0 (.int 0)) .nil)) (.loc 1)))
  (.cons (.set 0 (.int 0) (.bin .fdiv (.idxB 0 (.int 0)) (.loc 1)))
  (.cons (.ret (.loc 3))
  .nil))) .nil)
  (.cons (.set 0 (.int 1) (.bin .mod (.bf .int (.cons (.bin .add (.bin .mul (.idxB 0 (.int 1)) (.int 39373)) (.int 101)) .nil)) (.int 2147483629)))
  (.cons (.asg 2 (.bin .mod (.bf .int (.cons (.bin .mul (.idxB 0 (.int 1)) (.bin .add (.bin .fdiv (.idxB 0 (.int 1)) (.int 5)) (.int 9))) .nil)) (.int 2147483587)))
  (.cons (.ret (.bin .mod (.bf .int (.cons (.bin .fdiv (.loc 2) (.int 32)) .nil)) (.loc 1)))
  .nil))))
def d__law_under : Df := ⟨4, true, 1, b__law_under⟩
abbrev f__law_under : Nat := 30
def c1__law_reduced : Ex := (.cmp .gt (.loc 3) (.int 0))
def l1__law_reduced : Sms := (.cons (.par [2, 3] (.cons (.loc 3) (.cons (.bin .mod (.bf .int (.cons (.loc 2) .nil)) (.loc 3)) .nil)))
  .nil)
/-- _law_reduced -/
def b__law_reduced : Sms := (.cons (.par [2, 3] (.cons (.bf .max2 (.cons (.loc 0) (.cons (.loc 1) .nil))) (.cons (.bf .min2 (.cons (.loc 0) (.cons (.loc 1) .nil))) .nil)))
  (.cons (.whl c1__law_reduced l1__law_reduced)
  (.cons (.ret (.tup (.cons (.bin .fdiv (.loc 0) (.loc 2)) (.cons (.bin .fdiv (.loc 1) (.loc 2)) .nil))))
  .nil)))
def d__law_reduced : Df := ⟨4, false, 2, b__law_reduced⟩
abbrev f__law_reduced : Nat := 31
/-- _law_some -/
def b__law_some : Sms := (.cons (.ret (.idx (.loc 1) (.callv 30 0 (.cons (.bf .len (.cons (.loc 1) .nil)) .nil))))
  .nil)
def d__law_some : Df := ⟨2, true, 1, b__law_some⟩
abbrev f__law_some : Nat := 32
/-- _law_lower -/
def b__law_lower : Sms := (.cons (.ret (.cmp .lt (.bin .mul (.idx (.loc 0) (.int 0)) (.idx (.loc 1) (.int 1))) (.bin .mul (.idx (.loc 0) (.int 1)) (.idx (.loc 1) (.int 0)))))
  .nil)
def d__law_lower : Df := ⟨2, false, 2, b__law_lower⟩
abbrev f__law_lower : Nat := 33
def q1__law_is_script : Ex := (.not (.call 45 (.cons (.loc 1) .nil)))
def e1__law_is_script : Ex := (.loc 1)
/-- _law_is_script -/
def b__law_is_script : Sms := (.cons (.ife (.or (.not (.isi (.loc 0) .tuple)) (.cmp .gt (.bf .len (.cons (.loc 0) .nil)) (.int 8))) (.cons (.ret (.bl false))
  .nil) .nil)
  (.cons (.ret (.cmp .eq (.lc (.loc 0) (.one 1) [1] q1__law_is_script e1__law_is_script) (.lst .nil)))
  .nil))
def d__law_is_script : Df := ⟨2, false, 1, b__law_is_script⟩
abbrev f__law_is_script : Nat := 34
/-- _law_truly -/
def b__law_truly : Sms := (.cons (.ret (.and (.isi (.loc 0) .bool) (.cmp .eq (.loc 0) (.loc 1))))
  .nil)
def d__law_truly : Df := ⟨2, false, 2, b__law_truly⟩
abbrev f__law_truly : Nat := 35
/-- _law_error -/
def b__law_error : Sms := (.cons .nev .nil)
def d__law_error : Df := ⟨1, false, 1, b__law_error⟩
abbrev f__law_error : Nat := 36
def q1_is_script : Ex := (.not (.call 47 (.cons (.loc 1) .nil)))
def e1_is_script : Ex := (.loc 1)
/-- is_script -/
def b_is_script : Sms := (.cons (.ret (.and (.isi (.loc 0) .tuple) (.and (.cmp .le (.bf .len (.cons (.loc 0) .nil)) (.glb 0 (⟨#[77, 79, 83, 84]⟩ : PySem.Str))) (.cmp .eq (.lc (.loc 0) (.one 1) [1] q1_is_script e1_is_script) (.lst .nil)))))
  .nil)
def d_is_script : Df := ⟨2, false, 1, b_is_script⟩
abbrev f_is_script : Nat := 37
/-- is_periods -/
def b_is_periods : Sms := (.cons (.ife (.or (.not (.isi (.loc 0) .tuple)) (.cmp .ne (.bf .len (.cons (.loc 0) .nil)) (.int 2))) (.cons (.ret (.bl false))
  .nil) .nil)
  (.cons (.ife (.or (.not (.call 48 (.cons (.idx (.loc 0) (.int 0)) (.cons (.int 1) (.cons (.glb 1 (⟨#[76, 79, 78, 71, 69, 83, 84]⟩ : PySem.Str)) .nil))))) (.not (.call 48 (.cons (.idx (.loc 0) (.int 1)) (.cons (.int 1) (.cons (.glb 1 (⟨#[76, 79, 78, 71, 69, 83, 84]⟩ : PySem.Str)) .nil)))))) (.cons (.ret (.bl false))
  .nil) .nil)
  (.cons (.ret (.and (.cmp .lt (.idx (.loc 0) (.int 0)) (.bin .mul (.int 5) (.idx (.loc 0) (.int 1)))) (.cmp .lt (.idx (.loc 0) (.int 1)) (.bin .mul (.int 5) (.idx (.loc 0) (.int 0))))))
  .nil)))
def d_is_periods : Df := ⟨1, false, 1, b_is_periods⟩
abbrev f_is_periods : Nat := 38
/-- _law_are_periods -/
def b__law_are_periods : Sms := (.cons (.ife (.or (.not (.isi (.loc 0) .tuple)) (.cmp .ne (.bf .len (.cons (.loc 0) .nil)) (.int 2))) (.cons (.ret (.bl false))
  .nil) .nil)
  (.cons (.ife (.or (.not (.call 49 (.cons (.idx (.loc 0) (.int 0)) (.cons (.int 1) (.cons (.bin .pow (.int 10) (.int 12)) .nil))))) (.not (.call 49 (.cons (.idx (.loc 0) (.int 1)) (.cons (.int 1) (.cons (.bin .pow (.int 10) (.int 12)) .nil)))))) (.cons (.ret (.bl false))
  .nil) .nil)
  (.cons (.ret (.cmp .lt (.bf .max1 (.cons (.loc 0) .nil)) (.bin .mul (.int 5) (.bf .min1 (.cons (.loc 0) .nil)))))
  .nil)))
def d__law_are_periods : Df := ⟨1, false, 1, b__law_are_periods⟩
abbrev f__law_are_periods : Nat := 39
/-- is_stretch -/
def b_is_stretch : Sms := (.cons (.ife (.or (.not (.isi (.loc 0) .tuple)) (.cmp .ne (.bf .len (.cons (.loc 0) .nil)) (.int 2))) (.cons (.ret (.bl false))
  .nil) .nil)
  (.cons (.ife (.or (.not (.call 51 (.cons (.idx (.loc 0) (.int 0)) (.cons (.glb 2 (⟨#[76, 79, 87, 69, 83, 84]⟩ : PySem.Str)) .nil)))) (.not (.call 51 (.cons (.idx (.loc 0) (.int 1)) (.cons (.glb 3 (⟨#[72, 73, 71, 72, 69, 83, 84]⟩ : PySem.Str)) .nil))))) (.cons (.ret (.bl false))
  .nil) .nil)
  (.cons (.ret (.or (.cmp .eq (.idx (.loc 0) (.int 0)) (.idx (.loc 0) (.int 1))) (.call 50 (.cons (.idx (.loc 0) (.int 0)) (.cons (.idx (.loc 0) (.int 1)) .nil)))))
  .nil)))
def d_is_stretch : Df := ⟨1, false, 1, b_is_stretch⟩
abbrev f_is_stretch : Nat := 40
def q2__law_is_stretch : Ex := (.not (.call 49 (.cons (.loc 3) (.cons (.int 1) (.cons (.int 5) .nil)))))
def e2__law_is_stretch : Ex := (.loc 3)
def l1__law_is_stretch : Sms := (.cons (.ife (.not (.call 52 (.cons (.loc 1) .nil))) (.cons (.ife (.or (.not (.isi (.loc 1) .tuple)) (.cmp .ne (.loc 1) (.loc 2))) (.cons (.ret (.bl false))
  .nil) .nil)
  (.cons (.ife (.cmp .ne (.lc (.loc 1) (.one 3) [3] q2__law_is_stretch e2__law_is_stretch) (.lst .nil)) (.cons (.ret (.bl false))
  .nil) .nil)
  .nil)) .nil)
  .nil)
/-- _law_is_stretch -/
def b__law_is_stretch : Sms := (.cons (.ife (.or (.not (.isi (.loc 0) .tuple)) (.cmp .ne (.bf .len (.cons (.loc 0) .nil)) (.int 2))) (.cons (.ret (.bl false))
  .nil) .nil)
  (.cons (.for (.zip (.loc 0) (.lst (.cons (.tup (.cons (.int 1) (.cons (.int 5) .nil))) (.cons (.tup (.cons (.int 5) (.cons (.int 1) .nil))) .nil)))) (.many [1, 2]) l1__law_is_stretch)
  (.cons (.ret (.or (.cmp .eq (.idx (.loc 0) (.int 0)) (.idx (.loc 0) (.int 1))) (.call 33 (.cons (.idx (.loc 0) (.int 0)) (.cons (.idx (.loc 0) (.int 1)) .nil)))))
  .nil)))
def d__law_is_stretch : Df := ⟨4, false, 1, b__law_is_stretch⟩
abbrev f__law_is_stretch : Nat := 41
/-- count_rings -/
def b_count_rings : Sms := (.cons (.ex (.call 53 (.cons (.loc 0) .nil)))
  (.cons (.ret (.call 54 (.cons (.loc 0) .nil)))
  .nil))
def d_count_rings : Df := ⟨1, false, 1, b_count_rings⟩
abbrev f_count_rings : Nat := 42
/-- count_answers -/
def b_count_answers : Sms := (.cons (.ex (.call 53 (.cons (.loc 0) .nil)))
  (.cons (.ret (.call 55 (.cons (.loc 0) .nil)))
  .nil))
def d_count_answers : Df := ⟨1, false, 1, b_count_answers⟩
abbrev f_count_answers : Nat := 43
def q1__law_count : Ex := (.cmp .inn (.idx (.loc 2) (.int 0)) (.loc 1))
def e1__law_count : Ex := (.loc 2)
/-- _law_count -/
def b__law_count : Sms := (.cons (.ret (.bf .len (.cons (.lc (.loc 0) (.one 2) [2] q1__law_count e1__law_count) .nil)))
  .nil)
def d__law_count : Df := ⟨3, false, 2, b__law_count⟩
abbrev f__law_count : Nat := 44
/-- _law_is_step -/
def b__law_is_step : Sms := (.cons (.ife (.or (.not (.isi (.loc 0) .tuple)) (.or (.cmp .nin (.bf .len (.cons (.loc 0) .nil)) (.tup (.cons (.int 1) (.cons (.int 2) (.cons (.int 3) .nil))))) (.not (.isi (.idx (.loc 0) (.int 0)) .str)))) (.cons (.ret (.bl false))
  .nil) .nil)
  (.cons (.ife (.cmp .eq (.bf .len (.cons (.loc 0) .nil)) (.int 1)) (.cons (.ret (.cmp .eq (.idx (.loc 0) (.int 0)) (.str (⟨#[114, 105, 110, 103]⟩ : PySem.Str))))
  .nil) .nil)
  (.cons (.ife (.not (.call 49 (.cons (.idx (.loc 0) (.int 1)) (.cons (.int 0) (.cons (.int 1) .nil))))) (.cons (.ret (.bl false))
  .nil) .nil)
  (.cons (.ife (.cmp .eq (.bf .len (.cons (.loc 0) .nil)) (.int 2)) (.cons (.ret (.cmp .inn (.idx (.loc 0) (.int 0)) (.tup (.cons (.str (⟨#[103, 111]⟩ : PySem.Str)) (.cons (.str (⟨#[115, 116, 111, 112]⟩ : PySem.Str)) .nil)))))
  .nil) .nil)
  (.cons (.ret (.and (.cmp .inn (.idx (.loc 0) (.int 0)) (.tup (.cons (.str (⟨#[119, 97, 105, 116]⟩ : PySem.Str)) (.cons (.str (⟨#[99, 111, 117, 110, 116]⟩ : PySem.Str)) (.cons (.str (⟨#[98, 111, 116, 104]⟩ : PySem.Str)) .nil))))) (.call 49 (.cons (.idx (.loc 0) (.int 2)) (.cons (.int 1) (.cons (.int 4) .nil))))))
  .nil)))))
def d__law_is_step : Df := ⟨1, false, 1, b__law_is_step⟩
abbrev f__law_is_step : Nat := 45
/-- _law_names -/
def b__law_names : Sms := (.cons .nev .nil)
def d__law_names : Df := ⟨5, false, 1, b__law_names⟩
abbrev f__law_names : Nat := 46
/-- is_step -/
def b_is_step : Sms := (.cons (.ife (.or (.not (.isi (.loc 0) .tuple)) (.or (.cmp .eq (.loc 0) (.tup .nil)) (.not (.isi (.idx (.loc 0) (.int 0)) .str)))) (.cons (.ret (.bl false))
  .nil) .nil)
  (.cons (.ife (.cmp .eq (.idx (.loc 0) (.int 0)) (.str (⟨#[114, 105, 110, 103]⟩ : PySem.Str))) (.cons (.ret (.cmp .eq (.bf .len (.cons (.loc 0) .nil)) (.int 1)))
  .nil) .nil)
  (.cons (.ife (.or (.cmp .lt (.bf .len (.cons (.loc 0) .nil)) (.int 2)) (.not (.call 48 (.cons (.idx (.loc 0) (.int 1)) (.cons (.int 0) (.cons (.int 1) .nil)))))) (.cons (.ret (.bl false))
  .nil) .nil)
  (.cons (.ife (.cmp .inn (.idx (.loc 0) (.int 0)) (.tup (.cons (.str (⟨#[103, 111]⟩ : PySem.Str)) (.cons (.str (⟨#[115, 116, 111, 112]⟩ : PySem.Str)) .nil)))) (.cons (.ret (.cmp .eq (.bf .len (.cons (.loc 0) .nil)) (.int 2)))
  .nil) .nil)
  (.cons (.ret (.and (.cmp .inn (.idx (.loc 0) (.int 0)) (.tup (.cons (.str (⟨#[119, 97, 105, 116]⟩ : PySem.Str)) (.cons (.str (⟨#[99, 111, 117, 110, 116]⟩ : PySem.Str)) (.cons (.str (⟨#[98, 111, 116, 104]⟩ : PySem.Str)) .nil))))) (.and (.cmp .eq (.bf .len (.cons (.loc 0) .nil)) (.int 3)) (.call 48 (.cons (.idx (.loc 0) (.int 2)) (.cons (.int 1) (.cons (.int 4) .nil)))))))
  .nil)))))
def d_is_step : Df := ⟨1, false, 1, b_is_step⟩
abbrev f_is_step : Nat := 47
/-- is_whole -/
def b_is_whole : Sms := (.cons (.ret (.and (.isi (.loc 0) .int) (.and (.not (.isi (.loc 0) .bool)) (.chain .le .le (.loc 1) (.loc 0) (.loc 2)))))
  .nil)
def d_is_whole : Df := ⟨3, false, 3, b_is_whole⟩
abbrev f_is_whole : Nat := 48
/-- _law_is_whole -/
def b__law_is_whole : Sms := (.cons (.ret (.and (.isi (.loc 0) .int) (.and (.not (.isi (.loc 0) .bool)) (.chain .le .le (.loc 1) (.loc 0) (.loc 2)))))
  .nil)
def d__law_is_whole : Df := ⟨3, false, 3, b__law_is_whole⟩
abbrev f__law_is_whole : Nat := 49
/-- less -/
def b_less : Sms := (.cons (.ret (.cmp .lt (.bin .mul (.idx (.loc 0) (.int 0)) (.idx (.loc 1) (.int 1))) (.bin .mul (.idx (.loc 1) (.int 0)) (.idx (.loc 0) (.int 1)))))
  .nil)
def d_less : Df := ⟨2, false, 2, b_less⟩
abbrev f_less : Nat := 50
/-- is_end -/
def b_is_end : Sms := (.cons (.ret (.or (.call 56 (.cons (.loc 0) .nil)) (.and (.call 57 (.cons (.loc 0) .nil)) (.cmp .eq (.loc 0) (.loc 1)))))
  .nil)
def d_is_end : Df := ⟨2, false, 2, b_is_end⟩
abbrev f_is_end : Nat := 51
/-- _law_is_ratio -/
def b__law_is_ratio : Sms := (.cons (.ret (.and (.call 39 (.cons (.loc 0) .nil)) (.cmp .eq (.call 31 (.cons (.idx (.loc 0) (.int 0)) (.cons (.idx (.loc 0) (.int 1)) .nil))) (.loc 0))))
  .nil)
def d__law_is_ratio : Df := ⟨1, false, 1, b__law_is_ratio⟩
abbrev f__law_is_ratio : Nat := 52
/-- need_script -/
def b_need_script : Sms := (.cons (.ife (.not (.call 37 (.cons (.loc 0) .nil))) (.cons (.raise (⟨#[73, 110, 118, 97, 108, 105, 100, 83, 99, 114, 105, 112, 116]⟩ : PySem.Str) (⟨#[110, 111, 116, 32, 97, 32, 115, 99, 114, 105, 112, 116]⟩ : PySem.Str))
  .nil) .nil)
  .nil)
def d_need_script : Df := ⟨1, false, 1, b_need_script⟩
abbrev f_need_script : Nat := 53
def q1_rings_in : Ex := (.cmp .eq (.idx (.loc 1) (.int 0)) (.str (⟨#[114, 105, 110, 103]⟩ : PySem.Str)))
def e1_rings_in : Ex := (.loc 1)
/-- rings_in -/
def b_rings_in : Sms := (.cons (.ret (.bf .len (.cons (.lc (.loc 0) (.one 1) [1] q1_rings_in e1_rings_in) .nil)))
  .nil)
def d_rings_in : Df := ⟨2, false, 1, b_rings_in⟩
abbrev f_rings_in : Nat := 54
def q1_answers_in : Ex := (.cmp .inn (.idx (.loc 1) (.int 0)) (.tup (.cons (.str (⟨#[99, 111, 117, 110, 116]⟩ : PySem.Str)) (.cons (.str (⟨#[98, 111, 116, 104]⟩ : PySem.Str)) .nil))))
def e1_answers_in : Ex := (.loc 1)
/-- answers_in -/
def b_answers_in : Sms := (.cons (.ret (.bf .len (.cons (.lc (.loc 0) (.one 1) [1] q1_answers_in e1_answers_in) .nil)))
  .nil)
def d_answers_in : Df := ⟨2, false, 1, b_answers_in⟩
abbrev f_answers_in : Nat := 55
/-- is_ratio -/
def b_is_ratio : Sms := (.cons (.ret (.and (.call 38 (.cons (.loc 0) .nil)) (.cmp .eq (.call 58 (.cons (.idx (.loc 0) (.int 0)) (.cons (.idx (.loc 0) (.int 1)) .nil))) (.int 1))))
  .nil)
def d_is_ratio : Df := ⟨1, false, 1, b_is_ratio⟩
abbrev f_is_ratio : Nat := 56
/-- is_plain_pair -/
def b_is_plain_pair : Sms := (.cons (.ret (.and (.isi (.loc 0) .tuple) (.and (.cmp .eq (.bf .len (.cons (.loc 0) .nil)) (.int 2)) (.and (.call 48 (.cons (.idx (.loc 0) (.int 0)) (.cons (.int 1) (.cons (.int 5) .nil)))) (.call 48 (.cons (.idx (.loc 0) (.int 1)) (.cons (.int 1) (.cons (.int 5) .nil))))))))
  .nil)
def d_is_plain_pair : Df := ⟨1, false, 1, b_is_plain_pair⟩
abbrev f_is_plain_pair : Nat := 57
def c1_divisor : Ex := (.cmp .gt (.loc 3) (.int 0))
def l1_divisor : Sms := (.cons (.par [2, 3] (.cons (.loc 3) (.cons (.bin .mod (.loc 2) (.loc 3)) .nil)))
  .nil)
/-- divisor -/
def b_divisor : Sms := (.cons (.par [2, 3] (.cons (.bf .abs (.cons (.loc 0) .nil)) (.cons (.bf .abs (.cons (.loc 1) .nil)) .nil)))
  (.cons (.whl c1_divisor l1_divisor)
  (.cons (.ret (.loc 2))
  .nil)))
def d_divisor : Df := ⟨4, false, 2, b_divisor⟩
abbrev f_divisor : Nat := 58
/-- _law_right -/
def b__law_right : Sms := (.cons (.unp [2, 3, 4, 5] (.call 63 (.cons (.loc 0) (.cons (.loc 1) .nil))))
  (.cons (.ife (.or (.cmp .ne (.call 60 (.cons (.loc 0) (.cons (.loc 1) .nil))) (.loc 5)) (.cmp .ne (.call 61 (.cons (.loc 0) (.cons (.loc 1) .nil))) (.loc 4))) (.cons (.ret (.bl false))
  .nil) .nil)
  (.cons (.ret (.cmp .eq (.call 62 (.cons (.loc 0) (.cons (.loc 1) .nil))) (.loc 2)))
  .nil)))
def d__law_right : Df := ⟨6, false, 2, b__law_right⟩
abbrev f__law_right : Nat := 59
/-- rings -/
def b_rings : Sms := (.cons (.ex (.call 53 (.cons (.loc 0) .nil)))
  (.cons (.ex (.call 64 (.cons (.loc 1) .nil)))
  (.cons (.ret (.bf .list (.cons (.idx (.call 65 (.cons (.loc 0) (.cons (.loc 1) .nil))) (.int 3)) .nil)))
  .nil)))
def d_rings : Df := ⟨2, false, 2, b_rings⟩
abbrev f_rings : Nat := 60
/-- answers -/
def b_answers : Sms := (.cons (.ex (.call 53 (.cons (.loc 0) .nil)))
  (.cons (.ex (.call 64 (.cons (.loc 1) .nil)))
  (.cons (.ret (.idx (.call 65 (.cons (.loc 0) (.cons (.loc 1) .nil))) (.int 2)))
  .nil)))
def d_answers : Df := ⟨2, false, 2, b_answers⟩
abbrev f_answers : Nat := 61
/-- end_time -/
def b_end_time : Sms := (.cons (.ex (.call 53 (.cons (.loc 0) .nil)))
  (.cons (.ex (.call 64 (.cons (.loc 1) .nil)))
  (.cons (.ret (.idx (.call 65 (.cons (.loc 0) (.cons (.loc 1) .nil))) (.int 0)))
  .nil)))
def d_end_time : Df := ⟨2, false, 2, b_end_time⟩
abbrev f_end_time : Nat := 62
/-- _law_fate -/
def b__law_fate : Sms := (.cons .nev .nil)
def d__law_fate : Df := ⟨15, false, 2, b__law_fate⟩
abbrev f__law_fate : Nat := 63
/-- need_periods -/
def b_need_periods : Sms := (.cons (.ife (.not (.call 38 (.cons (.loc 0) .nil))) (.cons (.raise (⟨#[73, 110, 118, 97, 108, 105, 100, 80, 101, 114, 105, 111, 100, 115]⟩ : PySem.Str) (⟨#[110, 111, 116, 32, 97, 32, 112, 97, 105, 114, 32, 111, 102, 32, 112, 101, 114, 105, 111, 100, 115]⟩ : PySem.Str))
  .nil) .nil)
  .nil)
def d_need_periods : Df := ⟨1, false, 1, b_need_periods⟩
abbrev f_need_periods : Nat := 64
def l1_led : Sms := (.cons (.asg 2 (.call 67 (.cons (.loc 1) (.cons (.loc 2) (.cons (.loc 3) .nil)))))
  .nil)
/-- led -/
def b_led : Sms := (.cons (.asg 2 (.call 66 (.cons (.loc 1) .nil)))
  (.cons (.for (.loc 0) (.one 3) l1_led)
  (.cons (.ret (.loc 2))
  .nil)))
def d_led : Df := ⟨4, false, 2, b_led⟩
abbrev f_led : Nat := 65
/-- first_stand -/
def b_first_stand : Sms := (.cons (.ret (.tup (.cons (.int 0) (.cons (.loc 0) (.cons (.tup .nil) (.cons (.tup .nil) .nil))))))
  .nil)
def d_first_stand : Df := ⟨1, false, 1, b_first_stand⟩
abbrev f_first_stand : Nat := 66
/-- behind_step -/
def b_behind_step : Sms := (.cons (.unp [6, 7, 8, 9] (.loc 1))
  (.cons (.ife (.cmp .eq (.idx (.loc 2) (.int 0)) (.str (⟨#[114, 105, 110, 103]⟩ : PySem.Str))) (.cons (.ret (.tup (.cons (.loc 6) (.cons (.loc 7) (.cons (.loc 8) (.cons (.bin .add (.loc 9) (.tup (.cons (.loc 6) .nil))) .nil))))))
  .nil) .nil)
  (.cons (.asg 3 (.idx (.loc 2) (.int 1)))
  (.cons (.ife (.cmp .inn (.idx (.loc 2) (.int 0)) (.tup (.cons (.str (⟨#[103, 111]⟩ : PySem.Str)) (.cons (.str (⟨#[115, 116, 111, 112]⟩ : PySem.Str)) .nil)))) (.cons (.ret (.call 69 (.cons (.loc 0) (.cons (.loc 1) (.cons (.loc 3) (.cons (.cmp .eq (.idx (.loc 2) (.int 0)) (.str (⟨#[103, 111]⟩ : PySem.Str))) .nil))))))
  .nil) .nil)
  (.cons (.ife (.cmp .isN (.idx (.loc 7) (.loc 3)) .non) (.cons (.ret (.ite (.cmp .eq (.idx (.loc 2) (.int 0)) (.str (⟨#[119, 97, 105, 116]⟩ : PySem.Str))) (.loc 1) (.tup (.cons (.loc 6) (.cons (.loc 7) (.cons (.bin .add (.loc 8) (.tup (.cons (.int 0) .nil))) (.cons (.loc 9) .nil)))))))
  .nil) .nil)
  (.cons (.asg 4 (.bin .add (.idx (.loc 7) (.loc 3)) (.bin .mul (.bin .sub (.idx (.loc 2) (.int 2)) (.int 1)) (.idx (.loc 0) (.loc 3)))))
  (.cons (.asg 5 (.tup .nil))
  (.cons (.ife (.cmp .eq (.idx (.loc 2) (.int 0)) (.str (⟨#[99, 111, 117, 110, 116]⟩ : PySem.Str))) (.cons (.asg 5 (.tup (.cons (.call 71 (.cons (.loc 0) (.cons (.loc 1) (.cons (.bin .sub (.int 1) (.loc 3)) (.cons (.loc 4) .nil))))) .nil)))
  .nil) .nil)
  (.cons (.ife (.cmp .eq (.idx (.loc 2) (.int 0)) (.str (⟨#[98, 111, 116, 104]⟩ : PySem.Str))) (.cons (.unp [4, 10] (.call 70 (.cons (.loc 0) (.cons (.loc 1) (.cons (.loc 3) (.cons (.idx (.loc 2) (.int 2)) .nil))))))
  (.cons (.asg 5 (.tup (.cons (.loc 10) .nil)))
  .nil)) .nil)
  (.cons (.ret (.call 68 (.cons (.loc 0) (.cons (.tup (.cons (.loc 6) (.cons (.loc 7) (.cons (.bin .add (.loc 8) (.loc 5)) (.cons (.loc 9) .nil))))) (.cons (.loc 4) .nil)))))
  .nil))))))))))
def d_behind_step : Df := ⟨11, false, 3, b_behind_step⟩
abbrev f_behind_step : Nat := 67
def l1_passed : Sms := (.cons (.ife (.and (.cmp .notN (.idx (.loc 5) (.loc 3)) .non) (.cmp .le (.idx (.loc 5) (.loc 3)) (.loc 2))) (.cons (.asg 5 (.call 72 (.cons (.loc 5) (.cons (.loc 3) (.cons (.bin .add (.idx (.loc 5) (.loc 3)) (.bin .mul (.bin .add (.bin .fdiv (.bin .sub (.loc 2) (.idx (.loc 5) (.loc 3))) (.idx (.loc 0) (.loc 3))) (.int 1)) (.idx (.loc 0) (.loc 3)))) .nil)))))
  .nil) .nil)
  .nil)
/-- passed -/
def b_passed : Sms := (.cons (.unp [4, 5, 6, 7] (.loc 1))
  (.cons (.for (.tup (.cons (.int 0) (.cons (.int 1) .nil))) (.one 3) l1_passed)
  (.cons (.ret (.tup (.cons (.loc 2) (.cons (.loc 5) (.cons (.loc 6) (.cons (.loc 7) .nil))))))
  .nil)))
def d_passed : Df := ⟨8, false, 3, b_passed⟩
abbrev f_passed : Nat := 68
/-- behind_go -/
def b_behind_go : Sms := (.cons (.unp [4, 5, 6, 7] (.loc 1))
  (.cons (.ret (.tup (.cons (.loc 4) (.cons (.call 72 (.cons (.loc 5) (.cons (.loc 2) (.cons (.ite (.loc 3) (.bin .add (.loc 4) (.idx (.loc 0) (.loc 2))) .non) .nil)))) (.cons (.loc 6) (.cons (.loc 7) .nil))))))
  .nil))
def d_behind_go : Df := ⟨8, false, 4, b_behind_go⟩
abbrev f_behind_go : Nat := 69
def l1_first_both : Sms := (.cons (.asg 7 (.bin .add (.loc 5) (.bin .mul (.loc 4) (.idx (.loc 0) (.loc 2)))))
  (.cons (.ife (.and (.cmp .notN (.loc 6) .non) (.and (.cmp .ge (.loc 7) (.loc 6)) (.cmp .eq (.bin .mod (.bin .sub (.loc 7) (.loc 6)) (.idx (.loc 0) (.bin .sub (.int 1) (.loc 2)))) (.int 0)))) (.cons (.ret (.tup (.cons (.loc 7) (.cons (.int 1) .nil))))
  .nil) .nil)
  .nil))
/-- first_both -/
def b_first_both : Sms := (.cons (.par [5, 6] (.cons (.idx (.idx (.loc 1) (.int 1)) (.loc 2)) (.cons (.idx (.idx (.loc 1) (.int 1)) (.bin .sub (.int 1) (.loc 2))) .nil)))
  (.cons (.for (.rng1 (.loc 3)) (.one 4) l1_first_both)
  (.cons (.ret (.tup (.cons (.bin .add (.loc 5) (.bin .mul (.bin .sub (.loc 3) (.int 1)) (.idx (.loc 0) (.loc 2)))) (.cons (.int 0) .nil))))
  .nil)))
def d_first_both : Df := ⟨8, false, 4, b_first_both⟩
abbrev f_first_both : Nat := 70
/-- ticked -/
def b_ticked : Sms := (.cons (.asg 4 (.idx (.idx (.loc 1) (.int 1)) (.loc 2)))
  (.cons (.ret (.ite (.or (.cmp .isN (.loc 4) .non) (.cmp .gt (.loc 4) (.loc 3))) (.int 0) (.bin .add (.bin .fdiv (.bin .sub (.loc 3) (.loc 4)) (.idx (.loc 0) (.loc 2))) (.int 1))))
  .nil))
def d_ticked : Df := ⟨5, false, 4, b_ticked⟩
abbrev f_ticked : Nat := 71
/-- put -/
def b_put : Sms := (.cons (.ret (.ite (.cmp .eq (.loc 1) (.int 0)) (.tup (.cons (.loc 2) (.cons (.idx (.loc 0) (.int 1)) .nil))) (.tup (.cons (.idx (.loc 0) (.int 0)) (.cons (.loc 2) .nil)))))
  .nil)
def d_put : Df := ⟨3, false, 3, b_put⟩
abbrev f_put : Nat := 72
/-- _law_with_ring -/
def b__law_with_ring : Sms := (.cons (.asg 2 (.callv 23 0 (.cons (.loc 1) .nil)))
  (.cons (.ret (.ite (.cmp .inn (.tup (.cons (.str (⟨#[114, 105, 110, 103]⟩ : PySem.Str)) .nil)) (.loc 2)) (.loc 2) (.bin .add (.slc (.loc 2) .omit (.bin .sub (.loc 1) (.int 1))) (.tup (.cons (.tup (.cons (.str (⟨#[114, 105, 110, 103]⟩ : PySem.Str)) .nil)) .nil)))))
  .nil))
def d__law_with_ring : Df := ⟨3, true, 1, b__law_with_ring⟩
abbrev f__law_with_ring : Nat := 73
/-- _law_all -/
def b__law_all : Sms := (.cons (.ret (.call 85 (.cons (.loc 0) (.cons (.tup (.cons (.int 1) (.cons (.int 5) .nil))) (.cons (.tup (.cons (.int 5) (.cons (.int 1) .nil))) .nil)))))
  .nil)
def d__law_all : Df := ⟨1, false, 1, b__law_all⟩
abbrev f__law_all : Nat := 74
def l1_ring_forms : Sms := (.cons (.unp [5, 6, 7] (.idx (.loc 3) (.loc 2)))
  (.cons (.ife (.and (.cmp .gt (.loc 2) (.int 0)) (.and (.cmp .eq (.idx (.idx (.loc 3) (.bin .sub (.loc 2) (.int 2))) (.int 2)) (.loc 7)) (.cmp .eq (.idx (.idx (.loc 3) (.bin .sub (.loc 2) (.int 1))) (.int 2)) (.call 88 (.cons (.loc 7) (.cons (.loc 5) .nil)))))) (.cons (.set 4 (.neg (.int 1)) (.tup (.cons (.tup (.cons (.idx (.idx (.idxB 4 (.neg (.int 1))) (.int 0)) (.int 0)) (.cons (.loc 6) .nil))) (.cons (.loc 7) .nil))))
  .nil) (.cons (.app 4 (.tup (.cons (.tup (.cons (.loc 5) (.cons (.loc 6) .nil))) (.cons (.loc 7) .nil))))
  .nil))
  .nil))
/-- ring_forms -/
def b_ring_forms : Sms := (.cons (.ex (.call 53 (.cons (.loc 0) .nil)))
  (.cons (.ex (.call 86 (.cons (.loc 1) (.cons (.call 54 (.cons (.loc 0) .nil)) .nil))))
  (.cons (.par [3, 4] (.cons (.call 87 (.cons (.loc 0) (.cons (.loc 1) .nil))) (.cons (.lst .nil) .nil)))
  (.cons (.for (.rng3 (.int 0) (.bf .len (.cons (.loc 3) .nil)) (2)) (.one 2) l1_ring_forms)
  (.cons (.ret (.loc 4))
  .nil)))))
def d_ring_forms : Df := ⟨8, false, 2, b_ring_forms⟩
abbrev f_ring_forms : Nat := 75
/-- _law_whole -/
def b__law_whole : Sms := (.cons (.ret (.tup (.cons (.tup (.cons (.int 1) (.cons (.int 5) .nil))) (.cons (.tup (.cons (.int 5) (.cons (.int 1) .nil))) .nil))))
  .nil)
def d__law_whole : Df := ⟨0, false, 0, b__law_whole⟩
abbrev f__law_whole : Nat := 76
def c1__law_due_k03 : Ex := (.cmp .lt (.loc 4) (.bf .len (.cons (.loc 2) .nil)))
def c2__law_due_k03 : Ex := (.and (.cmp .lt (.bin .add (.loc 4) (.int 2)) (.bf .len (.cons (.loc 2) .nil))) (.cmp .eq (.idx (.idx (.loc 2) (.bin .add (.loc 4) (.int 2))) (.int 2)) (.loc 7)))
def l2__law_due_k03 : Sms := (.cons (.ife (.cmp .ne (.idx (.idx (.loc 2) (.bin .add (.loc 4) (.int 1))) (.int 2)) (.call 90 (.cons (.loc 7) (.cons (.loc 6) .nil)))) (.cons .brk
  .nil) .nil)
  (.cons (.asg 4 (.bin .add (.loc 4) (.int 2)))
  (.cons (.asg 6 (.idx (.idx (.loc 2) (.loc 4)) (.int 1)))
  .nil)))
def l1__law_due_k03 : Sms := (.cons (.unp [5, 6, 7] (.idx (.loc 2) (.loc 4)))
  (.cons (.whl c2__law_due_k03 l2__law_due_k03)
  (.cons (.app 3 (.tup (.cons (.tup (.cons (.loc 5) (.cons (.loc 6) .nil))) (.cons (.loc 7) .nil))))
  (.cons (.asg 4 (.bin .add (.loc 4) (.int 2)))
  .nil))))
/-- _law_due_k03 -/
def b__law_due_k03 : Sms := (.cons (.par [2, 3, 4] (.cons (.call 89 (.cons (.loc 0) (.cons (.loc 1) .nil))) (.cons (.lst .nil) (.cons (.int 0) .nil))))
  (.cons (.whl c1__law_due_k03 l1__law_due_k03)
  (.cons (.ret (.loc 3))
  .nil)))
def d__law_due_k03 : Df := ⟨8, false, 2, b__law_due_k03⟩
abbrev f__law_due_k03 : Nat := 77
def l1__law_due_k04 : Sms := (.cons (.par [6, 7] (.cons (.idx (.idx (.loc 3) (.loc 2)) (.int 0)) (.cons (.idx (.idx (.loc 3) (.loc 2)) (.int 2)) .nil)))
  (.cons (.asg 5 (.lst (.cons (.call 90 (.cons (.idx (.idx (.loc 3) (.bin .sub (.loc 2) (.int 1))) (.int 2)) (.cons (.loc 6) .nil))) .nil)))
  (.cons (.app 5 (.call 90 (.cons (.idx (.idx (.loc 3) (.bin .add (.loc 2) (.int 1))) (.int 2)) (.cons (.loc 6) .nil))))
  (.cons (.ife (.cmpB .ne 5 (.lst (.cons (.loc 7) (.cons (.loc 7) .nil)))) (.cons (.app 4 (.loc 6))
  .nil) .nil)
  .nil))))
/-- _law_due_k04 -/
def b__law_due_k04 : Sms := (.cons (.par [3, 4] (.cons (.call 89 (.cons (.loc 0) (.cons (.loc 1) .nil))) (.cons (.lst .nil) .nil)))
  (.cons (.for (.rng3 (.int 1) (.bf .len (.cons (.loc 3) .nil)) (2)) (.one 2) l1__law_due_k04)
  (.cons (.ret (.loc 4))
  .nil)))
def d__law_due_k04 : Df := ⟨8, false, 2, b__law_due_k04⟩
abbrev f__law_due_k04 : Nat := 78
def e2__law_due_k05 : Ex := (.idx (.loc 4) (.int 2))
def e3__law_due_k05 : Ex := (.tup (.cons (.loc 8) (.cons (.loc 9) (.cons (.cmp .eq (.loc 10) (.loc 6)) .nil))))
def l1__law_due_k05 : Sms := (.cons (.asg 7 (.lc (.loc 3) (.many [8, 9, 10]) [8, 9, 10] .omit e3__law_due_k05))
  (.cons (.app 5 (.tup (.cons (.loc 6) (.cons (.call 116 (.cons (.loc 7) .nil)) .nil))))
  .nil))
def l4__law_due_k05 : Sms := (.cons (.asg 3 (.bin .add (.loc 3) (.call 115 (.cons (.loc 4) (.cons (.loc 2) .nil)))))
  .nil)
/-- _law_due_k05 -/
def b__law_due_k05 : Sms := (.cons (.asg 3 (.lst .nil))
  (.cons (.for (.call 89 (.cons (.loc 0) (.cons (.loc 1) .nil))) (.one 4) l4__law_due_k05)
  (.cons (.asg 5 (.lst .nil))
  (.cons (.for (.sset (.lc (.loc 3) (.one 4) [4] .omit e2__law_due_k05)) (.one 6) l1__law_due_k05)
  (.cons (.ret (.loc 5))
  .nil)))))
def d__law_due_k05 : Df := ⟨11, false, 3, b__law_due_k05⟩
abbrev f__law_due_k05 : Nat := 79
def l1__law_due_k06 : Sms := (.cons (.asg 4 (.ite (.call 33 (.cons (.loc 6) (.cons (.loc 4) .nil))) (.loc 6) (.loc 4)))
  (.cons (.asg 5 (.ite (.call 33 (.cons (.loc 5) (.cons (.loc 6) .nil))) (.loc 6) (.loc 5)))
  .nil))
/-- _law_due_k06 -/
def b__law_due_k06 : Sms := (.cons (.asg 3 (.call 121 (.cons (.loc 0) (.cons (.loc 1) (.cons (.loc 2) .nil)))))
  (.cons (.par [4, 5] (.cons (.idx (.idx (.loc 3) (.int 0)) (.int 0)) (.cons (.idx (.idx (.loc 3) (.int 0)) (.int 0)) .nil)))
  (.cons (.for (.loc 3) (.many [6, 7]) l1__law_due_k06)
  (.cons (.ret (.tup (.cons (.tup (.cons (.loc 4) (.cons (.cmp .inn (.tup (.cons (.loc 4) (.cons (.bl true) .nil))) (.loc 3)) .nil))) (.cons (.tup (.cons (.loc 5) (.cons (.cmp .inn (.tup (.cons (.loc 5) (.cons (.bl true) .nil))) (.loc 3)) .nil))) .nil))))
  .nil))))
def d__law_due_k06 : Df := ⟨8, false, 3, b__law_due_k06⟩
abbrev f__law_due_k06 : Nat := 80
def e2__law_due_k07 : Ex := (.tup (.cons (.idx (.loc 5) (.int 0)) (.cons (.idx (.loc 5) (.int 1)) (.cons (.cmp .eq (.idx (.loc 5) (.int 2)) (.idx (.loc 1) (.int 2))) .nil))))
def l1__law_due_k07 : Sms := (.cons (.ife (.ninB (.idx (.loc 1) (.int 2)) 3) (.cons (.app 3 (.idx (.loc 1) (.int 2)))
  (.cons (.asg 4 (.lc (.loc 0) (.one 5) [5] .omit e2__law_due_k07))
  (.cons (.app 2 (.tup (.cons (.call 116 (.cons (.loc 4) .nil)) (.cons (.idx (.loc 1) (.int 2)) .nil))))
  .nil))) .nil)
  .nil)
/-- _law_due_k07 -/
def b__law_due_k07 : Sms := (.cons (.par [2, 3] (.cons (.lst .nil) (.cons (.lst .nil) .nil)))
  (.cons (.for (.loc 0) (.one 1) l1__law_due_k07)
  (.cons (.ret (.loc 2))
  .nil)))
def d__law_due_k07 : Df := ⟨6, false, 1, b__law_due_k07⟩
abbrev f__law_due_k07 : Nat := 81
/-- _law_due_k08 -/
def b__law_due_k08 : Sms := (.cons .nev .nil)
def d__law_due_k08 : Df := ⟨7, false, 1, b__law_due_k08⟩
abbrev f__law_due_k08 : Nat := 82
/-- _law_due_k15 -/
def b__law_due_k15 : Sms := (.cons (.par [3, 4] (.cons (.idx (.call 63 (.cons (.loc 0) (.cons (.loc 2) .nil))) (.int 0)) (.cons (.call 63 (.cons (.bin .add (.loc 0) (.tup (.cons (.loc 1) .nil))) (.cons (.loc 2) .nil))) .nil)))
  (.cons (.ife (.cmp .inn (.idx (.loc 1) (.int 0)) (.tup (.cons (.str (⟨#[99, 111, 117, 110, 116]⟩ : PySem.Str)) (.cons (.str (⟨#[98, 111, 116, 104]⟩ : PySem.Str)) .nil)))) (.cons (.ret (.idx (.idx (.loc 4) (.int 2)) (.neg (.int 1))))
  .nil) .nil)
  (.cons (.ret (.ite (.cmp .eq (.idx (.loc 1) (.int 0)) (.str (⟨#[119, 97, 105, 116]⟩ : PySem.Str))) (.bin .sub (.idx (.loc 4) (.int 0)) (.loc 3)) (.idx (.loc 4) (.int 0))))
  .nil)))
def d__law_due_k15 : Df := ⟨5, false, 3, b__law_due_k15⟩
abbrev f__law_due_k15 : Nat := 83
/-- _law_due_k18 -/
def b__law_due_k18 : Sms := (.cons .nev .nil)
def d__law_due_k18 : Df := ⟨6, false, 1, b__law_due_k18⟩
abbrev f__law_due_k18 : Nat := 84
/-- _law_between -/
def b__law_between : Sms := (.cons (.unp [4, 5, 6] (.call 91 (.cons (.loc 0) (.cons (.loc 1) (.cons (.loc 2) .nil)))))
  (.cons (.ife (.cmp .isN (.loc 4) .non) (.cons (.ret (.lst (.cons (.tup (.cons (.loc 1) (.cons (.loc 2) (.cons (.loc 5) (.cons (.loc 6) .nil))))) .nil)))
  .nil) .nil)
  (.cons (.asg 3 (.bin .add (.call 85 (.cons (.loc 0) (.cons (.loc 1) (.cons (.loc 4) .nil)))) (.lst (.cons (.call 92 (.cons (.loc 0) (.cons (.loc 4) .nil))) .nil))))
  (.cons (.ret (.bin .add (.loc 3) (.call 85 (.cons (.loc 0) (.cons (.loc 4) (.cons (.loc 2) .nil))))))
  .nil))))
def d__law_between : Df := ⟨7, false, 3, b__law_between⟩
abbrev f__law_between : Nat := 85
/-- need_index -/
def b_need_index : Sms := (.cons (.ife (.not (.call 48 (.cons (.loc 0) (.cons (.int 0) (.cons (.bin .sub (.loc 1) (.int 1)) .nil))))) (.cons (.raise (⟨#[73, 110, 118, 97, 108, 105, 100, 73, 110, 100, 101, 120]⟩ : PySem.Str) (⟨#[116, 104, 101, 114, 101, 32, 105, 115, 32, 110, 111, 110, 101, 32, 119, 105, 116, 104, 32, 116, 104, 105, 115, 32, 105, 110, 100, 101, 120]⟩ : PySem.Str))
  .nil) .nil)
  .nil)
def d_need_index : Df := ⟨2, false, 2, b_need_index⟩
abbrev f_need_index : Nat := 86
def l1_rows_of : Sms := (.cons (.app 2 (.tup (.cons (.loc 3) (.cons (.loc 4) (.cons (.ite (.cmp .eq (.loc 3) (.loc 4)) (.idx (.idx (.loc 8) (.loc 1)) (.int 0)) (.idx (.loc 8) (.loc 1))) .nil)))))
  .nil)
/-- rows_of -/
def b_rows_of : Sms := (.cons (.asg 2 (.lst .nil))
  (.cons (.for (.call 93 (.cons (.loc 0) .nil)) (.many [3, 4, 5, 6, 7, 8]) l1_rows_of)
  (.cons (.ret (.loc 2))
  .nil)))
def d_rows_of : Df := ⟨9, false, 2, b_rows_of⟩
abbrev f_rows_of : Nat := 87
/-- worth -/
def b_worth : Sms := (.cons (.ret (.bin .add (.bin .mul (.idx (.loc 0) (.int 0)) (.idx (.loc 1) (.int 0))) (.bin .mul (.idx (.loc 0) (.int 1)) (.idx (.loc 1) (.int 1)))))
  .nil)
def d_worth : Df := ⟨2, false, 2, b_worth⟩
abbrev f_worth : Nat := 88
def e1__law_ring_rows : Ex := (.tup (.cons (.idx (.loc 2) (.int 0)) (.cons (.idx (.loc 2) (.int 1)) (.cons (.idx (.idx (.loc 2) (.int 3)) (.loc 1)) .nil))))
/-- _law_ring_rows -/
def b__law_ring_rows : Sms := (.cons (.ret (.lc (.loc 0) (.one 2) [2] .omit e1__law_ring_rows))
  .nil)
def d__law_ring_rows : Df := ⟨3, false, 2, b__law_ring_rows⟩
abbrev f__law_ring_rows : Nat := 89
/-- _law_worth -/
def b__law_worth : Sms := (.cons (.ret (.bin .add (.bin .mul (.idx (.loc 0) (.int 0)) (.idx (.loc 1) (.int 0))) (.bin .mul (.idx (.loc 0) (.int 1)) (.idx (.loc 1) (.int 1)))))
  .nil)
def d__law_worth : Df := ⟨2, false, 2, b__law_worth⟩
abbrev f__law_worth : Nat := 90
/-- _law_line -/
def b__law_line : Sms := (.cons .nev .nil)
def d__law_line : Df := ⟨16, false, 3, b__law_line⟩
abbrev f__law_line : Nat := 91
/-- _law_at_one -/
def b__law_at_one : Sms := (.cons (.unp [2, 3, 4, 5] (.call 63 (.cons (.loc 0) (.cons (.loc 1) .nil))))
  (.cons (.ret (.tup (.cons (.loc 1) (.cons (.loc 1) (.cons (.loc 4) (.cons (.loc 5) .nil))))))
  .nil))
def d__law_at_one : Df := ⟨6, false, 2, b__law_at_one⟩
abbrev f__law_at_one : Nat := 92
/-- course -/
def b_course : Sms := (.cons (.ret (.call 98 (.cons (.loc 0) (.cons (.tup (.cons (.glb 2 (⟨#[76, 79, 87, 69, 83, 84]⟩ : PySem.Str)) (.cons (.glb 3 (⟨#[72, 73, 71, 72, 69, 83, 84]⟩ : PySem.Str)) (.cons (.tup (.cons (.int 0) (.cons (.int 0) .nil))) (.cons (.glb 4 (⟨#[85, 78, 73, 84, 83]⟩ : PySem.Str)) (.cons (.tup .nil) (.cons (.tup .nil) .nil))))))) (.cons (.int 0) .nil)))))
  .nil)
def d_course : Df := ⟨1, false, 1, b_course⟩
abbrev f_course : Nat := 93
/-- _law_more -/
def b__law_more : Sms := (.cons (.ret (.ite (.cmp .eq (.loc 1) (.int 0)) (.tup (.cons (.bin .add (.idx (.loc 0) (.int 0)) (.int 1)) (.cons (.idx (.loc 0) (.int 1)) .nil))) (.tup (.cons (.idx (.loc 0) (.int 0)) (.cons (.bin .add (.idx (.loc 0) (.int 1)) (.int 1)) .nil)))))
  .nil)
def d__law_more : Df := ⟨2, false, 2, b__law_more⟩
abbrev f__law_more : Nat := 94
/-- _law_off -/
def b__law_off : Sms := (.cons (.ret (.tup (.cons (.bin .sub (.idx (.loc 0) (.int 0)) (.idx (.loc 1) (.int 0))) (.cons (.bin .sub (.idx (.loc 0) (.int 1)) (.idx (.loc 1) (.int 1))) .nil))))
  .nil)
def d__law_off : Df := ⟨2, false, 2, b__law_off⟩
abbrev f__law_off : Nat := 95
/-- _law_sign -/
def b__law_sign : Sms := (.cons (.par [3, 4] (.cons (.call 90 (.cons (.loc 0) (.cons (.loc 1) .nil))) (.cons (.call 90 (.cons (.loc 0) (.cons (.loc 2) .nil))) .nil)))
  (.cons (.ife (.and (.cmp .ge (.loc 3) (.int 0)) (.cmp .ge (.loc 4) (.int 0))) (.cons (.ret (.bf .int (.cons (.cmp .gt (.bin .add (.loc 3) (.loc 4)) (.int 0)) .nil)))
  .nil) .nil)
  (.cons (.ret (.ite (.and (.cmp .le (.loc 3) (.int 0)) (.cmp .le (.loc 4) (.int 0))) (.neg (.int 1)) .non))
  .nil)))
def d__law_sign : Df := ⟨5, false, 3, b__law_sign⟩
abbrev f__law_sign : Nat := 96
/-- _law_root -/
def b__law_root : Sms := (.cons (.ret (.call 31 (.cons (.bf .abs (.cons (.idx (.loc 0) (.int 1)) .nil)) (.cons (.bf .abs (.cons (.idx (.loc 0) (.int 0)) .nil)) .nil))))
  .nil)
def d__law_root : Df := ⟨1, false, 1, b__law_root⟩
abbrev f__law_root : Nat := 97
def c1_pieces_between : Ex := (.cmp .lt (.loc 2) (.bf .len (.cons (.loc 0) .nil)))
def l1_pieces_between : Sms := (.cons (.unp [3, 4] (.call 99 (.cons (.loc 1) (.cons (.idx (.loc 0) (.loc 2)) .nil))))
  (.cons (.ife (.cmp .notN (.loc 3) .non) (.cons (.unp [6, 7] (.slc (.loc 1) .omit (.int 2)))
  (.cons (.asg 5 (.bin .add (.call 98 (.cons (.loc 0) (.cons (.bin .add (.tup (.cons (.loc 6) (.cons (.loc 3) .nil))) (.slc (.loc 1) (.int 2) .omit)) (.cons (.loc 2) .nil)))) (.lst (.cons (.call 100 (.cons (.loc 0) (.cons (.loc 3) .nil))) .nil))))
  (.cons (.ret (.bin .add (.loc 5) (.call 98 (.cons (.loc 0) (.cons (.bin .add (.tup (.cons (.loc 3) (.cons (.loc 7) .nil))) (.slc (.loc 1) (.int 2) .omit)) (.cons (.loc 2) .nil))))))
  .nil))) .nil)
  (.cons (.par [1, 2] (.cons (.loc 4) (.cons (.bin .add (.loc 2) (.int 1)) .nil)))
  .nil)))
/-- pieces_between -/
def b_pieces_between : Sms := (.cons (.whl c1_pieces_between l1_pieces_between)
  (.cons (.ret (.lst (.cons (.loc 1) .nil)))
  .nil))
def d_pieces_between : Df := ⟨8, false, 3, b_pieces_between⟩
abbrev f_pieces_between : Nat := 98
/-- stepped -/
def b_stepped : Sms := (.cons (.unp [3, 4, 5, 6, 7, 8] (.loc 0))
  (.cons (.ife (.cmp .eq (.idx (.loc 1) (.int 0)) (.str (⟨#[114, 105, 110, 103]⟩ : PySem.Str))) (.cons (.ret (.tup (.cons .non (.cons (.tup (.cons (.loc 3) (.cons (.loc 4) (.cons (.loc 5) (.cons (.loc 6) (.cons (.loc 7) (.cons (.bin .add (.loc 8) (.tup (.cons (.loc 5) .nil))) .nil))))))) .nil))))
  .nil) .nil)
  (.cons (.asg 2 (.idx (.loc 1) (.int 1)))
  (.cons (.ife (.cmp .inn (.idx (.loc 1) (.int 0)) (.tup (.cons (.str (⟨#[103, 111]⟩ : PySem.Str)) (.cons (.str (⟨#[115, 116, 111, 112]⟩ : PySem.Str)) .nil)))) (.cons (.asg 9 (.ite (.cmp .eq (.idx (.loc 1) (.int 0)) (.str (⟨#[103, 111]⟩ : PySem.Str))) (.call 102 (.cons (.loc 5) (.cons (.idx (.glb 4 (⟨#[85, 78, 73, 84, 83]⟩ : PySem.Str)) (.loc 2)) .nil))) .non))
  (.cons (.ret (.tup (.cons .non (.cons (.tup (.cons (.loc 3) (.cons (.loc 4) (.cons (.loc 5) (.cons (.call 72 (.cons (.loc 6) (.cons (.loc 2) (.cons (.loc 9) .nil)))) (.cons (.loc 7) (.cons (.loc 8) .nil))))))) .nil))))
  .nil)) .nil)
  (.cons (.ife (.cmp .isN (.idx (.loc 6) (.loc 2)) .non) (.cons (.asg 10 (.ite (.cmp .eq (.idx (.loc 1) (.int 0)) (.str (⟨#[119, 97, 105, 116]⟩ : PySem.Str))) (.tup .nil) (.tup (.cons (.int 0) .nil))))
  (.cons (.ret (.tup (.cons .non (.cons (.tup (.cons (.loc 3) (.cons (.loc 4) (.cons (.loc 5) (.cons (.loc 6) (.cons (.bin .add (.loc 7) (.loc 10)) (.cons (.loc 8) .nil))))))) .nil))))
  .nil)) .nil)
  (.cons (.ret (.call 101 (.cons (.loc 0) (.cons (.loc 1) .nil))))
  .nil))))))
def d_stepped : Df := ⟨11, false, 2, b_stepped⟩
abbrev f_stepped : Nat := 99
def e1_single : Ex := (.tup (.cons (.loc 6) (.cons (.int 0) .nil)))
/-- single -/
def b_single : Sms := (.cons (.unp [2, 3, 4, 5] (.call 65 (.cons (.loc 0) (.cons (.loc 1) .nil))))
  (.cons (.ret (.tup (.cons (.loc 1) (.cons (.loc 1) (.cons (.tup (.cons (.loc 2) (.cons (.int 0) .nil))) (.cons .non (.cons (.loc 4) (.cons (.bf .tuple (.cons (.lc (.loc 5) (.one 6) [6] .omit e1_single) .nil)) .nil))))))))
  .nil))
def d_single : Df := ⟨7, false, 2, b_single⟩
abbrev f_single : Nat := 100
def l1_waited : Sms := (.cons (.unp [12, 13, 14, 15] (.call 104 (.cons (.loc 0) (.cons (.bin .sub (.int 1) (.loc 2)) (.cons (.loc 3) .nil)))))
  (.cons (.ife (.cmp .notN (.loc 12) .non) (.cons (.ret (.tup (.cons (.loc 12) (.cons (.loc 0) .nil))))
  .nil) .nil)
  (.cons (.ife (.or (.cmp .ne (.idx (.loc 1) (.int 0)) (.str (⟨#[98, 111, 116, 104]⟩ : PySem.Str))) (.loc 15)) (.cons .brk
  .nil) .nil)
  .nil)))
/-- waited -/
def b_waited : Sms := (.cons (.unp [6, 7, 8, 9, 10, 11] (.loc 0))
  (.cons (.asg 2 (.idx (.loc 1) (.int 1)))
  (.cons (.for (.call 103 (.cons (.loc 0) (.cons (.loc 1) .nil))) (.one 3) l1_waited)
  (.cons (.asg 4 (.tup .nil))
  (.cons (.ife (.cmp .eq (.idx (.loc 1) (.int 0)) (.str (⟨#[99, 111, 117, 110, 116]⟩ : PySem.Str))) (.cons (.asg 4 (.tup (.cons (.loc 13) .nil)))
  .nil) .nil)
  (.cons (.ife (.cmp .eq (.idx (.loc 1) (.int 0)) (.str (⟨#[98, 111, 116, 104]⟩ : PySem.Str))) (.cons (.asg 4 (.tup (.cons (.bf .int (.cons (.loc 15) .nil)) .nil)))
  .nil) .nil)
  (.cons (.asg 5 (.call 72 (.cons (.call 72 (.cons (.loc 9) (.cons (.loc 2) (.cons (.call 102 (.cons (.loc 3) (.cons (.idx (.glb 4 (⟨#[85, 78, 73, 84, 83]⟩ : PySem.Str)) (.loc 2)) .nil))) .nil)))) (.cons (.bin .sub (.int 1) (.loc 2)) (.cons (.loc 14) .nil)))))
  (.cons (.ret (.tup (.cons .non (.cons (.tup (.cons (.loc 6) (.cons (.loc 7) (.cons (.loc 3) (.cons (.loc 5) (.cons (.bin .add (.loc 10) (.loc 4)) (.cons (.loc 11) .nil))))))) .nil))))
  .nil))))))))
def d_waited : Df := ⟨16, false, 2, b_waited⟩
abbrev f_waited : Nat := 101
/-- plus -/
def b_plus : Sms := (.cons (.ret (.tup (.cons (.bin .add (.idx (.loc 0) (.int 0)) (.idx (.loc 1) (.int 0))) (.cons (.bin .add (.idx (.loc 0) (.int 1)) (.idx (.loc 1) (.int 1))) .nil))))
  .nil)
def d_plus : Df := ⟨2, false, 2, b_plus⟩
abbrev f_plus : Nat := 102
def e1_ends_of : Ex := (.call 102 (.cons (.loc 3) (.cons (.call 105 (.cons (.idx (.glb 4 (⟨#[85, 78, 73, 84, 83]⟩ : PySem.Str)) (.loc 2)) (.cons (.loc 4) .nil))) .nil)))
/-- ends_of -/
def b_ends_of : Sms := (.cons (.par [2, 3] (.cons (.idx (.loc 1) (.int 1)) (.cons (.idx (.idx (.loc 0) (.int 3)) (.idx (.loc 1) (.int 1))) .nil)))
  (.cons (.ife (.cmp .ne (.idx (.loc 1) (.int 0)) (.str (⟨#[98, 111, 116, 104]⟩ : PySem.Str))) (.cons (.ret (.lst (.cons (.call 102 (.cons (.loc 3) (.cons (.call 105 (.cons (.idx (.glb 4 (⟨#[85, 78, 73, 84, 83]⟩ : PySem.Str)) (.loc 2)) (.cons (.bin .sub (.idx (.loc 1) (.int 2)) (.int 1)) .nil))) .nil))) .nil)))
  .nil) .nil)
  (.cons (.ret (.lc (.rng1 (.idx (.loc 1) (.int 2))) (.one 4) [4] .omit e1_ends_of))
  .nil)))
def d_ends_of : Df := ⟨5, false, 2, b_ends_of⟩
abbrev f_ends_of : Nat := 103
def c1_ticks_up_to : Ex := (.cmp .notN (.loc 5) .non)
def l1_ticks_up_to : Sms := (.cons (.asg 8 (.call 106 (.cons (.loc 2) (.cons (.loc 5) .nil))))
  (.cons (.asg 9 (.call 107 (.cons (.loc 8) (.cons (.loc 3) (.cons (.loc 4) .nil)))))
  (.cons (.ife (.cmp .notN (.loc 9) .non) (.cons (.ret (.tup (.cons (.loc 9) (.cons (.int 0) (.cons .non (.cons (.bl false) .nil))))))
  .nil) .nil)
  (.cons (.ife (.cmp .lt (.call 108 (.cons (.loc 8) (.cons (.loc 3) (.cons (.loc 4) .nil)))) (.int 0)) (.cons (.ret (.tup (.cons .non (.cons (.loc 6) (.cons (.loc 5) (.cons (.cmp .eq (.loc 7) (.tup (.cons (.int 0) (.cons (.int 0) .nil)))) .nil))))))
  .nil) .nil)
  (.cons (.par [6, 7] (.cons (.bin .add (.loc 6) (.int 1)) (.cons (.loc 8) .nil)))
  (.cons (.asg 5 (.call 102 (.cons (.loc 5) (.cons (.idx (.glb 4 (⟨#[85, 78, 73, 84, 83]⟩ : PySem.Str)) (.loc 1)) .nil))))
  .nil))))))
/-- ticks_up_to -/
def b_ticks_up_to : Sms := (.cons (.unp [3, 4] (.slc (.loc 0) .omit (.int 2)))
  (.cons (.par [5, 6, 7] (.cons (.idx (.idx (.loc 0) (.int 3)) (.loc 1)) (.cons (.int 0) (.cons .non .nil))))
  (.cons (.whl c1_ticks_up_to l1_ticks_up_to)
  (.cons (.ret (.tup (.cons .non (.cons (.int 0) (.cons .non (.cons (.bl false) .nil))))))
  .nil))))
def d_ticks_up_to : Df := ⟨10, false, 3, b_ticks_up_to⟩
abbrev f_ticks_up_to : Nat := 104
/-- times -/
def b_times : Sms := (.cons (.ret (.tup (.cons (.bin .mul (.idx (.loc 0) (.int 0)) (.loc 1)) (.cons (.bin .mul (.idx (.loc 0) (.int 1)) (.loc 1)) .nil))))
  .nil)
def d_times : Df := ⟨2, false, 2, b_times⟩
abbrev f_times : Nat := 105
/-- minus -/
def b_minus : Sms := (.cons (.ret (.tup (.cons (.bin .sub (.idx (.loc 0) (.int 0)) (.idx (.loc 1) (.int 0))) (.cons (.bin .sub (.idx (.loc 0) (.int 1)) (.idx (.loc 1) (.int 1))) .nil))))
  .nil)
def d_minus : Df := ⟨2, false, 2, b_minus⟩
abbrev f_minus : Nat := 106
/-- zero_within -/
def b_zero_within : Sms := (.cons (.ife (.cmp .ge (.bin .mul (.idx (.loc 0) (.int 0)) (.idx (.loc 0) (.int 1))) (.int 0)) (.cons (.ret .non)
  .nil) .nil)
  (.cons (.asg 3 (.call 109 (.cons (.bf .abs (.cons (.idx (.loc 0) (.int 1)) .nil)) (.cons (.bf .abs (.cons (.idx (.loc 0) (.int 0)) .nil)) .nil))))
  (.cons (.ret (.ite (.and (.call 50 (.cons (.loc 1) (.cons (.loc 3) .nil))) (.call 50 (.cons (.loc 3) (.cons (.loc 2) .nil)))) (.loc 3) .non))
  .nil)))
def d_zero_within : Df := ⟨4, false, 3, b_zero_within⟩
abbrev f_zero_within : Nat := 107
/-- sign_of -/
def b_sign_of : Sms := (.cons (.asg 3 (.bin .add (.call 88 (.cons (.loc 0) (.cons (.loc 1) .nil))) (.call 88 (.cons (.loc 0) (.cons (.loc 2) .nil)))))
  (.cons (.ret (.bin .sub (.cmp .gt (.loc 3) (.int 0)) (.cmp .lt (.loc 3) (.int 0))))
  .nil))
def d_sign_of : Df := ⟨4, false, 3, b_sign_of⟩
abbrev f_sign_of : Nat := 108
/-- lowest -/
def b_lowest : Sms := (.cons (.asg 2 (.call 58 (.cons (.loc 0) (.cons (.loc 1) .nil))))
  (.cons (.ret (.tup (.cons (.bin .fdiv (.loc 0) (.loc 2)) (.cons (.bin .fdiv (.loc 1) (.loc 2)) .nil))))
  .nil))
def d_lowest : Df := ⟨3, false, 2, b_lowest⟩
abbrev f_lowest : Nat := 109
def l1_ring_jumps : Sms := (.cons (.par [5, 6] (.cons (.idx (.idx (.loc 3) (.loc 2)) (.int 0)) (.cons (.idx (.idx (.loc 3) (.loc 2)) (.int 2)) .nil)))
  (.cons (.ife (.or (.cmp .ne (.call 88 (.cons (.idx (.idx (.loc 3) (.bin .sub (.loc 2) (.int 1))) (.int 2)) (.cons (.loc 5) .nil))) (.loc 6)) (.cmp .ne (.call 88 (.cons (.idx (.idx (.loc 3) (.bin .add (.loc 2) (.int 1))) (.int 2)) (.cons (.loc 5) .nil))) (.loc 6))) (.cons (.app 4 (.loc 5))
  .nil) .nil)
  .nil))
/-- ring_jumps -/
def b_ring_jumps : Sms := (.cons (.ex (.call 53 (.cons (.loc 0) .nil)))
  (.cons (.ex (.call 86 (.cons (.loc 1) (.cons (.call 54 (.cons (.loc 0) .nil)) .nil))))
  (.cons (.par [3, 4] (.cons (.call 87 (.cons (.loc 0) (.cons (.loc 1) .nil))) (.cons (.lst .nil) .nil)))
  (.cons (.for (.rng3 (.int 1) (.bf .len (.cons (.loc 3) .nil)) (2)) (.one 2) l1_ring_jumps)
  (.cons (.ret (.loc 4))
  .nil)))))
def d_ring_jumps : Df := ⟨7, false, 2, b_ring_jumps⟩
abbrev f_ring_jumps : Nat := 110
def e2_swings : Ex := (.tup (.cons (.loc 7) (.cons (.loc 8) (.cons (.cmp .eq (.loc 9) (.loc 6)) .nil))))
def e1_swings : Ex := (.tup (.cons (.loc 6) (.cons (.call 114 (.cons (.lc (.loc 3) (.many [7, 8, 9]) [7, 8, 9] .omit e2_swings) .nil)) .nil)))
def e3_swings : Ex := (.loc 9)
def l4_swings : Sms := (.cons (.ext 3 (.call 113 (.cons (.loc 4) (.cons (.loc 2) .nil))))
  .nil)
/-- swings -/
def b_swings : Sms := (.cons (.ex (.call 53 (.cons (.loc 0) .nil)))
  (.cons (.ex (.call 86 (.cons (.loc 1) (.cons (.call 54 (.cons (.loc 0) .nil)) .nil))))
  (.cons (.ex (.call 112 (.cons (.loc 2) .nil)))
  (.cons (.asg 3 (.lst .nil))
  (.cons (.for (.call 87 (.cons (.loc 0) (.cons (.loc 1) .nil))) (.one 4) l4_swings)
  (.cons (.asg 5 (.sset (.lc (.loc 3) (.many [7, 8, 9]) [7, 8, 9] .omit e3_swings)))
  (.cons (.ret (.lc (.loc 5) (.one 6) [6] .omit e1_swings))
  .nil)))))))
def d_swings : Df := ⟨10, false, 3, b_swings⟩
abbrev f_swings : Nat := 111
/-- need_pendulum -/
def b_need_pendulum : Sms := (.cons (.ife (.not (.call 48 (.cons (.loc 0) (.cons (.int 0) (.cons (.int 1) .nil))))) (.cons (.raise (⟨#[73, 110, 118, 97, 108, 105, 100, 80, 101, 110, 100, 117, 108, 117, 109]⟩ : PySem.Str) (⟨#[110, 111, 116, 32, 97, 32, 112, 101, 110, 100, 117, 108, 117, 109]⟩ : PySem.Str))
  .nil) .nil)
  .nil)
def d_need_pendulum : Df := ⟨1, false, 1, b_need_pendulum⟩
abbrev f_need_pendulum : Nat := 112
def c1_whole_rows : Ex := (.bl true)
def l1_whole_rows : Sms := (.cons (.asg 6 (.call 106 (.cons (.loc 5) (.cons (.call 105 (.cons (.idx (.glb 4 (⟨#[85, 78, 73, 84, 83]⟩ : PySem.Str)) (.loc 1)) (.cons (.bin .add (.loc 2) (.int 1)) .nil))) .nil))))
  (.cons (.asg 7 (.call 107 (.cons (.loc 6) (.cons (.loc 3) (.cons (.loc 4) .nil)))))
  (.cons (.ife (.cmp .notN (.loc 7) .non) (.cons (.asg 8 (.tup (.cons (.loc 7) (.cons (.loc 7) (.cons (.bin .fdiv (.call 88 (.cons (.loc 5) (.cons (.loc 7) .nil))) (.idx (.loc 7) (.loc 1))) .nil)))))
  (.cons (.ret (.bin .add (.bin .add (.call 113 (.cons (.tup (.cons (.loc 3) (.cons (.loc 7) (.cons (.loc 5) .nil)))) (.cons (.loc 1) .nil))) (.lst (.cons (.loc 8) .nil))) (.call 113 (.cons (.tup (.cons (.loc 7) (.cons (.loc 4) (.cons (.loc 5) .nil)))) (.cons (.loc 1) .nil)))))
  .nil)) .nil)
  (.cons (.ife (.cmp .lt (.call 108 (.cons (.loc 6) (.cons (.loc 3) (.cons (.loc 4) .nil)))) (.int 0)) (.cons (.ret (.lst (.cons (.tup (.cons (.loc 3) (.cons (.loc 4) (.cons (.loc 2) .nil)))) .nil)))
  .nil) .nil)
  (.cons (.asg 2 (.bin .add (.loc 2) (.int 1)))
  .nil)))))
/-- whole_rows -/
def b_whole_rows : Sms := (.cons (.unp [3, 4, 5] (.loc 0))
  (.cons (.ife (.cmp .eq (.loc 3) (.loc 4)) (.cons (.ret (.lst (.cons (.tup (.cons (.loc 3) (.cons (.loc 4) (.cons (.bin .fdiv (.loc 5) (.idx (.loc 3) (.loc 1))) .nil)))) .nil)))
  .nil) .nil)
  (.cons (.asg 2 (.int 0))
  (.cons (.whl c1_whole_rows l1_whole_rows)
  .nil))))
def d_whole_rows : Df := ⟨9, false, 2, b_whole_rows⟩
abbrev f_whole_rows : Nat := 113
def l1_joined : Sms := (.cons (.ife (.and (.loc 4) (.and (.cmp .ne (.loc 2) (.loc 3)) (.and (.cmp .gt (.bf .len (.cons (.loc 1) .nil)) (.int 1)) (.and (.cmp .eq (.idx (.loc 1) (.neg (.int 1))) (.tup (.cons (.loc 2) (.cons (.loc 2) .nil)))) (.cmp .eq (.idx (.idx (.loc 1) (.neg (.int 2))) (.int 1)) (.loc 2)))))) (.cons (.asg 1 (.bin .add (.slc (.loc 1) .omit (.neg (.int 2))) (.lst (.cons (.tup (.cons (.idx (.idx (.loc 1) (.neg (.int 2))) (.int 0)) (.cons (.loc 3) .nil))) .nil))))
  .nil) (.cons (.ife (.loc 4) (.cons (.asg 1 (.bin .add (.loc 1) (.lst (.cons (.tup (.cons (.loc 2) (.cons (.loc 3) .nil))) .nil))))
  .nil) .nil)
  .nil))
  .nil)
/-- joined -/
def b_joined : Sms := (.cons (.asg 1 (.lst .nil))
  (.cons (.for (.loc 0) (.many [2, 3, 4]) l1_joined)
  (.cons (.ret (.loc 1))
  .nil)))
def d_joined : Df := ⟨5, false, 1, b_joined⟩
abbrev f_joined : Nat := 114
def c1__law_cut_rows : Ex := (.bl true)
def l1__law_cut_rows : Sms := (.cons (.asg 7 (.call 96 (.cons (.loc 6) (.cons (.loc 2) (.cons (.loc 3) .nil)))))
  (.cons (.ife (.cmp .isN (.loc 7) .non) (.cons (.asg 8 (.call 97 (.cons (.loc 6) .nil)))
  (.cons (.asg 9 (.call 115 (.cons (.tup (.cons (.loc 2) (.cons (.loc 8) (.cons (.loc 4) .nil)))) (.cons (.loc 1) .nil))))
  (.cons (.app 9 (.tup (.cons (.loc 8) (.cons (.loc 8) (.cons (.bin .fdiv (.call 90 (.cons (.loc 4) (.cons (.loc 8) .nil))) (.idx (.loc 8) (.loc 1))) .nil)))))
  (.cons (.ret (.bin .add (.loc 9) (.call 115 (.cons (.tup (.cons (.loc 8) (.cons (.loc 3) (.cons (.loc 4) .nil)))) (.cons (.loc 1) .nil)))))
  .nil)))) .nil)
  (.cons (.ife (.cmp .lt (.loc 7) (.int 0)) (.cons (.ret (.lst (.cons (.tup (.cons (.loc 2) (.cons (.loc 3) (.cons (.loc 5) .nil)))) .nil)))
  .nil) .nil)
  (.cons (.par [5, 6] (.cons (.bin .add (.loc 5) (.int 1)) (.cons (.call 95 (.cons (.loc 6) (.cons (.tup (.cons (.bin .sub (.int 1) (.loc 1)) (.cons (.loc 1) .nil))) .nil))) .nil)))
  .nil))))
/-- _law_cut_rows -/
def b__law_cut_rows : Sms := (.cons (.unp [2, 3, 4] (.loc 0))
  (.cons (.ife (.cmp .eq (.loc 2) (.loc 3)) (.cons (.ret (.lst (.cons (.tup (.cons (.loc 2) (.cons (.loc 3) (.cons (.bin .fdiv (.loc 4) (.idx (.loc 2) (.loc 1))) .nil)))) .nil)))
  .nil) .nil)
  (.cons (.par [5, 6] (.cons (.int 0) (.cons (.call 95 (.cons (.loc 4) (.cons (.tup (.cons (.bin .sub (.int 1) (.loc 1)) (.cons (.loc 1) .nil))) .nil))) .nil)))
  (.cons (.whl c1__law_cut_rows l1__law_cut_rows)
  .nil))))
def d__law_cut_rows : Df := ⟨10, false, 2, b__law_cut_rows⟩
abbrev f__law_cut_rows : Nat := 115
def l1__law_joined : Sms := (.cons (.unp [4, 5, 6] (.idx (.loc 0) (.loc 2)))
  (.cons (.asg 3 (.and (.cmp .eq (.loc 4) (.loc 5)) (.chain .lt .lt (.int 0) (.loc 2) (.bin .sub (.bf .len (.cons (.loc 0) .nil)) (.int 1)))))
  (.cons (.ife (.and (.loc 3) (.and (.loc 6) (.and (.idx (.idx (.loc 0) (.bin .sub (.loc 2) (.int 1))) (.int 2)) (.idx (.idx (.loc 0) (.bin .add (.loc 2) (.int 1))) (.int 2))))) (.cons (.app 1 (.str (⟨#[106, 111, 105, 110]⟩ : PySem.Str)))
  .nil) (.cons (.ife (.and (.loc 6) (.and (.cmpB .ne 1 (.lst .nil)) (.cmp .eq (.idxB 1 (.neg (.int 1))) (.str (⟨#[106, 111, 105, 110]⟩ : PySem.Str))))) (.cons (.popS 1)
  (.cons (.set 1 (.neg (.int 1)) (.tup (.cons (.idx (.idxB 1 (.neg (.int 1))) (.int 0)) (.cons (.loc 5) .nil))))
  .nil)) (.cons (.ife (.loc 6) (.cons (.app 1 (.tup (.cons (.loc 4) (.cons (.loc 5) .nil))))
  .nil) .nil)
  .nil))
  .nil))
  .nil)))
/-- _law_joined -/
def b__law_joined : Sms := (.cons (.asg 1 (.lst .nil))
  (.cons (.for (.rng1 (.bf .len (.cons (.loc 0) .nil))) (.one 2) l1__law_joined)
  (.cons (.ret (.loc 1))
  .nil)))
def d__law_joined : Df := ⟨7, false, 1, b__law_joined⟩
abbrev f__law_joined : Nat := 116
def l1_swing_bounds : Sms := (.cons (.asg 5 (.ite (.call 120 (.cons (.loc 7) (.cons (.loc 5) .nil))) (.loc 7) (.loc 5)))
  (.cons (.asg 6 (.ite (.call 120 (.cons (.loc 6) (.cons (.loc 7) .nil))) (.loc 7) (.loc 6)))
  .nil))
def l2_swing_bounds : Sms := (.cons (.ext 3 (.call 119 (.cons (.loc 4) (.cons (.loc 2) .nil))))
  .nil)
/-- swing_bounds -/
def b_swing_bounds : Sms := (.cons (.ex (.call 53 (.cons (.loc 0) .nil)))
  (.cons (.ex (.call 86 (.cons (.loc 1) (.cons (.call 54 (.cons (.loc 0) .nil)) .nil))))
  (.cons (.ex (.call 112 (.cons (.loc 2) .nil)))
  (.cons (.asg 3 (.lst .nil))
  (.cons (.for (.call 87 (.cons (.loc 0) (.cons (.loc 1) .nil))) (.one 4) l2_swing_bounds)
  (.cons (.par [5, 6] (.cons (.idx (.idxB 3 (.int 0)) (.int 0)) (.cons (.idx (.idxB 3 (.int 0)) (.int 0)) .nil)))
  (.cons (.for (.loc 3) (.many [7, 8]) l1_swing_bounds)
  (.cons (.ret (.tup (.cons (.tup (.cons (.loc 5) (.cons (.cmp .inn (.tup (.cons (.loc 5) (.cons (.bl true) .nil))) (.loc 3)) .nil))) (.cons (.tup (.cons (.loc 6) (.cons (.cmp .inn (.tup (.cons (.loc 6) (.cons (.bl true) .nil))) (.loc 3)) .nil))) .nil))))
  .nil))))))))
def d_swing_bounds : Df := ⟨9, false, 3, b_swing_bounds⟩
abbrev f_swing_bounds : Nat := 117
def c1__law_part : Ex := (.cmp .gt (.loc 3) (.int 0))
def l1__law_part : Sms := (.cons (.par [2, 3] (.cons (.loc 3) (.cons (.bin .mod (.bf .int (.cons (.loc 2) .nil)) (.loc 3)) .nil)))
  .nil)
/-- _law_part -/
def b__law_part : Sms := (.cons (.par [2, 3] (.cons (.loc 1) (.cons (.loc 0) .nil)))
  (.cons (.whl c1__law_part l1__law_part)
  (.cons (.ret (.tup (.cons (.bin .fdiv (.loc 0) (.loc 2)) (.cons (.bin .fdiv (.loc 1) (.loc 2)) .nil))))
  .nil)))
def d__law_part : Df := ⟨4, false, 2, b__law_part⟩
abbrev f__law_part : Nat := 118
def e1_marks_of : Ex := (.tup (.cons (.call 109 (.cons (.call 88 (.cons (.loc 5) (.cons (.loc 6) .nil))) (.cons (.idx (.loc 6) (.loc 1)) .nil))) (.cons (.loc 2) .nil)))
/-- marks_of -/
def b_marks_of : Sms := (.cons (.unp [3, 4, 5] (.loc 0))
  (.cons (.ife (.cmp .eq (.loc 3) (.loc 4)) (.cons (.ret (.lst (.cons (.tup (.cons (.call 109 (.cons (.loc 5) (.cons (.idx (.loc 3) (.loc 1)) .nil))) (.cons (.bl true) .nil))) .nil)))
  .nil) .nil)
  (.cons (.asg 2 (.cmp .eq (.idx (.loc 5) (.bin .sub (.int 1) (.loc 1))) (.int 0)))
  (.cons (.ret (.lc (.tup (.cons (.loc 3) (.cons (.loc 4) .nil))) (.one 6) [6] .omit e1_marks_of))
  .nil))))
def d_marks_of : Df := ⟨7, false, 2, b_marks_of⟩
abbrev f_marks_of : Nat := 119
/-- below -/
def b_below : Sms := (.cons (.ret (.cmp .lt (.bin .mul (.idx (.loc 0) (.int 0)) (.idx (.loc 1) (.int 1))) (.bin .mul (.idx (.loc 1) (.int 0)) (.idx (.loc 0) (.int 1)))))
  .nil)
def d_below : Df := ⟨2, false, 2, b_below⟩
abbrev f_below : Nat := 120
def l2__law_marks : Sms := (.cons (.asg 8 (.call 118 (.cons (.call 90 (.cons (.loc 6) (.cons (.loc 7) .nil))) (.cons (.idx (.loc 7) (.loc 2)) .nil))))
  (.cons (.app 3 (.tup (.cons (.loc 8) (.cons (.cmp .eq (.idx (.loc 6) (.bin .sub (.int 1) (.loc 2))) (.int 0)) .nil))))
  .nil))
def l1__law_marks : Sms := (.cons (.ife (.cmp .eq (.loc 4) (.loc 5)) (.cons (.app 3 (.tup (.cons (.call 118 (.cons (.loc 6) (.cons (.idx (.loc 4) (.loc 2)) .nil))) (.cons (.bl true) .nil))))
  .nil) (.cons (.for (.tup (.cons (.loc 4) (.cons (.loc 5) .nil))) (.one 7) l2__law_marks)
  .nil))
  .nil)
/-- _law_marks -/
def b__law_marks : Sms := (.cons (.asg 3 (.lst .nil))
  (.cons (.for (.call 89 (.cons (.loc 0) (.cons (.loc 1) .nil))) (.many [4, 5, 6]) l1__law_marks)
  (.cons (.ret (.loc 3))
  .nil)))
def d__law_marks : Df := ⟨9, false, 3, b__law_marks⟩
abbrev f__law_marks : Nat := 121
/-- answered -/
def b_answered : Sms := (.cons (.ex (.call 53 (.cons (.loc 0) .nil)))
  (.cons (.ret (.call 124 (.cons (.loc 0) .nil)))
  .nil))
def d_answered : Df := ⟨1, false, 1, b_answered⟩
abbrev f_answered : Nat := 122
def q1_ratios_for : Ex := (.not (.call 48 (.cons (.loc 2) (.cons (.int 0) (.cons (.int 40) .nil)))))
def e1_ratios_for : Ex := (.loc 2)
/-- ratios_for -/
def b_ratios_for : Sms := (.cons (.ex (.call 53 (.cons (.loc 0) .nil)))
  (.cons (.ife (.or (.not (.isi (.loc 1) .tuple)) (.or (.cmp .gt (.bf .len (.cons (.loc 1) .nil)) (.int 8)) (.cmp .ne (.lc (.loc 1) (.one 2) [2] q1_ratios_for e1_ratios_for) (.lst .nil)))) (.cons (.raise (⟨#[73, 110, 118, 97, 108, 105, 100, 65, 110, 115, 119, 101, 114, 115]⟩ : PySem.Str) (⟨#[110, 111, 116, 32, 97, 32, 116, 117, 112, 108, 101, 32, 111, 102, 32, 97, 110, 115, 119, 101, 114, 115]⟩ : PySem.Str))
  .nil) .nil)
  (.cons (.ret (.call 125 (.cons (.call 93 (.cons (.loc 0) .nil)) (.cons (.loc 1) .nil))))
  .nil)))
def d_ratios_for : Df := ⟨3, false, 2, b_ratios_for⟩
abbrev f_ratios_for : Nat := 123
def e1_all_answers : Ex := (.tup (.cons (.call 125 (.cons (.loc 2) (.cons (.loc 4) .nil))) (.cons (.loc 4) .nil)))
def l2_all_answers : Sms := (.cons (.ife (.ninB (.idx (.loc 1) (.int 4)) 3) (.cons (.app 3 (.idx (.loc 1) (.int 4)))
  .nil) .nil)
  .nil)
/-- all_answers -/
def b_all_answers : Sms := (.cons (.par [2, 3] (.cons (.call 93 (.cons (.loc 0) .nil)) (.cons (.lst .nil) .nil)))
  (.cons (.for (.loc 2) (.one 1) l2_all_answers)
  (.cons (.ret (.lc (.loc 3) (.one 4) [4] .omit e1_all_answers))
  .nil)))
def d_all_answers : Df := ⟨5, false, 1, b_all_answers⟩
abbrev f_all_answers : Nat := 124
def e1_ratios_of : Ex := (.tup (.cons (.idx (.loc 2) (.int 0)) (.cons (.idx (.loc 2) (.int 1)) (.cons (.cmp .eq (.idx (.loc 2) (.int 4)) (.loc 1)) .nil))))
/-- ratios_of -/
def b_ratios_of : Sms := (.cons (.ret (.call 114 (.cons (.lc (.loc 0) (.one 2) [2] .omit e1_ratios_of) .nil)))
  .nil)
def d_ratios_of : Df := ⟨3, false, 2, b_ratios_of⟩
abbrev f_ratios_of : Nat := 125
def l1_coarsest : Sms := (.cons (.par [5, 6] (.cons (.idx (.idx (.loc 2) (.int 0)) (.int 0)) (.cons (.idx (.idx (.loc 2) (.neg (.int 1))) (.int 1)) .nil)))
  (.cons (.asg 4 (.call 109 (.cons (.bin .mul (.idx (.loc 6) (.int 0)) (.idx (.loc 5) (.int 1))) (.cons (.bin .mul (.idx (.loc 6) (.int 1)) (.idx (.loc 5) (.int 0))) .nil))))
  (.cons (.asg 1 (.ite (.call 120 (.cons (.loc 1) (.cons (.loc 4) .nil))) (.loc 4) (.loc 1)))
  .nil)))
/-- coarsest -/
def b_coarsest : Sms := (.cons (.ex (.call 53 (.cons (.loc 0) .nil)))
  (.cons (.asg 1 (.tup (.cons (.int 1) (.cons (.int 1) .nil))))
  (.cons (.for (.call 124 (.cons (.loc 0) .nil)) (.many [2, 3]) l1_coarsest)
  (.cons (.ret (.loc 1))
  .nil))))
def d_coarsest : Df := ⟨7, false, 1, b_coarsest⟩
abbrev f_coarsest : Nat := 126
/-- _law_quotient -/
def b__law_quotient : Sms := (.cons (.ret (.call 31 (.cons (.bin .mul (.idx (.loc 0) (.int 0)) (.idx (.loc 1) (.int 1))) (.cons (.bin .mul (.idx (.loc 0) (.int 1)) (.idx (.loc 1) (.int 0))) .nil))))
  .nil)
def d__law_quotient : Df := ⟨2, false, 2, b__law_quotient⟩
abbrev f__law_quotient : Nat := 127
/-- keeps_apart -/
def b_keeps_apart : Sms := (.cons (.ex (.call 53 (.cons (.loc 0) .nil)))
  (.cons (.ex (.call 135 (.cons (.loc 1) .nil)))
  (.cons (.ret (.call 136 (.cons (.loc 0) (.cons (.loc 1) .nil))))
  .nil)))
def d_keeps_apart : Df := ⟨2, false, 2, b_keeps_apart⟩
abbrev f_keeps_apart : Nat := 128
def l1__law_some_points : Sms := (.cons (.asg 1 (.bin .add (.loc 1) (.bin .mul (.tup (.cons (.loc 3) .nil)) (.bf .int (.cons (.and (.cmp .lt (.bf .len (.cons (.loc 1) .nil)) (.int 2)) (.cmp .nin (.loc 3) (.loc 1))) .nil)))))
  .nil)
def l2__law_some_points : Sms := (.cons (.asg 3 (.callv 24 0 (.cons (.callv 32 0 (.cons (.lst (.cons (.int 4) (.cons (.int 9) (.cons (.int 30) .nil)))) .nil)) .nil)))
  (.cons (.asg 1 (.bin .add (.loc 1) (.bin .mul (.tup (.cons (.loc 3) .nil)) (.bf .int (.cons (.cmp .nin (.loc 3) (.loc 1)) .nil)))))
  .nil))
/-- _law_some_points -/
def b__law_some_points : Sms := (.cons (.asg 1 (.tup .nil))
  (.cons (.for (.rng1 (.bin .add (.int 3) (.callv 30 0 (.cons (.int 4) .nil)))) (.one 2) l2__law_some_points)
  (.cons (.for (.tup (.cons (.tup (.cons (.int 1) (.cons (.int 1) .nil))) (.cons (.tup (.cons (.int 2) (.cons (.int 1) .nil))) .nil))) (.one 3) l1__law_some_points)
  (.cons (.ret (.slc (.loc 1) .omit (.int 6)))
  .nil))))
def d__law_some_points : Df := ⟨4, true, 0, b__law_some_points⟩
abbrev f__law_some_points : Nat := 129
def e3__law_least : Ex := (.bin .add (.loc 5) (.tup (.cons (.loc 6) .nil)))
def l2__law_least : Sms := (.cons (.asg 4 (.bin .add (.loc 4) (.lc (.call 137 .nil) (.one 6) [6] .omit e3__law_least)))
  .nil)
def q4__law_least : Ex := (.call 134 (.cons (.loc 5) (.cons (.loc 0) .nil)))
def e4__law_least : Ex := (.loc 5)
def l1__law_least : Sms := (.cons (.ife (.cmp .ne (.lc (.loc 2) (.one 5) [5] q4__law_least e4__law_least) (.lst .nil)) (.cons (.ret (.loc 3))
  .nil) .nil)
  (.cons (.asg 4 (.lst .nil))
  (.cons (.for (.loc 2) (.one 5) l2__law_least)
  (.cons (.asg 2 (.ite (.cmp .lt (.loc 3) (.loc 1)) (.loc 4) (.lst .nil)))
  .nil))))
/-- _law_least -/
def b__law_least : Sms := (.cons (.asg 2 (.lst (.cons (.tup .nil) .nil)))
  (.cons (.for (.rng1 (.bin .add (.loc 1) (.int 1))) (.one 3) l1__law_least)
  (.cons (.ret .non)
  .nil)))
def d__law_least : Df := ⟨7, false, 2, b__law_least⟩
abbrev f__law_least : Nat := 130
def l3_shortest_apart : Sms := (.cons (.ife (.call 136 (.cons (.bin .add (.loc 5) (.tup (.cons (.loc 6) .nil))) (.cons (.loc 0) .nil))) (.cons (.ret (.bin .add (.loc 5) (.tup (.cons (.loc 6) .nil))))
  .nil) .nil)
  (.cons (.app 4 (.bin .add (.loc 5) (.tup (.cons (.loc 6) .nil))))
  .nil))
def l2_shortest_apart : Sms := (.cons (.for (.call 138 .nil) (.one 6) l3_shortest_apart)
  .nil)
def l1_shortest_apart : Sms := (.cons (.asg 4 (.lst .nil))
  (.cons (.for (.loc 2) (.one 5) l2_shortest_apart)
  (.cons (.asg 2 (.loc 4))
  .nil)))
/-- shortest_apart -/
def b_shortest_apart : Sms := (.cons (.ex (.call 135 (.cons (.loc 0) .nil)))
  (.cons (.ife (.not (.call 48 (.cons (.loc 1) (.cons (.int 0) (.cons (.int 3) .nil))))) (.cons (.raise (⟨#[73, 110, 118, 97, 108, 105, 100, 78, 117, 109, 98, 101, 114]⟩ : PySem.Str) (⟨#[110, 111, 116, 32, 97, 32, 110, 117, 109, 98, 101, 114, 32, 111, 102, 32, 115, 116, 101, 112, 115]⟩ : PySem.Str))
  .nil) .nil)
  (.cons (.asg 2 (.lst (.cons (.tup .nil) .nil)))
  (.cons (.for (.rng1 (.loc 1)) (.one 3) l1_shortest_apart)
  (.cons (.ret .non)
  .nil)))))
def d_shortest_apart : Df := ⟨7, false, 2, b_shortest_apart⟩
abbrev f_shortest_apart : Nat := 131
def e1__law_refused_k09 : Ex := (.lam 36 131 (.cons (.tup (.cons (.tup (.cons (.int 1) (.cons (.int 1) .nil))) (.cons (.tup (.cons (.int 2) (.cons (.int 1) .nil))) .nil))) (.cons (.loc 1) .nil)))
def l2__law_refused_k09 : Sms := (.cons (.ife (.cmp .ne (.lam 36 128 (.cons (.loc 0) (.cons (.loc 1) .nil))) (.str (⟨#[114, 97, 116, 105, 111, 115, 32, 118, 97, 108, 117, 101]⟩ : PySem.Str))) (.cons (.ret (.bl false))
  .nil) .nil)
  (.cons (.ife (.cmp .ne (.lam 36 131 (.cons (.loc 1) (.cons .non .nil))) (.str (⟨#[114, 97, 116, 105, 111, 115, 32, 118, 97, 108, 117, 101]⟩ : PySem.Str))) (.cons (.ret (.bl false))
  .nil) .nil)
  .nil))
/-- _law_refused_k09 -/
def b__law_refused_k09 : Sms := (.cons (.for (.lst (.cons .non (.cons (.tup (.cons (.tup (.cons (.int 1) (.cons (.int 1) .nil))) .nil)) (.cons (.tup (.cons (.tup (.cons (.int 1) (.cons (.int 1) .nil))) (.cons (.tup (.cons (.int 1) (.cons (.int 1) .nil))) .nil))) (.cons (.lst (.cons (.tup (.cons (.int 1) (.cons (.int 1) .nil))) (.cons (.tup (.cons (.int 2) (.cons (.int 1) .nil))) .nil))) (.cons (.tup (.cons (.tup (.cons (.int 1) (.cons (.int 1) .nil))) (.cons (.tup (.cons (.int 2) (.cons (.int 2) .nil))) .nil))) (.cons (.tup (.cons (.tup (.cons (.int 1) (.cons (.int 1) .nil))) (.cons (.tup (.cons (.int 5) (.cons (.int 1) .nil))) .nil))) .nil))))))) (.one 1) l2__law_refused_k09)
  (.cons (.asg 2 (.lc (.lst (.cons (.neg (.int 1)) (.cons (.int 4) (.cons (.bl true) (.cons .non .nil))))) (.one 1) [1] .omit e1__law_refused_k09))
  (.cons (.ret (.cmp .eq (.loc 2) (.bin .mul (.lst (.cons (.str (⟨#[110, 117, 109, 98, 101, 114, 32, 118, 97, 108, 117, 101]⟩ : PySem.Str)) .nil)) (.int 4))))
  .nil)))
def d__law_refused_k09 : Df := ⟨3, false, 1, b__law_refused_k09⟩
abbrev f__law_refused_k09 : Nat := 132
/-- _law_refused_k14 -/
def b__law_refused_k14 : Sms := (.cons .nev .nil)
def d__law_refused_k14 : Df := ⟨3, false, 2, b__law_refused_k14⟩
abbrev f__law_refused_k14 : Nat := 133
def q1__law_apart : Ex := (.cmp .inn (.idx (.loc 2) (.loc 4)) (.slc (.loc 2) .omit (.loc 4)))
def e1__law_apart : Ex := (.loc 4)
def e2__law_apart : Ex := (.idx (.call 63 (.cons (.loc 0) (.cons (.loc 3) .nil))) (.int 2))
/-- _law_apart -/
def b__law_apart : Sms := (.cons (.asg 2 (.lc (.loc 1) (.one 3) [3] .omit e2__law_apart))
  (.cons (.ret (.cmp .eq (.bf .len (.cons (.lc (.rng1 (.bf .len (.cons (.loc 2) .nil))) (.one 4) [4] q1__law_apart e1__law_apart) .nil)) (.int 0)))
  .nil))
def d__law_apart : Df := ⟨5, false, 2, b__law_apart⟩
abbrev f__law_apart : Nat := 134
def q1_need_ratios : Ex := (.not (.call 56 (.cons (.loc 1) .nil)))
def e1_need_ratios : Ex := (.loc 1)
/-- need_ratios -/
def b_need_ratios : Sms := (.cons (.ife (.or (.not (.isi (.loc 0) .tuple)) (.not (.chain .le .le (.int 2) (.bf .len (.cons (.loc 0) .nil)) (.int 6)))) (.cons (.raise (⟨#[73, 110, 118, 97, 108, 105, 100, 82, 97, 116, 105, 111, 115]⟩ : PySem.Str) (⟨#[110, 111, 116, 32, 97, 32, 116, 117, 112, 108, 101, 32, 111, 102, 32, 114, 97, 116, 105, 111, 115]⟩ : PySem.Str))
  .nil) .nil)
  (.cons (.ife (.or (.cmp .ne (.lc (.loc 0) (.one 1) [1] q1_need_ratios e1_need_ratios) (.lst .nil)) (.cmp .ne (.lss (.loc 0)) (.bf .len (.cons (.loc 0) .nil)))) (.cons (.raise (⟨#[73, 110, 118, 97, 108, 105, 100, 82, 97, 116, 105, 111, 115]⟩ : PySem.Str) (⟨#[110, 111, 116, 32, 117, 110, 108, 105, 107, 101, 32, 114, 97, 116, 105, 111, 115]⟩ : PySem.Str))
  .nil) .nil)
  .nil))
def d_need_ratios : Df := ⟨2, false, 1, b_need_ratios⟩
abbrev f_need_ratios : Nat := 135
def q1_parts : Ex := (.cmp .eq (.idx (.loc 2) (.loc 4)) (.idx (.loc 2) (.bin .add (.loc 4) (.int 1))))
def e1_parts : Ex := (.loc 4)
def e2_parts : Ex := (.idx (.call 65 (.cons (.loc 0) (.cons (.loc 3) .nil))) (.int 2))
/-- parts -/
def b_parts : Sms := (.cons (.asg 2 (.bf .sorted (.cons (.lc (.loc 1) (.one 3) [3] .omit e2_parts) .nil)))
  (.cons (.ret (.cmp .eq (.lc (.rng1 (.bin .sub (.bf .len (.cons (.loc 2) .nil)) (.int 1))) (.one 4) [4] q1_parts e1_parts) (.lst .nil)))
  .nil))
def d_parts : Df := ⟨5, false, 2, b_parts⟩
abbrev f_parts : Nat := 136
def e3__law_every : Ex := (.tup (.cons (.loc 3) (.cons (.loc 1) (.cons (.loc 2) .nil))))
def l2__law_every : Sms := (.cons (.asg 0 (.bin .add (.loc 0) (.lc (.lst (.cons (.str (⟨#[119, 97, 105, 116]⟩ : PySem.Str)) (.cons (.str (⟨#[99, 111, 117, 110, 116]⟩ : PySem.Str)) (.cons (.str (⟨#[98, 111, 116, 104]⟩ : PySem.Str)) .nil)))) (.one 3) [3] .omit e3__law_every)))
  .nil)
def l1__law_every : Sms := (.cons (.asg 0 (.bin .add (.loc 0) (.lst (.cons (.tup (.cons (.str (⟨#[103, 111]⟩ : PySem.Str)) (.cons (.loc 1) .nil))) (.cons (.tup (.cons (.str (⟨#[115, 116, 111, 112]⟩ : PySem.Str)) (.cons (.loc 1) .nil))) .nil)))))
  (.cons (.for (.tup (.cons (.int 1) (.cons (.int 2) (.cons (.int 3) (.cons (.int 4) .nil))))) (.one 2) l2__law_every)
  .nil))
/-- _law_every -/
def b__law_every : Sms := (.cons (.asg 0 (.lst .nil))
  (.cons (.for (.tup (.cons (.int 0) (.cons (.int 1) .nil))) (.one 1) l1__law_every)
  (.cons (.ret (.loc 0))
  .nil)))
def d__law_every : Df := ⟨4, false, 0, b__law_every⟩
abbrev f__law_every : Nat := 137
def l2_all_steps : Sms := (.cons (.asg 0 (.bin .add (.loc 0) (.lst (.cons (.tup (.cons (.str (⟨#[119, 97, 105, 116]⟩ : PySem.Str)) (.cons (.loc 1) (.cons (.loc 2) .nil)))) (.cons (.tup (.cons (.str (⟨#[99, 111, 117, 110, 116]⟩ : PySem.Str)) (.cons (.loc 1) (.cons (.loc 2) .nil)))) (.cons (.tup (.cons (.str (⟨#[98, 111, 116, 104]⟩ : PySem.Str)) (.cons (.loc 1) (.cons (.loc 2) .nil)))) .nil))))))
  .nil)
def l1_all_steps : Sms := (.cons (.asg 0 (.bin .add (.loc 0) (.lst (.cons (.tup (.cons (.str (⟨#[103, 111]⟩ : PySem.Str)) (.cons (.loc 1) .nil))) (.cons (.tup (.cons (.str (⟨#[115, 116, 111, 112]⟩ : PySem.Str)) (.cons (.loc 1) .nil))) .nil)))))
  (.cons (.for (.rng2 (.int 1) (.int 5)) (.one 2) l2_all_steps)
  .nil))
/-- all_steps -/
def b_all_steps : Sms := (.cons (.asg 0 (.lst .nil))
  (.cons (.for (.tup (.cons (.int 0) (.cons (.int 1) .nil))) (.one 1) l1_all_steps)
  (.cons (.ret (.loc 0))
  .nil)))
def d_all_steps : Df := ⟨3, false, 0, b_all_steps⟩
abbrev f_all_steps : Nat := 138
/-- alike -/
def b_alike : Sms := (.cons (.ex (.call 144 (.cons (.loc 0) (.cons (.loc 1) .nil))))
  (.cons (.ret (.call 145 (.cons (.loc 0) (.cons (.loc 1) .nil))))
  .nil))
def d_alike : Df := ⟨2, false, 2, b_alike⟩
abbrev f_alike : Nat := 139
def e1_parting : Ex := (.tup (.cons (.bin .add (.idx (.loc 6) (.int 0)) (.idx (.loc 6) (.int 1))) (.cons (.loc 6) .nil)))
def q2_parting : Ex := (.not (.loc 5))
def e2_parting : Ex := (.call 146 (.cons (.loc 3) (.cons (.loc 4) .nil)))
/-- parting -/
def b_parting : Sms := (.cons (.ex (.call 144 (.cons (.loc 0) (.cons (.loc 1) .nil))))
  (.cons (.asg 2 (.lc (.call 147 (.cons (.loc 0) (.cons (.loc 1) .nil))) (.many [3, 4, 5]) [3, 4, 5] q2_parting e2_parting))
  (.cons (.ret (.ite (.cmp .ne (.loc 2) (.lst .nil)) (.idx (.bf .min1 (.cons (.lc (.loc 2) (.one 6) [6] .omit e1_parting) .nil)) (.int 1)) .non))
  .nil)))
def d_parting : Df := ⟨7, false, 2, b_parting⟩
abbrev f_parting : Nat := 140
/-- alike_at -/
def b_alike_at : Sms := (.cons (.ex (.call 144 (.cons (.loc 0) (.cons (.loc 1) .nil))))
  (.cons (.ret (.call 114 (.cons (.call 147 (.cons (.loc 0) (.cons (.loc 1) .nil))) .nil)))
  .nil))
def d_alike_at : Df := ⟨2, false, 2, b_alike_at⟩
abbrev f_alike_at : Nat := 141
/-- _law_pair_right -/
def b__law_pair_right : Sms := (.cons (.asg 2 (.call 148 (.cons (.loc 0) (.cons (.loc 1) .nil))))
  (.cons (.par [3, 4, 5] (.cons (.call 116 (.cons (.loc 2) .nil)) (.cons (.call 140 (.cons (.loc 0) (.cons (.loc 1) .nil))) (.cons (.call 149 (.cons (.loc 2) .nil)) .nil))))
  (.cons (.ife (.or (.cmp .ne (.call 141 (.cons (.loc 0) (.cons (.loc 1) .nil))) (.loc 3)) (.cmp .ne (.call 141 (.cons (.loc 1) (.cons (.loc 0) .nil))) (.loc 3))) (.cons (.ret (.bl false))
  .nil) .nil)
  (.cons (.ife (.not (.call 35 (.cons (.call 139 (.cons (.loc 0) (.cons (.loc 1) .nil))) (.cons (.cmp .eq (.loc 3) (.lst (.cons (.call 76 .nil) .nil))) .nil)))) (.cons (.ret (.bl false))
  .nil) .nil)
  (.cons (.ife (.or (.cmp .ne (.cmp .isN (.loc 4) .non) (.cmp .eq (.loc 3) (.lst (.cons (.call 76 .nil) .nil)))) (.and (.cmp .notN (.loc 5) .non) (.cmp .ne (.loc 4) (.loc 5)))) (.cons (.ret (.bl false))
  .nil) .nil)
  (.cons (.ret (.or (.cmp .isN (.loc 4) .non) (.and (.call 52 (.cons (.loc 4) .nil)) (.not (.call 150 (.cons (.loc 4) (.cons (.loc 3) .nil)))))))
  .nil))))))
def d__law_pair_right : Df := ⟨6, false, 2, b__law_pair_right⟩
abbrev f__law_pair_right : Nat := 142
/-- _law_near -/
def b__law_near : Sms := (.cons (.par [3, 4] (.cons (.callv 30 0 (.cons (.bin .add (.bf .len (.cons (.loc 1) .nil)) (.int 1)) .nil)) (.cons (.callv 30 0 (.cons (.int 6) .nil)) .nil)))
  (.cons (.asg 2 (.bin .add (.slc (.loc 1) .omit (.loc 3)) (.slc (.loc 1) (.bin .add (.loc 3) (.int 1)) .omit)))
  (.cons (.ife (.cmp .eq (.loc 4) (.int 0)) (.cons (.asg 2 (.callv 23 0 (.cons (.int 6) .nil)))
  .nil) (.cons (.ife (.cmp .eq (.loc 4) (.int 1)) (.cons (.asg 5 (.rev (.slc (.loc 1) (.loc 3) (.bin .add (.loc 3) (.int 2)))))
  (.cons (.asg 2 (.bin .add (.bin .add (.slc (.loc 1) .omit (.loc 3)) (.loc 5)) (.slc (.loc 1) (.bin .add (.loc 3) (.int 2)) .omit)))
  .nil)) (.cons (.ife (.cmp .eq (.loc 4) (.int 2)) (.cons (.asg 2 (.bin .add (.bin .add (.slc (.loc 1) .omit (.loc 3)) (.tup (.cons (.callv 29 0 .nil) .nil))) (.slc (.loc 1) (.bin .add (.loc 3) (.int 1)) .omit)))
  .nil) (.cons (.ife (.cmp .eq (.loc 4) (.int 3)) (.cons (.asg 2 (.bin .add (.loc 1) (.tup (.cons (.tup (.cons (.str (⟨#[103, 111]⟩ : PySem.Str)) (.cons (.callv 30 0 (.cons (.int 2) .nil)) .nil))) (.cons (.tup (.cons (.str (⟨#[115, 116, 111, 112]⟩ : PySem.Str)) (.cons (.int 1) .nil))) .nil)))))
  .nil) .nil)
  .nil))
  .nil))
  .nil))
  (.cons (.ret (.ite (.cmp .lt (.bf .len (.cons (.loc 2) .nil)) (.int 9)) (.loc 2) (.loc 1)))
  .nil))))
def d__law_near : Df := ⟨6, true, 1, b__law_near⟩
abbrev f__law_near : Nat := 143
/-- need_two -/
def b_need_two : Sms := (.cons (.ex (.call 53 (.cons (.loc 0) .nil)))
  (.cons (.ex (.call 53 (.cons (.loc 1) .nil)))
  .nil))
def d_need_two : Df := ⟨2, false, 2, b_need_two⟩
abbrev f_need_two : Nat := 144
def q1_are_alike : Ex := (.not (.idx (.loc 2) (.int 2)))
def e1_are_alike : Ex := (.loc 2)
/-- are_alike -/
def b_are_alike : Sms := (.cons (.ret (.cmp .eq (.lc (.call 147 (.cons (.loc 0) (.cons (.loc 1) .nil))) (.one 2) [2] q1_are_alike e1_are_alike) (.lst .nil)))
  .nil)
def d_are_alike : Df := ⟨3, false, 2, b_are_alike⟩
abbrev f_are_alike : Nat := 145
def c1_simplest : Ex := (.not (.and (.call 50 (.cons (.loc 0) (.cons (.loc 4) .nil))) (.call 50 (.cons (.loc 4) (.cons (.loc 1) .nil)))))
def l1_simplest : Sms := (.cons (.ife (.call 50 (.cons (.loc 0) (.cons (.loc 4) .nil))) (.cons (.asg 3 (.loc 4))
  .nil) (.cons (.asg 2 (.loc 4))
  .nil))
  (.cons (.asg 4 (.tup (.cons (.bin .add (.idx (.loc 2) (.int 0)) (.idx (.loc 3) (.int 0))) (.cons (.bin .add (.idx (.loc 2) (.int 1)) (.idx (.loc 3) (.int 1))) .nil))))
  .nil))
/-- simplest -/
def b_simplest : Sms := (.cons (.ife (.cmp .eq (.loc 0) (.loc 1)) (.cons (.ret (.loc 0))
  .nil) .nil)
  (.cons (.par [2, 3, 4] (.cons (.tup (.cons (.int 0) (.cons (.int 1) .nil))) (.cons (.tup (.cons (.int 1) (.cons (.int 0) .nil))) (.cons (.tup (.cons (.int 1) (.cons (.int 1) .nil))) .nil))))
  (.cons (.whl c1_simplest l1_simplest)
  (.cons (.ret (.loc 4))
  .nil))))
def d_simplest : Df := ⟨5, false, 2, b_simplest⟩
abbrev f_simplest : Nat := 146
def l1_all_rows : Sms := (.cons (.par [7, 8] (.cons (.call 153 (.cons (.loc 3) (.cons (.loc 6) (.cons (.loc 2) .nil)))) (.cons (.call 153 (.cons (.loc 4) (.cons (.loc 6) (.cons (.loc 2) .nil)))) .nil)))
  (.cons (.ext 5 (.call 154 (.cons (.loc 7) (.cons (.loc 8) (.cons (.loc 6) (.cons (.loc 2) .nil))))))
  (.cons (.ife (.cmp .ne (.loc 2) (.glb 3 (⟨#[72, 73, 71, 72, 69, 83, 84]⟩ : PySem.Str))) (.cons (.app 5 (.tup (.cons (.loc 2) (.cons (.loc 2) (.cons (.cmp .eq (.call 155 (.cons (.loc 0) (.cons (.loc 2) .nil))) (.call 155 (.cons (.loc 1) (.cons (.loc 2) .nil)))) .nil)))))
  .nil) .nil)
  (.cons (.asg 6 (.loc 2))
  .nil))))
/-- all_rows -/
def b_all_rows : Sms := (.cons (.par [3, 4] (.cons (.call 93 (.cons (.loc 0) .nil)) (.cons (.call 93 (.cons (.loc 1) .nil)) .nil)))
  (.cons (.par [5, 6] (.cons (.lst .nil) (.cons (.glb 2 (⟨#[76, 79, 87, 69, 83, 84]⟩ : PySem.Str)) .nil)))
  (.cons (.for (.bin .add (.call 151 (.cons (.call 152 (.cons (.loc 3) .nil)) (.cons (.call 152 (.cons (.loc 4) .nil)) .nil))) (.lst (.cons (.glb 3 (⟨#[72, 73, 71, 72, 69, 83, 84]⟩ : PySem.Str)) .nil))) (.one 2) l1_all_rows)
  (.cons (.ret (.loc 5))
  .nil))))
def d_all_rows : Df := ⟨9, false, 2, b_all_rows⟩
abbrev f_all_rows : Nat := 147
def l1__law_same_rows : Sms := (.cons (.asg 7 (.call 157 (.cons (.loc 3) (.cons (.loc 6) (.cons (.loc 2) .nil)))))
  (.cons (.asg 8 (.call 157 (.cons (.loc 4) (.cons (.loc 6) (.cons (.loc 2) .nil)))))
  (.cons (.asg 5 (.bin .add (.loc 5) (.call 158 (.cons (.loc 7) (.cons (.loc 8) (.cons (.loc 6) (.cons (.loc 2) .nil)))))))
  (.cons (.ife (.cmp .ne (.loc 2) (.tup (.cons (.int 5) (.cons (.int 1) .nil)))) (.cons (.asg 9 (.cmp .eq (.slc (.call 63 (.cons (.loc 0) (.cons (.loc 2) .nil))) (.int 2) .omit) (.slc (.call 63 (.cons (.loc 1) (.cons (.loc 2) .nil))) (.int 2) .omit)))
  (.cons (.app 5 (.tup (.cons (.loc 2) (.cons (.loc 2) (.cons (.loc 9) .nil)))))
  .nil)) .nil)
  (.cons (.asg 6 (.loc 2))
  .nil)))))
/-- _law_same_rows -/
def b__law_same_rows : Sms := (.cons (.par [3, 4, 5, 6] (.cons (.call 74 (.cons (.loc 0) .nil)) (.cons (.call 74 (.cons (.loc 1) .nil)) (.cons (.lst .nil) (.cons (.tup (.cons (.int 1) (.cons (.int 5) .nil))) .nil)))))
  (.cons (.for (.bin .add (.call 156 (.cons (.bin .add (.loc 3) (.loc 4)) .nil)) (.lst (.cons (.tup (.cons (.int 5) (.cons (.int 1) .nil))) .nil))) (.one 2) l1__law_same_rows)
  (.cons (.ret (.loc 5))
  .nil)))
def d__law_same_rows : Df := ⟨10, false, 2, b__law_same_rows⟩
abbrev f__law_same_rows : Nat := 148
def l2__law_smallest : Sms := (.cons (.asg 4 (.tup (.cons (.loc 3) (.cons (.bin .sub (.loc 2) (.loc 3)) .nil))))
  (.cons (.ife (.and (.call 52 (.cons (.loc 4) .nil)) (.call 150 (.cons (.loc 4) (.cons (.loc 1) .nil)))) (.cons (.ret (.loc 4))
  .nil) .nil)
  .nil))
def l1__law_smallest : Sms := (.cons (.for (.rng2 (.int 1) (.loc 2)) (.one 3) l2__law_smallest)
  .nil)
def q3__law_smallest : Ex := (.not (.loc 7))
def e3__law_smallest : Ex := (.tup (.cons (.loc 5) (.cons (.loc 6) .nil)))
/-- _law_smallest -/
def b__law_smallest : Sms := (.cons (.asg 1 (.lc (.loc 0) (.many [5, 6, 7]) [5, 6, 7] q3__law_smallest e3__law_smallest))
  (.cons (.for (.rng2 (.int 2) (.int 41)) (.one 2) l1__law_smallest)
  (.cons (.ret .non)
  .nil)))
def d__law_smallest : Df := ⟨8, false, 1, b__law_smallest⟩
abbrev f__law_smallest : Nat := 149
def l1__law_within : Sms := (.cons (.ife (.chain .eq .eq (.loc 2) (.loc 3) (.loc 0)) (.cons (.ret (.bl true))
  .nil) .nil)
  (.cons (.ife (.and (.call 33 (.cons (.loc 2) (.cons (.loc 0) .nil))) (.call 33 (.cons (.loc 0) (.cons (.loc 3) .nil)))) (.cons (.ret (.bl true))
  .nil) .nil)
  .nil))
/-- _law_within -/
def b__law_within : Sms := (.cons (.for (.loc 1) (.many [2, 3]) l1__law_within)
  (.cons (.ret (.bl false))
  .nil))
def d__law_within : Df := ⟨4, false, 2, b__law_within⟩
abbrev f__law_within : Nat := 150
def c1_merged : Ex := (.or (.cmp .lt (.loc 3) (.bf .len (.cons (.loc 0) .nil))) (.cmp .lt (.loc 4) (.bf .len (.cons (.loc 1) .nil))))
def l1_merged : Sms := (.cons (.ife (.or (.cmp .eq (.loc 4) (.bf .len (.cons (.loc 1) .nil))) (.and (.cmp .lt (.loc 3) (.bf .len (.cons (.loc 0) .nil))) (.call 50 (.cons (.idx (.loc 0) (.loc 3)) (.cons (.idx (.loc 1) (.loc 4)) .nil))))) (.cons (.par [2, 3] (.cons (.bin .add (.loc 2) (.lst (.cons (.idx (.loc 0) (.loc 3)) .nil))) (.cons (.bin .add (.loc 3) (.int 1)) .nil)))
  .nil) (.cons (.asg 3 (.bin .add (.loc 3) (.bf .int (.cons (.and (.cmp .lt (.loc 3) (.bf .len (.cons (.loc 0) .nil))) (.cmp .eq (.idx (.loc 0) (.loc 3)) (.idx (.loc 1) (.loc 4)))) .nil))))
  (.cons (.par [2, 4] (.cons (.bin .add (.loc 2) (.lst (.cons (.idx (.loc 1) (.loc 4)) .nil))) (.cons (.bin .add (.loc 4) (.int 1)) .nil)))
  .nil)))
  .nil)
/-- merged -/
def b_merged : Sms := (.cons (.par [2, 3, 4] (.cons (.lst .nil) (.cons (.int 0) (.cons (.int 0) .nil))))
  (.cons (.whl c1_merged l1_merged)
  (.cons (.ret (.loc 2))
  .nil)))
def d_merged : Df := ⟨5, false, 2, b_merged⟩
abbrev f_merged : Nat := 151
def q1_cuts_of : Ex := (.cmp .eq (.idx (.loc 1) (.int 0)) (.idx (.loc 1) (.int 1)))
def e1_cuts_of : Ex := (.idx (.loc 1) (.int 0))
/-- cuts_of -/
def b_cuts_of : Sms := (.cons (.ret (.lc (.loc 0) (.one 1) [1] q1_cuts_of e1_cuts_of))
  .nil)
def d_cuts_of : Df := ⟨2, false, 1, b_cuts_of⟩
abbrev f_cuts_of : Nat := 152
def l1_piece_over : Sms := (.cons (.ife (.and (.cmp .ne (.idx (.loc 3) (.int 0)) (.idx (.loc 3) (.int 1))) (.and (.not (.call 50 (.cons (.loc 1) (.cons (.idx (.loc 3) (.int 0)) .nil)))) (.not (.call 50 (.cons (.idx (.loc 3) (.int 1)) (.cons (.loc 2) .nil)))))) (.cons (.ret (.loc 3))
  .nil) .nil)
  .nil)
/-- piece_over -/
def b_piece_over : Sms := (.cons (.for (.loc 0) (.one 3) l1_piece_over)
  (.cons (.ret (.idx (.loc 0) (.int 0)))
  .nil))
def d_piece_over : Df := ⟨4, false, 3, b_piece_over⟩
abbrev f_piece_over : Nat := 153
def q1_rows_between : Ex := (.cmp .ne (.call 88 (.cons (.loc 9) (.cons (.loc 5) .nil))) (.int 0))
def e1_rows_between : Ex := (.loc 9)
def q2_rows_between : Ex := (.cmp .ne (.loc 7) (.loc 8))
def e2_rows_between : Ex := (.call 106 (.cons (.loc 7) (.cons (.loc 8) .nil)))
/-- rows_between -/
def b_rows_between : Sms := (.cons (.ife (.or (.cmp .ne (.idx (.loc 0) (.int 4)) (.idx (.loc 1) (.int 4))) (.cmp .ne (.bf .len (.cons (.idx (.loc 0) (.int 5)) .nil)) (.bf .len (.cons (.idx (.loc 1) (.int 5)) .nil)))) (.cons (.ret (.lst (.cons (.tup (.cons (.loc 2) (.cons (.loc 3) (.cons (.bl false) .nil)))) .nil)))
  .nil) .nil)
  (.cons (.asg 4 (.lc (.zip (.idx (.loc 0) (.int 5)) (.idx (.loc 1) (.int 5))) (.many [7, 8]) [7, 8] q2_rows_between e2_rows_between))
  (.cons (.ife (.cmp .eq (.loc 4) (.lst .nil)) (.cons (.ret (.lst (.cons (.tup (.cons (.loc 2) (.cons (.loc 3) (.cons (.bl true) .nil)))) .nil)))
  .nil) .nil)
  (.cons (.asg 5 (.call 107 (.cons (.idx (.loc 4) (.int 0)) (.cons (.loc 2) (.cons (.loc 3) .nil)))))
  (.cons (.ife (.cmp .isN (.loc 5) .non) (.cons (.ret (.lst (.cons (.tup (.cons (.loc 2) (.cons (.loc 3) (.cons (.bl false) .nil)))) .nil)))
  .nil) .nil)
  (.cons (.asg 6 (.cmp .eq (.lc (.loc 4) (.one 9) [9] q1_rows_between e1_rows_between) (.lst .nil)))
  (.cons (.ret (.lst (.cons (.tup (.cons (.loc 2) (.cons (.loc 5) (.cons (.bl false) .nil)))) (.cons (.tup (.cons (.loc 5) (.cons (.loc 5) (.cons (.loc 6) .nil)))) (.cons (.tup (.cons (.loc 5) (.cons (.loc 3) (.cons (.bl false) .nil)))) .nil)))))
  .nil)))))))
def d_rows_between : Df := ⟨10, false, 4, b_rows_between⟩
abbrev f_rows_between : Nat := 154
def e1_told_at : Ex := (.idx (.loc 3) (.int 0))
/-- told_at -/
def b_told_at : Sms := (.cons (.asg 2 (.call 100 (.cons (.loc 0) (.cons (.loc 1) .nil))))
  (.cons (.ret (.tup (.cons (.idx (.loc 2) (.int 4)) (.cons (.lc (.idx (.loc 2) (.int 5)) (.one 3) [3] .omit e1_told_at) .nil))))
  .nil))
def d_told_at : Df := ⟨4, false, 2, b_told_at⟩
abbrev f_told_at : Nat := 155
def q2__law_points : Ex := (.call 33 (.cons (.loc 4) (.cons (.idx (.loc 2) (.int 0)) .nil)))
def e2__law_points : Ex := (.loc 4)
def l1__law_points : Sms := (.cons (.ife (.and (.cmp .eq (.idx (.loc 2) (.int 0)) (.idx (.loc 2) (.int 1))) (.cmp .nin (.idx (.loc 2) (.int 0)) (.loc 1))) (.cons (.asg 3 (.bf .len (.cons (.lc (.loc 1) (.one 4) [4] q2__law_points e2__law_points) .nil)))
  (.cons (.asg 1 (.bin .add (.bin .add (.slc (.loc 1) .omit (.loc 3)) (.lst (.cons (.idx (.loc 2) (.int 0)) .nil))) (.slc (.loc 1) (.loc 3) .omit)))
  .nil)) .nil)
  .nil)
/-- _law_points -/
def b__law_points : Sms := (.cons (.asg 1 (.lst .nil))
  (.cons (.for (.loc 0) (.one 2) l1__law_points)
  (.cons (.ret (.loc 1))
  .nil)))
def d__law_points : Df := ⟨5, false, 1, b__law_points⟩
abbrev f__law_points : Nat := 156
def l1__law_amounts : Sms := (.cons (.asg 4 (.or (.call 33 (.cons (.loc 1) (.cons (.idx (.loc 3) (.int 0)) .nil))) (.call 33 (.cons (.idx (.loc 3) (.int 1)) (.cons (.loc 2) .nil)))))
  (.cons (.ife (.and (.cmp .ne (.idx (.loc 3) (.int 0)) (.idx (.loc 3) (.int 1))) (.not (.loc 4))) (.cons (.ret (.tup (.cons (.idx (.loc 3) (.int 2)) (.cons (.idx (.loc 3) (.int 3)) .nil))))
  .nil) .nil)
  .nil))
/-- _law_amounts -/
def b__law_amounts : Sms := (.cons (.for (.loc 0) (.one 3) l1__law_amounts)
  (.cons (.ret (.tup (.cons (.tup .nil) (.cons (.lst .nil) .nil))))
  .nil))
def d__law_amounts : Df := ⟨5, false, 3, b__law_amounts⟩
abbrev f__law_amounts : Nat := 157
/-- _law_equal_rows -/
def b__law_equal_rows : Sms := (.cons .nev .nil)
def d__law_equal_rows : Df := ⟨11, false, 4, b__law_equal_rows⟩
abbrev f__law_equal_rows : Nat := 158
def q1_needless : Ex := (.call 145 (.cons (.loc 0) (.cons (.bin .add (.slc (.loc 0) .omit (.loc 1)) (.slc (.loc 0) (.bin .add (.loc 1) (.int 1)) .omit)) .nil)))
def e1_needless : Ex := (.loc 1)
/-- needless -/
def b_needless : Sms := (.cons (.ex (.call 53 (.cons (.loc 0) .nil)))
  (.cons (.ret (.lc (.rng1 (.bf .len (.cons (.loc 0) .nil))) (.one 1) [1] q1_needless e1_needless))
  .nil))
def d_needless : Df := ⟨2, false, 1, b_needless⟩
abbrev f_needless : Nat := 159
def l1__law_swapped : Sms := (.cons (.asg 3 (.ite (.cmp .eq (.bf .len (.cons (.loc 2) .nil)) (.int 1)) (.loc 2) (.bin .add (.tup (.cons (.idx (.loc 2) (.int 0)) (.cons (.bin .sub (.int 1) (.idx (.loc 2) (.int 1))) .nil))) (.slc (.loc 2) (.int 2) .omit))))
  (.cons (.asg 1 (.bin .add (.loc 1) (.tup (.cons (.loc 3) .nil))))
  .nil))
/-- _law_swapped -/
def b__law_swapped : Sms := (.cons (.asg 1 (.tup .nil))
  (.cons (.for (.loc 0) (.one 2) l1__law_swapped)
  (.cons (.ret (.loc 1))
  .nil)))
def d__law_swapped : Df := ⟨4, false, 1, b__law_swapped⟩
abbrev f__law_swapped : Nat := 160
def e1__law_round : Ex := (.tup (.cons (.rev (.loc 2)) (.cons (.rev (.loc 1)) .nil)))
/-- _law_round -/
def b__law_round : Sms := (.cons (.ret (.lc (.rev (.loc 0)) (.many [1, 2]) [1, 2] .omit e1__law_round))
  .nil)
def d__law_round : Df := ⟨3, false, 1, b__law_round⟩
abbrev f__law_round : Nat := 161
/-- _law_rings_right -/
def b__law_rings_right : Sms := (.cons .nev .nil)
def d__law_rings_right : Df := ⟨10, false, 3, b__law_rings_right⟩
abbrev f__law_rings_right : Nat := 162
/-- _law_agree -/
def b__law_agree : Sms := (.cons .nev .nil)
def d__law_agree : Df := ⟨16, false, 4, b__law_agree⟩
abbrev f__law_agree : Nat := 163
/-- _law_value -/
def b__law_value : Sms := (.cons .nev .nil)
def d__law_value : Df := ⟨3, false, 1, b__law_value⟩
abbrev f__law_value : Nat := 164
/-- _law_changed -/
def b__law_changed : Sms := (.cons .nev .nil)
def d__law_changed : Df := ⟨7, false, 4, b__law_changed⟩
abbrev f__law_changed : Nat := 165
/-- read_script -/
def b_read_script : Sms := (.cons .nev .nil)
def d_read_script : Df := ⟨4, false, 1, b_read_script⟩
abbrev f_read_script : Nat := 166
def e1_exchanged : Ex := (.ite (.cmp .eq (.idx (.loc 1) (.int 0)) (.str (⟨#[114, 105, 110, 103]⟩ : PySem.Str))) (.loc 1) (.bin .add (.tup (.cons (.idx (.loc 1) (.int 0)) (.cons (.bin .sub (.int 1) (.idx (.loc 1) (.int 1))) .nil))) (.slc (.loc 1) (.int 2) .omit)))
/-- exchanged -/
def b_exchanged : Sms := (.cons (.ret (.bf .tuple (.cons (.lc (.loc 0) (.one 1) [1] .omit e1_exchanged) .nil)))
  .nil)
def d_exchanged : Df := ⟨2, false, 1, b_exchanged⟩
abbrev f_exchanged : Nat := 167
/-- _law_grown_k14 -/
def b__law_grown_k14 : Sms := (.cons .nev .nil)
def d__law_grown_k14 : Df := ⟨2, false, 2, b__law_grown_k14⟩
abbrev f__law_grown_k14 : Nat := 168
/-- _law_grown_k15 -/
def b__law_grown_k15 : Sms := (.cons .nev .nil)
def d__law_grown_k15 : Df := ⟨2, false, 2, b__law_grown_k15⟩
abbrev f__law_grown_k15 : Nat := 169
/-- _law_lessened -/
def b__law_lessened : Sms := (.cons .nev .nil)
def d__law_lessened : Df := ⟨2, false, 2, b__law_lessened⟩
abbrev f__law_lessened : Nat := 170
/-- step_of -/
def b_step_of : Sms := (.cons .nev .nil)
def d_step_of : Df := ⟨2, false, 1, b_step_of⟩
abbrev f_step_of : Nat := 171
/-- part_of -/
def b_part_of : Sms := (.cons (.ret (.ite (.cmp .inn (.loc 0) (.tup (.cons (.str (⟨#[48]⟩ : PySem.Str)) (.cons (.str (⟨#[49]⟩ : PySem.Str)) (.cons (.str (⟨#[50]⟩ : PySem.Str)) (.cons (.str (⟨#[51]⟩ : PySem.Str)) (.cons (.str (⟨#[52]⟩ : PySem.Str)) .nil))))))) (.bf .int (.cons (.loc 0) .nil)) (.loc 0)))
  .nil)
def d_part_of : Df := ⟨1, false, 1, b_part_of⟩
abbrev f_part_of : Nat := 172
/-- _law_shown -/
def b__law_shown : Sms := (.cons .nev .nil)
def d__law_shown : Df := ⟨12, false, 3, b__law_shown⟩
abbrev f__law_shown : Nat := 173
/-- _law_wrong -/
def b__law_wrong : Sms := (.cons .nev .nil)
def d__law_wrong : Df := ⟨5, true, 1, b__law_wrong⟩
abbrev f__law_wrong : Nat := 174
/-- _law_tried -/
def b__law_tried : Sms := (.cons .nev .nil)
def d__law_tried : Df := ⟨1, false, 1, b__law_tried⟩
abbrev f__law_tried : Nat := 175
/-- _law_done -/
def b__law_done : Sms := (.cons .nev .nil)
def d__law_done : Df := ⟨3, false, 2, b__law_done⟩
abbrev f__law_done : Nat := 176
def c1__wall : Ex := (.bl true)
def l1__wall : Sms := (.cons .pass
  .nil)
/-- _wall -/
def b__wall : Sms := (.cons (.whl c1__wall l1__wall)
  .nil)
def d__wall : Df := ⟨1, false, 1, b__wall⟩
abbrev f__wall : Nat := 177
/-- _law_word -/
def b__law_word : Sms := (.cons .nev .nil)
def d__law_word : Df := ⟨2, false, 1, b__law_word⟩
abbrev f__law_word : Nat := 178
/-- _law_shape -/
def b__law_shape : Sms := (.cons .nev .nil)
def d__law_shape : Df := ⟨1, false, 1, b__law_shape⟩
abbrev f__law_shape : Nat := 179
/-- _law_attempted -/
def b__law_attempted : Sms := (.cons .nev .nil)
def d__law_attempted : Df := ⟨3, false, 3, b__law_attempted⟩
abbrev f__law_attempted : Nat := 180
/-- _law_good -/
def b__law_good : Sms := (.cons .nev .nil)
def d__law_good : Df := ⟨2, false, 2, b__law_good⟩
abbrev f__law_good : Nat := 181
/-- _law_bad -/
def b__law_bad : Sms := (.cons .nev .nil)
def d__law_bad : Df := ⟨4, false, 3, b__law_bad⟩
abbrev f__law_bad : Nat := 182
/-- _law_text -/
def b__law_text : Sms := (.cons .nev .nil)
def d__law_text : Df := ⟨3, false, 1, b__law_text⟩
abbrev f__law_text : Nat := 183
/-- script_text -/
def b_script_text : Sms := (.cons .nev .nil)
def d_script_text : Df := ⟨1, false, 1, b_script_text⟩
abbrev f_script_text : Nat := 184
/-- lines_of -/
def b_lines_of : Sms := (.cons .nev .nil)
def d_lines_of : Df := ⟨3, false, 1, b_lines_of⟩
abbrev f_lines_of : Nat := 185
/-- _law_spoilt -/
def b__law_spoilt : Sms := (.cons .nev .nil)
def d__law_spoilt : Df := ⟨8, true, 1, b__law_spoilt⟩
abbrev f__law_spoilt : Nat := 186
/-- _law_read -/
def b__law_read : Sms := (.cons .nev .nil)
def d__law_read : Df := ⟨1, false, 1, b__law_read⟩
abbrev f__law_read : Nat := 187
/-- _law_read_as_value -/
def b__law_read_as_value : Sms := (.cons .nev .nil)
def d__law_read_as_value : Df := ⟨1, false, 1, b__law_read_as_value⟩
abbrev f__law_read_as_value : Nat := 188
/-- _law_of_script -/
def b__law_of_script : Sms := (.cons .nev .nil)
def d__law_of_script : Df := ⟨3, false, 1, b__law_of_script⟩
abbrev f__law_of_script : Nat := 189
def e1__law_forms_right : Ex := (.loc 8)
/-- _law_forms_right -/
def b__law_forms_right : Sms := (.cons (.unp [3, 4, 5, 6] (.call 193 .nil))
  (.cons (.asg 0 (.tup (.cons (.tup (.cons (.int 1) (.cons (.int 5) .nil))) (.cons (.tup (.cons (.int 5) (.cons (.int 1) .nil))) .nil))))
  (.cons (.asg 1 (.lst (.cons (.and (.cmp .eq (.call 75 (.cons (.loc 4) (.cons (.int 0) .nil))) (.lst (.cons (.tup (.cons (.loc 0) (.cons (.tup (.cons (.int 0) (.cons (.int 3) .nil))) .nil))) .nil))) (.cmp .eq (.call 75 (.cons (.loc 6) (.cons (.int 0) .nil))) (.lst (.cons (.tup (.cons (.loc 0) (.cons (.tup (.cons (.int 1) (.cons (.int 0) .nil))) .nil))) .nil)))) .nil)))
  (.cons (.asg 2 (.lst (.cons (.tup (.cons (.int 0) (.cons (.int 1) .nil))) (.cons (.tup (.cons (.int 0) (.cons (.int 2) .nil))) (.cons (.tup (.cons (.int 0) (.cons (.int 3) .nil))) (.cons (.tup (.cons (.int 0) (.cons (.int 4) .nil))) (.cons (.tup (.cons (.int 0) (.cons (.int 5) .nil))) .nil)))))))
  (.cons (.app 1 (.cmp .eq (.lc (.call 75 (.cons (.loc 6) (.cons (.int 1) .nil))) (.many [7, 8]) [7, 8] .omit e1__law_forms_right) (.loc 2)))
  (.cons (.app 1 (.and (.cmp .eq (.bf .len (.cons (.call 75 (.cons (.loc 5) (.cons (.int 0) .nil))) .nil)) (.int 10)) (.cmp .eq (.bf .len (.cons (.call 110 (.cons (.loc 5) (.cons (.int 0) .nil))) .nil)) (.int 9))))
  (.cons (.app 1 (.cmp .eq (.call 110 (.cons (.loc 6) (.cons (.int 1) .nil))) (.lst (.cons (.tup (.cons (.int 1) (.cons (.int 1) .nil))) (.cons (.tup (.cons (.int 2) (.cons (.int 1) .nil))) (.cons (.tup (.cons (.int 3) (.cons (.int 1) .nil))) (.cons (.tup (.cons (.int 4) (.cons (.int 1) .nil))) .nil)))))))
  (.cons (.app 1 (.cmp .eq (.call 110 (.cons (.loc 6) (.cons (.int 0) .nil))) (.lst .nil)))
  (.cons (.app 1 (.cmp .eq (.call 117 (.cons (.loc 4) (.cons (.int 0) (.cons (.int 1) .nil)))) (.tup (.cons (.tup (.cons (.tup (.cons (.int 3) (.cons (.int 1) .nil))) (.cons (.bl true) .nil))) (.cons (.tup (.cons (.tup (.cons (.int 3) (.cons (.int 1) .nil))) (.cons (.bl true) .nil))) .nil)))))
  (.cons (.app 1 (.cmp .eq (.call 117 (.cons (.loc 4) (.cons (.int 0) (.cons (.int 0) .nil)))) (.tup (.cons (.tup (.cons (.tup (.cons (.int 3) (.cons (.int 5) .nil))) (.cons (.bl false) .nil))) (.cons (.tup (.cons (.tup (.cons (.int 15) (.cons (.int 1) .nil))) (.cons (.bl false) .nil))) .nil)))))
  (.cons (.app 1 (.cmp .eq (.call 117 (.cons (.loc 5) (.cons (.int 0) (.cons (.int 0) .nil)))) (.tup (.cons (.tup (.cons (.tup (.cons (.int 1) (.cons (.int 1) .nil))) (.cons (.bl true) .nil))) (.cons (.tup (.cons (.tup (.cons (.int 3) (.cons (.int 1) .nil))) (.cons (.bl true) .nil))) .nil)))))
  (.cons (.ret (.bin .add (.loc 1) (.lst (.cons (.cmp .eq (.call 111 (.cons (.loc 4) (.cons (.int 0) (.cons (.int 1) .nil)))) (.lst (.cons (.tup (.cons (.int 3) (.cons (.lst (.cons (.loc 0) .nil)) .nil))) .nil))) (.cons (.cmp .eq (.bf .len (.cons (.call 111 (.cons (.loc 4) (.cons (.int 0) (.cons (.int 0) .nil)))) .nil)) (.int 15)) .nil)))))
  .nil))))))))))))
def d__law_forms_right : Df := ⟨9, false, 0, b__law_forms_right⟩
abbrev f__law_forms_right : Nat := 190
/-- _law_answers_right -/
def b__law_answers_right : Sms := (.cons (.unp [1, 2, 3, 4] (.call 193 .nil))
  (.cons (.asg 0 (.lst (.cons (.and (.cmp .eq (.bf .len (.cons (.call 122 (.cons (.loc 1) .nil)) .nil)) (.int 10)) (.cmp .eq (.bf .len (.cons (.call 122 (.cons (.loc 2) .nil)) .nil)) (.int 10))) .nil)))
  (.cons (.app 0 (.cmp .eq (.call 122 (.cons (.loc 4) .nil)) (.lst (.cons (.tup (.cons (.lst (.cons (.tup (.cons (.tup (.cons (.int 1) (.cons (.int 5) .nil))) (.cons (.tup (.cons (.int 5) (.cons (.int 1) .nil))) .nil))) .nil)) (.cons (.tup .nil) .nil))) .nil))))
  (.cons (.app 0 (.cmp .eq (.call 123 (.cons (.loc 2) (.cons (.tup (.cons (.int 3) .nil)) .nil))) (.lst (.cons (.tup (.cons (.tup (.cons (.int 1) (.cons (.int 2) .nil))) (.cons (.tup (.cons (.int 2) (.cons (.int 3) .nil))) .nil))) (.cons (.tup (.cons (.tup (.cons (.int 2) (.cons (.int 3) .nil))) (.cons (.tup (.cons (.int 2) (.cons (.int 3) .nil))) .nil))) .nil)))))
  (.cons (.app 0 (.cmp .eq (.slc (.call 123 (.cons (.loc 3) (.cons (.tup (.cons (.int 1) .nil)) .nil))) .omit (.int 2)) (.lst (.cons (.tup (.cons (.tup (.cons (.int 1) (.cons (.int 3) .nil))) (.cons (.tup (.cons (.int 1) (.cons (.int 3) .nil))) .nil))) (.cons (.tup (.cons (.tup (.cons (.int 1) (.cons (.int 2) .nil))) (.cons (.tup (.cons (.int 1) (.cons (.int 2) .nil))) .nil))) .nil)))))
  (.cons (.app 0 (.and (.cmp .eq (.call 126 (.cons (.loc 1) .nil)) (.tup (.cons (.int 5) (.cons (.int 2) .nil)))) (.and (.cmp .eq (.call 126 (.cons (.loc 2) .nil)) (.tup (.cons (.int 5) (.cons (.int 2) .nil)))) (.cmp .eq (.call 126 (.cons (.loc 3) .nil)) (.tup (.cons (.int 25) (.cons (.int 1) .nil)))))))
  (.cons (.app 0 (.and (.call 128 (.cons (.loc 1) (.cons (.tup (.cons (.tup (.cons (.int 1) (.cons (.int 1) .nil))) (.cons (.tup (.cons (.int 3) (.cons (.int 2) .nil))) (.cons (.tup (.cons (.int 2) (.cons (.int 1) .nil))) .nil)))) .nil))) (.not (.call 128 (.cons (.loc 1) (.cons (.tup (.cons (.tup (.cons (.int 1) (.cons (.int 1) .nil))) (.cons (.tup (.cons (.int 5) (.cons (.int 4) .nil))) .nil))) .nil))))))
  (.cons (.app 0 (.cmp .eq (.call 61 (.cons (.tup (.cons (.tup (.cons (.str (⟨#[115, 116, 111, 112]⟩ : PySem.Str)) (.cons (.int 1) .nil))) (.cons (.tup (.cons (.str (⟨#[103, 111]⟩ : PySem.Str)) (.cons (.int 1) .nil))) (.cons (.tup (.cons (.str (⟨#[99, 111, 117, 110, 116]⟩ : PySem.Str)) (.cons (.int 0) (.cons (.int 2) .nil)))) .nil)))) (.cons (.tup (.cons (.int 3) (.cons (.int 2) .nil))) .nil))) (.tup (.cons (.int 3) .nil))))
  (.cons (.ret (.bin .add (.loc 0) (.lst (.cons (.cmp .eq (.call 159 (.cons (.loc 2) .nil)) (.lst .nil)) (.cons (.cmp .eq (.call 140 (.cons (.loc 1) (.cons (.tup .nil) .nil))) (.tup (.cons (.int 1) (.cons (.int 1) .nil)))) (.cons (.cmp .isN (.call 140 (.cons (.loc 4) (.cons (.loc 4) .nil))) .non) .nil))))))
  .nil)))))))))
def d__law_answers_right : Df := ⟨5, false, 0, b__law_answers_right⟩
abbrev f__law_answers_right : Nat := 191
def q1__law_counts_right : Ex := (.cmp .eq (.bin .mod (.bin .mul (.loc 9) (.loc 0)) (.loc 1)) (.int 0))
def e1__law_counts_right : Ex := (.loc 9)
/-- _law_counts_right -/
def b__law_counts_right : Sms := (.cons (.unp [5, 6, 7, 8] (.call 193 .nil))
  (.cons (.asg 2 (.tup (.cons (.loc 0) (.cons (.loc 1) .nil))))
  (.cons (.asg 3 (.lst (.cons (.cmp .eq (.call 61 (.cons (.loc 5) (.cons (.loc 2) .nil))) (.tup (.cons (.bin .fdiv (.bin .mul (.int 2) (.loc 0)) (.loc 1)) .nil))) .nil)))
  (.cons (.app 3 (.cmp .eq (.call 61 (.cons (.loc 6) (.cons (.loc 2) .nil))) (.tup (.cons (.bin .fdiv (.bin .mul (.int 2) (.loc 1)) (.loc 0)) .nil))))
  (.cons (.app 3 (.and (.cmp .eq (.call 60 (.cons (.loc 6) (.cons (.loc 2) .nil))) (.lst (.cons (.bin .mul (.int 3) (.loc 1)) .nil))) (.cmp .eq (.call 62 (.cons (.loc 5) (.cons (.loc 2) .nil))) (.bin .mul (.int 2) (.loc 0)))))
  (.cons (.asg 4 (.lc (.tup (.cons (.int 1) (.cons (.int 2) (.cons (.int 3) .nil)))) (.one 9) [9] q1__law_counts_right e1__law_counts_right))
  (.cons (.app 3 (.cmp .eq (.call 61 (.cons (.loc 7) (.cons (.loc 2) .nil))) (.tup (.cons (.bf .int (.cons (.cmp .ne (.loc 4) (.lst .nil)) .nil)) .nil))))
  (.cons (.app 3 (.cmp .eq (.call 60 (.cons (.loc 7) (.cons (.loc 2) .nil))) (.lst (.cons (.bin .mul (.idx (.bin .add (.loc 4) (.lst (.cons (.int 3) .nil))) (.int 0)) (.loc 0)) .nil))))
  (.cons (.ret (.bin .add (.loc 3) (.lst (.cons (.cmp .eq (.call 60 (.cons (.loc 8) (.cons (.loc 2) .nil))) (.lst (.cons (.loc 0) (.cons (.bin .mul (.bin .add (.bin .fdiv (.loc 0) (.loc 1)) (.int 1)) (.loc 1)) .nil)))) .nil))))
  .nil)))))))))
def d__law_counts_right : Df := ⟨10, false, 2, b__law_counts_right⟩
abbrev f__law_counts_right : Nat := 192
/-- _law_known -/
def b__law_known : Sms := (.cons (.asg 0 (.tup (.cons (.tup (.cons (.str (⟨#[99, 111, 117, 110, 116]⟩ : PySem.Str)) (.cons (.int 0) (.cons (.int 2) .nil)))) .nil)))
  (.cons (.asg 1 (.tup (.cons (.tup (.cons (.str (⟨#[119, 97, 105, 116]⟩ : PySem.Str)) (.cons (.int 1) (.cons (.int 1) .nil)))) (.cons (.tup (.cons (.str (⟨#[103, 111]⟩ : PySem.Str)) (.cons (.int 0) .nil))) (.cons (.tup (.cons (.str (⟨#[99, 111, 117, 110, 116]⟩ : PySem.Str)) (.cons (.int 1) (.cons (.int 2) .nil)))) (.cons (.tup (.cons (.str (⟨#[114, 105, 110, 103]⟩ : PySem.Str)) .nil)) .nil))))))
  (.cons (.asg 2 (.tup (.cons (.tup (.cons (.str (⟨#[98, 111, 116, 104]⟩ : PySem.Str)) (.cons (.int 0) (.cons (.int 3) .nil)))) (.cons (.tup (.cons (.str (⟨#[114, 105, 110, 103]⟩ : PySem.Str)) .nil)) .nil))))
  (.cons (.ret (.tup (.cons (.loc 0) (.cons (.loc 1) (.cons (.loc 2) (.cons (.tup (.cons (.tup (.cons (.str (⟨#[119, 97, 105, 116]⟩ : PySem.Str)) (.cons (.int 0) (.cons (.int 1) .nil)))) (.cons (.tup (.cons (.str (⟨#[114, 105, 110, 103]⟩ : PySem.Str)) .nil)) (.cons (.tup (.cons (.str (⟨#[119, 97, 105, 116]⟩ : PySem.Str)) (.cons (.int 1) (.cons (.int 1) .nil)))) (.cons (.tup (.cons (.str (⟨#[114, 105, 110, 103]⟩ : PySem.Str)) .nil)) .nil))))) .nil))))))
  .nil))))
def d__law_known : Df := ⟨3, false, 0, b__law_known⟩
abbrev f__law_known : Nat := 193
inductive DT where
  | leaf (n : Nat) (d : Df) | node (m : Nat) (a b : DT)
def DT.get : DT → Nat → Option Df
  | .leaf n d, i => bif Nat.beq i n then some d else none
  | .node m a b, i => bif Nat.blt i m then a.get i else b.get i
def dT0 : DT := (.node 97 (.node 48 (.node 24 (.node 12 (.node 6 (.node 3 (.node 1 (.leaf 0 d_law_k01) (.node 2 (.leaf 1 d_law_k02) (.leaf 2 d_law_k03))) (.node 4 (.leaf 3 d_law_k04) (.node 5 (.leaf 4 d_law_k05) (.leaf 5 d_law_k06)))) (.node 9 (.node 7 (.leaf 6 d_law_k07) (.node 8 (.leaf 7 d_law_k08) (.leaf 8 d_law_k09))) (.node 10 (.leaf 9 d_law_k10) (.node 11 (.leaf 10 d_law_k11) (.leaf 11 d_law_k12))))) (.node 18 (.node 15 (.node 13 (.leaf 12 d_law_k13) (.node 14 (.leaf 13 d_law_k14) (.leaf 14 d_law_k15))) (.node 16 (.leaf 15 d_law_k16) (.node 17 (.leaf 16 d_law_k17) (.leaf 17 d_law_k18)))) (.node 21 (.node 19 (.leaf 18 d_law_k19) (.node 20 (.leaf 19 d_law_k20) (.leaf 20 d_law_k21))) (.node 22 (.leaf 21 d_law_k22) (.node 23 (.leaf 22 d__law_vat) (.leaf 23 d__law_script)))))) (.node 36 (.node 30 (.node 27 (.node 25 (.leaf 24 d__law_ratio) (.node 26 (.leaf 25 d__law_stretch) (.leaf 26 d__law_judged))) (.node 28 (.leaf 27 d__law_bent) (.node 29 (.leaf 28 d__law_odd) (.leaf 29 d__law_step)))) (.node 33 (.node 31 (.leaf 30 d__law_under) (.node 32 (.leaf 31 d__law_reduced) (.leaf 32 d__law_some))) (.node 34 (.leaf 33 d__law_lower) (.node 35 (.leaf 34 d__law_is_script) (.leaf 35 d__law_truly))))) (.node 42 (.node 39 (.node 37 (.leaf 36 d__law_error) (.node 38 (.leaf 37 d_is_script) (.leaf 38 d_is_periods))) (.node 40 (.leaf 39 d__law_are_periods) (.node 41 (.leaf 40 d_is_stretch) (.leaf 41 d__law_is_stretch)))) (.node 45 (.node 43 (.leaf 42 d_count_rings) (.node 44 (.leaf 43 d_count_answers) (.leaf 44 d__law_count))) (.node 46 (.leaf 45 d__law_is_step) (.node 47 (.leaf 46 d__law_names) (.leaf 47 d_is_step))))))) (.node 72 (.node 60 (.node 54 (.node 51 (.node 49 (.leaf 48 d_is_whole) (.node 50 (.leaf 49 d__law_is_whole) (.leaf 50 d_less))) (.node 52 (.leaf 51 d_is_end) (.node 53 (.leaf 52 d__law_is_ratio) (.leaf 53 d_need_script)))) (.node 57 (.node 55 (.leaf 54 d_rings_in) (.node 56 (.leaf 55 d_answers_in) (.leaf 56 d_is_ratio))) (.node 58 (.leaf 57 d_is_plain_pair) (.node 59 (.leaf 58 d_divisor) (.leaf 59 d__law_right))))) (.node 66 (.node 63 (.node 61 (.leaf 60 d_rings) (.node 62 (.leaf 61 d_answers) (.leaf 62 d_end_time))) (.node 64 (.leaf 63 d__law_fate) (.node 65 (.leaf 64 d_need_periods) (.leaf 65 d_led)))) (.node 69 (.node 67 (.leaf 66 d_first_stand) (.node 68 (.leaf 67 d_behind_step) (.leaf 68 d_passed))) (.node 70 (.leaf 69 d_behind_go) (.node 71 (.leaf 70 d_first_both) (.leaf 71 d_ticked)))))) (.node 84 (.node 78 (.node 75 (.node 73 (.leaf 72 d_put) (.node 74 (.leaf 73 d__law_with_ring) (.leaf 74 d__law_all))) (.node 76 (.leaf 75 d_ring_forms) (.node 77 (.leaf 76 d__law_whole) (.leaf 77 d__law_due_k03)))) (.node 81 (.node 79 (.leaf 78 d__law_due_k04) (.node 80 (.leaf 79 d__law_due_k05) (.leaf 80 d__law_due_k06))) (.node 82 (.leaf 81 d__law_due_k07) (.node 83 (.leaf 82 d__law_due_k08) (.leaf 83 d__law_due_k15))))) (.node 90 (.node 87 (.node 85 (.leaf 84 d__law_due_k18) (.node 86 (.leaf 85 d__law_between) (.leaf 86 d_need_index))) (.node 88 (.leaf 87 d_rows_of) (.node 89 (.leaf 88 d_worth) (.leaf 89 d__law_ring_rows)))) (.node 93 (.node 91 (.leaf 90 d__law_worth) (.node 92 (.leaf 91 d__law_line) (.leaf 92 d__law_at_one))) (.node 95 (.node 94 (.leaf 93 d_course) (.leaf 94 d__law_more)) (.node 96 (.leaf 95 d__law_off) (.leaf 96 d__law_sign)))))))) (.node 145 (.node 121 (.node 109 (.node 103 (.node 100 (.node 98 (.leaf 97 d__law_root) (.node 99 (.leaf 98 d_pieces_between) (.leaf 99 d_stepped))) (.node 101 (.leaf 100 d_single) (.node 102 (.leaf 101 d_waited) (.leaf 102 d_plus)))) (.node 106 (.node 104 (.leaf 103 d_ends_of) (.node 105 (.leaf 104 d_ticks_up_to) (.leaf 105 d_times))) (.node 107 (.leaf 106 d_minus) (.node 108 (.leaf 107 d_zero_within) (.leaf 108 d_sign_of))))) (.node 115 (.node 112 (.node 110 (.leaf 109 d_lowest) (.node 111 (.leaf 110 d_ring_jumps) (.leaf 111 d_swings))) (.node 113 (.leaf 112 d_need_pendulum) (.node 114 (.leaf 113 d_whole_rows) (.leaf 114 d_joined)))) (.node 118 (.node 116 (.leaf 115 d__law_cut_rows) (.node 117 (.leaf 116 d__law_joined) (.leaf 117 d_swing_bounds))) (.node 119 (.leaf 118 d__law_part) (.node 120 (.leaf 119 d_marks_of) (.leaf 120 d_below)))))) (.node 133 (.node 127 (.node 124 (.node 122 (.leaf 121 d__law_marks) (.node 123 (.leaf 122 d_answered) (.leaf 123 d_ratios_for))) (.node 125 (.leaf 124 d_all_answers) (.node 126 (.leaf 125 d_ratios_of) (.leaf 126 d_coarsest)))) (.node 130 (.node 128 (.leaf 127 d__law_quotient) (.node 129 (.leaf 128 d_keeps_apart) (.leaf 129 d__law_some_points))) (.node 131 (.leaf 130 d__law_least) (.node 132 (.leaf 131 d_shortest_apart) (.leaf 132 d__law_refused_k09))))) (.node 139 (.node 136 (.node 134 (.leaf 133 d__law_refused_k14) (.node 135 (.leaf 134 d__law_apart) (.leaf 135 d_need_ratios))) (.node 137 (.leaf 136 d_parts) (.node 138 (.leaf 137 d__law_every) (.leaf 138 d_all_steps)))) (.node 142 (.node 140 (.leaf 139 d_alike) (.node 141 (.leaf 140 d_parting) (.leaf 141 d_alike_at))) (.node 143 (.leaf 142 d__law_pair_right) (.node 144 (.leaf 143 d__law_near) (.leaf 144 d_need_two))))))) (.node 169 (.node 157 (.node 151 (.node 148 (.node 146 (.leaf 145 d_are_alike) (.node 147 (.leaf 146 d_simplest) (.leaf 147 d_all_rows))) (.node 149 (.leaf 148 d__law_same_rows) (.node 150 (.leaf 149 d__law_smallest) (.leaf 150 d__law_within)))) (.node 154 (.node 152 (.leaf 151 d_merged) (.node 153 (.leaf 152 d_cuts_of) (.leaf 153 d_piece_over))) (.node 155 (.leaf 154 d_rows_between) (.node 156 (.leaf 155 d_told_at) (.leaf 156 d__law_points))))) (.node 163 (.node 160 (.node 158 (.leaf 157 d__law_amounts) (.node 159 (.leaf 158 d__law_equal_rows) (.leaf 159 d_needless))) (.node 161 (.leaf 160 d__law_swapped) (.node 162 (.leaf 161 d__law_round) (.leaf 162 d__law_rings_right)))) (.node 166 (.node 164 (.leaf 163 d__law_agree) (.node 165 (.leaf 164 d__law_value) (.leaf 165 d__law_changed))) (.node 167 (.leaf 166 d_read_script) (.node 168 (.leaf 167 d_exchanged) (.leaf 168 d__law_grown_k14)))))) (.node 181 (.node 175 (.node 172 (.node 170 (.leaf 169 d__law_grown_k15) (.node 171 (.leaf 170 d__law_lessened) (.leaf 171 d_step_of))) (.node 173 (.leaf 172 d_part_of) (.node 174 (.leaf 173 d__law_shown) (.leaf 174 d__law_wrong)))) (.node 178 (.node 176 (.leaf 175 d__law_tried) (.node 177 (.leaf 176 d__law_done) (.leaf 177 d__wall))) (.node 179 (.leaf 178 d__law_word) (.node 180 (.leaf 179 d__law_shape) (.leaf 180 d__law_attempted))))) (.node 187 (.node 184 (.node 182 (.leaf 181 d__law_good) (.node 183 (.leaf 182 d__law_bad) (.leaf 183 d__law_text))) (.node 185 (.leaf 184 d_script_text) (.node 186 (.leaf 185 d_lines_of) (.leaf 186 d__law_spoilt)))) (.node 190 (.node 188 (.leaf 187 d__law_read) (.node 189 (.leaf 188 d__law_read_as_value) (.leaf 189 d__law_of_script))) (.node 192 (.node 191 (.leaf 190 d__law_forms_right) (.leaf 191 d__law_answers_right)) (.node 193 (.leaf 192 d__law_counts_right) (.leaf 193 d__law_known)))))))))
theorem D_law_k01 : dT0.get f_law_k01 = some d_law_k01 := by rfl
theorem D_law_k02 : dT0.get f_law_k02 = some d_law_k02 := by rfl
theorem D_law_k03 : dT0.get f_law_k03 = some d_law_k03 := by rfl
theorem D_law_k04 : dT0.get f_law_k04 = some d_law_k04 := by rfl
theorem D_law_k05 : dT0.get f_law_k05 = some d_law_k05 := by rfl
theorem D_law_k06 : dT0.get f_law_k06 = some d_law_k06 := by rfl
theorem D_law_k07 : dT0.get f_law_k07 = some d_law_k07 := by rfl
theorem D_law_k08 : dT0.get f_law_k08 = some d_law_k08 := by rfl
theorem D_law_k09 : dT0.get f_law_k09 = some d_law_k09 := by rfl
theorem D_law_k10 : dT0.get f_law_k10 = some d_law_k10 := by rfl
theorem D_law_k11 : dT0.get f_law_k11 = some d_law_k11 := by rfl
theorem D_law_k12 : dT0.get f_law_k12 = some d_law_k12 := by rfl
theorem D_law_k13 : dT0.get f_law_k13 = some d_law_k13 := by rfl
theorem D_law_k14 : dT0.get f_law_k14 = some d_law_k14 := by rfl
theorem D_law_k15 : dT0.get f_law_k15 = some d_law_k15 := by rfl
theorem D_law_k16 : dT0.get f_law_k16 = some d_law_k16 := by rfl
theorem D_law_k17 : dT0.get f_law_k17 = some d_law_k17 := by rfl
theorem D_law_k18 : dT0.get f_law_k18 = some d_law_k18 := by rfl
theorem D_law_k19 : dT0.get f_law_k19 = some d_law_k19 := by rfl
theorem D_law_k20 : dT0.get f_law_k20 = some d_law_k20 := by rfl
theorem D_law_k21 : dT0.get f_law_k21 = some d_law_k21 := by rfl
theorem D_law_k22 : dT0.get f_law_k22 = some d_law_k22 := by rfl
theorem D__law_vat : dT0.get f__law_vat = some d__law_vat := by rfl
theorem D__law_script : dT0.get f__law_script = some d__law_script := by rfl
theorem D__law_ratio : dT0.get f__law_ratio = some d__law_ratio := by rfl
theorem D__law_stretch : dT0.get f__law_stretch = some d__law_stretch := by rfl
theorem D__law_judged : dT0.get f__law_judged = some d__law_judged := by rfl
theorem D__law_bent : dT0.get f__law_bent = some d__law_bent := by rfl
theorem D__law_odd : dT0.get f__law_odd = some d__law_odd := by rfl
theorem D__law_step : dT0.get f__law_step = some d__law_step := by rfl
theorem D__law_under : dT0.get f__law_under = some d__law_under := by rfl
theorem D__law_reduced : dT0.get f__law_reduced = some d__law_reduced := by rfl
theorem D__law_some : dT0.get f__law_some = some d__law_some := by rfl
theorem D__law_lower : dT0.get f__law_lower = some d__law_lower := by rfl
theorem D__law_is_script : dT0.get f__law_is_script = some d__law_is_script := by rfl
theorem D__law_truly : dT0.get f__law_truly = some d__law_truly := by rfl
theorem D__law_error : dT0.get f__law_error = some d__law_error := by rfl
theorem D_is_script : dT0.get f_is_script = some d_is_script := by rfl
theorem D_is_periods : dT0.get f_is_periods = some d_is_periods := by rfl
theorem D__law_are_periods : dT0.get f__law_are_periods = some d__law_are_periods := by rfl
theorem D_is_stretch : dT0.get f_is_stretch = some d_is_stretch := by rfl
theorem D__law_is_stretch : dT0.get f__law_is_stretch = some d__law_is_stretch := by rfl
theorem D_count_rings : dT0.get f_count_rings = some d_count_rings := by rfl
theorem D_count_answers : dT0.get f_count_answers = some d_count_answers := by rfl
theorem D__law_count : dT0.get f__law_count = some d__law_count := by rfl
theorem D__law_is_step : dT0.get f__law_is_step = some d__law_is_step := by rfl
theorem D__law_names : dT0.get f__law_names = some d__law_names := by rfl
theorem D_is_step : dT0.get f_is_step = some d_is_step := by rfl
theorem D_is_whole : dT0.get f_is_whole = some d_is_whole := by rfl
theorem D__law_is_whole : dT0.get f__law_is_whole = some d__law_is_whole := by rfl
theorem D_less : dT0.get f_less = some d_less := by rfl
theorem D_is_end : dT0.get f_is_end = some d_is_end := by rfl
theorem D__law_is_ratio : dT0.get f__law_is_ratio = some d__law_is_ratio := by rfl
theorem D_need_script : dT0.get f_need_script = some d_need_script := by rfl
theorem D_rings_in : dT0.get f_rings_in = some d_rings_in := by rfl
theorem D_answers_in : dT0.get f_answers_in = some d_answers_in := by rfl
theorem D_is_ratio : dT0.get f_is_ratio = some d_is_ratio := by rfl
theorem D_is_plain_pair : dT0.get f_is_plain_pair = some d_is_plain_pair := by rfl
theorem D_divisor : dT0.get f_divisor = some d_divisor := by rfl
theorem D__law_right : dT0.get f__law_right = some d__law_right := by rfl
theorem D_rings : dT0.get f_rings = some d_rings := by rfl
theorem D_answers : dT0.get f_answers = some d_answers := by rfl
theorem D_end_time : dT0.get f_end_time = some d_end_time := by rfl
theorem D__law_fate : dT0.get f__law_fate = some d__law_fate := by rfl
theorem D_need_periods : dT0.get f_need_periods = some d_need_periods := by rfl
theorem D_led : dT0.get f_led = some d_led := by rfl
theorem D_first_stand : dT0.get f_first_stand = some d_first_stand := by rfl
theorem D_behind_step : dT0.get f_behind_step = some d_behind_step := by rfl
theorem D_passed : dT0.get f_passed = some d_passed := by rfl
theorem D_behind_go : dT0.get f_behind_go = some d_behind_go := by rfl
theorem D_first_both : dT0.get f_first_both = some d_first_both := by rfl
theorem D_ticked : dT0.get f_ticked = some d_ticked := by rfl
theorem D_put : dT0.get f_put = some d_put := by rfl
theorem D__law_with_ring : dT0.get f__law_with_ring = some d__law_with_ring := by rfl
theorem D__law_all : dT0.get f__law_all = some d__law_all := by rfl
theorem D_ring_forms : dT0.get f_ring_forms = some d_ring_forms := by rfl
theorem D__law_whole : dT0.get f__law_whole = some d__law_whole := by rfl
theorem D__law_due_k03 : dT0.get f__law_due_k03 = some d__law_due_k03 := by rfl
theorem D__law_due_k04 : dT0.get f__law_due_k04 = some d__law_due_k04 := by rfl
theorem D__law_due_k05 : dT0.get f__law_due_k05 = some d__law_due_k05 := by rfl
theorem D__law_due_k06 : dT0.get f__law_due_k06 = some d__law_due_k06 := by rfl
theorem D__law_due_k07 : dT0.get f__law_due_k07 = some d__law_due_k07 := by rfl
theorem D__law_due_k08 : dT0.get f__law_due_k08 = some d__law_due_k08 := by rfl
theorem D__law_due_k15 : dT0.get f__law_due_k15 = some d__law_due_k15 := by rfl
theorem D__law_due_k18 : dT0.get f__law_due_k18 = some d__law_due_k18 := by rfl
theorem D__law_between : dT0.get f__law_between = some d__law_between := by rfl
theorem D_need_index : dT0.get f_need_index = some d_need_index := by rfl
theorem D_rows_of : dT0.get f_rows_of = some d_rows_of := by rfl
theorem D_worth : dT0.get f_worth = some d_worth := by rfl
theorem D__law_ring_rows : dT0.get f__law_ring_rows = some d__law_ring_rows := by rfl
theorem D__law_worth : dT0.get f__law_worth = some d__law_worth := by rfl
theorem D__law_line : dT0.get f__law_line = some d__law_line := by rfl
theorem D__law_at_one : dT0.get f__law_at_one = some d__law_at_one := by rfl
theorem D_course : dT0.get f_course = some d_course := by rfl
theorem D__law_more : dT0.get f__law_more = some d__law_more := by rfl
theorem D__law_off : dT0.get f__law_off = some d__law_off := by rfl
theorem D__law_sign : dT0.get f__law_sign = some d__law_sign := by rfl
theorem D__law_root : dT0.get f__law_root = some d__law_root := by rfl
theorem D_pieces_between : dT0.get f_pieces_between = some d_pieces_between := by rfl
theorem D_stepped : dT0.get f_stepped = some d_stepped := by rfl
theorem D_single : dT0.get f_single = some d_single := by rfl
theorem D_waited : dT0.get f_waited = some d_waited := by rfl
theorem D_plus : dT0.get f_plus = some d_plus := by rfl
theorem D_ends_of : dT0.get f_ends_of = some d_ends_of := by rfl
theorem D_ticks_up_to : dT0.get f_ticks_up_to = some d_ticks_up_to := by rfl
theorem D_times : dT0.get f_times = some d_times := by rfl
theorem D_minus : dT0.get f_minus = some d_minus := by rfl
theorem D_zero_within : dT0.get f_zero_within = some d_zero_within := by rfl
theorem D_sign_of : dT0.get f_sign_of = some d_sign_of := by rfl
theorem D_lowest : dT0.get f_lowest = some d_lowest := by rfl
theorem D_ring_jumps : dT0.get f_ring_jumps = some d_ring_jumps := by rfl
theorem D_swings : dT0.get f_swings = some d_swings := by rfl
theorem D_need_pendulum : dT0.get f_need_pendulum = some d_need_pendulum := by rfl
theorem D_whole_rows : dT0.get f_whole_rows = some d_whole_rows := by rfl
theorem D_joined : dT0.get f_joined = some d_joined := by rfl
theorem D__law_cut_rows : dT0.get f__law_cut_rows = some d__law_cut_rows := by rfl
theorem D__law_joined : dT0.get f__law_joined = some d__law_joined := by rfl
theorem D_swing_bounds : dT0.get f_swing_bounds = some d_swing_bounds := by rfl
theorem D__law_part : dT0.get f__law_part = some d__law_part := by rfl
theorem D_marks_of : dT0.get f_marks_of = some d_marks_of := by rfl
theorem D_below : dT0.get f_below = some d_below := by rfl
theorem D__law_marks : dT0.get f__law_marks = some d__law_marks := by rfl
theorem D_answered : dT0.get f_answered = some d_answered := by rfl
theorem D_ratios_for : dT0.get f_ratios_for = some d_ratios_for := by rfl
theorem D_all_answers : dT0.get f_all_answers = some d_all_answers := by rfl
theorem D_ratios_of : dT0.get f_ratios_of = some d_ratios_of := by rfl
theorem D_coarsest : dT0.get f_coarsest = some d_coarsest := by rfl
theorem D__law_quotient : dT0.get f__law_quotient = some d__law_quotient := by rfl
theorem D_keeps_apart : dT0.get f_keeps_apart = some d_keeps_apart := by rfl
theorem D__law_some_points : dT0.get f__law_some_points = some d__law_some_points := by rfl
theorem D__law_least : dT0.get f__law_least = some d__law_least := by rfl
theorem D_shortest_apart : dT0.get f_shortest_apart = some d_shortest_apart := by rfl
theorem D__law_refused_k09 : dT0.get f__law_refused_k09 = some d__law_refused_k09 := by rfl
theorem D__law_refused_k14 : dT0.get f__law_refused_k14 = some d__law_refused_k14 := by rfl
theorem D__law_apart : dT0.get f__law_apart = some d__law_apart := by rfl
theorem D_need_ratios : dT0.get f_need_ratios = some d_need_ratios := by rfl
theorem D_parts : dT0.get f_parts = some d_parts := by rfl
theorem D__law_every : dT0.get f__law_every = some d__law_every := by rfl
theorem D_all_steps : dT0.get f_all_steps = some d_all_steps := by rfl
theorem D_alike : dT0.get f_alike = some d_alike := by rfl
theorem D_parting : dT0.get f_parting = some d_parting := by rfl
theorem D_alike_at : dT0.get f_alike_at = some d_alike_at := by rfl
theorem D__law_pair_right : dT0.get f__law_pair_right = some d__law_pair_right := by rfl
theorem D__law_near : dT0.get f__law_near = some d__law_near := by rfl
theorem D_need_two : dT0.get f_need_two = some d_need_two := by rfl
theorem D_are_alike : dT0.get f_are_alike = some d_are_alike := by rfl
theorem D_simplest : dT0.get f_simplest = some d_simplest := by rfl
theorem D_all_rows : dT0.get f_all_rows = some d_all_rows := by rfl
theorem D__law_same_rows : dT0.get f__law_same_rows = some d__law_same_rows := by rfl
theorem D__law_smallest : dT0.get f__law_smallest = some d__law_smallest := by rfl
theorem D__law_within : dT0.get f__law_within = some d__law_within := by rfl
theorem D_merged : dT0.get f_merged = some d_merged := by rfl
theorem D_cuts_of : dT0.get f_cuts_of = some d_cuts_of := by rfl
theorem D_piece_over : dT0.get f_piece_over = some d_piece_over := by rfl
theorem D_rows_between : dT0.get f_rows_between = some d_rows_between := by rfl
theorem D_told_at : dT0.get f_told_at = some d_told_at := by rfl
theorem D__law_points : dT0.get f__law_points = some d__law_points := by rfl
theorem D__law_amounts : dT0.get f__law_amounts = some d__law_amounts := by rfl
theorem D__law_equal_rows : dT0.get f__law_equal_rows = some d__law_equal_rows := by rfl
theorem D_needless : dT0.get f_needless = some d_needless := by rfl
theorem D__law_swapped : dT0.get f__law_swapped = some d__law_swapped := by rfl
theorem D__law_round : dT0.get f__law_round = some d__law_round := by rfl
theorem D__law_rings_right : dT0.get f__law_rings_right = some d__law_rings_right := by rfl
theorem D__law_agree : dT0.get f__law_agree = some d__law_agree := by rfl
theorem D__law_value : dT0.get f__law_value = some d__law_value := by rfl
theorem D__law_changed : dT0.get f__law_changed = some d__law_changed := by rfl
theorem D_read_script : dT0.get f_read_script = some d_read_script := by rfl
theorem D_exchanged : dT0.get f_exchanged = some d_exchanged := by rfl
theorem D__law_grown_k14 : dT0.get f__law_grown_k14 = some d__law_grown_k14 := by rfl
theorem D__law_grown_k15 : dT0.get f__law_grown_k15 = some d__law_grown_k15 := by rfl
theorem D__law_lessened : dT0.get f__law_lessened = some d__law_lessened := by rfl
theorem D_step_of : dT0.get f_step_of = some d_step_of := by rfl
theorem D_part_of : dT0.get f_part_of = some d_part_of := by rfl
theorem D__law_shown : dT0.get f__law_shown = some d__law_shown := by rfl
theorem D__law_wrong : dT0.get f__law_wrong = some d__law_wrong := by rfl
theorem D__law_tried : dT0.get f__law_tried = some d__law_tried := by rfl
theorem D__law_done : dT0.get f__law_done = some d__law_done := by rfl
theorem D__wall : dT0.get f__wall = some d__wall := by rfl
theorem D__law_word : dT0.get f__law_word = some d__law_word := by rfl
theorem D__law_shape : dT0.get f__law_shape = some d__law_shape := by rfl
theorem D__law_attempted : dT0.get f__law_attempted = some d__law_attempted := by rfl
theorem D__law_good : dT0.get f__law_good = some d__law_good := by rfl
theorem D__law_bad : dT0.get f__law_bad = some d__law_bad := by rfl
theorem D__law_text : dT0.get f__law_text = some d__law_text := by rfl
theorem D_script_text : dT0.get f_script_text = some d_script_text := by rfl
theorem D_lines_of : dT0.get f_lines_of = some d_lines_of := by rfl
theorem D__law_spoilt : dT0.get f__law_spoilt = some d__law_spoilt := by rfl
theorem D__law_read : dT0.get f__law_read = some d__law_read := by rfl
theorem D__law_read_as_value : dT0.get f__law_read_as_value = some d__law_read_as_value := by rfl
theorem D__law_of_script : dT0.get f__law_of_script = some d__law_of_script := by rfl
theorem D__law_forms_right : dT0.get f__law_forms_right = some d__law_forms_right := by rfl
theorem D__law_answers_right : dT0.get f__law_answers_right = some d__law_answers_right := by rfl
theorem D__law_counts_right : dT0.get f__law_counts_right = some d__law_counts_right := by rfl
theorem D__law_known : dT0.get f__law_known = some d__law_known := by rfl
def gl0 : List (Str × PyData) := [((⟨#[77, 79, 83, 84]⟩ : PySem.Str), (.int (8))), ((⟨#[76, 79, 78, 71, 69, 83, 84]⟩ : PySem.Str), (.int (1000000000000))), ((⟨#[76, 79, 87, 69, 83, 84]⟩ : PySem.Str), (.tuple [(.int (1)), (.int (5))])), ((⟨#[72, 73, 71, 72, 69, 83, 84]⟩ : PySem.Str), (.tuple [(.int (5)), (.int (1))])), ((⟨#[85, 78, 73, 84, 83]⟩ : PySem.Str), (.tuple [(.tuple [(.int (1)), (.int (0))]), (.tuple [(.int (0)), (.int (1))])]))]
theorem G_MOST : gl0[0]? = some ((⟨#[77, 79, 83, 84]⟩ : PySem.Str), (.int (8))) := rfl
theorem G_LONGEST : gl0[1]? = some ((⟨#[76, 79, 78, 71, 69, 83, 84]⟩ : PySem.Str), (.int (1000000000000))) := rfl
theorem G_LOWEST : gl0[2]? = some ((⟨#[76, 79, 87, 69, 83, 84]⟩ : PySem.Str), (.tuple [(.int (1)), (.int (5))])) := rfl
theorem G_HIGHEST : gl0[3]? = some ((⟨#[72, 73, 71, 72, 69, 83, 84]⟩ : PySem.Str), (.tuple [(.int (5)), (.int (1))])) := rfl
theorem G_UNITS : gl0[4]? = some ((⟨#[85, 78, 73, 84, 83]⟩ : PySem.Str), (.tuple [(.tuple [(.int (1)), (.int (0))]), (.tuple [(.int (0)), (.int (1))])])) := rfl
end TB
/-! Plain functions: what the program's defs compute. -/
namespace PL
abbrev P2 := Int × Int
inductive W where
  | wait | count | both
  deriving DecidableEq, Repr
/-- a step; a pendulum is a Bool -/
inductive St where
  | ring | go (x : Bool) | stop (x : Bool) | act (w : W) (x : Bool) (n : Nat)
  deriving DecidableEq, Repr
abbrev Sc := List St
def St.ok : St → Bool
  | .act _ _ n => decide (1 ≤ n) && decide (n ≤ 4)
  | _ => true
def scOk (s : Sc) : Bool := decide (s.length ≤ 8) && s.all St.ok
def sel {α : Type} (x : Bool) (p : α × α) : α := match x with
  | false => p.1
  | true => p.2
def putx {α : Type} (x : Bool) (p : α × α) (v : α) : α × α := match x with
  | false => (v, p.2)
  | true => (p.1, v)
/-! ### ratios and forms -/
def less (a b : P2) : Bool := decide (a.1 * b.2 < b.1 * a.2)
def below (a b : P2) : Bool := decide (a.1 * b.2 < b.1 * a.2)
def plus (a b : P2) : P2 := (a.1 + b.1, a.2 + b.2)
def minus (a b : P2) : P2 := (a.1 - b.1, a.2 - b.2)
def times (f : P2) (n : Int) : P2 := (f.1 * n, f.2 * n)
def worth (f r : P2) : Int := f.1 * r.1 + f.2 * r.2
def lowest (a b : Int) : P2 := (a / (Int.gcd a b : Int), b / (Int.gcd a b : Int))
def unit (x : Bool) : P2 := match x with
  | false => (1, 0)
  | true => (0, 1)
def LO : P2 := (1, 5)
def HI : P2 := (5, 1)
def iabs (i : Int) : Int := if i < 0 then -i else i
def zeroIn (f lo hi : P2) : Option P2 :=
  if f.1 * f.2 ≥ 0 then none else
    bif less lo (lowest (iabs f.2) (iabs f.1)) && less (lowest (iabs f.2) (iabs f.1)) hi then some (lowest (iabs f.2) (iabs f.1)) else none
def b2i (b : Bool) : Int := if b then 1 else 0
def signOf (f lo hi : P2) : Int := b2i (decide (worth f lo + worth f hi > 0)) - b2i (decide (worth f lo + worth f hi < 0))
/-! ### told periods -/
structure Sd where
  time : Int
  tk : Option Int × Option Int
  told : List Int
  heard : List Int
  deriving DecidableEq, Repr
def pass1 (p : Int) (t : Option Int) (e : Int) : Option Int := match t with
  | none => none
  | some t => if t ≤ e then some (t + ((e - t) / p + 1) * p) else some t
def passed (pr : P2) (s : Sd) (e : Int) : Sd := ⟨e, (pass1 pr.1 s.tk.1 e, pass1 pr.2 s.tk.2 e), s.told, s.heard⟩
def ticked (p : Int) (t : Option Int) (e : Int) : Int := match t with
  | none => 0
  | some t => if t > e then 0 else (e - t) / p + 1
def bothAt (p q mine : Int) (yours : Option Int) (k : Int) : Bool := match yours with
  | none => false
  | some t => decide (mine + k * p ≥ t) && decide ((mine + k * p - t) % q = 0)
/-- the first of so many ticks at which both tick -/
def firstBoth (p q mine : Int) (yours : Option Int) (n : Nat) : P2 := match (List.range n).find? fun k => bothAt p q mine yours (k : Nat) with
  | some k => (mine + (k : Int) * p, 1)
  | none => (mine + ((n : Int) - 1) * p, 0)
def stepS (pr : P2) (s : Sd) : St → Sd
  | .ring => ⟨s.time, s.tk, s.told, s.heard ++ [s.time]⟩
  | .go x => ⟨s.time, putx x s.tk (some (s.time + sel x pr)), s.told, s.heard⟩
  | .stop x => ⟨s.time, putx x s.tk none, s.told, s.heard⟩
  | .act w x n => match sel x s.tk with
    | none => (match w with
      | .wait => s
      | _ => ⟨s.time, s.tk, s.told ++ [0], s.heard⟩)
    | some t => (match w with
      | .wait => passed pr s (t + ((n : Int) - 1) * sel x pr)
      | .count => passed pr ⟨s.time, s.tk, s.told ++ [ticked (sel (!x) pr) (sel (!x) s.tk) (t + ((n : Int) - 1) * sel x pr)], s.heard⟩ (t + ((n : Int) - 1) * sel x pr)
      | .both => passed pr ⟨s.time, s.tk, s.told ++ [(firstBoth (sel x pr) (sel (!x) pr) t (sel (!x) s.tk) n).2], s.heard⟩ (firstBoth (sel x pr) (sel (!x) pr) t (sel (!x) s.tk) n).1)
def first (pr : P2) : Sd := ⟨0, (some pr.1, some pr.2), [], []⟩
def ledF (pr : P2) (sc : Sc) (s : Sd) : Sd := sc.foldl (stepS pr) s
def led (sc : Sc) (pr : P2) : Sd := ledF pr sc (first pr)
/-! ### pieces -/
structure Pc where
  lo : P2
  hi : P2
  time : P2
  tk : Option (Option P2 × Option P2)
  told : List Int
  heard : List P2
  deriving DecidableEq, Repr
/-- what ticks_up_to hands back -/
structure Up where
  cut : Option P2
  many : Int
  later : Option P2
  here : Bool
  deriving DecidableEq, Repr
def upToT (lo hi u en : P2) : Nat → P2 → Int → Option P2 → Option Up
  | 0, _, _, _ => none
  | f + 1, tick, many, last => match zeroIn (minus en tick) lo hi with
    | some c => some ⟨some c, 0, none, false⟩
    | none => if signOf (minus en tick) lo hi < 0 then some ⟨none, many, some tick, decide (last = some (0, 0))⟩ else upToT lo hi u en f (plus tick u) (many + 1) (some (minus en tick))
def upToO (fu : Nat) (lo hi u en : P2) : Option P2 → Option Up
  | none => some ⟨none, 0, none, false⟩
  | some t => upToT lo hi u en fu t 0 none
def ends (w : W) (x : Bool) (n : Nat) (t : P2) : List P2 := match w with
  | .both => (List.range n).map fun k => plus t (times (unit x) (k : Nat))
  | _ => [plus t (times (unit x) ((n : Int) - 1))]
/-- the ends one after another: a cut, or the last end with what is told there -/
def wEnds (fu : Nat) (lo hi u : P2) (ty : Option P2) (both : Bool) : List P2 → Option (P2 × Up)
  | [] => none
  | e :: es => match upToO fu lo hi u e ty with
    | none => none
    | some r => match r.cut with
      | some _ => some (e, r)
      | none => if !both || r.here then some (e, r) else match es with
        | [] => some (e, r)
        | _ => wEnds fu lo hi u ty both es
def W.isBoth : W → Bool
  | .both => true
  | _ => false
def waited (fu : Nat) (pc : Pc) (tk : Option P2 × Option P2) (w : W) (x : Bool) (n : Nat) (t : P2) : Option (Option P2 × Pc) :=
  match wEnds fu pc.lo pc.hi (unit (!x)) (sel (!x) tk) w.isBoth (ends w x n t) with
  | none => none
  | some (e, r) => match r.cut with
    | some c => some (some c, pc)
    | none => some (none, ⟨pc.lo, pc.hi, e, some (putx (!x) (putx x tk (some (plus e (unit x)))) r.later), pc.told ++ (match w with
      | .wait => []
      | .count => [r.many]
      | .both => [b2i r.here]), pc.heard⟩)
def stepped (fu : Nat) (pc : Pc) : St → Option (Option P2 × Pc)
  | .ring => some (none, ⟨pc.lo, pc.hi, pc.time, pc.tk, pc.told, pc.heard ++ [pc.time]⟩)
  | .go x => match pc.tk with
    | none => none
    | some tk => some (none, ⟨pc.lo, pc.hi, pc.time, some (putx x tk (some (plus pc.time (unit x)))), pc.told, pc.heard⟩)
  | .stop x => match pc.tk with
    | none => none
    | some tk => some (none, ⟨pc.lo, pc.hi, pc.time, some (putx x tk none), pc.told, pc.heard⟩)
  | .act w x n => match pc.tk with
    | none => none
    | some tk => match sel x tk with
      | none => some (none, ⟨pc.lo, pc.hi, pc.time, pc.tk, pc.told ++ (match w with
        | .wait => []
        | _ => [0]), pc.heard⟩)
      | some t => waited fu pc tk w x n t
def single (sc : Sc) (r : P2) : Pc := ⟨r, r, ((led sc r).time, 0), none, (led sc r).told, (led sc r).heard.map fun t => (t, 0)⟩
/-- the steps from here on, up to a cut -/
def adv (fu : Nat) : Pc → Sc → Option (Pc × Option (P2 × Sc))
  | pc, [] => some (pc, none)
  | pc, s :: r => match stepped fu pc s with
    | none => none
    | some (some c, _) => some (pc, some (c, s :: r))
    | some (none, q) => adv fu q r
def pb (fu : Nat) (sc : Sc) : Nat → Pc → Sc → Option (List Pc)
  | 0, _, _ => none
  | f + 1, pc, r => match adv fu pc r with
    | none => none
    | some (q, none) => some [q]
    | some (q, some (c, r')) => match pb fu sc f ⟨q.lo, c, q.time, q.tk, q.told, q.heard⟩ r' with
      | none => none
      | some a => match pb fu sc f ⟨c, q.hi, q.time, q.tk, q.told, q.heard⟩ r' with
        | none => none
        | some b => some (a ++ single sc c :: b)
def pc0 : Pc := ⟨LO, HI, (0, 0), some (some (1, 0), some (0, 1)), [], []⟩
/-- as many turns of a while as the interpreter gives -/
abbrev FU : Nat := 100000
def course (f : Nat) (sc : Sc) : Option (List Pc) := pb FU sc f pc0 sc
end PL
set_option maxHeartbeats 0
/-! Evaluation by simp; data of plain values. -/
namespace TB
open PySem PL
/-! ### evaluation: from the left, what comes later waits -/
def rng1Q (x : Rs) (g1 : Gm) : R Rs := match x with
  | .fro (.int n) => if -(2 ^ 24) ≤ n ∧ n < 2 ^ 24 then .ok (.own (rangeD 0 n.toNat)) g1 else .stuck
  | _ => .stuck
def rng2Q (x y : Rs) (g2 : Gm) : R Rs := match x, y with
  | .fro (.int m), .fro (.int n) => if -(2 ^ 24) ≤ m ∧ -(2 ^ 24) ≤ n ∧ n < 2 ^ 24 ∧ m < 2 ^ 24 ∧ n - m ≤ 2 ^ 24 then .ok (.own (rangeD m (n - m).toNat)) g2 else .stuck
  | _, _ => .stuck
def rng3Q (s : Int) (x y : Rs) (g2 : Gm) : R Rs := match x, y with
  | .fro (.int m), .fro (.int n) => if 0 < s ∧ s < 1000 ∧ -(2 ^ 24) ≤ m ∧ -(2 ^ 24) ≤ n ∧ n < 2 ^ 24 ∧ m < 2 ^ 24 ∧ n - m ≤ 2 ^ 24 then .ok (.own (rangeC m s (cntC m n s))) g2 else .stuck
  | _, _ => .stuck
theorem rng1_ok {n : Int} {g1 : Gm} (h0 : -1000000 ≤ n) (h1 : n ≤ 1000000) : rng1Q (.fro (.int n)) g1 = .ok (.own (rangeD 0 n.toNat)) g1 := by
  have h : -(2 ^ 24) ≤ n ∧ n < 2 ^ 24 := by omega
  unfold rng1Q
  exact if_pos h
theorem rng1_nat {n : Nat} {g1 : Gm} (h1 : n ≤ 1000000) : rng1Q (.fro (.int n)) g1 = .ok (.own ((List.range n).map fun i : Nat => .int (i : Int))) g1 := by
  rw [rng1_ok (by omega) (by omega)]
  simp [rangeD]
theorem rng2_ok {m n : Int} {g1 : Gm} (h0 : -1000000 ≤ m) (h1 : n ≤ 1000000) (h2 : -1000000 ≤ n) (h3 : m ≤ 1000000) : rng2Q (.fro (.int m)) (.fro (.int n)) g1 = .ok (.own (rangeD m (n - m).toNat)) g1 := by
  have h : -(2 ^ 24) ≤ m ∧ -(2 ^ 24) ≤ n ∧ n < 2 ^ 24 ∧ m < 2 ^ 24 ∧ n - m ≤ 2 ^ 24 := by omega
  unfold rng2Q
  exact if_pos h
theorem rng3_ok {m n s : Int} {g1 : Gm} (h0 : -1000000 ≤ m) (h1 : n ≤ 1000000) (h2 : -1000000 ≤ n) (h3 : m ≤ 1000000) (hs : 0 < s) (hs2 : s < 1000) : rng3Q s (.fro (.int m)) (.fro (.int n)) g1 = .ok (.own (rangeC m s (cntC m n s))) g1 := by
  have h : 0 < s ∧ s < 1000 ∧ -(2 ^ 24) ≤ m ∧ -(2 ^ 24) ≤ n ∧ n < 2 ^ 24 ∧ m < 2 ^ 24 ∧ n - m ≤ 2 ^ 24 := by omega
  unfold rng3Q
  exact if_pos h
section
variable (L : Lk) (g : Gm)
@[simp] theorem ev_non : ev L .non g = .ok (.fro .none) g := by rw [ev] <;> rfl
@[simp] theorem ev_bl (b : Bool) : ev L (.bl b) g = .ok (.fro (.bool b)) g := by rw [ev] <;> rfl
@[simp] theorem ev_int (i : Int) : ev L (.int i) g = .ok (.fro (.int i)) g := by rw [ev] <;> rfl
@[simp] theorem ev_str (s : Str) : ev L (.str s) g = .ok (.fro (.str s)) g := by rw [ev] <;> rfl
@[simp] theorem ev_loc (i : Nat) : ev L (.loc i) g = match g[i]? with
    | some (.val d) => .ok (.fro d) g
    | some (.own xs) => .ok (.fro (.list xs)) (g.set i (.val (.list xs)))
    | _ => .stuck := by rw [ev] <;> rfl
@[simp] theorem ev_glb (n : Nat) (x : Str) : ev L (.glb n x) g = match L.gl n with
    | some d => .ok (.fro d) g
    | none => .stuck := by rw [ev] <;> rfl
@[simp] theorem ev_bin (o : BO) (a b : Ex) : ev L (.bin o a b) g = (ev L a g).bind fun x g1 => (ev L b g1).bind fun y g2 => .of (opB o x.d y.d) g2 := by rw [ev] <;> rfl
@[simp] theorem ev_neg (a : Ex) : ev L (.neg a) g = (ev L a g).bind fun x g1 => match x with
    | .fro (.int i) => .ok (.fro (.int (-i))) g1
    | _ => .stuck := by rw [ev] <;> rfl
@[simp] theorem ev_not (a : Ex) : ev L (.not a) g = (ev L a g).bind fun x g1 => match x with
    | .fro (.bool b) => .ok (.fro (.bool (!b))) g1
    | _ => .stuck := by rw [ev] <;> rfl
@[simp] theorem ev_and (a b : Ex) : ev L (.and a b) g = (ev L a g).bind fun x g1 => match x with
    | .fro (.bool true) => ev L b g1
    | .fro (.bool false) => .ok (.fro (.bool false)) g1
    | _ => .stuck := by rw [ev] <;> rfl
@[simp] theorem ev_or (a b : Ex) : ev L (.or a b) g = (ev L a g).bind fun x g1 => match x with
    | .fro (.bool true) => .ok (.fro (.bool true)) g1
    | .fro (.bool false) => ev L b g1
    | _ => .stuck := by rw [ev] <;> rfl
@[simp] theorem ev_cmp (o : CO) (a b : Ex) : ev L (.cmp o a b) g = (ev L a g).bind fun x g1 => (ev L b g1).bind fun y g2 => match opC o x.d y.d with
    | some k => .ok (.fro (.bool k)) g2
    | none => .stuck := by rw [ev] <;> rfl
@[simp] theorem ev_chain (o p : CO) (a b c : Ex) : ev L (.chain o p a b c) g = (ev L a g).bind fun x g1 => (ev L b g1).bind fun y g2 => match opC o x.d y.d with
    | some true => (ev L c g2).bind fun z g3 => (match opC p y.d z.d with
      | some k => .ok (.fro (.bool k)) g3
      | none => .stuck)
    | some false => .ok (.fro (.bool false)) g2
    | none => .stuck := by rw [ev] <;> rfl
@[simp] theorem ev_ite (c a b : Ex) : ev L (.ite c a b) g = (ev L c g).bind fun x g1 => match x with
    | .fro (.bool true) => ev L a g1
    | .fro (.bool false) => ev L b g1
    | _ => .stuck := by rw [ev] <;> rfl
@[simp] theorem ev_tup (xs : Exs) : ev L (.tup xs) g = (evs L xs g).bind fun ds g1 => if ds.length ≤ 1000 then .ok (.fro (.tuple ds)) g1 else .stuck := by rw [ev] <;> rfl
@[simp] theorem ev_lst (xs : Exs) : ev L (.lst xs) g = (evs L xs g).bind fun ds g1 => if ds.length ≤ 1000 then .ok (.own ds) g1 else .stuck := by rw [ev] <;> rfl
@[simp] theorem ev_idx (a i : Ex) : ev L (.idx a i) g = (ev L a g).bind fun x g1 => (ev L i g1).bind fun y g2 => match opI x.d y.d with
    | some d => .ok (.fro d) g2
    | none => .stuck := by rw [ev] <;> rfl
@[simp] theorem ev_idxB (j : Nat) (a : Ex) : ev L (.idxB j a) g = match held g j with
    | none => .stuck
    | some _ => (ev L a g).bind fun y g2 => match (held g2 j).bind fun x => opI x y.d with
      | some d => .ok (.fro d) g2
      | none => .stuck := by rw [ev] <;> rfl
@[simp] theorem ev_lenB (j : Nat) : ev L (.lenB j) g = match (held g j).bind fun x => opF .len [x] with
    | some d => .ok d g
    | none => .stuck := by rw [ev] <;> rfl
@[simp] theorem ev_cmpB (o : CO) (j : Nat) (a : Ex) : ev L (.cmpB o j a) g = match held g j with
    | none => .stuck
    | some _ => (ev L a g).bind fun y g2 => match (held g2 j).bind fun x => opC o x y.d with
      | some k => .ok (.fro (.bool k)) g2
      | none => .stuck := by rw [ev] <;> rfl
@[simp] theorem ev_ninB (a : Ex) (j : Nat) : ev L (.ninB a j) g = (ev L a g).bind fun y g2 => match (held g2 j).bind fun x => opC .nin y.d x with
    | some k => .ok (.fro (.bool k)) g2
    | none => .stuck := by rw [ev] <;> rfl
@[simp] theorem ev_slc (a lo hi : Ex) : ev L (.slc a lo hi) g = (ev L a g).bind fun x g1 => (partOf lo (fun g => ev L lo g) g1).bind fun l g2 => (partOf hi (fun g => ev L hi g) g2).bind fun h g3 => match opS x.d l h with
    | some r => .ok r g3
    | none => .stuck := by rw [ev] <;> rfl
@[simp] theorem ev_rev (a : Ex) : ev L (.rev a) g = (ev L a g).bind fun x g1 => match x.d with
    | .list xs => .ok (.own xs.reverse) g1
    | .tuple xs => .ok (.fro (.tuple xs.reverse)) g1
    | _ => .stuck := by rw [ev] <;> rfl
theorem ev_lc (it : Ex) (tg : Tg) (own : List Nat) (c e : Ex) : ev L (.lc it tg own c e) g = (ev L it g).bind fun x g1 => match items x.d, wipeOk g1 own with
    | some ds, true => (loopC tg own (condOf c (fun g => ev L c g)) (fun g => ev L e g) ds [] (wipeG g1 own)).bind fun acc g2 => .ok (.own acc) (unwipe g1 g2 own)
    | _, _ => .stuck := by rw [ev] <;> rfl
@[simp] theorem ev_rng1 (a : Ex) : ev L (.rng1 a) g = (ev L a g).bind rng1Q := by rw [ev] <;> rfl
@[simp] theorem ev_rng2 (a b : Ex) : ev L (.rng2 a b) g = (ev L a g).bind fun x g1 => (ev L b g1).bind (rng2Q x) := by rw [ev] <;> rfl
@[simp] theorem ev_rng3 (a b : Ex) (s : Int) : ev L (.rng3 a b s) g = (ev L a g).bind fun x g1 => (ev L b g1).bind (rng3Q s x) := by rw [ev] <;> rfl
@[simp] theorem ev_zip (a b : Ex) : ev L (.zip a b) g = (ev L a g).bind fun x g1 => (ev L b g1).bind fun y g2 => match x.d, y.d with
    | .list xs, .list ys => .ok (.own (List.zipWith pairD xs ys)) g2
    | .tuple xs, .tuple ys => .ok (.own (List.zipWith pairD xs ys)) g2
    | _, _ => .stuck := by rw [ev] <;> rfl
@[simp] theorem ev_enm (a : Ex) : ev L (.enm a) g = (ev L a g).bind fun x g1 => match x.d with
    | .list xs => .ok (.own (List.zipWith pairD (rangeD 0 xs.length) xs)) g1
    | _ => .stuck := by rw [ev] <;> rfl
@[simp] theorem ev_call (f : Nat) (xs : Exs) : ev L (.call f xs) g = (evs L xs g).bind fun ds g1 => match L.cl f ds none with
    | .ret r none => .ok r g1
    | .exc e => .exc e
    | _ => .stuck := by rw [ev] <;> rfl
@[simp] theorem ev_callv (f i : Nat) (xs : Exs) : ev L (.callv f i xs) g = match lent g i with
    | none => .stuck
    | some _ => (evs L xs g).bind fun ds g1 => match lent g1 i with
      | none => .stuck
      | some (ys, k) => (match L.cl f ds (some ys) with
        | .ret r (some zs) => .ok r (g1.set i (lentSl k zs))
        | _ => .stuck) := by rw [ev] <;> rfl
@[simp] theorem ev_bf (b : BF) (xs : Exs) : ev L (.bf b xs) g = (evs L xs g).bind fun ds g1 => .of (opF b ds) g1 := by rw [ev] <;> rfl
@[simp] theorem ev_isi (a : Ex) (t : IT) : ev L (.isi a t) g = (ev L a g).bind fun x g1 => match isiD t x.d with
    | some k => .ok (.fro (.bool k)) g1
    | none => .stuck := by rw [ev] <;> rfl
@[simp] theorem ev_sset (a : Ex) : ev L (.sset a) g = (ev L a g).bind fun x g1 => match opSS x.d with
    | some xs => .ok (.own xs) g1
    | none => .stuck := by rw [ev] <;> rfl
@[simp] theorem ev_lss (a : Ex) : ev L (.lss a) g = (ev L a g).bind fun x g1 => match opLS x.d with
    | some n => .ok (.fro (.int n)) g1
    | none => .stuck := by rw [ev] <;> rfl
@[simp] theorem evs_nil : evs L .nil g = .ok [] g := by rw [evs] <;> rfl
@[simp] theorem evs_cons (x : Ex) (xs : Exs) : evs L (.cons x xs) g = (ev L x g).bind fun r g1 => (evs L xs g1).bind fun ds g2 => .ok (r.d :: ds) g2 := by rw [evs] <;> rfl
@[simp] theorem evr_nil : evr L .nil g = .ok [] g := by rw [evr] <;> rfl
@[simp] theorem evr_cons (x : Ex) (xs : Exs) : evr L (.cons x xs) g = (ev L x g).bind fun r g1 => (evr L xs g1).bind fun rs g2 => .ok (r :: rs) g2 := by rw [evr] <;> rfl
@[simp] theorem exs_nil : exs L .nil g = .nx g := by rw [exs] <;> rfl
@[simp] theorem exs_cons (s : Sm) (r : Sms) : exs L (.cons s r) g = (exS L s g).bind fun g1 => exs L r g1 := by rw [exs] <;> rfl
@[simp] theorem ex_pass : exS L .pass g = .nx g := by rw [exS] <;> rfl
@[simp] theorem ex_asg (i : Nat) (e : Ex) : exS L (.asg i e) g = (ev L e g).sbind fun r g1 => match put g1 i r.sl with
    | some g2 => .nx g2
    | none => .stuck := by rw [exS] <;> rfl
@[simp] theorem ex_unp (is : List Nat) (e : Ex) : exS L (.unp is e) g = (ev L e g).sbind fun r g1 => match tgt (.many is) r.d g1 with
    | some g2 => .nx g2
    | none => .stuck := by rw [exS] <;> rfl
@[simp] theorem ex_par (is : List Nat) (es : Exs) : exS L (.par is es) g = (evr L es g).sbind fun rs g1 => match putRs is rs g1 with
    | some g2 => .nx g2
    | none => .stuck := by rw [exS] <;> rfl
@[simp] theorem ex_app (i : Nat) (e : Ex) : exS L (.app i e) g = match lent g i with
    | none => .stuck
    | some _ => (ev L e g).sbind fun r g1 => match lent g1 i with
      | some (xs, k) => if xs.length < sizeLine then .nx (g1.set i (lentSl k (xs ++ [r.d]))) else .stuck
      | none => .stuck := by rw [exS] <;> rfl
@[simp] theorem ex_ext (i : Nat) (e : Ex) : exS L (.ext i e) g = match lent g i with
    | none => .stuck
    | some _ => (ev L e g).sbind fun r g1 => match lent g1 i, r.d with
      | some (xs, k), .list ys => if xs.length + ys.length ≤ sizeLine then .nx (g1.set i (lentSl k (xs ++ ys))) else .stuck
      | _, _ => .stuck := by rw [exS] <;> rfl
@[simp] theorem ex_set (i : Nat) (k e : Ex) : exS L (.set i k e) g = (ev L e g).sbind fun r g1 => match lent g1 i with
    | none => .stuck
    | some _ => (ev L k g1).sbind fun x g2 => match x, lent g2 i with
      | .fro (.int j), some (xs, kk) => (match L2.ixN xs.length j with
        | some m => .nx (g2.set i (lentSl kk (xs.set m r.d)))
        | none => .stuck)
      | _, _ => .stuck := by rw [exS] <;> rfl
@[simp] theorem ex_ex (e : Ex) : exS L (.ex e) g = (ev L e g).sbind fun _ g1 => .nx g1 := by rw [exS] <;> rfl
@[simp] theorem ex_ret (e : Ex) : exS L (.ret e) g = (ev L e g).sbind fun r g1 => .ret r g1 := by rw [exS] <;> rfl
@[simp] theorem ex_retN : exS L .retN g = .ret (.fro .none) g := by rw [exS] <;> rfl
@[simp] theorem ex_ife (c : Ex) (a b : Sms) : exS L (.ife c a b) g = (ev L c g).sbind fun x g1 => match x with
    | .fro (.bool true) => exs L a g1
    | .fro (.bool false) => exs L b g1
    | _ => .stuck := by rw [exS] <;> rfl
theorem ex_for (it : Ex) (tg : Tg) (b : Sms) : exS L (.for it tg b) g = (evi L it g).sbind fun ds g1 => loopF tg (fun g => exs L b g) ds g1 := by rw [exS] <;> rfl
theorem ex_whl (c : Ex) (b : Sms) : exS L (.whl c b) g = loopW (fun g => ev L c g) (fun g => exs L b g) L.fu g := by rw [exS] <;> rfl
@[simp] theorem ex_brk : exS L .brk g = .brk g := by rw [exS] <;> rfl
@[simp] theorem ex_raise (c m : Str) : exS L (.raise c m) g = .exc ⟨c, none⟩ := by rw [exS] <;> rfl
@[simp] theorem ex_raiseL (c : Str) (e : Ex) : exS L (.raiseL c e) g = (ev L e g).sbind fun r _ => .exc ⟨c, some r.d⟩ := by rw [exS] <;> rfl
end
/-! ### data of plain values -/
abbrev eP (p : P2) : PyData := .tuple [.int p.1, .int p.2]
abbrev eX (x : Bool) : PyData := .int (b2i x)
def eO : Option P2 → PyData
  | none => .none
  | some p => eP p
def eOI : Option Int → PyData
  | none => .none
  | some i => .int i
abbrev sRing : Str := ⟨#[114, 105, 110, 103]⟩
abbrev sGo : Str := ⟨#[103, 111]⟩
abbrev sStop : Str := ⟨#[115, 116, 111, 112]⟩
abbrev sWait : Str := ⟨#[119, 97, 105, 116]⟩
abbrev sCount : Str := ⟨#[99, 111, 117, 110, 116]⟩
abbrev sBoth : Str := ⟨#[98, 111, 116, 104]⟩
def wS : W → Str
  | .wait => sWait
  | .count => sCount
  | .both => sBoth
def eSt : St → PyData
  | .ring => .tuple [.str sRing]
  | .go x => .tuple [.str sGo, eX x]
  | .stop x => .tuple [.str sStop, eX x]
  | .act w x n => .tuple [.str (wS w), eX x, .int n]
def eSc (s : Sc) : PyData := .tuple (s.map eSt)
def eIs (l : List Int) : PyData := .tuple (l.map .int)
def ePs (l : List P2) : PyData := .tuple (l.map fun p => eP p)
def eTk : Option (Option P2 × Option P2) → PyData
  | none => .none
  | some p => .tuple [eO p.1, eO p.2]
def eSd (s : Sd) : PyData := .tuple [.int s.time, .tuple [eOI s.tk.1, eOI s.tk.2], eIs s.told, eIs s.heard]
def ePc (p : Pc) : PyData := .tuple [eP p.lo, eP p.hi, eP p.time, eTk p.tk, eIs p.told, ePs p.heard]
/-! ### numbers that are small -/
def sm (i : Int) : Prop := -(2 ^ 64) < i ∧ i < 2 ^ 64
def Sm2 (p : P2) : Prop := sm p.1 ∧ sm p.2
theorem mulOk_l {i j : Int} (h : sm i) : mulOk i j = true := by
  unfold mulOk
  rw [Bool.or_eq_true, Bool.and_eq_true, decide_eq_true_eq, decide_eq_true_eq]
  exact .inl h
theorem mulOk_r {i j : Int} (h : sm j) : mulOk i j = true := by
  unfold mulOk
  rw [Bool.or_eq_true, Bool.and_eq_true, Bool.and_eq_true, decide_eq_true_eq, decide_eq_true_eq, decide_eq_true_eq, decide_eq_true_eq]
  exact .inr h
end TB
set_option maxHeartbeats 0
/-! Words for the defs' runs. -/
namespace TB
open PySem PL
@[simp] theorem lk_cl (T : Tx) (a b : Nat → List PyData → Option (List PyData) → CRs) : (T.lk a b).cl = a := rfl
@[simp] theorem lk_cl2 (T : Tx) (a b : Nat → List PyData → Option (List PyData) → CRs) : (T.lk a b).cl2 = b := rfl
@[simp] theorem lk_fu (T : Tx) (a b : Nat → List PyData → Option (List PyData) → CRs) : (T.lk a b).fu = 100000 := rfl
@[simp] theorem lk_gl (T : Tx) (a b : Nat → List PyData → Option (List PyData) → CRs) : (T.lk a b).gl = T.gl := rfl
@[simp] theorem lk_la (T : Tx) (a b : Nat → List PyData → Option (List PyData) → CRs) : (T.lk a b).la = T.la := rfl
/-! ### operations -/
section
variable (a b c d e f : PyData) (l : List PyData)
@[simp] theorem opI_t0 : opI (.tuple (a :: l)) (.int 0) = some a := by simp [opI, atD, L2.atI, L2.ixN]
@[simp] theorem opI_t1 : opI (.tuple (a :: b :: l)) (.int 1) = some b := by
  have : (1 : Int) < l.length + 1 + 1 := by omega
  simp [opI, atD, L2.atI, L2.ixN, this]
@[simp] theorem opI_t2 : opI (.tuple (a :: b :: c :: l)) (.int 2) = some c := by
  have : (2 : Int) < l.length + 1 + 1 + 1 := by omega
  simp [opI, atD, L2.atI, L2.ixN, this]
@[simp] theorem opI_t3 : opI (.tuple (a :: b :: c :: d :: l)) (.int 3) = some d := by
  have : (3 : Int) < l.length + 1 + 1 + 1 + 1 := by omega
  simp [opI, atD, L2.atI, L2.ixN, this]
@[simp] theorem opI_t4 : opI (.tuple (a :: b :: c :: d :: e :: l)) (.int 4) = some e := by
  have : (4 : Int) < l.length + 1 + 1 + 1 + 1 + 1 := by omega
  simp [opI, atD, L2.atI, L2.ixN, this]
@[simp] theorem opI_t5 : opI (.tuple (a :: b :: c :: d :: e :: f :: l)) (.int 5) = some f := by
  have : (5 : Int) < l.length + 1 + 1 + 1 + 1 + 1 + 1 := by omega
  simp [opI, atD, L2.atI, L2.ixN, this]
@[simp] theorem opI_l0 : opI (.list (a :: l)) (.int 0) = some a := by simp [opI, atD, L2.atI, L2.ixN]
@[simp] theorem opI_l1 : opI (.list (a :: b :: l)) (.int 1) = some b := by
  have : (1 : Int) < l.length + 1 + 1 := by omega
  simp [opI, atD, L2.atI, L2.ixN, this]
theorem opI_nat {n : Nat} {v : PyData} (h : l[n]? = some v) : opI (.list l) (.int n) = some v ∧ opI (.tuple l) (.int n) = some v := by
  have hn : n < l.length := (List.getElem?_eq_some_iff.mp h).1
  have : (n : Int) < l.length := by omega
  simp [opI, atD, L2.atI, L2.ixN, this, h]
end
section
variable (i j : Int) (a b : PyData)
@[simp] theorem opB_add : opB .add (.int i) (.int j) = some (.fro (.int (i + j))) := rfl
@[simp] theorem opB_sub : opB .sub (.int i) (.int j) = some (.fro (.int (i - j))) := rfl
theorem opB_mul (h : mulOk i j = true) : opB .mul (.int i) (.int j) = some (.fro (.int (i * j))) := by simp [opB, h]
theorem opB_div (h : 0 < j) (h2 : j < 2 ^ 100) : opB .fdiv (.int i) (.int j) = some (.fro (.int (i / j))) := by simp only [opB, h, h2, and_self, if_true]
theorem opB_mod (h : 0 < j) : opB .mod (.int i) (.int j) = some (.fro (.int (i % j))) := by simp only [opB, h, if_true]
theorem opB_tup {xs ys : List PyData} (h : xs.length + ys.length ≤ sizeLine) : opB .add (.tuple xs) (.tuple ys) = some (.fro (.tuple (xs ++ ys))) := by simp only [opB, h, if_true]
theorem opB_lst {xs ys : List PyData} (h : xs.length + ys.length ≤ sizeLine) : opB .add (.list xs) (.list ys) = some (.own (xs ++ ys)) := by simp only [opB, h, if_true]
@[simp] theorem opC_lt : opC .lt (.int i) (.int j) = some (decide (i < j)) := rfl
@[simp] theorem opC_le : opC .le (.int i) (.int j) = some (decide (i ≤ j)) := rfl
@[simp] theorem opC_gt : opC .gt (.int i) (.int j) = some (decide (j < i)) := rfl
@[simp] theorem opC_ge : opC .ge (.int i) (.int j) = some (decide (j ≤ i)) := rfl
theorem opC_eq (h : eqOk a b = true) : opC .eq a b = some (PyData.eqv a b) := by
  show (if eqOk a b = true then _ else _) = _
  rw [if_pos h]
theorem opC_ne (h : eqOk a b = true) : opC .ne a b = some (!PyData.eqv a b) := by
  show (if eqOk a b = true then _ else _) = _
  rw [if_pos h]
theorem eqOk_l (h : a.depth ≤ 60) : eqOk a b = true := by
  unfold eqOk
  exact decide_eq_true (Nat.le_trans (Nat.min_le_left _ _) h)
theorem eqOk_r (h : b.depth ≤ 60) : eqOk a b = true := by
  unfold eqOk
  exact decide_eq_true (Nat.le_trans (Nat.min_le_right _ _) h)
@[simp] theorem dep_int : (PyData.int i).depth = 0 := by simp [PyData.depth]
@[simp] theorem dep_non : PyData.none.depth = 0 := by simp [PyData.depth]
@[simp] theorem dep_bool (x : Bool) : (PyData.bool x).depth = 0 := by simp [PyData.depth]
@[simp] theorem dep_str (x : Str) : (PyData.str x).depth = 0 := by simp [PyData.depth]
@[simp] theorem opC_eqi : opC .eq (.int i) (.int j) = some (decide (i = j)) := by
  rw [opC_eq _ _ (eqOk_l _ _ (by simp)), PyData.eqv]
  congr 1
@[simp] theorem opC_nei : opC .ne (.int i) (.int j) = some (decide (i ≠ j)) := by
  rw [opC_ne _ _ (eqOk_l _ _ (by simp)), PyData.eqv, decide_not]
  congr 1
@[simp] theorem opC_isN : opC .isN .none .none = some true := rfl
@[simp] theorem opC_isNi : opC .isN (.int i) .none = some false := rfl
@[simp] theorem opC_isNt (xs : List PyData) : opC .isN (.tuple xs) .none = some false := rfl
@[simp] theorem opC_notN : opC .notN .none .none = some false := rfl
@[simp] theorem opC_notNi : opC .notN (.int i) .none = some true := rfl
@[simp] theorem opC_notNt (xs : List PyData) : opC .notN (.tuple xs) .none = some true := rfl
@[simp] theorem opC_eqs (x y : Str) : opC .eq (.str x) (.str y) = some (x == y) := by
  rw [opC_eq _ _ (eqOk_l _ _ (by simp)), PyData.eqv]
@[simp] theorem opC_nes (x y : Str) : opC .ne (.str x) (.str y) = some (!(x == y)) := by
  rw [opC_ne _ _ (eqOk_l _ _ (by simp)), PyData.eqv]
end
/-! ### slots -/
def isIo : Sl → Bool
  | .io _ => true
  | _ => false
@[simp] theorem isIo_no : isIo .no = false := rfl
@[simp] theorem isIo_val (d : PyData) : isIo (.val d) = false := rfl
@[simp] theorem isIo_own (d : List PyData) : isIo (.own d) = false := rfl
@[simp] theorem isIo_io (d : List PyData) : isIo (.io d) = true := rfl
@[simp] theorem put_eq (g : Gm) (i : Nat) (s : Sl) : put g i s = match g[i]? with
    | some x => if isIo x then none else some (g.set i s)
    | none => none := by
  unfold put
  cases h : g[i]? with
  | none => rfl
  | some x => cases x <;> rfl
@[simp] theorem tgt_one (i : Nat) (d : PyData) (g : Gm) : tgt (.one i) d g = put g i (.val d) := rfl
@[simp] theorem tgt_many (is : List Nat) (ds : List PyData) (g : Gm) : tgt (.many is) (.tuple ds) g = putAll is ds g := rfl
@[simp] theorem putAll_nil (g : Gm) : putAll [] [] g = some g := rfl
@[simp] theorem putAll_cons (i : Nat) (is : List Nat) (d : PyData) (ds : List PyData) (g : Gm) : putAll (i :: is) (d :: ds) g = (put g i (.val d)).bind (putAll is ds) := rfl
@[simp] theorem putRs_nil (g : Gm) : putRs [] [] g = some g := rfl
@[simp] theorem putRs_cons (i : Nat) (is : List Nat) (d : Rs) (ds : List Rs) (g : Gm) : putRs (i :: is) (d :: ds) g = (put g i d.sl).bind (putRs is ds) := rfl
@[simp] theorem sl_fro (d : PyData) : (Rs.fro d).sl = .val d := rfl
@[simp] theorem sl_own (d : List PyData) : (Rs.own d).sl = .own d := rfl
@[simp] theorem loopF_nil (tg : Tg) (b : Gm → O) (g : Gm) : loopF tg b [] g = .nx g := rfl
@[simp] theorem loopF_cons (tg : Tg) (b : Gm → O) (d : PyData) (ds : List PyData) (g : Gm) : loopF tg b (d :: ds) g = match tgt tg d g with
    | none => .stuck
    | some g1 => match b g1 with
      | .nx g2 => loopF tg b ds g2
      | .brk g2 => .nx g2
      | o => o := rfl
theorem loopW_zero (c : Gm → R Rs) (b : Gm → O) (g : Gm) : loopW c b 0 g = .stuck := rfl
theorem loopW_succ (c : Gm → R Rs) (b : Gm → O) (n : Nat) (g : Gm) : loopW c b (n + 1) g = match c g with
    | .ok (.fro (.bool true)) g1 => (match b g1 with
      | .nx g2 => loopW c b n g2
      | .brk g2 => .nx g2
      | o => o)
    | .ok (.fro (.bool false)) g1 => .nx g1
    | .exc e => .exc e
    | _ => .stuck := rfl
/-! ### loops -/
section
variable {α σ : Type}
/-- a for that only goes on -/
theorem loopF_fold {tg : Tg} {b : Gm → O} (enc : α → PyData) (Rl : σ → Gm → Prop) (stp : σ → α → σ) : ∀ (xs : List α) (s : σ) (g : Gm), Rl s g →
    (∀ x ∈ xs, ∀ s g, Rl s g → ∃ g1 g2, tgt tg (enc x) g = some g1 ∧ b g1 = .nx g2 ∧ Rl (stp s x) g2) → ∃ g', loopF tg b (xs.map enc) g = .nx g' ∧ Rl (xs.foldl stp s) g'
  | [], s, g, h, _ => ⟨g, rfl, h⟩
  | x :: xs, s, g, h, hs => by
    obtain ⟨g1, g2, h1, h2, h3⟩ := hs x (List.mem_cons_self ..) s g h
    obtain ⟨g', h4, h5⟩ := loopF_fold enc Rl stp xs (stp s x) g2 h3 fun y hy => hs y (List.mem_cons_of_mem _ hy)
    exact ⟨g', by rw [List.map_cons, loopF_cons, h1]; simp only [h2]; exact h4, h5⟩
/-- a for that only goes on, told by what has been taken -/
theorem loopF_pre {tg : Tg} {b : Gm → O} (enc : α → PyData) (Rl : List α → Gm → Prop) : ∀ (xs pre : List α) (g : Gm), Rl pre g →
    (∀ p x post, pre ++ xs = p ++ x :: post → ∀ g, Rl p g → ∃ g1 g2, tgt tg (enc x) g = some g1 ∧ b g1 = .nx g2 ∧ Rl (p ++ [x]) g2) → ∃ g', loopF tg b (xs.map enc) g = .nx g' ∧ Rl (pre ++ xs) g'
  | [], pre, g, h, _ => ⟨g, rfl, by rw [List.append_nil]; exact h⟩
  | x :: xs, pre, g, h, hs => by
    obtain ⟨g1, g2, h1, h2, h3⟩ := hs pre x xs rfl g h
    obtain ⟨g', h4, h5⟩ := loopF_pre enc Rl xs (pre ++ [x]) g2 h3 (fun p y post e => hs p y post (by rw [← e]; simp))
    refine ⟨g', by rw [List.map_cons, loopF_cons, h1]; simp only [h2]; exact h4, ?_⟩
    rw [show pre ++ x :: xs = pre ++ [x] ++ xs by simp]
    exact h5
/-- a for with a way out: a turn goes on or hands back -/
theorem loopF_exit {tg : Tg} {b : Gm → O} (enc : α → PyData) (Rl : Gm → Prop) (P : α → Bool) (ret : α → Rs) : ∀ (xs : List α) (g : Gm), Rl g →
    (∀ x ∈ xs, ∀ g, Rl g → ∃ g1, tgt tg (enc x) g = some g1 ∧ ∃ g2, (if P x then b g1 = .ret (ret x) g2 else b g1 = .nx g2) ∧ Rl g2) → ∃ g', Rl g' ∧ loopF tg b (xs.map enc) g = match xs.find? P with
      | some x => .ret (ret x) g'
      | none => .nx g'
  | [], g, h, _ => ⟨g, h, rfl⟩
  | x :: xs, g, h, hs => by
    obtain ⟨g1, h1, g2, h2, h3⟩ := hs x (List.mem_cons_self ..) g h
    cases hp : P x with
    | true =>
      rw [hp] at h2
      refine ⟨g2, h3, ?_⟩
      rw [List.map_cons, loopF_cons, h1, List.find?_cons, hp]
      simp only [if_true] at h2
      simp only [h2]
    | false =>
      rw [hp] at h2
      obtain ⟨g', h4, h5⟩ := loopF_exit enc Rl P ret xs g2 h3 fun y hy => hs y (List.mem_cons_of_mem _ hy)
      refine ⟨g', h4, ?_⟩
      simp only [Bool.false_eq_true, if_false] at h2
      rw [List.map_cons, loopF_cons, h1, List.find?_cons, hp]
      simp only [h2]
      exact h5
/-- a comprehension: kept are those of P, what is made is F -/
theorem loopC_map {tg : Tg} {own : List Nat} {cond elt : Gm → R Rs} (enc : α → PyData) (G : Gm → Prop) (P : α → Bool) (F : α → PyData) : ∀ (xs : List α) (acc : List PyData) (g : Gm), G g →
    (∀ x ∈ xs, ∀ g, G g → ∃ g1 g2, tgt tg (enc x) g = some g1 ∧ cond g1 = .ok (.fro (.bool (P x))) g2 ∧ (P x = false → G (wipeG g2 own)) ∧ (P x = true → ∃ r g3, elt g2 = .ok r g3 ∧ r.d = F x ∧ G (wipeG g3 own))) →
    ∃ g', loopC tg own cond elt (xs.map enc) acc g = .ok (acc ++ (xs.filter P).map F) g' ∧ G g'
  | [], acc, g, h, _ => ⟨g, by simp [loopC], h⟩
  | x :: xs, acc, g, h, hs => by
    obtain ⟨g1, g2, h1, h2, h3, h4⟩ := hs x (List.mem_cons_self ..) g h
    cases hp : P x with
    | true =>
      obtain ⟨r, g3, e1, e2, e3⟩ := h4 hp
      obtain ⟨g', q1, q2⟩ := loopC_map enc G P F xs (acc ++ [r.d]) (wipeG g3 own) e3 fun y hy => hs y (List.mem_cons_of_mem _ hy)
      refine ⟨g', ?_, q2⟩
      rw [hp] at h2
      rw [List.map_cons, loopC, h1]
      simp only [h2, e1]
      rw [q1, e2]
      simp [hp]
    | false =>
      obtain ⟨g', q1, q2⟩ := loopC_map enc G P F xs acc (wipeG g2 own) (h3 hp) fun y hy => hs y (List.mem_cons_of_mem _ hy)
      refine ⟨g', ?_, q2⟩
      rw [hp] at h2
      rw [List.map_cons, loopC, h1]
      simp only [h2]
      rw [q1]
      simp [hp]
end
@[simp] theorem condOf_omit (r : Gm → R Rs) (g : Gm) : condOf .omit r g = .ok (.fro (.bool true)) g := rfl
theorem condOf_some {e : Ex} (h : e ≠ .omit) (r : Gm → R Rs) (g : Gm) : condOf e r g = r g := by
  unfold condOf
  split
  · exact absurd rfl h
  · rfl
theorem gcd_step {x y : Int} (hx : 0 ≤ x) (hy : 0 ≤ y) : Int.gcd y (x % y) = Int.gcd x y := by
  obtain ⟨m, rfl⟩ := Int.eq_ofNat_of_zero_le hx
  obtain ⟨n, rfl⟩ := Int.eq_ofNat_of_zero_le hy
  rw [← Int.natCast_emod, Int.gcd_natCast_natCast, Int.gcd_natCast_natCast, Nat.gcd_comm, ← Nat.gcd_rec, Nat.gcd_comm]
/-- a comprehension as a whole: its names are put back -/
theorem ev_lcN {α : Type} {L : Lk} {g g1 g0 : Gm} {it c e : Ex} {tg : Tg} {own : List Nat} (enc : α → PyData) (xs : List α) (P : α → Bool) (F : α → PyData) (T : α → Gm) (x : Rs) (hx : ev L it g = .ok x g1) (hi : items x.d = some (xs.map enc)) (hw : wipeOk g1 own = true) (h0 : wipeG g1 own = g0) (hu : unwipe g1 g0 own = g1)
    (ht : ∀ a ∈ xs, tgt tg (enc a) g0 = some (T a) ∧ wipeG (T a) own = g0 ∧ condOf c (fun g => ev L c g) (T a) = .ok (.fro (.bool (P a))) (T a) ∧ (P a = true → ∃ r, ev L e (T a) = .ok r (T a) ∧ r.d = F a)) :
    ev L (.lc it tg own c e) g = .ok (.own ((xs.filter P).map F)) g1 := by
  obtain ⟨g', h1, h2⟩ := loopC_map (tg := tg) (own := own) (cond := condOf c (fun g => ev L c g)) (elt := fun g => ev L e g) enc (fun g => g = g0) P F xs [] g0 rfl (fun a ha g hg => by
    subst hg
    obtain ⟨t1, t2, t3, t4⟩ := ht a ha
    refine ⟨T a, T a, t1, t3, fun _ => t2, fun hp => ?_⟩
    obtain ⟨r, r1, r2⟩ := t4 hp
    exact ⟨r, T a, r1, r2, t2⟩)
  subst h2
  rw [ev, hx, R.bind_ok, hi, hw]
  simp only [h0, h1, R.bind_ok, hu, List.nil_append]
/-- Euclid by a while -/
theorem euclid {c : Gm → R Rs} {b : Gm → O} (S : Int → Int → Gm) (hc : ∀ x y, c (S x y) = .ok (.fro (.bool (decide (0 < y)))) (S x y)) (hb : ∀ x y : Int, 0 < y → b (S x y) = .nx (S y (x % y))) :
    ∀ (m n : Nat) (x y : Int), 0 ≤ x → 0 ≤ y → y < 2 ^ m → 2 * m + 1 ≤ n → loopW c b n (S x y) = .nx (S (Int.gcd x y) 0)
  | m, 0, x, y, hx, hy, hm, hn => by omega
  | 0, n + 1, x, y, hx, hy, hm, hn => by
    have : y = 0 := by
      have : (2 : Int) ^ 0 = 1 := rfl
      omega
    subst this
    rw [loopW_succ, hc]
    simp [Int.natAbs_of_nonneg hx]
  | m + 1, 1, x, y, hx, hy, hm, hn => by omega
  | m + 1, n + 2, x, y, hx, hy, hm, hn => by
    by_cases h0 : y = 0
    · subst h0
      rw [loopW_succ, hc]
      simp [Int.natAbs_of_nonneg hx]
    · have hy' : 0 < y := by omega
      have r0 : 0 ≤ x % y := Int.emod_nonneg _ h0
      have r1 : x % y < y := Int.emod_lt_of_pos _ hy'
      have g1 : Int.gcd y (x % y) = Int.gcd x y := gcd_step hx hy
      rw [loopW_succ, hc, decide_eq_true hy']
      simp only [hb x y hy']
      by_cases h1 : x % y = 0
      · rw [h1] at g1
        rw [loopW_succ, hc, h1, ← g1]
        simp [Int.natAbs_of_nonneg hy]
      · have hr : 0 < x % y := by omega
        rw [loopW_succ, hc, decide_eq_true hr]
        simp only [hb y (x % y) hr]
        have s0 : 0 ≤ y % (x % y) := Int.emod_nonneg _ h1
        have s1 : y % (x % y) < x % y := Int.emod_lt_of_pos _ hr
        have s2 : y % (x % y) + x % y ≤ y := by
          have e := Int.emod_add_mul_ediv y (x % y)
          have q1 : 1 ≤ y / (x % y) := Int.le_ediv_of_mul_le hr (by omega)
          have : x % y * 1 ≤ x % y * (y / (x % y)) := Int.mul_le_mul_of_nonneg_left q1 r0
          omega
        have e2 : (2 : Int) ^ (m + 1) = 2 ^ m * 2 := Int.pow_succ ..
        rw [euclid S hc hb m n (x % y) (y % (x % y)) r0 s0 (by omega) (by omega)]
        have g2 : Int.gcd (x % y) (y % (x % y)) = Int.gcd y (x % y) := gcd_step hy r0
        rw [g2, g1]
end TB
set_option maxHeartbeats 0
/-! Runs of the program's small defs. -/
namespace TB
open PySem PL
/-! ### the text of all defs -/
def errN : List (Str × Str) := [(Str.ofString "InvalidScript", Str.ofString "script value"), (Str.ofString "InvalidPeriods", Str.ofString "periods value"), (Str.ofString "InvalidIndex", Str.ofString "index value"), (Str.ofString "InvalidPendulum", Str.ofString "pendulum value"), (Str.ofString "InvalidNumber", Str.ofString "number value"),
  (Str.ofString "InvalidAnswers", Str.ofString "answers value"), (Str.ofString "InvalidRatios", Str.ofString "ratios value"), (Str.ofString "NothingToUndo", Str.ofString "undo value"), (Str.ofString "InvalidText", Str.ofString "text value")]
def laErr : PyData ⊕ Ec → Option PyData
  | .inl _ => some (.str Str.empty)
  | .inr e => (errN.lookup e.cls).map .str
def la0 (f : Nat) (r : PyData ⊕ Ec) : Option PyData := if f = f__law_error then laErr r else none
def tx0 : Tx := ⟨dT0.get, fun n => (gl0[n]?).map (·.2), la0⟩
theorem run0 (k f : Nat) (ds : List PyData) (io : Option (List PyData)) {d : Df} (h : dT0.get f = some d) : run tx0 (k + 1) f ds io = runD (tx0.lk (run tx0 k) (runs tx0 k).2.2) d ds io := by
  rw [run_succ]
  show (match dT0.get f with | none => _ | some d => _) = _
  rw [h]
@[simp] theorem gl_0 (n : Nat) : tx0.gl n = (gl0[n]?).map (·.2) := rfl
/-! ### texts of steps -/
@[simp] theorem s_rr : (sRing == sRing) = true := by decide +kernel
@[simp] theorem s_gr : (sGo == sRing) = false := by decide +kernel
@[simp] theorem s_sr : (sStop == sRing) = false := by decide +kernel
@[simp] theorem s_wr (w : W) : (wS w == sRing) = false := by cases w <;> decide +kernel
@[simp] theorem s_gg : (sGo == sGo) = true := by decide +kernel
@[simp] theorem s_sg : (sStop == sGo) = false := by decide +kernel
@[simp] theorem s_wg (w : W) : (wS w == sGo) = false := by cases w <;> decide +kernel
@[simp] theorem s_gs : (sGo == sStop) = false := by decide +kernel
@[simp] theorem s_ss : (sStop == sStop) = true := by decide +kernel
@[simp] theorem s_ws (w : W) : (wS w == sStop) = false := by cases w <;> decide +kernel
def W.isWait : W → Bool
  | .wait => true
  | _ => false
def W.isCount : W → Bool
  | .count => true
  | _ => false
@[simp] theorem s_ww (w : W) : (wS w == sWait) = W.isWait w := by cases w <;> decide +kernel
@[simp] theorem s_wc (w : W) : (wS w == sCount) = W.isCount w := by cases w <;> decide +kernel
@[simp] theorem s_wb (w : W) : (wS w == sBoth) = w.isBoth := by cases w <;> decide +kernel
@[simp] theorem s_gw : (sGo == sWait) = false := by decide +kernel
@[simp] theorem s_sw : (sStop == sWait) = false := by decide +kernel
@[simp] theorem s_gc : (sGo == sCount) = false := by decide +kernel
@[simp] theorem s_sc : (sStop == sCount) = false := by decide +kernel
@[simp] theorem s_rc : (sRing == sCount) = false := by decide +kernel
@[simp] theorem s_gb : (sGo == sBoth) = false := by decide +kernel
@[simp] theorem s_sb : (sStop == sBoth) = false := by decide +kernel
@[simp] theorem s_rb : (sRing == sBoth) = false := by decide +kernel
@[simp] theorem s_gv (w : W) : (sGo == wS w) = false := by cases w <;> decide +kernel
@[simp] theorem s_sv (w : W) : (sStop == wS w) = false := by cases w <;> decide +kernel
@[simp] theorem s_cv (w : W) : (sCount == wS w) = W.isCount w := by cases w <;> decide +kernel
@[simp] theorem s_bv (w : W) : (sBoth == wS w) = w.isBoth := by cases w <;> decide +kernel
@[simp] theorem s_wv (w : W) : (sWait == wS w) = W.isWait w := by cases w <;> decide +kernel
@[simp] theorem s_cr : (sCount == sRing) = false := by decide +kernel
@[simp] theorem s_br : (sBoth == sRing) = false := by decide +kernel
@[simp] theorem s_cg : (sCount == sGo) = false := by decide +kernel
@[simp] theorem s_bg : (sBoth == sGo) = false := by decide +kernel
@[simp] theorem s_cs : (sCount == sStop) = false := by decide +kernel
@[simp] theorem s_bs : (sBoth == sStop) = false := by decide +kernel
@[simp] theorem s_rg : (sRing == sGo) = false := by decide +kernel
@[simp] theorem s_rs : (sRing == sStop) = false := by decide +kernel
@[simp] theorem eqv_str (x y : Str) : PyData.eqv (.str x) (.str y) = (x == y) := by rw [PyData.eqv]
@[simp] theorem eqv_int (x y : Int) : PyData.eqv (.int x) (.int y) = decide (x = y) := by rw [PyData.eqv]; rfl
@[simp] theorem opC_inn_t (a : PyData) (ds : List PyData) (h : a.depth ≤ 60) : opC .inn a (.tuple ds) = some (ds.any fun z => PyData.eqv z a) := by
  show (if decide (a.depth ≤ 60) = true then _ else _) = _
  rw [if_pos (decide_eq_true h)]
/-! ### numbers, forms -/
theorem r_less (k : Nat) (a b : P2) (h : Sm2 a ∨ Sm2 b) : run tx0 (k + 1) f_less [eP a, eP b] none = .ret (.fro (.bool (less a b))) none := by
  rw [run0 k _ _ _ D_less]
  rcases h with h | h
  · simp [runD, startG, d_less, b_less, opB_mul, mulOk_l h.1, mulOk_r h.2, endG, less]
  · simp [runD, startG, d_less, b_less, opB_mul, mulOk_l h.1, mulOk_r h.2, endG, less]
theorem r_below (k : Nat) (a b : P2) (h : Sm2 a ∨ Sm2 b) : run tx0 (k + 1) f_below [eP a, eP b] none = .ret (.fro (.bool (below a b))) none := by
  rw [run0 k _ _ _ D_below]
  rcases h with h | h
  · simp [runD, startG, d_below, b_below, opB_mul, mulOk_l h.1, mulOk_r h.2, endG, below]
  · simp [runD, startG, d_below, b_below, opB_mul, mulOk_l h.1, mulOk_r h.2, endG, below]
theorem r_plus (k : Nat) (a b : P2) : run tx0 (k + 1) f_plus [eP a, eP b] none = .ret (.fro (eP (plus a b))) none := by
  rw [run0 k _ _ _ D_plus]
  simp [runD, startG, d_plus, b_plus, endG, plus]
theorem r_minus (k : Nat) (a b : P2) : run tx0 (k + 1) f_minus [eP a, eP b] none = .ret (.fro (eP (minus a b))) none := by
  rw [run0 k _ _ _ D_minus]
  simp [runD, startG, d_minus, b_minus, endG, minus]
theorem r_times (k : Nat) (a : P2) (n : Int) (h : sm n) : run tx0 (k + 1) f_times [eP a, .int n] none = .ret (.fro (eP (times a n))) none := by
  rw [run0 k _ _ _ D_times]
  simp [runD, startG, d_times, b_times, opB_mul, mulOk_r h, endG, times]
theorem r_worth (k : Nat) (a r : P2) (h : Sm2 r) : run tx0 (k + 1) f_worth [eP a, eP r] none = .ret (.fro (.int (worth a r))) none := by
  rw [run0 k _ _ _ D_worth]
  simp [runD, startG, d_worth, b_worth, opB_mul, mulOk_r h.1, mulOk_r h.2, endG, worth]
theorem r_put (k : Nat) (a b c : PyData) (x : Bool) : run tx0 (k + 1) f_put [.tuple [a, b], eX x, c] none = .ret (.fro (.tuple (match x with | false => [c, b] | true => [a, c]))) none := by
  rw [run0 k _ _ _ D_put]
  cases x <;> simp [runD, startG, d_put, b_put, endG, b2i]
theorem iabs_nn (i : Int) : 0 ≤ iabs i := by unfold iabs; split <;> omega
theorem iabs_na (i : Int) : iabs i = (i.natAbs : Int) := by unfold iabs; split <;> omega
/-- numbers that Euclid can do here -/
def wide (i : Int) : Prop := -(2 ^ 1000) < i ∧ i < 2 ^ 1000
theorem opF_abs (i : Int) : opF .abs [.int i] = some (.fro (.int (iabs i))) := rfl
theorem r_divisor (k : Nat) (a b : Int) (h : wide b) : run tx0 (k + 1) f_divisor [.int a, .int b] none = .ret (.fro (.int (Int.gcd a b : Int))) none := by
  rw [run0 k _ _ _ D_divisor]
  have E := euclid (c := fun g => ev (tx0.lk (run tx0 k) (runs tx0 k).2.2) c1_divisor g) (b := fun g => exs (tx0.lk (run tx0 k) (runs tx0 k).2.2) l1_divisor g) (fun x y => [.val (.int a), .val (.int b), .val (.int x), .val (.int y)]) (fun x y => by simp [c1_divisor]) (fun x y h => by simp [l1_divisor, opB_mod, h]) 1000 100000 (iabs a) (iabs b) (iabs_nn a) (iabs_nn b) (by unfold iabs; split <;> (have := h.1; have := h.2; omega)) (by omega)
  have e : Int.gcd (iabs a) (iabs b) = Int.gcd a b := by
    rw [iabs_na, iabs_na]
    unfold Int.gcd
    simp
  rw [e] at E
  simp [runD, startG, d_divisor, b_divisor, opF_abs, ex_whl, E, endG]
theorem r_lowest (k : Nat) (a b : Int) (h : wide b) (h0 : a ≠ 0 ∨ b ≠ 0) (h2 : a.natAbs < 2 ^ 100 ∧ b.natAbs < 2 ^ 100) : run tx0 (k + 2) f_lowest [.int a, .int b] none = .ret (.fro (eP (lowest a b))) none := by
  rw [run0 (k + 1) _ _ _ D_lowest]
  have g0 : 0 < Int.gcd a b := Nat.pos_of_ne_zero fun z => by
    rw [Int.gcd_eq_zero_iff] at z
    omega
  have g1 : Int.gcd a b < 2 ^ 100 := by
    rcases h0 with h0 | h0
    · exact Nat.lt_of_le_of_lt (Nat.le_of_dvd (by omega) (Int.natAbs_dvd_natAbs.mpr (Int.gcd_dvd_left a b) |> fun z => by simpa using z)) h2.1
    · exact Nat.lt_of_le_of_lt (Nat.le_of_dvd (by omega) (Int.natAbs_dvd_natAbs.mpr (Int.gcd_dvd_right a b) |> fun z => by simpa using z)) h2.2
  have d1 : (0 : Int) < (Int.gcd a b : Int) := by omega
  have d2 : (Int.gcd a b : Int) < 2 ^ 100 := by omega
  simp [runD, startG, d_lowest, b_lowest, r_divisor, h, opB_div _ _ d1 d2, endG, lowest]
/-! ### told periods -/
structure Per (pr : P2) : Prop where
  a0 : 0 < pr.1
  b0 : 0 < pr.2
  a1 : pr.1 < 2 ^ 60
  b1 : pr.2 < 2 ^ 60
theorem Per.sm {pr : P2} (h : Per pr) : Sm2 pr := by
  have := h.a0; have := h.b0; have := h.a1; have := h.b1
  unfold Sm2 TB.sm
  omega
abbrev eTk2 (p : Option Int × Option Int) : PyData := .tuple [eOI p.1, eOI p.2]
@[simp] theorem eOI_none : eOI none = .none := rfl
@[simp] theorem eOI_some (i : Int) : eOI (some i) = .int i := rfl
@[simp] theorem eO_none : eO none = .none := rfl
@[simp] theorem eO_some (p : P2) : eO (some p) = eP p := rfl
@[simp] theorem notN_eOI (o : Option Int) : opC .notN (eOI o) .none = some o.isSome := by cases o <;> rfl
@[simp] theorem isN_eOI (o : Option Int) : opC .isN (eOI o) .none = some o.isNone := by cases o <;> rfl
@[simp] theorem notN_eO (o : Option P2) : opC .notN (eO o) .none = some o.isSome := by cases o <;> rfl
@[simp] theorem isN_eO (o : Option P2) : opC .isN (eO o) .none = some o.isNone := by cases o <;> rfl
@[simp] theorem opB_mul_p {i j : Int} (h : sm j) : opB .mul (.int i) (.int j) = some (.fro (.int (i * j))) := opB_mul i j (mulOk_r h)
theorem sel_sm {pr : P2} (h : Per pr) (x : Bool) : 0 < sel x pr ∧ sm (sel x pr) ∧ sel x pr < 2 ^ 60 ∧ sel x pr < 2 ^ 100 := by
  have := h.a0; have := h.b0; have := h.a1; have := h.b1
  unfold sm
  cases x <;> simp [sel] <;> omega
@[simp] theorem opI_pr (pr : P2) (x : Bool) : opI (.tuple [.int pr.1, .int pr.2]) (eX x) = some (.int (sel x pr)) := by cases x <;> simp [eX, b2i, sel]
@[simp] theorem opI_tk (a b : Option Int) (x : Bool) : opI (.tuple [eOI a, eOI b]) (eX x) = some (eOI (sel x (a, b))) := by cases x <;> simp [eX, b2i, sel]
@[simp] theorem opI_ty (a b : Option P2) (x : Bool) : opI (.tuple [eO a, eO b]) (eX x) = some (eO (sel x (a, b))) := by cases x <;> simp [eX, b2i, sel]
@[simp] theorem neg_x (x : Bool) : (1 : Int) - b2i x = b2i (!x) := by cases x <;> rfl
theorem r_put_i (k : Nat) (a b c : Option Int) (x : Bool) : run tx0 (k + 1) f_put [.tuple [eOI a, eOI b], eX x, eOI c] none = .ret (.fro (.tuple [eOI (putx x (a, b) c).1, eOI (putx x (a, b) c).2])) none := by
  rw [r_put]
  cases x <;> rfl
theorem r_put_o (k : Nat) (a b c : Option P2) (x : Bool) : run tx0 (k + 1) f_put [.tuple [eO a, eO b], eX x, eO c] none = .ret (.fro (.tuple [eO (putx x (a, b) c).1, eO (putx x (a, b) c).2])) none := by
  rw [r_put]
  cases x <;> rfl
theorem r_behind_go (k : Nat) (pr : P2) (s : Sd) (x : Bool) : run tx0 (k + 2) f_behind_go [eP pr, eSd s, eX x, .bool true] none = .ret (.fro (eSd ⟨s.time, putx x s.tk (some (s.time + sel x pr)), s.told, s.heard⟩)) none := by
  rw [run0 (k + 1) _ _ _ D_behind_go]
  have h := r_put_i k s.tk.1 s.tk.2 (some (s.time + sel x pr)) x
  simp only [eOI_some] at h
  simp [runD, startG, d_behind_go, b_behind_go, endG, eSd, h]
theorem r_behind_stop (k : Nat) (pr : P2) (s : Sd) (x : Bool) : run tx0 (k + 2) f_behind_go [eP pr, eSd s, eX x, .bool false] none = .ret (.fro (eSd ⟨s.time, putx x s.tk none, s.told, s.heard⟩)) none := by
  rw [run0 (k + 1) _ _ _ D_behind_go]
  have h := r_put_i k s.tk.1 s.tk.2 none x
  simp only [eOI_none] at h
  simp [runD, startG, d_behind_go, b_behind_go, endG, eSd, h]
end TB
set_option maxHeartbeats 0
/-! Runs over a part of the defs, closed under calls, are those over all. -/
namespace TB
open PySem
section
variable (R C : Nat → Bool)
mutual
def okE : Ex → Bool
  | .glb n _ => C n
  | .bin _ a b | .and a b | .or a b | .cmp _ a b | .idx a b | .rng2 a b | .rng3 a b _ | .zip a b => okE a && okE b
  | .neg a | .not a | .rev a | .rng1 a | .enm a | .isi a _ | .sset a | .lss a | .idxB _ a | .cmpB _ _ a | .ninB a _ => okE a
  | .chain _ _ a b c | .ite a b c | .slc a b c => okE a && okE b && okE c
  | .tup xs | .lst xs | .bf _ xs => okEs xs
  | .lc it _ _ c e => okE it && okE c && okE e
  | .call f xs | .callv f _ xs => R f && okEs xs
  | .lam _ k xs => R k && okEs xs
  | _ => true
def okEs : Exs → Bool
  | .nil => true
  | .cons x xs => okE x && okEs xs
end
mutual
def okS : Sm → Bool
  | .asg _ e | .unp _ e | .app _ e | .ext _ e | .ex e | .ret e | .raiseL _ e => okE R C e
  | .par _ es => okEs R C es
  | .set _ k e => okE R C k && okE R C e
  | .ife c a b => okE R C c && okSs a && okSs b
  | .for it _ b => okE R C it && okSs b
  | .whl c b => okE R C c && okSs b
  | _ => true
def okSs : Sms → Bool
  | .nil => true
  | .cons s r => okS s && okSs r
end
end
/-- two links that do the same on the part -/
structure LkS (R C : Nat → Bool) (L M : Lk) : Prop where
  cl : ∀ f, R f = true → L.cl f = M.cl f
  cl2 : ∀ f, R f = true → L.cl2 f = M.cl2 f
  gl : ∀ n, C n = true → L.gl n = M.gl n
  la : L.la = M.la
  fu : L.fu = M.fu
theorem and2 {a b : Bool} (h : (a && b) = true) : a = true ∧ b = true := by simpa using h
theorem and3 {a b c : Bool} (h : (a && b && c) = true) : a = true ∧ b = true ∧ c = true := by
  simp at h
  exact ⟨h.1.1, h.1.2, h.2⟩
section
variable {R C : Nat → Bool} {L M : Lk} (S : LkS R C L M)
include S
mutual
theorem evS : ∀ (e : Ex), okE R C e = true → ev L e = ev M e
  | .non, h => by funext g; simp only [ev_non]
  | .bl b, h => by funext g; simp only [ev_bl]
  | .int i, h => by funext g; simp only [ev_int]
  | .str s, h => by funext g; simp only [ev_str]
  | .loc i, h => by funext g; simp only [ev_loc]
  | .glb n x, h => by funext g; simp only [ev_glb, S.gl n h]
  | .bin o a b, h => by funext g; simp only [ev_bin, evS a (and2 h).1, evS b (and2 h).2]
  | .neg a, h => by funext g; simp only [ev_neg, evS a h]
  | .not a, h => by funext g; simp only [ev_not, evS a h]
  | .and a b, h => by funext g; simp only [ev_and, evS a (and2 h).1, evS b (and2 h).2]
  | .or a b, h => by funext g; simp only [ev_or, evS a (and2 h).1, evS b (and2 h).2]
  | .cmp o a b, h => by funext g; simp only [ev_cmp, evS a (and2 h).1, evS b (and2 h).2]
  | .chain o p a b c, h => by funext g; simp only [ev_chain, evS a (and3 h).1, evS b (and3 h).2.1, evS c (and3 h).2.2]
  | .ite c a b, h => by funext g; simp only [ev_ite, evS c (and3 h).1, evS a (and3 h).2.1, evS b (and3 h).2.2]
  | .tup xs, h => by funext g; simp only [ev_tup, evsS xs h]
  | .lst xs, h => by funext g; simp only [ev_lst, evsS xs h]
  | .idx a b, h => by funext g; simp only [ev_idx, evS a (and2 h).1, evS b (and2 h).2]
  | .idxB j a, h => by funext g; simp only [ev_idxB, evS a h]
  | .lenB j, h => by funext g; simp only [ev_lenB]
  | .cmpB o j a, h => by funext g; simp only [ev_cmpB, evS a h]
  | .ninB a j, h => by funext g; simp only [ev_ninB, evS a h]
  | .slc a lo hi, h => by funext g; simp only [ev_slc, evS a (and3 h).1, evS lo (and3 h).2.1, evS hi (and3 h).2.2]
  | .rev a, h => by funext g; simp only [ev_rev, evS a h]
  | .omit, h => by funext g; rw [ev, ev]
  | .lc it tg own c e, h => by funext g; simp only [ev_lc, evS it (and3 h).1, evS c (and3 h).2.1, evS e (and3 h).2.2]
  | .rng1 a, h => by funext g; simp only [ev_rng1, evS a h]
  | .rng2 a b, h => by funext g; simp only [ev_rng2, evS a (and2 h).1, evS b (and2 h).2]
  | .rng3 a b s, h => by funext g; simp only [ev_rng3, evS a (and2 h).1, evS b (and2 h).2]
  | .zip a b, h => by funext g; simp only [ev_zip, evS a (and2 h).1, evS b (and2 h).2]
  | .enm a, h => by funext g; simp only [ev_enm, evS a h]
  | .call f xs, h => by funext g; simp only [ev_call, evsS xs (and2 h).2, S.cl f (and2 h).1]
  | .callv f i xs, h => by funext g; simp only [ev_callv, evsS xs (and2 h).2, S.cl f (and2 h).1]
  | .bf b xs, h => by funext g; simp only [ev_bf, evsS xs h]
  | .isi a t, h => by funext g; simp only [ev_isi, evS a h]
  | .mth b a xs, h => by funext g; rw [ev, ev]
  | .lam f k xs, h => by funext g; rw [ev, ev, evsS xs (and2 h).2, S.cl2 k (and2 h).1, S.la]
  | .sset a, h => by funext g; simp only [ev_sset, evS a h]
  | .lss a, h => by funext g; simp only [ev_lss, evS a h]
theorem evsS : ∀ (xs : Exs), okEs R C xs = true → evs L xs = evs M xs
  | .nil, h => by funext g; simp only [evs_nil]
  | .cons x xs, h => by funext g; simp only [evs_cons, evS x (and2 h).1, evsS xs (and2 h).2]
end
theorem evrS : ∀ (xs : Exs), okEs R C xs = true → evr L xs = evr M xs
  | .nil, h => by funext g; simp only [evr_nil]
  | .cons x xs, h => by funext g; simp only [evr_cons, evS S x (and2 h).1, evrS xs (and2 h).2]
mutual
theorem exSS : ∀ (s : Sm), okS R C s = true → exS L s = exS M s
  | .pass, h => by funext g; simp only [ex_pass]
  | .nev, h => by funext g; rw [exS, exS]
  | .asg i e, h => by funext g; simp only [ex_asg, evS S e h]
  | .unp is e, h => by funext g; simp only [ex_unp, evS S e h]
  | .par is es, h => by funext g; simp only [ex_par, evrS S es h]
  | .app i e, h => by funext g; simp only [ex_app, evS S e h]
  | .ext i e, h => by funext g; simp only [ex_ext, evS S e h]
  | .popS i, h => by funext g; rw [exS, exS]
  | .set i k e, h => by funext g; simp only [ex_set, evS S k (and2 h).1, evS S e (and2 h).2]
  | .ex e, h => by funext g; simp only [ex_ex, evS S e h]
  | .ret e, h => by funext g; simp only [ex_ret, evS S e h]
  | .retN, h => by funext g; simp only [ex_retN]
  | .ife c a b, h => by funext g; simp only [ex_ife, evS S c (and3 h).1, exsS a (and3 h).2.1, exsS b (and3 h).2.2]
  | .for it tg b, h => by funext g; simp only [ex_for, evi, evS S it (and2 h).1, exsS b (and2 h).2]
  | .whl c b, h => by funext g; simp only [ex_whl, evS S c (and2 h).1, exsS b (and2 h).2, S.fu]
  | .brk, h => by funext g; simp only [ex_brk]
  | .raise c m, h => by funext g; simp only [ex_raise]
  | .raiseL c e, h => by funext g; simp only [ex_raiseL, evS S e h]
theorem exsS : ∀ (s : Sms), okSs R C s = true → exs L s = exs M s
  | .nil, h => by funext g; simp only [exs_nil]
  | .cons s r, h => by funext g; simp only [exs_cons, exSS s (and2 h).1, exsS r (and2 h).2]
end
end
/-- a closed part runs alike -/
theorem runs_same {R C : Nat → Bool} {T M : Tx} (hD : ∀ f, R f = true → T.D f = M.D f) (hG : ∀ n, C n = true → T.gl n = M.gl n) (hla : T.la = M.la) (hok : ∀ f d, R f = true → T.D f = some d → okSs R C d.body = true) :
    ∀ k, (∀ f, R f = true → (runs T k).1 f = (runs M k).1 f) ∧ (∀ f, R f = true → (runs T k).2.1 f = (runs M k).2.1 f) ∧ (∀ f, R f = true → (runs T k).2.2 f = (runs M k).2.2 f)
  | 0 => ⟨fun _ _ => rfl, fun _ _ => rfl, fun _ _ => rfl⟩
  | k + 1 => by
    obtain ⟨i1, i2, i3⟩ := runs_same hD hG hla hok k
    refine ⟨fun f hf => ?_, i1, i2⟩
    funext ds io
    show (match T.D f with
      | none => CRs.stuck
      | some d => runD (T.lk (runs T k).1 (runs T k).2.2) d ds io) = match M.D f with
      | none => CRs.stuck
      | some d => runD (M.lk (runs M k).1 (runs M k).2.2) d ds io
    rw [← hD f hf]
    cases q : T.D f with
    | none => rfl
    | some d =>
      have S : LkS R C (T.lk (runs T k).1 (runs T k).2.2) (M.lk (runs M k).1 (runs M k).2.2) := ⟨i1, i3, hG, hla, rfl⟩
      show runD _ d ds io = runD _ d ds io
      unfold runD
      rw [exsS S d.body (hok f d hf q)]
theorem run_same {R C : Nat → Bool} {T M : Tx} (hD : ∀ f, R f = true → T.D f = M.D f) (hG : ∀ n, C n = true → T.gl n = M.gl n) (hla : T.la = M.la) (hok : ∀ f d, R f = true → T.D f = some d → okSs R C d.body = true) (k f : Nat) (hf : R f = true) : run T k f = run M k f := (runs_same hD hG hla hok k).1 f hf
end TB
set_option maxHeartbeats 0
namespace TB
open PySem PySem.Spec PyProof.Rows L2
def it_law_k21 : Itm := ⟨94, [(PySem.Str.ofString "script"), (PySem.Str.ofString "k"), (PySem.Str.ofString "vat"), (PySem.Str.ofString "trial"), (PySem.Str.ofString "one"), (PySem.Str.ofString "other")], [(PySem.Str.ofString "script")], d_law_k21⟩
def it__law_vat : Itm := ⟨86, [(PySem.Str.ofString "script"), (PySem.Str.ofString "k"), (PySem.Str.ofString "cell")], [(PySem.Str.ofString "script"), (PySem.Str.ofString "k")], d__law_vat⟩
def it__law_ratio : Itm := ⟨89, [(PySem.Str.ofString "vat"), (PySem.Str.ofString "most"), (PySem.Str.ofString "one"), (PySem.Str.ofString "low"), (PySem.Str.ofString "high")], [(PySem.Str.ofString "vat"), (PySem.Str.ofString "most")], d__law_ratio⟩
def it__law_forms_right : Itm := ⟨92, [(PySem.Str.ofString "whole"), (PySem.Str.ofString "found"), (PySem.Str.ofString "due"), (PySem.Str.ofString "a"), (PySem.Str.ofString "b"), (PySem.Str.ofString "c"), (PySem.Str.ofString "d"), (PySem.Str.ofString "stretch"), (PySem.Str.ofString "form")], [], d__law_forms_right⟩
def it__law_answers_right : Itm := ⟨93, [(PySem.Str.ofString "found"), (PySem.Str.ofString "a"), (PySem.Str.ofString "b"), (PySem.Str.ofString "c"), (PySem.Str.ofString "d")], [], d__law_answers_right⟩
def it__law_counts_right : Itm := ⟨91, [(PySem.Str.ofString "one"), (PySem.Str.ofString "other"), (PySem.Str.ofString "pair"), (PySem.Str.ofString "found"), (PySem.Str.ofString "due"), (PySem.Str.ofString "a"), (PySem.Str.ofString "b"), (PySem.Str.ofString "c"), (PySem.Str.ofString "d"), (PySem.Str.ofString "at")], [(PySem.Str.ofString "one"), (PySem.Str.ofString "other")], d__law_counts_right⟩
def it__law_reduced : Itm := ⟨88, [(PySem.Str.ofString "one"), (PySem.Str.ofString "other"), (PySem.Str.ofString "big"), (PySem.Str.ofString "small")], [(PySem.Str.ofString "one"), (PySem.Str.ofString "other")], d__law_reduced⟩
def it__law_under : Itm := ⟨87, [(PySem.Str.ofString "vat"), (PySem.Str.ofString "many"), (PySem.Str.ofString "wide"), (PySem.Str.ofString "found")], [(PySem.Str.ofString "vat"), (PySem.Str.ofString "many")], d__law_under⟩
def it__law_known : Itm := ⟨90, [(PySem.Str.ofString "a"), (PySem.Str.ofString "b"), (PySem.Str.ofString "c")], [], d__law_known⟩
def it_ring_jumps : Itm := ⟨57, [(PySem.Str.ofString "script"), (PySem.Str.ofString "index"), (PySem.Str.ofString "at"), (PySem.Str.ofString "rows"), (PySem.Str.ofString "found"), (PySem.Str.ofString "ratio"), (PySem.Str.ofString "time")], [(PySem.Str.ofString "script"), (PySem.Str.ofString "index")], d_ring_jumps⟩
def it_swing_bounds : Itm := ⟨63, [(PySem.Str.ofString "script"), (PySem.Str.ofString "index"), (PySem.Str.ofString "x"), (PySem.Str.ofString "marks"), (PySem.Str.ofString "row"), (PySem.Str.ofString "low"), (PySem.Str.ofString "high"), (PySem.Str.ofString "value"), (PySem.Str.ofString "reached")], [(PySem.Str.ofString "script"), (PySem.Str.ofString "index"), (PySem.Str.ofString "x")], d_swing_bounds⟩
def it_ring_forms : Itm := ⟨56, [(PySem.Str.ofString "script"), (PySem.Str.ofString "index"), (PySem.Str.ofString "at"), (PySem.Str.ofString "rows"), (PySem.Str.ofString "found"), (PySem.Str.ofString "low"), (PySem.Str.ofString "high"), (PySem.Str.ofString "form")], [(PySem.Str.ofString "script"), (PySem.Str.ofString "index")], d_ring_forms⟩
def it_swings : Itm := ⟨60, [(PySem.Str.ofString "script"), (PySem.Str.ofString "index"), (PySem.Str.ofString "x"), (PySem.Str.ofString "rows"), (PySem.Str.ofString "row"), (PySem.Str.ofString "numbers"), (PySem.Str.ofString "mine"), (PySem.Str.ofString "low"), (PySem.Str.ofString "high"), (PySem.Str.ofString "number")], [(PySem.Str.ofString "script"), (PySem.Str.ofString "index"), (PySem.Str.ofString "x")], d_swings⟩
def it_answered : Itm := ⟨67, [(PySem.Str.ofString "script")], [(PySem.Str.ofString "script")], d_answered⟩
def it_ratios_for : Itm := ⟨68, [(PySem.Str.ofString "script"), (PySem.Str.ofString "told"), (PySem.Str.ofString "one")], [(PySem.Str.ofString "script"), (PySem.Str.ofString "told")], d_ratios_for⟩
def it_keeps_apart : Itm := ⟨72, [(PySem.Str.ofString "script"), (PySem.Str.ofString "ratios")], [(PySem.Str.ofString "script"), (PySem.Str.ofString "ratios")], d_keeps_apart⟩
def it_answers : Itm := ⟨36, [(PySem.Str.ofString "script"), (PySem.Str.ofString "periods")], [(PySem.Str.ofString "script"), (PySem.Str.ofString "periods")], d_answers⟩
def it_coarsest : Itm := ⟨69, [(PySem.Str.ofString "script"), (PySem.Str.ofString "best"), (PySem.Str.ofString "stretches"), (PySem.Str.ofString "told"), (PySem.Str.ofString "quotient"), (PySem.Str.ofString "low"), (PySem.Str.ofString "high")], [(PySem.Str.ofString "script")], d_coarsest⟩
def it_needless : Itm := ⟨84, [(PySem.Str.ofString "script"), (PySem.Str.ofString "at")], [(PySem.Str.ofString "script")], d_needless⟩
def it_parting : Itm := ⟨83, [(PySem.Str.ofString "one"), (PySem.Str.ofString "other"), (PySem.Str.ofString "bad"), (PySem.Str.ofString "low"), (PySem.Str.ofString "high"), (PySem.Str.ofString "good"), (PySem.Str.ofString "ratio")], [(PySem.Str.ofString "one"), (PySem.Str.ofString "other")], d_parting⟩
def it_rings : Itm := ⟨35, [(PySem.Str.ofString "script"), (PySem.Str.ofString "periods")], [(PySem.Str.ofString "script"), (PySem.Str.ofString "periods")], d_rings⟩
def it_end_time : Itm := ⟨37, [(PySem.Str.ofString "script"), (PySem.Str.ofString "periods")], [(PySem.Str.ofString "script"), (PySem.Str.ofString "periods")], d_end_time⟩
def it_need_script : Itm := ⟨21, [(PySem.Str.ofString "script")], [(PySem.Str.ofString "script")], d_need_script⟩
def it_need_index : Itm := ⟨25, [(PySem.Str.ofString "index"), (PySem.Str.ofString "many")], [(PySem.Str.ofString "index"), (PySem.Str.ofString "many")], d_need_index⟩
def it_rings_in : Itm := ⟨24, [(PySem.Str.ofString "script"), (PySem.Str.ofString "step")], [(PySem.Str.ofString "script")], d_rings_in⟩
def it_rows_of : Itm := ⟨55, [(PySem.Str.ofString "script"), (PySem.Str.ofString "index"), (PySem.Str.ofString "found"), (PySem.Str.ofString "low"), (PySem.Str.ofString "high"), (PySem.Str.ofString "time"), (PySem.Str.ofString "ticks"), (PySem.Str.ofString "told"), (PySem.Str.ofString "heard")], [(PySem.Str.ofString "script"), (PySem.Str.ofString "index")], d_rows_of⟩
def it_worth : Itm := ⟨43, [(PySem.Str.ofString "form"), (PySem.Str.ofString "ratio")], [(PySem.Str.ofString "form"), (PySem.Str.ofString "ratio")], d_worth⟩
def it_need_pendulum : Itm := ⟨23, [(PySem.Str.ofString "x")], [(PySem.Str.ofString "x")], d_need_pendulum⟩
def it_marks_of : Itm := ⟨61, [(PySem.Str.ofString "row"), (PySem.Str.ofString "x"), (PySem.Str.ofString "level"), (PySem.Str.ofString "low"), (PySem.Str.ofString "high"), (PySem.Str.ofString "form"), (PySem.Str.ofString "end")], [(PySem.Str.ofString "row"), (PySem.Str.ofString "x")], d_marks_of⟩
def it_below : Itm := ⟨62, [(PySem.Str.ofString "one"), (PySem.Str.ofString "other")], [(PySem.Str.ofString "one"), (PySem.Str.ofString "other")], d_below⟩
def it_whole_rows : Itm := ⟨59, [(PySem.Str.ofString "row"), (PySem.Str.ofString "x"), (PySem.Str.ofString "number"), (PySem.Str.ofString "low"), (PySem.Str.ofString "high"), (PySem.Str.ofString "form"), (PySem.Str.ofString "gap"), (PySem.Str.ofString "cut"), (PySem.Str.ofString "there")], [(PySem.Str.ofString "row"), (PySem.Str.ofString "x")], d_whole_rows⟩
def it_joined : Itm := ⟨53, [(PySem.Str.ofString "rows"), (PySem.Str.ofString "found"), (PySem.Str.ofString "low"), (PySem.Str.ofString "high"), (PySem.Str.ofString "good")], [(PySem.Str.ofString "rows")], d_joined⟩
def it_all_answers : Itm := ⟨66, [(PySem.Str.ofString "script"), (PySem.Str.ofString "piece"), (PySem.Str.ofString "pieces"), (PySem.Str.ofString "known"), (PySem.Str.ofString "told")], [(PySem.Str.ofString "script")], d_all_answers⟩
def it_ratios_of : Itm := ⟨65, [(PySem.Str.ofString "pieces"), (PySem.Str.ofString "told"), (PySem.Str.ofString "piece")], [(PySem.Str.ofString "pieces"), (PySem.Str.ofString "told")], d_ratios_of⟩
def it_course : Itm := ⟨52, [(PySem.Str.ofString "script")], [(PySem.Str.ofString "script")], d_course⟩
def it_is_whole : Itm := ⟨13, [(PySem.Str.ofString "value"), (PySem.Str.ofString "low"), (PySem.Str.ofString "high")], [(PySem.Str.ofString "value"), (PySem.Str.ofString "low"), (PySem.Str.ofString "high")], d_is_whole⟩
def it_need_ratios : Itm := ⟨70, [(PySem.Str.ofString "ratios"), (PySem.Str.ofString "ratio")], [(PySem.Str.ofString "ratios")], d_need_ratios⟩
def it_parts : Itm := ⟨71, [(PySem.Str.ofString "script"), (PySem.Str.ofString "ratios"), (PySem.Str.ofString "rows"), (PySem.Str.ofString "ratio"), (PySem.Str.ofString "at")], [(PySem.Str.ofString "script"), (PySem.Str.ofString "ratios")], d_parts⟩
def it_need_periods : Itm := ⟨22, [(PySem.Str.ofString "periods")], [(PySem.Str.ofString "periods")], d_need_periods⟩
def it_led : Itm := ⟨34, [(PySem.Str.ofString "script"), (PySem.Str.ofString "periods"), (PySem.Str.ofString "stand"), (PySem.Str.ofString "step")], [(PySem.Str.ofString "script"), (PySem.Str.ofString "periods")], d_led⟩
def it_lowest : Itm := ⟨15, [(PySem.Str.ofString "one"), (PySem.Str.ofString "other"), (PySem.Str.ofString "whole")], [(PySem.Str.ofString "one"), (PySem.Str.ofString "other")], d_lowest⟩
def it_are_alike : Itm := ⟨80, [(PySem.Str.ofString "one"), (PySem.Str.ofString "other"), (PySem.Str.ofString "row")], [(PySem.Str.ofString "one"), (PySem.Str.ofString "other")], d_are_alike⟩
def it_need_two : Itm := ⟨82, [(PySem.Str.ofString "one"), (PySem.Str.ofString "other")], [(PySem.Str.ofString "one"), (PySem.Str.ofString "other")], d_need_two⟩
def it_simplest : Itm := ⟨81, [(PySem.Str.ofString "low"), (PySem.Str.ofString "high"), (PySem.Str.ofString "left"), (PySem.Str.ofString "right"), (PySem.Str.ofString "ratio")], [(PySem.Str.ofString "low"), (PySem.Str.ofString "high")], d_simplest⟩
def it_all_rows : Itm := ⟨79, [(PySem.Str.ofString "one"), (PySem.Str.ofString "other"), (PySem.Str.ofString "ratio"), (PySem.Str.ofString "mine"), (PySem.Str.ofString "theirs"), (PySem.Str.ofString "rows"), (PySem.Str.ofString "low"), (PySem.Str.ofString "first"), (PySem.Str.ofString "second")], [(PySem.Str.ofString "one"), (PySem.Str.ofString "other")], d_all_rows⟩
def it_is_script : Itm := ⟨20, [(PySem.Str.ofString "value"), (PySem.Str.ofString "step")], [(PySem.Str.ofString "value")], d_is_script⟩
def it_minus : Itm := ⟨41, [(PySem.Str.ofString "one"), (PySem.Str.ofString "other")], [(PySem.Str.ofString "one"), (PySem.Str.ofString "other")], d_minus⟩
def it_zero_within : Itm := ⟨44, [(PySem.Str.ofString "form"), (PySem.Str.ofString "low"), (PySem.Str.ofString "high"), (PySem.Str.ofString "ratio")], [(PySem.Str.ofString "form"), (PySem.Str.ofString "low"), (PySem.Str.ofString "high")], d_zero_within⟩
def it_times : Itm := ⟨42, [(PySem.Str.ofString "form"), (PySem.Str.ofString "number")], [(PySem.Str.ofString "form"), (PySem.Str.ofString "number")], d_times⟩
def it_sign_of : Itm := ⟨45, [(PySem.Str.ofString "form"), (PySem.Str.ofString "low"), (PySem.Str.ofString "high"), (PySem.Str.ofString "value")], [(PySem.Str.ofString "form"), (PySem.Str.ofString "low"), (PySem.Str.ofString "high")], d_sign_of⟩
def it_pieces_between : Itm := ⟨51, [(PySem.Str.ofString "script"), (PySem.Str.ofString "piece"), (PySem.Str.ofString "at"), (PySem.Str.ofString "cut"), (PySem.Str.ofString "later"), (PySem.Str.ofString "found"), (PySem.Str.ofString "low"), (PySem.Str.ofString "high")], [(PySem.Str.ofString "script"), (PySem.Str.ofString "piece"), (PySem.Str.ofString "at")], d_pieces_between⟩
def it_is_ratio : Itm := ⟨17, [(PySem.Str.ofString "value")], [(PySem.Str.ofString "value")], d_is_ratio⟩
def it_is_periods : Itm := ⟨16, [(PySem.Str.ofString "value")], [(PySem.Str.ofString "value")], d_is_periods⟩
def it_first_stand : Itm := ⟨33, [(PySem.Str.ofString "periods")], [(PySem.Str.ofString "periods")], d_first_stand⟩
def it_behind_step : Itm := ⟨32, [(PySem.Str.ofString "periods"), (PySem.Str.ofString "stand"), (PySem.Str.ofString "step"), (PySem.Str.ofString "x"), (PySem.Str.ofString "end"), (PySem.Str.ofString "more"), (PySem.Str.ofString "time"), (PySem.Str.ofString "ticks"), (PySem.Str.ofString "told"), (PySem.Str.ofString "heard"), (PySem.Str.ofString "answer")], [(PySem.Str.ofString "periods"), (PySem.Str.ofString "stand"), (PySem.Str.ofString "step")], d_behind_step⟩
def it_divisor : Itm := ⟨14, [(PySem.Str.ofString "one"), (PySem.Str.ofString "other"), (PySem.Str.ofString "first"), (PySem.Str.ofString "second")], [(PySem.Str.ofString "one"), (PySem.Str.ofString "other")], d_divisor⟩
def it_less : Itm := ⟨18, [(PySem.Str.ofString "one"), (PySem.Str.ofString "other")], [(PySem.Str.ofString "one"), (PySem.Str.ofString "other")], d_less⟩
def it_merged : Itm := ⟨75, [(PySem.Str.ofString "one"), (PySem.Str.ofString "other"), (PySem.Str.ofString "found"), (PySem.Str.ofString "first"), (PySem.Str.ofString "second")], [(PySem.Str.ofString "one"), (PySem.Str.ofString "other")], d_merged⟩
def it_cuts_of : Itm := ⟨74, [(PySem.Str.ofString "pieces"), (PySem.Str.ofString "piece")], [(PySem.Str.ofString "pieces")], d_cuts_of⟩
def it_piece_over : Itm := ⟨77, [(PySem.Str.ofString "pieces"), (PySem.Str.ofString "low"), (PySem.Str.ofString "high"), (PySem.Str.ofString "piece")], [(PySem.Str.ofString "pieces"), (PySem.Str.ofString "low"), (PySem.Str.ofString "high")], d_piece_over⟩
def it_rows_between : Itm := ⟨78, [(PySem.Str.ofString "mine"), (PySem.Str.ofString "theirs"), (PySem.Str.ofString "low"), (PySem.Str.ofString "high"), (PySem.Str.ofString "some"), (PySem.Str.ofString "ratio"), (PySem.Str.ofString "good"), (PySem.Str.ofString "ring"), (PySem.Str.ofString "bell"), (PySem.Str.ofString "gap")], [(PySem.Str.ofString "mine"), (PySem.Str.ofString "theirs"), (PySem.Str.ofString "low"), (PySem.Str.ofString "high")], d_rows_between⟩
def it_told_at : Itm := ⟨76, [(PySem.Str.ofString "script"), (PySem.Str.ofString "ratio"), (PySem.Str.ofString "piece"), (PySem.Str.ofString "ring")], [(PySem.Str.ofString "script"), (PySem.Str.ofString "ratio")], d_told_at⟩
def it_is_step : Itm := ⟨19, [(PySem.Str.ofString "value")], [(PySem.Str.ofString "value")], d_is_step⟩
def it_stepped : Itm := ⟨49, [(PySem.Str.ofString "piece"), (PySem.Str.ofString "step"), (PySem.Str.ofString "x"), (PySem.Str.ofString "low"), (PySem.Str.ofString "high"), (PySem.Str.ofString "time"), (PySem.Str.ofString "ticks"), (PySem.Str.ofString "told"), (PySem.Str.ofString "heard"), (PySem.Str.ofString "tick"), (PySem.Str.ofString "more")], [(PySem.Str.ofString "piece"), (PySem.Str.ofString "step")], d_stepped⟩
def it_single : Itm := ⟨50, [(PySem.Str.ofString "script"), (PySem.Str.ofString "ratio"), (PySem.Str.ofString "time"), (PySem.Str.ofString "ticks"), (PySem.Str.ofString "told"), (PySem.Str.ofString "heard"), (PySem.Str.ofString "ring")], [(PySem.Str.ofString "script"), (PySem.Str.ofString "ratio")], d_single⟩
def it_passed : Itm := ⟨29, [(PySem.Str.ofString "periods"), (PySem.Str.ofString "stand"), (PySem.Str.ofString "end"), (PySem.Str.ofString "x"), (PySem.Str.ofString "time"), (PySem.Str.ofString "ticks"), (PySem.Str.ofString "told"), (PySem.Str.ofString "heard")], [(PySem.Str.ofString "periods"), (PySem.Str.ofString "stand"), (PySem.Str.ofString "end")], d_passed⟩
def it_behind_go : Itm := ⟨28, [(PySem.Str.ofString "periods"), (PySem.Str.ofString "stand"), (PySem.Str.ofString "x"), (PySem.Str.ofString "swings"), (PySem.Str.ofString "time"), (PySem.Str.ofString "ticks"), (PySem.Str.ofString "told"), (PySem.Str.ofString "heard")], [(PySem.Str.ofString "periods"), (PySem.Str.ofString "stand"), (PySem.Str.ofString "x"), (PySem.Str.ofString "swings")], d_behind_go⟩
def it_first_both : Itm := ⟨31, [(PySem.Str.ofString "periods"), (PySem.Str.ofString "stand"), (PySem.Str.ofString "x"), (PySem.Str.ofString "n"), (PySem.Str.ofString "at"), (PySem.Str.ofString "mine"), (PySem.Str.ofString "yours"), (PySem.Str.ofString "tick")], [(PySem.Str.ofString "periods"), (PySem.Str.ofString "stand"), (PySem.Str.ofString "x"), (PySem.Str.ofString "n")], d_first_both⟩
def it_ticked : Itm := ⟨30, [(PySem.Str.ofString "periods"), (PySem.Str.ofString "stand"), (PySem.Str.ofString "x"), (PySem.Str.ofString "end"), (PySem.Str.ofString "tick")], [(PySem.Str.ofString "periods"), (PySem.Str.ofString "stand"), (PySem.Str.ofString "x"), (PySem.Str.ofString "end")], d_ticked⟩
def it_waited : Itm := ⟨48, [(PySem.Str.ofString "piece"), (PySem.Str.ofString "step"), (PySem.Str.ofString "x"), (PySem.Str.ofString "end"), (PySem.Str.ofString "more"), (PySem.Str.ofString "pair"), (PySem.Str.ofString "low"), (PySem.Str.ofString "high"), (PySem.Str.ofString "time"), (PySem.Str.ofString "ticks"), (PySem.Str.ofString "told"), (PySem.Str.ofString "heard"), (PySem.Str.ofString "cut"), (PySem.Str.ofString "many"), (PySem.Str.ofString "later"), (PySem.Str.ofString "here")], [(PySem.Str.ofString "piece"), (PySem.Str.ofString "step")], d_waited⟩
def it_plus : Itm := ⟨40, [(PySem.Str.ofString "one"), (PySem.Str.ofString "other")], [(PySem.Str.ofString "one"), (PySem.Str.ofString "other")], d_plus⟩
def it_put : Itm := ⟨27, [(PySem.Str.ofString "pair"), (PySem.Str.ofString "x"), (PySem.Str.ofString "value")], [(PySem.Str.ofString "pair"), (PySem.Str.ofString "x"), (PySem.Str.ofString "value")], d_put⟩
def it_ends_of : Itm := ⟨47, [(PySem.Str.ofString "piece"), (PySem.Str.ofString "step"), (PySem.Str.ofString "x"), (PySem.Str.ofString "tick"), (PySem.Str.ofString "at")], [(PySem.Str.ofString "piece"), (PySem.Str.ofString "step")], d_ends_of⟩
def it_ticks_up_to : Itm := ⟨46, [(PySem.Str.ofString "piece"), (PySem.Str.ofString "x"), (PySem.Str.ofString "end"), (PySem.Str.ofString "low"), (PySem.Str.ofString "high"), (PySem.Str.ofString "tick"), (PySem.Str.ofString "many"), (PySem.Str.ofString "last"), (PySem.Str.ofString "gap"), (PySem.Str.ofString "cut")], [(PySem.Str.ofString "piece"), (PySem.Str.ofString "x"), (PySem.Str.ofString "end")], d_ticks_up_to⟩
def its : List (Nat × Itm) := [(f_law_k21, it_law_k21), (f__law_vat, it__law_vat), (f__law_ratio, it__law_ratio), (f__law_forms_right, it__law_forms_right), (f__law_answers_right, it__law_answers_right), (f__law_counts_right, it__law_counts_right), (f__law_reduced, it__law_reduced), (f__law_under, it__law_under), (f__law_known, it__law_known), (f_ring_jumps, it_ring_jumps), (f_swing_bounds, it_swing_bounds), (f_ring_forms, it_ring_forms), (f_swings, it_swings), (f_answered, it_answered), (f_ratios_for, it_ratios_for), (f_keeps_apart, it_keeps_apart), (f_answers, it_answers), (f_coarsest, it_coarsest), (f_needless, it_needless), (f_parting, it_parting), (f_rings, it_rings), (f_end_time, it_end_time), (f_need_script, it_need_script), (f_need_index, it_need_index), (f_rings_in, it_rings_in), (f_rows_of, it_rows_of), (f_worth, it_worth), (f_need_pendulum, it_need_pendulum), (f_marks_of, it_marks_of), (f_below, it_below), (f_whole_rows, it_whole_rows), (f_joined, it_joined), (f_all_answers, it_all_answers), (f_ratios_of, it_ratios_of), (f_course, it_course), (f_is_whole, it_is_whole), (f_need_ratios, it_need_ratios), (f_parts, it_parts), (f_need_periods, it_need_periods), (f_led, it_led), (f_lowest, it_lowest), (f_are_alike, it_are_alike), (f_need_two, it_need_two), (f_simplest, it_simplest), (f_all_rows, it_all_rows), (f_is_script, it_is_script), (f_minus, it_minus), (f_zero_within, it_zero_within), (f_times, it_times), (f_sign_of, it_sign_of), (f_pieces_between, it_pieces_between), (f_is_ratio, it_is_ratio), (f_is_periods, it_is_periods), (f_first_stand, it_first_stand), (f_behind_step, it_behind_step), (f_divisor, it_divisor), (f_less, it_less), (f_merged, it_merged), (f_cuts_of, it_cuts_of), (f_piece_over, it_piece_over), (f_rows_between, it_rows_between), (f_told_at, it_told_at), (f_is_step, it_is_step), (f_stepped, it_stepped), (f_single, it_single), (f_passed, it_passed), (f_behind_go, it_behind_go), (f_first_both, it_first_both), (f_ticked, it_ticked), (f_waited, it_waited), (f_plus, it_plus), (f_put, it_put), (f_ends_of, it_ends_of), (f_ticks_up_to, it_ticks_up_to)]
def gl : List (Nat × Str × PyData) := [(4, (⟨#[85, 78, 73, 84, 83]⟩ : PySem.Str), (.tuple [(.tuple [(.int (1)), (.int (0))]), (.tuple [(.int (0)), (.int (1))])])), (2, (⟨#[76, 79, 87, 69, 83, 84]⟩ : PySem.Str), (.tuple [(.int (1)), (.int (5))])), (3, (⟨#[72, 73, 71, 72, 69, 83, 84]⟩ : PySem.Str), (.tuple [(.int (5)), (.int (1))])), (0, (⟨#[77, 79, 83, 84]⟩ : PySem.Str), (.int (8))), (1, (⟨#[76, 79, 78, 71, 69, 83, 84]⟩ : PySem.Str), (.int (1000000000000)))]
abbrev prg : Program := PySem.Challenge.rw_tickbetween_k21_whole_written_by_hand.prog
def lab : Nat → Bool := fun _ => false
def cls : List Str := [(PySem.Str.ofString "InvalidAnswers"), (PySem.Str.ofString "InvalidIndex"), (PySem.Str.ofString "InvalidPendulum"), (PySem.Str.ofString "InvalidPeriods"), (PySem.Str.ofString "InvalidRatios"), (PySem.Str.ofString "InvalidScript")]
theorem ok_all : (its.all fun it => itB (mcOf prg.main.body its gl lab fun x => decide (x ∈ cls)) prg.main.body it.2) = true := by kernel_rfl
theorem fc {α : Type} {P : α → Prop} {a : α} {l : List α} (h : P a) (t : ∀ p ∈ l, P p) : ∀ p ∈ a :: l, P p := fun p hp => by
  rcases List.mem_cons.mp hp with e | hp
  · rw [e]; exact h
  · exact t p hp
theorem fn {α : Type} {P : α → Prop} : ∀ p ∈ ([] : List α), P p := fun p hp => by cases hp
theorem its_D : ∀ p ∈ its, dT0.get p.1 = some p.2.d := (fc D_law_k21 (fc D__law_vat (fc D__law_ratio (fc D__law_forms_right (fc D__law_answers_right (fc D__law_counts_right (fc D__law_reduced (fc D__law_under (fc D__law_known (fc D_ring_jumps (fc D_swing_bounds (fc D_ring_forms (fc D_swings (fc D_answered (fc D_ratios_for (fc D_keeps_apart (fc D_answers (fc D_coarsest (fc D_needless (fc D_parting (fc D_rings (fc D_end_time (fc D_need_script (fc D_need_index (fc D_rings_in (fc D_rows_of (fc D_worth (fc D_need_pendulum (fc D_marks_of (fc D_below (fc D_whole_rows (fc D_joined (fc D_all_answers (fc D_ratios_of (fc D_course (fc D_is_whole (fc D_need_ratios (fc D_parts (fc D_need_periods (fc D_led (fc D_lowest (fc D_are_alike (fc D_need_two (fc D_simplest (fc D_all_rows (fc D_is_script (fc D_minus (fc D_zero_within (fc D_times (fc D_sign_of (fc D_pieces_between (fc D_is_ratio (fc D_is_periods (fc D_first_stand (fc D_behind_step (fc D_divisor (fc D_less (fc D_merged (fc D_cuts_of (fc D_piece_over (fc D_rows_between (fc D_told_at (fc D_is_step (fc D_stepped (fc D_single (fc D_passed (fc D_behind_go (fc D_first_both (fc D_ticked (fc D_waited (fc D_plus (fc D_put (fc D_ends_of (fc D_ticks_up_to fn))))))))))))))))))))))))))))))))))))))))))))))))))))))))))))))))))))))))))
theorem gl_G : ∀ p ∈ gl, (gl0[p.1]?).map (·.2) = some p.2.2 := (fc rfl (fc rfl (fc rfl (fc rfl (fc rfl fn)))))
theorem its_ok : (its.all fun p => okSs (fun f => (lkN its f).isSome) (fun n => (lkN gl n).isSome) p.2.d.body) = true := by kernel_rfl
theorem law_same (k f : Nat) (h : (lkN its f).isSome = true) : run (txOf its gl la0) k f = run tx0 k f := by
  refine run_same (T := txOf its gl la0) (M := tx0) (R := fun f => (lkN its f).isSome) (C := fun n => (lkN gl n).isSome) (fun f hf => ?_) (fun n hn => ?_) rfl (fun f d hf hd => ?_) k f h
  · obtain ⟨it, e⟩ := Option.isSome_iff_exists.mp hf
    show (lkN its f).map (·.d) = dT0.get f
    rw [e, its_D (f, it) (lkN_mem e)]
    rfl
  · obtain ⟨p, e⟩ := Option.isSome_iff_exists.mp hn
    show (lkN gl n).map (·.2) = (gl0[n]?).map (·.2)
    rw [e, gl_G (n, p) (lkN_mem e)]
    rfl
  · obtain ⟨it, e⟩ := Option.isSome_iff_exists.mp hf
    have hd : (lkN its f).map (·.d) = some d := hd
    rw [e] at hd
    cases hd
    exact List.all_eq_true.mp its_ok (f, it) (lkN_mem e)
end TB
set_option maxHeartbeats 0
namespace TB
open PySem PySem.Spec PyProof.Rows L2
abbrev R0 : PySem.W.OpenRow := PySem.W.OpenLaw.row PySem.Challenge.rw_tickbetween_k21_whole_written_by_hand
def xs0 : List Str := ([PySem.Str.ofString "law", PySem.Str.ofString "_law_vat", PySem.Str.ofString "_law_ratio", PySem.Str.ofString "_law_forms_right", PySem.Str.ofString "_law_answers_right", PySem.Str.ofString "_law_counts_right", PySem.Str.ofString "_law_reduced", PySem.Str.ofString "_law_under"] : List PySem.Str) ++ ([PySem.Str.ofString "_law_known", PySem.Str.ofString "ring_jumps", PySem.Str.ofString "swing_bounds", PySem.Str.ofString "ring_forms", PySem.Str.ofString "swings", PySem.Str.ofString "answered", PySem.Str.ofString "ratios_for", PySem.Str.ofString "keeps_apart"] : List PySem.Str) ++ ([PySem.Str.ofString "answers", PySem.Str.ofString "coarsest", PySem.Str.ofString "needless", PySem.Str.ofString "parting", PySem.Str.ofString "rings", PySem.Str.ofString "end_time", PySem.Str.ofString "need_script", PySem.Str.ofString "need_index"] : List PySem.Str) ++ ([PySem.Str.ofString "rings_in", PySem.Str.ofString "rows_of", PySem.Str.ofString "worth", PySem.Str.ofString "need_pendulum", PySem.Str.ofString "marks_of", PySem.Str.ofString "below", PySem.Str.ofString "whole_rows", PySem.Str.ofString "joined"] : List PySem.Str) ++ ([PySem.Str.ofString "all_answers", PySem.Str.ofString "ratios_of", PySem.Str.ofString "course", PySem.Str.ofString "is_whole", PySem.Str.ofString "need_ratios", PySem.Str.ofString "parts", PySem.Str.ofString "need_periods", PySem.Str.ofString "led"] : List PySem.Str) ++ ([PySem.Str.ofString "lowest", PySem.Str.ofString "are_alike", PySem.Str.ofString "need_two", PySem.Str.ofString "simplest", PySem.Str.ofString "all_rows", PySem.Str.ofString "is_script", PySem.Str.ofString "minus", PySem.Str.ofString "zero_within"] : List PySem.Str) ++ ([PySem.Str.ofString "times", PySem.Str.ofString "sign_of", PySem.Str.ofString "pieces_between", PySem.Str.ofString "is_ratio", PySem.Str.ofString "is_periods", PySem.Str.ofString "first_stand", PySem.Str.ofString "behind_step", PySem.Str.ofString "divisor"] : List PySem.Str) ++ ([PySem.Str.ofString "less", PySem.Str.ofString "merged", PySem.Str.ofString "cuts_of", PySem.Str.ofString "piece_over", PySem.Str.ofString "rows_between", PySem.Str.ofString "told_at", PySem.Str.ofString "is_step", PySem.Str.ofString "stepped"] : List PySem.Str) ++ ([PySem.Str.ofString "single", PySem.Str.ofString "passed", PySem.Str.ofString "behind_go", PySem.Str.ofString "first_both", PySem.Str.ofString "ticked", PySem.Str.ofString "waited", PySem.Str.ofString "plus", PySem.Str.ofString "put"] : List PySem.Str) ++ ([PySem.Str.ofString "ends_of", PySem.Str.ofString "ticks_up_to", PySem.Str.ofString "UNITS", PySem.Str.ofString "LOWEST", PySem.Str.ofString "HIGHEST", PySem.Str.ofString "MOST", PySem.Str.ofString "LONGEST", PySem.Str.ofString "InvalidAnswers"] : List PySem.Str) ++ ([PySem.Str.ofString "InvalidIndex", PySem.Str.ofString "InvalidPendulum", PySem.Str.ofString "InvalidPeriods", PySem.Str.ofString "InvalidRatios", PySem.Str.ofString "InvalidScript"] : List PySem.Str)
def fnL : List He.DefD := its.map fun it => dfOf prg.main.body it.2
abbrev hk0 : PySem.W.Hook := hookT 3 xs0 (fun K => chk0 cls (its.map fun it => defName (stAt prg.main.body it.2)) gl K && true) fnL
def ob0 (s : PySem.W.SharedT) : He.AlD := obsT 3 xs0 (fun K => chk0 cls (its.map fun it => defName (stAt prg.main.body it.2)) gl K && true) fnL (HandSHeadRun.getT s)
theorem ob0_eq (s : PySem.W.SharedT) : ob0 s = hk0.obs s.abs := obsT_eq (HandSHeadRun.getT_eq s)
def loose0 : List PySem.Str := ([PySem.Str.ofString "BeatError", PySem.Str.ofString "InvalidScript", PySem.Str.ofString "InvalidPeriods", PySem.Str.ofString "InvalidIndex", PySem.Str.ofString "InvalidPendulum", PySem.Str.ofString "InvalidAnswers", PySem.Str.ofString "InvalidRatios", PySem.Str.ofString "LONGEST"] : List PySem.Str) ++ ([PySem.Str.ofString "LOWEST", PySem.Str.ofString "HIGHEST", PySem.Str.ofString "MOST", PySem.Str.ofString "is_whole", PySem.Str.ofString "divisor", PySem.Str.ofString "lowest", PySem.Str.ofString "is_periods", PySem.Str.ofString "is_ratio"] : List PySem.Str) ++ ([PySem.Str.ofString "less", PySem.Str.ofString "is_step", PySem.Str.ofString "is_script", PySem.Str.ofString "need_script", PySem.Str.ofString "need_periods", PySem.Str.ofString "need_pendulum", PySem.Str.ofString "rings_in", PySem.Str.ofString "need_index"] : List PySem.Str) ++ ([PySem.Str.ofString "put", PySem.Str.ofString "behind_go", PySem.Str.ofString "passed", PySem.Str.ofString "ticked", PySem.Str.ofString "first_both", PySem.Str.ofString "behind_step", PySem.Str.ofString "first_stand", PySem.Str.ofString "led"] : List PySem.Str) ++ ([PySem.Str.ofString "rings", PySem.Str.ofString "answers", PySem.Str.ofString "end_time", PySem.Str.ofString "UNITS", PySem.Str.ofString "plus", PySem.Str.ofString "minus", PySem.Str.ofString "times", PySem.Str.ofString "worth"] : List PySem.Str) ++ ([PySem.Str.ofString "zero_within", PySem.Str.ofString "sign_of", PySem.Str.ofString "ticks_up_to", PySem.Str.ofString "ends_of", PySem.Str.ofString "waited", PySem.Str.ofString "stepped", PySem.Str.ofString "single", PySem.Str.ofString "pieces_between"] : List PySem.Str) ++ ([PySem.Str.ofString "course", PySem.Str.ofString "joined", PySem.Str.ofString "rows_of", PySem.Str.ofString "ring_forms", PySem.Str.ofString "ring_jumps", PySem.Str.ofString "whole_rows", PySem.Str.ofString "swings", PySem.Str.ofString "marks_of"] : List PySem.Str) ++ ([PySem.Str.ofString "below", PySem.Str.ofString "swing_bounds", PySem.Str.ofString "ratios_of", PySem.Str.ofString "all_answers", PySem.Str.ofString "answered", PySem.Str.ofString "ratios_for", PySem.Str.ofString "coarsest", PySem.Str.ofString "need_ratios"] : List PySem.Str) ++ ([PySem.Str.ofString "parts", PySem.Str.ofString "keeps_apart", PySem.Str.ofString "cuts_of", PySem.Str.ofString "merged", PySem.Str.ofString "told_at", PySem.Str.ofString "piece_over", PySem.Str.ofString "rows_between", PySem.Str.ofString "all_rows"] : List PySem.Str) ++ ([PySem.Str.ofString "are_alike", PySem.Str.ofString "simplest", PySem.Str.ofString "need_two", PySem.Str.ofString "parting", PySem.Str.ofString "needless", PySem.Str.ofString "_law_vat", PySem.Str.ofString "_law_under", PySem.Str.ofString "_law_reduced"] : List PySem.Str) ++ ([PySem.Str.ofString "_law_ratio", PySem.Str.ofString "_law_known", PySem.Str.ofString "_law_counts_right", PySem.Str.ofString "_law_forms_right", PySem.Str.ofString "_law_answers_right"] : List PySem.Str)
theorem runH (w : World) : HandSHeadRun.RunEq R0 (PySem.W.view R0.prog [94]) hk0 ob0 12000 loose0 w := by
  intro os
  kernel_rfl
end TB
set_option maxHeartbeats 0
/-! Runs: told periods. -/
namespace TB
open PySem PL
theorem r_ticked (k : Nat) {pr : P2} (hp : Per pr) (s : Sd) (x : Bool) (e : Int) : run tx0 (k + 1) f_ticked [eP pr, eSd s, eX x, .int e] none = .ret (.fro (.int (ticked (sel x pr) (sel x s.tk) e))) none := by
  rw [run0 k _ _ _ D_ticked]
  obtain ⟨h1, h2, h3, h4⟩ := sel_sm hp x
  simp only [runD, startG, d_ticked, b_ticked, eSd]
  simp
  cases h : sel x s.tk with
  | none => simp [ticked, endG, d_ticked]
  | some t =>
    by_cases q : e < t
    · simp [q, ticked, endG, d_ticked]
    · simp [q, ticked, endG, d_ticked, opB_div _ _ h1 h4]
theorem r_passed (k : Nat) {pr : P2} (hp : Per pr) (s : Sd) (e : Int) : run tx0 (k + 2) f_passed [eP pr, eSd s, .int e] none = .ret (.fro (eSd (passed pr s e))) none := by
  rw [run0 (k + 1) _ _ _ D_passed]
  have hm := hp.sm
  have h1 := hp.a0; have h2 := hp.b0
  have h3 : pr.1 < 2 ^ 100 := by have := hp.a1; omega
  have h4 : pr.2 < 2 ^ 100 := by have := hp.b1; omega
  have t0 : ∀ (o q : Option Int) (c : Option Int), run tx0 (k + 1) f_put [.tuple [eOI o, eOI q], .int 0, eOI c] none = .ret (.fro (.tuple [eOI c, eOI q])) none := fun o q c => r_put_i k o q c false
  have t1 : ∀ (o q : Option Int) (c : Option Int), run tx0 (k + 1) f_put [.tuple [eOI o, eOI q], .int 1, eOI c] none = .ret (.fro (.tuple [eOI o, eOI c])) none := fun o q c => r_put_i k o q c true
  simp only [runD, startG, d_passed, b_passed, eSd]
  simp [ex_for, evi, items, l1_passed]
  obtain ⟨tm, ⟨o, q⟩, told, heard⟩ := s
  have step0 : ∀ t : Int, (some t = o) → t ≤ e → run tx0 (k + 1) f_put [.tuple [.int t, eOI q], .int 0, .int (t + ((e - t) / pr.1 + 1) * pr.1)] none = .ret (.fro (.tuple [.int (t + ((e - t) / pr.1 + 1) * pr.1), eOI q])) none := fun t _ _ => t0 (some t) q (some _)
  have step1 : ∀ (o' : Option Int) (t : Int), run tx0 (k + 1) f_put [.tuple [eOI o', .int t], .int 1, .int (t + ((e - t) / pr.2 + 1) * pr.2)] none = .ret (.fro (.tuple [eOI o', .int (t + ((e - t) / pr.2 + 1) * pr.2)])) none := fun o' t => t1 o' (some t) (some _)
  cases o with
  | none =>
    cases q with
    | none => simp [passed, pass1, endG, d_passed]
    | some u =>
      have s1 := step1 none u
      simp only [eOI_none] at s1
      by_cases hu : u ≤ e
      · simp [hu, passed, pass1, endG, d_passed, opB_div _ _ h2 h4, hm.2, s1]
      · simp [hu, passed, pass1, endG, d_passed]
  | some t =>
    cases q with
    | none =>
      have s0 := step0 t rfl
      simp only [eOI_none] at s0
      by_cases ht : t ≤ e
      · simp [ht, passed, pass1, endG, d_passed, opB_div _ _ h1 h3, hm.1, s0]
      · simp [ht, passed, pass1, endG, d_passed]
    | some u =>
      have s0 := step0 t rfl
      simp only [eOI_some] at s0
      have s1 := step1 (some t) u
      have s2 := step1 (some (t + ((e - t) / pr.1 + 1) * pr.1)) u
      simp only [eOI_some] at s1 s2
      by_cases ht : t ≤ e
      · by_cases hu : u ≤ e
        · simp [ht, hu, passed, pass1, endG, d_passed, opB_div _ _ h1 h3, opB_div _ _ h2 h4, hm.1, hm.2, s0, s2]
        · simp [ht, hu, passed, pass1, endG, d_passed, opB_div _ _ h1 h3, hm.1, s0]
      · by_cases hu : u ≤ e
        · simp [ht, hu, passed, pass1, endG, d_passed, opB_div _ _ h2 h4, hm.2, s1]
        · simp [ht, hu, passed, pass1, endG, d_passed]
theorem sz : sizeLine = 16777216 := rfl
theorem opB_app1 {xs : List PyData} {d : PyData} (h : xs.length < 1000) : opB .add (.tuple xs) (.tuple [d]) = some (.fro (.tuple (xs ++ [d]))) := opB_tup (by rw [sz]; simp; omega)
theorem opB_app0 {xs : List PyData} (h : xs.length < 1000) : opB .add (.tuple xs) (.tuple []) = some (.fro (.tuple xs)) := by
  rw [opB_tup (by rw [sz]; simp; omega), List.append_nil]
theorem r_first_both (k : Nat) {pr : P2} (hp : Per pr) (s : Sd) (x : Bool) (n : Nat) (hn : n < 1000) (t : Int) (ht : sel x s.tk = some t) : run tx0 (k + 1) f_first_both [eP pr, eSd s, eX x, .int n] none = .ret (.fro (eP (firstBoth (sel x pr) (sel (!x) pr) t (sel (!x) s.tk) n))) none := by
  rw [run0 k _ _ _ D_first_both]
  obtain ⟨h1, h2, h3, h4⟩ := sel_sm hp x
  obtain ⟨i1, i2, i3, i4⟩ := sel_sm hp (!x)
  have E := loopF_exit (tg := .one 4) (b := fun g => exs (tx0.lk (run tx0 k) (runs tx0 k).2.2) l1_first_both g) (fun i : Nat => .int (i : Int)) (fun g => ∃ a b, isIo a = false ∧ isIo b = false ∧ g = [.val (eP pr), .val (eSd s), .val (eX x), .val (.int n), a, .val (.int t), .val (eOI (sel (!x) s.tk)), b])
    (fun i => bothAt (sel x pr) (sel (!x) pr) t (sel (!x) s.tk) i) (fun i => .fro (.tuple [.int (t + (i : Int) * sel x pr), .int 1])) (List.range n) [.val (eP pr), .val (eSd s), .val (eX x), .val (.int n), .no, .val (.int t), .val (eOI (sel (!x) s.tk)), .no] ⟨_, _, rfl, rfl, rfl⟩
    (fun i _ g ⟨a, b, ha, hb, e⟩ => by
      subst e
      refine ⟨_, by simp [ha]; rfl, [.val (eP pr), .val (eSd s), .val (eX x), .val (.int n), .val (.int i), .val (.int t), .val (eOI (sel (!x) s.tk)), .val (.int (t + (i : Int) * sel x pr))], ?_, ⟨_, _, rfl, rfl, rfl⟩⟩
      cases hy : sel (!x) s.tk with
      | none => simp [bothAt, l1_first_both, h2, hb]
      | some u =>
        by_cases q1 : u ≤ t + (i : Int) * sel x pr
        · by_cases q2 : (t + (i : Int) * sel x pr - u) % sel (!x) pr = 0
          · simp [bothAt, l1_first_both, h2, hb, q1, q2, opB_mod _ _ i1]
          · simp [bothAt, l1_first_both, h2, hb, q1, q2, opB_mod _ _ i1]
        · simp [bothAt, l1_first_both, h2, hb, q1])
  obtain ⟨g', ⟨a, b, ha, hb, e⟩, E⟩ := E
  subst e
  simp only [runD, startG, d_first_both, b_first_both, eSd] at E ⊢
  simp [ht, ex_for, evi, items, rng1_nat (show n ≤ 1000000 by omega), E]
  unfold firstBoth
  cases (List.range n).find? fun i => bothAt (sel x pr) (sel (!x) pr) t (sel (!x) s.tk) (i : Nat) with
  | none => simp [h2, endG, d_first_both]
  | some i => simp [endG, d_first_both]
end TB
set_option maxHeartbeats 0
/-! Runs: what is told of any value. -/
namespace TB
open PySem PL
/-- no dict at the top -/
def nd0 : PyData → Bool
  | .dict _ => false
  | _ => true
mutual
/-- no dict anywhere -/
def nd : PyData → Bool
  | .dict _ => false
  | .list xs => ndA xs
  | .tuple xs => ndA xs
  | _ => true
def ndA : List PyData → Bool
  | [] => true
  | x :: xs => nd x && ndA xs
end
theorem nd_nd0 {v : PyData} (h : nd v = true) : nd0 v = true := by cases v <;> simp_all [nd, nd0]
theorem ndA_mem : ∀ {xs : List PyData} {x : PyData}, ndA xs = true → x ∈ xs → nd x = true
  | y :: xs, x, h, m => by
    simp only [ndA, Bool.and_eq_true] at h
    rcases List.mem_cons.mp m with e | m
    · rw [e]; exact h.1
    · exact ndA_mem h.2 m
def isWholeD (v : PyData) (lo hi : Int) : Bool := match v with
  | .int i => decide (lo ≤ i) && decide (i ≤ hi)
  | _ => false
theorem r_is_whole (k : Nat) (v : PyData) (lo hi : Int) (h : nd0 v = true) : run tx0 (k + 1) f_is_whole [v, .int lo, .int hi] none = .ret (.fro (.bool (isWholeD v lo hi))) none := by
  rw [run0 k _ _ _ D_is_whole]
  cases v with
  | int i =>
    by_cases q : lo ≤ i
    · simp [runD, startG, d_is_whole, b_is_whole, endG, isiD, isWholeD, q]
    · simp [runD, startG, d_is_whole, b_is_whole, endG, isiD, isWholeD, q]
  | dict _ => cases h
  | _ => simp [runD, startG, d_is_whole, b_is_whole, endG, isiD, isWholeD]
def isTup : PyData → Bool
  | .tuple _ => true
  | _ => false
theorem isi_tup {v : PyData} (h : nd0 v = true) : isiD .tuple v = some (isTup v) := by
  cases v <;> first | rfl | cases h
def isStr : PyData → Bool
  | .str _ => true
  | _ => false
theorem isi_str {v : PyData} (h : nd0 v = true) : isiD .str v = some (isStr v) := by
  cases v <;> first | rfl | cases h
def isPeriodsD : PyData → Bool
  | .tuple [.int a, .int b] => decide (1 ≤ a) && decide (a ≤ 10 ^ 12) && (decide (1 ≤ b) && decide (b ≤ 10 ^ 12)) && (decide (a < 5 * b) && decide (b < 5 * a))
  | _ => false
@[simp] theorem len_t (xs : List PyData) : opF .len [.tuple xs] = some (.fro (.int xs.length)) := rfl
@[simp] theorem len_l (xs : List PyData) : opF .len [.list xs] = some (.fro (.int xs.length)) := rfl
theorem longest : (10 : Int) ^ 12 = 1000000000000 := by decide
theorem wholeD_int {v : PyData} {lo hi : Int} (h : isWholeD v lo hi = true) : ∃ i, v = .int i ∧ lo ≤ i ∧ i ≤ hi := by
  cases v with
  | int i => simp [isWholeD] at h; exact ⟨i, rfl, h.1, h.2⟩
  | _ => cases h
theorem isPeriodsD_eq (a b : PyData) : isPeriodsD (.tuple [a, b]) = (isWholeD a 1 1000000000000 && isWholeD b 1 1000000000000 && (match a, b with
    | .int i, .int j => decide (i < 5 * j) && decide (j < 5 * i)
    | _, _ => false)) := by
  cases a <;> cases b <;> simp [isPeriodsD, isWholeD, longest]
theorem r_is_periods (k : Nat) (v : PyData) (h : nd v = true) : run tx0 (k + 2) f_is_periods [v] none = .ret (.fro (.bool (isPeriodsD v))) none := by
  rw [run0 (k + 1) _ _ _ D_is_periods]
  have h0 := nd_nd0 h
  cases v with
  | dict _ => cases h
  | tuple xs =>
    match xs with
    | [] => simp [runD, startG, d_is_periods, b_is_periods, endG, isiD, isPeriodsD]
    | [a] => simp [runD, startG, d_is_periods, b_is_periods, endG, isiD, isPeriodsD]
    | [a, b] =>
      simp only [nd, ndA, Bool.and_eq_true] at h
      have na := nd_nd0 h.1
      have nb := nd_nd0 h.2.1
      rw [isPeriodsD_eq]
      cases q1 : isWholeD a 1 1000000000000 with
      | false => simp [runD, startG, d_is_periods, b_is_periods, endG, isiD, r_is_whole, na, nb, G_LONGEST, q1]
      | true =>
        cases q2 : isWholeD b 1 1000000000000 with
        | false => simp [runD, startG, d_is_periods, b_is_periods, endG, isiD, r_is_whole, na, nb, G_LONGEST, q1, q2]
        | true =>
          obtain ⟨i, rfl, i1, i2⟩ := wholeD_int q1
          obtain ⟨j, rfl, j1, j2⟩ := wholeD_int q2
          have mj : mulOk 5 j = true := mulOk_l (by unfold sm; omega)
          have mi : mulOk 5 i = true := mulOk_l (by unfold sm; omega)
          by_cases q3 : i < 5 * j
          · simp [runD, startG, d_is_periods, b_is_periods, endG, isiD, r_is_whole, na, nb, G_LONGEST, q1, q2, opB_mul, mi, mj, q3]
          · simp [runD, startG, d_is_periods, b_is_periods, endG, isiD, r_is_whole, na, nb, G_LONGEST, q1, q2, opB_mul, mi, mj, q3]
    | a :: b :: c :: l =>
      have : ¬ ((l.length : Int) + 1 + 1 + 1 = 2) := by omega
      simp [runD, startG, d_is_periods, b_is_periods, endG, isiD, isPeriodsD, this]
  | _ => simp [runD, startG, d_is_periods, b_is_periods, endG, isiD, isPeriodsD, nd0]
@[simp] theorem eqv_t (xs ys : List PyData) : PyData.eqv (.tuple xs) (.tuple ys) = PyData.eqvAll xs ys := by rw [PyData.eqv]
@[simp] theorem eqv_l (xs ys : List PyData) : PyData.eqv (.list xs) (.list ys) = PyData.eqvAll xs ys := by rw [PyData.eqv]
@[simp] theorem eqvA_nn : PyData.eqvAll [] [] = true := by rw [PyData.eqvAll]
@[simp] theorem eqvA_cn (x : PyData) (xs : List PyData) : PyData.eqvAll (x :: xs) [] = false := by rw [PyData.eqvAll]
@[simp] theorem eqvA_nc (x : PyData) (xs : List PyData) : PyData.eqvAll [] (x :: xs) = false := by rw [PyData.eqvAll]
@[simp] theorem eqvA_cc (x y : PyData) (xs ys : List PyData) : PyData.eqvAll (x :: xs) (y :: ys) = (PyData.eqv x y && PyData.eqvAll xs ys) := by rw [PyData.eqvAll]
theorem eqvA_nil (xs : List PyData) : PyData.eqvAll xs [] = xs.isEmpty := by cases xs <;> simp
theorem dep_P (p : P2) : (eP p).depth ≤ 60 := by simp [eP, PyData.depth, PyData.depthAll]
theorem eqv_P (p q : P2) : PyData.eqv (eP p) (eP q) = decide (p = q) := by
  obtain ⟨a, b⟩ := p
  obtain ⟨c, d⟩ := q
  simp [Prod.ext_iff]
@[simp] theorem opC_eqP (p q : P2) : opC .eq (eP p) (eP q) = some (decide (p = q)) := by rw [opC_eq _ _ (eqOk_l _ _ (dep_P p)), eqv_P]
@[simp] theorem opC_neP (p q : P2) : opC .ne (eP p) (eP q) = some (!decide (p = q)) := by rw [opC_ne _ _ (eqOk_l _ _ (dep_P p)), eqv_P]
@[simp] theorem opC_eqn (xs : List PyData) : opC .eq (.list xs) (.list []) = some xs.isEmpty := by
  rw [opC_eq _ _ (eqOk_r _ _ (by simp [PyData.depth, PyData.depthAll])), eqv_l, eqvA_nil]
@[simp] theorem opC_nen (xs : List PyData) : opC .ne (.list xs) (.list []) = some (!xs.isEmpty) := by
  rw [opC_ne _ _ (eqOk_r _ _ (by simp [PyData.depth, PyData.depthAll])), eqv_l, eqvA_nil]
@[simp] theorem opC_eqtn (xs : List PyData) : opC .eq (.tuple xs) (.tuple []) = some xs.isEmpty := by
  rw [opC_eq _ _ (eqOk_r _ _ (by simp [PyData.depth, PyData.depthAll])), eqv_t, eqvA_nil]
@[simp] theorem opC_netn (xs : List PyData) : opC .ne (.tuple xs) (.tuple []) = some (!xs.isEmpty) := by
  rw [opC_ne _ _ (eqOk_r _ _ (by simp [PyData.depth, PyData.depthAll])), eqv_t, eqvA_nil]
/-! ### ratios, stretches -/
def isRatioD : PyData → Bool
  | .tuple [.int a, .int b] => isPeriodsD (.tuple [.int a, .int b]) && decide (Int.gcd a b = 1)
  | _ => false
theorem periodsD_inv {v : PyData} (h : isPeriodsD v = true) : ∃ p : P2, v = eP p ∧ 1 ≤ p.1 ∧ p.1 ≤ 10 ^ 12 ∧ 1 ≤ p.2 ∧ p.2 ≤ 10 ^ 12 ∧ p.1 < 5 * p.2 ∧ p.2 < 5 * p.1 := by
  unfold isPeriodsD at h
  split at h
  · simp only [Bool.and_eq_true, decide_eq_true_eq] at h
    exact ⟨(_, _), rfl, h.1.1.1, h.1.1.2, h.1.2.1, h.1.2.2, h.2.1, h.2.2⟩
  · cases h
theorem r_is_ratio (k : Nat) (v : PyData) (h : nd v = true) : run tx0 (k + 3) f_is_ratio [v] none = .ret (.fro (.bool (isRatioD v))) none := by
  rw [run0 (k + 2) _ _ _ D_is_ratio]
  cases q : isPeriodsD v with
  | false =>
    have e : isRatioD v = false := by
      unfold isRatioD
      split
      · rw [q]; rfl
      · rfl
    simp [runD, startG, d_is_ratio, b_is_ratio, endG, r_is_periods, h, q, e]
  | true =>
    obtain ⟨p, rfl, h1, h2, h3, h4, h5, h6⟩ := periodsD_inv q
    have w : wide p.2 := by unfold wide; omega
    have e : isRatioD (eP p) = decide (Int.gcd p.1 p.2 = 1) := by
      show (isPeriodsD (eP p) && _) = _
      rw [q]; rfl
    have c : ((Int.gcd p.1 p.2 : Int) = 1) = (Int.gcd p.1 p.2 = 1) := by
      apply propext
      omega
    have h' : nd (.tuple [.int p.1, .int p.2]) = true := h
    have q' : isPeriodsD (.tuple [.int p.1, .int p.2]) = true := q
    simp [runD, startG, d_is_ratio, b_is_ratio, endG, r_is_periods, h', q', e, r_divisor, w, c]
def isPlainD : PyData → Bool
  | .tuple [a, b] => isWholeD a 1 5 && isWholeD b 1 5
  | _ => false
theorem r_is_plain_pair (k : Nat) (v : PyData) (h : nd v = true) : run tx0 (k + 2) f_is_plain_pair [v] none = .ret (.fro (.bool (isPlainD v))) none := by
  rw [run0 (k + 1) _ _ _ D_is_plain_pair]
  have h0 := nd_nd0 h
  cases v with
  | dict _ => cases h
  | tuple xs =>
    match xs with
    | [] => simp [runD, startG, d_is_plain_pair, b_is_plain_pair, endG, isiD, isPlainD]
    | [a] => simp [runD, startG, d_is_plain_pair, b_is_plain_pair, endG, isiD, isPlainD]
    | [a, b] =>
      simp only [nd, ndA, Bool.and_eq_true] at h
      have na := nd_nd0 h.1
      have nb := nd_nd0 h.2.1
      cases q1 : isWholeD a 1 5 with
      | false => simp [runD, startG, d_is_plain_pair, b_is_plain_pair, endG, isiD, isPlainD, r_is_whole, na, nb, q1]
      | true => simp [runD, startG, d_is_plain_pair, b_is_plain_pair, endG, isiD, isPlainD, r_is_whole, na, nb, q1]
    | a :: b :: c :: l =>
      have : ¬ ((l.length : Int) + 1 + 1 + 1 = 2) := by omega
      simp [runD, startG, d_is_plain_pair, b_is_plain_pair, endG, isiD, isPlainD, this]
  | _ => simp [runD, startG, d_is_plain_pair, b_is_plain_pair, endG, isiD, isPlainD]
def isEndD (v : PyData) (b : P2) : Bool := isRatioD v || isPlainD v && (match v with
  | .tuple [.int i, .int j] => decide ((i, j) = b)
  | _ => false)
theorem plainD_inv {v : PyData} (h : isPlainD v = true) : ∃ p : P2, v = eP p ∧ 1 ≤ p.1 ∧ p.1 ≤ 5 ∧ 1 ≤ p.2 ∧ p.2 ≤ 5 := by
  unfold isPlainD at h
  split at h
  · simp only [Bool.and_eq_true] at h
    obtain ⟨i, rfl, i1, i2⟩ := wholeD_int h.1
    obtain ⟨j, rfl, j1, j2⟩ := wholeD_int h.2
    exact ⟨(i, j), rfl, i1, i2, j1, j2⟩
  · cases h
theorem r_is_end (k : Nat) (v : PyData) (b : P2) (h : nd v = true) : run tx0 (k + 4) f_is_end [v, eP b] none = .ret (.fro (.bool (isEndD v b))) none := by
  rw [run0 (k + 3) _ _ _ D_is_end]
  unfold isEndD
  cases q : isRatioD v with
  | true => simp [runD, startG, d_is_end, b_is_end, endG, r_is_ratio, h, q]
  | false =>
    cases q2 : isPlainD v with
    | false => simp [runD, startG, d_is_end, b_is_end, endG, r_is_ratio, r_is_plain_pair, h, q, q2]
    | true =>
      obtain ⟨p, rfl, _⟩ := plainD_inv q2
      simp [runD, startG, d_is_end, b_is_end, endG, r_is_ratio, r_is_plain_pair, h, q, q2]
end TB
set_option maxHeartbeats 0
/-! Runs: steps and scripts. -/
namespace TB
open PySem PL
theorem str_comm (a b : Str) : (a == b) = (b == a) := by
  rw [Bool.eq_iff_iff, beq_iff_eq, beq_iff_eq]
  exact eq_comm
theorem emp (l : List PyData) : decide (l = []) = l.isEmpty := by cases l <;> rfl
def isStepD : PyData → Bool
  | .tuple (.str w :: l) => if w == sRing then l.isEmpty else
      match l with
      | [] => false
      | x :: l => isWholeD x 0 1 && (if w == sGo || w == sStop then l.isEmpty else
        (w == sWait || w == sCount || w == sBoth) && (match l with
          | [n] => isWholeD n 1 4
          | _ => false))
  | _ => false
theorem r_is_step (k : Nat) (v : PyData) (h : nd v = true) : run tx0 (k + 2) f_is_step [v] none = .ret (.fro (.bool (isStepD v))) none := by
  rw [run0 (k + 1) _ _ _ D_is_step]
  cases v with
  | dict _ => cases h
  | tuple xs =>
    match xs with
    | [] => simp [runD, startG, d_is_step, b_is_step, endG, isiD, isStepD]
    | a :: l =>
      simp only [nd, ndA, Bool.and_eq_true] at h
      cases a with
      | dict _ => cases h.1
      | str w =>
        cases q : w == sRing with
        | true =>
          have e : ((l.length : Int) + 1 = 1) = (l.isEmpty = true) := by
            cases l <;> simp <;> omega
          simp [runD, startG, d_is_step, b_is_step, endG, isiD, isStepD, q, e, emp]
        | false =>
          match l with
          | [] => simp [runD, startG, d_is_step, b_is_step, endG, isiD, isStepD, q]
          | x :: l =>
            simp only [ndA, Bool.and_eq_true] at h
            have nx := nd_nd0 h.2.1
            have lt : ¬ ((l.length : Int) + 1 + 1 < 2) := by omega
            cases q1 : isWholeD x 0 1 with
            | false => simp [runD, startG, d_is_step, b_is_step, endG, isiD, isStepD, q, q1, r_is_whole, nx, lt]
            | true =>
              have e : ((l.length : Int) + 1 + 1 = 2) = (l.isEmpty = true) := by
                cases l <;> simp <;> omega
              cases q2 : w == sGo with
              | true =>
                have q2' : (sGo == w) = true := by rw [str_comm]; exact q2
                simp [runD, startG, d_is_step, b_is_step, endG, isiD, isStepD, q, q1, r_is_whole, nx, lt, q2, q2', e, emp]
              | false =>
                have q2' : (sGo == w) = false := by rw [str_comm]; exact q2
                cases q3 : w == sStop with
                | true =>
                  have q3' : (sStop == w) = true := by rw [str_comm]; exact q3
                  simp [runD, startG, d_is_step, b_is_step, endG, isiD, isStepD, q, q1, r_is_whole, nx, lt, q2, q2', q3, q3', e, emp]
                | false =>
                  have q3' : (sStop == w) = false := by rw [str_comm]; exact q3
                  have c1 := str_comm sWait w
                  have c2 := str_comm sCount w
                  have c3 := str_comm sBoth w
                  cases q4 : (w == sWait || (w == sCount || w == sBoth)) with
                  | false =>
                    have q4' : (w == sWait || w == sCount || w == sBoth) = false := by rw [Bool.or_assoc]; exact q4
                    simp only [Bool.or_eq_false_iff] at q4
                    simp [runD, startG, d_is_step, b_is_step, endG, isiD, isStepD, q, q1, r_is_whole, nx, lt, q2, q2', q3, q3', e, emp, c1, c2, c3, q4.1, q4.2.1, q4.2.2]
                  | true =>
                    have q4' : (w == sWait || w == sCount || w == sBoth) = true := by rw [Bool.or_assoc]; exact q4
                    match l with
                    | [] => simp [runD, startG, d_is_step, b_is_step, endG, isiD, isStepD, q, q1, r_is_whole, nx, lt, q2, q2', q3, q3', c1, c2, c3, q4, q4', -Bool.or_eq_true, -beq_iff_eq, -beq_eq_false_iff_ne]
                    | [n] =>
                      simp only [ndA, Bool.and_eq_true] at h
                      have nn := nd_nd0 h.2.2.1
                      cases q5 : isWholeD n 1 4 <;> simp [runD, startG, d_is_step, b_is_step, endG, isiD, isStepD, q, q1, r_is_whole, nx, lt, q2, q2', q3, q3', c1, c2, c3, q4, q4', -Bool.or_eq_true, -beq_iff_eq, -beq_eq_false_iff_ne, nn, q5]
                    | n :: m :: l =>
                      have e3 : ¬ ((l.length : Int) + 1 + 1 + 1 + 1 = 3) := by omega
                      have e2 : ¬ ((l.length : Int) + 1 + 1 + 1 + 1 < 2) := by omega
                      simp [runD, startG, d_is_step, b_is_step, endG, isiD, isStepD, q, q1, r_is_whole, nx, lt, q2, q2', q3, q3', c1, c2, c3, q4, q4', -Bool.or_eq_true, -beq_iff_eq, -beq_eq_false_iff_ne, e3, e2]
      | _ => simp [runD, startG, d_is_step, b_is_step, endG, isiD, isStepD]
  | _ => simp [runD, startG, d_is_step, b_is_step, endG, isiD, isStepD]
def isScriptD : PyData → Bool
  | .tuple xs => decide (xs.length ≤ 8) && xs.all isStepD
  | _ => false
theorem flt_emp (xs : List PyData) : (xs.filter fun a => !isStepD a).isEmpty = xs.all isStepD := by
  induction xs with
  | nil => rfl
  | cons x xs ih => cases h : isStepD x <;> simp [h, ih]
theorem r_is_script (k : Nat) (v : PyData) (h : nd v = true) : run tx0 (k + 3) f_is_script [v] none = .ret (.fro (.bool (isScriptD v))) none := by
  rw [run0 (k + 2) _ _ _ D_is_script]
  cases v with
  | dict _ => cases h
  | tuple xs =>
    simp only [nd] at h
    have E : ev (tx0.lk (run tx0 (k + 2)) (runs tx0 (k + 2)).2.2) (.lc (.loc 0) (.one 1) [1] q1_is_script e1_is_script) [.val (.tuple xs), .no] = .ok (.own ((xs.filter fun a => !isStepD a).map id)) [.val (.tuple xs), .no] :=
      ev_lcN (g0 := [.val (.tuple xs), .no]) id xs _ id (fun a => [.val (.tuple xs), .val a]) (.fro (.tuple xs)) (by simp) (by simp [items]) (by simp [wipeOk]) (by simp [wipeG]) (by simp [unwipe])
        (fun a ha => ⟨by simp, by simp [wipeG], by simp [condOf, q1_is_script, r_is_step, ndA_mem h ha], fun _ => ⟨_, by simp [e1_is_script]; rfl, rfl⟩⟩)
    by_cases q : (xs.length : Int) ≤ 8
    · have q' : xs.length ≤ 8 := by omega
      simp [runD, startG, d_is_script, b_is_script, endG, isiD, isScriptD, G_MOST, q, q', E]
      rw [flt_emp]
    · have q' : ¬ xs.length ≤ 8 := by omega
      simp [runD, startG, d_is_script, b_is_script, endG, isiD, isScriptD, G_MOST, q, q']
  | _ => simp [runD, startG, d_is_script, b_is_script, endG, isiD, isScriptD]
abbrev xScript : Str := ⟨#[73, 110, 118, 97, 108, 105, 100, 83, 99, 114, 105, 112, 116]⟩
abbrev xPeriods : Str := ⟨#[73, 110, 118, 97, 108, 105, 100, 80, 101, 114, 105, 111, 100, 115]⟩
theorem r_need_script (k : Nat) (v : PyData) (h : nd v = true) : run tx0 (k + 4) f_need_script [v] none = if isScriptD v then .ret (.fro .none) none else .exc ⟨xScript, none⟩ := by
  rw [run0 (k + 3) _ _ _ D_need_script]
  cases q : isScriptD v <;> simp [runD, startG, d_need_script, b_need_script, endG, r_is_script, h, q]
theorem r_need_periods (k : Nat) (v : PyData) (h : nd v = true) : run tx0 (k + 3) f_need_periods [v] none = if isPeriodsD v then .ret (.fro .none) none else .exc ⟨xPeriods, none⟩ := by
  rw [run0 (k + 2) _ _ _ D_need_periods]
  cases q : isPeriodsD v <;> simp [runD, startG, d_need_periods, b_need_periods, endG, r_is_periods, h, q]
abbrev xPendulum : Str := ⟨#[73, 110, 118, 97, 108, 105, 100, 80, 101, 110, 100, 117, 108, 117, 109]⟩
abbrev xIndex : Str := ⟨#[73, 110, 118, 97, 108, 105, 100, 73, 110, 100, 101, 120]⟩
theorem r_need_pendulum (k : Nat) (v : PyData) (h : nd v = true) : run tx0 (k + 2) f_need_pendulum [v] none = if isWholeD v 0 1 then .ret (.fro .none) none else .exc ⟨xPendulum, none⟩ := by
  rw [run0 (k + 1) _ _ _ D_need_pendulum]
  cases q : isWholeD v 0 1 <;> simp [runD, startG, d_need_pendulum, b_need_pendulum, endG, r_is_whole, nd_nd0 h, q]
theorem r_need_index (k : Nat) (v : PyData) (n : Int) (h : nd v = true) : run tx0 (k + 2) f_need_index [v, .int n] none = if isWholeD v 0 (n - 1) then .ret (.fro .none) none else .exc ⟨xIndex, none⟩ := by
  rw [run0 (k + 1) _ _ _ D_need_index]
  cases q : isWholeD v 0 (n - 1) <;> simp [runD, startG, d_need_index, b_need_index, endG, r_is_whole, nd_nd0 h, q]
/-! ### typed scripts -/
theorem whole_x (x : Bool) : isWholeD (eX x) 0 1 = true := by cases x <;> rfl
theorem isStepD_e (s : St) : isStepD (eSt s) = s.ok := by
  cases s with
  | ring => simp [eSt, isStepD, St.ok]
  | go x => cases x <;> simp [eSt, isStepD, St.ok, eX, b2i, isWholeD]
  | stop x => cases x <;> simp [eSt, isStepD, St.ok, eX, b2i, isWholeD]
  | act w x n =>
    have e : (isWholeD (.int n) 1 4) = (decide (1 ≤ n) && decide (n ≤ 4)) := by
      have a1 : ((1 : Int) ≤ n) = (1 ≤ n) := by apply propext; omega
      have a2 : ((n : Int) ≤ 4) = (n ≤ 4) := by apply propext; omega
      simp only [isWholeD, a1, a2]
    have e0 : ∀ x : Bool, isWholeD (.int (b2i x)) 0 1 = true := whole_x
    cases w <;> simp [eSt, isStepD, St.ok, e, e0, W.isWait, W.isCount, W.isBoth]
theorem isScriptD_e (s : Sc) : isScriptD (eSc s) = scOk s := by
  simp only [isScriptD, eSc, scOk, List.length_map, List.all_map]
  congr 1
  induction s with
  | nil => rfl
  | cons a s ih => simp [isStepD_e, ih]
theorem nd_int (i : Int) : nd (.int i) = true := by simp [nd]
theorem nd_St (s : St) : nd (eSt s) = true := by
  cases s <;> simp [eSt, nd, ndA]
theorem nd_map {α : Type} {f : α → PyData} (h : ∀ a, nd (f a) = true) (l : List α) : ndA (l.map f) = true := by
  induction l with
  | nil => simp [ndA]
  | cons a l ih => simp [ndA, h, ih]
theorem nd_Sc (s : Sc) : nd (eSc s) = true := by
  simp only [eSc, nd]
  exact nd_map nd_St s
theorem nd_P (p : P2) : nd (eP p) = true := by simp [eP, nd, ndA]
/-- what the periods of the program are -/
structure PerOk (p : P2) : Prop where
  a1 : 1 ≤ p.1
  a2 : p.1 ≤ 10 ^ 12
  b1 : 1 ≤ p.2
  b2 : p.2 ≤ 10 ^ 12
  l : p.1 < 5 * p.2
  g : p.2 < 5 * p.1
theorem PerOk.per {p : P2} (h : PerOk p) : Per p := by
  obtain ⟨a1, a2, b1, b2, l, g⟩ := h
  exact ⟨by omega, by omega, by omega, by omega⟩
theorem PerOk.is {p : P2} (h : PerOk p) : isPeriodsD (eP p) = true := by
  obtain ⟨a1, a2, b1, b2, l, g⟩ := h
  simp [isPeriodsD, a1, a2, b1, b2, l, g]
  omega
theorem PerOk.of {p : P2} (h : isPeriodsD (eP p) = true) : PerOk p := by
  obtain ⟨q, e, h1, h2, h3, h4, h5, h6⟩ := periodsD_inv h
  have : p = q := by
    simp [eP] at e
    exact Prod.ext e.1 e.2
  subst this
  exact ⟨h1, h2, h3, h4, h5, h6⟩
end TB
set_option maxHeartbeats 0
/-! Runs: scripts at told periods. -/
namespace TB
open PySem PL
/-- not too long -/
structure Shrt (s : Sd) (n : Nat) : Prop where
  t : s.told.length ≤ n
  h : s.heard.length ≤ n
theorem r_behind_step (k : Nat) {pr : P2} (hp : Per pr) (s : Sd) (c : St) (hc : c.ok = true) {n : Nat} (hs : Shrt s n) (hn : n < 900) : run tx0 (k + 3) f_behind_step [eP pr, eSd s, eSt c] none = .ret (.fro (eSd (stepS pr s c))) none := by
  rw [run0 (k + 2) _ _ _ D_behind_step]
  have l1 : s.told.length < 1000 := by have := hs.t; omega
  have l2 : s.heard.length < 1000 := by have := hs.h; omega
  cases c with
  | ring => simp [runD, startG, d_behind_step, b_behind_step, endG, eSd, eSt, stepS, eIs, opB_app1, l2]
  | go x =>
    have h := r_behind_go k pr s x
    simp only [eSd] at h
    simp [runD, startG, d_behind_step, b_behind_step, endG, eSd, eSt, stepS, h]
  | stop x =>
    have h := r_behind_stop k pr s x
    simp only [eSd] at h
    simp [runD, startG, d_behind_step, b_behind_step, endG, eSd, eSt, stepS, h]
  | act w x m =>
    simp only [St.ok, Bool.and_eq_true, decide_eq_true_eq] at hc
    obtain ⟨p1, p2, p3, p4⟩ := sel_sm hp x
    cases hx : sel x s.tk with
    | none =>
      cases w with
      | wait => simp [runD, startG, d_behind_step, b_behind_step, endG, eSd, eSt, stepS, hx, W.isWait, W.isCount, W.isBoth]
      | count => simp [runD, startG, d_behind_step, b_behind_step, endG, eSd, eSt, stepS, hx, W.isWait, W.isCount, W.isBoth, eIs, opB_app1, l1]
      | both => simp [runD, startG, d_behind_step, b_behind_step, endG, eSd, eSt, stepS, hx, W.isWait, W.isCount, W.isBoth, eIs, opB_app1, l1]
    | some t =>
      cases w with
      | wait =>
        have h := r_passed k hp s (t + ((m : Int) - 1) * sel x pr)
        simp only [eSd, eIs] at h
        simp [runD, startG, d_behind_step, b_behind_step, endG, eSd, eSt, stepS, hx, W.isWait, W.isCount, W.isBoth, eIs, opB_app0, l1, p2, h]
      | count =>
        have h0 := r_ticked (k + 1) hp s (!x) (t + ((m : Int) - 1) * sel x pr)
        have h := r_passed k hp ⟨s.time, s.tk, s.told ++ [ticked (sel (!x) pr) (sel (!x) s.tk) (t + ((m : Int) - 1) * sel x pr)], s.heard⟩ (t + ((m : Int) - 1) * sel x pr)
        simp only [eSd, eIs, List.map_append, List.map_cons, List.map_nil] at h h0
        simp [runD, startG, d_behind_step, b_behind_step, endG, eSd, eSt, stepS, hx, W.isWait, W.isCount, W.isBoth, eIs, opB_app1, l1, p2, h, h0]
      | both =>
        have h0 := r_first_both (k + 1) hp s x m (by omega) t hx
        have h := r_passed k hp ⟨s.time, s.tk, s.told ++ [(firstBoth (sel x pr) (sel (!x) pr) t (sel (!x) s.tk) m).2], s.heard⟩ (firstBoth (sel x pr) (sel (!x) pr) t (sel (!x) s.tk) m).1
        simp only [eSd, eIs, List.map_append, List.map_cons, List.map_nil] at h h0
        simp [runD, startG, d_behind_step, b_behind_step, endG, eSd, eSt, stepS, hx, W.isWait, W.isCount, W.isBoth, eIs, opB_app1, l1, p2, h, h0]
theorem step_len (pr : P2) (s : Sd) (c : St) {n : Nat} (h : Shrt s n) : Shrt (stepS pr s c) (n + 1) := by
  obtain ⟨h1, h2⟩ := h
  cases c with
  | ring => exact ⟨by simp [stepS]; omega, by simp [stepS]; omega⟩
  | go x => exact ⟨by simp [stepS]; omega, by simp [stepS]; omega⟩
  | stop x => exact ⟨by simp [stepS]; omega, by simp [stepS]; omega⟩
  | act w x m =>
    simp only [stepS]
    cases sel x s.tk with
    | none => cases w <;> exact ⟨by simp; omega, by simp; omega⟩
    | some t => cases w <;> exact ⟨by simp [passed]; omega, by simp [passed]; omega⟩
theorem r_first (k : Nat) (pr : P2) : run tx0 (k + 1) f_first_stand [eP pr] none = .ret (.fro (eSd (first pr))) none := by
  rw [run0 k _ _ _ D_first_stand]
  simp [runD, startG, d_first_stand, b_first_stand, endG, eSd, first, eIs]
theorem led_shrt (pr : P2) : ∀ (sc : Sc) (s : Sd) (n : Nat), Shrt s n → Shrt (ledF pr sc s) (n + sc.length)
  | [], s, n, h => h
  | c :: sc, s, n, h => by
    have := led_shrt pr sc (stepS pr s c) (n + 1) (step_len pr s c h)
    simp only [List.length_cons]
    rw [show n + (sc.length + 1) = n + 1 + sc.length by omega]
    exact this
theorem r_led (k : Nat) {pr : P2} (hp : Per pr) (sc : Sc) (hs : scOk sc = true) : run tx0 (k + 4) f_led [eSc sc, eP pr] none = .ret (.fro (eSd (led sc pr))) none := by
  rw [run0 (k + 3) _ _ _ D_led]
  simp only [scOk, Bool.and_eq_true, decide_eq_true_eq, List.all_eq_true] at hs
  have E : ∀ (l : Sc) (s : Sd) (n : Nat) (a : Sl), Shrt s n → n + l.length ≤ 800 → (∀ c ∈ l, c.ok = true) → isIo a = false → ∃ b, loopF (.one 3) (fun g => exs (tx0.lk (run tx0 (k + 3)) (runs tx0 (k + 3)).2.2) l1_led g) (l.map eSt) [.val (eSc sc), .val (eP pr), .val (eSd s), a] = .nx [.val (eSc sc), .val (eP pr), .val (eSd (ledF pr l s)), b] := by
    intro l
    induction l with
    | nil => exact fun s n a _ _ _ _ => ⟨a, rfl⟩
    | cons c l ih =>
      intro s n a h1 h2 h3 h4
      simp only [List.length_cons] at h2
      obtain ⟨b, hb⟩ := ih (stepS pr s c) (n + 1) (.val (eSt c)) (step_len pr s c h1) (by omega) (fun y hy => h3 y (List.mem_cons_of_mem _ hy)) rfl
      refine ⟨b, ?_⟩
      have T : exs (tx0.lk (run tx0 (k + 3)) (runs tx0 (k + 3)).2.2) l1_led [.val (eSc sc), .val (eP pr), .val (eSd s), .val (eSt c)] = .nx [.val (eSc sc), .val (eP pr), .val (eSd (stepS pr s c)), .val (eSt c)] := by
        simp [l1_led, r_behind_step k hp s c (h3 c (List.mem_cons_self ..)) h1 (by omega)]
      rw [List.map_cons, loopF_cons]
      simp [h4, T]
      exact hb
  obtain ⟨b, E⟩ := E sc (first pr) 0 .no ⟨Nat.le_refl _, Nat.le_refl _⟩ (by omega) hs.2 rfl
  simp only [eSc] at E
  simp [runD, startG, d_led, b_led, endG, r_first, ex_for, evi, items, eSc, E]
  rfl
theorem scOk_is {sc : Sc} (h : scOk sc = true) : isScriptD (eSc sc) = true := by rw [isScriptD_e, h]
theorem r_rings (k : Nat) {pr : P2} (hp : PerOk pr) (sc : Sc) (hs : scOk sc = true) : run tx0 (k + 5) f_rings [eSc sc, eP pr] none = .ret (.own ((led sc pr).heard.map .int)) none := by
  rw [run0 (k + 4) _ _ _ D_rings]
  have h1 := r_need_script k (eSc sc) (nd_Sc sc)
  have h2 := r_need_periods (k + 1) (eP pr) (nd_P pr)
  rw [scOk_is hs] at h1
  rw [hp.is] at h2
  have h3 := r_led k hp.per sc hs
  simp only [eSd, eIs] at h3
  simp [runD, startG, d_rings, b_rings, endG, h1, h2, h3, opF]
theorem r_answers (k : Nat) {pr : P2} (hp : PerOk pr) (sc : Sc) (hs : scOk sc = true) : run tx0 (k + 5) f_answers [eSc sc, eP pr] none = .ret (.fro (eIs (led sc pr).told)) none := by
  rw [run0 (k + 4) _ _ _ D_answers]
  have h1 := r_need_script k (eSc sc) (nd_Sc sc)
  have h2 := r_need_periods (k + 1) (eP pr) (nd_P pr)
  rw [scOk_is hs] at h1
  rw [hp.is] at h2
  have h3 := r_led k hp.per sc hs
  simp only [eSd, eIs] at h3
  simp [runD, startG, d_answers, b_answers, endG, h1, h2, h3, eIs]
theorem r_end_time (k : Nat) {pr : P2} (hp : PerOk pr) (sc : Sc) (hs : scOk sc = true) : run tx0 (k + 5) f_end_time [eSc sc, eP pr] none = .ret (.fro (.int (led sc pr).time)) none := by
  rw [run0 (k + 4) _ _ _ D_end_time]
  have h1 := r_need_script k (eSc sc) (nd_Sc sc)
  have h2 := r_need_periods (k + 1) (eP pr) (nd_P pr)
  rw [scOk_is hs] at h1
  rw [hp.is] at h2
  have h3 := r_led k hp.per sc hs
  simp only [eSd, eIs] at h3
  simp [runD, startG, d_end_time, b_end_time, endG, h1, h2, h3]
end TB
/-! Bounds of forms. -/
namespace PL
/-- a form not too great -/
structure Fb (N : Int) (f : P2) : Prop where
  a0 : -N ≤ f.1
  a1 : f.1 ≤ N
  b0 : -N ≤ f.2
  b1 : f.2 ≤ N
/-- numbers of a ratio, not too great -/
structure Rb (r : P2) : Prop where
  a0 : 0 < r.1
  a1 : r.1 < 2 ^ 40
  b0 : 0 < r.2
  b1 : r.2 < 2 ^ 40
theorem Fb.mono {N M : Int} {f : P2} (h : Fb N f) (l : N ≤ M) : Fb M f := ⟨by have := h.a0; omega, by have := h.a1; omega, by have := h.b0; omega, by have := h.b1; omega⟩
theorem Fb.plus {N M : Int} {f g : P2} (h : Fb N f) (q : Fb M g) : Fb (N + M) (plus f g) := by
  obtain ⟨a, b, c, d⟩ := h
  obtain ⟨a', b', c', d'⟩ := q
  exact ⟨by simp only [PL.plus]; omega, by simp only [PL.plus]; omega, by simp only [PL.plus]; omega, by simp only [PL.plus]; omega⟩
theorem Fb.minus {N M : Int} {f g : P2} (h : Fb N f) (q : Fb M g) : Fb (N + M) (minus f g) := by
  obtain ⟨a, b, c, d⟩ := h
  obtain ⟨a', b', c', d'⟩ := q
  exact ⟨by simp only [PL.minus]; omega, by simp only [PL.minus]; omega, by simp only [PL.minus]; omega, by simp only [PL.minus]; omega⟩
theorem Fb.unit (x : Bool) : Fb 1 (unit x) := by cases x <;> exact ⟨by decide, by decide, by decide, by decide⟩
theorem Fb.tm (x : Bool) (n : Nat) : Fb n (times (PL.unit x) (n : Int)) := by
  cases x <;> refine ⟨?_, ?_, ?_, ?_⟩ <;> simp [times, PL.unit]
theorem Fb.tm' (x : Bool) {n : Nat} (h : 1 ≤ n) : Fb n (times (PL.unit x) ((n : Int) - 1)) := by
  cases x <;> refine ⟨?_, ?_, ?_, ?_⟩ <;> simp [times, PL.unit] <;> omega
theorem Rb_LO : Rb LO := ⟨by decide, by decide, by decide, by decide⟩
theorem Rb_HI : Rb HI := ⟨by decide, by decide, by decide, by decide⟩
theorem lowest_pos {a b : Int} (ha : 0 < a) (hb : 0 < b) : 0 < (lowest a b).1 ∧ (lowest a b).1 ≤ a ∧ 0 < (lowest a b).2 ∧ (lowest a b).2 ≤ b := by
  have g0 : 0 < (Int.gcd a b : Int) := by
    have := Int.gcd_pos_of_ne_zero_left b (show a ≠ 0 by omega)
    omega
  have ga : (Int.gcd a b : Int) ∣ a := Int.gcd_dvd_left a b
  have gb : (Int.gcd a b : Int) ∣ b := Int.gcd_dvd_right a b
  refine ⟨Int.ediv_pos_of_pos_of_dvd ha (by omega) ga, ?_, Int.ediv_pos_of_pos_of_dvd hb (by omega) gb, ?_⟩
  · exact Int.ediv_le_self _ (by omega)
  · exact Int.ediv_le_self _ (by omega)
theorem mul_neg_ne {a b : Int} (h : ¬ a * b ≥ 0) : a ≠ 0 ∧ b ≠ 0 := by
  refine ⟨fun e => h ?_, fun e => h ?_⟩ <;> subst e <;> simp
theorem iabs_pos {a : Int} (h : a ≠ 0) : 0 < iabs a := by unfold iabs; split <;> omega
theorem zeroIn_Rb {f lo hi c : P2} {N : Int} (hf : Fb N f) (hN : N < 2 ^ 40) (h : zeroIn f lo hi = some c) : Rb c := by
  unfold zeroIn at h
  split at h
  · cases h
  · rename_i q
    obtain ⟨n1, n2⟩ := mul_neg_ne q
    obtain ⟨p1, p2, p3, p4⟩ := lowest_pos (iabs_pos n2) (iabs_pos n1)
    have i1 : iabs f.2 ≤ N := by have := hf.b0; have := hf.b1; unfold iabs; split <;> omega
    have i2 : iabs f.1 ≤ N := by have := hf.a0; have := hf.a1; unfold iabs; split <;> omega
    cases q3 : less lo (lowest (iabs f.2) (iabs f.1)) && less (lowest (iabs f.2) (iabs f.1)) hi with
    | false => rw [q3] at h; cases h
    | true =>
      rw [q3] at h
      cases h
      exact ⟨p1, by omega, p3, by omega⟩
/-- what ticks_up_to hands back is bounded -/
theorem upTo_b {lo hi u en : P2} (hu : Fb 1 u) {M : Int} (he : Fb M en) (hM : M < 2 ^ 38) : ∀ (f : Nat) (t : P2) (many : Int) (last : Option P2) (r : Up), Fb (M - f) t → upToT lo hi u en f t many last = some r → (∀ c, r.cut = some c → Rb c) ∧ (∀ t, r.later = some t → Fb M t)
  | 0, t, many, last, r, ht, h => by cases h
  | f + 1, t, many, last, r, ht, h => by
    have ht' : Fb M t := ht.mono (by omega)
    unfold upToT at h
    split at h
    · rename_i c hc
      cases h
      refine ⟨fun c' e => ?_, fun t e => (by cases e)⟩
      cases e
      exact zeroIn_Rb (he.minus ht') (by omega) hc
    · split at h
      · cases h
        exact ⟨fun c e => (by cases e), fun t' e => by cases e; exact ht'⟩
      · exact upTo_b hu he hM f (plus t u) (many + 1) _ r ((ht.plus hu).mono (by omega)) h
theorem upToO_b {lo hi u en : P2} (hu : Fb 1 u) {N : Int} (he : Fb N en) (hN : N < 2 ^ 37) {o : Option P2} (ho : ∀ t, o = some t → Fb N t) {r : Up} (h : upToO FU lo hi u en o = some r) : (∀ c, r.cut = some c → Rb c) ∧ (∀ t, r.later = some t → Fb (N + FU) t) := by
  cases o with
  | none => cases h; exact ⟨fun c e => (by cases e), fun t e => (by cases e)⟩
  | some t => exact upTo_b hu (he.mono (by omega)) (by have : (FU : Int) = 100000 := rfl; omega) FU t 0 none r ((ho t rfl).mono (by omega)) h
theorem ends_b {w : W} {x : Bool} {n : Nat} {t : P2} {N : Int} (h1 : 1 ≤ n) (h4 : n ≤ 4) (ht : Fb N t) : ∀ e ∈ ends w x n t, Fb (N + 4) e := by
  intro e he
  cases w with
  | both =>
    simp only [ends, List.mem_map, List.mem_range] at he
    obtain ⟨k, hk, rfl⟩ := he
    exact (ht.plus (Fb.tm x k)).mono (by omega)
  | wait =>
    simp only [ends, List.mem_singleton] at he
    subst he
    exact (ht.plus (Fb.tm' x h1)).mono (by omega)
  | count =>
    simp only [ends, List.mem_singleton] at he
    subst he
    exact (ht.plus (Fb.tm' x h1)).mono (by omega)
theorem ends_ne {w : W} {x : Bool} {n : Nat} {t : P2} (h1 : 1 ≤ n) : ends w x n t ≠ [] := by
  cases w <;> simp [ends]
  omega
theorem wEnds_b {fu : Nat} {lo hi u : P2} {ty : Option P2} {both : Bool} : ∀ {es : List P2} {e : P2} {r : Up}, wEnds fu lo hi u ty both es = some (e, r) → e ∈ es ∧ upToO fu lo hi u e ty = some r
  | [], e, r, h => by cases h
  | a :: es, e, r, h => by
    unfold wEnds at h
    split at h
    · cases h
    · rename_i r' hr
      split at h
      · cases h
        exact ⟨List.mem_cons_self .., hr⟩
      · split at h
        · cases h
          exact ⟨List.mem_cons_self .., hr⟩
        · split at h
          · cases h
            exact ⟨List.mem_cons_self .., hr⟩
          · have := wEnds_b h
            exact ⟨List.mem_cons_of_mem _ this.1, this.2⟩
/-- a piece not too great -/
structure Pb (N : Int) (p : Pc) : Prop where
  lo : Rb p.lo
  hi : Rb p.hi
  tm : Fb N p.time
  tk : ∀ tk, p.tk = some tk → ∀ x t, sel x tk = some t → Fb N t
  hd : ∀ f ∈ p.heard, Fb N f
theorem sel_putx {α : Type} (x y : Bool) (p : α × α) (v : α) : sel y (putx x p v) = if y = x then v else sel y p := by
  cases x <;> cases y <;> rfl
theorem waited_b {pc : Pc} {tk : Option P2 × Option P2} {w : W} {x : Bool} {n : Nat} {t : P2} {N : Int} (h1 : 1 ≤ n) (h4 : n ≤ 4) (hN : N + 10 < 2 ^ 37) (hp : Pb N pc) (hk : pc.tk = some tk) (ht : sel x tk = some t) {r : Option P2 × Pc} (h : waited FU pc tk w x n t = some r) :
    (∀ c, r.1 = some c → Rb c) ∧ (r.1 = none → Pb (N + 200000) r.2 ∧ r.2.lo = pc.lo ∧ r.2.hi = pc.hi ∧ r.2.told.length ≤ pc.told.length + 1 ∧ r.2.heard = pc.heard) := by
  unfold waited at h
  split at h
  · cases h
  · rename_i e r' he
    obtain ⟨m1, m2⟩ := wEnds_b he
    have tb : Fb N t := hp.tk tk hk x t ht
    have eb := ends_b h1 h4 tb e m1
    obtain ⟨b1, b2⟩ := upToO_b (N := N + 4) (Fb.unit (!x)) eb (by omega) (fun t' q => (hp.tk tk hk (!x) t' q).mono (by omega)) m2
    have fu : (FU : Int) = 100000 := rfl
    split at h
    · rename_i c hc
      cases h
      exact ⟨fun c' e => by cases e; exact b1 _ hc, fun e => (by cases e)⟩
    · cases h
      refine ⟨fun c e => (by cases e), fun _ => ⟨⟨hp.lo, hp.hi, eb.mono (by omega), fun tk' q y t' hy => ?_, fun f hf => (hp.hd f hf).mono (by omega)⟩, rfl, rfl, ?_, rfl⟩⟩
      · cases q
        rw [sel_putx] at hy
        split at hy
        · exact (b2 t' hy).mono (by omega)
        · rw [sel_putx] at hy
          split at hy
          · cases hy
            exact (eb.plus (Fb.unit x)).mono (by omega)
          · exact (hp.tk tk hk y t' hy).mono (by omega)
      · cases w <;> simp
theorem stepped_b {pc : Pc} {s : St} {N : Int} (hs : s.ok = true) (hN : N + 10 < 2 ^ 37) (hp : Pb N pc) {r : Option P2 × Pc} (h : stepped FU pc s = some r) :
    (∀ c, r.1 = some c → Rb c) ∧ (r.1 = none → Pb (N + 200000) r.2 ∧ r.2.lo = pc.lo ∧ r.2.hi = pc.hi ∧ r.2.told.length ≤ pc.told.length + 1 ∧ r.2.heard.length ≤ pc.heard.length + 1) := by
  have mono : Pb (N + 200000) pc := ⟨hp.lo, hp.hi, hp.tm.mono (by omega), fun tk q y t hy => (hp.tk tk q y t hy).mono (by omega), fun f hf => (hp.hd f hf).mono (by omega)⟩
  cases s with
  | ring =>
    cases h
    refine ⟨fun c e => (by cases e), fun _ => ⟨⟨mono.lo, mono.hi, mono.tm, mono.tk, fun f hf => ?_⟩, rfl, rfl, by simp, by simp⟩⟩
    simp only [List.mem_append, List.mem_singleton] at hf
    rcases hf with hf | hf
    · exact mono.hd f hf
    · subst hf; exact mono.tm
  | go x =>
    simp only [stepped] at h
    split at h
    · cases h
    · rename_i tk hk
      cases h
      refine ⟨fun c e => (by cases e), fun _ => ⟨⟨mono.lo, mono.hi, mono.tm, fun tk' q y t hy => ?_, mono.hd⟩, rfl, rfl, by simp, by simp⟩⟩
      cases q
      rw [sel_putx] at hy
      split at hy
      · cases hy; exact (hp.tm.plus (Fb.unit x)).mono (by omega)
      · exact mono.tk tk hk y t hy
  | stop x =>
    simp only [stepped] at h
    split at h
    · cases h
    · rename_i tk hk
      cases h
      refine ⟨fun c e => (by cases e), fun _ => ⟨⟨mono.lo, mono.hi, mono.tm, fun tk' q y t hy => ?_, mono.hd⟩, rfl, rfl, by simp, by simp⟩⟩
      cases q
      rw [sel_putx] at hy
      split at hy
      · cases hy
      · exact mono.tk tk hk y t hy
  | act w x n =>
    simp only [St.ok, Bool.and_eq_true, decide_eq_true_eq] at hs
    simp only [stepped] at h
    split at h
    · cases h
    · rename_i tk hk
      split at h
      · cases h
        refine ⟨fun c e => (by cases e), fun _ => ⟨⟨mono.lo, mono.hi, mono.tm, mono.tk, mono.hd⟩, rfl, rfl, ?_, by simp⟩⟩
        cases w <;> simp
      · rename_i t ht
        obtain ⟨a, b⟩ := waited_b hs.1 hs.2 hN hp hk ht h
        refine ⟨a, fun e => ?_⟩
        obtain ⟨b1, b2, b3, b4, b5⟩ := b e
        exact ⟨b1, b2, b3, b4, by rw [b5]; omega⟩
end PL
set_option maxHeartbeats 0
/-! Runs: pieces. -/
namespace TB
open PySem PL
theorem Rb_sm {r : P2} (h : Rb r) : Sm2 r := by
  have := h.a0; have := h.b0; have := h.a1; have := h.b1
  unfold Sm2 sm
  omega
theorem _root_.PL.Rb.sm {r : P2} (h : Rb r) : Sm2 r := Rb_sm h
theorem _root_.PL.Rb.per {r : P2} (h : Rb r) : Per r := by
  have := h.a0; have := h.b0; have := h.a1; have := h.b1
  exact ⟨by omega, by omega, by omega, by omega⟩
theorem opF_abs' (i : Int) : opF .abs [.int i] = some (.fro (.int (iabs i))) := rfl
theorem r_zero_within (k : Nat) {f lo hi : P2} {N : Int} (hf : Fb N f) (hN : N < 2 ^ 40) : run tx0 (k + 3) f_zero_within [eP f, eP lo, eP hi] none = .ret (.fro (eO (zeroIn f lo hi))) none := by
  rw [run0 (k + 2) _ _ _ D_zero_within]
  have m1 : mulOk f.1 f.2 = true := mulOk_l (by have := hf.a0; have := hf.a1; unfold sm; omega)
  unfold zeroIn
  by_cases q : 0 ≤ f.1 * f.2
  · rw [if_pos q]
    simp [runD, startG, d_zero_within, b_zero_within, endG, opB_mul _ _ m1, q]
  · rw [if_neg q]
    obtain ⟨n1, n2⟩ := mul_neg_ne q
    obtain ⟨p1, p2, p3, p4⟩ := lowest_pos (iabs_pos n2) (iabs_pos n1)
    have i1 : iabs f.2 ≤ N := by have := hf.b0; have := hf.b1; unfold iabs; split <;> omega
    have i2 : iabs f.1 ≤ N := by have := hf.a0; have := hf.a1; unfold iabs; split <;> omega
    have j1 := iabs_nn f.1
    have j2 := iabs_nn f.2
    have rl := r_lowest k (iabs f.2) (iabs f.1) (by unfold wide; omega) (.inl (by have := iabs_pos n2; omega)) (by omega)
    have s : Sm2 (lowest (iabs f.2) (iabs f.1)) := by unfold Sm2 sm; omega
    have l1 := r_less (k + 1) lo (lowest (iabs f.2) (iabs f.1)) (.inr s)
    have l2 := r_less (k + 1) (lowest (iabs f.2) (iabs f.1)) hi (.inl s)
    cases c1 : less lo (lowest (iabs f.2) (iabs f.1)) with
    | false => simp [runD, startG, d_zero_within, b_zero_within, endG, opB_mul _ _ m1, q, opF_abs', rl, l1, l2, c1]
    | true =>
      cases c2 : less (lowest (iabs f.2) (iabs f.1)) hi <;> simp [runD, startG, d_zero_within, b_zero_within, endG, opB_mul _ _ m1, q, opF_abs', rl, l1, l2, c1, c2]
@[simp] theorem opB_sub_bb (a b : Bool) : opB .sub (.bool a) (.bool b) = some (.fro (.int (b2i a - b2i b))) := rfl
theorem r_sign_of (k : Nat) {f lo hi : P2} (hl : Rb lo) (hh : Rb hi) : run tx0 (k + 2) f_sign_of [eP f, eP lo, eP hi] none = .ret (.fro (.int (signOf f lo hi))) none := by
  rw [run0 (k + 1) _ _ _ D_sign_of]
  simp [runD, startG, d_sign_of, b_sign_of, endG, r_worth, hl.sm, hh.sm, signOf]
def eUp (r : Up) : PyData := .tuple [eO r.cut, .int r.many, eO r.later, .bool r.here]
@[simp] theorem notN_eP (p : P2) : opC .notN (eP p) .none = some true := rfl
@[simp] theorem opC_eqO (l : Option P2) (p : P2) : opC .eq (eO l) (eP p) = some (decide (l = some p)) := by
  rw [opC_eq _ _ (eqOk_r _ _ (dep_P p))]
  cases l with
  | none => simp [PyData.eqv]
  | some q => rw [eO_some, eqv_P]; simp
theorem opI_units (x : Bool) : opI (.tuple [.tuple [.int 1, .int 0], .tuple [.int 0, .int 1]]) (eX x) = some (eP (unit x)) := by cases x <;> simp [eX, b2i, PL.unit]
@[simp] theorem slc_t2 (a b : PyData) (l : List PyData) : opS (.tuple (a :: b :: l)) none (some 2) = some (.fro (.tuple [a, b])) := by
  simp [opS, cutD, HT.sIx]
@[simp] theorem slc_t2' (a b : PyData) (l : List PyData) : opS (.tuple (a :: b :: l)) (some 2) none = some (.fro (.tuple l)) := by
  simp [opS, cutD, HT.sIx]
@[simp] theorem partOf_omit (r : Gm → R Rs) (g : Gm) : partOf .omit r g = .ok none g := rfl
@[simp] theorem partOf_neg (e : Ex) (r : Gm → R Rs) (g : Gm) : partOf (.neg e) r g = (r g).bind fun x g1 => match x with
    | .fro (.int i) => .ok (some i) g1
    | _ => .stuck := rfl
@[simp] theorem partOf_int (i : Int) (r : Gm → R Rs) (g : Gm) : partOf (.int i) r g = (r g).bind fun x g1 => match x with
    | .fro (.int i) => .ok (some i) g1
    | _ => .stuck := rfl
theorem r_ticks_up_to (k : Nat) {pc : Pc} {tk : Option P2 × Option P2} (hk : pc.tk = some tk) (hl : Rb pc.lo) (hh : Rb pc.hi) (x : Bool) {en : P2} {N : Int} (he : Fb N en) (hN : N < 2 ^ 37) (ht : ∀ t, sel x tk = some t → Fb N t) {r : Up} (h : upToO FU pc.lo pc.hi (unit x) en (sel x tk) = some r) :
    run tx0 (k + 4) f_ticks_up_to [ePc pc, eX x, eP en] none = .ret (.fro (eUp r)) none := by
  rw [run0 (k + 3) _ _ _ D_ticks_up_to]
  obtain ⟨lo, hi, time, tk', told, heard⟩ := pc
  cases hk
  have E : ∀ (f : Nat) (t : P2) (many : Int) (last : Option P2) (a b : Sl) (r : Up), f ≤ FU → Fb (N + FU - f) t → isIo a = false → isIo b = false → upToT lo hi (unit x) en f t many last = some r →
      ∃ g', loopW (fun g => ev (tx0.lk (run tx0 (k + 3)) (runs tx0 (k + 3)).2.2) c1_ticks_up_to g) (fun g => exs (tx0.lk (run tx0 (k + 3)) (runs tx0 (k + 3)).2.2) l1_ticks_up_to g) f
        [.val (ePc ⟨lo, hi, time, some tk, told, heard⟩), .val (eX x), .val (eP en), .val (eP lo), .val (eP hi), .val (eP t), .val (.int many), .val (eO last), a, b] = .ret (.fro (eUp r)) g' := by
    intro f
    induction f with
    | zero => intro t many last a b r _ _ _ _ h; cases h
    | succ f ih =>
      intro t many last a b r hf ht ha hb h
      have hg : Fb (2 ^ 39) (minus en t) := (he.minus ht).mono (by have : (FU : Int) = 100000 := rfl; omega)
      have z := r_zero_within k (lo := lo) (hi := hi) hg (by decide)
      have C : ev (tx0.lk (run tx0 (k + 3)) (runs tx0 (k + 3)).2.2) c1_ticks_up_to [.val (ePc ⟨lo, hi, time, some tk, told, heard⟩), .val (eX x), .val (eP en), .val (eP lo), .val (eP hi), .val (eP t), .val (.int many), .val (eO last), a, b] = .ok (.fro (.bool true)) [.val (ePc ⟨lo, hi, time, some tk, told, heard⟩), .val (eX x), .val (eP en), .val (eP lo), .val (eP hi), .val (eP t), .val (.int many), .val (eO last), a, b] := by
        simp [c1_ticks_up_to]
      rw [loopW_succ, C]
      unfold upToT at h
      cases hz : zeroIn (minus en t) lo hi with
      | some c =>
        rw [hz] at h z
        cases h
        have B : ∃ g', exs (tx0.lk (run tx0 (k + 3)) (runs tx0 (k + 3)).2.2) l1_ticks_up_to [.val (ePc ⟨lo, hi, time, some tk, told, heard⟩), .val (eX x), .val (eP en), .val (eP lo), .val (eP hi), .val (eP t), .val (.int many), .val (eO last), a, b] = .ret (.fro (eUp ⟨some c, 0, none, false⟩)) g' := by
          simp only [eO_some] at z
          exact ⟨_, by simp [l1_ticks_up_to, r_minus, ha, hb, z, eUp]; rfl⟩
        obtain ⟨g', B⟩ := B
        exact ⟨g', by simp only [B]⟩
      | none =>
        rw [hz] at h z
        have sg := r_sign_of (k + 1) (f := minus en t) hl hh
        dsimp only at h
        by_cases q : signOf (minus en t) lo hi < 0
        · rw [if_pos q] at h
          cases h
          have B : ∃ g', exs (tx0.lk (run tx0 (k + 3)) (runs tx0 (k + 3)).2.2) l1_ticks_up_to [.val (ePc ⟨lo, hi, time, some tk, told, heard⟩), .val (eX x), .val (eP en), .val (eP lo), .val (eP hi), .val (eP t), .val (.int many), .val (eO last), a, b] = .ret (.fro (eUp ⟨none, many, some t, decide (last = some (0, 0))⟩)) g' := by
            simp only [eO_none] at z
            have e0 := opC_eqO last (0, 0)
            simp only [eP] at e0
            exact ⟨_, by simp [l1_ticks_up_to, r_minus, ha, hb, z, sg, q, e0, eUp]; rfl⟩
          obtain ⟨g', B⟩ := B
          exact ⟨g', by simp only [B]⟩
        · rw [if_neg q] at h
          have B : exs (tx0.lk (run tx0 (k + 3)) (runs tx0 (k + 3)).2.2) l1_ticks_up_to [.val (ePc ⟨lo, hi, time, some tk, told, heard⟩), .val (eX x), .val (eP en), .val (eP lo), .val (eP hi), .val (eP t), .val (.int many), .val (eO last), a, b] =
              .nx [.val (ePc ⟨lo, hi, time, some tk, told, heard⟩), .val (eX x), .val (eP en), .val (eP lo), .val (eP hi), .val (eP (plus t (unit x))), .val (.int (many + 1)), .val (eO (some (minus en t))), .val (eP (minus en t)), .val .none] := by
            simp only [eO_none] at z
            simp [l1_ticks_up_to, r_minus, r_plus, ha, hb, z, sg, q, G_UNITS, opI_units]
          obtain ⟨g', G⟩ := ih (plus t (unit x)) (many + 1) (some (minus en t)) (.val (eP (minus en t))) (.val .none) r (by omega) ((ht.plus (Fb.unit x)).mono (by omega)) rfl rfl h
          exact ⟨g', by simp only [B]; exact G⟩
  cases hs : sel x tk with
  | none =>
    rw [hs] at h
    cases h
    simp only [runD, startG, d_ticks_up_to, b_ticks_up_to, ePc, eTk]
    simp [hs, ex_whl]
    rw [loopW_succ]
    simp [c1_ticks_up_to, endG, d_ticks_up_to, eUp]
  | some t =>
    rw [hs] at h
    obtain ⟨g', E⟩ := E FU t 0 none .no .no r (Nat.le_refl _) ((ht t hs).mono (by omega)) rfl rfl h
    simp only [ePc, eTk, eO_none] at E
    simp only [runD, startG, d_ticks_up_to, b_ticks_up_to, ePc, eTk]
    simp [hs, ex_whl, E, endG, d_ticks_up_to]
end TB
set_option maxHeartbeats 0
/-! Runs: pieces, further. -/
namespace TB
open PySem PL
@[simp] theorem filter_tt {α : Type} (l : List α) : l.filter (fun _ => true) = l := by
  induction l with
  | nil => rfl
  | cons a l ih => rw [List.filter_cons]; simp [ih]
theorem r_ends_of (k : Nat) {pc : Pc} {tk : Option P2 × Option P2} (hk : pc.tk = some tk) (w : W) (x : Bool) {n : Nat} (h1 : 1 ≤ n) (h4 : n ≤ 4) {t : P2} (ht : sel x tk = some t) :
    run tx0 (k + 2) f_ends_of [ePc pc, eSt (.act w x n)] none = .ret (.own ((ends w x n t).map fun p => eP p)) none := by
  rw [run0 (k + 1) _ _ _ D_ends_of]
  obtain ⟨lo, hi, time, tk', told, heard⟩ := pc
  cases hk
  have sn : sm ((n : Int) - 1) := by unfold sm; omega
  have tm := fun i h => r_times k (unit x) i h
  cases w with
  | both =>
    have E : ev (tx0.lk (run tx0 (k + 1)) (runs tx0 (k + 1)).2.2) (.lc (.rng1 (.idx (.loc 1) (.int 2))) (.one 4) [4] .omit e1_ends_of) [.val (ePc ⟨lo, hi, time, some tk, told, heard⟩), .val (eSt (.act .both x n)), .val (eX x), .val (eP t), .no]
        = .ok (.own (((List.range n).filter fun _ => true).map fun i : Nat => eP (plus t (times (unit x) i)))) [.val (ePc ⟨lo, hi, time, some tk, told, heard⟩), .val (eSt (.act .both x n)), .val (eX x), .val (eP t), .no] :=
      ev_lcN (g0 := [.val (ePc ⟨lo, hi, time, some tk, told, heard⟩), .val (eSt (.act .both x n)), .val (eX x), .val (eP t), .no]) (fun i : Nat => .int i) (List.range n) (fun _ => true) _ (fun i => [.val (ePc ⟨lo, hi, time, some tk, told, heard⟩), .val (eSt (.act .both x n)), .val (eX x), .val (eP t), .val (.int i)]) (.own ((List.range n).map fun i : Nat => .int i))
        (by simp [eSt, rng1_nat (show n ≤ 1000000 by omega)]) (by simp [items]) (by simp [wipeOk]) (by simp [wipeG]) (by simp [unwipe])
        (fun i hi => ⟨by simp, by simp [wipeG], by simp, fun _ => ⟨.fro (eP (plus t (times (unit x) i))), by
          have : sm (i : Int) := by
            have := List.mem_range.mp hi
            unfold sm; omega
          simp [e1_ends_of, G_UNITS, opI_units, tm _ this, r_plus], rfl⟩⟩)
    simp only [eSt, ePc, eTk] at E
    simp only [runD, startG, d_ends_of, b_ends_of, ePc, eTk, eSt]
    simp [ht, W.isBoth, E, endG, d_ends_of, ends]
  | wait =>
    simp only [runD, startG, d_ends_of, b_ends_of, ePc, eTk, eSt]
    simp [ht, W.isBoth, endG, d_ends_of, ends, G_UNITS, opI_units, tm _ sn, r_plus]
  | count =>
    simp only [runD, startG, d_ends_of, b_ends_of, ePc, eTk, eSt]
    simp [ht, W.isBoth, endG, d_ends_of, ends, G_UNITS, opI_units, tm _ sn, r_plus]
theorem wE_cons {fu : Nat} {lo hi u : P2} {ty : Option P2} {both : Bool} {e : P2} {es : List P2} : wEnds fu lo hi u ty both (e :: es) = match upToO fu lo hi u e ty with
    | none => none
    | some r => match r.cut with
      | some _ => some (e, r)
      | none => if !both || r.here then some (e, r) else match es with
        | [] => some (e, r)
        | _ => wEnds fu lo hi u ty both es := by
  rw [wEnds] <;> rfl
theorem r_waited (k : Nat) {pc : Pc} {tk : Option P2 × Option P2} (hk : pc.tk = some tk) {N : Int} (hp : Pb N pc) (hN : N < 2 ^ 36) (hl : pc.told.length < 900) (w : W) (x : Bool) {n : Nat} (h1 : 1 ≤ n) (h4 : n ≤ 4) {t : P2} (ht : sel x tk = some t) {r : Option P2 × Pc} (h : waited FU pc tk w x n t = some r) :
    run tx0 (k + 5) f_waited [ePc pc, eSt (.act w x n)] none = .ret (.fro (.tuple [eO r.1, ePc r.2])) none := by
  rw [run0 (k + 4) _ _ _ D_waited]
  have pb := hp
  obtain ⟨lo, hi, time, tk', told, heard⟩ := pc
  cases hk
  have tb : Fb N t := pb.tk tk rfl x t ht
  have eb := ends_b (w := w) (x := x) h1 h4 tb
  unfold waited at h
  split at h
  · cases h
  · rename_i e up he
    have UT : ∀ e ∈ ends w x n t, ∀ r, upToO FU lo hi (unit (!x)) e (sel (!x) tk) = some r → run tx0 (k + 4) f_ticks_up_to [ePc ⟨lo, hi, time, some tk, told, heard⟩, eX (!x), eP e] none = .ret (.fro (eUp r)) none := fun e he r hr =>
      r_ticks_up_to k (pc := ⟨lo, hi, time, some tk, told, heard⟩) rfl pb.lo pb.hi (!x) (eb e he) (by omega) (fun t' q => (pb.tk tk rfl (!x) t' q).mono (by omega)) hr
    have S : ∀ (es : List P2) (a b c d f : Sl) (e : P2) (up : Up), (∀ y ∈ es, y ∈ ends w x n t) → isIo a = false → isIo b = false → isIo c = false → isIo d = false → isIo f = false → wEnds FU lo hi (unit (!x)) (sel (!x) tk) w.isBoth es = some (e, up) →
        (∀ q, up.cut = some q → ∃ g', loopF (.one 3) (fun g => exs (tx0.lk (run tx0 (k + 4)) (runs tx0 (k + 4)).2.2) l1_waited g) (es.map fun p => eP p) [.val (ePc ⟨lo, hi, time, some tk, told, heard⟩), .val (eSt (.act w x n)), .val (eX x), a, .no, .no, .val (eP lo), .val (eP hi), .val (eP time), .val (eTk (some tk)), .val (eIs told), .val (ePs heard), b, c, d, f] = .ret (.fro (.tuple [eP q, ePc ⟨lo, hi, time, some tk, told, heard⟩])) g') ∧
        (up.cut = none → loopF (.one 3) (fun g => exs (tx0.lk (run tx0 (k + 4)) (runs tx0 (k + 4)).2.2) l1_waited g) (es.map fun p => eP p) [.val (ePc ⟨lo, hi, time, some tk, told, heard⟩), .val (eSt (.act w x n)), .val (eX x), a, .no, .no, .val (eP lo), .val (eP hi), .val (eP time), .val (eTk (some tk)), .val (eIs told), .val (ePs heard), b, c, d, f]
          = .nx [.val (ePc ⟨lo, hi, time, some tk, told, heard⟩), .val (eSt (.act w x n)), .val (eX x), .val (eP e), .no, .no, .val (eP lo), .val (eP hi), .val (eP time), .val (eTk (some tk)), .val (eIs told), .val (ePs heard), .val .none, .val (.int up.many), .val (eO up.later), .val (.bool up.here)]) := by
      intro es
      induction es with
      | nil => intro a b c d f e up _ _ _ _ _ _ h; cases h
      | cons y es ih =>
        intro a b c d f e up hm ha hb hc hd hf h
        rw [wE_cons] at h
        have U := UT y (hm y (List.mem_cons_self ..))
        cases hu : upToO FU lo hi (unit (!x)) y (sel (!x) tk) with
        | none => rw [hu] at h; cases h
        | some r =>
          rw [hu] at h
          have U := U r hu
          obtain ⟨cut, many, later, here⟩ := r
          simp only [eUp] at U
          cases cut with
          | some q =>
            cases h
            have B : ∃ g', exs (tx0.lk (run tx0 (k + 4)) (runs tx0 (k + 4)).2.2) l1_waited [.val (ePc ⟨lo, hi, time, some tk, told, heard⟩), .val (eSt (.act w x n)), .val (eX x), .val (eP y), .no, .no, .val (eP lo), .val (eP hi), .val (eP time), .val (eTk (some tk)), .val (eIs told), .val (ePs heard), b, c, d, f] = .ret (.fro (.tuple [eP q, ePc ⟨lo, hi, time, some tk, told, heard⟩])) g' :=
              ⟨_, by simp [l1_waited, U, hb, hc, hd, hf]; rfl⟩
            obtain ⟨g', B⟩ := B
            refine ⟨fun q' e => ?_, fun e => (by cases e)⟩
            cases e
            exact ⟨g', by rw [List.map_cons, loopF_cons]; simp [ha, B]⟩
          | none =>
            dsimp only at h
            by_cases z : (!w.isBoth || here) = true
            · rw [if_pos z] at h
              cases h
              have B : exs (tx0.lk (run tx0 (k + 4)) (runs tx0 (k + 4)).2.2) l1_waited [.val (ePc ⟨lo, hi, time, some tk, told, heard⟩), .val (eSt (.act w x n)), .val (eX x), .val (eP y), .no, .no, .val (eP lo), .val (eP hi), .val (eP time), .val (eTk (some tk)), .val (eIs told), .val (ePs heard), b, c, d, f]
                  = .brk [.val (ePc ⟨lo, hi, time, some tk, told, heard⟩), .val (eSt (.act w x n)), .val (eX x), .val (eP y), .no, .no, .val (eP lo), .val (eP hi), .val (eP time), .val (eTk (some tk)), .val (eIs told), .val (ePs heard), .val .none, .val (.int many), .val (eO later), .val (.bool here)] := by
                cases hw : w.isBoth with
                | false => simp [l1_waited, U, hb, hc, hd, hf, eSt, hw]
                | true =>
                  rw [hw] at z
                  simp at z
                  simp [l1_waited, U, hb, hc, hd, hf, eSt, hw, z]
              refine ⟨fun q' e => (by cases e), fun _ => ?_⟩
              rw [List.map_cons, loopF_cons]
              simp [ha, B]
            · rw [if_neg z] at h
              have zw : w.isBoth = true ∧ here = false := by
                cases hw : w.isBoth <;> cases hh : here <;> simp [hw, hh] at z ⊢
              have B : exs (tx0.lk (run tx0 (k + 4)) (runs tx0 (k + 4)).2.2) l1_waited [.val (ePc ⟨lo, hi, time, some tk, told, heard⟩), .val (eSt (.act w x n)), .val (eX x), .val (eP y), .no, .no, .val (eP lo), .val (eP hi), .val (eP time), .val (eTk (some tk)), .val (eIs told), .val (ePs heard), b, c, d, f]
                  = .nx [.val (ePc ⟨lo, hi, time, some tk, told, heard⟩), .val (eSt (.act w x n)), .val (eX x), .val (eP y), .no, .no, .val (eP lo), .val (eP hi), .val (eP time), .val (eTk (some tk)), .val (eIs told), .val (ePs heard), .val .none, .val (.int many), .val (eO later), .val (.bool here)] := by
                simp [l1_waited, U, hb, hc, hd, hf, eSt, zw.1, zw.2]
              cases es with
              | nil =>
                cases h
                refine ⟨fun q' e => (by cases e), fun _ => ?_⟩
                simp [ha, B]
              | cons y2 es =>
                have I := ih (.val (eP y)) (.val .none) (.val (.int many)) (.val (eO later)) (.val (.bool here)) e up (fun z hz => hm z (List.mem_cons_of_mem _ hz)) rfl rfl rfl rfl rfl h
                refine ⟨fun q e => ?_, fun e => ?_⟩
                · obtain ⟨g', G⟩ := I.1 q e
                  refine ⟨g', ?_⟩
                  rw [List.map_cons, loopF_cons]
                  simp only [tgt_one, put_eq]
                  simp only [List.getElem?_cons_succ, List.getElem?_cons_zero, ha, Bool.false_eq_true, if_false, List.set_cons_succ, List.set_cons_zero, B]
                  exact G
                · rw [List.map_cons, loopF_cons]
                  simp only [tgt_one, put_eq]
                  simp only [List.getElem?_cons_succ, List.getElem?_cons_zero, ha, Bool.false_eq_true, if_false, List.set_cons_succ, List.set_cons_zero, B]
                  exact I.2 e
    obtain ⟨S1, S2⟩ := S (ends w x n t) .no .no .no .no .no e up (fun _ h => h) rfl rfl rfl rfl rfl he
    have EO := r_ends_of (k + 2) (pc := ⟨lo, hi, time, some tk, told, heard⟩) (tk := tk) rfl w x h1 h4 ht
    cases hc : up.cut with
    | some c =>
      rw [hc] at h
      cases h
      obtain ⟨g', G⟩ := S1 c hc
      simp only [ePc, eSt, eTk] at G EO
      simp only [runD, startG, d_waited, b_waited, ePc, eSt, eTk]
      simp [ex_for, evi, items, EO, G, endG, d_waited]
    | none =>
      rw [hc] at h
      cases h
      have G := S2 hc
      have P1 := r_put_o (k + 3) tk.1 tk.2 (some (plus e (unit x))) x
      have P2 := r_put_o (k + 3) (putx x tk (some (plus e (unit x)))).1 (putx x tk (some (plus e (unit x)))).2 up.later (!x)
      simp only [eO_some] at P1
      have l1 : (told.map PyData.int).length < 1000 := by
        simp only [List.length_map]
        have : told.length < 900 := hl
        omega
      simp only [ePc, eSt, eTk, eIs] at G EO
      simp only [runD, startG, d_waited, b_waited, ePc, eSt, eTk, eIs]
      cases w with
      | wait => simp [ex_for, evi, items, EO, G, endG, d_waited, W.isBoth, W.isCount, G_UNITS, opI_units, r_plus, P1, P2, opB_app0 l1]
      | count => simp [ex_for, evi, items, EO, G, endG, d_waited, W.isBoth, W.isCount, G_UNITS, opI_units, r_plus, P1, P2, opB_app1 l1]
      | both =>
        have bi : opF .int [.bool up.here] = some (.fro (.int (b2i up.here))) := rfl
        simp [ex_for, evi, items, EO, G, endG, d_waited, W.isBoth, W.isCount, G_UNITS, opI_units, r_plus, P1, P2, opB_app1 l1, bi]
end TB
set_option maxHeartbeats 0
/-! Runs: the course of a script. -/
namespace TB
open PySem PL
theorem r_stepped (k : Nat) {pc : Pc} {N : Int} (hp : Pb N pc) (hN : N < 2 ^ 36) (hl : pc.told.length < 900) (hh : pc.heard.length < 900) (s : St) (hs : s.ok = true) {r : Option P2 × Pc} (h : stepped FU pc s = some r) :
    run tx0 (k + 6) f_stepped [ePc pc, eSt s] none = .ret (.fro (.tuple [eO r.1, ePc r.2])) none := by
  rw [run0 (k + 5) _ _ _ D_stepped]
  have hp0 := hp
  obtain ⟨lo, hi, time, tk', told, heard⟩ := pc
  have l1 : (told.map PyData.int).length < 1000 := by
    simp only [List.length_map]
    have : told.length < 900 := hl
    omega
  have l2 : (heard.map fun p => eP p).length < 1000 := by
    simp only [List.length_map]
    have : heard.length < 900 := hh
    omega
  cases s with
  | ring =>
    cases h
    simp [runD, startG, d_stepped, b_stepped, endG, ePc, eSt, ePs, opB_app1 l2]
  | go x =>
    simp only [stepped] at h
    cases tk' with
    | none => cases h
    | some tk =>
      cases h
      have P := r_put_o (k + 4) tk.1 tk.2 (some (plus time (unit x))) x
      simp only [eO_some] at P
      simp [runD, startG, d_stepped, b_stepped, endG, ePc, eSt, eTk, G_UNITS, opI_units, r_plus, P]
  | stop x =>
    simp only [stepped] at h
    cases tk' with
    | none => cases h
    | some tk =>
      cases h
      have P := r_put_o (k + 4) tk.1 tk.2 none x
      simp only [eO_none] at P
      simp [runD, startG, d_stepped, b_stepped, endG, ePc, eSt, eTk, P]
  | act w x n =>
    simp only [St.ok, Bool.and_eq_true, decide_eq_true_eq] at hs
    simp only [stepped] at h
    cases tk' with
    | none => cases h
    | some tk =>
      dsimp only at h
      cases ht : sel x tk with
      | none =>
        rw [ht] at h
        cases h
        cases w with
        | wait => simp [runD, startG, d_stepped, b_stepped, endG, ePc, eSt, eTk, ht, W.isWait, eIs, opB_app0 l1]
        | count => simp [runD, startG, d_stepped, b_stepped, endG, ePc, eSt, eTk, ht, W.isWait, eIs, opB_app1 l1]
        | both => simp [runD, startG, d_stepped, b_stepped, endG, ePc, eSt, eTk, ht, W.isWait, eIs, opB_app1 l1]
      | some t =>
        rw [ht] at h
        have Wt := r_waited k (pc := ⟨lo, hi, time, some tk, told, heard⟩) rfl hp0 hN hl w x hs.1 hs.2 ht h
        simp only [ePc, eSt, eTk] at Wt
        cases w <;> simp [runD, startG, d_stepped, b_stepped, endG, ePc, eSt, eTk, ht, W.isWait, W.isCount, W.isBoth, Wt]
theorem r_single (k : Nat) (sc : Sc) (hs : scOk sc = true) {r : P2} (hr : Per r) : run tx0 (k + 5) f_single [eSc sc, eP r] none = .ret (.fro (ePc (single sc r))) none := by
  rw [run0 (k + 4) _ _ _ D_single]
  have h3 := r_led k hr sc hs
  have E : ev (tx0.lk (run tx0 (k + 4)) (runs tx0 (k + 4)).2.2) (.lc (.loc 5) (.one 6) [6] .omit e1_single) [.val (eSc sc), .val (eP r), .val (.int (led sc r).time), .val (eTk2 (led sc r).tk), .val (eIs (led sc r).told), .val (eIs (led sc r).heard), .no]
      = .ok (.own (((led sc r).heard.filter fun _ => true).map fun t => eP (t, 0))) [.val (eSc sc), .val (eP r), .val (.int (led sc r).time), .val (eTk2 (led sc r).tk), .val (eIs (led sc r).told), .val (eIs (led sc r).heard), .no] :=
    ev_lcN (g0 := [.val (eSc sc), .val (eP r), .val (.int (led sc r).time), .val (eTk2 (led sc r).tk), .val (eIs (led sc r).told), .val (eIs (led sc r).heard), .no]) (fun t : Int => .int t) (led sc r).heard (fun _ => true) _ (fun t => [.val (eSc sc), .val (eP r), .val (.int (led sc r).time), .val (eTk2 (led sc r).tk), .val (eIs (led sc r).told), .val (eIs (led sc r).heard), .val (.int t)]) (.fro (eIs (led sc r).heard))
      (by simp) (by simp [items, eIs]) (by simp [wipeOk]) (by simp [wipeG]) (by simp [unwipe]) (fun t ht => ⟨by simp, by simp [wipeG], by simp, fun _ => ⟨.fro (eP (t, 0)), by simp [e1_single], rfl⟩⟩)
  simp only [eSd] at h3
  have tl : ∀ xs : List PyData, opF .tuple [.list xs] = some (.fro (.tuple xs)) := fun _ => rfl
  simp [runD, startG, d_single, b_single, endG, h3, E, tl, single, ePc, eTk, ePs]
theorem adv_nil (fu : Nat) (pc : Pc) : adv fu pc [] = some (pc, none) := rfl
theorem adv_cons (fu : Nat) (pc : Pc) (s : St) (r : Sc) : adv fu pc (s :: r) = match stepped fu pc s with
    | none => none
    | some (some c, _) => some (pc, some (c, s :: r))
    | some (none, q) => adv fu q r := rfl
/-- what adv hands back is bounded -/
theorem adv_b : ∀ (r : Sc) (pc : Pc) (N : Int) (q : Pc) (o : Option (P2 × Sc)), (∀ s ∈ r, s.ok = true) → Pb N pc → N + 200000 * r.length < 2 ^ 36 → adv FU pc r = some (q, o) →
    q.lo = pc.lo ∧ q.hi = pc.hi ∧ match o with
      | none => Pb (N + 200000 * r.length) q
      | some (c, r') => Rb c ∧ ∃ i, r' = r.drop i ∧ i + r'.length = r.length ∧ Pb (N + 200000 * i) q ∧ q.told.length ≤ pc.told.length + i ∧ q.heard.length ≤ pc.heard.length + i
  | [], pc, N, q, o, hr, hp, hN, h => by
    rw [adv_nil] at h
    cases h
    exact ⟨rfl, rfl, by simpa using hp⟩
  | s :: r, pc, N, q, o, hr, hp, hN, h => by
    simp only [List.length_cons] at hN
    rw [adv_cons] at h
    have hs := hr s (List.mem_cons_self ..)
    cases hst : stepped FU pc s with
    | none => rw [hst] at h; cases h
    | some st =>
      rw [hst] at h
      obtain ⟨c, q1⟩ := st
      obtain ⟨b1, b2⟩ := stepped_b hs (by omega) hp hst
      cases c with
      | some c =>
        cases h
        exact ⟨rfl, rfl, b1 c rfl, 0, rfl, by simp, by simpa using hp, by simp, by simp⟩
      | none =>
        obtain ⟨p1, p2, p3, p4, p5⟩ := b2 rfl
        obtain ⟨i1, i2, i3⟩ := adv_b r q1 (N + 200000) q o (fun s hs => hr s (List.mem_cons_of_mem _ hs)) p1 (by omega) h
        refine ⟨by rw [i1, p2], by rw [i2, p3], ?_⟩
        dsimp only at p2 p3 p4 p5
        cases o with
        | none =>
          simp only [List.length_cons]
          exact ⟨i3.lo, i3.hi, i3.tm.mono (by omega), fun tk a b c d => (i3.tk tk a b c d).mono (by omega), fun f hf => (i3.hd f hf).mono (by omega)⟩
        | some cr =>
          obtain ⟨c, r'⟩ := cr
          obtain ⟨j1, i, j2, j3, j4, j5, j6⟩ := i3
          refine ⟨j1, i + 1, by simpa using j2, by simp only [List.length_cons]; omega, ⟨j4.lo, j4.hi, j4.tm.mono (by omega), fun tk a b c d => (j4.tk tk a b c d).mono (by omega), fun f hf => (j4.hd f hf).mono (by omega)⟩, by omega, by omega⟩
theorem pb_succ (fu : Nat) (sc : Sc) (f : Nat) (pc : Pc) (r : Sc) : pb fu sc (f + 1) pc r = match adv fu pc r with
    | none => none
    | some (q, none) => some [q]
    | some (q, some (c, r')) => match pb fu sc f ⟨q.lo, c, q.time, q.tk, q.told, q.heard⟩ r' with
      | none => none
      | some a => match pb fu sc f ⟨c, q.hi, q.time, q.tk, q.told, q.heard⟩ r' with
        | none => none
        | some b => some (a ++ single sc c :: b) := rfl
theorem r_pb (sc : Sc) (hs : scOk sc = true) : ∀ (f k : Nat) (pc : Pc) (at_ : Nat) (rest : Sc) (ps : List Pc) (N : Int), rest = sc.drop at_ → at_ + rest.length = sc.length → Pb N pc → N + 200000 * rest.length < 2 ^ 36 - 200000 → pc.told.length + rest.length ≤ 800 → pc.heard.length + rest.length ≤ 800 →
    pb FU sc f pc rest = some ps → ps.length ≤ 1000000 → run tx0 (k + f + 7) f_pieces_between [eSc sc, ePc pc, .int at_] none = .ret (.own (ps.map ePc)) none
  | 0, k, pc, at_, rest, ps, N, h1, h2, h3, h4, h5, h6, h, h7 => by cases h
  | f + 1, k, pc, at_, rest, ps, N, h1, h2, h3, h4, h5, h6, h, h7 => by
    have ok : ∀ s ∈ sc, s.ok = true := by
      simp only [scOk, Bool.and_eq_true, List.all_eq_true] at hs
      exact hs.2
    rw [show k + (f + 1) + 7 = (k + f + 7) + 1 by omega, run0 (k + f + 7) _ _ _ D_pieces_between]
    have E : ∀ (rest : Sc) (pc : Pc) (at_ n : Nat) (a b c d e : Sl) (N : Int), rest = sc.drop at_ → at_ + rest.length = sc.length → Pb N pc → N + 200000 * rest.length < 2 ^ 36 - 200000 → pc.told.length + rest.length ≤ 800 → pc.heard.length + rest.length ≤ 800 → rest.length + 1 ≤ n →
        isIo a = false → isIo b = false → isIo c = false → isIo d = false → isIo e = false →
        (∀ q, adv FU pc rest = some (q, none) → ∃ a' b' c' d' e', loopW (fun g => ev (tx0.lk (run tx0 (k + f + 7)) (runs tx0 (k + f + 7)).2.2) c1_pieces_between g) (fun g => exs (tx0.lk (run tx0 (k + f + 7)) (runs tx0 (k + f + 7)).2.2) l1_pieces_between g) n [.val (eSc sc), .val (ePc pc), .val (.int at_), a, b, c, d, e]
          = .nx [.val (eSc sc), .val (ePc q), .val (.int sc.length), a', b', c', d', e']) ∧
        (∀ q x r' l m, adv FU pc rest = some (q, some (x, r')) → pb FU sc f ⟨q.lo, x, q.time, q.tk, q.told, q.heard⟩ r' = some l → pb FU sc f ⟨x, q.hi, q.time, q.tk, q.told, q.heard⟩ r' = some m → l.length + m.length ≤ 999999 →
          ∃ g', loopW (fun g => ev (tx0.lk (run tx0 (k + f + 7)) (runs tx0 (k + f + 7)).2.2) c1_pieces_between g) (fun g => exs (tx0.lk (run tx0 (k + f + 7)) (runs tx0 (k + f + 7)).2.2) l1_pieces_between g) n [.val (eSc sc), .val (ePc pc), .val (.int at_), a, b, c, d, e]
          = .ret (.own ((l ++ single sc x :: m).map ePc)) g') := by
      intro rest
      induction rest with
      | nil =>
        intro pc at_ n a b c d e N h1 h2 h3 h4 h5 h6 hn ha hb hc hd he
        obtain ⟨n, rfl⟩ : ∃ m, n = m + 1 := ⟨n - 1, by simp at hn; omega⟩
        simp only [List.length_nil, Nat.add_zero] at h2
        refine ⟨fun q hq => ?_, fun q x r' l m hq => ?_⟩
        · rw [adv_nil] at hq
          cases hq
          have C : ev (tx0.lk (run tx0 (k + f + 7)) (runs tx0 (k + f + 7)).2.2) c1_pieces_between [.val (eSc sc), .val (ePc pc), .val (.int at_), a, b, c, d, e] = .ok (.fro (.bool false)) [.val (eSc sc), .val (ePc pc), .val (.int at_), a, b, c, d, e] := by
            simp [c1_pieces_between, eSc, h2]
          exact ⟨a, b, c, d, e, by rw [loopW_succ, C, h2]⟩
        · rw [adv_nil] at hq
          cases hq
      | cons s rest ih =>
        intro pc at_ n a b c d e N h1 h2 h3 h4 h5 h6 hn ha hb hc hd he
        simp only [List.length_cons] at h2 h4 h5 h6 hn
        obtain ⟨n, rfl⟩ : ∃ m, n = m + 1 := ⟨n - 1, by omega⟩
        have hat : sc[at_]? = some s := by
          have := congrArg (fun l : Sc => l[0]?) h1
          simpa using this.symm
        have hso : s.ok = true := ok s (List.mem_of_getElem? hat)
        have hd1 : rest = sc.drop (at_ + 1) := by
          have := congrArg List.tail h1
          simpa using this
        have C : ev (tx0.lk (run tx0 (k + f + 7)) (runs tx0 (k + f + 7)).2.2) c1_pieces_between [.val (eSc sc), .val (ePc pc), .val (.int at_), a, b, c, d, e] = .ok (.fro (.bool true)) [.val (eSc sc), .val (ePc pc), .val (.int at_), a, b, c, d, e] := by
          have : (at_ : Int) < sc.length := by omega
          simp [c1_pieces_between, eSc, this]
        have ix : opI (eSc sc) (.int at_) = some (eSt s) := (opI_nat (sc.map eSt) (by rw [List.getElem?_map, hat]; rfl)).2
        rw [loopW_succ, C]
        cases hst : stepped FU pc s with
        | none =>
          refine ⟨fun q hq => ?_, fun q x r' l m hq => ?_⟩
          · rw [adv_cons, hst] at hq; cases hq
          · rw [adv_cons, hst] at hq; cases hq
        | some st =>
          obtain ⟨cut, q1⟩ := st
          have ST := r_stepped (k + f + 1) h3 (by omega) (by omega) (by omega) s hso hst
          obtain ⟨b1, b2⟩ := stepped_b hso (by omega) h3 hst
          cases cut with
          | none =>
            obtain ⟨p1, p2, p3, p4, p5⟩ := b2 rfl
            dsimp only at p1 p2 p3 p4 p5
            have B : exs (tx0.lk (run tx0 (k + f + 7)) (runs tx0 (k + f + 7)).2.2) l1_pieces_between [.val (eSc sc), .val (ePc pc), .val (.int at_), a, b, c, d, e] = .nx [.val (eSc sc), .val (ePc q1), .val (.int (at_ + 1)), .val .none, .val (ePc q1), c, d, e] := by
              simp only [eO_none] at ST
              simp [l1_pieces_between, ix, ST, ha, hb]
            obtain ⟨I1, I2⟩ := ih q1 (at_ + 1) n (.val .none) (.val (ePc q1)) c d e (N + 200000) hd1 (by omega) p1 (by omega) (by omega) (by omega) (by omega) rfl rfl hc hd he
            have ea : ((at_ + 1 : Nat) : Int) = (at_ : Int) + 1 := by omega
            rw [ea] at I1 I2
            refine ⟨fun q hq => ?_, fun q x r' l m hq hl hm hn => ?_⟩
            · rw [adv_cons, hst] at hq
              simp only [B]
              exact I1 q hq
            · rw [adv_cons, hst] at hq
              simp only [B]
              exact I2 q x r' l m hq hl hm hn
          | some x =>
            refine ⟨fun q hq => ?_, fun q y r' l m hq hl hm hn => ?_⟩
            · rw [adv_cons, hst] at hq; cases hq
            · rw [adv_cons, hst] at hq
              cases hq
              have rx := b1 x rfl
              have R1 := r_pb sc hs f k ⟨pc.lo, x, pc.time, pc.tk, pc.told, pc.heard⟩ at_ (s :: rest) l N h1 (by simp only [List.length_cons]; omega) ⟨h3.lo, rx, h3.tm, h3.tk, h3.hd⟩ (by simp only [List.length_cons]; omega) (by simp only [List.length_cons]; omega) (by simp only [List.length_cons]; omega) hl (by omega)
              have R2 := r_pb sc hs f k ⟨x, pc.hi, pc.time, pc.tk, pc.told, pc.heard⟩ at_ (s :: rest) m N h1 (by simp only [List.length_cons]; omega) ⟨rx, h3.hi, h3.tm, h3.tk, h3.hd⟩ (by simp only [List.length_cons]; omega) (by simp only [List.length_cons]; omega) (by simp only [List.length_cons]; omega) hm (by omega)
              have SG := r_single (k + f + 2) sc hs (r := x) rx.per
              have j1 : ∀ u v w : PyData, ∀ t, opB .add (.tuple [u, v]) (.tuple [w, t, eIs pc.told, ePs pc.heard]) = some (.fro (.tuple [u, v, w, t, eIs pc.told, ePs pc.heard])) := fun u v w t => opB_tup (by rw [sz]; simp)
              have j2 : opB .add (.list (l.map ePc)) (.list [ePc (single sc x)]) = some (.own (l.map ePc ++ [ePc (single sc x)])) := opB_lst (by rw [sz]; simp; omega)
              have j3 : opB .add (.list (l.map ePc ++ [ePc (single sc x)])) (.list (m.map ePc)) = some (.own (l.map ePc ++ [ePc (single sc x)] ++ m.map ePc)) := opB_lst (by rw [sz]; simp; omega)
              obtain ⟨lo, hi, time, tk, told, heard⟩ := pc
              have B : ∃ g', exs (tx0.lk (run tx0 (k + f + 7)) (runs tx0 (k + f + 7)).2.2) l1_pieces_between [.val (eSc sc), .val (ePc ⟨lo, hi, time, tk, told, heard⟩), .val (.int at_), a, b, c, d, e] = .ret (.own ((l ++ single sc x :: m).map ePc)) g' := by
                simp only [eO_some] at ST
                simp only [ePc] at ST R1 R2 SG j1 j2 j3 ⊢
                exact ⟨_, by simp [l1_pieces_between, ix, ST, ha, hb, hc, hd, he, j1, R1, R2, SG, j2, j3, ePc]; rfl⟩
              obtain ⟨g', B⟩ := B
              exact ⟨g', by simp only [B]⟩
    have FUr : rest.length + 1 ≤ 100000 := by omega
    obtain ⟨E1, E2⟩ := E rest pc at_ 100000 .no .no .no .no .no N h1 h2 h3 h4 h5 h6 FUr rfl rfl rfl rfl rfl
    rw [pb_succ] at h
    cases hadv : adv FU pc rest with
    | none => rw [hadv] at h; cases h
    | some qo =>
      obtain ⟨q, o⟩ := qo
      rw [hadv] at h
      cases o with
      | none =>
        cases h
        obtain ⟨a, b, c, d, e, G⟩ := E1 q hadv
        simp [runD, startG, d_pieces_between, b_pieces_between, ex_whl, G, endG]
      | some xr =>
        obtain ⟨x, r'⟩ := xr
        dsimp only at h
        cases hl : pb FU sc f ⟨q.lo, x, q.time, q.tk, q.told, q.heard⟩ r' with
        | none => rw [hl] at h; cases h
        | some l =>
          rw [hl] at h
          cases hm : pb FU sc f ⟨x, q.hi, q.time, q.tk, q.told, q.heard⟩ r' with
          | none => rw [hm] at h; cases h
          | some m =>
            rw [hm] at h
            cases h
            simp only [List.length_append, List.length_cons] at h7
            obtain ⟨g', G⟩ := E2 q x r' l m hadv hl hm (by omega)
            simp [runD, startG, d_pieces_between, b_pieces_between, ex_whl, G, endG]
theorem r_course (k f : Nat) (sc : Sc) (hs : scOk sc = true) {ps : List Pc} (h : course f sc = some ps) (hl : ps.length ≤ 1000000) : run tx0 (k + f + 8) f_course [eSc sc] none = .ret (.own (ps.map ePc)) none := by
  rw [run0 (k + f + 7) _ _ _ D_course]
  have len : sc.length ≤ 8 := by
    simp only [scOk, Bool.and_eq_true, decide_eq_true_eq] at hs
    exact hs.1
  have R := r_pb sc hs f k pc0 0 sc ps 1 rfl (by omega) ⟨Rb_LO, Rb_HI, ⟨by decide, by decide, by decide, by decide⟩, fun tk e x t ht => by
    cases e
    cases x <;> cases ht <;> exact ⟨by decide, by decide, by decide, by decide⟩, fun f hf => by cases hf⟩ (by omega) (by simp [pc0]; omega) (by simp [pc0]; omega) h hl
  simp only [ePc, pc0, eTk, eP, eO, LO, HI, eIs, ePs, List.map_nil, Int.ofNat_zero] at R
  simp [runD, startG, d_course, b_course, G_LOWEST, G_HIGHEST, G_UNITS, R, endG]
end TB
/-! Plain functions: forms, places, answers, likeness. -/
namespace PL
inductive Rv where
  | fm (f : P2) | tm (t : Int)
  deriving DecidableEq, Repr
abbrev Row := P2 × P2 × Rv
abbrev Gr := P2 × P2 × Bool
abbrev Nr := P2 × P2 × Int
def rowOf (i : Nat) (p : Pc) : Row := (p.lo, p.hi, if p.lo = p.hi then .tm (p.heard.getD i (0, 0)).1 else .fm (p.heard.getD i (0, 0)))
def evens (n : Nat) : List Nat := (List.range ((n + 1) / 2)).map (2 * ·)
def odds (n : Nat) : List Nat := (List.range (n / 2)).map fun i => 2 * i + 1
/-! ### forms -/
abbrev Fr := (P2 × P2) × P2
/-- one turn: the forms found so far, the last one ahead -/
def rfStep (rows : List Row) (acc : List Fr) (k : Nat) : List Fr := match rows[k]? with
  | some (lo, hi, .fm f) => if 0 < k && decide ((rows[k - 2]?).map (·.2.2) = some (.fm f)) && decide ((rows[k - 1]?).map (·.2.2) = some (.tm (worth f lo))) then
      (match acc with
        | ((l, _), _) :: r => ((l, hi), f) :: r
        | [] => [])
      else ((lo, hi), f) :: acc
  | _ => acc
def ringForms (rows : List Row) : List Fr := ((evens rows.length).foldl (rfStep rows) []).reverse
def worthAt (rows : List Row) (k : Nat) (r : P2) : Option Int := match rows[k]? with
  | some (_, _, .fm f) => some (worth f r)
  | _ => none
def rjTest (rows : List Row) (k : Nat) : Bool := match rows[k]? with
  | some (r, _, .tm t) => !decide (worthAt rows (k - 1) r = some t) || !decide (worthAt rows (k + 1) r = some t)
  | _ => false
def ringJumps (rows : List Row) : List P2 := ((odds rows.length).filter (rjTest rows)).filterMap fun k => (rows[k]?).map (·.1)
/-! ### stretches -/
def jn (acc : List (P2 × P2)) (r : Gr) : List (P2 × P2) := match acc with
  | x :: y :: l => if r.2.2 && !decide (r.1 = r.2.1) && decide (x = (r.1, r.1)) && decide (y.2 = r.1) then (y.1, r.2.1) :: l else if r.2.2 then (r.1, r.2.1) :: x :: y :: l else x :: y :: l
  | l => if r.2.2 then (r.1, r.2.1) :: l else l
def joined (rows : List Gr) : List (P2 × P2) := (rows.foldl jn []).reverse
/-! ### places -/
def wrLoop (lo hi f : P2) (x : Bool) : Nat → Int → Option (P2 ⊕ Int)
  | 0, _ => none
  | n + 1, m => match zeroIn (minus f (times (unit x) (m + 1))) lo hi with
    | some c => some (.inl c)
    | none => if signOf (minus f (times (unit x) (m + 1))) lo hi < 0 then some (.inr m) else wrLoop lo hi f x n (m + 1)
def wrF (x : Bool) : Nat → P2 → P2 → P2 → Option (List Nr)
  | 0, _, _, _ => none
  | n + 1, lo, hi, f => match wrLoop lo hi f x FU 0 with
    | none => none
    | some (.inr m) => some [(lo, hi, m)]
    | some (.inl c) => match wrF x n lo c f with
      | none => none
      | some a => match wrF x n c hi f with
        | none => none
        | some b => some (a ++ (c, c, worth f c / sel x c) :: b)
def wr (n : Nat) (x : Bool) (r : Row) : Option (List Nr) := match r with
  | (lo, hi, .tm t) => some [(lo, hi, t / sel x lo)]
  | (lo, hi, .fm f) => wrF x n lo hi f
def wrs (n : Nat) (x : Bool) : List Row → Option (List Nr)
  | [] => some []
  | r :: rs => match wr n x r with
    | none => none
    | some a => match wrs n x rs with
      | none => none
      | some b => some (a ++ b)
def insN (x : Int) : List Int → List Int
  | [] => [x]
  | y :: ys => if x < y then x :: y :: ys else if x = y then y :: ys else y :: insN x ys
def nsort : List Int → List Int
  | [] => []
  | x :: xs => insN x (nsort xs)
def swingsOf (rows : List Nr) : List (Int × List (P2 × P2)) := (nsort (rows.map (·.2.2))).map fun m => (m, joined (rows.map fun r => (r.1, r.2.1, decide (r.2.2 = m))))
abbrev Mk := P2 × Bool
def marksOf (x : Bool) (r : Row) : List Mk := match r with
  | (lo, _, .tm t) => [(lowest t (sel x lo), true)]
  | (lo, hi, .fm f) => [(lowest (worth f lo) (sel x lo), decide (sel (!x) f = 0)), (lowest (worth f hi) (sel x hi), decide (sel (!x) f = 0))]
def bndStep (b : P2 × P2) (m : Mk) : P2 × P2 := (if below m.1 b.1 then m.1 else b.1, if below b.2 m.1 then m.1 else b.2)
def boundsOf (marks : List Mk) : Option (Mk × Mk) := match marks with
  | [] => none
  | m :: _ => some (((marks.foldl bndStep (m.1, m.1)).1, decide (((marks.foldl bndStep (m.1, m.1)).1, true) ∈ marks)), ((marks.foldl bndStep (m.1, m.1)).2, decide (((marks.foldl bndStep (m.1, m.1)).2, true) ∈ marks)))
/-! ### answers -/
def ratiosOf (ps : List Pc) (told : List Int) : List (P2 × P2) := joined (ps.map fun p => (p.lo, p.hi, decide (p.told = told)))
def knownOf (ps : List Pc) : List (List Int) := ps.foldl (fun acc p => if p.told ∈ acc then acc else acc ++ [p.told]) []
def allAnswers (ps : List Pc) : List (List (P2 × P2) × List Int) := (knownOf ps).map fun t => (ratiosOf ps t, t)
def coarsestOf (al : List (List (P2 × P2) × List Int)) : P2 := al.foldl (fun best a => match a.1.head?, a.1.getLast? with
  | some s, some e => let q := lowest (e.2.1 * s.1.2) (e.2.2 * s.1.1); if below best q then q else best
  | _, _ => best) (1, 1)
def lexLt : List Int → List Int → Bool
  | [], [] => false
  | [], _ :: _ => true
  | _ :: _, [] => false
  | x :: xs, y :: ys => if x = y then lexLt xs ys else decide (x < y)
def insL (x : List Int) : List (List Int) → List (List Int)
  | [] => [x]
  | y :: ys => if lexLt y x then y :: insL x ys else x :: y :: ys
def sortL : List (List Int) → List (List Int)
  | [] => []
  | x :: xs => insL x (sortL xs)
def noTwins (rows : List (List Int)) : Bool := (List.range (rows.length - 1)).all fun k => !decide (rows[k]? = rows[k + 1]?)
def parts (sc : Sc) (rs : List P2) : Bool := noTwins (sortL (rs.map fun r => (led sc r).told))
def allSteps : List St := [.go false, .stop false] ++ ([1, 2, 3, 4].flatMap fun n => [.act .wait false n, .act .count false n, .act .both false n]) ++ ([.go true, .stop true] ++ ([1, 2, 3, 4].flatMap fun n => [.act .wait true n, .act .count true n, .act .both true n]))
def St.ans : St → Nat
  | .act .wait _ _ => 0
  | .act _ _ _ => 1
  | _ => 0
def ansIn (sc : Sc) : Nat := (sc.map St.ans).sum
/-! ### likeness -/
def cutsOf (ps : List Pc) : List P2 := (ps.filter fun p => decide (p.lo = p.hi)).map (·.lo)
/-- merging, with some turns -/
def mergeF : Nat → List P2 → List P2 → List P2
  | 0, _, _ => []
  | n + 1, [], [] => []
  | n + 1, a :: as, [] => a :: mergeF n as []
  | n + 1, [], b :: bs => b :: mergeF n [] bs
  | n + 1, a :: as, b :: bs => if less a b then a :: mergeF n as (b :: bs) else if a = b then b :: mergeF n as bs else b :: mergeF n (a :: as) bs
def merged (a b : List P2) : List P2 := mergeF (a.length + b.length + 1) a b
def toldAt (sc : Sc) (r : P2) : List Int × List Int := ((led sc r).told, (led sc r).heard)
def overB (lo hi : P2) (p : Pc) : Bool := !decide (p.lo = p.hi) && !less lo p.lo && !less p.hi hi
def pieceOver (ps : List Pc) (lo hi : P2) : Option Pc := match ps.find? (overB lo hi) with
  | some p => some p
  | none => ps.head?
def rowsBetween (a b : Pc) (lo hi : P2) : List Gr :=
  if ¬ a.told = b.told ∨ ¬ a.heard.length = b.heard.length then [(lo, hi, false)] else
    match ((a.heard.zip b.heard).filter fun q => !decide (q.1 = q.2)).map fun q => minus q.1 q.2 with
    | [] => [(lo, hi, true)]
    | g :: gs => match zeroIn g lo hi with
      | none => [(lo, hi, false)]
      | some c => [(lo, c, false), (c, c, (g :: gs).all fun z => decide (worth z c = 0)), (c, hi, false)]
/-- rows of all ratios, cut by cut -/
def rowsGo (one other : Sc) (a b : List Pc) : List P2 → P2 → Option (List Gr)
  | [], _ => some []
  | r :: rs, lo => match pieceOver a lo r, pieceOver b lo r with
    | some p, some q => match rowsGo one other a b rs r with
      | some t => some (rowsBetween p q lo r ++ (if r = HI then [] else [(r, r, decide (toldAt one r = toldAt other r))]) ++ t)
      | none => none
    | _, _ => none
def allRows (one other : Sc) (a b : List Pc) : Option (List Gr) := rowsGo one other a b (merged (cutsOf a) (cutsOf b) ++ [HI]) LO
def alikeB (rows : List Gr) : Bool := rows.all (·.2.2)
def simF (lo hi : P2) : Nat → P2 → P2 → P2 → Option P2
  | 0, _, _, _ => none
  | n + 1, l, r, m => if less lo m && less m hi then some m else if less lo m then simF lo hi n l m (plus l m) else simF lo hi n m r (plus m r)
def simplest (lo hi : P2) : Option P2 := if lo = hi then some lo else simF lo hi FU (0, 1) (1, 0) (1, 1)
/-- by the sum, then by the first number -/
def ltK (a b : P2) : Bool := lexLt [a.1 + a.2, a.1, a.2] [b.1 + b.2, b.1, b.2]
def minK (x : P2) (xs : List P2) : P2 := xs.foldl (fun a y => if ltK y a then y else a) x
def simAll : List Gr → Option (List P2)
  | [] => some []
  | r :: rs => if r.2.2 then simAll rs else match simplest r.1 r.2.1 with
    | none => none
    | some c => match simAll rs with
      | none => none
      | some l => some (c :: l)
def partingOf (rows : List Gr) : Option (Option P2) := match simAll rows with
  | none => none
  | some [] => some none
  | some (x :: xs) => some (some (minK x xs))
end PL
set_option maxHeartbeats 0
/-! Runs: rows, forms, jumps, stretches. -/
namespace TB
open PySem PL
/-! ### ends of lists -/
theorem ixN_last {α : Type} (l : List α) (x : α) : L2.ixN (l ++ [x]).length (-1) = some l.length := by
  unfold L2.ixN
  rw [if_neg (by omega), if_pos (by simp; omega)]
  simp
  omega
theorem opI_last (l : List PyData) (x : PyData) : opI (.list (l ++ [x])) (.int (-1)) = some x := by
  show (L2.ixN _ _).bind _ = _
  rw [ixN_last]
  simp
theorem ixN_last2 {α : Type} (l : List α) (y x : α) : L2.ixN (l ++ [y, x]).length (-2) = some l.length := by
  unfold L2.ixN
  rw [if_neg (by omega), if_pos (by simp; omega)]
  simp
  omega
theorem opI_last2 (l : List PyData) (y x : PyData) : opI (.list (l ++ [y, x])) (.int (-2)) = some y := by
  show (L2.ixN _ _).bind _ = _
  rw [ixN_last2]
  simp
theorem set_last {α : Type} (l : List α) (x y : α) : (l ++ [x]).set l.length y = l ++ [y] := by
  rw [List.set_append_right _ _ (by omega)]
  simp
theorem slc_last2 (l : List PyData) (y x : PyData) : opS (.list (l ++ [y, x])) none (some (-2)) = some (.own l) := by
  have : (-2 + ((l.length : Int) + 2)).toNat = l.length := by omega
  simp [opS, cutD, HT.sIx, this]
/-! ### rings of a script -/
def ringsIn (sc : Sc) : Nat := (sc.filter fun s => decide (s = .ring)).length
theorem ring_test (s : St) : ∃ w l, eSt s = .tuple (.str w :: l) ∧ (w == sRing) = decide (s = .ring) := by
  cases s with
  | ring => exact ⟨_, _, rfl, by simp⟩
  | go x => exact ⟨_, _, rfl, by simp⟩
  | stop x => exact ⟨_, _, rfl, by simp⟩
  | act w x n => exact ⟨_, _, rfl, by simp⟩
theorem r_rings_in (k : Nat) (sc : Sc) : run tx0 (k + 1) f_rings_in [eSc sc] none = .ret (.fro (.int (ringsIn sc))) none := by
  rw [run0 k _ _ _ D_rings_in]
  have E : ev (tx0.lk (run tx0 k) (runs tx0 k).2.2) (.lc (.loc 0) (.one 1) [1] q1_rings_in e1_rings_in) [.val (eSc sc), .no] = .ok (.own ((sc.filter fun s => decide (s = .ring)).map eSt)) [.val (eSc sc), .no] :=
    ev_lcN (g0 := [.val (eSc sc), .no]) eSt sc _ eSt (fun s => [.val (eSc sc), .val (eSt s)]) (.fro (eSc sc)) (by simp) (by simp [items, eSc]) (by simp [wipeOk]) (by simp [wipeG]) (by simp [unwipe])
      (fun s hs => by
        obtain ⟨w, l, e1, e2⟩ := ring_test s
        exact ⟨by simp, by simp [wipeG], by simp [condOf, q1_rings_in, e1, e2], fun _ => ⟨_, by simp [e1_rings_in]; rfl, rfl⟩⟩)
  simp [runD, startG, d_rings_in, b_rings_in, endG, E, ringsIn]
/-! ### rows -/
def eRv : Rv → PyData
  | .fm f => eP f
  | .tm t => .int t
def eRow (r : Row) : PyData := .tuple [eP r.1, eP r.2.1, eRv r.2.2]
theorem dep_Rv (v : Rv) : (eRv v).depth ≤ 60 := by
  cases v with
  | fm f => exact dep_P f
  | tm t => simp [eRv]
theorem eqv_Rv (v w : Rv) : PyData.eqv (eRv v) (eRv w) = decide (v = w) := by
  cases v with
  | fm f => cases w with
    | fm g => simp only [eRv]; rw [eqv_P]; simp
    | tm t => simp [eRv, eP, PyData.eqv]
  | tm t => cases w with
    | fm g => simp [eRv, eP, PyData.eqv]
    | tm u => simp [eRv]
@[simp] theorem opC_eqRv (v w : Rv) : opC .eq (eRv v) (eRv w) = some (decide (v = w)) := by rw [opC_eq _ _ (eqOk_l _ _ (dep_Rv v)), eqv_Rv]
@[simp] theorem opC_neRv (v w : Rv) : opC .ne (eRv v) (eRv w) = some (!decide (v = w)) := by rw [opC_ne _ _ (eqOk_l _ _ (dep_Rv v)), eqv_Rv]
theorem app_ok {xs : List PyData} (h : xs.length ≤ 1000000) : xs.length < sizeLine := by rw [sz]; omega
theorem r_rows_of (k f : Nat) (sc : Sc) (hs : scOk sc = true) (i : Nat) {ps : List Pc} (h : course f sc = some ps) (hl : ps.length ≤ 1000000) (hi : ∀ p ∈ ps, i < p.heard.length) : run tx0 (k + f + 9) f_rows_of [eSc sc, .int i] none = .ret (.fro (.list ((ps.map (rowOf i)).map eRow))) none := by
  rw [run0 (k + f + 8) _ _ _ D_rows_of]
  have C := r_course k f sc hs h hl
  obtain ⟨g', L, a, b, c, d, e, q, _, _, _, _, _, _, rfl⟩ := loopF_pre (tg := .many [3, 4, 5, 6, 7, 8]) (b := fun g => exs (tx0.lk (run tx0 (k + f + 8)) (runs tx0 (k + f + 8)).2.2) l1_rows_of g) ePc
    (fun pre g => ∃ a b c d e q, isIo a = false ∧ isIo b = false ∧ isIo c = false ∧ isIo d = false ∧ isIo e = false ∧ isIo q = false ∧ g = [.val (eSc sc), .val (.int i), .own (pre.map fun p => eRow (rowOf i p)), a, b, c, d, e, q]) ps []
    [.val (eSc sc), .val (.int i), .own [], .no, .no, .no, .no, .no, .no] ⟨_, _, _, _, _, _, rfl, rfl, rfl, rfl, rfl, rfl, rfl⟩ (fun p x post e g ⟨a, b, c, d, e', q, ha, hb, hc, hd, he, hq, hg⟩ => by
      subst hg
      rw [List.nil_append] at e
      have hx : x ∈ ps := by rw [e]; simp
      have hlen : p.length < sizeLine := by
        have := congrArg List.length e
        simp at this
        rw [sz]; omega
      have hix := hi x hx
      obtain ⟨lo, hi', time, tk, told, heard⟩ := x
      obtain ⟨v, hv⟩ : ∃ v, heard[i]? = some v := ⟨_, List.getElem?_eq_getElem hix⟩
      have ix : opI (ePs heard) (.int i) = some (eP v) := (opI_nat _ (by rw [List.getElem?_map, hv]; rfl)).2
      refine ⟨_, _, by simp [ha, hb, hc, hd, he, hq, ePc]; rfl, ?_, .val (eP lo), .val (eP hi'), .val (eP time), .val (eTk tk), .val (eIs told), .val (ePs heard), rfl, rfl, rfl, rfl, rfl, rfl, rfl⟩
      by_cases z : lo = hi'
      · simp [l1_rows_of, z, ix, lent, lentSl, hlen, eRow, rowOf, eRv, hv]
      · simp [l1_rows_of, z, ix, lent, lentSl, hlen, eRow, rowOf, eRv, hv])
  have e1 : ps.map (eRow ∘ rowOf i) = ps.map fun p => eRow (rowOf i p) := rfl
  simp [runD, startG, d_rows_of, b_rows_of, endG, C, ex_for, evi, items, L, e1]
/-! ### forms -/
def eFr (r : Fr) : PyData := .tuple [.tuple [eP r.1.1, eP r.1.2], eP r.2]
/-- rows of a ring: forms and numbers by turns -/
structure RowsOk (rows : List Row) : Prop where
  ev : ∀ k, 2 * k < rows.length → ∃ lo hi f, rows[2 * k]? = some (lo, hi, .fm f) ∧ Rb lo ∧ Rb hi
  od : ∀ k, 2 * k + 1 < rows.length → ∃ r t, rows[2 * k + 1]? = some (r, r, .tm t) ∧ Rb r
  odd : rows.length % 2 = 1
theorem evens_rg (n : Nat) : rangeC 0 2 (cntC 0 n 2) = (evens n).map fun k : Nat => .int (k : Int) := by
  have : cntC 0 n 2 = (n + 1) / 2 := by
    unfold cntC
    split <;> omega
  rw [this]
  simp [rangeC, evens]
  intro a _
  omega
theorem odds_rg (n : Nat) : rangeC 1 2 (cntC 1 n 2) = (odds n).map fun k : Nat => .int (k : Int) := by
  have : cntC 1 n 2 = n / 2 := by
    unfold cntC
    split <;> omega
  rw [this]
  simp [rangeC, odds]
  intro a _
  omega
theorem evens_mem {n k : Nat} (h : k ∈ evens n) : ∃ j, k = 2 * j ∧ 2 * j < n := by
  simp only [evens, List.mem_map, List.mem_range] at h
  obtain ⟨j, hj, rfl⟩ := h
  exact ⟨j, rfl, by omega⟩
theorem odds_mem {n k : Nat} (h : k ∈ odds n) : ∃ j, k = 2 * j + 1 ∧ 2 * j + 1 < n := by
  simp only [odds, List.mem_map, List.mem_range] at h
  obtain ⟨j, hj, rfl⟩ := h
  exact ⟨j, rfl, by omega⟩
/-- the k-th of the evens, behind which so many stand -/
theorem evens_at {n j : Nat} {p post : List Nat} (h : evens n = p ++ j :: post) : j = 2 * p.length := by
  have h1 : (evens n)[p.length]? = some j := by rw [h]; simp
  have hl : p.length < (n + 1) / 2 := by
    have := congrArg List.length h
    simp [evens] at this
    omega
  simp [evens, hl] at h1
  omega
theorem rf_len (rows : List Row) : ∀ (l : List Nat) (acc : List Fr), (l.foldl (rfStep rows) acc).length ≤ acc.length + l.length
  | [], acc => by simp
  | k :: l, acc => by
    have h1 : (rfStep rows acc k).length ≤ acc.length + 1 := by
      unfold rfStep
      split
      · split
        · split <;> simp
        · simp
      · omega
    have := rf_len rows l (rfStep rows acc k)
    simp only [List.foldl_cons, List.length_cons]
    omega
theorem rf_ne (rows : List Row) (ok : RowsOk rows) {acc : List Fr} {k : Nat} (hk : 2 * k < rows.length) (h : k = 0 ∨ acc ≠ []) : rfStep rows acc (2 * k) ≠ [] := by
  obtain ⟨lo, hi, f, e, _⟩ := ok.ev k hk
  unfold rfStep
  rw [e]
  dsimp only
  split
  · rename_i q
    rcases h with h | h
    · subst h
      simp at q
    · cases acc with
      | nil => exact absurd rfl h
      | cons a l => simp
  · simp
@[simp] theorem opI_w0 (a b c : PyData) : opI (.tuple [a, b, c]) (.int 0) = some a := opI_t0 a [b, c]
theorem r_rf (k : Nat) (sc : Sc) (i : PyData) {rows : List Row} (ok : RowsOk rows) (hl : rows.length ≤ 1000000) (a b c d : Sl) (ha : isIo a = false) (hb : isIo b = false) (hc : isIo c = false) (hd : isIo d = false) :
    ∃ a' b' c' d', loopF (.one 2) (fun g => exs (tx0.lk (run tx0 (k + 1)) (runs tx0 (k + 1)).2.2) l1_ring_forms g) ((evens rows.length).map fun k : Nat => .int (k : Int)) [.val (eSc sc), .val i, a, .val (.list (rows.map eRow)), .own [], b, c, d]
      = .nx [.val (eSc sc), .val i, a', .val (.list (rows.map eRow)), .own ((ringForms rows).map eFr), b', c', d'] := by
  obtain ⟨g', L, a', b', c', d', _, _, _, _, _, rfl⟩ := loopF_pre (tg := .one 2) (b := fun g => exs (tx0.lk (run tx0 (k + 1)) (runs tx0 (k + 1)).2.2) l1_ring_forms g) (fun k : Nat => PyData.int (k : Int))
    (fun pre g => ∃ a b c d, isIo a = false ∧ isIo b = false ∧ isIo c = false ∧ isIo d = false ∧ (pre = [] ∨ pre.foldl (rfStep rows) [] ≠ []) ∧ g = [.val (eSc sc), .val i, a, .val (.list (rows.map eRow)), .own ((pre.foldl (rfStep rows) []).reverse.map eFr), b, c, d]) (evens rows.length) []
    [.val (eSc sc), .val i, a, .val (.list (rows.map eRow)), .own [], b, c, d] ⟨a, b, c, d, ha, hb, hc, hd, .inl rfl, rfl⟩ (fun p j post e g ⟨a, b, c, d, ha, hb, hc, hd, hn, hg⟩ => by
      subst hg
      rw [List.nil_append] at e
      have hj := evens_at e
      have hm : j ∈ evens rows.length := by rw [e]; simp
      obtain ⟨j', rfl, hj2⟩ := evens_mem hm
      have hjp : j' = p.length := by omega
      obtain ⟨lo, hi, f, e1, b1, b2⟩ := ok.ev j' hj2
      have len := rf_len rows p []
      have pl : p.length ≤ 1000000 := by
        have := congrArg List.length e
        simp [evens] at this
        omega
      have ne := rf_ne rows ok (acc := p.foldl (rfStep rows) []) hj2 (by
        rcases hn with h | h
        · subst h; exact .inl (by simpa using hjp)
        · exact .inr h)
      generalize hacc : p.foldl (rfStep rows) [] = acc at *
      have i1 : opI (.list (rows.map eRow)) (.int ((2 * j' : Nat) : Int)) = some (eRow (lo, hi, .fm f)) := (opI_nat _ (by rw [List.getElem?_map, e1]; rfl)).1
      refine ⟨_, [.val (eSc sc), .val i, .val (.int ((2 * j' : Nat) : Int)), .val (.list (rows.map eRow)), .own ((rfStep rows acc (2 * j')).reverse.map eFr), .val (eP lo), .val (eP hi), .val (eP f)], by simp [ha]; rfl, ?_, .val (.int ((2 * j' : Nat) : Int)), .val (eP lo), .val (eP hi), .val (eP f), rfl, rfl, rfl, rfl, .inr (by rw [List.foldl_append, hacc]; exact ne), by rw [List.foldl_append, hacc]; rfl⟩
      have W := r_worth k f lo b1.sm
      have ln : acc.length < sizeLine := by rw [sz]; simp at len; omega
      have c1 : ((2 * j' : Nat) : Int) = 2 * (j' : Int) := by omega
      rw [c1] at i1 ⊢
      by_cases j0 : j' = 0
      · subst j0
        simp at i1
        simp [l1_ring_forms, i1, eRow, eRv, hb, hc, hd, lent, lentSl, ln, rfStep, e1, eFr]
      · obtain ⟨lo2, hi2, f2, e2, _, _⟩ := ok.ev (j' - 1) (by omega)
        obtain ⟨r2, t2, e3, _⟩ := ok.od (j' - 1) (by omega)
        have e2' : rows[2 * j' - 2]? = some (lo2, hi2, .fm f2) := by rw [← e2]; congr 1; omega
        have e3' : rows[2 * j' - 1]? = some (r2, r2, .tm t2) := by rw [← e3]; congr 1; omega
        have i2 : opI (.list (rows.map eRow)) (.int (2 * (j' : Int) - 2)) = some (eRow (lo2, hi2, .fm f2)) := by
          have := (opI_nat (rows.map eRow) (n := 2 * j' - 2) (by rw [List.getElem?_map, e2']; rfl)).1
          rwa [show ((2 * j' - 2 : Nat) : Int) = 2 * (j' : Int) - 2 by omega] at this
        have i3 : opI (.list (rows.map eRow)) (.int (2 * (j' : Int) - 1)) = some (eRow (r2, r2, .tm t2)) := by
          have := (opI_nat (rows.map eRow) (n := 2 * j' - 1) (by rw [List.getElem?_map, e3']; rfl)).1
          rwa [show ((2 * j' - 1 : Nat) : Int) = 2 * (j' : Int) - 1 by omega] at this
        have gt : 0 < (j' : Int) := by omega
        have gt' : 0 < j' := by omega
        have gt2 : 0 < 2 * (j' : Int) := by omega
        obtain ⟨x, r, rfl⟩ : ∃ x r, acc = x :: r := by
          cases acc with
          | nil =>
            rcases hn with h | h
            · subst h; simp at hjp; exact absurd hjp j0
            · exact absurd rfl h
          | cons x r => exact ⟨x, r, rfl⟩
        obtain ⟨⟨x1, x2⟩, x3⟩ := x
        have il := opI_last (r.map eFr).reverse (.tuple [.tuple [eP x1, eP x2], eP x3])
        have nl' : L2.ixN (r.length + 1) (-1) = some r.length := by
          have := ixN_last (r.map eFr).reverse (eFr ((x1, x2), x3))
          simpa using this
        have sl' : ∀ y z : PyData, ((r.map eFr).reverse ++ [z]).set r.length y = (r.map eFr).reverse ++ [y] := fun y z => by
          have := set_last (r.map eFr).reverse z y
          simpa using this
        have lr : r.length + 1 < sizeLine := by simpa using ln
        by_cases q1 : f2 = f
        · subst q1
          by_cases q2 : t2 = worth f2 lo
          · subst q2
            simp [l1_ring_forms, i1, i2, i3, eRow, eRv, hb, hc, hd, held, lent, lentSl, rfStep, e1, e2', e3', gt, gt', gt2, W, il, nl', sl', eFr]
          · simp [l1_ring_forms, i1, i2, i3, eRow, eRv, hb, hc, hd, held, lent, lentSl, rfStep, e1, e2', e3', gt, gt', gt2, W, q2, lr, eFr]
        · have q1' : ¬ (f2.1 = f.1 ∧ f2.2 = f.2) := fun h => q1 (Prod.ext h.1 h.2)
          simp [l1_ring_forms, i1, i2, i3, eRow, eRv, hb, hc, hd, held, lent, lentSl, rfStep, e1, e2', e3', gt, gt', gt2, W, q1, lr, eFr])
  rw [List.nil_append] at L
  exact ⟨a', b', c', d', L⟩
end TB
set_option maxHeartbeats 0
/-! Runs: forms, jumps, stretches, further. -/
namespace TB
open PySem PL
theorem whole_nat {i n : Nat} (h : i < n) : isWholeD (.int i) 0 ((n : Int) - 1) = true := by
  have a : (0 : Int) ≤ i := by omega
  have b : (i : Int) ≤ n - 1 := by omega
  simp [isWholeD, a, b]
theorem r_ring_forms (k f : Nat) (sc : Sc) (hs : scOk sc = true) (i : Nat) (hi0 : i < ringsIn sc) {ps : List Pc} (h : course f sc = some ps) (hl : ps.length ≤ 1000000) (hi : ∀ p ∈ ps, i < p.heard.length) (ok : RowsOk (ps.map (rowOf i))) :
    run tx0 (k + f + 10) f_ring_forms [eSc sc, .int i] none = .ret (.fro (.list ((ringForms (ps.map (rowOf i))).map eFr))) none := by
  rw [run0 (k + f + 9) _ _ _ D_ring_forms]
  have h1 := r_need_script (k + f + 5) (eSc sc) (nd_Sc sc)
  rw [scOk_is hs] at h1
  have h2 := r_rings_in (k + f + 8) sc
  have h3 := r_need_index (k + f + 7) (.int i) (ringsIn sc) (nd_int _)
  rw [whole_nat hi0] at h3
  have h4 := r_rows_of k f sc hs i h hl hi
  obtain ⟨a, b, c, d, L⟩ := r_rf (k + f + 8) sc (.int i) ok (by simpa using hl) (.no) (.no) (.no) (.no) rfl rfl rfl rfl
  have r3 : ∀ g1, rng3Q 2 (.fro (.int 0)) (.fro (.int ((ps.map (rowOf i)).length : Nat))) g1 = .ok (.own ((evens (ps.map (rowOf i)).length).map fun k : Nat => .int (k : Int))) g1 := fun g1 => by
    rw [rng3_ok (by omega) (by simp; omega) (by omega) (by omega) (by omega) (by omega), evens_rg]
  simp only [List.length_map] at L r3
  simp only [if_true] at h1 h3
  simp only [runD, startG, d_ring_forms, b_ring_forms]
  simp only [List.map_map] at h4 L ⊢
  simp [h1, h2, h3, h4, ex_for, evi, items, r3, L, endG, d_ring_forms]
/-! ### jumps -/
def rjGo (rows : List Row) (l : List Nat) : List P2 := (l.filter (rjTest rows)).filterMap fun k => (rows[k]?).map (·.1)
theorem rjGo_len (rows : List Row) (l : List Nat) : (rjGo rows l).length ≤ l.length := Nat.le_trans (List.length_filterMap_le _ _) (List.length_filter_le _ _)
theorem opC_nei' (i j : Int) : opC .ne (.int i) (.int j) = some (!decide (i = j)) := by rw [opC_nei, decide_not]
theorem r_rj (k : Nat) (sc : Sc) (i : PyData) {rows : List Row} (ok : RowsOk rows) (hl : rows.length ≤ 1000000) :
    ∃ a' b' c', loopF (.one 2) (fun g => exs (tx0.lk (run tx0 (k + 1)) (runs tx0 (k + 1)).2.2) l1_ring_jumps g) ((odds rows.length).map fun k : Nat => .int (k : Int)) [.val (eSc sc), .val i, .no, .val (.list (rows.map eRow)), .own [], .no, .no]
      = .nx [.val (eSc sc), .val i, a', .val (.list (rows.map eRow)), .own ((ringJumps rows).map fun p => eP p), b', c'] := by
  obtain ⟨g', L, a', b', c', _, _, _, rfl⟩ := loopF_pre (tg := .one 2) (b := fun g => exs (tx0.lk (run tx0 (k + 1)) (runs tx0 (k + 1)).2.2) l1_ring_jumps g) (fun k : Nat => PyData.int (k : Int))
    (fun pre g => ∃ a b c, isIo a = false ∧ isIo b = false ∧ isIo c = false ∧ g = [.val (eSc sc), .val i, a, .val (.list (rows.map eRow)), .own ((rjGo rows pre).map fun p => eP p), b, c]) (odds rows.length) []
    [.val (eSc sc), .val i, .no, .val (.list (rows.map eRow)), .own [], .no, .no] ⟨_, _, _, rfl, rfl, rfl, rfl⟩ (fun p j post e g ⟨a, b, c, ha, hb, hc, hg⟩ => by
      subst hg
      rw [List.nil_append] at e
      have hm : j ∈ odds rows.length := by rw [e]; simp
      obtain ⟨j', rfl, hj2⟩ := odds_mem hm
      obtain ⟨r, t, e1, b1⟩ := ok.od j' hj2
      obtain ⟨l0, h0, f0, e0, _, _⟩ := ok.ev j' (by omega)
      obtain ⟨l2, h2, f2, e2, _, _⟩ := ok.ev (j' + 1) (by have := ok.odd; omega)
      have len := rjGo_len rows p
      have pl : p.length ≤ 1000000 := by
        have := congrArg List.length e
        simp [odds] at this
        omega
      have e0' : rows[2 * j' + 1 - 1]? = some (l0, h0, .fm f0) := by rw [← e0]; congr 1
      have e2' : rows[2 * j' + 1 + 1]? = some (l2, h2, .fm f2) := by rw [← e2]; congr 1
      have i1 : opI (.list (rows.map eRow)) (.int (2 * (j' : Int) + 1)) = some (eRow (r, r, .tm t)) := by
        have := (opI_nat (rows.map eRow) (n := 2 * j' + 1) (by rw [List.getElem?_map, e1]; rfl)).1
        rwa [show ((2 * j' + 1 : Nat) : Int) = 2 * (j' : Int) + 1 by omega] at this
      have i0 : opI (.list (rows.map eRow)) (.int (2 * (j' : Int))) = some (eRow (l0, h0, .fm f0)) := by
        have := (opI_nat (rows.map eRow) (n := 2 * j') (by rw [List.getElem?_map, e0]; rfl)).1
        rwa [show ((2 * j' : Nat) : Int) = 2 * (j' : Int) by omega] at this
      have i2 : opI (.list (rows.map eRow)) (.int (2 * (j' : Int) + 1 + 1)) = some (eRow (l2, h2, .fm f2)) := by
        have := (opI_nat (rows.map eRow) (n := 2 * j' + 1 + 1) (by rw [List.getElem?_map, e2']; rfl)).1
        rwa [show ((2 * j' + 1 + 1 : Nat) : Int) = 2 * (j' : Int) + 1 + 1 by omega] at this
      have W0 := r_worth k f0 r b1.sm
      have W2 := r_worth k f2 r b1.sm
      have ln : (rjGo rows p).length < sizeLine := by rw [sz]; omega
      have c1 : ((2 * j' + 1 : Nat) : Int) = 2 * (j' : Int) + 1 := by omega
      have gs : rjGo rows (p ++ [2 * j' + 1]) = rjGo rows p ++ (if rjTest rows (2 * j' + 1) then [r] else []) := by
        unfold rjGo
        rw [List.filter_append, List.filterMap_append]
        congr 1
        cases q : rjTest rows (2 * j' + 1) <;> simp [q, e1]
      have tt : rjTest rows (2 * j' + 1) = (!decide (worth f0 r = t) || !decide (worth f2 r = t)) := by
        simp only [rjTest, e1, worthAt, e0', e2']
        simp
      rw [gs, tt]
      refine ⟨_, [.val (eSc sc), .val i, .val (.int ((2 * j' + 1 : Nat) : Int)), .val (.list (rows.map eRow)), .own ((rjGo rows p ++ (if (!decide (worth f0 r = t) || !decide (worth f2 r = t)) then [r] else [])).map fun p => eP p), .val (eP r), .val (.int t)], by simp [ha]; rfl, ?_, _, _, _, rfl, rfl, rfl, rfl⟩
      rw [c1]
      by_cases q0 : worth f0 r = t
      · by_cases q2 : worth f2 r = t
        · simp [l1_ring_jumps, i0, i1, i2, eRow, eRv, hb, hc, W0, W2, q0, q2]
        · simp [l1_ring_jumps, i0, i1, i2, eRow, eRv, hb, hc, W0, W2, q0, q2, lent, lentSl, ln]
      · simp [l1_ring_jumps, i0, i1, i2, eRow, eRv, hb, hc, W0, W2, q0, lent, lentSl, ln])
  rw [List.nil_append] at L
  exact ⟨a', b', c', L⟩
theorem r_ring_jumps (k f : Nat) (sc : Sc) (hs : scOk sc = true) (i : Nat) (hi0 : i < ringsIn sc) {ps : List Pc} (h : course f sc = some ps) (hl : ps.length ≤ 1000000) (hi : ∀ p ∈ ps, i < p.heard.length) (ok : RowsOk (ps.map (rowOf i))) :
    run tx0 (k + f + 10) f_ring_jumps [eSc sc, .int i] none = .ret (.fro (.list ((ringJumps (ps.map (rowOf i))).map fun p => eP p))) none := by
  rw [run0 (k + f + 9) _ _ _ D_ring_jumps]
  have h1 := r_need_script (k + f + 5) (eSc sc) (nd_Sc sc)
  rw [scOk_is hs] at h1
  have h2 := r_rings_in (k + f + 8) sc
  have h3 := r_need_index (k + f + 7) (.int i) (ringsIn sc) (nd_int _)
  rw [whole_nat hi0] at h3
  have h4 := r_rows_of k f sc hs i h hl hi
  obtain ⟨a, b, c, L⟩ := r_rj (k + f + 8) sc (.int i) ok (by simpa using hl)
  have r3 : ∀ g1, rng3Q 2 (.fro (.int 1)) (.fro (.int ((ps.map (rowOf i)).length : Nat))) g1 = .ok (.own ((odds (ps.map (rowOf i)).length).map fun k : Nat => .int (k : Int))) g1 := fun g1 => by
    rw [rng3_ok (by omega) (by simp; omega) (by omega) (by omega) (by omega) (by omega), odds_rg]
  simp only [List.length_map] at L r3
  simp only [if_true] at h1 h3
  simp only [runD, startG, d_ring_jumps, b_ring_jumps]
  simp only [List.map_map] at h4 L ⊢
  simp [h1, h2, h3, h4, ex_for, evi, items, r3, L, endG, d_ring_jumps]
/-! ### stretches -/
def eGr (r : Gr) : PyData := .tuple [eP r.1, eP r.2.1, .bool r.2.2]
def eS (s : P2 × P2) : PyData := .tuple [eP s.1, eP s.2]
theorem jn_len (acc : List (P2 × P2)) (r : Gr) : (jn acc r).length ≤ acc.length + 1 := by
  unfold jn
  split
  · split
    · simp
    · split <;> simp
  · split <;> simp
theorem jns_len : ∀ (l : List Gr) (acc : List (P2 × P2)), (l.foldl jn acc).length ≤ acc.length + l.length
  | [], acc => by simp
  | r :: l, acc => by
    have := jn_len acc r
    have := jns_len l (jn acc r)
    simp only [List.foldl_cons, List.length_cons]
    omega
theorem dep_S (s : P2 × P2) : (eS s).depth ≤ 60 := by simp [eS, eP, PyData.depth, PyData.depthAll]
theorem eqv_S (a b : P2 × P2) : PyData.eqv (eS a) (eS b) = decide (a = b) := by
  obtain ⟨a1, a2⟩ := a
  obtain ⟨b1, b2⟩ := b
  simp only [eS, eqv_t, eqvA_cc, eqvA_nn, eqv_P, Bool.and_true]
  rw [Bool.eq_iff_iff]
  simp [Prod.ext_iff]
theorem opC_eqS (a b : P2 × P2) : opC .eq (eS a) (eS b) = some (decide (a = b)) := by rw [opC_eq _ _ (eqOk_l _ _ (dep_S a)), eqv_S]
theorem r_joined (k : Nat) (rows : List Gr) (hl : rows.length ≤ 1000000) : run tx0 (k + 1) f_joined [.list (rows.map eGr)] none = .ret (.fro (.list ((joined rows).map eS))) none := by
  rw [run0 k _ _ _ D_joined]
  obtain ⟨g', L, f, a', b', c', _, _, _, hf, rfl⟩ := loopF_pre (tg := .many [2, 3, 4]) (b := fun g => exs (tx0.lk (run tx0 k) (runs tx0 k).2.2) l1_joined g) eGr
    (fun pre g => ∃ f a b c, isIo a = false ∧ isIo b = false ∧ isIo c = false ∧ (f = Sl.own ((pre.foldl jn []).reverse.map eS) ∨ f = Sl.val (.list ((pre.foldl jn []).reverse.map eS))) ∧ g = [.val (.list (rows.map eGr)), f, a, b, c]) rows []
    [.val (.list (rows.map eGr)), .own [], .no, .no, .no] ⟨_, _, _, _, rfl, rfl, rfl, .inl rfl, rfl⟩ (fun p r post e g ⟨f, a, b, c, ha, hb, hc, hf, hg⟩ => by
      subst hg
      rw [List.nil_append] at e
      have len := jns_len p []
      have pl : p.length ≤ 1000000 := by
        have := congrArg List.length e
        simp at this
        omega
      rw [List.foldl_append]
      generalize p.foldl jn [] = acc at *
      obtain ⟨lo, hi, good⟩ := r
      have al : acc.length + 1 ≤ sizeLine := by rw [sz]; simp at len; omega
      have j1 : ∀ z : PyData, opB .add (.list ((acc.map eS).reverse)) (.list [z]) = some (.own ((acc.map eS).reverse ++ [z])) := fun z => opB_lst (by simpa using al)
      cases good with
      | false =>
        have je : jn acc (lo, hi, false) = acc := by
          unfold jn
          split <;> simp
        refine ⟨_, _, by simp [ha, hb, hc, eGr]; rfl, by simp [l1_joined], f, .val (eP lo), .val (eP hi), .val (.bool false), rfl, rfl, rfl, ?_, rfl⟩
        simp only [List.foldl_cons, List.foldl_nil, je]
        exact hf
      | true =>
        have key : ∃ f', exs (tx0.lk (run tx0 k) (runs tx0 k).2.2) l1_joined [.val (.list (rows.map eGr)), f, .val (eP lo), .val (eP hi), .val (.bool true)] = .nx [.val (.list (rows.map eGr)), f', .val (eP lo), .val (eP hi), .val (.bool true)] ∧ (f' = Sl.own ((jn acc (lo, hi, true)).reverse.map eS) ∨ f' = Sl.val (.list ((jn acc (lo, hi, true)).reverse.map eS))) := by
          have rd : ev (tx0.lk (run tx0 k) (runs tx0 k).2.2) (.loc 1) [.val (.list (rows.map eGr)), f, .val (eP lo), .val (eP hi), .val (.bool true)] = .ok (.fro (.list (acc.reverse.map eS))) [.val (.list (rows.map eGr)), .val (.list (acc.reverse.map eS)), .val (eP lo), .val (eP hi), .val (.bool true)] := by
            rcases hf with rfl | rfl <;> simp
          have fio : isIo f = false := by rcases hf with rfl | rfl <;> rfl
          by_cases z : lo = hi
          · have je : jn acc (lo, hi, true) = (lo, hi) :: acc := by
              unfold jn
              split <;> simp [z]
            rw [je]
            refine ⟨Sl.own (((lo, hi) :: acc).reverse.map eS), ?_, .inl rfl⟩
            subst z
            rcases hf with rfl | rfl <;> simp [l1_joined, j1, eS]
          · match acc, hf, rd, j1 with
            | [], hf, rd, j1 =>
              refine ⟨Sl.own ([(lo, hi)].map eS), ?_, .inl rfl⟩
              have j1 := j1 (eS (lo, hi))
              simp only [eS, List.map_nil, List.reverse_nil] at j1
              rcases hf with rfl | rfl <;> simp [l1_joined, j1, eS, z]
            | [x], hf, rd, j1 =>
              refine ⟨Sl.own (([(lo, hi), x].reverse).map eS), ?_, .inl rfl⟩
              have j1 := j1 (eS (lo, hi))
              simp [eS] at j1
              rcases hf with rfl | rfl <;> simp [l1_joined, j1, eS, z]
            | x :: y :: l, hf, rd, j1 =>
              obtain ⟨x1, x2⟩ := x
              obtain ⟨y1, y2⟩ := y
              have gt : (1 : Int) < (l.length : Int) + 2 := by omega
              have i1 := opI_last ((l.map eS).reverse ++ [eS (y1, y2)]) (eS (x1, x2))
              have i2 := opI_last2 (l.map eS).reverse (eS (y1, y2)) (eS (x1, x2))
              have s2 := slc_last2 (l.map eS).reverse (eS (y1, y2)) (eS (x1, x2))
              have q1 := opC_eqS (x1, x2) (lo, lo)
              have j2 : opB .add (.list (l.map eS).reverse) (.list [eS (y1, hi)]) = some (.own ((l.map eS).reverse ++ [eS (y1, hi)])) := opB_lst (by simp at al ⊢; omega)
              have j1 := j1 (eS (lo, hi))
              simp only [eS, List.map_cons, List.reverse_cons, List.append_assoc, List.cons_append, List.nil_append] at i1 i2 s2 q1 j1 j2
              by_cases c1 : x1 = lo ∧ x2 = lo
              · obtain ⟨e1, e2⟩ := c1
                subst e2
                subst e1
                by_cases c2 : y2 = x1
                · subst c2
                  refine ⟨Sl.own ((((y1, hi) :: l).reverse).map eS), ?_, .inl (by simp [jn, z])⟩
                  rcases hf with rfl | rfl <;> simp [l1_joined, eS, z, gt, i1, i2, s2, q1, j2]
                · refine ⟨Sl.own ((((x1, hi) :: (x1, x1) :: (y1, y2) :: l).reverse).map eS), ?_, .inl (by simp [jn, z, c2])⟩
                  rcases hf with rfl | rfl <;> simp [l1_joined, eS, z, gt, i1, i2, q1, j1, c2]
              · refine ⟨Sl.own ((((lo, hi) :: (x1, x2) :: (y1, y2) :: l).reverse).map eS), ?_, .inl (by simp [jn, z, c1])⟩
                rcases hf with rfl | rfl <;> simp [l1_joined, eS, z, gt, i1, i2, q1, j1, c1]
        obtain ⟨f', K1, K2⟩ := key
        have fio : isIo f = false := by rcases hf with rfl | rfl <;> rfl
        exact ⟨_, _, by simp [ha, hb, hc, eGr], K1, f', .val (eP lo), .val (eP hi), .val (.bool true), rfl, rfl, rfl, K2, rfl⟩)
  rw [List.nil_append] at hf
  have rd : ∀ f, (f = Sl.own ((joined rows).map eS) ∨ f = Sl.val (.list ((joined rows).map eS))) → ev (tx0.lk (run tx0 k) (runs tx0 k).2.2) (.loc 1) [.val (.list (rows.map eGr)), f, a', b', c'] = .ok (.fro (.list ((joined rows).map eS))) [.val (.list (rows.map eGr)), .val (.list ((joined rows).map eS)), a', b', c'] := fun f hf => by
    rcases hf with rfl | rfl <;> simp
  have rd := rd f hf
  simp only [runD, startG, d_joined, b_joined]
  simp [ex_for, evi, items, L, -ev_loc]
  rw [ev_loc]
  simp [L, -ev_loc, rd, endG, d_joined]
end TB
set_option maxHeartbeats 0
/-! Runs: places of rings. -/
namespace TB
open PySem PL
def eNr (r : Nr) : PyData := .tuple [eP r.1, eP r.2.1, .int r.2.2]
theorem sel_Rb {r : P2} (h : Rb r) (x : Bool) : 0 < sel x r ∧ sel x r < 2 ^ 40 := by
  have := h.a0; have := h.a1; have := h.b0; have := h.b1
  cases x <;> simp [sel] <;> omega
theorem tm_b (x : Bool) {m : Int} (h0 : 0 ≤ m) {M : Int} (h1 : m ≤ M) : Fb M (times (unit x) m) := by
  cases x <;> refine ⟨?_, ?_, ?_, ?_⟩ <;> simp [times, PL.unit] <;> omega
theorem r_wrLoop (k : Nat) (row : PyData) {lo hi f : P2} {N : Int} (hl : Rb lo) (hh : Rb hi) (hf : Fb N f) (hN : N < 2 ^ 36) (x : Bool) : ∀ (n : Nat) (m : Int) (a b c : Sl), 0 ≤ m → m + n ≤ 100000 → isIo a = false → isIo b = false → isIo c = false →
    (∀ num, wrLoop lo hi f x n m = some (.inr num) → ∃ g', loopW (fun g => ev (tx0.lk (run tx0 (k + 3)) (runs tx0 (k + 3)).2.2) c1_whole_rows g) (fun g => exs (tx0.lk (run tx0 (k + 3)) (runs tx0 (k + 3)).2.2) l1_whole_rows g) n [.val row, .val (eX x), .val (.int m), .val (eP lo), .val (eP hi), .val (eP f), a, b, c] = .ret (.own [eNr (lo, hi, num)]) g') ∧
    (∀ cut A B, wrLoop lo hi f x n m = some (.inl cut) → run tx0 (k + 3) f_whole_rows [eRow (lo, cut, .fm f), eX x] none = .ret (.own (A.map eNr)) none → run tx0 (k + 3) f_whole_rows [eRow (cut, hi, .fm f), eX x] none = .ret (.own (B.map eNr)) none → A.length + B.length ≤ 999999 →
      ∃ g', loopW (fun g => ev (tx0.lk (run tx0 (k + 3)) (runs tx0 (k + 3)).2.2) c1_whole_rows g) (fun g => exs (tx0.lk (run tx0 (k + 3)) (runs tx0 (k + 3)).2.2) l1_whole_rows g) n [.val row, .val (eX x), .val (.int m), .val (eP lo), .val (eP hi), .val (eP f), a, b, c] = .ret (.own ((A ++ (cut, cut, worth f cut / sel x cut) :: B).map eNr)) g')
  | 0, m, a, b, c, _, _, _, _, _ => ⟨fun num h => (by cases h), fun cut A B h => (by cases h)⟩
  | n + 1, m, a, b, c, hm, hn, ha, hb, hc => by
    have T := r_times (k + 2) (unit x) (m + 1) (by unfold sm; omega)
    have G := (hf.minus (tm_b x (m := m + 1) (M := 100001) (by omega) (by omega))).mono (show N + 100001 ≤ 2 ^ 37 by omega)
    have z := r_zero_within k (lo := lo) (hi := hi) G (by decide)
    have sg := r_sign_of (k + 1) (f := minus f (times (unit x) (m + 1))) hl hh
    have C : ∀ g, ev (tx0.lk (run tx0 (k + 3)) (runs tx0 (k + 3)).2.2) c1_whole_rows g = .ok (.fro (.bool true)) g := fun g => by simp [c1_whole_rows]
    rw [loopW_succ, C]
    unfold wrLoop
    cases hz : zeroIn (minus f (times (unit x) (m + 1))) lo hi with
    | some cut =>
      rw [hz] at z
      simp only [eO_some] at z
      refine ⟨fun num h => (by cases h), fun c2 A B h R1 R2 hAB => ?_⟩
      cases h
      have rc := zeroIn_Rb G (by decide) hz
      obtain ⟨s1, s2⟩ := sel_Rb rc x
      have W := r_worth (k + 2) f cut rc.sm
      have j2 : opB .add (.list (A.map eNr)) (.list [eNr (cut, cut, worth f cut / sel x cut)]) = some (.own (A.map eNr ++ [eNr (cut, cut, worth f cut / sel x cut)])) := opB_lst (by rw [sz]; simp; omega)
      have j3 : opB .add (.list (A.map eNr ++ [eNr (cut, cut, worth f cut / sel x cut)])) (.list (B.map eNr)) = some (.own (A.map eNr ++ [eNr (cut, cut, worth f cut / sel x cut)] ++ B.map eNr)) := opB_lst (by rw [sz]; simp; omega)
      have dv := opB_div (worth f cut) (sel x cut) s1 (by omega)
      have Bd : ∃ g', exs (tx0.lk (run tx0 (k + 3)) (runs tx0 (k + 3)).2.2) l1_whole_rows [.val row, .val (eX x), .val (.int m), .val (eP lo), .val (eP hi), .val (eP f), a, b, c] = .ret (.own ((A ++ (cut, cut, worth f cut / sel x cut) :: B).map eNr)) g' := by
        simp only [eNr] at j2 j3
        simp only [eRow, eRv] at R1 R2
        exact ⟨_, by simp [l1_whole_rows, G_UNITS, opI_units, T, r_minus, z, ha, hb, hc, W, dv, R1, R2, j2, j3, eNr]; rfl⟩
      obtain ⟨g', Bd⟩ := Bd
      exact ⟨g', by simp only [Bd]⟩
    | none =>
      rw [hz] at z
      simp only [eO_none] at z
      dsimp only
      by_cases q : signOf (minus f (times (unit x) (m + 1))) lo hi < 0
      · rw [if_pos q]
        refine ⟨fun num h => ?_, fun c2 A B h => (by cases h)⟩
        cases h
        have Bd : ∃ g', exs (tx0.lk (run tx0 (k + 3)) (runs tx0 (k + 3)).2.2) l1_whole_rows [.val row, .val (eX x), .val (.int m), .val (eP lo), .val (eP hi), .val (eP f), a, b, c] = .ret (.own [eNr (lo, hi, m)]) g' :=
          ⟨_, by simp [l1_whole_rows, G_UNITS, opI_units, T, r_minus, z, sg, q, ha, hb, hc, eNr]; rfl⟩
        obtain ⟨g', Bd⟩ := Bd
        exact ⟨g', by simp only [Bd]⟩
      · rw [if_neg q]
        have Bd : exs (tx0.lk (run tx0 (k + 3)) (runs tx0 (k + 3)).2.2) l1_whole_rows [.val row, .val (eX x), .val (.int m), .val (eP lo), .val (eP hi), .val (eP f), a, b, c] = .nx [.val row, .val (eX x), .val (.int (m + 1)), .val (eP lo), .val (eP hi), .val (eP f), .val (eP (minus f (times (unit x) (m + 1)))), .val .none, c] := by
          simp [l1_whole_rows, G_UNITS, opI_units, T, r_minus, z, sg, q, ha, hb, hc]
        obtain ⟨I1, I2⟩ := r_wrLoop k row hl hh hf hN x n (m + 1) (.val (eP (minus f (times (unit x) (m + 1))))) (.val .none) c (by omega) (by omega) rfl rfl hc
        simp only [Bd]
        exact ⟨I1, I2⟩
theorem wrLoop_Rb {lo hi f : P2} {N : Int} (hf : Fb N f) (hN : N < 2 ^ 36) (x : Bool) : ∀ (n : Nat) (m : Int) (c : P2), 0 ≤ m → m + n ≤ 100000 → wrLoop lo hi f x n m = some (.inl c) → Rb c
  | 0, m, c, _, _, h => by cases h
  | n + 1, m, c, h0, h1, h => by
    unfold wrLoop at h
    split at h
    · rename_i c' hz
      cases h
      exact zeroIn_Rb ((hf.minus (tm_b x (m := m + 1) (M := 100001) (by omega) (by omega))).mono (show N + 100001 ≤ 2 ^ 37 by omega)) (by decide) hz
    · split at h
      · cases h
      · exact wrLoop_Rb hf hN x n (m + 1) c (by omega) (by omega) h
theorem zeroIn_less {f lo hi c : P2} (h : zeroIn f lo hi = some c) : less lo c = true ∧ less c hi = true := by
  unfold zeroIn at h
  split at h
  · cases h
  · cases q : less lo (lowest (iabs f.2) (iabs f.1)) && less (lowest (iabs f.2) (iabs f.1)) hi with
    | false => rw [q] at h; cases h
    | true =>
      rw [q] at h
      cases h
      simpa using q
theorem less_ne {a b : P2} (h : less a b = true) : a ≠ b := by
  intro e
  subst e
  simp [less] at h
theorem wrLoop_less {lo hi f : P2} (x : Bool) : ∀ (n : Nat) (m : Int) (c : P2), wrLoop lo hi f x n m = some (.inl c) → less lo c = true ∧ less c hi = true
  | 0, m, c, h => by cases h
  | n + 1, m, c, h => by
    unfold wrLoop at h
    split at h
    · rename_i c' hz
      cases h
      exact zeroIn_less hz
    · split at h
      · cases h
      · exact wrLoop_less x n (m + 1) c h
theorem r_wrF (k : Nat) {f : P2} {N : Int} (hf : Fb N f) (hN : N < 2 ^ 36) (x : Bool) : ∀ (n : Nat) (lo hi : P2) (A : List Nr), lo ≠ hi → Rb lo → Rb hi → wrF x n lo hi f = some A → A.length ≤ 1000000 → run tx0 (k + n + 3) f_whole_rows [eRow (lo, hi, .fm f), eX x] none = .ret (.own (A.map eNr)) none
  | 0, lo, hi, A, _, _, _, h, _ => by cases h
  | n + 1, lo, hi, A, hne, hl, hh, h, hA => by
    rw [show k + (n + 1) + 3 = (k + n + 3) + 1 by omega, run0 (k + n + 3) _ _ _ D_whole_rows]
    obtain ⟨L1, L2⟩ := r_wrLoop (k + n) (eRow (lo, hi, .fm f)) hl hh hf hN x FU 0 .no .no .no (by omega) (by have : (FU : Int) = 100000 := rfl; omega) rfl rfl rfl
    unfold wrF at h
    split at h
    · cases h
    · rename_i m hm
      cases h
      obtain ⟨g', L⟩ := L1 m hm
      simp only [eRow, eRv] at L
      simp [runD, startG, d_whole_rows, b_whole_rows, eRow, eRv, hne, ex_whl, L, endG]
    · rename_i c hm
      obtain ⟨c1, c2⟩ := wrLoop_less x _ _ _ hm
      have rc := wrLoop_Rb hf hN x _ _ _ (by omega) (by have : (FU : Int) = 100000 := rfl; omega) hm
      split at h
      · cases h
      · rename_i a ha
        split at h
        · cases h
        · rename_i b hb
          cases h
          simp only [List.length_append, List.length_cons] at hA
          obtain ⟨g', L⟩ := L2 c a b hm (r_wrF k hf hN x n lo c a (less_ne c1) hl rc ha (by omega)) (r_wrF k hf hN x n c hi b (less_ne c2) rc hh hb (by omega)) (by omega)
          simp only [eRow, eRv] at L
          simp [runD, startG, d_whole_rows, b_whole_rows, eRow, eRv, hne, ex_whl, L, endG]
theorem r_whole_tm (k : Nat) {lo : P2} (hl : Rb lo) (t : Int) (x : Bool) : run tx0 (k + 1) f_whole_rows [eRow (lo, lo, .tm t), eX x] none = .ret (.own [eNr (lo, lo, t / sel x lo)]) none := by
  rw [run0 k _ _ _ D_whole_rows]
  obtain ⟨s1, s2⟩ := sel_Rb hl x
  simp [runD, startG, d_whole_rows, b_whole_rows, eRow, eRv, opB_div _ _ s1 (show sel x lo < 2 ^ 100 by omega), endG, eNr]
/-- a row of a ring that is not too great -/
structure RwOk (N : Int) (r : Row) : Prop where
  lo : Rb r.1
  hi : Rb r.2.1
  fm : ∀ f, r.2.2 = .fm f → Fb N f ∧ r.1 ≠ r.2.1
  tm : ∀ t, r.2.2 = .tm t → r.1 = r.2.1 ∧ 0 ≤ t ∧ t < 2 ^ 60
theorem r_wr (k n : Nat) {N : Int} (hN : N < 2 ^ 36) (x : Bool) {r : Row} (ok : RwOk N r) {A : List Nr} (h : wr n x r = some A) (hA : A.length ≤ 1000000) : run tx0 (k + n + 3) f_whole_rows [eRow r, eX x] none = .ret (.own (A.map eNr)) none := by
  obtain ⟨lo, hi, v⟩ := r
  cases v with
  | tm t =>
    cases h
    obtain ⟨e, _⟩ := ok.tm t rfl
    dsimp only at e
    subst e
    exact r_whole_tm (k + n + 2) ok.lo t x
  | fm f =>
    obtain ⟨b1, b2⟩ := ok.fm f rfl
    exact r_wrF k b1 hN x n lo hi A b2 ok.lo ok.hi h hA
/-! ### marks -/
def eMk (m : Mk) : PyData := .tuple [eP m.1, .bool m.2]
theorem wide_of {i : Int} (h0 : -(2 ^ 99) ≤ i) (h1 : i ≤ 2 ^ 99) : wide i ∧ i.natAbs < 2 ^ 100 := by
  unfold wide
  omega
theorem worth_b {f r : P2} {N : Int} (hf : Fb N f) (hN : N < 2 ^ 36) (hr : Rb r) : -(2 ^ 99) ≤ worth f r ∧ worth f r ≤ 2 ^ 99 := by
  obtain ⟨a, b, c, d⟩ := hf
  obtain ⟨e, g, i, j⟩ := hr
  have m1 : (f.1 * r.1).natAbs ≤ 2 ^ 36 * 2 ^ 40 := by
    rw [Int.natAbs_mul]
    exact Nat.mul_le_mul (by omega) (by omega)
  have m2 : (f.2 * r.2).natAbs ≤ 2 ^ 36 * 2 ^ 40 := by
    rw [Int.natAbs_mul]
    exact Nat.mul_le_mul (by omega) (by omega)
  unfold worth
  omega
theorem r_marks_of (k : Nat) {N : Int} (hN : N < 2 ^ 36) (x : Bool) {r : Row} (ok : RwOk N r) : run tx0 (k + 3) f_marks_of [eRow r, eX x] none = .ret (.own ((marksOf x r).map eMk)) none := by
  rw [run0 (k + 2) _ _ _ D_marks_of]
  obtain ⟨lo, hi, v⟩ := r
  obtain ⟨hl, hh, fm, tm⟩ := ok
  dsimp only at hl hh fm tm
  obtain ⟨s1, s2⟩ := sel_Rb hl x
  obtain ⟨s3, s4⟩ := sel_Rb hh x
  cases v with
  | tm t =>
    obtain ⟨e, t0, t1⟩ := tm t rfl
    subst e
    obtain ⟨w1, w2⟩ := wide_of (i := sel x lo) (by omega) (by omega)
    have l1 := r_lowest k t (sel x lo) w1 (.inr (by omega)) ⟨by omega, w2⟩
    simp [runD, startG, d_marks_of, b_marks_of, eRow, eRv, l1, endG, marksOf, eMk]
  | fm f =>
    obtain ⟨b1, b2⟩ := fm f rfl
    obtain ⟨w1, w2⟩ := worth_b b1 hN hl
    obtain ⟨w3, w4⟩ := worth_b b1 hN hh
    have L : ∀ e : P2, Rb e → run tx0 (k + 2) f_lowest [.int (worth f e), .int (sel x e)] none = .ret (.fro (eP (lowest (worth f e) (sel x e)))) none := fun e re => by
      obtain ⟨s1, s2⟩ := sel_Rb re x
      obtain ⟨u1, u2⟩ := worth_b b1 hN re
      obtain ⟨w1, w2⟩ := wide_of (i := sel x e) (by omega) (by omega)
      exact r_lowest k _ _ w1 (.inr (by omega)) ⟨(wide_of u1 u2).2, w2⟩
    have W : ∀ e : P2, Rb e → run tx0 (k + 2) f_worth [eP f, eP e] none = .ret (.fro (.int (worth f e))) none := fun e re => r_worth (k + 1) f e re.sm
    have E : ev (tx0.lk (run tx0 (k + 2)) (runs tx0 (k + 2)).2.2) (.lc (.tup (.cons (.loc 3) (.cons (.loc 4) .nil))) (.one 6) [6] .omit e1_marks_of) [.val (eRow (lo, hi, .fm f)), .val (eX x), .val (.bool (decide (sel (!x) f = 0))), .val (eP lo), .val (eP hi), .val (eP f), .no]
        = .ok (.own (([lo, hi].filter fun _ => true).map fun e => eMk (lowest (worth f e) (sel x e), decide (sel (!x) f = 0)))) [.val (eRow (lo, hi, .fm f)), .val (eX x), .val (.bool (decide (sel (!x) f = 0))), .val (eP lo), .val (eP hi), .val (eP f), .no] :=
      ev_lcN (g0 := [.val (eRow (lo, hi, .fm f)), .val (eX x), .val (.bool (decide (sel (!x) f = 0))), .val (eP lo), .val (eP hi), .val (eP f), .no]) (fun e : P2 => eP e) [lo, hi] (fun _ => true) _ (fun e => [.val (eRow (lo, hi, .fm f)), .val (eX x), .val (.bool (decide (sel (!x) f = 0))), .val (eP lo), .val (eP hi), .val (eP f), .val (eP e)]) (.fro (.tuple [eP lo, eP hi]))
        (by simp) (by simp [items]) (by simp [wipeOk]) (by simp [wipeG]) (by simp [unwipe])
        (fun e he => by
          have re : Rb e := by
            simp at he
            rcases he with rfl | rfl
            · exact hl
            · exact hh
          exact ⟨by simp, by simp [wipeG], by simp, fun _ => ⟨.fro (eMk (lowest (worth f e) (sel x e), decide (sel (!x) f = 0))), by simp [e1_marks_of, W e re, L e re, eMk], rfl⟩⟩)
    simp only [eRow, eRv] at E
    simp only [runD, startG, d_marks_of, b_marks_of, eRow, eRv]
    simp [b2, E, endG, d_marks_of, marksOf]
end TB
set_option maxHeartbeats 0
/-! Runs: swings, bounds. -/
namespace TB
open PySem PL
theorem wrs_app (n : Nat) (x : Bool) : ∀ (p q : List Row) (A : List Nr), wrs n x (p ++ q) = some A → ∃ B C, wrs n x p = some B ∧ wrs n x q = some C ∧ A = B ++ C
  | [], q, A, h => ⟨[], A, rfl, h, rfl⟩
  | r :: p, q, A, h => by
    rw [List.cons_append] at h
    unfold wrs at h
    split at h
    · cases h
    · rename_i a ha
      split at h
      · cases h
      · rename_i b hb
        cases h
        obtain ⟨B, C, e1, e2, e3⟩ := wrs_app n x p q b hb
        refine ⟨a ++ B, C, ?_, e2, by rw [e3, List.append_assoc]⟩
        unfold wrs
        rw [ha]
        simp only [e1]
theorem wrs_cons {n : Nat} {x : Bool} {r : Row} {q : List Row} {A : List Nr} (h : wrs n x (r :: q) = some A) : ∃ B C, wr n x r = some B ∧ wrs n x q = some C ∧ A = B ++ C := by
  unfold wrs at h
  split at h
  · cases h
  · rename_i a ha
    split at h
    · cases h
    · rename_i b hb
      cases h
      exact ⟨a, b, ha, hb, rfl⟩
theorem intsOf_map (ns : List Int) : intsOf (ns.map PyData.int) = some ns := by
  induction ns with
  | nil => rfl
  | cons n ns ih => simp [intsOf, ih]
theorem usort_eq (ns : List Int) : usort ns = nsort ns := by
  have e : ∀ (l : List Int) (x : Int), insU x l = insN x l := by
    intro l
    induction l with
    | nil => intro x; rfl
    | cons y l ih => intro x; simp only [insU, insN, ih]
  induction ns with
  | nil => rfl
  | cons n ns ih => simp only [usort, nsort, ih, e]
theorem opSS_ints {ns : List Int} (h : ns.length < setLim) : opSS (.list (ns.map PyData.int)) = some ((nsort ns).map PyData.int) := by
  show ((intsOf (ns.map PyData.int)).bind fun ns => if ns.length < setLim then some ((usort ns).map PyData.int) else none) = _
  rw [intsOf_map]
  simp only [Option.bind_some]
  rw [if_pos h, usort_eq]
def eSw (s : Int × List (P2 × P2)) : PyData := .tuple [.int s.1, .list (s.2.map eS)]
theorem r_swings (k f n : Nat) (sc : Sc) (hs : scOk sc = true) (i : Nat) (hi0 : i < ringsIn sc) (x : Bool) {ps : List Pc} (h : course f sc = some ps) (hl : ps.length ≤ 1000000) (hi : ∀ p ∈ ps, i < p.heard.length) {N : Int} (hN : N < 2 ^ 36) (ok : ∀ r ∈ ps.map (rowOf i), RwOk N r)
    {A : List Nr} (hA : wrs n x (ps.map (rowOf i)) = some A) (lA : A.length ≤ 1000000) (lim : A.length < setLim) :
    run tx0 (k + f + n + 10) f_swings [eSc sc, .int i, eX x] none = .ret (.own ((swingsOf A).map eSw)) none := by
  rw [run0 (k + f + n + 9) _ _ _ D_swings]
  have h1 := r_need_script (k + f + n + 5) (eSc sc) (nd_Sc sc)
  rw [scOk_is hs] at h1
  have h2 := r_rings_in (k + f + n + 8) sc
  have h3 := r_need_index (k + f + n + 7) (.int i) (ringsIn sc) (nd_int _)
  rw [whole_nat hi0] at h3
  have h5 := r_need_pendulum (k + f + n + 7) (eX x) (nd_int _)
  rw [whole_x x] at h5
  have h4 := r_rows_of (k + n) f sc hs i h hl hi
  rw [show k + n + f + 9 = k + f + n + 9 by omega] at h4
  generalize ps.map (rowOf i) = rows at *
  obtain ⟨g', L, B, a', hB, _, rfl⟩ := loopF_pre (tg := .one 4) (b := fun g => exs (tx0.lk (run tx0 (k + f + n + 9)) (runs tx0 (k + f + n + 9)).2.2) l4_swings g) eRow
    (fun pre g => ∃ B a, wrs n x pre = some B ∧ isIo a = false ∧ g = [.val (eSc sc), .val (.int i), .val (eX x), .own (B.map eNr), a, .no, .no, .no, .no, .no]) rows []
    [.val (eSc sc), .val (.int i), .val (eX x), .own [], .no, .no, .no, .no, .no, .no] ⟨[], _, rfl, rfl, rfl⟩ (fun p r post e g ⟨B, a, hB, ha, hg⟩ => by
      subst hg
      rw [List.nil_append] at e
      rw [e] at hA
      obtain ⟨B', C, e1, e2, e3⟩ := wrs_app n x p _ A hA
      rw [hB] at e1
      cases e1
      obtain ⟨R, D, e4, e5, e6⟩ := wrs_cons e2
      have lR : B.length + R.length ≤ 1000000 := by
        rw [e3, e6] at lA
        simp at lA
        omega
      have W := r_wr (k + f + 6) n hN x (ok r (by rw [e]; simp)) e4 (by omega)
      rw [show k + f + 6 + n + 3 = k + f + n + 9 by omega] at W
      have ln : B.length + R.length ≤ sizeLine := by rw [sz]; omega
      refine ⟨_, _, by simp [ha]; rfl, by simp [l4_swings, W, lent, lentSl, ln]; rfl, B ++ R, .val (eRow r), ?_, rfl, by simp⟩
      have : ∀ (p : List Row) (B : List Nr), wrs n x p = some B → wrs n x (p ++ [r]) = some (B ++ R) := by
        intro p
        induction p with
        | nil =>
          intro B hB
          cases hB
          simp only [List.nil_append]
          unfold wrs
          rw [e4]
          simp [wrs]
        | cons y p ih =>
          intro B hB
          obtain ⟨B1, B2, b1, b2, b3⟩ := wrs_cons hB
          rw [List.cons_append]
          unfold wrs
          rw [b1]
          simp only [ih B2 b2, b3, List.append_assoc]
      exact this p B hB)
  rw [List.nil_append, hA] at hB
  cases hB
  have E3 : ev (tx0.lk (run tx0 (k + f + n + 9)) (runs tx0 (k + f + n + 9)).2.2) (.lc (.loc 3) (.many [7, 8, 9]) [7, 8, 9] .omit e3_swings) [.val (eSc sc), .val (.int i), .val (eX x), .own (A.map eNr), a', .no, .no, .no, .no, .no]
      = .ok (.own ((A.filter fun _ => true).map fun r => .int r.2.2)) [.val (eSc sc), .val (.int i), .val (eX x), .val (.list (A.map eNr)), a', .no, .no, .no, .no, .no] :=
    ev_lcN (g0 := [.val (eSc sc), .val (.int i), .val (eX x), .val (.list (A.map eNr)), a', .no, .no, .no, .no, .no]) eNr A (fun _ => true) _ (fun r => [.val (eSc sc), .val (.int i), .val (eX x), .val (.list (A.map eNr)), a', .no, .no, .val (eP r.1), .val (eP r.2.1), .val (.int r.2.2)]) (.fro (.list (A.map eNr)))
      (by simp) (by simp [items]) (by simp [wipeOk]) (by simp [wipeG]) (by simp [unwipe]) (fun r _ => ⟨by simp [eNr], by simp [wipeG], by simp, fun _ => ⟨.fro (.int r.2.2), by simp [e3_swings], rfl⟩⟩)
  have SS := opSS_ints (ns := A.map (·.2.2)) (by simpa using lim)
  have E1 : ev (tx0.lk (run tx0 (k + f + n + 9)) (runs tx0 (k + f + n + 9)).2.2) (.lc (.loc 5) (.one 6) [6] .omit e1_swings) [.val (eSc sc), .val (.int i), .val (eX x), .val (.list (A.map eNr)), a', .own ((nsort (A.map (·.2.2))).map .int), .no, .no, .no, .no]
      = .ok (.own (((nsort (A.map (·.2.2))).filter fun _ => true).map fun m => eSw (m, joined (A.map fun r => (r.1, r.2.1, decide (r.2.2 = m)))))) [.val (eSc sc), .val (.int i), .val (eX x), .val (.list (A.map eNr)), a', .val (.list ((nsort (A.map (·.2.2))).map .int)), .no, .no, .no, .no] :=
    ev_lcN (g0 := [.val (eSc sc), .val (.int i), .val (eX x), .val (.list (A.map eNr)), a', .val (.list ((nsort (A.map (·.2.2))).map .int)), .no, .no, .no, .no]) (fun m : Int => .int m) (nsort (A.map (·.2.2))) (fun _ => true) _ (fun m => [.val (eSc sc), .val (.int i), .val (eX x), .val (.list (A.map eNr)), a', .val (.list ((nsort (A.map (·.2.2))).map .int)), .val (.int m), .no, .no, .no]) (.fro (.list ((nsort (A.map (·.2.2))).map .int)))
      (by simp) (by simp [items]) (by simp [wipeOk]) (by simp [wipeG]) (by simp [unwipe]) (fun m _ => ⟨by simp, by simp [wipeG], by simp, fun _ => ⟨.fro (eSw (m, joined (A.map fun r => (r.1, r.2.1, decide (r.2.2 = m))))), by
        have E2 : ev (tx0.lk (run tx0 (k + f + n + 9)) (runs tx0 (k + f + n + 9)).2.2) (.lc (.loc 3) (.many [7, 8, 9]) [7, 8, 9] .omit e2_swings) [.val (eSc sc), .val (.int i), .val (eX x), .val (.list (A.map eNr)), a', .val (.list ((nsort (A.map (·.2.2))).map .int)), .val (.int m), .no, .no, .no]
            = .ok (.own ((A.filter fun _ => true).map fun r => eGr (r.1, r.2.1, decide (r.2.2 = m)))) [.val (eSc sc), .val (.int i), .val (eX x), .val (.list (A.map eNr)), a', .val (.list ((nsort (A.map (·.2.2))).map .int)), .val (.int m), .no, .no, .no] :=
          ev_lcN (g0 := [.val (eSc sc), .val (.int i), .val (eX x), .val (.list (A.map eNr)), a', .val (.list ((nsort (A.map (·.2.2))).map .int)), .val (.int m), .no, .no, .no]) eNr A (fun _ => true) _ (fun r => [.val (eSc sc), .val (.int i), .val (eX x), .val (.list (A.map eNr)), a', .val (.list ((nsort (A.map (·.2.2))).map .int)), .val (.int m), .val (eP r.1), .val (eP r.2.1), .val (.int r.2.2)]) (.fro (.list (A.map eNr)))
            (by simp) (by simp [items]) (by simp [wipeOk]) (by simp [wipeG]) (by simp [unwipe]) (fun r _ => ⟨by simp [eNr], by simp [wipeG], by simp, fun _ => ⟨.fro (eGr (r.1, r.2.1, decide (r.2.2 = m))), by simp [e2_swings, eGr], rfl⟩⟩)
        have J := r_joined (k + f + n + 8) (A.map fun r => (r.1, r.2.1, decide (r.2.2 = m))) (by simpa using lA)
        rw [filter_tt] at E2
        simp only [List.map_map] at J
        have e0 : (eGr ∘ fun r : Nr => (r.1, r.2.1, decide (r.2.2 = m))) = fun r => eGr (r.1, r.2.1, decide (r.2.2 = m)) := rfl
        rw [e0] at J
        simp [e1_swings, E2, J, eSw], rfl⟩⟩)
  simp only [List.map_map] at SS
  have e3 : (PyData.int ∘ fun r : Nr => r.2.2) = fun r => .int r.2.2 := rfl
  rw [e3] at SS
  rw [filter_tt] at E3 E1
  simp [runD, startG, d_swings, b_swings, h1, h2, h3, h4, h5, ex_for, evi, items, L, E3, SS, E1, endG, swingsOf]
/-! ### bounds -/
theorem depth_Mk (m : Mk) : (eMk m).depth ≤ 60 := by simp [eMk, eP, PyData.depth, PyData.depthAll]
theorem eqv_bool (a b : Bool) : PyData.eqv (.bool a) (.bool b) = (a == b) := by rw [PyData.eqv]
theorem eqv_Mk (a b : Mk) : PyData.eqv (eMk a) (eMk b) = decide (a = b) := by
  obtain ⟨a1, a2⟩ := a
  obtain ⟨b1, b2⟩ := b
  simp only [eMk, eqv_t, eqvA_cc, eqvA_nn, eqv_P, Bool.and_true, eqv_bool]
  rw [Bool.eq_iff_iff]
  simp [Prod.ext_iff]
theorem any_eq {α : Type} [DecidableEq α] (l : List α) (a : α) : (l.any fun z => decide (z = a)) = decide (a ∈ l) := by
  rw [Bool.eq_iff_iff]
  simp [List.any_eq_true]
theorem opC_inn_l (a : PyData) (ds : List PyData) (h : a.depth ≤ 60) : opC .inn a (.list ds) = some (ds.any fun z => PyData.eqv z a) := by
  show (if decide (a.depth ≤ 60) = true then _ else _) = _
  rw [if_pos (decide_eq_true h)]
theorem in_marks (m : Mk) (l : List Mk) : opC .inn (eMk m) (.list (l.map eMk)) = some (decide (m ∈ l)) := by
  rw [opC_inn_l _ _ (depth_Mk m), List.any_map]
  have : ((fun z => PyData.eqv z (eMk m)) ∘ eMk) = fun z => decide (z = m) := by
    funext z
    exact eqv_Mk z m
  rw [this]
  congr 1
  rw [Bool.eq_iff_iff]
  simp [List.any_eq_true]
/-- a fraction that below may be asked of -/
theorem r_bnd (k : Nat) (sc : Sc) (i x : PyData) (marks : List Mk) (hm : ∀ m ∈ marks, Sm2 m.1) (a : Sl) : ∀ (l : List Mk) (b : P2 × P2) (c d : Sl), (∀ m ∈ l, m ∈ marks) → Sm2 b.1 → Sm2 b.2 → isIo c = false → isIo d = false → ∃ c' d', loopF (.many [7, 8]) (fun g => exs (tx0.lk (run tx0 (k + 1)) (runs tx0 (k + 1)).2.2) l1_swing_bounds g) (l.map eMk) [.val (eSc sc), .val i, .val x, .val (.list (marks.map eMk)), a, .val (eP b.1), .val (eP b.2), c, d]
    = .nx [.val (eSc sc), .val i, .val x, .val (.list (marks.map eMk)), a, .val (eP (l.foldl bndStep b).1), .val (eP (l.foldl bndStep b).2), c', d']
  | [], b, c, d, _, _, _, _, _ => ⟨c, d, rfl⟩
  | m :: l, b, c, d, hl, h1, h2, hc, hd => by
    have sm1 := hm m (hl m (List.mem_cons_self ..))
    have b1 := r_below k m.1 b.1 (.inl sm1)
    have b2 := r_below k b.2 m.1 (.inr sm1)
    have B : exs (tx0.lk (run tx0 (k + 1)) (runs tx0 (k + 1)).2.2) l1_swing_bounds [.val (eSc sc), .val i, .val x, .val (.list (marks.map eMk)), a, .val (eP b.1), .val (eP b.2), .val (eP m.1), .val (.bool m.2)]
        = .nx [.val (eSc sc), .val i, .val x, .val (.list (marks.map eMk)), a, .val (eP (bndStep b m).1), .val (eP (bndStep b m).2), .val (eP m.1), .val (.bool m.2)] := by
      cases q1 : below m.1 b.1 <;> cases q2 : below b.2 m.1 <;> simp [l1_swing_bounds, b1, b2, q1, q2, bndStep]
    obtain ⟨c', d', L⟩ := r_bnd k sc i x marks hm a l (bndStep b m) (.val (eP m.1)) (.val (.bool m.2)) (fun y hy => hl y (List.mem_cons_of_mem _ hy)) (by simp only [bndStep]; split <;> assumption) (by simp only [bndStep]; split <;> assumption) rfl rfl
    refine ⟨c', d', ?_⟩
    rw [List.map_cons, loopF_cons]
    simp [eMk, hc, hd, B]
    exact L
theorem r_swing_bounds (k f : Nat) (sc : Sc) (hs : scOk sc = true) (i : Nat) (hi0 : i < ringsIn sc) (x : Bool) {ps : List Pc} (h : course f sc = some ps) (hl : ps.length ≤ 400000) (hi : ∀ p ∈ ps, i < p.heard.length) {N : Int} (hN : N < 2 ^ 36) (ok : ∀ r ∈ ps.map (rowOf i), RwOk N r)
    (hm : ∀ m ∈ (ps.map (rowOf i)).flatMap (marksOf x), Sm2 m.1) {r : Mk × Mk} (hr : boundsOf ((ps.map (rowOf i)).flatMap (marksOf x)) = some r) :
    run tx0 (k + f + 10) f_swing_bounds [eSc sc, .int i, eX x] none = .ret (.fro (.tuple [eMk r.1, eMk r.2])) none := by
  rw [run0 (k + f + 9) _ _ _ D_swing_bounds]
  have h1 := r_need_script (k + f + 5) (eSc sc) (nd_Sc sc)
  rw [scOk_is hs] at h1
  have h2 := r_rings_in (k + f + 8) sc
  have h3 := r_need_index (k + f + 7) (.int i) (ringsIn sc) (nd_int _)
  rw [whole_nat hi0] at h3
  have h5 := r_need_pendulum (k + f + 7) (eX x) (nd_int _)
  rw [whole_x x] at h5
  have h4 := r_rows_of k f sc hs i h (by omega) hi
  have len2 : ∀ r : Row, (marksOf x r).length ≤ 2 := fun r => by
    unfold marksOf
    split <;> simp
  have lr : (ps.map (rowOf i)).length ≤ 400000 := by simpa using hl
  generalize ps.map (rowOf i) = rows at *
  have fl : ∀ p : List Row, (p.flatMap (marksOf x)).length ≤ 2 * p.length := by
    intro p
    induction p with
    | nil => simp
    | cons r p ih =>
      have := len2 r
      simp only [List.flatMap_cons, List.length_append, List.length_cons]
      omega
  obtain ⟨g', L, a', _, rfl⟩ := loopF_pre (tg := .one 4) (b := fun g => exs (tx0.lk (run tx0 (k + f + 9)) (runs tx0 (k + f + 9)).2.2) l2_swing_bounds g) eRow
    (fun pre g => ∃ a, isIo a = false ∧ g = [.val (eSc sc), .val (.int i), .val (eX x), .own ((pre.flatMap (marksOf x)).map eMk), a, .no, .no, .no, .no]) rows []
    [.val (eSc sc), .val (.int i), .val (eX x), .own [], .no, .no, .no, .no, .no] ⟨_, rfl, rfl⟩ (fun p r post e g ⟨a, ha, hg⟩ => by
      subst hg
      rw [List.nil_append] at e
      have M := r_marks_of (k + f + 6) hN x (ok r (by rw [e]; simp))
      have lp := fl p
      have l2 := len2 r
      have pl : p.length ≤ 400000 := by
        have := congrArg List.length e
        simp at this
        omega
      have ln : (p.flatMap (marksOf x)).length + (marksOf x r).length ≤ sizeLine := by rw [sz]; omega
      have ln' : (p.map fun a => (marksOf x a).length).sum + (marksOf x r).length ≤ sizeLine := by simpa [List.length_flatMap] using ln
      exact ⟨_, _, by simp [ha]; rfl, by simp [l2_swing_bounds, M, lent, lentSl, ln']; rfl, .val (eRow r), rfl, by simp⟩)
  rw [List.nil_append] at L
  generalize hmk : rows.flatMap (marksOf x) = marks at *
  unfold boundsOf at hr
  cases marks with
  | nil => cases hr
  | cons m ms =>
    cases hr
    have s0 := hm m (List.mem_cons_self ..)
    obtain ⟨c', d', B⟩ := r_bnd (k + f + 8) sc (.int i) (eX x) (m :: ms) hm a' (m :: ms) (m.1, m.1) .no .no (fun _ h => h) s0 s0 rfl rfl
    have i0 : opI (.list ((m :: ms).map eMk)) (.int 0) = some (eMk m) := opI_l0 _ _
    have n1 := in_marks (((m :: ms).foldl bndStep (m.1, m.1)).1, true) (m :: ms)
    have n2 := in_marks (((m :: ms).foldl bndStep (m.1, m.1)).2, true) (m :: ms)
    generalize (m :: ms).foldl bndStep (m.1, m.1) = bb at *
    simp only [if_true] at h1 h3 h5
    simp only [runD, startG, d_swing_bounds, b_swing_bounds]
    simp only [List.map_cons, eMk] at L B i0 n1 n2
    simp [h1, h2, h3, h4, h5, ex_for, evi, items, L, held, i0, B, n1, n2, endG, d_swing_bounds, eMk]
end TB
set_option maxHeartbeats 0
/-! Runs: answers. -/
namespace TB
open PySem PL
theorem depA_ints (l : List Int) : PyData.depthAll (l.map PyData.int) = 0 := by
  induction l with
  | nil => simp [PyData.depthAll]
  | cons a l ih => simp [PyData.depthAll, ih]
theorem dep_Is (l : List Int) : (eIs l).depth ≤ 60 := by
  simp [eIs, PyData.depth, depA_ints]
theorem eqvA_ints : ∀ a b : List Int, PyData.eqvAll (a.map PyData.int) (b.map PyData.int) = decide (a = b)
  | [], [] => by simp
  | [], _ :: _ => by simp
  | _ :: _, [] => by simp
  | a :: as, b :: bs => by
    rw [List.map_cons, List.map_cons, eqvA_cc, eqv_int, eqvA_ints as bs, Bool.eq_iff_iff]
    simp
theorem eqv_Is (a b : List Int) : PyData.eqv (eIs a) (eIs b) = decide (a = b) := by
  unfold eIs
  rw [eqv_t, eqvA_ints]
@[simp] theorem opC_eqIs (a b : List Int) : opC .eq (eIs a) (eIs b) = some (decide (a = b)) := by rw [opC_eq _ _ (eqOk_l _ _ (dep_Is a)), eqv_Is]
@[simp] theorem opC_neIs (a b : List Int) : opC .ne (eIs a) (eIs b) = some (!decide (a = b)) := by rw [opC_ne _ _ (eqOk_l _ _ (dep_Is a)), eqv_Is]
theorem pc_at (p : Pc) : opI (ePc p) (.int 0) = some (eP p.lo) ∧ opI (ePc p) (.int 1) = some (eP p.hi) ∧ opI (ePc p) (.int 4) = some (eIs p.told) ∧ opI (ePc p) (.int 5) = some (ePs p.heard) := by
  unfold ePc
  exact ⟨by simp, by simp, by simp, by simp⟩
theorem r_ratios_of (k : Nat) (ps : List Pc) (hl : ps.length ≤ 1000000) (told : List Int) : run tx0 (k + 2) f_ratios_of [.list (ps.map ePc), eIs told] none = .ret (.fro (.list ((ratiosOf ps told).map eS))) none := by
  rw [run0 (k + 1) _ _ _ D_ratios_of]
  have E : ev (tx0.lk (run tx0 (k + 1)) (runs tx0 (k + 1)).2.2) (.lc (.loc 0) (.one 2) [2] .omit e1_ratios_of) [.val (.list (ps.map ePc)), .val (eIs told), .no] = .ok (.own ((ps.filter fun _ => true).map fun p => eGr (p.lo, p.hi, decide (p.told = told)))) [.val (.list (ps.map ePc)), .val (eIs told), .no] :=
    ev_lcN (g0 := [.val (.list (ps.map ePc)), .val (eIs told), .no]) ePc ps (fun _ => true) _ (fun p => [.val (.list (ps.map ePc)), .val (eIs told), .val (ePc p)]) (.fro (.list (ps.map ePc))) (by simp) (by simp [items]) (by simp [wipeOk]) (by simp [wipeG]) (by simp [unwipe])
      (fun p _ => by
        obtain ⟨i0, i1, i4, _⟩ := pc_at p
        exact ⟨by simp, by simp [wipeG], by simp, fun _ => ⟨.fro (eGr (p.lo, p.hi, decide (p.told = told))), by simp [e1_ratios_of, i0, i1, i4, eGr], rfl⟩⟩)
  have J := r_joined k (ps.map fun p => (p.lo, p.hi, decide (p.told = told))) (by simpa using hl)
  simp only [List.map_map] at J
  have e0 : (eGr ∘ fun p : Pc => (p.lo, p.hi, decide (p.told = told))) = fun p => eGr (p.lo, p.hi, decide (p.told = told)) := rfl
  rw [e0] at J
  rw [filter_tt] at E
  simp [runD, startG, d_ratios_of, b_ratios_of, E, J, endG, ratiosOf]
theorem known_app (ps : List Pc) (p : Pc) : knownOf (ps ++ [p]) = if p.told ∈ knownOf ps then knownOf ps else knownOf ps ++ [p.told] := by
  unfold knownOf
  rw [List.foldl_append]
  rfl
theorem known_len : ∀ (ps : List Pc) (acc : List (List Int)), (ps.foldl (fun acc p => if p.told ∈ acc then acc else acc ++ [p.told]) acc).length ≤ acc.length + ps.length
  | [], acc => by simp
  | p :: ps, acc => by
    have := known_len ps (if p.told ∈ acc then acc else acc ++ [p.told])
    simp only [List.foldl_cons, List.length_cons]
    split at this <;> simp_all <;> omega
theorem nin_known (t : List Int) (l : List (List Int)) : opC .nin (eIs t) (.list (l.map eIs)) = some (!decide (t ∈ l)) := by
  have h : opC .nin (eIs t) (.list (l.map eIs)) = if decide ((eIs t).depth ≤ 60) = true then some (!(l.map eIs).any fun z => PyData.eqv z (eIs t)) else none := rfl
  rw [h, if_pos (decide_eq_true (dep_Is t)), List.any_map]
  have : ((fun z => PyData.eqv z (eIs t)) ∘ eIs) = fun z => decide (z = t) := by
    funext z
    exact eqv_Is z t
  rw [this]
  congr 2
  rw [Bool.eq_iff_iff]
  simp [List.any_eq_true]
def eAl (a : List (P2 × P2) × List Int) : PyData := .tuple [.list (a.1.map eS), eIs a.2]
theorem r_all_answers (k f : Nat) (sc : Sc) (hs : scOk sc = true) {ps : List Pc} (h : course f sc = some ps) (hl : ps.length ≤ 1000000) : run tx0 (k + f + 9) f_all_answers [eSc sc] none = .ret (.own ((allAnswers ps).map eAl)) none := by
  rw [run0 (k + f + 8) _ _ _ D_all_answers]
  have C := r_course k f sc hs h hl
  obtain ⟨g', L, a', _, rfl⟩ := loopF_pre (tg := .one 1) (b := fun g => exs (tx0.lk (run tx0 (k + f + 8)) (runs tx0 (k + f + 8)).2.2) l2_all_answers g) ePc
    (fun pre g => ∃ a, isIo a = false ∧ g = [.val (eSc sc), a, .val (.list (ps.map ePc)), .own ((knownOf pre).map eIs), .no]) ps []
    [.val (eSc sc), .no, .val (.list (ps.map ePc)), .own [], .no] ⟨_, rfl, rfl⟩ (fun p x post e g ⟨a, ha, hg⟩ => by
      subst hg
      rw [List.nil_append] at e
      have len := known_len p []
      have pl : p.length ≤ 1000000 := by
        have := congrArg List.length e
        simp at this
        omega
      have ln : (knownOf p).length < sizeLine := by
        rw [sz]
        have : (knownOf p).length ≤ p.length := by simpa [knownOf] using len
        omega
      obtain ⟨_, _, i4, _⟩ := pc_at x
      have ni := nin_known x.told (knownOf p)
      rw [known_app]
      by_cases q : x.told ∈ knownOf p
      · exact ⟨_, _, by simp [ha]; rfl, by simp [l2_all_answers, held, i4, ni, q]; rfl, .val (ePc x), rfl, by simp [q]⟩
      · exact ⟨_, _, by simp [ha]; rfl, by simp [l2_all_answers, held, i4, ni, q, lent, lentSl, ln]; rfl, .val (ePc x), rfl, by simp [q]⟩)
  rw [List.nil_append] at L
  have E : ev (tx0.lk (run tx0 (k + f + 8)) (runs tx0 (k + f + 8)).2.2) (.lc (.loc 3) (.one 4) [4] .omit e1_all_answers) [.val (eSc sc), a', .val (.list (ps.map ePc)), .own ((knownOf ps).map eIs), .no]
      = .ok (.own (((knownOf ps).filter fun _ => true).map fun t => eAl (ratiosOf ps t, t))) [.val (eSc sc), a', .val (.list (ps.map ePc)), .val (.list ((knownOf ps).map eIs)), .no] :=
    ev_lcN (g0 := [.val (eSc sc), a', .val (.list (ps.map ePc)), .val (.list ((knownOf ps).map eIs)), .no]) eIs (knownOf ps) (fun _ => true) _ (fun t => [.val (eSc sc), a', .val (.list (ps.map ePc)), .val (.list ((knownOf ps).map eIs)), .val (eIs t)]) (.fro (.list ((knownOf ps).map eIs)))
      (by simp) (by simp [items]) (by simp [wipeOk]) (by simp [wipeG]) (by simp [unwipe]) (fun t _ => ⟨by simp, by simp [wipeG], by simp, fun _ => ⟨.fro (eAl (ratiosOf ps t, t)), by simp [e1_all_answers, r_ratios_of (k + f + 6) ps hl t, eAl], rfl⟩⟩)
  rw [filter_tt] at E
  simp [runD, startG, d_all_answers, b_all_answers, C, ex_for, evi, items, L, E, endG, allAnswers]
theorem r_answered (k f : Nat) (sc : Sc) (hs : scOk sc = true) {ps : List Pc} (h : course f sc = some ps) (hl : ps.length ≤ 1000000) : run tx0 (k + f + 10) f_answered [eSc sc] none = .ret (.own ((allAnswers ps).map eAl)) none := by
  rw [run0 (k + f + 9) _ _ _ D_answered]
  have h1 := r_need_script (k + f + 5) (eSc sc) (nd_Sc sc)
  rw [scOk_is hs] at h1
  have A := r_all_answers k f sc hs h hl
  simp [runD, startG, d_answered, b_answered, h1, A, endG]
abbrev xAnswers : Str := ⟨#[73, 110, 118, 97, 108, 105, 100, 65, 110, 115, 119, 101, 114, 115]⟩
def isToldD : PyData → Bool
  | .tuple xs => decide (xs.length ≤ 8) && xs.all fun x => isWholeD x 0 40
  | _ => false
theorem flt_emp2 {α : Type} (P : α → Bool) (xs : List α) : (xs.filter fun a => !P a).isEmpty = xs.all P := by
  induction xs with
  | nil => rfl
  | cons x xs ih => cases h : P x <;> simp [h, ih]
/-- answers that may be asked for -/
theorem r_ratios_for (k f : Nat) (sc : Sc) (hs : scOk sc = true) {ps : List Pc} (h : course f sc = some ps) (hl : ps.length ≤ 1000000) (told : List Int) (ht : isToldD (eIs told) = true) : run tx0 (k + f + 10) f_ratios_for [eSc sc, eIs told] none = .ret (.fro (.list ((ratiosOf ps told).map eS))) none := by
  rw [run0 (k + f + 9) _ _ _ D_ratios_for]
  have h1 := r_need_script (k + f + 5) (eSc sc) (nd_Sc sc)
  rw [scOk_is hs] at h1
  have C := r_course (k + 1) f sc hs h hl
  rw [show k + 1 + f + 8 = k + f + 9 by omega] at C
  have R := r_ratios_of (k + f + 7) ps hl told
  simp only [isToldD, eIs, Bool.and_eq_true, decide_eq_true_eq, List.length_map] at ht
  have W := fun a => r_is_whole (k + f + 8) (.int a) 0 40 rfl
  have E : ev (tx0.lk (run tx0 (k + f + 9)) (runs tx0 (k + f + 9)).2.2) (.lc (.loc 1) (.one 2) [2] q1_ratios_for e1_ratios_for) [.val (eSc sc), .val (eIs told), .no] = .ok (.own ((told.filter fun a => !isWholeD (.int a) 0 40).map .int)) [.val (eSc sc), .val (eIs told), .no] :=
    ev_lcN (g0 := [.val (eSc sc), .val (eIs told), .no]) PyData.int told _ PyData.int (fun a => [.val (eSc sc), .val (eIs told), .val (.int a)]) (.fro (eIs told)) (by simp) (by simp [items, eIs]) (by simp [wipeOk]) (by simp [wipeG]) (by simp [unwipe])
      (fun a _ => ⟨by simp, by simp [wipeG], by simp [condOf, q1_ratios_for, W], fun _ => ⟨_, by simp [e1_ratios_for]; rfl, rfl⟩⟩)
  have z : (told.filter fun a => !isWholeD (.int a) 0 40) = [] := by
    rw [List.filter_eq_nil_iff]
    intro a ha
    have := List.all_eq_true.mp ht.2 (.int a) (List.mem_map_of_mem ha)
    simp [this]
  rw [z] at E
  have ng : ¬ (8 : Int) < told.length := by omega
  simp only [eIs] at E R
  simp [runD, startG, d_ratios_for, b_ratios_for, h1, isiD, eIs, ng, E, C, R, endG]
/-! ### the coarsest -/
/-- ends that may be multiplied -/
structure Re (r : P2) : Prop where
  a0 : 0 < r.1
  a1 : r.1 < 2 ^ 31
  b0 : 0 < r.2
  b1 : r.2 < 2 ^ 31
theorem mul_b {a b : Int} (a0 : 0 < a) (a1 : a < 2 ^ 31) (b0 : 0 < b) (b1 : b < 2 ^ 31) : 0 < a * b ∧ a * b < 2 ^ 62 := by
  refine ⟨Int.mul_pos a0 b0, ?_⟩
  have h1 : a * b ≤ (2 ^ 31 - 1) * b := Int.mul_le_mul_of_nonneg_right (by omega) (by omega)
  have h2 : ((2 : Int) ^ 31 - 1) * b ≤ (2 ^ 31 - 1) * (2 ^ 31 - 1) := Int.mul_le_mul_of_nonneg_left (by omega) (by omega)
  omega
def cStep (best : P2) (a : List (P2 × P2) × List Int) : P2 := match a.1.head?, a.1.getLast? with
  | some s, some e => let q := lowest (e.2.1 * s.1.2) (e.2.2 * s.1.1); if below best q then q else best
  | _, _ => best
theorem r_coarsest (k f : Nat) (sc : Sc) (hs : scOk sc = true) {ps : List Pc} (h : course f sc = some ps) (hl : ps.length ≤ 1000000) (hne : ∀ a ∈ allAnswers ps, a.1 ≠ []) (he : ∀ a ∈ allAnswers ps, ∀ s ∈ a.1, Re s.1 ∧ Re s.2) : run tx0 (k + f + 10) f_coarsest [eSc sc] none = .ret (.fro (eP (coarsestOf (allAnswers ps)))) none := by
  rw [run0 (k + f + 9) _ _ _ D_coarsest]
  have h1 := r_need_script (k + f + 5) (eSc sc) (nd_Sc sc)
  rw [scOk_is hs] at h1
  have A := r_all_answers k f sc hs h hl
  generalize allAnswers ps = al at *
  obtain ⟨g', L, b, s', t', q', l', h', _, _, _, _, _, hb, _, rfl⟩ := loopF_pre (tg := .many [2, 3]) (b := fun g => exs (tx0.lk (run tx0 (k + f + 9)) (runs tx0 (k + f + 9)).2.2) l1_coarsest g) eAl
    (fun pre g => ∃ b s t q l h, isIo s = false ∧ isIo t = false ∧ isIo q = false ∧ isIo l = false ∧ isIo h = false ∧ b = pre.foldl cStep (1, 1) ∧ Sm2 b ∧ g = [.val (eSc sc), .val (eP b), s, t, q, l, h]) al []
    [.val (eSc sc), .val (eP (1, 1)), .no, .no, .no, .no, .no] ⟨(1, 1), _, _, _, _, _, rfl, rfl, rfl, rfl, rfl, rfl, by unfold Sm2 sm; omega, rfl⟩ (fun p x post e g ⟨b, s, t, q, l, hh, hs', ht, hq, hl', hh', hb, hsm, hg⟩ => by
      subst hg
      rw [List.nil_append] at e
      have hx : x ∈ al := by rw [e]; simp
      obtain ⟨st, told⟩ := x
      have n0 := hne _ hx
      have e0 := he _ hx
      dsimp only at n0 e0
      obtain ⟨y, m, rfl⟩ : ∃ y m, st = y :: m := by
        cases st with
        | nil => exact absurd rfl n0
        | cons y m => exact ⟨y, m, rfl⟩
      obtain ⟨m2, z, hz⟩ : ∃ m2 z, y :: m = m2 ++ [z] := ⟨(y :: m).dropLast, (y :: m).getLast (by simp), (List.dropLast_concat_getLast (by simp)).symm⟩
      have zl : (y :: m).getLast? = some z := by rw [hz]; simp
      have ry := e0 y (List.mem_cons_self ..)
      have rz := e0 z (by rw [hz]; simp)
      have i0 : opI (.list ((y :: m).map eS)) (.int 0) = some (eS y) := opI_l0 _ _
      have i1 : opI (.list ((y :: m).map eS)) (.int (-1)) = some (eS z) := by
        rw [hz, List.map_append, List.map_cons, List.map_nil]
        exact opI_last _ _
      obtain ⟨m1, m1'⟩ := mul_b rz.2.a0 rz.2.a1 ry.1.b0 ry.1.b1
      obtain ⟨m3, m3'⟩ := mul_b rz.2.b0 rz.2.b1 ry.1.a0 ry.1.a1
      obtain ⟨q1, q2, q3, q4⟩ := lowest_pos m1 m3
      have k1 : mulOk z.2.1 y.1.2 = true := mulOk_l (by have := rz.2.a0; have := rz.2.a1; unfold sm; omega)
      have k2 : mulOk z.2.2 y.1.1 = true := mulOk_l (by have := rz.2.b0; have := rz.2.b1; unfold sm; omega)
      have lw := r_lowest (k + f + 7) (z.2.1 * y.1.2) (z.2.2 * y.1.1) (by unfold wide; omega) (.inl (by omega)) (by omega)
      have sq : Sm2 (lowest (z.2.1 * y.1.2) (z.2.2 * y.1.1)) := by unfold Sm2 sm; omega
      have bl := r_below (k + f + 8) b (lowest (z.2.1 * y.1.2) (z.2.2 * y.1.1)) (.inr sq)
      have cs : cStep b (y :: m, told) = if below b (lowest (z.2.1 * y.1.2) (z.2.2 * y.1.1)) then lowest (z.2.1 * y.1.2) (z.2.2 * y.1.1) else b := by
        simp only [cStep, List.head?_cons, zl]
      refine ⟨_, [.val (eSc sc), .val (eP (cStep b (y :: m, told))), .val (.list ((y :: m).map eS)), .val (eIs told), .val (eP (lowest (z.2.1 * y.1.2) (z.2.2 * y.1.1))), .val (eP y.1), .val (eP z.2)], by simp [hs', ht, eAl]; rfl, ?_, cStep b (y :: m, told), _, _, _, _, _, rfl, rfl, rfl, rfl, rfl, by rw [List.foldl_append, hb]; rfl, by rw [cs]; split <;> assumption, rfl⟩
      rw [cs]
      simp only [eS, List.map_cons] at i0 i1
      cases qb : below b (lowest (z.2.1 * y.1.2) (z.2.2 * y.1.1)) <;> simp [l1_coarsest, hq, hl', hh', i0, i1, eS, opB_mul _ _ k1, opB_mul _ _ k2, lw, bl, qb])
  rw [List.nil_append] at hb
  subst hb
  simp [runD, startG, d_coarsest, b_coarsest, h1, A, ex_for, evi, items, L, endG]
  exact ⟨rfl, rfl⟩
end TB
set_option maxHeartbeats 0
/-! Runs: ratios kept apart. -/
namespace TB
open PySem PL
/-! ### sorting of rows of ints of one length -/
theorem lex_tok : ∀ (a b : List Int), a.length = b.length → PyProof.Rows.lexLt PyProof.Rows.itemOrd (PySem.W.keyToksAll (a.map PyData.int)) (PySem.W.keyToksAll (b.map PyData.int)) = PL.lexLt a b
  | [], [], _ => by simp [PySem.W.keyToksAll, PL.lexLt]; decide
  | [], b :: bs, h => by simp at h
  | a :: as, [], h => by simp at h
  | a :: as, b :: bs, h => by
    rw [List.map_cons, List.map_cons]
    by_cases e : a = b
    · subst e
      rw [PySem.W.dataLt_all_yes (by simp [PySem.W.alike]) (by simp)]
      rw [lex_tok as bs (by simpa using h)]
      simp [PL.lexLt]
    · rw [PySem.W.dataLt_all_no (by simp [PySem.W.alike]) (by simp [e]), PySem.W.dataLt_int]
      simp [PL.lexLt, e]
theorem dataLt_Is {a b : List Int} (h : a.length = b.length) : PySem.W.dataLt (eIs a) (eIs b) = PL.lexLt a b := by
  unfold eIs
  rw [PySem.W.dataLt_tuple, lex_tok a b h]
theorem insL_mem {x y : List Int} : ∀ {l : List (List Int)}, y ∈ insL x l ↔ y = x ∨ y ∈ l
  | [] => by simp [insL]
  | z :: l => by
    unfold insL
    split
    · simp only [List.mem_cons, insL_mem (l := l)]
      constructor <;> rintro (h | h | h) <;> simp [h]
    · simp
theorem sortL_mem {y : List Int} : ∀ {l : List (List Int)}, y ∈ sortL l ↔ y ∈ l
  | [] => by simp [sortL]
  | z :: l => by
    unfold sortL
    rw [insL_mem, sortL_mem (l := l), List.mem_cons]
theorem insL_len (x : List Int) : ∀ l : List (List Int), (insL x l).length = l.length + 1
  | [] => rfl
  | z :: l => by
    unfold insL
    split
    · simp [insL_len x l]
    · simp
theorem sortL_len : ∀ l : List (List Int), (sortL l).length = l.length
  | [] => rfl
  | z :: l => by
    unfold sortL
    rw [insL_len, sortL_len l]
    rfl
theorem ins_Is {n : Nat} {x : List Int} (hx : x.length = n) : ∀ {l : List (List Int)}, (∀ y ∈ l, y.length = n) → ins (eIs x) (l.map eIs) = (insL x l).map eIs
  | [], _ => rfl
  | y :: l, h => by
    have hy := h y (List.mem_cons_self ..)
    rw [List.map_cons, ins, dataLt_Is (by rw [hx, hy])]
    unfold insL
    cases q : PL.lexLt y x
    · simp
    · simp [ins_Is hx fun z hz => h z (List.mem_cons_of_mem _ hz)]
theorem isort_Is {n : Nat} : ∀ {l : List (List Int)}, (∀ y ∈ l, y.length = n) → isort (l.map eIs) = (sortL l).map eIs
  | [], _ => rfl
  | y :: l, h => by
    rw [List.map_cons, isort, isort_Is fun z hz => h z (List.mem_cons_of_mem _ hz)]
    show _ = (insL y (sortL l)).map eIs
    exact ins_Is (h y (List.mem_cons_self ..)) fun z hz => h z (List.mem_cons_of_mem _ (sortL_mem.mp hz))
theorem shp_ints : ∀ a b : List Int, a.length = b.length → shpAll (a.map PyData.int) (b.map PyData.int) = true
  | [], [], _ => by simp [shpAll]
  | [], _ :: _, h => by simp at h
  | _ :: _, [], h => by simp at h
  | a :: as, b :: bs, h => by
    rw [List.map_cons, List.map_cons, shpAll, shp]
    simp [shp_ints as bs (by simpa using h)]
theorem ord_Is {n : Nat} (hn : 0 < n) {l : List (List Int)} (h : ∀ y ∈ l, y.length = n) : ordB (l.map eIs) = true := by
  cases l with
  | nil => rfl
  | cons x l =>
    have hx := h x (List.mem_cons_self ..)
    have nt : noTup0 (eIs x) = true := by
      cases x with
      | nil => simp at hx; omega
      | cons a x => rfl
    rw [List.map_cons, ordB, nt, Bool.true_and, ← List.map_cons, List.all_eq_true]
    intro y hy
    obtain ⟨z, hz, rfl⟩ := List.mem_map.mp hy
    have hz' := h z hz
    rw [Bool.and_eq_true]
    refine ⟨?_, decide_eq_true (by simp [eIs, PyData.depth, depA_ints])⟩
    unfold eIs
    rw [shp]
    exact shp_ints x z (by rw [hx, hz'])
/-! ### so many answers -/
theorem step_told (pr : P2) (s : Sd) (c : St) : (stepS pr s c).told.length = s.told.length + c.ans := by
  cases c with
  | act w x m =>
    simp only [stepS]
    cases sel x s.tk <;> cases w <;> simp [St.ans, passed]
  | _ => simp [stepS, St.ans]
theorem ledF_told (pr : P2) : ∀ (sc : Sc) (s : Sd), (ledF pr sc s).told.length = s.told.length + ansIn sc
  | [], s => by simp [ledF, ansIn]
  | c :: sc, s => by
    have := ledF_told pr sc (stepS pr s c)
    rw [step_told] at this
    simp only [ledF, List.foldl_cons, ansIn, List.map_cons, List.sum_cons] at this ⊢
    omega
theorem led_told (sc : Sc) (pr : P2) : (led sc pr).told.length = ansIn sc := by
  have := ledF_told pr sc (first pr)
  simpa [led, first] using this
theorem r_parts (k : Nat) (sc : Sc) (hs : scOk sc = true) (h0 : 0 < ansIn sc) (rs : List P2) (hr : ∀ r ∈ rs, Per r) (h1 : rs ≠ []) (h2 : rs.length ≤ 1000) : run tx0 (k + 5) f_parts [eSc sc, ePs rs] none = .ret (.fro (.bool (parts sc rs))) none := by
  rw [run0 (k + 4) _ _ _ D_parts]
  have E2 : ev (tx0.lk (run tx0 (k + 4)) (runs tx0 (k + 4)).2.2) (.lc (.loc 1) (.one 3) [3] .omit e2_parts) [.val (eSc sc), .val (ePs rs), .no, .no, .no] = .ok (.own ((rs.filter fun _ => true).map fun r => eIs (led sc r).told)) [.val (eSc sc), .val (ePs rs), .no, .no, .no] :=
    ev_lcN (g0 := [.val (eSc sc), .val (ePs rs), .no, .no, .no]) (fun r : P2 => eP r) rs (fun _ => true) _ (fun r => [.val (eSc sc), .val (ePs rs), .no, .val (eP r), .no]) (.fro (ePs rs)) (by simp) (by simp [items, ePs]) (by simp [wipeOk]) (by simp [wipeG]) (by simp [unwipe])
      (fun r hr' => ⟨by simp, by simp [wipeG], by simp, fun _ => ⟨.fro (eIs (led sc r).told), by
        have L := r_led k (hr r hr') sc hs
        simp only [eSd] at L
        simp [e2_parts, L], rfl⟩⟩)
  rw [filter_tt] at E2
  have tl : ∀ y ∈ rs.map fun r => (led sc r).told, y.length = ansIn sc := fun y hy => by
    obtain ⟨r, _, rfl⟩ := List.mem_map.mp hy
    exact led_told sc r
  have SO : opF .sorted [.list (rs.map fun r => eIs (led sc r).told)] = some (.own ((sortL (rs.map fun r => (led sc r).told)).map eIs)) := by
    have e : rs.map (fun r => eIs (led sc r).told) = (rs.map fun r => (led sc r).told).map eIs := by simp
    rw [e]
    show (if ordB _ = true then _ else _) = _
    rw [if_pos (ord_Is h0 tl), isort_Is tl]
  have len : (sortL (rs.map fun r => (led sc r).told)).length = rs.length := by rw [sortL_len, List.length_map]
  unfold parts
  generalize sortL (rs.map fun r => (led sc r).told) = rows at *
  have np : 0 < rows.length := by
    rw [len]
    exact List.length_pos_iff.mpr h1
  have cn : ((rows.length : Int) - 1) = ((rows.length - 1 : Nat) : Int) := by omega
  have rg : ∀ g1, rng1Q (.fro (.int ((rows.length : Int) - 1))) g1 = .ok (.own ((List.range (rows.length - 1)).map fun i : Nat => .int (i : Int))) g1 := fun g1 => by
    rw [cn, rng1_nat (by omega)]
  have E1 : ev (tx0.lk (run tx0 (k + 4)) (runs tx0 (k + 4)).2.2) (.lc (.rng1 (.bin .sub (.bf .len (.cons (.loc 2) .nil)) (.int 1))) (.one 4) [4] q1_parts e1_parts) [.val (eSc sc), .val (ePs rs), .own (rows.map eIs), .no, .no]
      = .ok (.own (((List.range (rows.length - 1)).filter fun k => decide (rows[k]? = rows[k + 1]?)).map fun i : Nat => .int (i : Int))) [.val (eSc sc), .val (ePs rs), .val (.list (rows.map eIs)), .no, .no] :=
    ev_lcN (g0 := [.val (eSc sc), .val (ePs rs), .val (.list (rows.map eIs)), .no, .no]) (fun i : Nat => .int (i : Int)) (List.range (rows.length - 1)) _ _ (fun i => [.val (eSc sc), .val (ePs rs), .val (.list (rows.map eIs)), .no, .val (.int (i : Int))]) (.own ((List.range (rows.length - 1)).map fun i : Nat => .int (i : Int)))
      (by simp [rg]) (by simp [items]) (by simp [wipeOk]) (by simp [wipeG]) (by simp [unwipe]) (fun i hi => by
        have hi := List.mem_range.mp hi
        obtain ⟨u, hu⟩ : ∃ u, rows[i]? = some u := ⟨_, List.getElem?_eq_getElem (by omega)⟩
        obtain ⟨v, hv⟩ : ∃ v, rows[i + 1]? = some v := ⟨_, List.getElem?_eq_getElem (by omega)⟩
        have o1 := (opI_nat (rows.map eIs) (n := i) (by rw [List.getElem?_map, hu]; rfl)).1
        have o2 := (opI_nat (rows.map eIs) (n := i + 1) (by rw [List.getElem?_map, hv]; rfl)).1
        rw [show ((i + 1 : Nat) : Int) = (i : Int) + 1 by omega] at o2
        exact ⟨by simp, by simp [wipeG], by simp [condOf, q1_parts, o1, o2, hu, hv], fun _ => ⟨_, by simp [e1_parts]; rfl, rfl⟩⟩)
  have fin : (((List.range (rows.length - 1)).filter fun k => decide (rows[k]? = rows[k + 1]?)).map fun i : Nat => PyData.int (i : Int)).isEmpty = noTwins rows := by
    unfold noTwins
    rw [List.isEmpty_map]
    generalize List.range (rows.length - 1) = l
    induction l with
    | nil => rfl
    | cons a l ih => cases q : decide (rows[a]? = rows[a + 1]?) <;> simp [q, ih]
  simp [runD, startG, d_parts, b_parts, E2, SO, E1, endG]
  simpa using fin
/-! ### ratios that may be told -/
abbrev xRatios : Str := ⟨#[73, 110, 118, 97, 108, 105, 100, 82, 97, 116, 105, 111, 115]⟩
def isRatiosD : PyData → Bool
  | .tuple xs => decide (2 ≤ xs.length) && decide (xs.length ≤ 6) && (xs.all isRatioD && (match pairsOf xs with
    | some ps => decide ((nub ps).length = xs.length)
    | none => false))
  | _ => false
theorem ratio_pair {v : PyData} (h : isRatioD v = true) : ∃ p : P2, v = eP p ∧ PerOk p ∧ Int.gcd p.1 p.2 = 1 ∧ pairOf v = some [p.1, p.2] := by
  unfold isRatioD at h
  split at h
  · rename_i a b
    simp only [Bool.and_eq_true, decide_eq_true_eq] at h
    have ok := PerOk.of (p := (a, b)) h.1
    refine ⟨(a, b), rfl, ok, h.2, ?_⟩
    obtain ⟨a1, a2, b1, b2, _, _⟩ := ok
    dsimp only at a1 a2 b1 b2
    show (if 0 ≤ a ∧ a < 2 ^ 60 ∧ 0 ≤ b ∧ b < 2 ^ 60 then _ else _) = _
    rw [if_pos (by omega)]
  · cases h
theorem pairs_some : ∀ {xs : List PyData}, xs.all isRatioD = true → ∃ ps, pairsOf xs = some ps ∧ ps.length = xs.length
  | [], _ => ⟨[], rfl, rfl⟩
  | x :: xs, h => by
    simp only [List.all_cons, Bool.and_eq_true] at h
    obtain ⟨p, _, _, _, e⟩ := ratio_pair h.1
    obtain ⟨ps, e2, e3⟩ := pairs_some h.2
    exact ⟨[p.1, p.2] :: ps, by simp [pairsOf, e, e2], by simp [e3]⟩
theorem r_need_ratios (k : Nat) (v : PyData) (h : nd v = true) : run tx0 (k + 4) f_need_ratios [v] none = if isRatiosD v then .ret (.fro .none) none else .exc ⟨xRatios, none⟩ := by
  rw [run0 (k + 3) _ _ _ D_need_ratios]
  cases v with
  | dict _ => cases h
  | tuple xs =>
    simp only [nd] at h
    have E : ev (tx0.lk (run tx0 (k + 3)) (runs tx0 (k + 3)).2.2) (.lc (.loc 0) (.one 1) [1] q1_need_ratios e1_need_ratios) [.val (.tuple xs), .no] = .ok (.own ((xs.filter fun a => !isRatioD a).map id)) [.val (.tuple xs), .no] :=
      ev_lcN (g0 := [.val (.tuple xs), .no]) id xs _ id (fun a => [.val (.tuple xs), .val a]) (.fro (.tuple xs)) (by simp) (by simp [items]) (by simp [wipeOk]) (by simp [wipeG]) (by simp [unwipe])
        (fun a ha => ⟨by simp, by simp [wipeG], by simp [condOf, q1_need_ratios, r_is_ratio, ndA_mem h ha], fun _ => ⟨_, by simp [e1_need_ratios]; rfl, rfl⟩⟩)
    rw [List.map_id] at E
    simp only [isRatiosD]
    by_cases q1 : (2 : Int) ≤ xs.length
    · have q1' : 2 ≤ xs.length := by omega
      by_cases q2 : (xs.length : Int) ≤ 6
      · have q2' : xs.length ≤ 6 := by omega
        rcases Bool.eq_false_or_eq_true (xs.all isRatioD) with q3 | q3
        rotate_left
        · have q3' := flt_emp2 isRatioD xs
          rw [q3] at q3'
          simp only [q3]
          simp [runD, startG, d_need_ratios, b_need_ratios, isiD, q1, q1', q2, q2', E, q3', endG]
        · have q3' := flt_emp2 isRatioD xs
          rw [q3] at q3'
          obtain ⟨ps, e1, e2⟩ := pairs_some q3
          simp only [q3]
          have ls : opLS (.tuple xs) = some ((nub ps).length : Int) := by
            show ((pairsOf xs).bind fun ps => if ps.length < 60 then some ((nub ps).length : Int) else none) = _
            rw [e1]
            simp only [Option.bind_some]
            rw [if_pos (by omega)]
          have ee : (((nub ps).length : Int) = (xs.length : Int)) = ((nub ps).length = xs.length) := by
            apply propext
            omega
          by_cases q4 : (nub ps).length = xs.length
          · have q4' : ((nub ps).length : Int) = (xs.length : Int) := by omega
            simp [runD, startG, d_need_ratios, b_need_ratios, isiD, q1, q1', q2, q2', E, q3', ls, e1, q4, q4', endG]
          · have q4' : ¬ ((nub ps).length : Int) = (xs.length : Int) := by omega
            simp [runD, startG, d_need_ratios, b_need_ratios, isiD, q1, q1', q2, q2', E, q3', ls, e1, q4, q4', endG]
      · have q2' : ¬ xs.length ≤ 6 := by omega
        simp [runD, startG, d_need_ratios, b_need_ratios, isiD, q1, q1', q2, q2', endG]
    · have q1' : ¬ 2 ≤ xs.length := by omega
      simp [runD, startG, d_need_ratios, b_need_ratios, isiD, q1, q1', endG]
  | _ => simp [runD, startG, d_need_ratios, b_need_ratios, isiD, isRatiosD, endG]
theorem ratiosD_of {v : PyData} (h : isRatiosD v = true) : ∃ rs : List P2, v = ePs rs ∧ 2 ≤ rs.length ∧ rs.length ≤ 6 ∧ ∀ r ∈ rs, PerOk r := by
  cases v with
  | tuple xs =>
    simp only [isRatiosD, Bool.and_eq_true, decide_eq_true_eq] at h
    obtain ⟨⟨h1, h2⟩, h3, _⟩ := h
    have : ∀ xs : List PyData, xs.all isRatioD = true → ∃ rs : List P2, xs = rs.map (fun r => eP r) ∧ ∀ r ∈ rs, PerOk r := by
      intro xs
      induction xs with
      | nil => exact fun _ => ⟨[], rfl, fun r hr => by cases hr⟩
      | cons x xs ih =>
        intro h
        simp only [List.all_cons, Bool.and_eq_true] at h
        obtain ⟨p, rfl, ok, _⟩ := ratio_pair h.1
        obtain ⟨rs, rfl, o2⟩ := ih h.2
        refine ⟨p :: rs, rfl, fun r hr => ?_⟩
        rcases List.mem_cons.mp hr with rfl | hr
        · exact ok
        · exact o2 r hr
    obtain ⟨rs, rfl, ok⟩ := this xs h3
    simp only [List.length_map] at h1 h2
    exact ⟨rs, rfl, h1, h2, ok⟩
  | _ => cases h
theorem ePs_inj : ∀ {a b : List P2}, (a.map fun p => eP p) = b.map (fun p => eP p) → a = b
  | [], [], _ => rfl
  | [], _ :: _, h => by simp at h
  | _ :: _, [], h => by simp at h
  | a :: as, b :: bs, h => by
    simp only [List.map_cons, List.cons.injEq] at h
    have e : a = b := by
      have := h.1
      simp [eP] at this
      exact Prod.ext this.1 this.2
    rw [e, ePs_inj h.2]
theorem r_keeps_apart (k : Nat) (sc : Sc) (hs : scOk sc = true) (h0 : 0 < ansIn sc) (rs : List P2) (hr : isRatiosD (ePs rs) = true) : run tx0 (k + 6) f_keeps_apart [eSc sc, ePs rs] none = .ret (.fro (.bool (parts sc rs))) none := by
  rw [run0 (k + 5) _ _ _ D_keeps_apart]
  have h1 := r_need_script (k + 1) (eSc sc) (nd_Sc sc)
  rw [scOk_is hs] at h1
  have nr : nd (ePs rs) = true := by
    simp only [ePs, nd]
    exact nd_map (fun a => nd_P a) rs
  have h2 := r_need_ratios (k + 1) (ePs rs) nr
  rw [hr] at h2
  obtain ⟨rs', e, l1, l2, ok⟩ := ratiosD_of hr
  have e : rs = rs' := by
    simp only [ePs, PyData.tuple.injEq] at e
    exact ePs_inj e
  subst e
  have P := r_parts k sc hs h0 rs (fun r hr => (ok r hr).per) (fun e => by rw [e] at l1; simp at l1) (by omega)
  simp [runD, startG, d_keeps_apart, b_keeps_apart, h1, h2, P, endG]
end TB
set_option maxHeartbeats 0
/-! Runs: scripts beside one another. -/
namespace TB
open PySem PL
theorem r_cuts_of (k : Nat) (ps : List Pc) : run tx0 (k + 1) f_cuts_of [.list (ps.map ePc)] none = .ret (.own ((cutsOf ps).map fun p => eP p)) none := by
  rw [run0 k _ _ _ D_cuts_of]
  have E : ev (tx0.lk (run tx0 k) (runs tx0 k).2.2) (.lc (.loc 0) (.one 1) [1] q1_cuts_of e1_cuts_of) [.val (.list (ps.map ePc)), .no] = .ok (.own ((ps.filter fun p => decide (p.lo = p.hi)).map fun p => eP p.lo)) [.val (.list (ps.map ePc)), .no] :=
    ev_lcN (g0 := [.val (.list (ps.map ePc)), .no]) ePc ps _ _ (fun p => [.val (.list (ps.map ePc)), .val (ePc p)]) (.fro (.list (ps.map ePc))) (by simp) (by simp [items]) (by simp [wipeOk]) (by simp [wipeG]) (by simp [unwipe])
      (fun p _ => by
        obtain ⟨i0, i1, _, _⟩ := pc_at p
        exact ⟨by simp, by simp [wipeG], by simp [condOf, q1_cuts_of, i0, i1], fun _ => ⟨_, by simp [e1_cuts_of, i0]; rfl, rfl⟩⟩)
  simp [runD, startG, d_cuts_of, b_cuts_of, E, endG, cutsOf]
abbrev eLs (l : List P2) : PyData := .list (l.map fun p => eP p)
theorem drop_cons {α : Type} {l : List α} {i : Nat} {a : α} {r : List α} (h : l.drop i = a :: r) : l[i]? = some a ∧ l.drop (i + 1) = r ∧ i < l.length := by
  have h1 : l[i]? = some a := by
    have := congrArg (fun l : List α => l[0]?) h
    simpa using this
  refine ⟨h1, ?_, (List.getElem?_eq_some_iff.mp h1).1⟩
  have := congrArg List.tail h
  simpa using this
/-- merging goes on -/
theorem r_merge_loop (k : Nat) (one other : List P2) (ho : ∀ r ∈ one, Sm2 r) (hl : one.length + other.length ≤ 1000000) : ∀ (n i j : Nat) (found : List P2), i ≤ one.length → j ≤ other.length → one.length - i + (other.length - j) + 1 ≤ n → found.length ≤ i + j →
    ∃ i' j', loopW (fun g => ev (tx0.lk (run tx0 (k + 1)) (runs tx0 (k + 1)).2.2) c1_merged g) (fun g => exs (tx0.lk (run tx0 (k + 1)) (runs tx0 (k + 1)).2.2) l1_merged g) n [.val (eLs one), .val (eLs other), .own (found.map fun p => eP p), .val (.int (i : Int)), .val (.int (j : Int))]
      = .nx [.val (eLs one), .val (eLs other), .own ((found ++ mergeF n (one.drop i) (other.drop j)).map fun p => eP p), i', j']
  | 0, i, j, found, hi, hj, hn, hf => by omega
  | n + 1, i, j, found, hi, hj, hn, hf => by
    have j1 : ∀ z : PyData, opB .add (.list (found.map fun p => eP p)) (.list [z]) = some (.own ((found.map fun p => eP p) ++ [z])) := fun z => opB_lst (by rw [sz]; simp; omega)
    cases hA : one.drop i with
    | nil =>
      have hi' : i = one.length := by
        have := List.drop_eq_nil_iff.mp hA
        omega
      cases hB : other.drop j with
      | nil =>
        have hj' : j = other.length := by
          have := List.drop_eq_nil_iff.mp hB
          omega
        have C : ev (tx0.lk (run tx0 (k + 1)) (runs tx0 (k + 1)).2.2) c1_merged [.val (eLs one), .val (eLs other), .own (found.map fun p => eP p), .val (.int (i : Int)), .val (.int (j : Int))] = .ok (.fro (.bool false)) [.val (eLs one), .val (eLs other), .own (found.map fun p => eP p), .val (.int (i : Int)), .val (.int (j : Int))] := by
          simp [c1_merged, hi', hj']
        refine ⟨.val (.int i), .val (.int j), ?_⟩
        rw [loopW_succ, C]
        simp [mergeF]
      | cons b bs =>
        obtain ⟨b1, b2, b3⟩ := drop_cons hB
        have jl : (j : Int) < other.length := by omega
        have jn : ¬ (j : Int) = other.length := by omega
        have C : ev (tx0.lk (run tx0 (k + 1)) (runs tx0 (k + 1)).2.2) c1_merged [.val (eLs one), .val (eLs other), .own (found.map fun p => eP p), .val (.int (i : Int)), .val (.int (j : Int))] = .ok (.fro (.bool true)) [.val (eLs one), .val (eLs other), .own (found.map fun p => eP p), .val (.int (i : Int)), .val (.int (j : Int))] := by
          simp [c1_merged, hi', jl]
        have ib := (opI_nat (other.map fun p => eP p) (n := j) (by rw [List.getElem?_map, b1]; rfl)).1
        have bi : opF .int [.bool false] = some (.fro (.int 0)) := rfl
        have Bd : exs (tx0.lk (run tx0 (k + 1)) (runs tx0 (k + 1)).2.2) l1_merged [.val (eLs one), .val (eLs other), .own (found.map fun p => eP p), .val (.int (i : Int)), .val (.int (j : Int))] = .nx [.val (eLs one), .val (eLs other), .own ((found ++ [b]).map fun p => eP p), .val (.int (i : Int)), .val (.int ((j : Int) + 1))] := by
          simp [l1_merged, jn, hi', ib, j1, bi]
        obtain ⟨i', j', L⟩ := r_merge_loop k one other ho hl n i (j + 1) (found ++ [b]) hi (by omega) (by omega) (by simp; omega)
        rw [b2, hA] at L
        refine ⟨i', j', ?_⟩
        rw [loopW_succ, C]
        simp only [Bd]
        rw [show ((j : Int) + 1) = ((j + 1 : Nat) : Int) by omega, L]
        simp [mergeF]
    | cons a as =>
      obtain ⟨a1, a2, a3⟩ := drop_cons hA
      have il : (i : Int) < one.length := by omega
      have ia := (opI_nat (one.map fun p => eP p) (n := i) (by rw [List.getElem?_map, a1]; rfl)).1
      have C : ev (tx0.lk (run tx0 (k + 1)) (runs tx0 (k + 1)).2.2) c1_merged [.val (eLs one), .val (eLs other), .own (found.map fun p => eP p), .val (.int (i : Int)), .val (.int (j : Int))] = .ok (.fro (.bool true)) [.val (eLs one), .val (eLs other), .own (found.map fun p => eP p), .val (.int (i : Int)), .val (.int (j : Int))] := by
        simp [c1_merged, il]
      have first : ∀ as', exs (tx0.lk (run tx0 (k + 1)) (runs tx0 (k + 1)).2.2) l1_merged [.val (eLs one), .val (eLs other), .own (found.map fun p => eP p), .val (.int (i : Int)), .val (.int (j : Int))] = .nx [.val (eLs one), .val (eLs other), .own ((found ++ [a]).map fun p => eP p), .val (.int ((i : Int) + 1)), .val (.int (j : Int))] → mergeF (n + 1) (a :: as) (other.drop j) = a :: as' → mergeF n as (other.drop j) = as' →
          ∃ i' j', loopW (fun g => ev (tx0.lk (run tx0 (k + 1)) (runs tx0 (k + 1)).2.2) c1_merged g) (fun g => exs (tx0.lk (run tx0 (k + 1)) (runs tx0 (k + 1)).2.2) l1_merged g) (n + 1) [.val (eLs one), .val (eLs other), .own (found.map fun p => eP p), .val (.int (i : Int)), .val (.int (j : Int))]
            = .nx [.val (eLs one), .val (eLs other), .own ((found ++ mergeF (n + 1) (a :: as) (other.drop j)).map fun p => eP p), i', j'] := fun as' Bd m1 m2 => by
        obtain ⟨i', j', L⟩ := r_merge_loop k one other ho hl n (i + 1) j (found ++ [a]) (by omega) hj (by omega) (by simp; omega)
        rw [a2, m2] at L
        refine ⟨i', j', ?_⟩
        rw [loopW_succ, C]
        simp only [Bd]
        rw [show ((i : Int) + 1) = ((i + 1 : Nat) : Int) by omega, L, m1]
        simp
      cases hB : other.drop j with
      | nil =>
        have hj' : j = other.length := by
          have := List.drop_eq_nil_iff.mp hB
          omega
        rw [hB] at first
        exact first (mergeF n as []) (by simp [l1_merged, hj', ia, j1]) rfl rfl
      | cons b bs =>
        obtain ⟨b1, b2, b3⟩ := drop_cons hB
        have jn : ¬ (j : Int) = other.length := by omega
        have ib := (opI_nat (other.map fun p => eP p) (n := j) (by rw [List.getElem?_map, b1]; rfl)).1
        have ls := r_less k a b (.inl (ho a (List.mem_of_getElem? a1)))
        cases ql : less a b with
        | true =>
          rw [ql] at ls
          rw [hB] at first
          exact first (mergeF n as (b :: bs)) (by simp [l1_merged, jn, il, ia, ib, ls, j1]) (by simp [mergeF, ql]) rfl
        | false =>
          rw [ql] at ls
          by_cases qe : a = b
          · subst qe
            have bi : opF .int [.bool true] = some (.fro (.int 1)) := rfl
            have Bd : exs (tx0.lk (run tx0 (k + 1)) (runs tx0 (k + 1)).2.2) l1_merged [.val (eLs one), .val (eLs other), .own (found.map fun p => eP p), .val (.int (i : Int)), .val (.int (j : Int))] = .nx [.val (eLs one), .val (eLs other), .own ((found ++ [a]).map fun p => eP p), .val (.int ((i : Int) + 1)), .val (.int ((j : Int) + 1))] := by
              simp [l1_merged, jn, il, ia, ib, ls, j1, bi]
            obtain ⟨i', j', L⟩ := r_merge_loop k one other ho hl n (i + 1) (j + 1) (found ++ [a]) (by omega) (by omega) (by omega) (by simp; omega)
            rw [a2, b2] at L
            refine ⟨i', j', ?_⟩
            rw [loopW_succ, C]
            simp only [Bd]
            rw [show ((i : Int) + 1) = ((i + 1 : Nat) : Int) by omega, show ((j : Int) + 1) = ((j + 1 : Nat) : Int) by omega, L]
            simp [mergeF, ql]
          · have bi : opF .int [.bool false] = some (.fro (.int 0)) := rfl
            have Bd : exs (tx0.lk (run tx0 (k + 1)) (runs tx0 (k + 1)).2.2) l1_merged [.val (eLs one), .val (eLs other), .own (found.map fun p => eP p), .val (.int (i : Int)), .val (.int (j : Int))] = .nx [.val (eLs one), .val (eLs other), .own ((found ++ [b]).map fun p => eP p), .val (.int (i : Int)), .val (.int ((j : Int) + 1))] := by
              simp [l1_merged, jn, il, ia, ib, ls, j1, bi, qe]
            obtain ⟨i', j', L⟩ := r_merge_loop k one other ho hl n i (j + 1) (found ++ [b]) hi (by omega) (by omega) (by simp; omega)
            rw [b2, hA] at L
            refine ⟨i', j', ?_⟩
            rw [loopW_succ, C]
            simp only [Bd]
            rw [show ((j : Int) + 1) = ((j + 1 : Nat) : Int) by omega, L]
            simp [mergeF, ql, qe]
theorem mergeF_stop : ∀ (n m : Nat) (a b : List P2), a.length + b.length + 1 ≤ n → a.length + b.length + 1 ≤ m → mergeF n a b = mergeF m a b
  | 0, _, a, b, h, _ => by omega
  | _, 0, a, b, _, h => by omega
  | n + 1, m + 1, [], [], _, _ => rfl
  | n + 1, m + 1, a :: as, [], h1, h2 => by
    simp only [mergeF]
    rw [mergeF_stop n m as [] (by simp at h1 ⊢; omega) (by simp at h2 ⊢; omega)]
  | n + 1, m + 1, [], b :: bs, h1, h2 => by
    simp only [mergeF]
    rw [mergeF_stop n m [] bs (by simp at h1 ⊢; omega) (by simp at h2 ⊢; omega)]
  | n + 1, m + 1, a :: as, b :: bs, h1, h2 => by
    simp only [mergeF]
    rw [mergeF_stop n m as (b :: bs) (by simp at h1 ⊢; omega) (by simp at h2 ⊢; omega), mergeF_stop n m as bs (by simp at h1 ⊢; omega) (by simp at h2 ⊢; omega), mergeF_stop n m (a :: as) bs (by simp at h1 ⊢; omega) (by simp at h2 ⊢; omega)]
theorem r_merged (k : Nat) (one other : List P2) (ho : ∀ r ∈ one, Sm2 r) (hl : one.length + other.length ≤ 90000) : run tx0 (k + 2) f_merged [eLs one, eLs other] none = .ret (.fro (eLs (PL.merged one other))) none := by
  rw [run0 (k + 1) _ _ _ D_merged]
  obtain ⟨i', j', L⟩ := r_merge_loop k one other ho (by omega) 100000 0 0 [] (by omega) (by omega) (by omega) (by simp)
  rw [List.drop_zero, List.drop_zero, List.nil_append, mergeF_stop 100000 (one.length + other.length + 1) one other (by omega) (by omega)] at L
  simp only [List.map_nil] at L
  simp [runD, startG, d_merged, b_merged, ex_whl]
  simp at L
  simp [L, endG, d_merged, PL.merged]
end TB
set_option maxHeartbeats 0
/-! Runs: scripts beside one another, further. -/
namespace TB
open PySem PL
def eTo (t : List Int × List Int) : PyData := .tuple [eIs t.1, .list (t.2.map .int)]
theorem dep_To (t : List Int × List Int) : (eTo t).depth ≤ 60 := by simp [eTo, eIs, PyData.depth, PyData.depthAll, depA_ints]
theorem eqv_To (a b : List Int × List Int) : PyData.eqv (eTo a) (eTo b) = decide (a = b) := by
  obtain ⟨a1, a2⟩ := a
  obtain ⟨b1, b2⟩ := b
  simp only [eTo, eqv_t, eqvA_cc, eqvA_nn, eqv_Is, eqv_l, eqvA_ints, Bool.and_true]
  rw [Bool.eq_iff_iff]
  simp
theorem opC_eqTo (a b : List Int × List Int) : opC .eq (eTo a) (eTo b) = some (decide (a = b)) := by rw [opC_eq _ _ (eqOk_l _ _ (dep_To a)), eqv_To]
theorem r_told_at (k : Nat) (sc : Sc) (hs : scOk sc = true) {r : P2} (hr : Per r) : run tx0 (k + 6) f_told_at [eSc sc, eP r] none = .ret (.fro (eTo (toldAt sc r))) none := by
  rw [run0 (k + 5) _ _ _ D_told_at]
  have S := r_single k sc hs hr
  obtain ⟨_, _, i4, i5⟩ := pc_at (single sc r)
  have E : ev (tx0.lk (run tx0 (k + 5)) (runs tx0 (k + 5)).2.2) (.lc (.idx (.loc 2) (.int 5)) (.one 3) [3] .omit e1_told_at) [.val (eSc sc), .val (eP r), .val (ePc (single sc r)), .no] = .ok (.own (((single sc r).heard.filter fun _ => true).map fun f => .int f.1)) [.val (eSc sc), .val (eP r), .val (ePc (single sc r)), .no] :=
    ev_lcN (g0 := [.val (eSc sc), .val (eP r), .val (ePc (single sc r)), .no]) (fun f : P2 => eP f) (single sc r).heard (fun _ => true) _ (fun f => [.val (eSc sc), .val (eP r), .val (ePc (single sc r)), .val (eP f)]) (.fro (ePs (single sc r).heard)) (by simp [i5]) (by simp [items, ePs]) (by simp [wipeOk]) (by simp [wipeG]) (by simp [unwipe])
      (fun f _ => ⟨by simp, by simp [wipeG], by simp, fun _ => ⟨.fro (.int f.1), by simp [e1_told_at], rfl⟩⟩)
  rw [filter_tt] at E
  have e2 : (single sc r).heard.map (fun f => PyData.int f.1) = (led sc r).heard.map .int := by
    simp [single]
  rw [e2] at E
  simp [runD, startG, d_told_at, b_told_at, S, i4, E, endG, eTo, toldAt]
  rfl
theorem r_piece_over (k : Nat) (ps : List Pc) {lo hi : P2} (hl : Sm2 lo) (hh : Sm2 hi) {p : Pc} (h : pieceOver ps lo hi = some p) : run tx0 (k + 2) f_piece_over [.list (ps.map ePc), eP lo, eP hi] none = .ret (.fro (ePc p)) none := by
  rw [run0 (k + 1) _ _ _ D_piece_over]
  obtain ⟨g', ⟨a, ha, rfl⟩, L⟩ := loopF_exit (tg := .one 3) (b := fun g => exs (tx0.lk (run tx0 (k + 1)) (runs tx0 (k + 1)).2.2) l1_piece_over g) ePc (fun g => ∃ a, isIo a = false ∧ g = [.val (.list (ps.map ePc)), .val (eP lo), .val (eP hi), a]) (overB lo hi) (fun p => .fro (ePc p)) ps [.val (.list (ps.map ePc)), .val (eP lo), .val (eP hi), .no] ⟨_, rfl, rfl⟩
    (fun x _ g ⟨a, ha, hg⟩ => by
      subst hg
      obtain ⟨i0, i1, _, _⟩ := pc_at x
      have l1 := r_less k lo x.lo (.inl hl)
      have l2 := r_less k x.hi hi (.inr hh)
      refine ⟨_, by simp [ha]; rfl, [.val (.list (ps.map ePc)), .val (eP lo), .val (eP hi), .val (ePc x)], ?_, _, rfl, rfl⟩
      unfold overB
      by_cases q0 : x.lo = x.hi
      · rw [← q0] at i1 l2
        simp [l1_piece_over, i0, i1, q0]
      · cases q1 : less lo x.lo
        · cases q2 : less x.hi hi
          · simp [l1_piece_over, i0, i1, q0, l1, l2, q1, q2]
          · simp [l1_piece_over, i0, i1, q0, l1, l2, q1, q2]
        · simp [l1_piece_over, i0, i1, q0, l1, l2, q1])
  unfold pieceOver at h
  cases hf : ps.find? (overB lo hi) with
  | some q =>
    rw [hf] at L h
    cases h
    simp [runD, startG, d_piece_over, b_piece_over, ex_for, evi, items, L, endG]
  | none =>
    rw [hf] at L h
    cases ps with
    | nil => cases h
    | cons q ps =>
      cases h
      have i0 : opI (.list ((p :: ps).map ePc)) (.int 0) = some (ePc p) := opI_l0 _ _
      simp only [List.map_cons] at L i0
      simp [runD, startG, d_piece_over, b_piece_over, ex_for, evi, items, L, i0, endG]
theorem zip_enc : ∀ a b : List P2, List.zipWith (fun a b => pairD (eP a) (eP b)) a b = (a.zip b).map fun q => .tuple [eP q.1, eP q.2]
  | [], _ => by simp
  | _ :: _, [] => by simp
  | a :: as, b :: bs => by
    have := zip_enc as bs
    simp only [pairD] at this
    simp [pairD, this]
theorem r_rows_between (k : Nat) (a b : Pc) {lo hi : P2} {N : Int} (hN : N < 2 ^ 38) (hl : Rb lo) (hh : Rb hi) (ha : ∀ f ∈ a.heard, Fb N f) (hb : ∀ f ∈ b.heard, Fb N f) : run tx0 (k + 4) f_rows_between [ePc a, ePc b, eP lo, eP hi] none = .ret (.own ((rowsBetween a b lo hi).map eGr)) none := by
  rw [run0 (k + 3) _ _ _ D_rows_between]
  obtain ⟨_, _, a4, a5⟩ := pc_at a
  obtain ⟨_, _, b4, b5⟩ := pc_at b
  unfold rowsBetween
  by_cases q1 : a.told = b.told
  · by_cases q2 : a.heard.length = b.heard.length
    · rw [if_neg (by simp [q1, q2])]
      have q2' : (a.heard.length : Int) = b.heard.length := by omega
      have E : ev (tx0.lk (run tx0 (k + 3)) (runs tx0 (k + 3)).2.2) (.lc (.zip (.idx (.loc 0) (.int 5)) (.idx (.loc 1) (.int 5))) (.many [7, 8]) [7, 8] q2_rows_between e2_rows_between) [.val (ePc a), .val (ePc b), .val (eP lo), .val (eP hi), .no, .no, .no, .no, .no, .no]
          = .ok (.own (((a.heard.zip b.heard).filter fun q => !decide (q.1 = q.2)).map fun q => eP (minus q.1 q.2))) [.val (ePc a), .val (ePc b), .val (eP lo), .val (eP hi), .no, .no, .no, .no, .no, .no] :=
        ev_lcN (g0 := [.val (ePc a), .val (ePc b), .val (eP lo), .val (eP hi), .no, .no, .no, .no, .no, .no]) (fun q : P2 × P2 => .tuple [eP q.1, eP q.2]) (a.heard.zip b.heard) _ _ (fun q => [.val (ePc a), .val (ePc b), .val (eP lo), .val (eP hi), .no, .no, .no, .val (eP q.1), .val (eP q.2), .no]) (.own ((a.heard.zip b.heard).map fun q => .tuple [eP q.1, eP q.2]))
          (by simp [a5, b5, ePs, zip_enc]) (by simp [items]) (by simp [wipeOk]) (by simp [wipeG]) (by simp [unwipe]) (fun q _ => ⟨by simp, by simp [wipeG], by simp [condOf, q2_rows_between], fun _ => ⟨_, by simp [e2_rows_between, r_minus]; rfl, rfl⟩⟩)
      have gb : ∀ g ∈ (((a.heard.zip b.heard).filter fun q => !decide (q.1 = q.2)).map fun q => minus q.1 q.2), Fb (N + N) g := fun g hg => by
        obtain ⟨q, hq, rfl⟩ := List.mem_map.mp hg
        have hq := (List.mem_filter.mp hq).1
        have := List.of_mem_zip (show (q.1, q.2) ∈ a.heard.zip b.heard from hq)
        exact (ha _ this.1).minus (hb _ this.2)
      have e1 : ((a.heard.zip b.heard).filter fun q => !decide (q.1 = q.2)).map (fun q => eP (minus q.1 q.2)) = (((a.heard.zip b.heard).filter fun q => !decide (q.1 = q.2)).map fun q => minus q.1 q.2).map fun p => eP p := by simp
      rw [e1] at E
      generalize (((a.heard.zip b.heard).filter fun q => !decide (q.1 = q.2)).map fun q => minus q.1 q.2) = some_ at *
      cases some_ with
      | nil =>
        simp only [List.map_nil] at E
        simp [runD, startG, d_rows_between, b_rows_between, a4, b4, a5, b5, q1, ePs, q2', E, endG, eGr]
      | cons g gs =>
        have z := r_zero_within k (f := g) (lo := lo) (hi := hi) (gb g (List.mem_cons_self ..)) (by omega)
        have i0 : opI (.list ((g :: gs).map fun p => eP p)) (.int 0) = some (eP g) := opI_l0 _ _
        dsimp only
        cases hz : zeroIn g lo hi with
        | none =>
          rw [hz] at z
          simp only [eO_none] at z
          simp only [List.map_cons] at E i0
          simp [runD, startG, d_rows_between, b_rows_between, a4, b4, a5, b5, q1, ePs, q2', E, i0, z, endG, eGr]
        | some c =>
          rw [hz] at z
          simp only [eO_some] at z
          have rc := zeroIn_Rb (gb g (List.mem_cons_self ..)) (by omega) hz
          have E1 : ev (tx0.lk (run tx0 (k + 3)) (runs tx0 (k + 3)).2.2) (.lc (.loc 4) (.one 9) [9] q1_rows_between e1_rows_between) [.val (ePc a), .val (ePc b), .val (eP lo), .val (eP hi), .val (eLs (g :: gs)), .val (eP c), .no, .no, .no, .no]
              = .ok (.own (((g :: gs).filter fun z => !decide (worth z c = 0)).map fun p => eP p)) [.val (ePc a), .val (ePc b), .val (eP lo), .val (eP hi), .val (eLs (g :: gs)), .val (eP c), .no, .no, .no, .no] :=
            ev_lcN (g0 := [.val (ePc a), .val (ePc b), .val (eP lo), .val (eP hi), .val (eLs (g :: gs)), .val (eP c), .no, .no, .no, .no]) (fun p : P2 => eP p) (g :: gs) _ _ (fun p => [.val (ePc a), .val (ePc b), .val (eP lo), .val (eP hi), .val (eLs (g :: gs)), .val (eP c), .no, .no, .no, .val (eP p)]) (.fro (eLs (g :: gs)))
              (by simp) (by simp [items]) (by simp [wipeOk]) (by simp [wipeG]) (by simp [unwipe]) (fun p _ => ⟨by simp, by simp [wipeG], by simp [condOf, q1_rows_between, r_worth, rc.sm], fun _ => ⟨_, by simp [e1_rows_between]; rfl, rfl⟩⟩)
          have e3 : (((g :: gs).filter fun z => !decide (worth z c = 0)).map fun p => eP p).isEmpty = (g :: gs).all fun z => decide (worth z c = 0) := by
            rw [List.isEmpty_map]
            generalize (g :: gs) = l
            induction l with
            | nil => rfl
            | cons x l ih => cases q : decide (worth x c = 0) <;> simp [q, ih]
          simp only [eLs] at E1
          simp only [List.map_cons] at E i0 E1
          dsimp only
          rw [← e3]
          simp [runD, startG, d_rows_between, b_rows_between, a4, b4, a5, b5, q1, ePs, q2', E, i0, z, E1, endG, eGr]
    · rw [if_pos (.inr q2)]
      have q2' : ¬ (a.heard.length : Int) = b.heard.length := by omega
      simp [runD, startG, d_rows_between, b_rows_between, a4, b4, a5, b5, q1, ePs, q2', endG, eGr]
  · rw [if_pos (.inl q1)]
    simp [runD, startG, d_rows_between, b_rows_between, a4, b4, q1, endG, eGr]
def eGs (l : List Gr) : List PyData := l.map eGr
/-- the rows of all ratios -/
theorem r_rows_loop (k : Nat) (one other : Sc) (h1 : scOk one = true) (h2 : scOk other = true) (a b : List Pc) {N : Int} (hN : N < 2 ^ 38) (ha : ∀ p ∈ a, ∀ f ∈ p.heard, Fb N f) (hb : ∀ p ∈ b, ∀ f ∈ p.heard, Fb N f) (x3 x4 : Sl) : ∀ (rs : List P2) (lo : P2) (acc t : List Gr) (c d e : Sl), (∀ r ∈ rs, Rb r) → Rb lo → rowsGo one other a b rs lo = some t → acc.length + t.length ≤ 1000000 → isIo c = false → isIo d = false → isIo e = false →
    ∃ c' d' e' f', loopF (.one 2) (fun g => exs (tx0.lk (run tx0 (k + 6)) (runs tx0 (k + 6)).2.2) l1_all_rows g) (rs.map fun p => eP p) [.val (eSc one), .val (eSc other), c, .val (.list (a.map ePc)), .val (.list (b.map ePc)), .own (acc.map eGr), .val (eP lo), d, e]
      = .nx [.val (eSc one), .val (eSc other), c', .val (.list (a.map ePc)), .val (.list (b.map ePc)), .own ((acc ++ t).map eGr), f', d', e']
  | [], lo, acc, t, c, d, e, _, _, h, _, _, _, _ => by
    cases h
    exact ⟨c, d, e, .val (eP lo), by simp⟩
  | r :: rs, lo, acc, t, c, d, e, hr, hlo, h, hl, hc, hd, he => by
    unfold rowsGo at h
    split at h
    · rename_i p q hp hq
      split at h
      · rename_i t' ht
        cases h
        have rr := hr r (List.mem_cons_self ..)
        have P := r_piece_over (k + 4) a hlo.sm rr.sm hp
        have Q := r_piece_over (k + 4) b hlo.sm rr.sm hq
        have mem : ∀ (l : List Pc) (p : Pc), pieceOver l lo r = some p → p ∈ l := fun l p h => by
          unfold pieceOver at h
          split at h
          · cases h
            exact List.mem_of_find?_eq_some (by assumption)
          · exact List.mem_of_head? h
        have B := r_rows_between (k + 2) p q hN hlo rr (ha p (mem a p hp)) (hb q (mem b q hq))
        have T1 := r_told_at k one h1 rr.per
        have T2 := r_told_at k other h2 rr.per
        have TE := opC_eqTo (toldAt one r) (toldAt other r)
        simp only [List.length_append] at hl
        have l1 : acc.length + (rowsBetween p q lo r).length ≤ sizeLine := by rw [sz]; omega
        by_cases z : r = HI
        · have zh : opC .ne (eP r) (.tuple [.int 5, .int 1]) = some false := by
            subst z
            exact (opC_neP HI HI).trans (by simp)
          have Bd : exs (tx0.lk (run tx0 (k + 6)) (runs tx0 (k + 6)).2.2) l1_all_rows [.val (eSc one), .val (eSc other), .val (eP r), .val (.list (a.map ePc)), .val (.list (b.map ePc)), .own (acc.map eGr), .val (eP lo), d, e] = .nx [.val (eSc one), .val (eSc other), .val (eP r), .val (.list (a.map ePc)), .val (.list (b.map ePc)), .own ((acc ++ rowsBetween p q lo r).map eGr), .val (eP r), .val (ePc p), .val (ePc q)] := by
            simp [l1_all_rows, P, Q, B, hd, he, lent, lentSl, l1, G_HIGHEST, zh]
          obtain ⟨c', d', e', f', L⟩ := r_rows_loop k one other h1 h2 a b hN ha hb x3 x4 rs r (acc ++ rowsBetween p q lo r) t' (.val (eP r)) (.val (ePc p)) (.val (ePc q)) (fun y hy => hr y (List.mem_cons_of_mem _ hy)) rr ht (by simp only [List.length_append]; omega) rfl rfl rfl
          refine ⟨c', d', e', f', ?_⟩
          rw [List.map_cons, loopF_cons]
          simp [hc, Bd]
          simp at L
          simp [z] at L ⊢
          exact L
        · have zh : opC .ne (eP r) (.tuple [.int 5, .int 1]) = some true := by
            exact (opC_neP r HI).trans (by simp [z])
          have l2 : acc.length + (rowsBetween p q lo r).length < sizeLine := by
            rw [sz]
            rw [if_neg z] at hl
            simp at hl
            omega
          have Bd : exs (tx0.lk (run tx0 (k + 6)) (runs tx0 (k + 6)).2.2) l1_all_rows [.val (eSc one), .val (eSc other), .val (eP r), .val (.list (a.map ePc)), .val (.list (b.map ePc)), .own (acc.map eGr), .val (eP lo), d, e] = .nx [.val (eSc one), .val (eSc other), .val (eP r), .val (.list (a.map ePc)), .val (.list (b.map ePc)), .own ((acc ++ (rowsBetween p q lo r ++ [(r, r, decide (toldAt one r = toldAt other r))])).map eGr), .val (eP r), .val (ePc p), .val (ePc q)] := by
            simp [l1_all_rows, P, Q, B, hd, he, lent, lentSl, l1, l2, G_HIGHEST, zh, T1, T2, TE, eGr]
          obtain ⟨c', d', e', f', L⟩ := r_rows_loop k one other h1 h2 a b hN ha hb x3 x4 rs r (acc ++ (rowsBetween p q lo r ++ [(r, r, decide (toldAt one r = toldAt other r))])) t' (.val (eP r)) (.val (ePc p)) (.val (ePc q)) (fun y hy => hr y (List.mem_cons_of_mem _ hy)) rr ht (by rw [if_neg z] at hl; simp only [List.length_append] at hl ⊢; omega) rfl rfl rfl
          refine ⟨c', d', e', f', ?_⟩
          rw [List.map_cons, loopF_cons]
          simp only [tgt_one, put_eq]
          simp only [List.getElem?_cons_succ, List.getElem?_cons_zero, hc, Bool.false_eq_true, if_false, List.set_cons_succ, List.set_cons_zero, Bd]
          rw [L, if_neg z]
          simp only [List.append_assoc]
      · cases h
    · cases h
end TB
set_option maxHeartbeats 0
/-! Runs: likeness. -/
namespace TB
open PySem PL
/-- a script with its pieces, within bounds -/
structure Crs (f : Nat) (sc : Sc) (ps : List Pc) : Prop where
  ok : scOk sc = true
  eq : course f sc = some ps
  len : ps.length ≤ 40000
  rb : ∀ p ∈ ps, Rb p.lo ∧ Rb p.hi
  hb : ∀ p ∈ ps, ∀ g ∈ p.heard, Fb (2 ^ 37) g
theorem merge_mem : ∀ (n : Nat) (a b : List P2) (x : P2), x ∈ mergeF n a b → x ∈ a ∨ x ∈ b
  | 0, a, b, x, h => by cases h
  | n + 1, [], [], x, h => by cases h
  | n + 1, a :: as, [], x, h => by
    simp only [mergeF, List.mem_cons] at h
    rcases h with h | h
    · exact .inl (by simp [h])
    · rcases merge_mem n as [] x h with h | h
      · exact .inl (List.mem_cons_of_mem _ h)
      · cases h
  | n + 1, [], b :: bs, x, h => by
    simp only [mergeF, List.mem_cons] at h
    rcases h with h | h
    · exact .inr (by simp [h])
    · rcases merge_mem n [] bs x h with h | h
      · cases h
      · exact .inr (List.mem_cons_of_mem _ h)
  | n + 1, a :: as, b :: bs, x, h => by
    simp only [mergeF] at h
    split at h
    · rcases List.mem_cons.mp h with h | h
      · exact .inl (by simp [h])
      · rcases merge_mem n as (b :: bs) x h with h | h
        · exact .inl (List.mem_cons_of_mem _ h)
        · exact .inr h
    · split at h
      · rcases List.mem_cons.mp h with h | h
        · exact .inr (by simp [h])
        · rcases merge_mem n as bs x h with h | h
          · exact .inl (List.mem_cons_of_mem _ h)
          · exact .inr (List.mem_cons_of_mem _ h)
      · rcases List.mem_cons.mp h with h | h
        · exact .inr (by simp [h])
        · rcases merge_mem n (a :: as) bs x h with h | h
          · exact .inl h
          · exact .inr (List.mem_cons_of_mem _ h)
theorem cuts_Rb {f : Nat} {sc : Sc} {ps : List Pc} (c : Crs f sc ps) : ∀ r ∈ cutsOf ps, Rb r := fun r hr => by
  simp only [cutsOf, List.mem_map, List.mem_filter] at hr
  obtain ⟨p, ⟨hp, _⟩, rfl⟩ := hr
  exact (c.rb p hp).1
theorem cuts_len (ps : List Pc) : (cutsOf ps).length ≤ ps.length := by
  unfold cutsOf
  rw [List.length_map]
  exact List.length_filter_le _ _
theorem merge_len : ∀ (n : Nat) (a b : List P2), (mergeF n a b).length ≤ n
  | 0, a, b => by simp [mergeF]
  | n + 1, [], [] => by simp [mergeF]
  | n + 1, a :: as, [] => by simp [mergeF, merge_len n as []]
  | n + 1, [], b :: bs => by simp [mergeF, merge_len n [] bs]
  | n + 1, a :: as, b :: bs => by
    simp only [mergeF]
    split
    · simp [merge_len n as (b :: bs)]
    · split
      · simp [merge_len n as bs]
      · simp [merge_len n (a :: as) bs]
theorem r_all_rows (k f : Nat) {one other : Sc} {a b : List Pc} (c1 : Crs f one a) (c2 : Crs f other b) {t : List Gr} (h : allRows one other a b = some t) (hl : t.length ≤ 1000000) : run tx0 (k + f + 9) f_all_rows [eSc one, eSc other] none = .ret (.fro (.list (t.map eGr))) none := by
  rw [run0 (k + f + 8) _ _ _ D_all_rows]
  have C1 := r_course k f one c1.ok c1.eq (by have := c1.len; omega)
  have C2 := r_course k f other c2.ok c2.eq (by have := c2.len; omega)
  have U1 := r_cuts_of (k + f + 7) a
  have U2 := r_cuts_of (k + f + 7) b
  have q1 := cuts_len a
  have q2 := cuts_len b
  have M := r_merged (k + f + 6) (cutsOf a) (cutsOf b) (fun r hr => (cuts_Rb c1 r hr).sm) (by have := c1.len; have := c2.len; omega)
  have mr : ∀ r ∈ PL.merged (cutsOf a) (cutsOf b) ++ [HI], Rb r := fun r hr => by
    rcases List.mem_append.mp hr with hr | hr
    · rcases merge_mem _ _ _ _ hr with h | h
      · exact cuts_Rb c1 r h
      · exact cuts_Rb c2 r h
    · rw [List.mem_singleton.mp hr]; exact Rb_HI
  obtain ⟨c', d', e', f', L⟩ := r_rows_loop (k + f + 2) one other c1.ok c2.ok a b (N := 2 ^ 37) (by decide) c1.hb c2.hb .no .no (PL.merged (cutsOf a) (cutsOf b) ++ [HI]) LO [] t .no .no .no mr Rb_LO h (by simpa using hl) rfl rfl rfl
  have ml := merge_len ((cutsOf a).length + (cutsOf b).length + 1) (cutsOf a) (cutsOf b)
  have j1 : opB .add (eLs (PL.merged (cutsOf a) (cutsOf b))) (.list [.tuple [.int 5, .int 1]]) = some (.own (((PL.merged (cutsOf a) (cutsOf b)) ++ [HI]).map fun p => eP p)) := by
    rw [opB_lst (by rw [sz]; simp [PL.merged]; have := c1.len; have := c2.len; omega)]
    simp [HI]
  simp only [LO, List.map_nil, eP] at L
  simp only [eLs] at M U1 U2 j1
  simp only [runD, startG, d_all_rows, b_all_rows]
  simp [C1, C2, U1, U2, M, ex_for, evi, items, G_HIGHEST, G_LOWEST, j1]
  simp at L
  simp [L, endG, d_all_rows]
theorem r_are_alike (k f : Nat) {one other : Sc} {a b : List Pc} (c1 : Crs f one a) (c2 : Crs f other b) {t : List Gr} (h : allRows one other a b = some t) (hl : t.length ≤ 1000000) : run tx0 (k + f + 10) f_are_alike [eSc one, eSc other] none = .ret (.fro (.bool (alikeB t))) none := by
  rw [run0 (k + f + 9) _ _ _ D_are_alike]
  have A := r_all_rows k f c1 c2 h hl
  have E : ev (tx0.lk (run tx0 (k + f + 9)) (runs tx0 (k + f + 9)).2.2) (.lc (.call f_all_rows (.cons (.loc 0) (.cons (.loc 1) .nil))) (.one 2) [2] q1_are_alike e1_are_alike) [.val (eSc one), .val (eSc other), .no] = .ok (.own ((t.filter fun r => !r.2.2).map eGr)) [.val (eSc one), .val (eSc other), .no] :=
    ev_lcN (g0 := [.val (eSc one), .val (eSc other), .no]) eGr t _ _ (fun r => [.val (eSc one), .val (eSc other), .val (eGr r)]) (.fro (.list (t.map eGr))) (by simp [A]) (by simp [items]) (by simp [wipeOk]) (by simp [wipeG]) (by simp [unwipe])
      (fun r _ => ⟨by simp, by simp [wipeG], by simp [condOf, q1_are_alike, eGr], fun _ => ⟨_, by simp [e1_are_alike]; rfl, rfl⟩⟩)
  have e3 : ((t.filter fun r => !r.2.2).map eGr).isEmpty = alikeB t := by
    rw [List.isEmpty_map]
    exact flt_emp2 (fun r : Gr => r.2.2) t
  rw [← e3]
  simp [runD, startG, d_are_alike, b_are_alike, E, endG]
theorem r_need_two (k : Nat) (v w : PyData) (h1 : nd v = true) (h2 : nd w = true) : run tx0 (k + 5) f_need_two [v, w] none = if isScriptD v && isScriptD w then .ret (.fro .none) none else .exc ⟨xScript, none⟩ := by
  rw [run0 (k + 4) _ _ _ D_need_two]
  have n1 := r_need_script k v h1
  have n2 := r_need_script k w h2
  cases q1 : isScriptD v <;> cases q2 : isScriptD w <;> rw [q1] at n1 <;> rw [q2] at n2 <;> simp [runD, startG, d_need_two, b_need_two, n1, n2, endG]
theorem r_alike_at (k f : Nat) {one other : Sc} {a b : List Pc} (c1 : Crs f one a) (c2 : Crs f other b) {t : List Gr} (h : allRows one other a b = some t) (hl : t.length ≤ 1000000) : run tx0 (k + f + 10) f_alike_at [eSc one, eSc other] none = .ret (.fro (.list ((joined t).map eS))) none := by
  rw [run0 (k + f + 9) _ _ _ D_alike_at]
  have n := r_need_two (k + f + 4) (eSc one) (eSc other) (nd_Sc one) (nd_Sc other)
  rw [scOk_is c1.ok, scOk_is c2.ok] at n
  have A := r_all_rows k f c1 c2 h hl
  have J := r_joined (k + f + 8) t hl
  simp [runD, startG, d_alike_at, b_alike_at, n, A, J, endG]
theorem r_alike (k f : Nat) {one other : Sc} {a b : List Pc} (c1 : Crs f one a) (c2 : Crs f other b) {t : List Gr} (h : allRows one other a b = some t) (hl : t.length ≤ 1000000) : run tx0 (k + f + 11) f_alike [eSc one, eSc other] none = .ret (.fro (.bool (alikeB t))) none := by
  rw [run0 (k + f + 10) _ _ _ D_alike]
  have n := r_need_two (k + f + 5) (eSc one) (eSc other) (nd_Sc one) (nd_Sc other)
  rw [scOk_is c1.ok, scOk_is c2.ok] at n
  have A := r_are_alike k f c1 c2 h hl
  simp [runD, startG, d_alike, b_alike, n, A, endG]
theorem r_simF (k : Nat) {lo hi : P2} (hl : Sm2 lo) (hh : Sm2 hi) : ∀ (n : Nat) (l r m c : P2), simF lo hi n l r m = some c → ∃ l' r', loopW (fun g => ev (tx0.lk (run tx0 (k + 1)) (runs tx0 (k + 1)).2.2) c1_simplest g) (fun g => exs (tx0.lk (run tx0 (k + 1)) (runs tx0 (k + 1)).2.2) l1_simplest g) n [.val (eP lo), .val (eP hi), .val (eP l), .val (eP r), .val (eP m)]
    = .nx [.val (eP lo), .val (eP hi), l', r', .val (eP c)]
  | 0, l, r, m, c, h => by cases h
  | n + 1, l, r, m, c, h => by
    have l1 := r_less k lo m (.inl hl)
    have l2 := r_less k m hi (.inr hh)
    unfold simF at h
    rw [loopW_succ]
    cases q1 : less lo m with
    | false =>
      rw [q1] at h l1
      have C : ev (tx0.lk (run tx0 (k + 1)) (runs tx0 (k + 1)).2.2) c1_simplest [.val (eP lo), .val (eP hi), .val (eP l), .val (eP r), .val (eP m)] = .ok (.fro (.bool true)) [.val (eP lo), .val (eP hi), .val (eP l), .val (eP r), .val (eP m)] := by simp [c1_simplest, l1]
      have Bd : exs (tx0.lk (run tx0 (k + 1)) (runs tx0 (k + 1)).2.2) l1_simplest [.val (eP lo), .val (eP hi), .val (eP l), .val (eP r), .val (eP m)] = .nx [.val (eP lo), .val (eP hi), .val (eP m), .val (eP r), .val (eP (plus m r))] := by simp [l1_simplest, l1, plus]
      rw [C]
      simp only [Bd]
      exact r_simF k hl hh n m r (plus m r) c (by simpa using h)
    | true =>
      rw [q1] at h l1
      cases q2 : less m hi with
      | true =>
        rw [q2] at h l2
        have C : ev (tx0.lk (run tx0 (k + 1)) (runs tx0 (k + 1)).2.2) c1_simplest [.val (eP lo), .val (eP hi), .val (eP l), .val (eP r), .val (eP m)] = .ok (.fro (.bool false)) [.val (eP lo), .val (eP hi), .val (eP l), .val (eP r), .val (eP m)] := by simp [c1_simplest, l1, l2]
        rw [C]
        cases h
        exact ⟨_, _, rfl⟩
      | false =>
        rw [q2] at h l2
        have C : ev (tx0.lk (run tx0 (k + 1)) (runs tx0 (k + 1)).2.2) c1_simplest [.val (eP lo), .val (eP hi), .val (eP l), .val (eP r), .val (eP m)] = .ok (.fro (.bool true)) [.val (eP lo), .val (eP hi), .val (eP l), .val (eP r), .val (eP m)] := by simp [c1_simplest, l1, l2]
        have Bd : exs (tx0.lk (run tx0 (k + 1)) (runs tx0 (k + 1)).2.2) l1_simplest [.val (eP lo), .val (eP hi), .val (eP l), .val (eP r), .val (eP m)] = .nx [.val (eP lo), .val (eP hi), .val (eP l), .val (eP m), .val (eP (plus l m))] := by simp [l1_simplest, l1, plus]
        rw [C]
        simp only [Bd]
        exact r_simF k hl hh n l m (plus l m) c (by simpa using h)
theorem r_simplest (k : Nat) {lo hi : P2} (hl : Sm2 lo) (hh : Sm2 hi) {c : P2} (h : simplest lo hi = some c) : run tx0 (k + 2) f_simplest [eP lo, eP hi] none = .ret (.fro (eP c)) none := by
  rw [run0 (k + 1) _ _ _ D_simplest]
  unfold simplest at h
  by_cases q : lo = hi
  · rw [if_pos q] at h
    cases h
    simp [runD, startG, d_simplest, b_simplest, q, endG]
  · rw [if_neg q] at h
    obtain ⟨l', r', L⟩ := r_simF k hl hh FU (0, 1) (1, 0) (1, 1) c h
    simp only [eP] at L
    simp [runD, startG, d_simplest, b_simplest, q, ex_whl, L, endG]
def eK (r : P2) : PyData := .tuple [.int (r.1 + r.2), eP r]
theorem dataLt_K (a b : P2) : PySem.W.dataLt (eK a) (eK b) = ltK a b := by
  unfold eK ltK
  rw [PySem.W.dataLt_tuple]
  by_cases e : a.1 + a.2 = b.1 + b.2
  · rw [PySem.W.dataLt_all_yes (by simp [PySem.W.alike]) (by simp [e])]
    by_cases e1 : a.1 = b.1
    · by_cases e2 : a.2 = b.2
      · rw [PySem.W.dataLt_all_yes (by simp [PySem.W.alike, PySem.W.alikeAll]) (by simp [e1, e2])]
        simp [PL.lexLt, e, e1, e2, PySem.W.keyToksAll]
        decide
      · omega
    · rw [PySem.W.dataLt_all_no (by simp [PySem.W.alike, PySem.W.alikeAll]) (by simp [e1]), PySem.W.dataLt_tuple, PySem.W.dataLt_all_no (by simp [PySem.W.alike]) (by simp [e1]), PySem.W.dataLt_int]
      simp [PL.lexLt, e, e1]
  · rw [PySem.W.dataLt_all_no (by simp [PySem.W.alike]) (by simp [e]), PySem.W.dataLt_int]
    simp [PL.lexLt, e]
theorem ord_K (l : List P2) : ordB (l.map eK) = true := by
  cases l with
  | nil => rfl
  | cons x l =>
    rw [List.map_cons, ordB, ← List.map_cons, Bool.and_eq_true, List.all_eq_true]
    refine ⟨rfl, fun y hy => ?_⟩
    obtain ⟨z, hz, rfl⟩ := List.mem_map.mp hy
    simp [eK, eP, shp, shpAll, PyData.depth, PyData.depthAll]
theorem minL_K : ∀ (l : List P2) (x : P2), minL (eK x) (l.map eK) = eK (minK x l)
  | [], x => rfl
  | y :: l, x => by
    have := minL_K l (if ltK y x then y else x)
    unfold minL minK at this ⊢
    rw [List.map_cons, List.foldl_cons, List.foldl_cons, dataLt_K]
    rw [← this]
    congr 1
    split <;> rfl
theorem simAll_eq : ∀ {t : List Gr} {l : List P2}, simAll t = some l → ∃ F : Gr → P2, (∀ r ∈ t, r.2.2 = false → simplest r.1 r.2.1 = some (F r)) ∧ l = (t.filter fun r => !r.2.2).map F
  | [], l, h => by
    cases h
    exact ⟨fun _ => (1, 1), fun r hr => (by cases hr), rfl⟩
  | r :: t, l, h => by
    refine ⟨fun r => (simplest r.1 r.2.1).getD (1, 1), fun q hq hb => ?_, ?_⟩
    · have : ∀ (t : List Gr) (l : List P2), simAll t = some l → ∀ q ∈ t, q.2.2 = false → simplest q.1 q.2.1 = some ((simplest q.1 q.2.1).getD (1, 1)) := by
        intro t
        induction t with
        | nil => intro l _ q hq; cases hq
        | cons r t ih =>
          intro l h q hq hb
          unfold simAll at h
          split at h
          · rename_i hg
            rcases List.mem_cons.mp hq with rfl | hq
            · rw [hb] at hg; cases hg
            · exact ih l h q hq hb
          · split at h
            · cases h
            · rename_i c hc
              split at h
              · cases h
              · rename_i l' hl'
                rcases List.mem_cons.mp hq with rfl | hq
                · rw [hc]; rfl
                · exact ih l' hl' q hq hb
      exact this (r :: t) l h q hq hb
    · have : ∀ (t : List Gr) (l : List P2), simAll t = some l → l = (t.filter fun r => !r.2.2).map fun r => (simplest r.1 r.2.1).getD (1, 1) := by
        intro t
        induction t with
        | nil => intro l h; cases h; rfl
        | cons r t ih =>
          intro l h
          unfold simAll at h
          split at h
          · rename_i hg
            rw [ih l h, List.filter_cons, hg]
            rfl
          · rename_i hg
            split at h
            · cases h
            · rename_i c hc
              split at h
              · cases h
              · rename_i l' hl'
                cases h
                have hg : r.2.2 = false := by simpa using hg
                rw [ih l' hl', List.filter_cons, hg]
                simp [hc]
      exact this (r :: t) l h
theorem r_parting (k f : Nat) {one other : Sc} {a b : List Pc} (c1 : Crs f one a) (c2 : Crs f other b) {t : List Gr} (h : allRows one other a b = some t) (hl : t.length ≤ 1000000) (ht : ∀ r ∈ t, Sm2 r.1 ∧ Sm2 r.2.1) {q : Option P2} (hq : partingOf t = some q) : run tx0 (k + f + 11) f_parting [eSc one, eSc other] none = .ret (.fro (eO q)) none := by
  rw [run0 (k + f + 10) _ _ _ D_parting]
  have n := r_need_two (k + f + 5) (eSc one) (eSc other) (nd_Sc one) (nd_Sc other)
  rw [scOk_is c1.ok, scOk_is c2.ok] at n
  have A := r_all_rows (k + 1) f c1 c2 h hl
  rw [show k + 1 + f + 9 = k + f + 10 by omega] at A
  unfold partingOf at hq
  cases hs : simAll t with
  | none => rw [hs] at hq; cases hq
  | some l =>
    rw [hs] at hq
    obtain ⟨F, f1, f2⟩ := simAll_eq hs
    have E2 : ev (tx0.lk (run tx0 (k + f + 10)) (runs tx0 (k + f + 10)).2.2) (.lc (.call f_all_rows (.cons (.loc 0) (.cons (.loc 1) .nil))) (.many [3, 4, 5]) [3, 4, 5] q2_parting e2_parting) [.val (eSc one), .val (eSc other), .no, .no, .no, .no, .no]
        = .ok (.own ((t.filter fun r => !r.2.2).map fun r => eP (F r))) [.val (eSc one), .val (eSc other), .no, .no, .no, .no, .no] :=
      ev_lcN (g0 := [.val (eSc one), .val (eSc other), .no, .no, .no, .no, .no]) eGr t _ _ (fun r => [.val (eSc one), .val (eSc other), .no, .val (eP r.1), .val (eP r.2.1), .val (.bool r.2.2), .no]) (.fro (.list (t.map eGr))) (by simp [A]) (by simp [items]) (by simp [wipeOk]) (by simp [wipeG]) (by simp [unwipe])
        (fun r hr => ⟨by simp [eGr], by simp [wipeG], by simp [condOf, q2_parting], fun hp => ⟨.fro (eP (F r)), by
          have S := r_simplest (k + f + 8) (ht r hr).1 (ht r hr).2 (f1 r hr (by simpa using hp))
          simp [e2_parting, S], rfl⟩⟩)
    have e5 : (t.filter fun r => !r.2.2).map (fun r => eP (F r)) = l.map fun p => eP p := by rw [f2]; simp
    rw [e5] at E2
    cases l with
    | nil =>
      cases hq
      simp only [List.map_nil] at E2
      simp [runD, startG, d_parting, b_parting, n, E2, endG]
    | cons x xs =>
      cases hq
      have E1 : ev (tx0.lk (run tx0 (k + f + 10)) (runs tx0 (k + f + 10)).2.2) (.lc (.loc 2) (.one 6) [6] .omit e1_parting) [.val (eSc one), .val (eSc other), .val (eLs (x :: xs)), .no, .no, .no, .no]
          = .ok (.own (((x :: xs).filter fun _ => true).map fun r => eK r)) [.val (eSc one), .val (eSc other), .val (eLs (x :: xs)), .no, .no, .no, .no] :=
        ev_lcN (g0 := [.val (eSc one), .val (eSc other), .val (eLs (x :: xs)), .no, .no, .no, .no]) (fun p : P2 => eP p) (x :: xs) (fun _ => true) _ (fun r => [.val (eSc one), .val (eSc other), .val (eLs (x :: xs)), .no, .no, .no, .val (eP r)]) (.fro (eLs (x :: xs)))
          (by simp) (by simp [items]) (by simp [wipeOk]) (by simp [wipeG]) (by simp [unwipe]) (fun r _ => ⟨by simp, by simp [wipeG], by simp, fun _ => ⟨.fro (eK r), by simp [e1_parting, eK], rfl⟩⟩)
      rw [filter_tt] at E1
      have mn : opF .min1 [.list ((x :: xs).map fun r => eK r)] = some (.fro (eK (minK x xs))) := by
        show (if ordB (eK x :: xs.map fun r => eK r) = true then some (Rs.fro (minL (eK x) (xs.map fun r => eK r))) else none) = _
        have ok : ordB (eK x :: xs.map fun r => eK r) = true := ord_K (x :: xs)
        rw [if_pos ok]
        exact congrArg (fun z => some (Rs.fro z)) (minL_K xs x)
      have k1 : opI (eK (minK x xs)) (.int 1) = some (eP (minK x xs)) := by simp [eK]
      simp only [eLs, List.map_cons] at E1 E2 mn
      simp [runD, startG, d_parting, b_parting, n, E2, E1, mn, k1, endG]
theorem take_e (sc : Sc) (i : Nat) (h : i < sc.length) : opS (eSc sc) none (some (i : Int)) = some (.fro (eSc (sc.take i))) := by
  have h0 : ¬ ((i : Int) < 0) := by omega
  simp [opS, eSc, cutD, HT.sIx, List.map_take, h0]
theorem drop_e (sc : Sc) (i : Nat) (h : i < sc.length) : opS (eSc sc) (some ((i : Int) + 1)) none = some (.fro (eSc (sc.drop (i + 1)))) := by
  have h1 : ¬ ((i : Int) + 1 < 0) := by omega
  have h2 : ((i : Int) + 1).toNat = i + 1 := by omega
  have h3 : min (i + 1) sc.length = i + 1 := by omega
  simp [opS, eSc, cutD, HT.sIx, List.map_drop, h1, h2, h3]
  rw [List.take_of_length_le (by simp)]
def without (sc : Sc) (i : Nat) : Sc := sc.take i ++ sc.drop (i + 1)
theorem partOf_loc (i : Nat) (r : Gm → R Rs) (g : Gm) : partOf (.loc i) r g = (r g).bind fun x g1 => match x with
    | .fro (.int i) => .ok (some i) g1
    | _ => .stuck := rfl
theorem partOf_bin (o : BO) (a b : Ex) (r : Gm → R Rs) (g : Gm) : partOf (.bin o a b) r g = (r g).bind fun x g1 => match x with
    | .fro (.int i) => .ok (some i) g1
    | _ => .stuck := rfl
theorem r_needless (k f : Nat) {sc : Sc} {ps : List Pc} (c : Crs f sc ps) (P : Nat → Bool) (h : ∀ i, i < sc.length → ∃ b t, Crs f (without sc i) b ∧ allRows sc (without sc i) ps b = some t ∧ t.length ≤ 1000000 ∧ alikeB t = P i) :
    run tx0 (k + f + 11) f_needless [eSc sc] none = .ret (.own (((List.range sc.length).filter P).map fun i : Nat => .int (i : Int))) none := by
  rw [run0 (k + f + 10) _ _ _ D_needless]
  have h1 := r_need_script (k + f + 6) (eSc sc) (nd_Sc sc)
  rw [scOk_is c.ok] at h1
  have len : sc.length ≤ 8 := by
    have := c.ok
    simp only [scOk, Bool.and_eq_true, decide_eq_true_eq] at this
    exact this.1
  have E : ev (tx0.lk (run tx0 (k + f + 10)) (runs tx0 (k + f + 10)).2.2) (.lc (.rng1 (.bf .len (.cons (.loc 0) .nil))) (.one 1) [1] q1_needless e1_needless) [.val (eSc sc), .no] = .ok (.own (((List.range sc.length).filter P).map fun i : Nat => .int (i : Int))) [.val (eSc sc), .no] :=
    ev_lcN (g0 := [.val (eSc sc), .no]) (fun i : Nat => .int (i : Int)) (List.range sc.length) P _ (fun i => [.val (eSc sc), .val (.int (i : Int))]) (.own ((List.range sc.length).map fun i : Nat => .int (i : Int))) (by simp [eSc, rng1_nat (show sc.length ≤ 1000000 by omega)]) (by simp [items]) (by simp [wipeOk]) (by simp [wipeG]) (by simp [unwipe])
      (fun i hi => by
        have hi := List.mem_range.mp hi
        obtain ⟨b, t, c2, e, l, al⟩ := h i hi
        have A := r_are_alike k f c c2 e l
        have t1 := take_e sc i hi
        have t2 := drop_e sc i hi
        have j1 : opB .add (eSc (sc.take i)) (eSc (sc.drop (i + 1))) = some (.fro (eSc (without sc i))) := by
          have : opB .add (.tuple ((sc.take i).map eSt)) (.tuple ((sc.drop (i + 1)).map eSt)) = some (.fro (.tuple ((sc.take i).map eSt ++ (sc.drop (i + 1)).map eSt))) := opB_tup (by rw [sz]; simp; omega)
          rw [← List.map_append] at this
          exact this
        rw [al] at A
        exact ⟨by simp, by simp [wipeG], by simp [condOf, q1_needless, partOf_loc, partOf_bin, t1, t2, j1, A], fun _ => ⟨_, by simp [e1_needless]; rfl, rfl⟩⟩)
  simp [runD, startG, d_needless, b_needless, h1, E, endG]
end TB
set_option maxHeartbeats 0
/-! Written scripts: what is asked of their pieces, by reckoning. -/
namespace TB
open PySem PL
def rbB (r : P2) : Bool := decide (0 < r.1) && decide (r.1 < 2 ^ 40) && (decide (0 < r.2) && decide (r.2 < 2 ^ 40))
theorem rbB_ok {r : P2} (h : rbB r = true) : Rb r := by
  simp only [rbB, Bool.and_eq_true, decide_eq_true_eq] at h
  exact ⟨h.1.1, h.1.2, h.2.1, h.2.2⟩
def fbB (N : Int) (r : P2) : Bool := decide (-N ≤ r.1) && decide (r.1 ≤ N) && (decide (-N ≤ r.2) && decide (r.2 ≤ N))
theorem fbB_ok {N : Int} {r : P2} (h : fbB N r = true) : Fb N r := by
  simp only [fbB, Bool.and_eq_true, decide_eq_true_eq] at h
  exact ⟨h.1.1, h.1.2, h.2.1, h.2.2⟩
def pcs (sc : Sc) : List Pc := (course 60 sc).getD []
def goodB (sc : Sc) : Bool := scOk sc && (course 60 sc).isSome && decide ((pcs sc).length ≤ 40000) && (pcs sc).all fun p => rbB p.lo && rbB p.hi && p.heard.all (fbB (2 ^ 35))
theorem good_crs {sc : Sc} (h : goodB sc = true) : Crs 60 sc (pcs sc) := by
  simp only [goodB, Bool.and_eq_true, decide_eq_true_eq, List.all_eq_true] at h
  obtain ⟨⟨⟨h1, h2⟩, h3⟩, h4⟩ := h
  refine ⟨h1, ?_, h3, fun p hp => ?_, fun p hp g hg => ?_⟩
  · unfold pcs
    cases q : course 60 sc with
    | none => rw [q] at h2; cases h2
    | some l => rfl
  · exact ⟨rbB_ok (h4 p hp).1.1, rbB_ok (h4 p hp).1.2⟩
  · exact (fbB_ok ((h4 p hp).2 g hg)).mono (by decide)
def rowsB : List Row → Bool
  | [(lo, hi, .fm _)] => rbB lo && rbB hi
  | (lo, hi, .fm _) :: (r, r', .tm _) :: l => rbB lo && rbB hi && (decide (r = r') && rbB r) && rowsB l
  | _ => false
theorem rowsB_ok : ∀ {l : List Row}, rowsB l = true → RowsOk l
  | [], h => by cases h
  | [(lo, hi, .fm f)], h => by
    simp only [rowsB, Bool.and_eq_true] at h
    refine ⟨fun k hk => ?_, fun k hk => ?_, rfl⟩
    · simp at hk
      have : k = 0 := by omega
      subst this
      exact ⟨lo, hi, f, rfl, rbB_ok h.1, rbB_ok h.2⟩
    · simp at hk
  | [(_, _, .tm _)], h => by cases h
  | (lo, hi, .fm f) :: (r, r', .tm t) :: l, h => by
    simp only [rowsB, Bool.and_eq_true, decide_eq_true_eq] at h
    obtain ⟨⟨⟨a1, a2⟩, e, a3⟩, h⟩ := h
    subst e
    obtain ⟨i1, i2, i3⟩ := rowsB_ok h
    refine ⟨fun k hk => ?_, fun k hk => ?_, by simp; omega⟩
    · cases k with
      | zero => exact ⟨lo, hi, f, rfl, rbB_ok a1, rbB_ok a2⟩
      | succ k =>
        simp only [List.length_cons] at hk
        obtain ⟨b1, b2, b3, b4⟩ := i1 k (by omega)
        exact ⟨b1, b2, b3, by rw [show 2 * (k + 1) = 2 * k + 2 by omega]; simpa using b4.1, b4.2⟩
    · cases k with
      | zero => exact ⟨r, t, rfl, rbB_ok a3⟩
      | succ k =>
        simp only [List.length_cons] at hk
        obtain ⟨b1, b2, b3⟩ := i2 k (by omega)
        exact ⟨b1, b2, by rw [show 2 * (k + 1) + 1 = 2 * k + 1 + 2 by omega]; simpa using b3.1, b3.2⟩
  | (_, _, .fm _) :: (_, _, .fm _) :: _, h => by cases h
  | (_, _, .tm _) :: _ :: _, h => by cases h
def rwB (r : Row) : Bool := rbB r.1 && rbB r.2.1 && match r.2.2 with
  | .fm f => fbB (2 ^ 35) f && !decide (r.1 = r.2.1)
  | .tm t => decide (r.1 = r.2.1) && (decide (0 ≤ t) && decide (t < 2 ^ 60))
theorem rwB_ok {r : Row} (h : rwB r = true) : RwOk (2 ^ 35) r := by
  obtain ⟨lo, hi, v⟩ := r
  simp only [rwB, Bool.and_eq_true] at h
  obtain ⟨⟨h1, h2⟩, h3⟩ := h
  cases v with
  | fm f =>
    simp at h3
    exact ⟨rbB_ok h1, rbB_ok h2, fun g e => by cases e; exact ⟨fbB_ok h3.1, h3.2⟩, fun t e => (by cases e)⟩
  | tm t =>
    simp at h3
    exact ⟨rbB_ok h1, rbB_ok h2, fun g e => (by cases e), fun u e => by cases e; exact ⟨h3.1, h3.2.1, h3.2.2⟩⟩
def rws (sc : Sc) (i : Nat) : List Row := (pcs sc).map (rowOf i)
def ringB (sc : Sc) (i : Nat) : Bool := goodB sc && decide (i < ringsIn sc) && ((pcs sc).all fun p => decide (i < p.heard.length)) && rowsB (rws sc i) && (rws sc i).all rwB
structure RingOk (sc : Sc) (i : Nat) : Prop where
  c : Crs 60 sc (pcs sc)
  lt : i < ringsIn sc
  hd : ∀ p ∈ pcs sc, i < p.heard.length
  rows : RowsOk (rws sc i)
  rw_ : ∀ r ∈ rws sc i, RwOk (2 ^ 35) r
theorem ringB_ok {sc : Sc} {i : Nat} (h : ringB sc i = true) : RingOk sc i := by
  simp only [ringB, Bool.and_eq_true, decide_eq_true_eq, List.all_eq_true] at h
  obtain ⟨⟨⟨⟨h1, h2⟩, h3⟩, h4⟩, h5⟩ := h
  exact ⟨good_crs h1, h2, h3, rowsB_ok h4, fun r hr => rwB_ok (h5 r hr)⟩
theorem RingOk.len {sc : Sc} {i : Nat} (h : RingOk sc i) : (pcs sc).length ≤ 1000000 := by have := h.c.len; omega
/-! ### what is told of written scripts -/
theorem w_forms (k : Nat) {sc : Sc} {i : Nat} (h : RingOk sc i) : run tx0 (k + 70) f_ring_forms [eSc sc, .int i] none = .ret (.fro (.list ((ringForms (rws sc i)).map eFr))) none :=
  r_ring_forms k 60 sc h.c.ok i h.lt h.c.eq h.len h.hd h.rows
theorem w_jumps (k : Nat) {sc : Sc} {i : Nat} (h : RingOk sc i) : run tx0 (k + 70) f_ring_jumps [eSc sc, .int i] none = .ret (.fro (.list ((ringJumps (rws sc i)).map fun p => eP p))) none :=
  r_ring_jumps k 60 sc h.c.ok i h.lt h.c.eq h.len h.hd h.rows
def sms (m : Mk) : Bool := decide (-(2 ^ 64) < m.1.1) && decide (m.1.1 < 2 ^ 64) && (decide (-(2 ^ 64) < m.1.2) && decide (m.1.2 < 2 ^ 64))
theorem w_bounds (k : Nat) {sc : Sc} {i : Nat} (h : RingOk sc i) (x : Bool) (hm : ((rws sc i).flatMap (marksOf x)).all sms = true) {r : Mk × Mk} (hr : boundsOf ((rws sc i).flatMap (marksOf x)) = some r) : run tx0 (k + 70) f_swing_bounds [eSc sc, .int i, eX x] none = .ret (.fro (.tuple [eMk r.1, eMk r.2])) none :=
  r_swing_bounds k 60 sc h.c.ok i h.lt x h.c.eq (by have := h.c.len; omega) h.hd (by decide) h.rw_ (fun m hm' => by
    have := List.all_eq_true.mp hm m hm'
    simp only [sms, Bool.and_eq_true, decide_eq_true_eq] at this
    exact ⟨⟨this.1.1, this.1.2⟩, this.2.1, this.2.2⟩) hr
theorem w_swings (k : Nat) {sc : Sc} {i : Nat} (h : RingOk sc i) (x : Bool) {A : List Nr} (hA : wrs 60 x (rws sc i) = some A) (lA : A.length < 60) : run tx0 (k + 130) f_swings [eSc sc, .int i, eX x] none = .ret (.own ((swingsOf A).map eSw)) none :=
  r_swings k 60 60 sc h.c.ok i h.lt x h.c.eq h.len h.hd (N := 2 ^ 35) (by decide) h.rw_ hA (by omega) lA
theorem w_answered (k : Nat) {sc : Sc} (h : Crs 60 sc (pcs sc)) : run tx0 (k + 70) f_answered [eSc sc] none = .ret (.own ((allAnswers (pcs sc)).map eAl)) none :=
  r_answered k 60 sc h.ok h.eq (by have := h.len; omega)
theorem w_ratios_for (k : Nat) {sc : Sc} (h : Crs 60 sc (pcs sc)) (told : List Int) (ht : isToldD (eIs told) = true) : run tx0 (k + 70) f_ratios_for [eSc sc, eIs told] none = .ret (.fro (.list ((ratiosOf (pcs sc) told).map eS))) none :=
  r_ratios_for k 60 sc h.ok h.eq (by have := h.len; omega) told ht
def reB (r : P2) : Bool := decide (0 < r.1) && decide (r.1 < 2 ^ 31) && (decide (0 < r.2) && decide (r.2 < 2 ^ 31))
theorem w_coarsest (k : Nat) {sc : Sc} (h : Crs 60 sc (pcs sc)) (hb : ((allAnswers (pcs sc)).all fun a => !a.1.isEmpty && a.1.all fun s => reB s.1 && reB s.2) = true) : run tx0 (k + 70) f_coarsest [eSc sc] none = .ret (.fro (eP (coarsestOf (allAnswers (pcs sc))))) none := by
  have hb := List.all_eq_true.mp hb
  refine r_coarsest k 60 sc h.ok h.eq (by have := h.len; omega) (fun a ha e => ?_) fun a ha s hs => ?_
  · have := hb a ha
    rw [e] at this
    simp at this
  · have := hb a ha
    simp only [Bool.and_eq_true, List.all_eq_true] at this
    have := this.2 s hs
    simp only [reB, Bool.and_eq_true, decide_eq_true_eq] at this
    exact ⟨⟨this.1.1.1, this.1.1.2, this.1.2.1, this.1.2.2⟩, ⟨this.2.1.1, this.2.1.2, this.2.2.1, this.2.2.2⟩⟩
def smr (t : List Gr) : Bool := t.all fun r => rbB r.1 && rbB r.2.1
theorem w_parting (k : Nat) {one other : Sc} (h1 : Crs 60 one (pcs one)) (h2 : Crs 60 other (pcs other)) {t : List Gr} (h : allRows one other (pcs one) (pcs other) = some t) (hl : t.length ≤ 1000000) (ht : smr t = true) {q : Option P2} (hq : partingOf t = some q) : run tx0 (k + 71) f_parting [eSc one, eSc other] none = .ret (.fro (eO q)) none :=
  r_parting k 60 h1 h2 h hl (fun r hr => by
    have := List.all_eq_true.mp ht r hr
    simp only [Bool.and_eq_true] at this
    exact ⟨(rbB_ok this.1).sm, (rbB_ok this.2).sm⟩) hq
end TB
set_option maxHeartbeats 0
/-! What the laws draw from. -/
namespace TB
open PySem PL
/-- what draws come from -/
structure Vat (l : List PyData) : Prop where
  ex : ∃ a b : Int, l = [.int a, .int b] ∧ 0 ≤ a ∧ 0 ≤ b ∧ b ≤ 2147483629
@[simp] theorem opF_int (i : Int) : opF .int [.int i] = some (.fro (.int i)) := rfl
theorem r_under (k : Nat) {l : List PyData} (v : Vat l) {many : Int} (h1 : 1 ≤ many) (h2 : many < 2 ^ 90) : ∃ (r : Int) (l' : List PyData), run tx0 (k + 1) f__law_under [.int many] (some l) = .ret (.fro (.int r)) (some l') ∧ 0 ≤ r ∧ r < many ∧ Vat l' := by
  obtain ⟨a, b, rfl, a0, b0, b1⟩ := v.ex
  rw [run0 k _ _ _ D__law_under]
  have m0 : (0 : Int) < many := by omega
  have x0 : L2.ixN 2 0 = some 0 := rfl
  have x1 : L2.ixN 2 1 = some 1 := rfl
  by_cases q : 0 < a
  · refine ⟨a % many, [.int (a / many), .int b], ?_, Int.emod_nonneg _ (by omega), Int.emod_lt_of_pos _ m0, ⟨_, _, rfl, Int.ediv_nonneg a0 (by omega), b0, b1⟩⟩
    simp [runD, startG, d__law_under, b__law_under, held, q, opB_mod _ _ m0, opB_div a many m0 (by omega), lent, lentSl, x0, endG]
  · have k1 : mulOk b 39373 = true := mulOk_r (by unfold sm; omega)
    have b2 : 0 ≤ (b * 39373 + 101) % 2147483629 := Int.emod_nonneg _ (by omega)
    have b3 : (b * 39373 + 101) % 2147483629 < 2147483629 := Int.emod_lt_of_pos _ (by omega)
    generalize hc : (b * 39373 + 101) % 2147483629 = c at b2 b3
    have k2 : mulOk c (c / 5 + 9) = true := mulOk_l (by unfold sm; omega)
    have w0 : 0 ≤ (c * (c / 5 + 9)) % 2147483587 := Int.emod_nonneg _ (by omega)
    generalize hw : (c * (c / 5 + 9)) % 2147483587 = w at w0
    refine ⟨(w / 32) % many, [.int a, .int c], ?_, Int.emod_nonneg _ (by omega), Int.emod_lt_of_pos _ m0, ⟨_, _, rfl, a0, b2, by omega⟩⟩
    have o1 : ∀ i : Int, opB .mod (.int i) (.int 2147483629) = some (.fro (.int (i % 2147483629))) := fun i => opB_mod _ _ (by omega)
    have o2 : ∀ i : Int, opB .mod (.int i) (.int 2147483587) = some (.fro (.int (i % 2147483587))) := fun i => opB_mod _ _ (by omega)
    have o3 : ∀ i : Int, opB .fdiv (.int i) (.int 5) = some (.fro (.int (i / 5))) := fun i => opB_div _ _ (by omega) (by decide)
    have o4 : ∀ i : Int, opB .fdiv (.int i) (.int 32) = some (.fro (.int (i / 32))) := fun i => opB_div _ _ (by omega) (by decide)
    simp [runD, startG, d__law_under, b__law_under, held, q, opB_mul _ _ k1, o1, hc, o3, opB_mul _ _ k2, o2, hw, o4, opB_mod _ _ m0, lent, lentSl, x1, endG]
theorem r_vat (k : Nat) (ns : List Int) (i : Nat) (hi : i < 1000) : ∃ l, run tx0 (k + 1) f__law_vat [.list (ns.map .int), .int i] none = .ret (.own l) none ∧ Vat l := by
  rw [run0 k _ _ _ D__law_vat]
  have k0 : mulOk 7919 i = true := mulOk_r (by unfold sm; omega)
  have k1 : mulOk 8191 i = true := mulOk_r (by unfold sm; omega)
  have k2 : ∀ j : Int, mulOk j 131071 = true := fun j => mulOk_r (by unfold sm; omega)
  have pw : opB .pow (.int 10) (.int 18) = some (.fro (.int 1000000000000000000)) := rfl
  have o1 : ∀ i : Int, opB .mod (.int i) (.int 2147483629) = some (.fro (.int (i % 2147483629))) := fun i => opB_mod _ _ (by omega)
  have vt : ∀ cell : Int, 0 ≤ cell → Vat [if 1000000000000000000 ≤ cell then .int cell else .int 0, .int ((cell * 131071 + 8191 * (i : Int) + 5) % 2147483629 + 1)] := fun cell hc => by
    have b2 : 0 ≤ (cell * 131071 + 8191 * (i : Int) + 5) % 2147483629 := Int.emod_nonneg _ (by omega)
    have b3 : (cell * 131071 + 8191 * (i : Int) + 5) % 2147483629 < 2147483629 := Int.emod_lt_of_pos _ (by omega)
    by_cases q : 1000000000000000000 ≤ cell
    · exact ⟨cell, _, by rw [if_pos q], hc, by omega, by omega⟩
    · exact ⟨0, _, by rw [if_neg q], by omega, by omega, by omega⟩
  by_cases q : i < ns.length
  · have q' : (i : Int) < ns.length := by omega
    obtain ⟨v, hv⟩ : ∃ v, ns[i]? = some v := ⟨_, List.getElem?_eq_getElem q⟩
    have ix := (opI_nat (ns.map PyData.int) (n := i) (by rw [List.getElem?_map, hv]; rfl)).1
    refine ⟨_, ?_, vt (iabs v) (iabs_nn v)⟩
    by_cases q2 : 1000000000000000000 ≤ iabs v
    · simp [runD, startG, d__law_vat, b__law_vat, opB_mul _ _ k0, q', ix, opF_abs, pw, opB_mul _ _ (k2 _), opB_mul _ _ k1, o1, q2, endG]
    · simp [runD, startG, d__law_vat, b__law_vat, opB_mul _ _ k0, q', ix, opF_abs, pw, opB_mul _ _ (k2 _), opB_mul _ _ k1, o1, q2, endG]
  · have q' : ¬ (i : Int) < ns.length := by omega
    refine ⟨_, ?_, vt (7919 * (i : Int) + 43) (by omega)⟩
    by_cases q2 : 1000000000000000000 ≤ 7919 * (i : Int) + 43
    · simp [runD, startG, d__law_vat, b__law_vat, opB_mul _ _ k0, q', pw, opB_mul _ _ (k2 _), opB_mul _ _ k1, o1, q2, endG]
    · simp [runD, startG, d__law_vat, b__law_vat, opB_mul _ _ k0, q', pw, opB_mul _ _ (k2 _), opB_mul _ _ k1, o1, q2, endG]
/-! ### ratios -/
theorem max2_eq (a b : Int) : opF .max2 [.int a, .int b] = some (.fro (.int (max a b))) := by
  show some (Rs.fro (PyData.int (if b > a then b else a))) = _
  congr 3
  split <;> omega
theorem min2_eq (a b : Int) : opF .min2 [.int a, .int b] = some (.fro (.int (min a b))) := by
  show some (Rs.fro (PyData.int (if b < a then b else a))) = _
  congr 3
  split <;> omega
theorem gcd_mm (a b : Int) : Int.gcd (max a b) (min a b) = Int.gcd a b := by
  by_cases h : a ≤ b
  · rw [Int.max_eq_right h, Int.min_eq_left h, Int.gcd_comm]
  · rw [Int.max_eq_left (by omega), Int.min_eq_right (by omega)]
theorem r_reduced (k : Nat) {a b : Int} (ha : 0 < a) (hb : 0 < b) (h1 : a < 2 ^ 90) (h2 : b < 2 ^ 90) : run tx0 (k + 1) f__law_reduced [.int a, .int b] none = .ret (.fro (eP (lowest a b))) none := by
  rw [run0 k _ _ _ D__law_reduced]
  have E := euclid (c := fun g => ev (tx0.lk (run tx0 k) (runs tx0 k).2.2) c1__law_reduced g) (b := fun g => exs (tx0.lk (run tx0 k) (runs tx0 k).2.2) l1__law_reduced g) (fun x y => [.val (.int a), .val (.int b), .val (.int x), .val (.int y)]) (fun x y => by simp [c1__law_reduced]) (fun x y h => by simp [l1__law_reduced, opB_mod, h]) 1000 100000 (max a b) (min a b) (by omega) (by omega) (by omega) (by omega)
  rw [gcd_mm] at E
  have g0 : 0 < Int.gcd a b := Int.gcd_pos_of_ne_zero_left b (by omega)
  have g1 : (Int.gcd a b : Int) ≤ a := Int.le_of_dvd ha (Int.gcd_dvd_left a b)
  have d1 : (0 : Int) < (Int.gcd a b : Int) := by omega
  have d2 : (Int.gcd a b : Int) < 2 ^ 100 := by omega
  simp [runD, startG, d__law_reduced, b__law_reduced, max2_eq, min2_eq, ex_whl, E, opB_div _ _ d1 d2, endG, lowest]
theorem lowest_dvd {a b : Int} (ha : 0 < a) : ∃ g : Int, 0 < g ∧ a = (lowest a b).1 * g ∧ b = (lowest a b).2 * g := by
  have g0 : 0 < Int.gcd a b := Int.gcd_pos_of_ne_zero_left b (by omega)
  exact ⟨Int.gcd a b, by omega, (Int.ediv_mul_cancel (Int.gcd_dvd_left a b)).symm, (Int.ediv_mul_cancel (Int.gcd_dvd_right a b)).symm⟩
theorem lowest_gcd {a b : Int} (ha : 0 < a) : Int.gcd (lowest a b).1 (lowest a b).2 = 1 := by
  have g0 : 0 < Int.gcd a b := Int.gcd_pos_of_ne_zero_left b (by omega)
  exact Int.gcd_ediv_gcd_ediv_gcd g0
/-- a ratio as the laws draw them -/
structure Rat (p : P2) : Prop where
  per : PerOk p
  co : Int.gcd p.1 p.2 = 1
theorem r_ratio (k : Nat) {l : List PyData} (v : Vat l) {most : Int} (h1 : 1 ≤ most) (h2 : most ≤ 100000) : ∃ (p : P2) (l' : List PyData), run tx0 (k + 2) f__law_ratio [.int most] (some l) = .ret (.fro (eP p)) (some l') ∧ Rat p ∧ p.1 ≤ most ∧ p.2 ≤ 5 * most ∧ Vat l' := by
  rw [run0 (k + 1) _ _ _ D__law_ratio]
  obtain ⟨u, l1, e1, u0, u1, v1⟩ := r_under k v h1 (by omega)
  have hd : 1 ≤ 5 * (1 + u) - 1 - ((1 + u) / 5 + 1) + 1 := by omega
  obtain ⟨w, l2, e2, w0, w1, v2⟩ := r_under k v1 hd (by omega)
  have pa : 0 < 1 + u := by omega
  have pb : 0 < (1 + u) / 5 + 1 + w := by omega
  have R := r_reduced k pa pb (by omega) (by omega)
  obtain ⟨g, g0, ea, eb⟩ := lowest_dvd (a := 1 + u) (b := (1 + u) / 5 + 1 + w) pa
  obtain ⟨p1, p2, p3, p4⟩ := lowest_pos pa pb
  have k5 : mulOk 5 (1 + u) = true := mulOk_l (by unfold sm; omega)
  have o3 : opB .fdiv (.int (1 + u)) (.int 5) = some (.fro (.int ((1 + u) / 5))) := opB_div _ _ (by omega) (by decide)
  refine ⟨lowest (1 + u) ((1 + u) / 5 + 1 + w), l2, ?_, ⟨⟨p1, by omega, p3, by omega, ?_, ?_⟩, lowest_gcd pa⟩, by omega, by omega, v2⟩
  · simp [runD, startG, d__law_ratio, b__law_ratio, lent, lentSl, e1, o3, opB_mul _ _ k5, e2, R, endG]
  · have : (lowest (1 + u) ((1 + u) / 5 + 1 + w)).1 * g < 5 * (lowest (1 + u) ((1 + u) / 5 + 1 + w)).2 * g := by
      rw [Int.mul_assoc, ← ea, ← eb]
      omega
    exact Int.lt_of_mul_lt_mul_right this (by omega)
  · have : (lowest (1 + u) ((1 + u) / 5 + 1 + w)).2 * g < 5 * (lowest (1 + u) ((1 + u) / 5 + 1 + w)).1 * g := by
      rw [Int.mul_assoc, ← ea, ← eb]
      omega
    exact Int.lt_of_mul_lt_mul_right this (by omega)
end TB
set_option maxHeartbeats 0
/-! Written scripts by hand: what is counted. -/
namespace TB
open PySem PL
def sA : Sc := [.act .count false 2]
def sB : Sc := [.act .wait true 1, .go false, .act .count true 2, .ring]
def sC : Sc := [.act .both false 3, .ring]
def sD : Sc := [.act .wait false 1, .ring, .act .wait true 1, .ring]
theorem fl_sub (a b : Int) (hb : 0 < b) (h : b ≤ a) : (a - b) / b + 1 = a / b := by
  rw [show a - b = a + (-1) * b by omega, Int.add_mul_ediv_right _ _ (by omega)]
  omega
theorem fl_lt {a b : Int} (ha : 0 ≤ a) (h : a < b) : a / b = 0 := Int.ediv_eq_zero_of_lt ha h
section
variable {p q : Int} (hp : 0 < p) (hq : 0 < q)
include hp hq
theorem led_A : led sA (p, q) = ⟨2 * p, (led sA (p, q)).tk, [2 * p / q], []⟩ := by
  have e : p + ((2 : Int) - 1) * p = 2 * p := by omega
  simp [led, ledF, sA, stepS, first, sel, passed, ticked]
  refine ⟨by omega, ?_⟩
  rw [show p + p = 2 * p by omega]
  by_cases h : 2 * p < q
  · rw [if_pos h, fl_lt (by omega) h]
  · rw [if_neg h, fl_sub _ _ hq (by omega)]
theorem led_B : (led sB (p, q)).told = [2 * q / p] ∧ (led sB (p, q)).heard = [3 * q] := by
  have e0 : (q - q) / q = 0 := by simp
  have e1 : q + 1 * q + ((2 : Int) - 1) * q = 3 * q := by omega
  have e2 : q + q + q = 3 * q := by omega
  simp [led, ledF, sB, stepS, first, sel, passed, ticked, pass1, putx, e0, e1, e2]
  by_cases h : 3 * q < q + p
  · rw [if_pos h, fl_lt (by omega) (by omega)]
  · rw [if_neg h, show 3 * q - (q + p) = 2 * q - p by omega, fl_sub _ _ hp (by omega)]
theorem led_D : (led sD (p, q)).heard = [p, (p / q + 1) * q] := by
  simp [led, ledF, sD, stepS, first, sel, passed, pass1]
  by_cases h : q ≤ p
  · rw [if_pos h]
    have := fl_sub p q hq h
    simp
    rw [show ((p - q) / q + 1) * q = (p / q) * q by rw [this], Int.add_mul]
    omega
  · rw [if_neg h]
    simp
    rw [fl_lt (by omega) (by omega)]
    simp
/-- the first of three ticks at which both tick -/
def due (p q : Int) : List Int := [1, 2, 3].filter fun k => decide (k * p % q = 0)
theorem both_at (k : Int) (hk : 0 ≤ k) : bothAt p q p (some q) k = decide ((k + 1) * p % q = 0) := by
  have e : p + k * p = (k + 1) * p := by rw [Int.add_mul]; omega
  have m : ((k + 1) * p - q) % q = (k + 1) * p % q := by rw [Int.sub_emod, Int.emod_self]; simp
  simp only [bothAt, e, m]
  by_cases h : (k + 1) * p % q = 0
  · have d : q ∣ (k + 1) * p := Int.dvd_of_emod_eq_zero h
    have pos : 0 < (k + 1) * p := Int.mul_pos (by omega) hp
    have : q ≤ (k + 1) * p := Int.le_of_dvd pos d
    simp [h, this]
  · simp [h]
theorem led_C : (led sC (p, q)).told = [b2i (!(due p q).isEmpty)] ∧ (led sC (p, q)).heard = [((due p q).head?.getD 3) * p] := by
  have b0 := both_at hp hq 0 (by omega)
  have b1 := both_at hp hq 1 (by omega)
  have b2 := both_at hp hq 2 (by omega)
  have r3 : List.range 3 = [0, 1, 2] := rfl
  simp only [Int.zero_add, Int.one_mul] at b0
  have t2 : (1 : Int) + 1 = 2 := rfl
  have t3 : (2 : Int) + 1 = 3 := rfl
  rw [t2] at b1
  rw [t3] at b2
  simp only [led, ledF, sC, List.foldl_cons, List.foldl_nil, stepS, first, sel, passed, firstBoth, r3, Bool.not_false]
  unfold due
  by_cases h0 : p % q = 0
  · simp [h0, b0, b2i]
  · by_cases h1 : 2 * p % q = 0
    · simp [h0, h1, b0, b1, b2i]
      omega
    · by_cases h2 : 3 * p % q = 0
      · simp [h0, h1, h2, b0, b1, b2, b2i]
        omega
      · simp [h0, h1, h2, b0, b1, b2, b2i]
        omega
end
/-! ### the law's defs -/
theorem r_known (k : Nat) : run tx0 (k + 1) f__law_known [] none = .ret (.fro (.tuple [eSc sA, eSc sB, eSc sC, eSc sD])) none := by
  rw [run0 k _ _ _ D__law_known]
  simp [runD, startG, d__law_known, b__law_known, endG, eSc, sA, sB, sC, sD, eSt, wS, b2i]
theorem eqv_Li (a b : List Int) : PyData.eqv (.list (a.map .int)) (.list (b.map .int)) = decide (a = b) := by rw [eqv_l, eqvA_ints]
theorem opC_eqLi (a b : List Int) : opC .eq (.list (a.map .int)) (.list (b.map .int)) = some (decide (a = b)) := by
  rw [opC_eq _ _ (eqOk_l _ _ (by simp [PyData.depth, depA_ints])), eqv_Li]
theorem scB_A : scOk sA = true := by decide
theorem scB_B : scOk sB = true := by decide
theorem scB_C : scOk sC = true := by decide
theorem scB_D : scOk sD = true := by decide
def trues (n : Nat) : List PyData := List.replicate n (.bool true)
theorem r_counts_right (k : Nat) {p q : Int} (h : PerOk (p, q)) : run tx0 (k + 6) f__law_counts_right [.int p, .int q] none = .ret (.own (trues 6)) none := by
  rw [run0 (k + 5) _ _ _ D__law_counts_right]
  have hp : 0 < p := by have : 1 ≤ p := h.a1; omega
  have hq : 0 < q := by have : 1 ≤ q := h.b1; omega
  have p2 : p ≤ 10 ^ 12 := h.a2
  have q2 : q ≤ 10 ^ 12 := h.b2
  have kn := r_known (k + 4)
  have aA := r_answers k h sA scB_A
  have aB := r_answers k h sB scB_B
  have aC := r_answers k h sC scB_C
  have rB := r_rings k h sB scB_B
  have rC := r_rings k h sC scB_C
  have rD := r_rings k h sD scB_D
  have eA := r_end_time k h sA scB_A
  obtain ⟨tB, hB⟩ := led_B hp hq
  obtain ⟨tC, hC⟩ := led_C hp hq
  have hD := led_D hp hq
  have lA := led_A hp hq
  rw [lA] at aA eA
  rw [tB] at aB
  rw [tC] at aC
  rw [hB] at rB
  rw [hC] at rC
  rw [hD] at rD
  have smp : sm p := by unfold sm; omega
  have smq : sm q := by unfold sm; omega
  have dq : ∀ i, opB .fdiv (.int i) (.int q) = some (.fro (.int (i / q))) := fun i => opB_div _ _ hq (by omega)
  have dp : ∀ i, opB .fdiv (.int i) (.int p) = some (.fro (.int (i / p))) := fun i => opB_div _ _ hp (by omega)
  have E : ∀ f, ev (tx0.lk (run tx0 (k + 5)) (runs tx0 (k + 5)).2.2) (.lc (.tup (.cons (.int 1) (.cons (.int 2) (.cons (.int 3) .nil)))) (.one 9) [9] q1__law_counts_right e1__law_counts_right) [.val (.int p), .val (.int q), .val (eP (p, q)), f, .no, .val (eSc sA), .val (eSc sB), .val (eSc sC), .val (eSc sD), .no]
      = .ok (.own ((due p q).map .int)) [.val (.int p), .val (.int q), .val (eP (p, q)), f, .no, .val (eSc sA), .val (eSc sB), .val (eSc sC), .val (eSc sD), .no] := fun f =>
    ev_lcN (g0 := [.val (.int p), .val (.int q), .val (eP (p, q)), f, .no, .val (eSc sA), .val (eSc sB), .val (eSc sC), .val (eSc sD), .no]) PyData.int [1, 2, 3] _ PyData.int (fun i => [.val (.int p), .val (.int q), .val (eP (p, q)), f, .no, .val (eSc sA), .val (eSc sB), .val (eSc sC), .val (eSc sD), .val (.int i)]) (.fro (.tuple [.int 1, .int 2, .int 3]))
      (by simp) (by simp [items]) (by simp [wipeOk]) (by simp [wipeG]) (by simp [unwipe]) (fun i _ => ⟨by simp, by simp [wipeG], by simp [condOf, q1__law_counts_right, opB_mul _ _ (mulOk_r smp), opB_mod _ _ hq], fun _ => ⟨_, by simp [e1__law_counts_right]; rfl, rfl⟩⟩)
  have bi : ∀ b : Bool, opF .int [.bool b] = some (.fro (.int (b2i b))) := fun b => rfl
  have c1 := opC_eqIs [2 * p / q] [2 * p / q]
  have c2 := opC_eqIs [2 * q / p] [2 * q / p]
  have c3 := opC_eqLi [3 * q] [3 * q]
  have c4 := opC_eqIs [b2i !(due p q).isEmpty] [b2i !(due p q).isEmpty]
  have c5 := opC_eqLi [(due p q).head?.getD 3 * p] [(due p q).head?.getD 3 * p]
  have c6 := opC_eqLi [p, (p / q + 1) * q] [p, (p / q + 1) * q]
  have dl : (due p q).length ≤ 3 := Nat.le_trans (List.length_filter_le _ _) (by simp)
  have j1 : opB .add (.list ((due p q).map .int)) (.list [.int 3]) = some (.own ((due p q).map .int ++ [.int 3])) := opB_lst (by rw [sz]; simp; omega)
  have i0 : opI (.list ((due p q).map PyData.int ++ [.int 3])) (.int 0) = some (.int ((due p q).head?.getD 3)) := by
    cases due p q with
    | nil => simp
    | cons a l => simp
  have sl : ∀ n : Nat, n ≤ 10 → n < sizeLine := fun n hn => by rw [sz]; omega
  have sl2 : ∀ n : Nat, n ≤ 10 → n ≤ sizeLine := fun n hn => by rw [sz]; omega
  have j2 : ∀ a b c d e x : PyData, opB .add (.list [a, b, c, d, e]) (.list [x]) = some (.own [a, b, c, d, e, x]) := fun a b c d e x => opB_lst (by rw [sz]; simp)
  generalize due p q = du at *
  simp only [eIs, List.map_cons, List.map_nil, eP] at aA aB aC rB rC rD eA c1 c2 c3 c4 c5 c6 E
  simp [runD, startG, d__law_counts_right, b__law_counts_right, kn, aA, aB, aC, rB, rC, rD, eA, c1, c2, c3, c4, c5, c6, E, bi, opB_mul _ _ (mulOk_r smp), opB_mul _ _ (mulOk_r smq), dp, dq, lent, lentSl, sl, sl2, j1, j2, i0, endG, trues]
end TB
set_option maxHeartbeats 0
/-! Written scripts by hand: forms and answers. -/
namespace TB
open PySem PL
theorem okB0 : RingOk sB 0 := ringB_ok (by decide +kernel)
theorem okC0 : RingOk sC 0 := ringB_ok (by decide +kernel)
theorem okD0 : RingOk sD 0 := ringB_ok (by decide +kernel)
theorem okD1 : RingOk sD 1 := ringB_ok (by decide +kernel)
theorem okA : Crs 60 sA (pcs sA) := good_crs (by decide +kernel)
theorem fB0 : ringForms (rws sB 0) = [((LO, HI), (0, 3))] := by decide +kernel
theorem fD0 : ringForms (rws sD 0) = [((LO, HI), (1, 0))] := by decide +kernel
theorem fD1 : (ringForms (rws sD 1)).map (·.2) = [(0, 1), (0, 2), (0, 3), (0, 4), (0, 5)] := by decide +kernel
theorem fC0 : (ringForms (rws sC 0)).length = 10 := by decide +kernel
theorem jC0 : (ringJumps (rws sC 0)).length = 9 := by decide +kernel
theorem jD1 : ringJumps (rws sD 1) = [(1, 1), (2, 1), (3, 1), (4, 1)] := by decide +kernel
theorem jD0 : ringJumps (rws sD 0) = [] := by decide +kernel
theorem bB1 : boundsOf ((rws sB 0).flatMap (marksOf true)) = some (((3, 1), true), ((3, 1), true)) := by decide +kernel
theorem bB0 : boundsOf ((rws sB 0).flatMap (marksOf false)) = some (((3, 5), false), ((15, 1), false)) := by decide +kernel
theorem bC0 : boundsOf ((rws sC 0).flatMap (marksOf false)) = some (((1, 1), true), ((3, 1), true)) := by decide +kernel
theorem wB1 : wrs 60 true (rws sB 0) = some ((wrs 60 true (rws sB 0)).getD []) ∧ ((wrs 60 true (rws sB 0)).getD []).length < 60 ∧ swingsOf ((wrs 60 true (rws sB 0)).getD []) = [(3, [(LO, HI)])] := ⟨by decide +kernel, by decide +kernel, by decide +kernel⟩
theorem wB0 : wrs 60 false (rws sB 0) = some ((wrs 60 false (rws sB 0)).getD []) ∧ ((wrs 60 false (rws sB 0)).getD []).length < 60 ∧ (swingsOf ((wrs 60 false (rws sB 0)).getD [])).length = 15 := ⟨by decide +kernel, by decide +kernel, by decide +kernel⟩
abbrev dW : PyData := .tuple [.tuple [.int 1, .int 5], .tuple [.int 5, .int 1]]
abbrev dP (a b : Int) : PyData := .tuple [.int a, .int b]
theorem at_ {K c : Nat} (h : c ≤ K) {P : Nat → Prop} (q : ∀ k, P (k + c)) : P K := by
  have := q (K - c)
  rwa [Nat.sub_add_cancel h] at this
theorem x_fB0 {K : Nat} (h : 70 ≤ K) : run tx0 K f_ring_forms [eSc sB, .int 0] none = .ret (.fro (.list [.tuple [dW, dP 0 3]])) none := by
  refine at_ (P := fun K => run tx0 K f_ring_forms [eSc sB, .int 0] none = _) h fun k => ?_
  have := w_forms k okB0
  rw [fB0] at this
  exact this
theorem x_fD0 {K : Nat} (h : 70 ≤ K) : run tx0 K f_ring_forms [eSc sD, .int 0] none = .ret (.fro (.list [.tuple [dW, dP 1 0]])) none := by
  refine at_ (P := fun K => run tx0 K f_ring_forms [eSc sD, .int 0] none = _) h fun k => ?_
  have := w_forms k okD0
  rw [fD0] at this
  exact this
theorem x_fD1 {K : Nat} (h : 70 ≤ K) : ∃ l : List Fr, run tx0 K f_ring_forms [eSc sD, .int 1] none = .ret (.fro (.list (l.map eFr))) none ∧ l.map (·.2) = [(0, 1), (0, 2), (0, 3), (0, 4), (0, 5)] := by
  refine ⟨_, at_ (P := fun K => run tx0 K f_ring_forms [eSc sD, .int 1] none = _) h fun k => w_forms k okD1, fD1⟩
theorem x_fC0 {K : Nat} (h : 70 ≤ K) : ∃ l : List PyData, run tx0 K f_ring_forms [eSc sC, .int 0] none = .ret (.fro (.list l)) none ∧ l.length = 10 := by
  refine ⟨_, at_ (P := fun K => run tx0 K f_ring_forms [eSc sC, .int 0] none = _) h fun k => w_forms k okC0, by rw [List.length_map]; exact fC0⟩
theorem x_jC0 {K : Nat} (h : 70 ≤ K) : ∃ l : List PyData, run tx0 K f_ring_jumps [eSc sC, .int 0] none = .ret (.fro (.list l)) none ∧ l.length = 9 := by
  refine ⟨_, at_ (P := fun K => run tx0 K f_ring_jumps [eSc sC, .int 0] none = _) h fun k => w_jumps k okC0, by rw [List.length_map]; exact jC0⟩
theorem x_jD1 {K : Nat} (h : 70 ≤ K) : run tx0 K f_ring_jumps [eSc sD, .int 1] none = .ret (.fro (.list [dP 1 1, dP 2 1, dP 3 1, dP 4 1])) none := by
  refine at_ (P := fun K => run tx0 K f_ring_jumps [eSc sD, .int 1] none = _) h fun k => ?_
  have := w_jumps k okD1
  rw [jD1] at this
  exact this
theorem x_jD0 {K : Nat} (h : 70 ≤ K) : run tx0 K f_ring_jumps [eSc sD, .int 0] none = .ret (.fro (.list [])) none := by
  refine at_ (P := fun K => run tx0 K f_ring_jumps [eSc sD, .int 0] none = _) h fun k => ?_
  have := w_jumps k okD0
  rw [jD0] at this
  exact this
abbrev dMk (a b : Int) (u : Bool) : PyData := .tuple [.tuple [.int a, .int b], .bool u]
theorem x_bB1 {K : Nat} (h : 70 ≤ K) : run tx0 K f_swing_bounds [eSc sB, .int 0, .int 1] none = .ret (.fro (.tuple [dMk 3 1 true, dMk 3 1 true])) none :=
  at_ (P := fun K => run tx0 K f_swing_bounds [eSc sB, .int 0, .int 1] none = _) h fun k => w_bounds k okB0 true (by decide +kernel) bB1
theorem x_bB0 {K : Nat} (h : 70 ≤ K) : run tx0 K f_swing_bounds [eSc sB, .int 0, .int 0] none = .ret (.fro (.tuple [dMk 3 5 false, dMk 15 1 false])) none :=
  at_ (P := fun K => run tx0 K f_swing_bounds [eSc sB, .int 0, .int 0] none = _) h fun k => w_bounds k okB0 false (by decide +kernel) bB0
theorem x_bC0 {K : Nat} (h : 70 ≤ K) : run tx0 K f_swing_bounds [eSc sC, .int 0, .int 0] none = .ret (.fro (.tuple [dMk 1 1 true, dMk 3 1 true])) none :=
  at_ (P := fun K => run tx0 K f_swing_bounds [eSc sC, .int 0, .int 0] none = _) h fun k => w_bounds k okC0 false (by decide +kernel) bC0
theorem x_sB1 {K : Nat} (h : 130 ≤ K) : run tx0 K f_swings [eSc sB, .int 0, .int 1] none = .ret (.own [.tuple [.int 3, .list [dW]]]) none := by
  refine at_ (P := fun K => run tx0 K f_swings [eSc sB, .int 0, .int 1] none = _) h fun k => ?_
  have := w_swings k okB0 true wB1.1 wB1.2.1
  rw [wB1.2.2] at this
  exact this
theorem x_sB0 {K : Nat} (h : 130 ≤ K) : ∃ l : List PyData, run tx0 K f_swings [eSc sB, .int 0, .int 0] none = .ret (.own l) none ∧ l.length = 15 := by
  refine ⟨_, at_ (P := fun K => run tx0 K f_swings [eSc sB, .int 0, .int 0] none = _) h fun k => w_swings k okB0 false wB0.1 wB0.2.1, by rw [List.length_map]; exact wB0.2.2⟩
end TB
set_option maxHeartbeats 0
/-! Written scripts by hand: the law's lists. -/
namespace TB
open PySem PL
theorem r_forms_right {K : Nat} (hK : 130 ≤ K) : run tx0 (K + 1) f__law_forms_right [] none = .ret (.own (trues 10)) none := by
  rw [run0 K _ _ _ D__law_forms_right]
  have kn := at_ (c := 1) (K := K) (by omega) (P := fun K => run tx0 K f__law_known [] none = _) r_known
  have a1 := x_fB0 (K := K) (by omega)
  have a2 := x_fD0 (K := K) (by omega)
  obtain ⟨l3, a3, e3⟩ := x_fD1 (K := K) (by omega)
  obtain ⟨l4, a4, e4⟩ := x_fC0 (K := K) (by omega)
  obtain ⟨l5, a5, e5⟩ := x_jC0 (K := K) (by omega)
  have a6 := x_jD1 (K := K) (by omega)
  have a7 := x_jD0 (K := K) (by omega)
  have a8 := x_bB1 (K := K) (by omega)
  have a9 := x_bB0 (K := K) (by omega)
  have a10 := x_bC0 (K := K) (by omega)
  have a11 := x_sB1 (K := K) (by omega)
  obtain ⟨l12, a12, e12⟩ := x_sB0 (K := K) (by omega)
  have E : ∀ w f d, ev (tx0.lk (run tx0 K) (runs tx0 K).2.2) (.lc (.call f_ring_forms (.cons (.loc 6) (.cons (.int 1) .nil))) (.many [7, 8]) [7, 8] .omit e1__law_forms_right) [w, f, d, .val (eSc sA), .val (eSc sB), .val (eSc sC), .val (eSc sD), .no, .no]
      = .ok (.own ((l3.filter fun _ => true).map fun r => eP r.2)) [w, f, d, .val (eSc sA), .val (eSc sB), .val (eSc sC), .val (eSc sD), .no, .no] := fun w f d =>
    ev_lcN (g0 := [w, f, d, .val (eSc sA), .val (eSc sB), .val (eSc sC), .val (eSc sD), .no, .no]) eFr l3 (fun _ => true) _ (fun r => [w, f, d, .val (eSc sA), .val (eSc sB), .val (eSc sC), .val (eSc sD), .val (.tuple [eP r.1.1, eP r.1.2]), .val (eP r.2)]) (.fro (.list (l3.map eFr)))
      (by simp [a3]) (by simp [items]) (by simp [wipeOk]) (by simp [wipeG]) (by simp [unwipe]) (fun r _ => ⟨by simp [eFr], by simp [wipeG], by simp, fun _ => ⟨.fro (eP r.2), by simp [e1__law_forms_right], rfl⟩⟩)
  have e5' : l3.map (fun r => eP r.2) = [dP 0 1, dP 0 2, dP 0 3, dP 0 4, dP 0 5] := by
    have : l3.map (fun r => eP r.2) = (l3.map (·.2)).map fun p => eP p := by simp
    rw [this, e3]
    rfl
  simp only [filter_tt, e5'] at E
  have sl : ∀ n : Nat, n ≤ 20 → n < sizeLine := fun n hn => by rw [sz]; omega
  have j2 : ∀ a b c d e f g h x y : PyData, opB .add (.list [a, b, c, d, e, f, g, h]) (.list [x, y]) = some (.own [a, b, c, d, e, f, g, h, x, y]) := fun a b c d e f g h x y => opB_lst (by rw [sz]; simp)
  have o1 : ∀ a b : Int, opC .eq (.list [.tuple [dW, dP a b]]) (.list [.tuple [dW, dP a b]]) = some true := fun a b => by
    rw [opC_eq _ _ (eqOk_l _ _ (by simp [PyData.depth, PyData.depthAll]))]
    simp
  have o3 : opC .eq (.list [dP 0 1, dP 0 2, dP 0 3, dP 0 4, dP 0 5]) (.list [dP 0 1, dP 0 2, dP 0 3, dP 0 4, dP 0 5]) = some true := by decide +kernel
  have o4 : opC .eq (.list [dP 1 1, dP 2 1, dP 3 1, dP 4 1]) (.list [dP 1 1, dP 2 1, dP 3 1, dP 4 1]) = some true := by decide +kernel
  have o5 : ∀ a b c d : Int, ∀ u v : Bool, opC .eq (.tuple [dMk a b u, dMk c d v]) (.tuple [dMk a b u, dMk c d v]) = some true := fun a b c d u v => by
    rw [opC_eq _ _ (eqOk_l _ _ (by simp [PyData.depth, PyData.depthAll]))]
    simp [eqv_bool]
  have o6 : opC .eq (.list [.tuple [.int 3, .list [dW]]]) (.list [.tuple [.int 3, .list [dW]]]) = some true := by decide +kernel
  simp [runD, startG, d__law_forms_right, b__law_forms_right, kn, a1, a2, a4, a5, a6, a7, a8, a9, a10, a11, a12, E, o1, o3, o4, o5, o6, e4, e5, e12, lent, lentSl, sl, j2, endG, trues]
end TB
set_option maxHeartbeats 0
/-! Written scripts by hand: answers, likeness. -/
namespace TB
open PySem PL
def sE : Sc := [.stop true, .go true, .act .count false 2]
theorem okNil : Crs 60 [] (pcs []) := good_crs (by decide +kernel)
theorem nA : ((allAnswers (pcs sA)).map eAl).length = 10 := by decide +kernel
theorem nB : ((allAnswers (pcs sB)).map eAl).length = 10 := by decide +kernel
theorem nD : allAnswers (pcs sD) = [([(LO, HI)], [])] := by decide +kernel
theorem rB3 : ratiosOf (pcs sB) [3] = [((1, 2), (2, 3)), ((2, 3), (2, 3))] := by decide +kernel
theorem rC1 : (ratiosOf (pcs sC) [1]).take 2 = [((1, 3), (1, 3)), ((1, 2), (1, 2))] := by decide +kernel
theorem cA : coarsestOf (allAnswers (pcs sA)) = (5, 2) := by decide +kernel
theorem cB : coarsestOf (allAnswers (pcs sB)) = (5, 2) := by decide +kernel
theorem cC : coarsestOf (allAnswers (pcs sC)) = (25, 1) := by decide +kernel
theorem x_aA {K : Nat} (h : 70 ≤ K) : ∃ l : List PyData, run tx0 K f_answered [eSc sA] none = .ret (.own l) none ∧ l.length = 10 :=
  ⟨_, at_ (P := fun K => run tx0 K f_answered [eSc sA] none = _) h fun k => w_answered k okA, nA⟩
theorem x_aB {K : Nat} (h : 70 ≤ K) : ∃ l : List PyData, run tx0 K f_answered [eSc sB] none = .ret (.own l) none ∧ l.length = 10 :=
  ⟨_, at_ (P := fun K => run tx0 K f_answered [eSc sB] none = _) h fun k => w_answered k okB0.c, nB⟩
theorem x_aD {K : Nat} (h : 70 ≤ K) : run tx0 K f_answered [eSc sD] none = .ret (.own [.tuple [.list [dW], .tuple []]]) none := by
  refine at_ (P := fun K => run tx0 K f_answered [eSc sD] none = _) h fun k => ?_
  have := w_answered k okD0.c
  rw [nD] at this
  exact this
theorem x_rB {K : Nat} (h : 70 ≤ K) : run tx0 K f_ratios_for [eSc sB, .tuple [.int 3]] none = .ret (.fro (.list [.tuple [dP 1 2, dP 2 3], .tuple [dP 2 3, dP 2 3]])) none := by
  refine at_ (P := fun K => run tx0 K f_ratios_for [eSc sB, .tuple [.int 3]] none = _) h fun k => ?_
  have := w_ratios_for k okB0.c [3] (by decide)
  rw [rB3] at this
  exact this
theorem x_rC {K : Nat} (h : 70 ≤ K) : ∃ l : List PyData, run tx0 K f_ratios_for [eSc sC, .tuple [.int 1]] none = .ret (.fro (.list (.tuple [dP 1 3, dP 1 3] :: .tuple [dP 1 2, dP 1 2] :: l))) none := by
  have e : ∃ l, ratiosOf (pcs sC) [1] = ((1, 3), (1, 3)) :: ((1, 2), (1, 2)) :: l := by
    have := rC1
    generalize ratiosOf (pcs sC) [1] = m at this
    match m, this with
    | a :: b :: l, h =>
      simp at h
      exact ⟨l, by rw [h.1, h.2]⟩
  obtain ⟨l, e⟩ := e
  refine ⟨l.map eS, at_ (P := fun K => run tx0 K f_ratios_for [eSc sC, .tuple [.int 1]] none = _) h fun k => ?_⟩
  have := w_ratios_for k okC0.c [1] (by decide)
  rw [e] at this
  exact this
theorem x_cA {K : Nat} (h : 70 ≤ K) : run tx0 K f_coarsest [eSc sA] none = .ret (.fro (dP 5 2)) none := by
  refine at_ (P := fun K => run tx0 K f_coarsest [eSc sA] none = _) h fun k => ?_
  have := w_coarsest k okA (by decide +kernel)
  rw [cA] at this
  exact this
theorem x_cB {K : Nat} (h : 70 ≤ K) : run tx0 K f_coarsest [eSc sB] none = .ret (.fro (dP 5 2)) none := by
  refine at_ (P := fun K => run tx0 K f_coarsest [eSc sB] none = _) h fun k => ?_
  have := w_coarsest k okB0.c (by decide +kernel)
  rw [cB] at this
  exact this
theorem x_cC {K : Nat} (h : 70 ≤ K) : run tx0 K f_coarsest [eSc sC] none = .ret (.fro (dP 25 1)) none := by
  refine at_ (P := fun K => run tx0 K f_coarsest [eSc sC] none = _) h fun k => ?_
  have := w_coarsest k okC0.c (by decide +kernel)
  rw [cC] at this
  exact this
theorem x_k1 {K : Nat} (h : 6 ≤ K) : run tx0 K f_keeps_apart [eSc sA, .tuple [dP 1 1, dP 3 2, dP 2 1]] none = .ret (.fro (.bool true)) none := by
  refine at_ (P := fun K => run tx0 K f_keeps_apart [eSc sA, .tuple [dP 1 1, dP 3 2, dP 2 1]] none = _) h fun k => ?_
  have := r_keeps_apart k sA (by decide) (by decide) [(1, 1), (3, 2), (2, 1)] (by decide +kernel)
  rw [show parts sA [(1, 1), (3, 2), (2, 1)] = true by decide +kernel] at this
  exact this
theorem x_k2 {K : Nat} (h : 6 ≤ K) : run tx0 K f_keeps_apart [eSc sA, .tuple [dP 1 1, dP 5 4]] none = .ret (.fro (.bool false)) none := by
  refine at_ (P := fun K => run tx0 K f_keeps_apart [eSc sA, .tuple [dP 1 1, dP 5 4]] none = _) h fun k => ?_
  have := r_keeps_apart k sA (by decide) (by decide) [(1, 1), (5, 4)] (by decide +kernel)
  rw [show parts sA [(1, 1), (5, 4)] = false by decide +kernel] at this
  exact this
theorem x_e {K : Nat} (h : 5 ≤ K) : run tx0 K f_answers [.tuple [.tuple [.str sStop, .int 1], .tuple [.str sGo, .int 1], .tuple [.str sCount, .int 0, .int 2]], dP 3 2] none = .ret (.fro (.tuple [.int 3])) none := by
  refine at_ (P := fun K => run tx0 K f_answers [.tuple [.tuple [.str sStop, .int 1], .tuple [.str sGo, .int 1], .tuple [.str sCount, .int 0, .int 2]], dP 3 2] none = _) h fun k => ?_
  have := r_answers k (pr := (3, 2)) ⟨by decide, by decide, by decide, by decide, by decide, by decide⟩ sE (by decide)
  rw [show (led sE (3, 2)).told = [3] by decide +kernel] at this
  exact this
def alR (a b : Sc) : Option (List Gr) := allRows a b (pcs a) (pcs b)
def unlikeB (a b : Sc) : Bool := goodB b && match alR a b with
  | some t => decide (t.length ≤ 1000000) && !alikeB t
  | none => false
theorem unlike_ok {a b : Sc} (h : unlikeB a b = true) : ∃ ps t, Crs 60 b ps ∧ allRows a b (pcs a) ps = some t ∧ t.length ≤ 1000000 ∧ alikeB t = false := by
  unfold unlikeB at h
  rw [Bool.and_eq_true] at h
  obtain ⟨h1, h2⟩ := h
  split at h2
  · rename_i t ht
    simp only [Bool.and_eq_true, decide_eq_true_eq, Bool.not_eq_true'] at h2
    exact ⟨pcs b, t, good_crs h1, ht, h2.1, h2.2⟩
  · cases h2
theorem x_nB {K : Nat} (h : 71 ≤ K) : run tx0 K f_needless [eSc sB] none = .ret (.own []) none := by
  refine at_ (P := fun K => run tx0 K f_needless [eSc sB] none = _) h fun k => ?_
  have := r_needless k 60 okB0.c (fun _ => false) fun i hi => by
    have : i = 0 ∨ i = 1 ∨ i = 2 ∨ i = 3 := by
      have : sB.length = 4 := rfl
      omega
    rcases this with rfl | rfl | rfl | rfl
    · exact unlike_ok (by decide +kernel)
    · exact unlike_ok (by decide +kernel)
    · exact unlike_ok (by decide +kernel)
    · exact unlike_ok (by decide +kernel)
  exact this
def partB (a b : Sc) (q : Option P2) : Bool := match alR a b with
  | some t => decide (t.length ≤ 1000000) && smr t && decide (partingOf t = some q)
  | none => false
theorem part_ok {a b : Sc} {q : Option P2} (h1 : Crs 60 a (pcs a)) (h2 : Crs 60 b (pcs b)) (h : partB a b q = true) {K : Nat} (hK : 71 ≤ K) : run tx0 K f_parting [eSc a, eSc b] none = .ret (.fro (eO q)) none := by
  refine at_ (P := fun K => run tx0 K f_parting [eSc a, eSc b] none = _) hK fun k => ?_
  unfold partB at h
  split at h
  · rename_i t ht
    simp only [Bool.and_eq_true, decide_eq_true_eq] at h
    exact w_parting k h1 h2 ht h.1.1 h.1.2 h.2
  · cases h
theorem x_p1 {K : Nat} (h : 71 ≤ K) : run tx0 K f_parting [eSc sA, .tuple []] none = .ret (.fro (dP 1 1)) none := part_ok okA okNil (by decide +kernel) h (q := some (1, 1))
theorem x_p2 {K : Nat} (h : 71 ≤ K) : run tx0 K f_parting [eSc sD, eSc sD] none = .ret (.fro .none) none := part_ok okD0.c okD0.c (by decide +kernel) h (q := none)
theorem r_answers_right {K : Nat} (hK : 130 ≤ K) : run tx0 (K + 1) f__law_answers_right [] none = .ret (.own (trues 10)) none := by
  rw [run0 K _ _ _ D__law_answers_right]
  have kn := at_ (c := 1) (K := K) (by omega) (P := fun K => run tx0 K f__law_known [] none = _) r_known
  obtain ⟨l1, a1, e1⟩ := x_aA (K := K) (by omega)
  obtain ⟨l2, a2, e2⟩ := x_aB (K := K) (by omega)
  have a3 := x_aD (K := K) (by omega)
  have a4 := x_rB (K := K) (by omega)
  obtain ⟨l5, a5⟩ := x_rC (K := K) (by omega)
  have a6 := x_cA (K := K) (by omega)
  have a7 := x_cB (K := K) (by omega)
  have a8 := x_cC (K := K) (by omega)
  have a9 := x_k1 (K := K) (by omega)
  have a10 := x_k2 (K := K) (by omega)
  have a11 := x_e (K := K) (by omega)
  have a12 := x_nB (K := K) (by omega)
  have a13 := x_p1 (K := K) (by omega)
  have a14 := x_p2 (K := K) (by omega)
  have sl : ∀ n : Nat, n ≤ 20 → n < sizeLine := fun n hn => by rw [sz]; omega
  have j2 : ∀ a b c d e f g x y z : PyData, opB .add (.list [a, b, c, d, e, f, g]) (.list [x, y, z]) = some (.own [a, b, c, d, e, f, g, x, y, z]) := fun a b c d e f g x y z => opB_lst (by rw [sz]; simp)
  have o1 : opC .eq (.list [.tuple [.list [dW], .tuple []]]) (.list [.tuple [.list [dW], .tuple []]]) = some true := by decide +kernel
  have o2 : opC .eq (.list [.tuple [dP 1 2, dP 2 3], .tuple [dP 2 3, dP 2 3]]) (.list [.tuple [dP 1 2, dP 2 3], .tuple [dP 2 3, dP 2 3]]) = some true := by decide +kernel
  have o3 : opC .eq (.list [.tuple [dP 1 3, dP 1 3], .tuple [dP 1 2, dP 1 2]]) (.list [.tuple [dP 1 3, dP 1 3], .tuple [dP 1 2, dP 1 2]]) = some true := by decide +kernel
  have o4 : ∀ a b : Int, opC .eq (dP a b) (dP a b) = some true := fun a b => by
    rw [opC_eq _ _ (eqOk_l _ _ (by simp [PyData.depth, PyData.depthAll]))]
    simp
  have o5 : opC .eq (.tuple [.int 3]) (.tuple [.int 3]) = some true := by decide +kernel
  have s2 : ∀ a b : PyData, opS (.list (a :: b :: l5)) none (some 2) = some (.own [a, b]) := fun a b => by
    simp [opS, cutD, HT.sIx]
  simp [runD, startG, d__law_answers_right, b__law_answers_right, kn, a1, a2, a3, a4, a5, a6, a7, a8, a9, a10, a11, a12, a13, a14, o1, o2, o3, o4, o5, s2, e1, e2, lent, lentSl, sl, j2, endG, trues]
end TB
set_option maxHeartbeats 0
/-! The law of the written scripts. -/
namespace TB
open PySem PL
theorem any_trues (n : Nat) : ((trues n).any fun z => PyData.eqv z (.bool false)) = false := by
  rw [List.any_eq_false]
  intro x hx
  rw [List.eq_of_mem_replicate hx]
  simp [eqv_bool]
theorem in_trues (n : Nat) : opC .inn (.bool false) (.list (trues n)) = some false := by
  rw [opC_inn_l _ _ (by simp), any_trues]
theorem nin_trues (n : Nat) : opC .nin (.bool false) (.list (trues n)) = some true := by
  show (if decide ((PyData.bool false).depth ≤ 60) = true then some (!(trues n).any fun z => PyData.eqv z (.bool false)) else none) = _
  rw [any_trues, if_pos (by simp)]
  rfl
theorem r_law_k21K {K : Nat} (hK : 131 ≤ K) (ns : List Int) : run tx0 (K + 1) f_law_k21 [.list (ns.map .int)] none = .ret (.fro (.bool true)) none := by
  rw [run0 K _ _ _ D_law_k21]
  have vat := fun (i : Nat) (hi : i < 1000) => at_ (c := 1) (K := K) (by omega) (P := fun K => ∃ l, run tx0 K f__law_vat [.list (ns.map .int), .int (i : Int)] none = .ret (.own l) none ∧ Vat l) fun k => r_vat k ns i hi
  have ratio := fun (l : List PyData) (v : Vat l) => at_ (c := 2) (K := K) (by omega) (P := fun K => ∃ (p : P2) (l' : List PyData), run tx0 K f__law_ratio [.int 60] (some l) = .ret (.fro (eP p)) (some l') ∧ Rat p ∧ p.1 ≤ 60 ∧ p.2 ≤ 5 * 60 ∧ Vat l') fun k => r_ratio k v (by omega) (by omega)
  have counts := fun (p q : Int) (h : PerOk (p, q)) => at_ (c := 6) (K := K) (by omega) (P := fun K => run tx0 K f__law_counts_right [.int p, .int q] none = .ret (.own (trues 6)) none) fun k => r_counts_right k h
  have forms := at_ (c := 1) (K := K) (by omega) (P := fun K' => 131 ≤ K' → run tx0 K' f__law_forms_right [] none = .ret (.own (trues 10)) none) (fun k hk => r_forms_right (by omega)) hK
  have ans := at_ (c := 1) (K := K) (by omega) (P := fun K' => 131 ≤ K' → run tx0 K' f__law_answers_right [] none = .ret (.own (trues 10)) none) (fun k hk => r_answers_right (by omega)) hK
  have turn : ∀ (i : Nat) (l : List PyData) (a b c : Sl), Vat l → isIo a = false → isIo b = false → isIo c = false → ∃ l' a' b' c', loopF (.one 3) (fun g => exs (tx0.lk (run tx0 K) (runs tx0 K).2.2) l2_law_k21 g) ((List.range 5).map fun i : Nat => .int (i : Int)) [.val (.list (ns.map .int)), .val (.int i), .own l, a, b, c] = .nx [.val (.list (ns.map .int)), .val (.int i), .own l', a', b', c'] ∧ isIo a' = false ∧ isIo b' = false ∧ isIo c' = false := by
    intro i l a b c hl ha hb hc
    obtain ⟨g', L, l', a', b', c', _, h1, h2, h3, rfl⟩ := loopF_pre (tg := .one 3) (b := fun g => exs (tx0.lk (run tx0 K) (runs tx0 K).2.2) l2_law_k21 g) (fun i : Nat => PyData.int (i : Int))
      (fun _ g => ∃ l a b c, Vat l ∧ isIo a = false ∧ isIo b = false ∧ isIo c = false ∧ g = [.val (.list (ns.map .int)), .val (.int i), .own l, a, b, c]) (List.range 5) [] [.val (.list (ns.map .int)), .val (.int i), .own l, a, b, c] ⟨l, a, b, c, hl, ha, hb, hc, rfl⟩
      (fun p x post e g ⟨l, a, b, c, hl, ha, hb, hc, hg⟩ => by
        subst hg
        obtain ⟨r, l', e1, rr, _, _, v'⟩ := ratio l hl
        have C := counts r.1 r.2 rr.per
        have I := in_trues 6
        exact ⟨_, [.val (.list (ns.map .int)), .val (.int i), .own l', .val (.int x), .val (.int r.1), .val (.int r.2)], by simp [ha]; rfl, by simp [l2_law_k21, lent, lentSl, e1, hb, hc, C, I], l', _, _, _, v', rfl, rfl, rfl, rfl⟩)
    exact ⟨l', a', b', c', L, h1, h2, h3⟩
  have five : ∀ g, rng1Q (.fro (.int 5)) g = .ok (.own ((List.range 5).map fun i : Nat => .int (i : Int))) g := fun g => rng1_nat (n := 5) (by omega)
  obtain ⟨n, hn, hn2⟩ : ∃ n : Nat, max (2 : Int) (min 5 (ns.length : Int)) = n ∧ n ≤ 5 := ⟨max 2 (min 5 ns.length), by omega, by omega⟩
  obtain ⟨g', L, b, c, d, e, f, _, _, _, _, _, rfl⟩ := loopF_pre (tg := .one 1) (b := fun g => exs (tx0.lk (run tx0 K) (runs tx0 K).2.2) l1_law_k21 g) (fun i : Nat => PyData.int (i : Int))
    (fun _ g => ∃ b c d e f, isIo b = false ∧ isIo c = false ∧ isIo d = false ∧ isIo e = false ∧ isIo f = false ∧ g = [.val (.list (ns.map .int)), b, c, d, e, f]) (List.range n) [] [.val (.list (ns.map .int)), .no, .no, .no, .no, .no] ⟨_, _, _, _, _, rfl, rfl, rfl, rfl, rfl, rfl⟩
    (fun p x post e g ⟨b, c, d, e', f, hb, hc, hd, he, hf, hg⟩ => by
      subst hg
      have hx : x < 5 := by
        have : x ∈ List.range n := by rw [List.nil_append] at e; rw [e]; simp
        have := List.mem_range.mp this
        omega
      obtain ⟨l, e1, v⟩ := vat x (by omega)
      obtain ⟨l', a', b', c', T, t1, t2, t3⟩ := turn x l d e' f v hd he hf
      exact ⟨_, [.val (.list (ns.map .int)), .val (.int x), .own l', a', b', c'], by simp [hb]; rfl, by simp [l1_law_k21, e1, hc, ex_for, evi, items, five, T], _, _, _, _, _, rfl, rfl, t1, t2, t3, rfl⟩)
  have j : opB .add (.list (trues 10)) (.list (trues 10)) = some (.own (trues 20)) := opB_lst (by rw [sz]; decide)
  have I := nin_trues 20
  have rg : ∀ g, rng1Q (.fro (.int n)) g = .ok (.own ((List.range n).map fun i : Nat => .int (i : Int))) g := fun g => rng1_nat (by omega)
  simp [runD, startG, d_law_k21, b_law_k21, max2_eq, min2_eq, hn, ex_for, evi, items, rg, L, forms, ans, j, I, endG]
end TB
namespace TB
open PySem PL
theorem r_law_k21 (ns : List Int) : run tx0 140 f_law_k21 [.list (ns.map .int)] none = .ret (.fro (.bool true)) none := r_law_k21K (K := 139) (by omega) ns
end TB
set_option maxHeartbeats 0
open PySem PySem.W PySem.Calls PyProof.Rows TB
theorem PySem.Challenge.cw_tickbetween_k21_whole_written_by_hand_holds : PySem.Challenge.rw_tickbetween_k21_whole_written_by_hand.Holds := by
  w_on; o_law
  refine HandSHeadRun.head_any (r := OpenLaw.row PySem.Challenge.rw_tickbetween_k21_whole_written_by_hand) (q := view (OpenLaw.row PySem.Challenge.rw_tickbetween_k21_whole_written_by_hand).prog [94]) (H := hk0) (ob := ob0) (M := 12000) (loose := loose0) (d := HandSHeadRun.topDef (OpenLaw.row PySem.Challenge.rw_tickbetween_k21_whole_written_by_hand).prog 94) (kwd := []) ob0_eq
    (by kernel_rfl) (fun s => by kernel_rfl) runH (by kernel_rfl) (by kernel_rfl) (by kernel_rfl) (by rfl) (by first | assumption | decide +kernel) (by decide +kernel) ⟨rfl, rfl, rfl, rfl, rfl, by decide +kernel⟩ ?hw ?hc
  case hw => w_witness2
  case hc => exact law_walk (l := PySem.Challenge.rw_tickbetween_k21_whole_written_by_hand) (k := 140) (f0 := f_law_k21) (it0 := it_law_k21) (px := "script") (la := la0) rfl (by decide) (by kernel_rfl) ⟨rfl, by decide, by decide⟩ ok_all rfl (by kernel_rfl) rfl fun ns _ => (congrFun (congrFun (law_same 140 f_law_k21 rfl) _) _).trans (r_law_k21 ns)
