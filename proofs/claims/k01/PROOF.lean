import PyProof.Rows.All
import Wide.All
import OpenK.AllK
import Wide.FinOn
import PySem.PyData
import HandS.ForMost
import HandS.TupAny
import HandS.TupMul
import HandS.Deep
import HandS.Zip
import HandS.Walk
import HandS.IsInst
import HandS.Conv
import HandS.Words
import HandS.Defaults
import PyProof.Rows.IntBool
import HandS.Style
import KE.SortData
import KE.DataMinMax
import KE.KStateDown
import HandS.Ends
import HandS.Head0
import HandS.Head1
import HandS.Head2
import HandS.HeadEnd
import HandS.HeadHook1
import HandS.HeadHook2
import PySem.Challenge.RW_lockstairs_k01_values_recognized
set_option Elab.async false
set_option linter.all false
set_option maxRecDepth 100000
set_option maxHeartbeats 0
/-! Mini: a small language by value, and what it computes. -/
namespace Mi
open PySem

/-- data by value; ref: a cell of the store; clo: a lambda with what it captured; scr: the script -/
inductive D where
  | non | bl (b : Bool) | int (i : Int) | str (s : Str) | tup (xs : List D) | lst (xs : List D) | ref (k : Nat) | clo (l : Nat) (cs : List D) | scr (xs : List Int)
  deriving Inhabited

inductive Cell where
  | lst (ds : List D)
  | dic (kvs : List (D × D))
  | ins (c : Nat) (fs : List (Nat × D))

abbrev Store := List Cell
abbrev Env := List (Option D)

/-- an exception: the class's number, what it tells -/
structure Ex where
  cls : Nat
  arg : D

inductive Out (α : Type) where
  | ok (a : α) (μ : Store)
  | err (e : Ex) (μ : Store)
  | bad

def Out.bind {α β : Type} (x : Out α) (f : α → Store → Out β) : Out β :=
  match x with
  | .ok a μ => f a μ
  | .err e μ => .err e μ
  | .bad => .bad
@[simp] theorem Out.bind_ok {α β : Type} (a : α) (μ : Store) (f : α → Store → Out β) : (Out.ok a μ).bind f = f a μ := rfl
@[simp] theorem Out.bind_bad {α β : Type} (f : α → Store → Out β) : (Out.bad : Out α).bind f = .bad := rfl
@[simp] theorem Out.bind_err {α β : Type} (e : Ex) (μ : Store) (f : α → Store → Out β) : (Out.err e μ : Out α).bind f = .err e μ := rfl
def Out.of {α : Type} (o : Option α) (μ : Store) : Out α :=
  match o with
  | some a => .ok a μ
  | none => .bad
@[simp] theorem Out.of_some {α : Type} (a : α) (μ : Store) : Out.of (some a) μ = .ok a μ := rfl
@[simp] theorem Out.of_none {α : Type} (μ : Store) : Out.of (none : Option α) μ = .bad := rfl

def look (ρ : Env) (i : Nat) : Option D :=
  match ρ[i]? with
  | some (some d) => some d
  | _ => none

/-- a cell that is a list, read by value -/
def view (μ : Store) (d : D) : D :=
  match d with
  | .ref k => (match μ[k]? with
    | some (.lst ds) => .lst ds
    | _ => .ref k)
  | d => d

/-! ### depth, equality -/
mutual
def dep : D → Nat
  | .tup xs => depL xs + 1
  | .lst xs => depL xs + 1
  | _ => 0
def depL : List D → Nat
  | [] => 0
  | x :: xs => max (dep x) (depL xs)
end
mutual
/-- data without cells and lambdas, as Python's == asks it -/
def toPy : D → Option PyData
  | .non => some .none
  | .bl b => some (.bool b)
  | .int i => some (.int i)
  | .str s => some (.str s)
  | .tup xs => (toPyL xs).map .tuple
  | .lst xs => (toPyL xs).map .list
  | .ref _ => none
  | .clo _ _ => none
  | .scr _ => none
def toPyL : List D → Option (List PyData)
  | [] => some []
  | x :: xs => match toPy x, toPyL xs with
    | some y, some ys => some (y :: ys)
    | _, _ => none
end
mutual
def eqv : D → D → Bool
  | .non, y => (match y with | .non => true | _ => false)
  | .bl a, y => (match y with | .bl b => a == b | .int j => (if a then 1 else 0) == j | _ => false)
  | .int i, y => (match y with | .int j => decide (i = j) | .bl b => i == (if b then 1 else 0) | _ => false)
  | .str s, y => (match y with | .str t => decide (s = t) | _ => false)
  | .tup xs, y => (match y with | .tup ys => eqvL xs ys | _ => false)
  | .lst xs, y => (match y with | .lst ys => eqvL xs ys | _ => false)
  | .ref _, _ => false
  | .clo _ _, _ => false
  | .scr _, _ => false
def eqvL : List D → List D → Bool
  | [], ys => (match ys with | [] => true | _ :: _ => false)
  | x :: xs, ys => (match ys with | [] => false | y :: ys => eqv x y && eqvL xs ys)
end
mutual
/-- no cell, no lambda -/
def flat : D → Bool
  | .tup xs => flatL xs
  | .lst xs => flatL xs
  | .ref _ => false
  | .clo _ _ => false
  | .scr _ => false
  | _ => true
def flatL : List D → Bool
  | [] => true
  | x :: xs => flat x && flatL xs
end
/-- == of two data: one of them at most 64 deep -/
def eqD (x y : D) : Option Bool := if flat x && flat y && decide (min (dep x) (dep y) ≤ 64) then some (eqv x y) else none

/-! ### operators -/
inductive BOp where | add | sub | mul | fdiv | mod | pow
  deriving DecidableEq
inductive COp where | lt | le | gt | ge | eq | ne | isN | notN | isIn | notIn
  deriving DecidableEq
inductive Ty where | int | bool | str | tup | lst
  deriving DecidableEq
inductive Bi where | len | toInt | abs | min | max | sorted | szip | tuple | list | lrange | isa (t : Ty) | all
  deriving DecidableEq
inductive Mt where | index
  deriving DecidableEq
/-- what a for walks: a list, a tuple, a list's cell; range(..); zip(a, b); enumerate(a) -/
inductive Src where | seq | rng | zip | enum
  deriving DecidableEq

def big : Nat := 16777216
def small (i : Int) : Bool := decide (-(2 ^ 64) < i) && decide (i < 2 ^ 64)
def b2i (b : Bool) : Int := if b then 1 else 0
def binD (o : BOp) (x y : D) : Option D :=
  match o, x, y with
  | .add, .int i, .int j => some (.int (i + j))
  | .add, .bl a, .int j => some (.int (b2i a + j))
  | .add, .str s, .str t => if s.length + t.length ≤ big then some (.str (s ++ t)) else none
  | .add, .tup xs, .tup ys => if xs.length + ys.length ≤ big then some (.tup (xs ++ ys)) else none
  | .add, .lst xs, .lst ys => if xs.length + ys.length ≤ big then some (.lst (xs ++ ys)) else none
  | .sub, .int i, .int j => some (.int (i - j))
  | .mul, .int i, .int j => if small i || small j then some (.int (i * j)) else none
  | .mul, .tup xs, .int k => if !xs.isEmpty && decide (2 ≤ k) && decide (k ≤ 1000) && decide (xs.length ≤ 1000) then some (.tup (List.replicate k.toNat xs).flatten) else none
  | .mul, .lst xs, .int k => if decide (-(2 ^ 63) ≤ k) && decide (k < 2 ^ 63) && decide (xs.length * k.toNat ≤ big) then some (.lst (List.replicate k.toNat xs).flatten) else none
  | .fdiv, .int i, .int j => if decide (j ≠ 0) && decide (j.natAbs < 1073741824) then some (.int (i.fdiv j)) else none
  | .mod, .int i, .int j => if decide (j ≠ 0) then some (.int (i.fmod j)) else none
  | .pow, .int i, .int j => if decide (0 ≤ j) && decide (j ≤ 1000000) && decide (i.natAbs < 2 ^ 64) then some (.int (i ^ j.toNat)) else none
  | _, _, _ => none
def atom : D → Bool
  | .non => true
  | .bl _ => true
  | .int _ => true
  | .str _ => true
  | _ => false
def memD (x : D) : List D → Bool
  | [] => false
  | y :: ys => eqv y x || memD x ys
def cmpD (o : COp) (x y : D) : Option Bool :=
  match o with
  | .eq => eqD x y
  | .ne => (eqD x y).map (!·)
  | .isN => (match y with | .non => some (match x with | .non => true | _ => false) | _ => none)
  | .notN => (match y with | .non => some (match x with | .non => false | _ => true) | _ => none)
  | .lt => (match x, y with | .int i, .int j => some (decide (i < j)) | _, _ => none)
  | .le => (match x, y with | .int i, .int j => some (decide (i ≤ j)) | _, _ => none)
  | .gt => (match x, y with | .int i, .int j => some (decide (j < i)) | _, _ => none)
  | .ge => (match x, y with | .int i, .int j => some (decide (j ≤ i)) | _, _ => none)
  | .isIn => (match y with
    | .lst ys => if flat x && flatL ys && decide (dep x ≤ 64) then some (memD x ys) else none
    | .tup ys => if atom x && ys.all atom then some (memD x ys) else none
    | _ => none)
  | .notIn => (match y with
    | .lst ys => if flat x && flatL ys && decide (dep x ≤ 64) then some (!memD x ys) else none
    | .tup ys => if atom x && ys.all atom then some (!memD x ys) else none
    | _ => none)
/-- where an index points -/
def ixOf (n : Nat) (i : Int) : Option Nat := if 0 ≤ i then (if i < n then some i.toNat else none) else if -(n : Int) ≤ i then some (i + n).toNat else none
def ixD (x y : D) : Option D :=
  match x, y with
  | .tup xs, .int i => (ixOf xs.length i).bind fun k => xs[k]?
  | .lst xs, .int i => (ixOf xs.length i).bind fun k => xs[k]?
  | .scr xs, .int i => ((ixOf xs.length i).bind fun k => xs[k]?).map .int
  | _, _ => none
/-- a slice's end within 0 .. n -/
def clip (n d : Nat) : Option Int → Nat
  | none => d
  | some v => if v < 0 then (v + n).toNat else min v.toNat n
def cutL {α : Type} (xs : List α) (lo hi : Option Int) : List α := (xs.drop (clip xs.length 0 lo)).take (clip xs.length xs.length hi - clip xs.length 0 lo)
def slD (x : D) (lo hi : Option Int) : Option D :=
  match x with
  | .tup xs => some (.tup (cutL xs lo hi))
  | .lst xs => some (.lst (cutL xs lo hi))
  | _ => none
def revD (x : D) : Option D :=
  match x with
  | .tup xs => some (.tup xs.reverse)
  | .lst xs => some (.lst xs.reverse)
  | _ => none

/-! ### built-ins -/
def intsOf : List D → Option (List Int)
  | [] => some []
  | .int i :: r => (intsOf r).map (i :: ·)
  | _ :: _ => none
def boolsOf : List D → Option (List Bool)
  | [] => some []
  | .bl b :: r => (boolsOf r).map (b :: ·)
  | _ :: _ => none
/-- a tuple of ints as a list of ints -/
def tupInts : D → Option (List Int)
  | .tup xs => intsOf xs
  | _ => none
def rowsOf : List D → Option (List (List Int))
  | [] => some []
  | x :: r => match tupInts x, rowsOf r with
    | some a, some b => some (a :: b)
    | _, _ => none
def lexLt : List Int → List Int → Bool
  | [], [] => false
  | [], _ :: _ => true
  | _ :: _, [] => false
  | x :: xs, y :: ys => if x = y then lexLt xs ys else decide (x < y)
def minL : Int → List Int → Int
  | m, [] => m
  | m, x :: r => minL (if x < m then x else m) r
def maxL : Int → List Int → Int
  | m, [] => m
  | m, x :: r => maxL (if m < x then x else m) r
def minR : List Int → List (List Int) → List Int
  | m, [] => m
  | m, x :: r => minR (if lexLt x m then x else m) r
def insR (x : List Int) : List (List Int) → List (List Int)
  | [] => [x]
  | y :: r => if lexLt x y then x :: y :: r else y :: insR x r
def sortR : List (List Int) → List (List Int)
  | [] => []
  | x :: r => insR x (sortR r)
/-- pairs (int, anything) by the int, the ints apart -/
def insP (k : Int) (d : D) : List (Int × D) → List (Int × D)
  | [] => [(k, d)]
  | (j, e) :: r => if k < j then (k, d) :: (j, e) :: r else (j, e) :: insP k d r
def sortP : List (Int × D) → List (Int × D)
  | [] => []
  | (k, d) :: r => insP k d (sortP r)
def items (x : D) : Option (List D) :=
  match x with
  | .tup xs => some xs
  | .lst xs => some xs
  | _ => none
def zipD : List D → List D → List D
  | x :: xs, y :: ys => .tup [x, y] :: zipD xs ys
  | _, _ => []
def enumD : Nat → List D → List D
  | _, [] => []
  | n, x :: xs => .tup [.int n, x] :: enumD (n + 1) xs
def rangeD (lo : Int) : Nat → List D
  | 0 => []
  | n + 1 => .int lo :: rangeD (lo + 1) n
def isaD (t : Ty) (x : D) : Bool :=
  match t, x with
  | .int, .int _ => true
  | .int, .bl _ => true
  | .bool, .bl _ => true
  | .str, .str _ => true
  | .tup, .tup _ => true
  | .lst, .lst _ => true
  | _, _ => false
def plain : D → Bool
  | .ref _ => false
  | .clo _ _ => false
  | .scr _ => false
  | _ => true
def inRange (i : Int) : Bool := decide (-(2 ^ 62) ≤ i) && decide (i < 2 ^ 62)
def biD (b : Bi) (xs : List D) : Option D :=
  match b, xs with
  | .len, [.tup ys] => some (.int ys.length)
  | .len, [.lst ys] => some (.int ys.length)
  | .len, [.scr ys] => some (.int ys.length)
  | .toInt, [.int i] => some (.int i)
  | .toInt, [.bl a] => some (.int (b2i a))
  | .abs, [.int i] => some (.int (if i < 0 then -i else i))
  | .min, [.int i, .int j] => some (.int (if j < i then j else i))
  | .max, [.int i, .int j] => some (.int (if j > i then j else i))
  | .min, [.lst ys] => (match intsOf ys with
    | some (i :: r) => some (.int (minL i r))
    | _ => match rowsOf ys with
      | some (r :: rs) => some (.tup ((minR r rs).map .int))
      | _ => none)
  | .max, [.lst ys] => (match intsOf ys with
    | some (i :: r) => some (.int (maxL i r))
    | _ => none)
  | .tuple, [.lst ys] => some (.tup ys)
  | .tuple, [.tup ys] => some (.tup ys)
  | .list, [.lst ys] => some (.lst ys)
  | .list, [.tup ys] => some (.lst ys)
  | .all, [.lst ys] => (boolsOf ys).map fun bs => .bl (bs.all id)
  | .isa t, [x] => if plain x then some (.bl (isaD t x)) else none
  | _, _ => none
mutual
def deq : D → D → Bool
  | .non, y => (match y with | .non => true | _ => false)
  | .bl a, y => (match y with | .bl b => a == b | _ => false)
  | .int i, y => (match y with | .int j => decide (i = j) | _ => false)
  | .str s, y => (match y with | .str t => decide (s = t) | _ => false)
  | .tup xs, y => (match y with | .tup ys => deqL xs ys | _ => false)
  | .lst xs, y => (match y with | .lst ys => deqL xs ys | _ => false)
  | .ref i, y => (match y with | .ref j => decide (i = j) | _ => false)
  | .clo _ _, _ => false
  | .scr xs, y => (match y with | .scr ys => decide (xs = ys) | _ => false)
def deqL : List D → List D → Bool
  | [], ys => (match ys with | [] => true | _ :: _ => false)
  | x :: xs, ys => (match ys with | [] => false | y :: ys => deq x y && deqL xs ys)
end
/-- the walked cells stand as they stood -/
def still (xs : List D) (μ0 μ : Store) : Bool := xs.all fun x => match x with
  | .ref _ => deq (view μ0 x) (view μ x)
  | _ => true
mutual
/-- all cells that are named lie below n -/
def below (n : Nat) : D → Bool
  | .tup xs => belowL n xs
  | .lst xs => belowL n xs
  | .ref k => decide (k < n)
  | .clo _ cs => belowL n cs
  | _ => true
def belowL (n : Nat) : List D → Bool
  | [] => true
  | x :: xs => below n x && belowL n xs
end
def belowC (n : Nat) : Cell → Bool
  | .lst ds => belowL n ds
  | .dic kvs => kvs.all fun p => below n p.1 && below n p.2
  | .ins _ fs => fs.all fun p => below n p.2
def isLstD : D → Bool
  | .lst _ => true
  | _ => false
def findD (x : D) : Nat → List D → Option Nat
  | _, [] => none
  | n, y :: ys => if eqv y x then some n else findD x (n + 1) ys
def mtD (m : Mt) (x : D) (ys : List D) : Option D :=
  match m, x, ys with
  | .index, .lst xs, [y] => if flat y && flatL xs && decide (dep y ≤ 64) && decide (depL xs < 64) then (findD y 0 xs).map fun n => .int n else none
  | _, _, _ => none
/-- what a for walks, by value -/
def srcD (s : Src) (xs : List D) : Option (List D) :=
  match s, xs with
  | .seq, [x] => items x
  | .rng, [.int j] => if inRange j && decide (j.toNat ≤ big) then some (rangeD 0 j.toNat) else none
  | .rng, [.int i, .int j] => if inRange i && inRange j && decide ((j - i).toNat ≤ big) then some (rangeD i (j - i).toNat) else none
  | .zip, [.lst xs, .lst ys] => some (zipD xs ys)
  | .zip, [.tup xs, .tup ys] => some (zipD xs ys)
  | .enum, [.lst xs] => some (enumD 0 xs)
  | .enum, [.tup xs] => some (enumD 0 xs)
  | _, _ => none

/-! ### the language -/
inductive MT where
  | nm (i : Nat)
  | tp (ts : List MT)
mutual
@[simp] def bindT : MT → D → Env → Option Env
  | .nm i, d, ρ => some (ρ.set i (some d))
  | .tp ts, d, ρ => (match d with
    | .tup ds => bindTs ts ds ρ
    | _ => none)
@[simp] def bindTs : List MT → List D → Env → Option Env
  | [], ds, ρ => (match ds with | [] => some ρ | _ => none)
  | t :: ts, ds, ρ => (match ds with
    | [] => none
    | d :: ds => (bindT t d ρ).bind fun ρ' => bindTs ts ds ρ')
end
inductive ME where
  | v (i : Nat)
  | k (d : D)
  | g (i : Nat)
  | bin (o : BOp) (a b : ME)
  | neg (a : ME)
  | not (a : ME)
  | and (a b : ME)
  | or (a b : ME)
  | cmp (o : COp) (a b : ME)
  | chain (o o' : COp) (a b c : ME)
  | ite (c a b : ME)
  | tup (es : List ME)
  | lst (es : List ME)
  | cell (es : List ME)
  | ix (a i : ME)
  | sl (a : ME) (lo hi : Option ME)
  | rev (a : ME)
  | call (f : Nat) (es : List ME)
  | bi (b : Bi) (es : List ME)
  | mt (m : Mt) (a : ME) (es : List ME)
  | comp (e : ME) (t : MT) (s : Src) (es : List ME) (c : Option ME) (own : List Nat)
inductive MS where
  | asg (t : MT) (e : ME)
  | asgC (i : Nat) (e : ME) (t : MT) (s : Src) (es : List ME) (c : Option ME) (own : List Nat)
  | par (i j : Nat) (a b : ME)
  | sub (a i e : ME)
  | ex (e : ME)
  | app (a e : ME)
  | ret (e : ME)
  | retN
  | ifs (c : ME) (a b : List MS)
  | for_ (t : MT) (s : Src) (es : List ME) (body : List MS)
  | whl (c : ME) (body : List MS)
  | pas
  | never

/-- constants of the module, calls -/
structure Glo where
  gd : Nat → D
  call : Nat → List D → Store → Out D
  W : Nat
def wipeE (ρ : Env) : List Nat → Env
  | [] => ρ
  | i :: is => (wipeE ρ is).set i none
/-- a comprehension's turns -/
def compL (g : Store → Bool) (ρ : Env) (t : MT) (c : Env → Store → Out Bool) (e : Env → Store → Out D) : List D → Store → Out (List D)
  | [], μ => if g μ then .ok [] μ else .bad
  | d :: ds, μ => if g μ then (match bindT t d ρ with
    | none => .bad
    | some ρ' => (c ρ' μ).bind fun b μ1 =>
      if b then (e ρ' μ1).bind fun x μ2 => (compL g ρ t c e ds μ2).bind fun xs μ3 => .ok (x :: xs) μ3
      else compL g ρ t c e ds μ1) else .bad
/-- an exception does not leave a comprehension here -/
def noErr {α : Type} (o : Out α) : Out α :=
  match o with
  | .ok a μ => .ok a μ
  | _ => .bad
@[simp] theorem noErr_ok {α : Type} (a : α) (μ : Store) : noErr (Out.ok a μ) = .ok a μ := rfl
def asBool (d : D) (μ : Store) : Out Bool :=
  match d with
  | .bl b => .ok b μ
  | _ => .bad
mutual
@[simp] def evE (G : Glo) : ME → Env → Store → Out D
  | .v i, ρ, μ => Out.of (look ρ i) μ
  | .k d, _, μ => .ok d μ
  | .g i, _, μ => .ok (G.gd i) μ
  | .bin o a b, ρ, μ => (evE G a ρ μ).bind fun x μ1 => (evE G b ρ μ1).bind fun y μ2 => Out.of (binD o (view μ2 x) (view μ2 y)) μ2
  | .neg a, ρ, μ => (evE G a ρ μ).bind fun x μ1 => (match x with
    | .int i => .ok (.int (-i)) μ1
    | _ => .bad)
  | .not a, ρ, μ => (evE G a ρ μ).bind fun x μ1 => (asBool x μ1).bind fun b μ2 => .ok (.bl (!b)) μ2
  | .and a b, ρ, μ => (evE G a ρ μ).bind fun x μ1 => (asBool x μ1).bind fun c μ2 => if c then evE G b ρ μ2 else .ok (.bl false) μ2
  | .or a b, ρ, μ => (evE G a ρ μ).bind fun x μ1 => (asBool x μ1).bind fun c μ2 => if c then .ok (.bl true) μ2 else evE G b ρ μ2
  | .cmp o a b, ρ, μ => (evE G a ρ μ).bind fun x μ1 => (evE G b ρ μ1).bind fun y μ2 => Out.of ((cmpD o (view μ2 x) (view μ2 y)).map .bl) μ2
  | .chain o o' a b c, ρ, μ => (evE G a ρ μ).bind fun x μ1 => (evE G b ρ μ1).bind fun y μ2 => (Out.of (cmpD o (view μ2 x) (view μ2 y)) μ2).bind fun t μ3 =>
      if t then (evE G c ρ μ3).bind fun z μ4 => Out.of ((cmpD o' (view μ4 y) (view μ4 z)).map .bl) μ4 else .ok (.bl false) μ3
  | .ite c a b, ρ, μ => (evE G c ρ μ).bind fun x μ1 => (asBool x μ1).bind fun t μ2 => if t then evE G a ρ μ2 else evE G b ρ μ2
  | .tup es, ρ, μ => (evEs G es ρ μ).bind fun xs μ1 => .ok (.tup xs) μ1
  | .lst es, ρ, μ => (evEs G es ρ μ).bind fun xs μ1 => .ok (.lst xs) μ1
  | .cell es, ρ, μ => (evEs G es ρ μ).bind fun xs μ1 => .ok (.ref μ1.length) (μ1 ++ [.lst xs])
  | .ix a i, ρ, μ => (evE G a ρ μ).bind fun x μ1 => (evE G i ρ μ1).bind fun y μ2 => Out.of (ixD (view μ2 x) y) μ2
  | .sl a lo hi, ρ, μ => (evE G a ρ μ).bind fun x μ1 => (evO G lo ρ μ1).bind fun l μ2 => (evO G hi ρ μ2).bind fun h μ3 => Out.of (slD (view μ3 x) l h) μ3
  | .rev a, ρ, μ => (evE G a ρ μ).bind fun x μ1 => Out.of (revD (view μ1 x)) μ1
  | .call f es, ρ, μ => (evEs G es ρ μ).bind fun xs μ1 => G.call f xs μ1
  | .bi b es, ρ, μ => (evEs G es ρ μ).bind fun xs μ1 => Out.of (biD b (xs.map (view μ1))) μ1
  | .mt m a es, ρ, μ => (evE G a ρ μ).bind fun x μ1 => if isLstD (view μ1 x) then (evEs G es ρ μ1).bind fun xs μ2 => Out.of (mtD m (view μ2 x) xs) μ2 else .bad
  | .comp e t s es c own, ρ, μ => (evEs G es ρ μ).bind fun xs μ1 => (Out.of (srcD s (xs.map (view μ1))) μ1).bind fun ds μ2 =>
      (noErr (compL (still xs μ1) (wipeE ρ own) t (fun ρ' μ => evC G c ρ' μ) (fun ρ' μ => evE G e ρ' μ) ds μ2)).bind fun ys μ3 => .ok (.lst ys) μ3
@[simp] def evC (G : Glo) : Option ME → Env → Store → Out Bool
  | none, _, μ => .ok true μ
  | some c, ρ, μ => (evE G c ρ μ).bind asBool
@[simp] def evEs (G : Glo) : List ME → Env → Store → Out (List D)
  | [], _, μ => .ok [] μ
  | e :: es, ρ, μ => (evE G e ρ μ).bind fun x μ1 => (evEs G es ρ μ1).bind fun xs μ2 => .ok (x :: xs) μ2
@[simp] def evO (G : Glo) : Option ME → Env → Store → Out (Option Int)
  | none, _, μ => .ok none μ
  | some e, ρ, μ => (evE G e ρ μ).bind fun x μ1 => (match x with
    | .int i => .ok (some i) μ1
    | _ => .bad)
end

/-! ### statements, defs -/
inductive OutS where
  | nx (ρ : Env) (μ : Store)
  | rt (d : D) (μ : Store)
  | err (e : Ex) (μ : Store)
  | bad
/-- an expression's outcome, then a statement -/
def Out.to {α : Type} (x : Out α) (f : α → Store → OutS) : OutS :=
  match x with
  | .ok a μ => f a μ
  | .err e μ => .err e μ
  | .bad => .bad
@[simp] theorem Out.to_ok {α : Type} (a : α) (μ : Store) (f : α → Store → OutS) : (Out.ok a μ).to f = f a μ := rfl
@[simp] theorem Out.to_bad {α : Type} (f : α → Store → OutS) : (Out.bad : Out α).to f = .bad := rfl
@[simp] theorem Out.to_err {α : Type} (e : Ex) (μ : Store) (f : α → Store → OutS) : (Out.err e μ : Out α).to f = .err e μ := rfl
def OutS.then_ (x : OutS) (f : Env → Store → OutS) : OutS :=
  match x with
  | .nx ρ μ => f ρ μ
  | o => o
@[simp] theorem OutS.then_nx (ρ : Env) (μ : Store) (f : Env → Store → OutS) : (OutS.nx ρ μ).then_ f = f ρ μ := rfl
@[simp] theorem OutS.then_rt (d : D) (μ : Store) (f : Env → Store → OutS) : (OutS.rt d μ).then_ f = .rt d μ := rfl
@[simp] theorem OutS.then_err (e : Ex) (μ : Store) (f : Env → Store → OutS) : (OutS.err e μ).then_ f = .err e μ := rfl
@[simp] theorem OutS.then_bad (f : Env → Store → OutS) : OutS.bad.then_ f = .bad := rfl
def forL (g : Store → Bool) (t : MT) (body : Env → Store → OutS) : List D → Env → Store → OutS
  | [], ρ, μ => if g μ then .nx ρ μ else .bad
  | d :: ds, ρ, μ => if g μ then (match bindT t d ρ with
    | none => .bad
    | some ρ' => (body ρ' μ).then_ fun ρ2 μ2 => forL g t body ds ρ2 μ2) else .bad
def whlL (c : Env → Store → Out Bool) (body : Env → Store → OutS) : Nat → Env → Store → OutS
  | 0, _, _ => .bad
  | n + 1, ρ, μ => (c ρ μ).to fun b μ1 => if b then (body ρ μ1).then_ fun ρ2 μ2 => whlL c body n ρ2 μ2 else .nx ρ μ1
def isCellL (μ : Store) (d : D) : Bool :=
  match d with
  | .ref k => (match μ[k]? with
    | some (.lst _) => true
    | _ => false)
  | _ => false
/-- a cell that is a list, changed -/
def putC (μ : Store) (d : D) (f : List D → Option (List D)) : Option Store :=
  match d with
  | .ref k => (match μ[k]? with
    | some (.lst ds) => (f ds).map fun ds' => μ.set k (.lst ds')
    | _ => none)
  | _ => none
mutual
@[simp] def exS (G : Glo) : MS → Env → Store → OutS
  | .asg t e, ρ, μ => (evE G e ρ μ).to fun d μ1 => match bindT t d ρ with
    | none => .bad
    | some ρ' => .nx ρ' μ1
  | .asgC i e t s es c own, ρ, μ => (evE G (.comp e t s es c own) ρ μ).to fun d μ1 => .nx (ρ.set i (some d)) μ1
  | .par i j a b, ρ, μ => (evE G a ρ μ).to fun x μ1 => (evE G b ρ μ1).to fun y μ2 => .nx ((ρ.set i (some x)).set j (some y)) μ2
  | .sub a i e, ρ, μ => (evE G e ρ μ).to fun d μ1 => (evE G a ρ μ1).to fun x μ2 => (evE G i ρ μ2).to fun y μ3 =>
      (match y with
      | .int n => (match putC μ3 x fun ds => (ixOf ds.length n).map fun k => ds.set k d with
        | some μ4 => .nx ρ μ4
        | none => .bad)
      | _ => .bad)
  | .ex e, ρ, μ => (evE G e ρ μ).to fun _ μ1 => .nx ρ μ1
  | .app a e, ρ, μ => (evE G a ρ μ).to fun x μ1 => if isCellL μ1 x then (evE G e ρ μ1).to fun d μ2 =>
      (match putC μ2 x fun ds => if ds.length < big then some (ds ++ [d]) else none with
      | some μ3 => .nx ρ μ3
      | none => .bad) else .bad
  | .ret e, ρ, μ => (evE G e ρ μ).to fun d μ1 => .rt d μ1
  | .retN, _, μ => .rt .non μ
  | .ifs c a b, ρ, μ => (evE G c ρ μ).to fun x μ1 => (asBool x μ1).to fun t μ2 => if t then exSs G a ρ μ2 else exSs G b ρ μ2
  | .for_ t s es body, ρ, μ => (evEs G es ρ μ).to fun xs μ1 => (match srcD s (xs.map (view μ1)) with
    | none => .bad
    | some ds => forL (still xs μ1) t (fun ρ' μ' => exSs G body ρ' μ') ds ρ μ1)
  | .whl c body, ρ, μ => whlL (fun ρ' μ' => (evE G c ρ' μ').bind asBool) (fun ρ' μ' => exSs G body ρ' μ') G.W ρ μ
  | .pas, ρ, μ => .nx ρ μ
  | .never, _, _ => .bad
@[simp] def exSs (G : Glo) : List MS → Env → Store → OutS
  | [], ρ, μ => .nx ρ μ
  | s :: ss, ρ, μ => (exS G s ρ μ).then_ fun ρ' μ' => exSs G ss ρ' μ'
end
/-- a def: its parameters, its names, its body; drop: it hands back plain data, its cells are forgotten -/
structure FDef where
  np : Nat
  nl : Nat
  body : List MS
  drop : Bool
def outD (n : Nat) (μ : Store) (d : D) : D :=
  match d with
  | .ref k => if k < n then d else view μ d
  | d => d
def finS (drop : Bool) (n : Nat) (o : OutS) : Out D :=
  match o with
  | .nx _ μ => if drop && decide (n < μ.length) then (if (μ.take n).all (belowC n) then .ok .non (μ.take n) else .bad) else .ok .non μ
  | .rt d μ => if drop && decide (n < μ.length) then (if (μ.take n).all (belowC n) && below n (outD n μ d) then .ok (outD n μ d) (μ.take n) else .bad) else .ok d μ
  | .err e μ => .err e μ
  | .bad => .bad
def startE (nl : Nat) (ds : List D) : Env := ds.map some ++ List.replicate (nl - ds.length) none
def run (T : Nat → Option FDef) (gd : Nat → D) (W : Nat) : Nat → Nat → List D → Store → Out D
  | 0, _, _, _ => .bad
  | k + 1, f, ds, μ => match T f with
    | none => .bad
    | some fd => if ds.length = fd.np then finS fd.drop μ.length (exSs ⟨gd, run T gd W k, W⟩ fd.body (startE fd.nl ds) μ) else .bad
example (G : Glo) (ρ : Env) (μ : Store) (d : D) : evE G (.tup [.k d]) ρ μ = .ok (.tup [d]) μ := rfl
end Mi
/-! Mini's values in the heap. -/
namespace Mi
open PySem PySem.Spec PyProof.Rows L2

/-- cells' addresses by number; addresses that stand apart and are kept as they are -/
structure Ctx where
  mm : List Addr
  hid : List Addr

/-- the script: locked, or written -/
def ScrAt (K : PySem.W.Frag) (H : Hp) (a : Addr) (xs : List Int) : Prop := (∃ o, H a = some (.frz o (.lst (xs.map V.int)))) ∨ SqL K (fun _ => none) a (xs.map V.int)
theorem ScrAt.sq {K : PySem.W.Frag} {H : Hp} {a : Addr} {xs : List Int} (h : ScrAt K H a xs) : SqL K H a (xs.map V.int) := by
  rcases h with ⟨o, h⟩ | (h | ⟨_, h⟩) | h
  · exact .inl (.inr ⟨o, h⟩)
  · cases h
  · cases h
  · exact .inr h
mutual
inductive Rp (K : PySem.W.Frag) (H : Hp) (C : Ctx) : V → D → Prop
  | non : Rp K H C .non .non
  | bl (b : Bool) : Rp K H C (.bl b) (.bl b)
  | int (i : Int) : Rp K H C (.int i) (.int i)
  | str (x : Str) : PyData.strOk x = true → Rp K H C (.str x) (.str x)
  | tup {a : Addr} {vs : List V} {ds : List D} : SqT K H a vs → Rps K H C vs ds → ds.length ≤ sizeLine → Rp K H C (.ref a) (.tup ds)
  | lst {a : Addr} {vs : List V} {ds : List D} : H a = some (.lst vs) → a ∉ C.mm → a ∉ C.hid → Rps K H C vs ds → ds.length ≤ sizeLine → Rp K H C (.ref a) (.lst ds)
  | ref {k : Nat} {a : Addr} : C.mm[k]? = some a → Rp K H C (.ref a) (.ref k)
  | scr {a : Addr} {xs : List Int} : ScrAt K H a xs → Rp K H C (.ref a) (.scr xs)
inductive Rps (K : PySem.W.Frag) (H : Hp) (C : Ctx) : List V → List D → Prop
  | nil : Rps K H C [] []
  | cons {v : V} {vs : List V} {d : D} {ds : List D} : Rp K H C v d → Rps K H C vs ds → Rps K H C (v :: vs) (d :: ds)
end

section
variable {K : PySem.W.Frag} {H H' : Hp} {C C' : Ctx}

/-- what keeps data as it is -/
structure Kp (K : PySem.W.Frag) (H : Hp) (C : Ctx) (H' : Hp) (C' : Ctx) : Prop where
  tup : ∀ a vs, SqT K H a vs → SqT K H' a vs
  lst : ∀ a vs, H a = some (.lst vs) → a ∉ C.mm → a ∉ C.hid → H' a = some (.lst vs) ∧ a ∉ C'.mm ∧ a ∉ C'.hid
  mm : ∀ (k : Nat) (a : Addr), C.mm[k]? = some a → C'.mm[k]? = some a
  scr : ∀ a xs, ScrAt K H a xs → ScrAt K H' a xs
mutual
theorem Rp.keep (k : Kp K H C H' C') : ∀ {d : D} {v : V}, Rp K H C v d → Rp K H' C' v d
  | .non, _, h => by cases h; exact .non
  | .bl b, _, h => by cases h; exact .bl b
  | .int i, _, h => by cases h; exact .int i
  | .str x, _, h => by
    cases h with
    | str _ h1 => exact .str x h1
  | .tup ds, _, h => by
    cases h with
    | tup h1 h2 h3 => exact .tup (k.tup _ _ h1) (Rps.keep k h2) h3
  | .lst ds, _, h => by
    cases h with
    | lst h1 h2 h3 h4 h5 => exact .lst (k.lst _ _ h1 h2 h3).1 (k.lst _ _ h1 h2 h3).2.1 (k.lst _ _ h1 h2 h3).2.2 (Rps.keep k h4) h5
  | .ref n, _, h => by
    cases h with
    | ref h1 => exact .ref (k.mm _ _ h1)
  | .clo _ _, _, h => by cases h
  | .scr xs, _, h => by
    cases h with
    | scr h1 => exact .scr (k.scr _ _ h1)
theorem Rps.keep (k : Kp K H C H' C') : ∀ {ds : List D} {vs : List V}, Rps K H C vs ds → Rps K H' C' vs ds
  | [], _, h => by cases h; exact .nil
  | d :: ds, _, h => by
    cases h with
    | cons h1 h2 => exact .cons (Rp.keep k h1) (Rps.keep k h2)
end
theorem Rps.length : ∀ {ds : List D} {vs : List V}, Rps K H C vs ds → vs.length = ds.length
  | [], _, h => by cases h; rfl
  | d :: ds, _, h => by
    cases h with
    | cons h1 h2 => rw [List.length_cons, List.length_cons, Rps.length h2]
theorem Rps.get : ∀ {ds : List D} {vs : List V} {i : Nat} {d : D}, Rps K H C vs ds → ds[i]? = some d → ∃ v, vs[i]? = some v ∧ Rp K H C v d
  | [], _, i, d, h, e => by simp at e
  | d' :: ds, _, 0, d, h, e => by
    cases h with
    | cons h1 h2 =>
      simp at e
      subst e
      exact ⟨_, rfl, h1⟩
  | d' :: ds, _, i + 1, d, h, e => by
    cases h with
    | cons h1 h2 =>
      obtain ⟨v, a, b⟩ := Rps.get (i := i) (d := d) h2 (by simpa using e)
      exact ⟨v, by simpa using a, b⟩
theorem Rps.getV : ∀ {ds : List D} {vs : List V} {i : Nat} {v : V}, Rps K H C vs ds → vs[i]? = some v → ∃ d, ds[i]? = some d ∧ Rp K H C v d
  | [], _, i, v, h, e => by cases h; simp at e
  | d' :: ds, _, 0, v, h, e => by
    cases h with
    | cons h1 h2 =>
      simp at e
      subst e
      exact ⟨_, rfl, h1⟩
  | d' :: ds, _, i + 1, v, h, e => by
    cases h with
    | cons h1 h2 =>
      obtain ⟨d, a, b⟩ := Rps.getV (i := i) (v := v) h2 (by simpa using e)
      exact ⟨d, by simpa using a, b⟩
theorem Rps.append : ∀ {ds es : List D} {vs ws : List V}, Rps K H C vs ds → Rps K H C ws es → Rps K H C (vs ++ ws) (ds ++ es)
  | [], _, _, _, h, h' => by cases h; exact h'
  | d :: ds, es, _, ws, h, h' => by
    cases h with
    | cons h1 h2 => exact .cons h1 (Rps.append h2 h')
theorem Rps.take : ∀ {ds : List D} {vs : List V} (n : Nat), Rps K H C vs ds → Rps K H C (vs.take n) (ds.take n)
  | [], _, n, h => by cases h; simp; exact .nil
  | d :: ds, _, 0, h => by simp; exact .nil
  | d :: ds, _, n + 1, h => by
    cases h with
    | cons h1 h2 => exact .cons h1 (Rps.take n h2)
theorem Rps.drop : ∀ {ds : List D} {vs : List V} (n : Nat), Rps K H C vs ds → Rps K H C (vs.drop n) (ds.drop n)
  | [], _, n, h => by cases h; simp; exact .nil
  | d :: ds, _, 0, h => h
  | d :: ds, _, n + 1, h => by
    cases h with
    | cons h1 h2 => exact Rps.drop n h2
theorem Rps.reverse : ∀ {ds : List D} {vs : List V}, Rps K H C vs ds → Rps K H C vs.reverse ds.reverse
  | [], _, h => by cases h; exact .nil
  | d :: ds, _, h => by
    cases h with
    | cons h1 h2 => simpa using Rps.append (Rps.reverse h2) (.cons h1 .nil)
theorem Rps.set : ∀ {ds : List D} {vs : List V} (i : Nat) {v : V} {d : D}, Rps K H C vs ds → Rp K H C v d → Rps K H C (vs.set i v) (ds.set i d)
  | [], _, i, v, d, h, r => by cases h; exact .nil
  | d' :: ds, _, 0, v, d, h, r => by
    cases h with
    | cons h1 h2 => exact .cons r h2
  | d' :: ds, _, i + 1, v, d, h, r => by
    cases h with
    | cons h1 h2 => exact .cons h1 (Rps.set i h2 r)
theorem Rps.rep {ds : List D} {vs : List V} (h : Rps K H C vs ds) : ∀ n : Nat, Rps K H C (List.replicate n vs).flatten (List.replicate n ds).flatten
  | 0 => by simp; exact .nil
  | n + 1 => by
    rw [List.replicate_succ, List.replicate_succ, List.flatten_cons, List.flatten_cons]
    exact h.append (Rps.rep h n)
theorem Rps.ints : ∀ {ds : List D} {vs : List V} {ns : List Int}, Rps K H C vs ds → intsOf ds = some ns → vs = ns.map V.int ∧ ds = ns.map D.int
  | [], _, ns, h, e => by
    cases h
    have e' : ns = [] := (Option.some.inj e).symm
    subst e'
    exact ⟨rfl, rfl⟩
  | d :: ds, _, ns, h, e => by
    cases h with
    | cons h1 h2 =>
      cases d with
      | int i =>
        cases h1
        simp only [intsOf] at e
        cases q : intsOf ds with
        | none => rw [q] at e; cases e
        | some ms =>
          rw [q] at e
          obtain ⟨a, b⟩ := Rps.ints h2 q
          have e' : ns = i :: ms := (Option.some.inj e).symm
          subst e'
          exact ⟨by rw [a, List.map_cons], by rw [b, List.map_cons]⟩
      | _ => simp [intsOf] at e
theorem Rps.bools : ∀ {ds : List D} {vs : List V} {ns : List Bool}, Rps K H C vs ds → boolsOf ds = some ns → vs = ns.map V.bl
  | [], _, ns, h, e => by
    cases h
    have e' : ns = [] := (Option.some.inj e).symm
    subst e'
    rfl
  | d :: ds, _, ns, h, e => by
    cases h with
    | cons h1 h2 =>
      cases d with
      | bl i =>
        cases h1
        simp only [boolsOf] at e
        cases q : boolsOf ds with
        | none => rw [q] at e; cases e
        | some ms =>
          rw [q] at e
          have a := Rps.bools h2 q
          have e' : ns = i :: ms := (Option.some.inj e).symm
          subst e'
          rw [a, List.map_cons]
      | _ => simp [boolsOf] at e

/-! ### data as PyData -/
mutual
theorem toPy_flat : ∀ (d : D) {v : V}, Rp K H C v d → flat d = true → ∃ p, toPy d = some p ∧ p.depth = dep d ∧ p.canLay0 = true
  | .non, _, r, _ => ⟨_, rfl, by simp [PyData.depth, dep], by simp [PyData.canLay0]⟩
  | .bl b, _, r, _ => ⟨_, rfl, by simp [PyData.depth, dep], by simp [PyData.canLay0]⟩
  | .int i, _, r, _ => ⟨_, rfl, by simp [PyData.depth, dep], by simp [PyData.canLay0]⟩
  | .str x, _, r, _ => ⟨_, rfl, by simp [PyData.depth, dep], by cases r with | str _ h1 => simpa [PyData.canLay0] using h1⟩
  | .tup ds, _, r, h => by
    obtain ⟨ps, e, d, l⟩ : ∃ ps, toPyL ds = some ps ∧ PyData.depthAll ps = depL ds ∧ PyData.canLayAll0 ps = true := by
      cases r with
      | tup _ h2 _ => exact toPyL_flat ds h2 (by simpa [flat] using h)
    exact ⟨.tuple ps, by simp [toPy, e], by simp [PyData.depth, dep, d], by simpa [PyData.canLay0] using l⟩
  | .lst ds, _, r, h => by
    obtain ⟨ps, e, d, l⟩ : ∃ ps, toPyL ds = some ps ∧ PyData.depthAll ps = depL ds ∧ PyData.canLayAll0 ps = true := by
      cases r with
      | lst _ _ _ h2 _ => exact toPyL_flat ds h2 (by simpa [flat] using h)
    exact ⟨.list ps, by simp [toPy, e], by simp [PyData.depth, dep, d], by simpa [PyData.canLay0] using l⟩
  | .ref _, _, r, h => by simp [flat] at h
  | .clo _ _, _, r, h => by simp [flat] at h
  | .scr _, _, r, h => by simp [flat] at h
theorem toPyL_flat : ∀ (ds : List D) {vs : List V}, Rps K H C vs ds → flatL ds = true → ∃ ps, toPyL ds = some ps ∧ PyData.depthAll ps = depL ds ∧ PyData.canLayAll0 ps = true
  | [], _, _, _ => ⟨[], rfl, by simp [PyData.depthAll, depL], by simp [PyData.canLayAll0]⟩
  | d :: ds, _, .cons r1 r2, h => by
    have h' : flat d = true ∧ flatL ds = true := by simpa [flatL] using h
    obtain ⟨p, e1, d1, l1⟩ := toPy_flat d r1 h'.1
    obtain ⟨ps, e2, d2, l2⟩ := toPyL_flat ds r2 h'.2
    exact ⟨p :: ps, by simp [toPyL, e1, e2], by simp [PyData.depthAll, depL, d1, d2], by simp [PyData.canLayAll0, l1, l2]⟩
end
mutual
theorem Rp.dp : ∀ {d : D} {v : V} {p : PyData}, Rp K H C v d → toPy d = some p → Dp K H v p
  | .non, _, _, h, e => by cases h; cases e; exact .non
  | .bl b, _, _, h, e => by cases h; cases e; exact .bl b
  | .int i, _, _, h, e => by cases h; cases e; exact .int i
  | .str x, _, _, h, e => by cases h; cases e; exact .str x
  | .tup ds, _, _, h, e => by
    cases h with
    | tup h1 h2 _ =>
      simp only [toPy] at e
      cases q : toPyL ds with
      | none => rw [q] at e; cases e
      | some ps =>
        rw [q] at e
        cases e
        exact .tup h1 (Rps.dp h2 q)
  | .lst ds, _, _, h, e => by
    cases h with
    | lst h1 h2 h3 h4 _ =>
      simp only [toPy] at e
      cases q : toPyL ds with
      | none => rw [q] at e; cases e
      | some ps =>
        rw [q] at e
        cases e
        exact .lst (SqL.of h1) (Rps.dp h4 q)
  | .ref _, _, _, h, e => by cases e
  | .clo _ _, _, _, h, e => by cases e
  | .scr _, _, _, h, e => by cases e
theorem Rps.dp : ∀ {ds : List D} {vs : List V} {ps : List PyData}, Rps K H C vs ds → toPyL ds = some ps → DpAll K H vs ps
  | [], _, _, h, e => by cases h; cases e; exact .nil
  | d :: ds, _, ps, h, e => by
    cases h with
    | cons h1 h2 =>
      simp only [toPyL] at e
      cases q1 : toPy d with
      | none => rw [q1] at e; cases e
      | some p =>
        cases q2 : toPyL ds with
        | none => rw [q1, q2] at e; cases e
        | some ps' =>
          rw [q1, q2] at e
          cases e
          exact .cons (Rp.dp h1 q1) (Rps.dp h2 q2)
end
mutual
theorem eqv_py : ∀ (x y : D) {p q : PyData}, toPy x = some p → toPy y = some q → PyData.eqv p q = eqv x y
  | .non, y, p, q, e, f => by
    cases e
    cases y <;> simp only [toPy, Option.map_eq_some_iff] at f <;> first | (cases f; done) | (cases f; simp [PyData.eqv, eqv, Bool.beq_eq_decide_eq]; done) | (obtain ⟨_, _, rfl⟩ := f; simp [PyData.eqv, eqv]; done)
  | .bl b, y, p, q, e, f => by
    cases e
    cases y <;> simp only [toPy, Option.map_eq_some_iff] at f <;> first | (cases f; done) | (cases f; simp [PyData.eqv, eqv, Bool.beq_eq_decide_eq]; done) | (obtain ⟨_, _, rfl⟩ := f; simp [PyData.eqv, eqv]; done)
  | .int i, y, p, q, e, f => by
    cases e
    cases y <;> simp only [toPy, Option.map_eq_some_iff] at f <;> first | (cases f; done) | (cases f; simp [PyData.eqv, eqv, Bool.beq_eq_decide_eq]; done) | (obtain ⟨_, _, rfl⟩ := f; simp [PyData.eqv, eqv]; done)
  | .str s, y, p, q, e, f => by
    cases e
    cases y <;> simp only [toPy, Option.map_eq_some_iff] at f <;> first | (cases f; done) | (cases f; simp [PyData.eqv, eqv, Bool.beq_eq_decide_eq]; done) | (cases f; simp [PyData.eqv, eqv, Bool.beq_eq_decide_eq]; done) | (obtain ⟨_, _, rfl⟩ := f; simp [PyData.eqv, eqv]; done)
  | .tup xs, y, p, q, e, f => by
    simp only [toPy, Option.map_eq_some_iff] at e
    obtain ⟨ps, e1, rfl⟩ := e
    cases y with
    | tup ys =>
      simp only [toPy, Option.map_eq_some_iff] at f
      obtain ⟨qs, f1, rfl⟩ := f
      simp only [PyData.eqv, eqv]
      exact eqvL_py xs ys e1 f1
    | lst ys => simp only [toPy, Option.map_eq_some_iff] at f; obtain ⟨_, _, rfl⟩ := f; simp [PyData.eqv, eqv]
    | _ => simp only [toPy] at f <;> first | (cases f; done) | (cases f; simp [PyData.eqv, eqv, Bool.beq_eq_decide_eq]; done)
  | .lst xs, y, p, q, e, f => by
    simp only [toPy, Option.map_eq_some_iff] at e
    obtain ⟨ps, e1, rfl⟩ := e
    cases y with
    | lst ys =>
      simp only [toPy, Option.map_eq_some_iff] at f
      obtain ⟨qs, f1, rfl⟩ := f
      simp only [PyData.eqv, eqv]
      exact eqvL_py xs ys e1 f1
    | tup ys => simp only [toPy, Option.map_eq_some_iff] at f; obtain ⟨_, _, rfl⟩ := f; simp [PyData.eqv, eqv]
    | _ => simp only [toPy] at f <;> first | (cases f; done) | (cases f; simp [PyData.eqv, eqv, Bool.beq_eq_decide_eq]; done)
  | .ref _, _, _, _, e, _ => by cases e
  | .clo _ _, _, _, _, e, _ => by cases e
  | .scr _, _, _, _, e, _ => by cases e
theorem eqvL_py : ∀ (xs ys : List D) {ps qs : List PyData}, toPyL xs = some ps → toPyL ys = some qs → PyData.eqvAll ps qs = eqvL xs ys
  | [], ys, ps, qs, e, f => by
    cases e
    cases ys with
    | nil => cases f; simp [PyData.eqvAll, eqvL]
    | cons y ys =>
      simp only [toPyL] at f
      split at f
      · cases f; simp [PyData.eqvAll, eqvL]
      · cases f
  | x :: xs, ys, ps, qs, e, f => by
    simp only [toPyL] at e
    split at e
    · rename_i p ps' e1 e2
      cases e
      cases ys with
      | nil => cases f; simp [PyData.eqvAll, eqvL]
      | cons y ys =>
        simp only [toPyL] at f
        split at f
        · rename_i q qs' f1 f2
          cases f
          simp only [PyData.eqvAll, eqvL]
          rw [eqv_py x y e1 f1, eqvL_py xs ys e2 f2]
        · cases f
    · cases e
end
end
end Mi
/-! Mini's state in the heap; readings. -/
namespace Mi
open PySem PySem.Spec PyProof.Rows L2

/-- what a step may do: data stays, cells stay in their places, hidden objects stay -/
structure Ext (K : PySem.W.Frag) (H : Hp) (C : Ctx) (H' : Hp) (C' : Ctx) : Prop where
  hid : C'.hid = C.hid
  pre : ∃ l : List Addr, C'.mm = C.mm ++ l
  rp : ∀ d v, Rp K H C v d → Rp K H' C' v d
  keep : ∀ a o, a ∈ C.hid → H a = some o → H' a = some o
inductive CellR (K : PySem.W.Frag) (H : Hp) (C : Ctx) (a : Addr) : Cell → Prop
  | lst {vs : List V} {ds : List D} : H a = some (.lst vs) → Rps K H C vs ds → ds.length ≤ sizeLine → CellR K H C a (.lst ds)
structure StoreR (K : PySem.W.Frag) (H : Hp) (C : Ctx) (μ : Store) : Prop where
  len : C.mm.length = μ.length
  nodup : C.mm.Nodup
  apart : ∀ a ∈ C.mm, a ∉ C.hid
  there : ∀ a ∈ C.hid, H a ≠ none
  cells : ∀ (k : Nat) (a : Addr) (c : Cell), C.mm[k]? = some a → μ[k]? = some c → CellR K H C a c
structure StR (K : PySem.W.Frag) (σ : L2.St) (H : Hp) (C : Ctx) (ρ : Env) (μ : Store) : Prop where
  slots : ∀ i d, look ρ i = some d → ∃ v, σ[i]? = some (some v) ∧ Rp K H C v d
  len : ρ.length = σ.length
  store : StoreR K H C μ

section
variable {K : PySem.W.Frag} {H H' H'' : Hp} {C C' C'' : Ctx} {μ μ' : Store} {ρ : Env} {σ : L2.St}
theorem Ext.refl : Ext K H C H C := ⟨rfl, ⟨[], by simp⟩, fun _ _ h => h, fun _ _ _ h => h⟩
theorem Ext.trans (a : Ext K H C H' C') (b : Ext K H' C' H'' C'') : Ext K H C H'' C'' := by
  refine ⟨b.hid.trans a.hid, ?_, fun d v h => b.rp d v (a.rp d v h), fun x o hx h => b.keep x o (by rw [a.hid]; exact hx) (a.keep x o hx h)⟩
  obtain ⟨l, e⟩ := a.pre
  obtain ⟨m, e'⟩ := b.pre
  exact ⟨l ++ m, by rw [e', e, List.append_assoc]⟩
theorem Ext.rps (a : Ext K H C H' C') : ∀ {ds : List D} {vs : List V}, Rps K H C vs ds → Rps K H' C' vs ds
  | [], _, h => by cases h; exact .nil
  | d :: ds, _, h => by
    cases h with
    | cons h1 h2 => exact .cons (a.rp _ _ h1) (Ext.rps a h2)
theorem CellR.lt {a : Addr} {c : Cell} (h : CellR K H C a c) : H a ≠ none := by
  cases h with
  | lst h _ _ => rw [h]; simp
theorem StoreR.get (S : StoreR K H C μ) {a : Addr} (ha : a ∈ C.mm) : ∃ (k : Nat) (c : Cell), C.mm[k]? = some a ∧ μ[k]? = some c ∧ CellR K H C a c := by
  obtain ⟨k, hk, e⟩ := List.mem_iff_getElem.mp ha
  have h1 : k < μ.length := by rw [← S.len]; exact hk
  have e1 : C.mm[k]? = some a := by rw [List.getElem?_eq_getElem hk, e]
  have e2 : μ[k]? = some μ[k] := List.getElem?_eq_getElem h1
  exact ⟨k, _, e1, e2, S.cells k a _ e1 e2⟩
theorem StoreR.not_mm (S : StoreR K H C μ) {a : Addr} (h : H a = none) : a ∉ C.mm := fun ha => by
  obtain ⟨_, _, _, _, r⟩ := S.get ha
  exact r.lt h
theorem StoreR.not_hid (S : StoreR K H C μ) {a : Addr} (h : H a = none) : a ∉ C.hid := fun ha => S.there a ha h
theorem sqT_upd {a p : Addr} {o : HO} {vs : List V} (h : SqT K H a vs) (hp : H p = none) : SqT K (L2.upd H p o) a vs := by
  rcases h with (h | ⟨ob, h⟩) | h
  · exact .inl (.inl (by rw [upd_ne (ne_of_none h hp)]; exact h))
  · exact .inl (.inr ⟨ob, by rw [upd_ne (ne_of_none h hp)]; exact h⟩)
  · exact .inr h
theorem sqL_upd {a p : Addr} {o : HO} {vs : List V} (h : SqL K H a vs) (hp : H p = none) : SqL K (L2.upd H p o) a vs := by
  rcases h with (h | ⟨ob, h⟩) | h
  · exact .inl (.inl (by rw [upd_ne (ne_of_none h hp)]; exact h))
  · exact .inl (.inr ⟨ob, by rw [upd_ne (ne_of_none h hp)]; exact h⟩)
  · exact .inr h
theorem scr_upd {a p : Addr} {o : HO} {xs : List Int} (h : ScrAt K H a xs) (hp : H p = none) : ScrAt K (L2.upd H p o) a xs := by
  rcases h with ⟨ob, h⟩ | h
  · exact .inl ⟨ob, by rw [upd_ne (ne_of_none h hp)]; exact h⟩
  · exact .inr h
/-- a new object -/
theorem Ext.new {p : Addr} {o : HO} (hp : H p = none) : Ext K H C (L2.upd H p o) C := by
  refine ⟨rfl, ⟨[], by simp⟩, fun d v h => Rp.keep ⟨fun a vs t => sqT_upd t hp, fun a vs e h1 h2 => ⟨by rw [upd_ne (ne_of_none e hp)]; exact e, h1, h2⟩, fun _ _ e => e, fun a vs e => scr_upd e hp⟩ h, fun a u _ e => by rw [upd_ne (ne_of_none e hp)]; exact e⟩
theorem Rps.new {p : Addr} {o : HO} (hp : H p = none) {vs : List V} {ds : List D} (h : Rps K H C vs ds) : Rps K (L2.upd H p o) C vs ds := (Ext.new hp).rps h
theorem StoreR.new (S : StoreR K H C μ) {p : Addr} {o : HO} (hp : H p = none) : StoreR K (L2.upd H p o) C μ := by
  refine ⟨S.len, S.nodup, S.apart, fun a ha => ?_, fun k a c e1 e2 => ?_⟩
  · by_cases h : a = p
    · rw [h, upd_same]; simp
    · rw [upd_ne h]; exact S.there a ha
  · cases S.cells k a c e1 e2 with
    | lst h r z => exact .lst (by rw [upd_ne (ne_of_none h hp)]; exact h) (Rps.new hp r) z
/-- a new list by value -/
theorem Rp.newL (S : StoreR K H C μ) {p : Addr} (hp : H p = none) {vs : List V} {ds : List D} (h : Rps K H C vs ds) (z : ds.length ≤ sizeLine) : Rp K (L2.upd H p (.lst vs)) C (.ref p) (.lst ds) :=
  .lst upd_same (S.not_mm hp) (S.not_hid hp) (Rps.new hp h) z
theorem Rp.newT {p : Addr} (hp : H p = none) {vs : List V} {ds : List D} (h : Rps K H C vs ds) (z : ds.length ≤ sizeLine) : Rp K (L2.upd H p (.tup vs)) C (.ref p) (.tup ds) :=
  .tup (SqT.of upd_same) (Rps.new hp h) z
/-- a new cell -/
theorem Ext.cell {p : Addr} {o : HO} (hp : H p = none) : Ext K H C (L2.upd H p o) ⟨C.mm ++ [p], C.hid⟩ := by
  refine ⟨rfl, ⟨[p], rfl⟩, fun d v h => Rp.keep (C := C) (C' := ⟨C.mm ++ [p], C.hid⟩) (H := H) ⟨fun a vs t => sqT_upd t hp, fun a vs e h1 h2 => ⟨by rw [upd_ne (ne_of_none e hp)]; exact e, ?_, h2⟩, fun k a e => ?_, fun a vs e => scr_upd e hp⟩ h, fun a u _ e => by rw [upd_ne (ne_of_none e hp)]; exact e⟩
  · intro hm
    rcases List.mem_append.mp hm with z | z
    · exact h1 z
    · have : a = p := by simpa using z
      rw [this, hp] at e
      cases e
  · show (C.mm ++ [p])[k]? = some a
    rw [List.getElem?_append_left (List.getElem?_eq_some_iff.mp e).1]
    exact e
theorem StoreR.cell (S : StoreR K H C μ) {p : Addr} (hp : H p = none) {vs : List V} {ds : List D} (h : Rps K H C vs ds) (z : ds.length ≤ sizeLine) : StoreR K (L2.upd H p (.lst vs)) ⟨C.mm ++ [p], C.hid⟩ (μ ++ [.lst ds]) := by
  have E := Ext.cell (K := K) (C := C) (o := .lst vs) hp
  refine ⟨by simp [S.len], ?_, fun a ha => ?_, fun a ha => ?_, fun k a c e1 e2 => ?_⟩
  · rw [List.nodup_append]
    refine ⟨S.nodup, by simp, fun a ha b hb => ?_⟩
    have : b = p := by simpa using hb
    rw [this]
    exact fun z => S.not_mm hp (z ▸ ha)
  · rcases List.mem_append.mp ha with z | z
    · exact S.apart a z
    · have : a = p := by simpa using z
      rw [this]
      exact S.not_hid hp
  · by_cases h : a = p
    · rw [h, upd_same]; simp
    · rw [upd_ne h]; exact S.there a ha
  · by_cases hk : k < C.mm.length
    · rw [List.getElem?_append_left hk] at e1
      rw [List.getElem?_append_left (by rw [← S.len]; exact hk)] at e2
      cases S.cells k a c e1 e2 with
      | lst h' r z => exact .lst (by rw [upd_ne (ne_of_none h' hp)]; exact h') (E.rps r) z
    · have hk' : k = C.mm.length := by
        have := (List.getElem?_eq_some_iff.mp e1).1
        simp at this
        omega
      subst hk'
      rw [List.getElem?_append_right (Nat.le_refl _)] at e1
      rw [List.getElem?_append_right (by rw [S.len]; exact Nat.le_refl _)] at e2
      simp only [Nat.sub_self, List.getElem?_cons_zero, Option.some.injEq] at e1
      rw [S.len] at e2
      simp only [Nat.sub_self, List.getElem?_cons_zero, Option.some.injEq] at e2
      subst e1 e2
      exact .lst upd_same (E.rps h) z
/-- a cell is written -/
theorem Ext.put (S : StoreR K H C μ) {k : Nat} {a : Addr} {vs ws : List V} (hk : C.mm[k]? = some a) (ha : H a = some (.lst vs)) : Ext K H C (L2.upd H a (.lst ws)) C := by
  have hm : a ∈ C.mm := List.mem_of_getElem? hk
  refine ⟨rfl, ⟨[], by simp⟩, fun d v h => Rp.keep (C := C) (C' := C) (H := H) ⟨fun b us t => ?_, fun b us e h1 h2 => ⟨?_, h1, h2⟩, fun _ _ e => e, fun b us e => ?_⟩ h, fun b u hb e => ?_⟩
  · rcases t with (t | ⟨ob, t⟩) | t
    · exact .inl (.inl (by rw [upd_ne (ne_of t ha (by intro z; cases z))]; exact t))
    · exact .inl (.inr ⟨ob, by rw [upd_ne (ne_of t ha (by intro z; cases z))]; exact t⟩)
    · exact .inr t
  · have hn : b ≠ a := by
      rintro rfl
      exact h1 hm
    rw [upd_ne hn]
    exact e
  · rcases e with ⟨ob, e⟩ | e
    · exact .inl ⟨ob, by rw [upd_ne (ne_of e ha (by intro z; cases z))]; exact e⟩
    · exact .inr e
  · have hn : b ≠ a := by
      rintro rfl
      exact S.apart _ hm hb
    rw [upd_ne hn]
    exact e
theorem StoreR.put (S : StoreR K H C μ) {k : Nat} {a : Addr} {vs ws : List V} {es : List D} (hk : C.mm[k]? = some a) (ha : H a = some (.lst vs)) (h : Rps K H C ws es) (z : es.length ≤ sizeLine) : StoreR K (L2.upd H a (.lst ws)) C (μ.set k (.lst es)) := by
  have E := Ext.put S (ws := ws) hk ha
  refine ⟨by simp [S.len], S.nodup, S.apart, fun b hb => ?_, fun j b c e1 e2 => ?_⟩
  · by_cases z : b = a
    · rw [z, upd_same]; simp
    · rw [upd_ne z]; exact S.there b hb
  · by_cases hj : j = k
    · subst hj
      rw [hk] at e1
      cases e1
      have hl : j < μ.length := by rw [← S.len]; exact (List.getElem?_eq_some_iff.mp hk).1
      rw [List.getElem?_set_self hl] at e2
      cases e2
      exact .lst upd_same (E.rps h) z
    · rw [List.getElem?_set_ne (Ne.symm hj)] at e2
      have hne : b ≠ a := fun z => by
        subst z
        obtain ⟨h1, e1'⟩ := List.getElem?_eq_some_iff.mp e1
        obtain ⟨h2, e2'⟩ := List.getElem?_eq_some_iff.mp hk
        exact hj ((List.getElem_inj S.nodup).mp (e1'.trans e2'.symm))
      cases S.cells j b c e1 e2 with
      | lst h' r z => exact .lst (by rw [upd_ne hne]; exact h') (E.rps r) z
theorem view_rp (S : StoreR K H C μ) {d : D} {v : V} (h : Rp K H C v d) : (∃ k ds a vs, d = .ref k ∧ view μ d = .lst ds ∧ v = .ref a ∧ C.mm[k]? = some a ∧ μ[k]? = some (.lst ds) ∧ H a = some (.lst vs) ∧ Rps K H C vs ds ∧ ds.length ≤ sizeLine) ∨ (view μ d = d) := by
  cases d with
  | ref k =>
    cases h with
    | ref hk =>
      rename_i a
      have hl : k < μ.length := by rw [← S.len]; exact (List.getElem?_eq_some_iff.mp hk).1
      have e : μ[k]? = some μ[k] := List.getElem?_eq_getElem hl
      have r := S.cells k a _ hk e
      cases q : μ[k] with
      | lst ds =>
        rw [q] at r e
        cases r with
        | lst h1 h2 h3 => exact .inl ⟨k, ds, _, _, rfl, by simp [view, e], rfl, hk, e, h1, h2, h3⟩
      | dic _ => rw [q] at e; exact .inr (by simp [view, e])
      | ins _ _ => rw [q] at e; exact .inr (by simp [view, e])
  | _ => exact .inr rfl
/-- data by value, whether a cell or not: a list -/
theorem view_lst (S : StoreR K H C μ) {d : D} {v : V} {ds : List D} (h : Rp K H C v d) (e : view μ d = .lst ds) : ∃ a vs, v = .ref a ∧ H a = some (.lst vs) ∧ Rps K H C vs ds ∧ ds.length ≤ sizeLine := by
  rcases view_rp S h with ⟨k, es, a, vs, _, e', hv, _, _, ha, r⟩ | e'
  · rw [e'] at e
    cases e
    exact ⟨a, vs, hv, ha, r⟩
  · rw [e'] at e
    subst e
    cases h with
    | lst h1 _ _ h4 h5 => exact ⟨_, _, rfl, h1, h4, h5⟩
theorem view_id (S : StoreR K H C μ) {d e : D} {v : V} (h : Rp K H C v d) (q : view μ d = e) (n : ∀ ds, e ≠ .lst ds) : d = e := by
  rcases view_rp S h with ⟨_, ds, _, _, _, e', _⟩ | e'
  · rw [e'] at q
    exact (n _ q.symm).elim
  · rw [← q, e']
theorem view_tup (S : StoreR K H C μ) {d : D} {v : V} {ds : List D} (h : Rp K H C v d) (e : view μ d = .tup ds) : ∃ a vs, v = .ref a ∧ SqT K H a vs ∧ Rps K H C vs ds ∧ ds.length ≤ sizeLine := by
  have := view_id S h e (fun _ z => by cases z)
  subst this
  cases h with
  | tup h1 h2 h3 => exact ⟨_, _, rfl, h1, h2, h3⟩
theorem view_int (S : StoreR K H C μ) {d : D} {v : V} {i : Int} (h : Rp K H C v d) (e : view μ d = .int i) : v = .int i := by
  have := view_id S h e (fun _ z => by cases z)
  subst this
  cases h
  rfl
theorem view_bl (S : StoreR K H C μ) {d : D} {v : V} {i : Bool} (h : Rp K H C v d) (e : view μ d = .bl i) : v = .bl i := by
  have := view_id S h e (fun _ z => by cases z)
  subst this
  cases h
  rfl
theorem view_str (S : StoreR K H C μ) {d : D} {v : V} {i : Str} (h : Rp K H C v d) (e : view μ d = .str i) : v = .str i ∧ PyData.strOk i = true := by
  have := view_id S h e (fun _ z => by cases z)
  subst this
  cases h
  exact ⟨rfl, by assumption⟩
theorem view_non (S : StoreR K H C μ) {d : D} {v : V} (h : Rp K H C v d) (e : view μ d = .non) : v = .non := by
  have := view_id S h e (fun _ z => by cases z)
  subst this
  cases h
  rfl
/-- .. as data of the model -/
theorem view_dp (S : StoreR K H C μ) {d : D} {v : V} (h : Rp K H C v d) (f : flat (view μ d) = true) : ∃ p, toPy (view μ d) = some p ∧ Dp K H v p ∧ p.depth = dep (view μ d) ∧ p.canLay0 = true := by
  rcases view_rp S h with ⟨k, es, a, vs, _, e', hv, _, _, ha, r, _⟩ | e'
  · rw [e'] at f ⊢
    obtain ⟨ps, e1, e2, e3⟩ := toPyL_flat es r (by simpa [flat] using f)
    subst hv
    exact ⟨.list ps, by simp [toPy, e1], .lst (SqL.of ha) (Rps.dp r e1), by simp [PyData.depth, dep, e2], by simpa [PyData.canLay0] using e3⟩
  · rw [e'] at f ⊢
    obtain ⟨p, e1, e2, e3⟩ := toPy_flat d h f
    exact ⟨p, e1, Rp.dp h e1, e2, e3⟩
end
end Mi
/-! Mini's readings; operators. -/
namespace Mi
open PySem PySem.Spec PyProof.Rows L2

/-- what is wanted of an exception -/
abbrev Wish := Ex → Store → Hp → Ctx → Prop
def PostE (K : PySem.W.Frag) (W : Wish) (H : Hp) (C : Ctx) (o : Out D) (Q : VK) : Prop :=
  match o with
  | .ok d μ' => ∀ v H' C', Ext K H C H' C' → StoreR K H' C' μ' → Rp K H' C' v d → Q v H'
  | .err e μ' => ∀ H' C', Ext K H C H' C' → StoreR K H' C' μ' → W e μ' H' C'
  | .bad => False
def PostB (K : PySem.W.Frag) (W : Wish) (H : Hp) (C : Ctx) (o : Out Bool) (Q : Bool → Hp → Prop) : Prop :=
  match o with
  | .ok d μ' => ∀ H' C', Ext K H C H' C' → StoreR K H' C' μ' → Q d H'
  | .err e μ' => ∀ H' C', Ext K H C H' C' → StoreR K H' C' μ' → W e μ' H' C'
  | .bad => False
def PostL (K : PySem.W.Frag) (W : Wish) (H : Hp) (C : Ctx) (o : Out (List D)) (Q : List V → Hp → Prop) : Prop :=
  match o with
  | .ok d μ' => ∀ v H' C', Ext K H C H' C' → StoreR K H' C' μ' → Rps K H' C' v d → Q v H'
  | .err e μ' => ∀ H' C', Ext K H C H' C' → StoreR K H' C' μ' → W e μ' H' C'
  | .bad => False
section
variable {K : PySem.W.Frag} {W : Wish} {H H' : Hp} {C C' : Ctx}
theorem PostE.ext {o : Out D} {Q : VK} (h : PostE K W H C o Q) (e : Ext K H C H' C') : PostE K W H' C' o Q := by
  cases o with
  | ok d μ => exact fun v H2 C2 x S r => h v H2 C2 (e.trans x) S r
  | err x μ => exact fun H2 C2 x S => h H2 C2 (e.trans x) S
  | bad => exact h
theorem PostB.ext {o : Out Bool} {Q : Bool → Hp → Prop} (h : PostB K W H C o Q) (e : Ext K H C H' C') : PostB K W H' C' o Q := by
  cases o with
  | ok d μ => exact fun H2 C2 x S => h H2 C2 (e.trans x) S
  | err x μ => exact fun H2 C2 x S => h H2 C2 (e.trans x) S
  | bad => exact h
theorem PostL.ext {o : Out (List D)} {Q : List V → Hp → Prop} (h : PostL K W H C o Q) (e : Ext K H C H' C') : PostL K W H' C' o Q := by
  cases o with
  | ok d μ => exact fun v H2 C2 x S r => h v H2 C2 (e.trans x) S r
  | err x μ => exact fun H2 C2 x S => h H2 C2 (e.trans x) S
  | bad => exact h
/-- the outcome stands at once -/
theorem PostE.at {d : D} {μ : Store} {Q : VK} {v : V} (h : PostE K W H C (.ok d μ) Q) (S : StoreR K H C μ) (r : Rp K H C v d) : Q v H := h v H C Ext.refl S r
theorem StR.ext {σ : L2.St} {ρ : Env} {μ μ' : Store} (S : StR K σ H C ρ μ) (e : Ext K H C H' C') (T : StoreR K H' C' μ') : StR K σ H' C' ρ μ' :=
  ⟨fun i d h => let ⟨v, a, r⟩ := S.slots i d h; ⟨v, a, e.rp _ _ r⟩, S.len, T⟩
end
/-- readings of Mini's expressions -/
def tE (K : PySem.W.Frag) (W : Wish) (G : Glo) (m : ME) : TE := fun σ H Q => ∃ C ρ μ, StR K σ H C ρ μ ∧ PostE K W H C (evE G m ρ μ) Q
def tT (K : PySem.W.Frag) (W : Wish) (G : Glo) (m : ME) : TT := fun σ H Q => ∃ C ρ μ, StR K σ H C ρ μ ∧ PostB K W H C ((evE G m ρ μ).bind asBool) Q
def tL (K : PySem.W.Frag) (W : Wish) (G : Glo) (ms : List ME) : TA := fun σ H Q => ∃ C ρ μ, StR K σ H C ρ μ ∧ PostL K W H C (evEs G ms ρ μ) Q
section
variable {X : Cx} {K : PySem.W.Frag} {W : Wish} {G : Glo} {m : ME} {ms : List ME} {a : Expr} {es : List Expr} {pins : List (Addr × Obj)} {s : Shared} {σ : L2.St} {H : Hp} {C : Ctx} {ρ : Env} {μ : Store}
/-- an expression runs, then the rest -/
theorem goE {β : Type} {R : Value → Shared → Prop} {f : D → Store → Out β} {P : Hp → Ctx → Out β → Prop} (ha : PE X a (tE K W G m)) (I : Inv X pins σ H s) (S : StR K σ H C ρ μ)
    (h : P H C ((evE G m ρ μ).bind f)) (hb : ∀ H C, P H C .bad → False) (he : ∀ H C H' C' e μ', P H C (.err e μ') → Ext K H C H' C' → StoreR K H' C' μ' → W e μ' H' C') (hx : ∀ H C H' C' o, P H C o → Ext K H C H' C' → P H' C' o)
    (k : ∀ d μ1 v s1 x H1 C1, Inv X pins σ H1 s1 → RelV x v → Rp K H1 C1 x d → StR K σ H1 C1 ρ μ1 → Ext K H C H1 C1 → P H1 C1 (f d μ1) → R v s1) :
    wpAny (model X.prog X.w) X.A (eval a X.env) R X.xe s := by
  cases q : evE G m ρ μ with
  | ok d μ1 =>
    rw [q] at h
    refine thn (ha.run pins s σ H (fun x H1 => ∃ C1, Ext K H C H1 C1 ∧ StoreR K H1 C1 μ1 ∧ Rp K H1 C1 x d) I ⟨C, ρ, μ, S, ?_⟩) fun v s1 ⟨x, H1, I1, r1, C1, e1, S1, p1⟩ => ?_
    · rw [q]
      exact fun v H' C' e S' r => ⟨C', e, S', r⟩
    · exact k d μ1 v s1 x H1 C1 I1 r1 p1 (S.ext e1 S1) e1 (hx _ _ _ _ _ h e1)
  | err x μ1 =>
    rw [q] at h
    refine thn (ha.run pins s σ H (fun _ _ => False) I ⟨C, ρ, μ, S, ?_⟩) fun v s1 ⟨_, _, _, _, z⟩ => z.elim
    rw [q]
    exact fun H' C' e S' => he _ _ _ _ _ _ h e S'
  | bad =>
    rw [q] at h
    exact (hb _ _ h).elim
theorem goEE {R : Value → Shared → Prop} {f : D → Store → Out D} {Q : VK} (ha : PE X a (tE K W G m)) (I : Inv X pins σ H s) (S : StR K σ H C ρ μ) (h : PostE K W H C ((evE G m ρ μ).bind f) Q)
    (k : ∀ d μ1 v s1 x H1 C1, Inv X pins σ H1 s1 → RelV x v → Rp K H1 C1 x d → StR K σ H1 C1 ρ μ1 → Ext K H C H1 C1 → PostE K W H1 C1 (f d μ1) Q → R v s1) :
    wpAny (model X.prog X.w) X.A (eval a X.env) R X.xe s :=
  goE (P := fun H C o => PostE K W H C o Q) ha I S h (fun _ _ z => z) (fun _ _ _ _ _ _ h e S => h _ _ e S) (fun _ _ _ _ _ h e => h.ext e) k
theorem goEB {R : Value → Shared → Prop} {f : D → Store → Out Bool} {Q : Bool → Hp → Prop} (ha : PE X a (tE K W G m)) (I : Inv X pins σ H s) (S : StR K σ H C ρ μ) (h : PostB K W H C ((evE G m ρ μ).bind f) Q)
    (k : ∀ d μ1 v s1 x H1 C1, Inv X pins σ H1 s1 → RelV x v → Rp K H1 C1 x d → StR K σ H1 C1 ρ μ1 → Ext K H C H1 C1 → PostB K W H1 C1 (f d μ1) Q → R v s1) :
    wpAny (model X.prog X.w) X.A (eval a X.env) R X.xe s :=
  goE (P := fun H C o => PostB K W H C o Q) ha I S h (fun _ _ z => z) (fun _ _ _ _ _ _ h e S => h _ _ e S) (fun _ _ _ _ _ h e => h.ext e) k
theorem goEL {R : Value → Shared → Prop} {f : D → Store → Out (List D)} {Q : List V → Hp → Prop} (ha : PE X a (tE K W G m)) (I : Inv X pins σ H s) (S : StR K σ H C ρ μ) (h : PostL K W H C ((evE G m ρ μ).bind f) Q)
    (k : ∀ d μ1 v s1 x H1 C1, Inv X pins σ H1 s1 → RelV x v → Rp K H1 C1 x d → StR K σ H1 C1 ρ μ1 → Ext K H C H1 C1 → PostL K W H1 C1 (f d μ1) Q → R v s1) :
    wpAny (model X.prog X.w) X.A (eval a X.env) R X.xe s :=
  goE (P := fun H C o => PostL K W H C o Q) ha I S h (fun _ _ z => z) (fun _ _ _ _ _ _ h e S => h _ _ e S) (fun _ _ _ _ _ h e => h.ext e) k
theorem bind_of_some {α β : Type} {o : Option α} {a : α} {μ : Store} {f : α → Store → Out β} (h : o = some a) : (Out.of o μ).bind f = f a μ := by rw [h]; rfl

/-! ### two-place operators -/
def OpS (X : Cx) (K : PySem.W.Frag) (W : Wish) (f : Value → Value → Sem Value) (F : D → D → Store → Out D) : Prop :=
  ∀ (pins : List (Addr × Obj)) (s : Shared) (σ : L2.St) (H : Hp) (C : Ctx) (μ : Store) (x y : V) (dx dy : D) (v u : Value) (Q : VK), Inv X pins σ H s → StoreR K H C μ → Rp K H C x dx → Rp K H C y dy → RelV x v → RelV y u →
    PostE K W H C (F dx dy μ) Q → wpAny (model X.prog X.w) X.A (f v u) (EP X pins σ Q) X.xe s
theorem pe_bin {op : Operator} {F : D → D → Store → Out D} {b : Expr} {ma mb : ME} {pos : Pos} (hK : X.K = K) (ho : OpS X K W (binaryOp op) F) (ha : PE X a (tE K W G ma)) (hb : PE X b (tE K W G mb))
    (e : ∀ ρ μ, evE G m ρ μ = (evE G ma ρ μ).bind fun x μ1 => (evE G mb ρ μ1).bind fun y μ2 => F x y μ2) : PE X (.BinOp a op b pos) (tE K W G m) := by
  refine ⟨fun pins s σ H Q I ⟨C, ρ, μ, S, P⟩ => ?_⟩
  rw [e] at P
  refine wpAny_BinOp (goEE ha I S P fun d μ1 v s1 x H1 C1 I1 r1 p1 S1 e1 P1 => ?_)
  refine goEE hb I1 S1 P1 fun d2 μ2 u s2 y H2 C2 I2 r2 p2 S2 e2 P2 => ?_
  exact ho pins s2 σ H2 C2 μ2 x y d d2 v u Q I2 S2.store (e2.rp _ _ p1) p2 r1 r2 P2
theorem pe_cmpS {op : CmpOp} {F : D → D → Store → Out D} {b : Expr} {ma mb : ME} {pos : Pos} (hK : X.K = K) (ho : OpS X K W (compareOp op) F) (ha : PE X a (tE K W G ma)) (hb : PE X b (tE K W G mb)) (hm : behindInMarks op b = false)
    (e : ∀ ρ μ, evE G m ρ μ = (evE G ma ρ μ).bind fun x μ1 => (evE G mb ρ μ1).bind fun y μ2 => F x y μ2) : PE X (.Compare a [op] [b] pos) (tE K W G m) := by
  refine ⟨fun pins s σ H Q I ⟨C, ρ, μ, S, P⟩ => ?_⟩
  rw [e] at P
  refine wpAny_Compare1 (goEE ha I S P fun d μ1 v s1 x H1 C1 I1 r1 p1 S1 e1 P1 => ?_) hm
  refine goEE hb I1 S1 P1 fun d2 μ2 u s2 y H2 C2 I2 r2 p2 S2 e2 P2 => ?_
  exact ho pins s2 σ H2 C2 μ2 x y d d2 v u Q I2 S2.store (e2.rp _ _ p1) p2 r1 r2 P2
theorem big_eq : big = sizeLine := by rw [sizeLine_eq]; rfl
theorem PostE.val {d : D} {μ : Store} {Q : VK} (h : PostE K W H C (Out.of (some d) μ) Q) (S : StoreR K H C μ) {v : V} (r : Rp K H C v d) : Q v H := h v H C Ext.refl S r
theorem PostE.newT {ds : List D} {vs : List V} {μ : Store} {Q : VK} (h : PostE K W H C (Out.of (some (.tup ds)) μ) Q) (S : StoreR K H C μ) (r : Rps K H C vs ds) (z : ds.length ≤ sizeLine) {p : Addr} (hp : H p = none) : Q (.ref p) (upd H p (.tup vs)) :=
  h _ _ C (Ext.new hp) (S.new hp) (Rp.newT hp r z)
theorem PostE.newL {ds : List D} {vs : List V} {μ : Store} {Q : VK} (h : PostE K W H C (Out.of (some (.lst ds)) μ) Q) (S : StoreR K H C μ) (r : Rps K H C vs ds) (z : ds.length ≤ sizeLine) {p : Addr} (hp : H p = none) : Q (.ref p) (upd H p (.lst vs)) :=
  h _ _ C (Ext.new hp) (S.new hp) (Rp.newL S hp r z)
theorem op_add_bi : OpR X (binaryOp .Add) (fun x y H Q => ∃ (b : Bool) (j : Int), x = .bl b ∧ y = .int j ∧ Q (.int (b2i b + j)) H) := by
  intro pins s σ H x y v u Q I rx ry h
  obtain ⟨b, j, rfl, rfl, q⟩ := h
  cases rx
  obtain ⟨t, rfl⟩ := ry
  exact PySem.IntBool.add_bool_int ⟨.int _, H, I.tok _, ⟨_, rfl⟩, q⟩
theorem strOk_app {x y : Str} (hx : PyData.strOk x = true) (hy : PyData.strOk y = true) : PyData.strOk (x ++ y) = true := by
  unfold PyData.strOk at *
  show (x.cps ++ y.cps).all _ = true
  rw [Array.all_append, hx, hy]
  rfl
theorem sound_add (hK : X.K = K) : OpS X K W (binaryOp .Add) (fun x y μ => Out.of (binD .add (view μ x) (view μ y)) μ) := by
  subst hK
  intro pins s σ H C μ x y dx dy v u Q I S rx ry hx hy P
  dsimp only at P
  cases ex : view μ dx with
  | int i =>
    cases ey : view μ dy with
    | int j =>
      rw [ex, ey] at P
      exact op_add pins s σ H x y v u Q I hx hy ⟨i, j, view_int S rx ex, view_int S ry ey, P.val S (.int _)⟩
    | _ => rw [ex, ey] at P; exact P.elim
  | bl b =>
    cases ey : view μ dy with
    | int j =>
      rw [ex, ey] at P
      exact op_add_bi pins s σ H x y v u Q I hx hy ⟨b, j, view_bl S rx ex, view_int S ry ey, P.val S (.int _)⟩
    | _ => rw [ex, ey] at P; exact P.elim
  | str a =>
    cases ey : view μ dy with
    | str b =>
      rw [ex, ey] at P
      obtain ⟨e1, o1⟩ := view_str S rx ex
      obtain ⟨e2, o2⟩ := view_str S ry ey
      simp only [binD] at P
      split at P
      · rename_i hz
        exact op_add_str pins s σ H x y v u Q I hx hy ⟨a, b, e1, e2, by rw [← big_eq]; exact hz, P.val S (.str _ (strOk_app o1 o2))⟩
      · exact P.elim
    | _ => rw [ex, ey] at P; exact P.elim
  | tup as =>
    cases ey : view μ dy with
    | tup bs =>
      rw [ex, ey] at P
      obtain ⟨a, vs, e1, q1, r1, z1⟩ := view_tup S rx ex
      obtain ⟨b, ws, e2, q2, r2, z2⟩ := view_tup S ry ey
      simp only [binD] at P
      split at P
      · rename_i hz
        refine op_catA pins s σ H x y v u Q I hx hy ⟨a, b, vs, ws, e1, e2, q1, q2, by rw [r1.length, r2.length, ← big_eq]; exact hz, fun z => ?_, fun _ z => ?_, fun _ _ p hp => P.newT S (r1.append r2) (by rw [List.length_append, ← big_eq]; exact hz) hp⟩
        · subst z
          cases r1
          exact P.val S (.tup q2 r2 z2)
        · subst z
          cases r2
          rw [List.append_nil] at P
          exact P.val S (.tup q1 r1 z1)
      · exact P.elim
    | _ => rw [ex, ey] at P; exact P.elim
  | lst as =>
    cases ey : view μ dy with
    | lst bs =>
      rw [ex, ey] at P
      obtain ⟨a, vs, e1, q1, r1, z1⟩ := view_lst S rx ex
      obtain ⟨b, ws, e2, q2, r2, z2⟩ := view_lst S ry ey
      simp only [binD] at P
      split at P
      · rename_i hz
        exact op_cat pins s σ H x y v u Q I hx hy ⟨a, b, vs, ws, e1, e2, q1, q2, by rw [r1.length, r2.length, ← big_eq]; exact hz, fun p hp => P.newL S (r1.append r2) (by rw [List.length_append, ← big_eq]; exact hz) hp⟩
      · exact P.elim
    | _ => rw [ex, ey] at P; exact P.elim
  | _ => rw [ex] at P; exact P.elim
theorem sound_sub (hK : X.K = K) : OpS X K W (binaryOp .Sub) (fun x y μ => Out.of (binD .sub (view μ x) (view μ y)) μ) := by
  subst hK
  intro pins s σ H C μ x y dx dy v u Q I S rx ry hx hy P
  dsimp only at P
  cases ex : view μ dx with
  | int i =>
    cases ey : view μ dy with
    | int j =>
      rw [ex, ey] at P
      exact op_sub pins s σ H x y v u Q I hx hy ⟨i, j, view_int S rx ex, view_int S ry ey, P.val S (.int _)⟩
    | _ => rw [ex, ey] at P; exact P.elim
  | _ => rw [ex] at P; exact P.elim
theorem sound_fdiv (hK : X.K = K) : OpS X K W (binaryOp .FloorDiv) (fun x y μ => Out.of (binD .fdiv (view μ x) (view μ y)) μ) := by
  subst hK
  intro pins s σ H C μ x y dx dy v u Q I S rx ry hx hy P
  dsimp only at P
  cases ex : view μ dx with
  | int i =>
    cases ey : view μ dy with
    | int j =>
      rw [ex, ey] at P
      simp only [binD] at P
      split at P
      · rename_i hz
        simp only [Bool.and_eq_true, decide_eq_true_eq] at hz
        exact op_fdivN pins s σ H x y v u Q I hx hy ⟨i, j, view_int S rx ex, view_int S ry ey, hz, P.val S (.int _)⟩
      · exact P.elim
    | _ => rw [ex, ey] at P; exact P.elim
  | _ => rw [ex] at P; exact P.elim
theorem sound_mod (hK : X.K = K) : OpS X K W (binaryOp .Mod) (fun x y μ => Out.of (binD .mod (view μ x) (view μ y)) μ) := by
  subst hK
  intro pins s σ H C μ x y dx dy v u Q I S rx ry hx hy P
  dsimp only at P
  cases ex : view μ dx with
  | int i =>
    cases ey : view μ dy with
    | int j =>
      rw [ex, ey] at P
      simp only [binD] at P
      split at P
      · rename_i hz
        exact op_modN pins s σ H x y v u Q I hx hy ⟨i, j, view_int S rx ex, view_int S ry ey, of_decide_eq_true hz, P.val S (.int _)⟩
      · exact P.elim
    | _ => rw [ex, ey] at P; exact P.elim
  | _ => rw [ex] at P; exact P.elim
theorem sound_pow (hK : X.K = K) : OpS X K W (binaryOp .Pow) (fun x y μ => Out.of (binD .pow (view μ x) (view μ y)) μ) := by
  subst hK
  intro pins s σ H C μ x y dx dy v u Q I S rx ry hx hy P
  dsimp only at P
  cases ex : view μ dx with
  | int i =>
    cases ey : view μ dy with
    | int j =>
      rw [ex, ey] at P
      simp only [binD] at P
      split at P
      · rename_i hz
        simp only [Bool.and_eq_true, decide_eq_true_eq] at hz
        exact op_pow pins s σ H x y v u Q I hx hy ⟨i, j, view_int S rx ex, view_int S ry ey, ⟨hz.1.1, hz.1.2, hz.2⟩, P.val S (.int _)⟩
      · exact P.elim
    | _ => rw [ex, ey] at P; exact P.elim
  | _ => rw [ex] at P; exact P.elim
theorem rep_len {α : Type} (l : List α) (n : Nat) : (List.replicate n l).flatten.length = n * l.length := by simp
theorem small1e6 {n : Nat} (h : n ≤ 1000 * 1000) : n ≤ sizeLine := by rw [sizeLine_eq]; omega
theorem small_iff {i : Int} : small i = true ↔ (-(2 ^ 64) < i ∧ i < 2 ^ 64) := by simp [small]
theorem sound_mul (hK : X.K = K) : OpS X K W (binaryOp .Mult) (fun x y μ => Out.of (binD .mul (view μ x) (view μ y)) μ) := by
  subst hK
  intro pins s σ H C μ x y dx dy v u Q I S rx ry hx hy P
  dsimp only at P
  cases ex : view μ dx with
  | int i =>
    cases ey : view μ dy with
    | int j =>
      rw [ex, ey] at P
      simp only [binD] at P
      split at P
      · rename_i hz
        refine op_mul pins s σ H x y v u Q I hx hy ⟨i, j, view_int S rx ex, view_int S ry ey, ?_, P.val S (.int _)⟩
        rcases (Bool.or_eq_true _ _).mp hz with z | z
        · exact .inl (small_iff.mp z)
        · exact .inr (small_iff.mp z)
      · exact P.elim
    | _ => rw [ex, ey] at P; exact P.elim
  | tup as =>
    cases ey : view μ dy with
    | int k =>
      rw [ex, ey] at P
      obtain ⟨a, vs, e1, q1, r1, z1⟩ := view_tup S rx ex
      simp only [binD] at P
      split at P
      · rename_i hz
        simp only [Bool.and_eq_true, decide_eq_true_eq, Bool.not_eq_true', List.isEmpty_eq_false_iff] at hz
        refine op_repT pins s σ H x y v u Q I hx hy ⟨a, k, vs, e1, view_int S ry ey, q1, fun z => ?_, hz.1.1.2, hz.1.2, by rw [r1.length]; exact hz.2, fun p hp => P.newT S (r1.rep _) (by rw [rep_len]; have := hz.2; have h3 : k.toNat ≤ 1000 := (by have := hz.1.2; omega); exact small1e6 (Nat.mul_le_mul h3 this)) hp⟩
        subst z
        cases r1
        exact hz.1.1.1 rfl
      · exact P.elim
    | _ => rw [ex, ey] at P; exact P.elim
  | lst as =>
    cases ey : view μ dy with
    | int k =>
      rw [ex, ey] at P
      obtain ⟨a, vs, e1, q1, r1, z1⟩ := view_lst S rx ex
      simp only [binD] at P
      split at P
      · rename_i hz
        simp only [Bool.and_eq_true, decide_eq_true_eq] at hz
        exact op_rep pins s σ H x y v u Q I hx hy ⟨a, k, vs, e1, view_int S ry ey, q1, hz.1.1, hz.1.2, by rw [r1.length, ← big_eq]; exact hz.2, fun p hp => P.newL S (r1.rep _) (by rw [rep_len, Nat.mul_comm, ← big_eq]; exact hz.2) hp⟩
      · exact P.elim
    | _ => rw [ex, ey] at P; exact P.elim
  | _ => rw [ex] at P; exact P.elim
def opO : BOp → Operator
  | .add => .Add
  | .sub => .Sub
  | .mul => .Mult
  | .fdiv => .FloorDiv
  | .mod => .Mod
  | .pow => .Pow
theorem sound_bin (hK : X.K = K) (o : BOp) : OpS X K W (binaryOp (opO o)) (fun x y μ => Out.of (binD o (view μ x) (view μ y)) μ) := by
  cases o with
  | add => exact sound_add hK
  | sub => exact sound_sub hK
  | mul => exact sound_mul hK
  | fdiv => exact sound_fdiv hK
  | mod => exact sound_mod hK
  | pow => exact sound_pow hK

/-! ### comparisons -/
def opC : COp → CmpOp
  | .lt => .Lt
  | .le => .LtE
  | .gt => .Gt
  | .ge => .GtE
  | .eq => .Eq
  | .ne => .NotEq
  | .isN => .Is
  | .notN => .IsNot
  | .isIn => .In
  | .notIn => .NotIn
/-- a comparison by values: whatever the answer b is -/
def CmpS (X : Cx) (K : PySem.W.Frag) (o : COp) : Prop :=
  ∀ (pins : List (Addr × Obj)) (s : Shared) (σ : L2.St) (H : Hp) (C : Ctx) (μ : Store) (x y : V) (dx dy : D) (v u : Value) (b : Bool) (Q : VK), Inv X pins σ H s → StoreR K H C μ → Rp K H C x dx → Rp K H C y dy → RelV x v → RelV y u →
    cmpD o (view μ dx) (view μ dy) = some b → Q (.bl b) H → wpAny (model X.prog X.w) X.A (compareOp (opC o) v u) (EP X pins σ Q) X.xe s
theorem isNon_iff (S : StoreR K H C μ) {dx : D} {x : V} (r : Rp K H C x dx) : decide (x = .non) = (match view μ dx with | .non => true | _ => false) := by
  rcases view_rp S r with ⟨k, ds, a, vs, e1, e2, e3, _⟩ | e
  · rw [e2, e3]
    rfl
  · rw [e]
    cases r <;> rfl
theorem atom_rp (S : StoreR K H C μ) {dx : D} {x : V} (r : Rp K H C x dx) (h : atom (view μ dx) = true) : flatV x = true ∧ view μ dx = dx := by
  rcases view_rp S r with ⟨k, ds, a, vs, e1, e2, e3, _⟩ | e
  · rw [e2] at h
    cases h
  · rw [e] at h
    refine ⟨?_, e⟩
    cases r <;> first | rfl | cases h
theorem eqV_atom {x y : V} {dx dy : D} (rx : Rp K H C x dx) (ry : Rp K H C y dy) (hx : atom dx = true) (hy : atom dy = true) : eqV y x = eqv dy dx := by
  cases ry <;> first | (cases hy; done) | (cases rx <;> first | (cases hx; done) | simp [eqV, eqv, Bool.beq_eq_decide_eq])
theorem atoms_rp {x : V} {dx : D} (rx : Rp K H C x dx) (hx : atom dx = true) : ∀ {ds : List D} {vs : List V}, Rps K H C vs ds → ds.all atom = true → vs.all flatV = true ∧ inV x vs = memD dx ds
  | [], _, h, _ => by cases h; exact ⟨rfl, rfl⟩
  | d :: ds, _, h, ha => by
    cases h with
    | cons h1 h2 =>
      have ha' : atom d = true ∧ ds.all atom = true := by simpa using ha
      obtain ⟨a, b⟩ := atoms_rp rx hx h2 ha'.2
      refine ⟨?_, ?_⟩
      · rw [List.all_cons, a, Bool.and_true]
        cases h1 <;> first | rfl | cases ha'.1
      · unfold inV at *
        rw [List.any_cons, b, eqV_atom rx h1 hx ha'.1]
        rfl
theorem memD_any (x : D) : ∀ ys : List D, memD x ys = ys.any fun y => eqv y x
  | [] => rfl
  | y :: ys => by rw [memD, List.any_cons, memD_any x ys]
theorem any_py (x : D) {p : PyData} (e : toPy x = some p) : ∀ (ys : List D) {qs : List PyData}, toPyL ys = some qs → (qs.any fun z => PyData.eqv z p) = ys.any fun y => eqv y x
  | [], qs, f => by cases f; rfl
  | y :: ys, qs, f => by
    simp only [toPyL] at f
    split at f
    · rename_i q qs' f1 f2
      cases f
      rw [List.any_cons, List.any_cons, eqv_py y x f1 e, any_py x e ys f2]
    · cases f
theorem sound_cmp (hK : X.K = K) (hu : X.A.units + 65 < cLine) (o : COp) : CmpS X K o := by
  subst hK
  intro pins s σ H C μ x y dx dy v u b Q I S rx ry hx hy P q
  have hInts : ∀ (f : Int → Int → Bool) (R : OpR X (compareOp (opC o)) (rI0 fun i j => .bl (f i j))), (match view μ dx, view μ dy with | .int i, .int j => some (f i j) | _, _ => none) = some b →
      wpAny (model X.prog X.w) X.A (compareOp (opC o) v u) (EP X pins σ Q) X.xe s := fun f R h => by
    cases ex : view μ dx with
    | int i =>
      cases ey : view μ dy with
      | int j =>
        rw [ex, ey] at h
        have e : f i j = b := Option.some.inj h
        exact R pins s σ H x y v u Q I hx hy ⟨i, j, view_int S rx ex, view_int S ry ey, by show Q (.bl (f i j)) H; rw [e]; exact q⟩
      | _ => rw [ex, ey] at h; cases h
    | _ => rw [ex] at h; cases h
  cases o with
  | lt => exact hInts (fun i j => decide (i < j)) op_lt P
  | le => exact hInts (fun i j => decide (i ≤ j)) op_le P
  | gt => exact hInts (fun i j => decide (j < i)) op_gt P
  | ge => exact hInts (fun i j => decide (j ≤ i)) op_ge P
  | eq =>
    simp only [cmpD, eqD] at P
    split at P
    · rename_i hz
      simp only [Bool.and_eq_true, decide_eq_true_eq] at hz
      obtain ⟨p, e1, d1, f1, c1⟩ := view_dp S rx hz.1.1
      obtain ⟨p2, e2, d2, f2, c2⟩ := view_dp S ry hz.1.2
      obtain ⟨as, r1⟩ := Dp.reads I p x v d1 hx
      obtain ⟨bs, r2⟩ := Dp.reads I p2 y u d2 hy
      refine SeqAt.compareEq_reads r1 r2 c1 c2 (by rw [f1, f2]; omega) ⟨.bl _, H, I, rfl, ?_⟩
      rw [eqv_py _ _ e1 e2, Option.some.inj P]
      exact q
    · cases P
  | ne =>
    simp only [cmpD, eqD] at P
    split at P
    · rename_i hz
      simp only [Bool.and_eq_true, decide_eq_true_eq] at hz
      obtain ⟨p, e1, d1, f1, c1⟩ := view_dp S rx hz.1.1
      obtain ⟨p2, e2, d2, f2, c2⟩ := view_dp S ry hz.1.2
      obtain ⟨as, r1⟩ := Dp.reads I p x v d1 hx
      obtain ⟨bs, r2⟩ := Dp.reads I p2 y u d2 hy
      refine SeqAt.compareNe_reads r1 r2 c1 c2 (by rw [f1, f2]; omega) ⟨.bl _, H, I, rfl, ?_⟩
      rw [eqv_py _ _ e1 e2]
      have e : (!eqv (view μ dx) (view μ dy)) = b := Option.some.inj P
      rw [e]
      exact q
    · cases P
  | isN =>
    cases ey : view μ dy with
    | non =>
      simp only [cmpD, ey] at P
      have e := Option.some.inj P
      refine op_isN pins s σ H x y v u Q I hx hy ⟨view_non S ry ey, ?_⟩
      have e' : decide (x = .non) = b := by
        rw [isNon_iff S rx, ← e]
        all_goals (cases view μ dx <;> rfl)
      rw [e']
      exact q
    | _ => simp [cmpD, ey] at P
  | notN =>
    cases ey : view μ dy with
    | non =>
      simp only [cmpD, ey] at P
      have e := Option.some.inj P
      refine op_notN pins s σ H x y v u Q I hx hy ⟨view_non S ry ey, ?_⟩
      have e' : (!decide (x = .non)) = b := by
        rw [isNon_iff S rx, ← e]
        all_goals (cases view μ dx <;> rfl)
      rw [e']
      exact q
    | _ => simp [cmpD, ey] at P
  | isIn =>
    cases ey : view μ dy with
    | lst ys =>
      simp only [cmpD, ey] at P
      split at P
      · rename_i hz
        simp only [Bool.and_eq_true, decide_eq_true_eq] at hz
        obtain ⟨p, e1, d1, f1, c1⟩ := view_dp S rx hz.1.1
        obtain ⟨p2, e2, d2, f2, c2⟩ := view_dp S ry (by rw [ey]; simpa [flat] using hz.1.2)
        rw [ey] at e2
        simp only [toPy, Option.map_eq_some_iff] at e2
        obtain ⟨qs, e3, rfl⟩ := e2
        obtain ⟨as, r1⟩ := Dp.reads I p x v d1 hx
        obtain ⟨bs, r2⟩ := Dp.reads I (.list qs) y u d2 hy
        have hs : SeqAt.shaped p = true := by simp [SeqAt.shaped, c1, f1, hz.2]
        refine SeqAt.in_list_reads r2 r1 c2 c1 (room_in_shaped hs hu) ⟨.bl _, H, I, rfl, ?_⟩
        rw [any_py _ e1 ys e3, ← memD_any, Option.some.inj P]
        exact q
      · cases P
    | tup ys =>
      simp only [cmpD, ey] at P
      split at P
      · rename_i hz
        simp only [Bool.and_eq_true] at hz
        obtain ⟨a, vs, e1, q1, r1, z1⟩ := view_tup S ry ey
        obtain ⟨f1, e2⟩ := atom_rp S rx hz.1
        rw [e2] at P hz
        obtain ⟨f2, e3⟩ := atoms_rp rx hz.1 r1 hz.2
        refine op_in_seq pins s σ H x y v u Q I hx hy ⟨a, vs, e1, .inr q1, f1, f2, ?_⟩
        rw [if_neg (by decide), e3, Option.some.inj P]
        exact q
      · cases P
    | _ => simp [cmpD, ey] at P
  | notIn =>
    cases ey : view μ dy with
    | lst ys =>
      simp only [cmpD, ey] at P
      split at P
      · rename_i hz
        simp only [Bool.and_eq_true, decide_eq_true_eq] at hz
        obtain ⟨p, e1, d1, f1, c1⟩ := view_dp S rx hz.1.1
        obtain ⟨p2, e2, d2, f2, c2⟩ := view_dp S ry (by rw [ey]; simpa [flat] using hz.1.2)
        rw [ey] at e2
        simp only [toPy, Option.map_eq_some_iff] at e2
        obtain ⟨qs, e3, rfl⟩ := e2
        obtain ⟨as, r1⟩ := Dp.reads I p x v d1 hx
        obtain ⟨bs, r2⟩ := Dp.reads I (.list qs) y u d2 hy
        have hs : SeqAt.shaped p = true := by simp [SeqAt.shaped, c1, f1, hz.2]
        refine SeqAt.notIn_list_reads r2 r1 c2 c1 (room_in_shaped hs hu) ⟨.bl _, H, I, rfl, ?_⟩
        rw [any_py _ e1 ys e3, ← memD_any, Option.some.inj P]
        exact q
      · cases P
    | tup ys =>
      simp only [cmpD, ey] at P
      split at P
      · rename_i hz
        simp only [Bool.and_eq_true] at hz
        obtain ⟨a, vs, e1, q1, r1, z1⟩ := view_tup S ry ey
        obtain ⟨f1, e2⟩ := atom_rp S rx hz.1
        rw [e2] at P hz
        obtain ⟨f2, e3⟩ := atoms_rp rx hz.1 r1 hz.2
        refine op_notIn_seq pins s σ H x y v u Q I hx hy ⟨a, vs, e1, .inr q1, f1, f2, ?_⟩
        rw [if_pos rfl, e3, Option.some.inj P]
        exact q
      · cases P
    | _ => simp [cmpD, ey] at P
end
end Mi
/-! Mini: the rules for expressions. -/
namespace Mi
open PySem PySem.Spec PyProof.Rows L2
section
variable {X : Cx} {K : PySem.W.Frag} {W : Wish} {G : Glo} {m : ME} {ms : List ME} {a : Expr} {es : List Expr} {pins : List (Addr × Obj)} {s : Shared} {σ : L2.St} {H : Hp} {C : Ctx} {ρ : Env} {μ : Store} {pos : Pos}
/-- arguments run, then the rest -/
theorem goL {β : Type} {R : List Value → Shared → Prop} {f : List D → Store → Out β} {P : Hp → Ctx → Out β → Prop} (ha : PA X es (tL K W G ms)) (I : Inv X pins σ H s) (S : StR K σ H C ρ μ)
    (h : P H C ((evEs G ms ρ μ).bind f)) (hb : ∀ H C, P H C .bad → False) (he : ∀ H C H' C' e μ', P H C (.err e μ') → Ext K H C H' C' → StoreR K H' C' μ' → W e μ' H' C') (hx : ∀ H C H' C' o, P H C o → Ext K H C H' C' → P H' C' o)
    (k : ∀ ds μ1 us s1 vs H1 C1, Inv X pins σ H1 s1 → Vals vs us → Rps K H1 C1 vs ds → StR K σ H1 C1 ρ μ1 → Ext K H C H1 C1 → P H1 C1 (f ds μ1) → R us s1) :
    wpAny (model X.prog X.w) X.A (spliced (backTo pos (starEach es X.env))) R X.xe s := by
  cases q : evEs G ms ρ μ with
  | ok d μ1 =>
    rw [q] at h
    refine thn (ha.run pos pins s σ H (fun x H1 => ∃ C1, Ext K H C H1 C1 ∧ StoreR K H1 C1 μ1 ∧ Rps K H1 C1 x d) I ⟨C, ρ, μ, S, ?_⟩) fun v s1 ⟨x, H1, I1, r1, C1, e1, S1, p1⟩ => ?_
    · rw [q]
      exact fun v H' C' e S' r => ⟨C', e, S', r⟩
    · exact k d μ1 v s1 x H1 C1 I1 r1 p1 (S.ext e1 S1) e1 (hx _ _ _ _ _ h e1)
  | err x μ1 =>
    rw [q] at h
    refine thn (ha.run pos pins s σ H (fun _ _ => False) I ⟨C, ρ, μ, S, ?_⟩) fun v s1 ⟨_, _, _, _, z⟩ => z.elim
    rw [q]
    exact fun H' C' e S' => he _ _ _ _ _ _ h e S'
  | bad =>
    rw [q] at h
    exact (hb _ _ h).elim
theorem goLE {R : List Value → Shared → Prop} {f : List D → Store → Out D} {Q : VK} (ha : PA X es (tL K W G ms)) (I : Inv X pins σ H s) (S : StR K σ H C ρ μ) (h : PostE K W H C ((evEs G ms ρ μ).bind f) Q)
    (k : ∀ ds μ1 us s1 vs H1 C1, Inv X pins σ H1 s1 → Vals vs us → Rps K H1 C1 vs ds → StR K σ H1 C1 ρ μ1 → Ext K H C H1 C1 → PostE K W H1 C1 (f ds μ1) Q → R us s1) :
    wpAny (model X.prog X.w) X.A (spliced (backTo pos (starEach es X.env))) R X.xe s :=
  goL (P := fun H C o => PostE K W H C o Q) ha I S h (fun _ _ z => z) (fun _ _ _ _ _ _ h e S => h _ _ e S) (fun _ _ _ _ _ h e => h.ext e) k

/-! ### names, constants -/
theorem m_v {i : Nat} {x : Str} (hN : X.N[i]? = some x) (hv : Vis X.env.scope x) (hd : (x == ("__debug__" : Str)) = false) (hcd : (x == ("__classdict__" : Str)) = false) : PE X (.Name x pos) (tE K W G (.v i)) := by
  refine ⟨fun pins s σ H Q I ⟨C, ρ, μ, S, P⟩ => ?_⟩
  refine (pe_var hN hv hd hcd).run pins s σ H Q I ?_
  simp only [evE] at P
  cases e : look ρ i with
  | none => rw [e] at P; exact P.elim
  | some d =>
    rw [e] at P
    obtain ⟨v, h1, h2⟩ := S.slots i d e
    exact ⟨v, h1, P.at S.store h2⟩
theorem m_g {i : Nat} {x : Str} {u : Value} {v : V} (hg : Gl X x) (hm : X.mg x = some u) (r : RelV v u) (hr : ∀ H C, Rp K H C v (G.gd i)) (hd : (x == ("__debug__" : Str)) = false) : PE X (.Name x pos) (tE K W G (.g i)) := by
  refine ⟨fun pins s σ H Q I ⟨C, ρ, μ, S, P⟩ => ?_⟩
  exact (pe_glob hg hm r hd).run pins s σ H Q I (P.at S.store (hr H C))
theorem m_int {i : Int} {j : Nat} : PE X (.Constant (.int i) j pos) (tE K W G (.k (.int i))) := ⟨fun pins s σ H Q I ⟨C, ρ, μ, S, P⟩ => pe_int.run pins s σ H Q I (P.at S.store (.int i))⟩
theorem m_bl {b : Bool} {j : Nat} : PE X (.Constant (.bool b) j pos) (tE K W G (.k (.bl b))) := ⟨fun pins s σ H Q I ⟨C, ρ, μ, S, P⟩ => pe_bl.run pins s σ H Q I (P.at S.store (.bl b))⟩
theorem m_non {j : Nat} : PE X (.Constant .none j pos) (tE K W G (.k .non)) := ⟨fun pins s σ H Q I ⟨C, ρ, μ, S, P⟩ => pe_non.run pins s σ H Q I (P.at S.store .non)⟩
theorem m_str {x : Str} {j : Nat} (h : PyData.strOk x = true) : PE X (.Constant (.str x) j pos) (tE K W G (.k (.str x))) := ⟨fun pins s σ H Q I ⟨C, ρ, μ, S, P⟩ => pe_str.run pins s σ H Q I (P.at S.store (.str x h))⟩

/-! ### operators -/
theorem m_bin {o : BOp} {b : Expr} {ma mb : ME} (hK : X.K = K) (ha : PE X a (tE K W G ma)) (hb : PE X b (tE K W G mb)) : PE X (.BinOp a (opO o) b pos) (tE K W G (.bin o ma mb)) :=
  pe_bin hK (sound_bin hK o) ha hb fun ρ μ => by simp only [evE]
theorem m_neg {ma : ME} (ha : PE X a (tE K W G ma)) : PE X (.UnaryOp .USub a pos) (tE K W G (.neg ma)) := by
  refine ⟨fun pins s σ H Q I ⟨C, ρ, μ, S, P⟩ => ?_⟩
  simp only [evE] at P
  refine UnaryOp_ (goEE ha I S P fun d μ1 v s1 x H1 C1 I1 r1 p1 S1 e1 P1 => ?_)
  cases d with
  | int i =>
    cases p1
    exact un_neg pins s1 σ H1 (.int i) v Q I1 r1 ⟨i, rfl, P1.at S1.store (.int _)⟩
  | _ => exact P1.elim
/-- a bool's reading -/
theorem asBool_ok {d : D} {f : Bool → Store → Out D} {Q : VK} {x : V} (h : PostE K W H C ((asBool d μ).bind f) Q) (r : Rp K H C x d) : ∃ b, x = .bl b ∧ d = .bl b ∧ PostE K W H C (f b μ) Q := by
  cases d with
  | bl b => cases r; exact ⟨b, rfl, rfl, h⟩
  | _ => exact h.elim
theorem m_not {ma : ME} (ha : PE X a (tE K W G ma)) : PE X (.UnaryOp .Not a pos) (tE K W G (.not ma)) := by
  refine ⟨fun pins s σ H Q I ⟨C, ρ, μ, S, P⟩ => ?_⟩
  simp only [evE] at P
  refine UnaryOp_ (goEE ha I S P fun d μ1 v s1 x H1 C1 I1 r1 p1 S1 e1 P1 => ?_)
  obtain ⟨b, rfl, rfl, P2⟩ := asBool_ok P1 p1
  cases r1
  exact not_of (wpAny_truthy_bool ⟨.bl (!b), H1, I1, rfl, P2.at S1.store (.bl _)⟩)
theorem m_and {b : Expr} {rest : List Expr} {ma mb : ME} (ha : PE X a (tE K W G ma)) (hb : PE X (.BoolOp .And (b :: rest) pos) (tE K W G mb)) : PE X (.BoolOp .And (a :: b :: rest) pos) (tE K W G (.and ma mb)) := by
  refine ⟨fun pins s σ H Q I ⟨C, ρ, μ, S, P⟩ => ?_⟩
  simp only [evE] at P
  refine BoolOp_and (goEE ha I S P fun d μ1 v s1 x H1 C1 I1 r1 p1 S1 e1 P1 => ?_)
  obtain ⟨c, rfl, rfl, P2⟩ := asBool_ok P1 p1
  cases r1
  refine wpAny_truthy_bool ?_
  cases c with
  | true => exact hb.run pins s1 σ H1 Q I1 ⟨C1, ρ, μ1, S1, P2⟩
  | false => exact ⟨.bl false, H1, I1, rfl, P2.at S1.store (.bl _)⟩
theorem m_or {b : Expr} {rest : List Expr} {ma mb : ME} (ha : PE X a (tE K W G ma)) (hb : PE X (.BoolOp .Or (b :: rest) pos) (tE K W G mb)) : PE X (.BoolOp .Or (a :: b :: rest) pos) (tE K W G (.or ma mb)) := by
  refine ⟨fun pins s σ H Q I ⟨C, ρ, μ, S, P⟩ => ?_⟩
  simp only [evE] at P
  refine BoolOp_or (goEE ha I S P fun d μ1 v s1 x H1 C1 I1 r1 p1 S1 e1 P1 => ?_)
  obtain ⟨c, rfl, rfl, P2⟩ := asBool_ok P1 p1
  cases r1
  refine wpAny_truthy_bool ?_
  cases c with
  | false => exact hb.run pins s1 σ H1 Q I1 ⟨C1, ρ, μ1, S1, P2⟩
  | true => exact ⟨.bl true, H1, I1, rfl, P2.at S1.store (.bl _)⟩
theorem map_bl {o : Option Bool} {Q : VK} (h : PostE K W H C (Out.of (o.map .bl) μ) Q) (S : StoreR K H C μ) : ∃ b, o = some b ∧ Q (.bl b) H := by
  cases o with
  | none => exact h.elim
  | some b => exact ⟨b, rfl, PostE.at h S (.bl b)⟩
theorem m_cmp {o : COp} {b : Expr} {ma mb : ME} (hK : X.K = K) (hu : X.A.units + 65 < cLine) (ha : PE X a (tE K W G ma)) (hb : PE X b (tE K W G mb)) (hm : behindInMarks (opC o) b = false) : PE X (.Compare a [opC o] [b] pos) (tE K W G (.cmp o ma mb)) := by
  refine pe_cmpS (F := fun x y μ => Out.of ((cmpD o (view μ x) (view μ y)).map .bl) μ) hK (fun pins s σ H C μ x y dx dy v u Q I S rx ry hx hy P => ?_) ha hb hm fun ρ μ => by simp only [evE]
  obtain ⟨c, e, q⟩ := map_bl P S
  exact sound_cmp hK hu o pins s σ H C μ x y dx dy v u c Q I S rx ry hx hy e q
theorem m_chain {o o' : COp} {b c : Expr} {ma mb mc : ME} (hK : X.K = K) (hu : X.A.units + 65 < cLine) (ha : PE X a (tE K W G ma)) (hb : PE X b (tE K W G mb)) (hc : PE X c (tE K W G mc)) (hm : lastMarks [opC o, opC o'] [b, c] = false) :
    PE X (.Compare a [opC o, opC o'] [b, c] pos) (tE K W G (.chain o o' ma mb mc)) := by
  refine ⟨fun pins s σ H Q I ⟨C, ρ, μ, S, P⟩ => ?_⟩
  simp only [evE] at P
  refine Compare_chain (goEE ha I S P fun d μ1 v s1 x H1 C1 I1 r1 p1 S1 e1 P1 => chain_link (goEE hb I1 S1 P1 fun d2 μ2 u s2 y H2 C2 I2 r2 p2 S2 e2 P2 => ?_)) hm
  cases q : cmpD o (view μ2 d) (view μ2 d2) with
  | none => rw [q] at P2; exact P2.elim
  | some k =>
    rw [q] at P2
    simp only [Out.of_some, Out.bind_ok] at P2
    refine thn (sound_cmp hK hu o pins s2 σ H2 C2 μ2 x y d d2 v u k (fun z H3 => z = .bl k ∧ H3 = H2) I2 S2.store (e2.rp _ _ p1) p2 r1 r2 q ⟨rfl, rfl⟩) fun d s3 ⟨z, H3, I3, r3, ez, eH⟩ => ?_
    subst ez
    rw [eH] at I3
    cases r3
    refine wpAny_truthy_bool ?_
    cases k with
    | false => exact ite_ff ⟨.bl false, H2, I3, rfl, PostE.at P2 S2.store (.bl _)⟩
    | true =>
      refine ite_tt (chain_last (goEE hc I3 S2 P2 fun d4 μ4 w' s4 z' H4 C4 I4 r4 p4 S4 e4 P4 => ?_))
      obtain ⟨c2, e, q2⟩ := map_bl P4 S4.store
      exact sound_cmp hK hu o' pins s4 σ H4 C4 μ4 y z' d2 d4 u w' c2 Q I4 S4.store (e4.rp _ _ p2) p4 r2 r4 e q2

/-! ### displays, arguments -/
theorem m_nil : PA X [] (tL K W G []) := ⟨fun _ _ _ _ H Q I ⟨C, ρ, μ, S, P⟩ => Calls.spliced_nil ⟨[], H, I, .nil, P [] H C Ext.refl S.store .nil⟩⟩
theorem m_cons (ha : PE X a (tE K W G m)) (hr : PA X es (tL K W G ms)) (hs : starEach (a :: es) X.env = (false, eval a X.env) :: starEach es X.env) : PA X (a :: es) (tL K W G (m :: ms)) := by
  refine ⟨fun pos pins s σ H Q I ⟨C, ρ, μ, S, P⟩ => ?_⟩
  rw [hs]
  show wpAny _ _ (spliced ((false, eval a X.env) :: backTo pos (starEach es X.env))) _ _ s
  simp only [evEs] at P
  refine Calls.spliced_cons (goEL ha I S P fun d μ1 v s1 x H1 C1 I1 r1 p1 S1 e1 P1 => ?_)
  refine goL (P := fun H C o => PostL K W H C o Q) hr I1 S1 P1 (fun _ _ z => z) (fun _ _ _ _ _ _ h e S => h _ _ e S) (fun _ _ _ _ _ h e => h.ext e) fun ds μ2 us s2 vs H2 C2 I2 r2 p2 S2 e2 P2 => ?_
  exact ⟨x :: vs, H2, I2, .cons r1 r2, P2 (x :: vs) H2 C2 Ext.refl S2.store (.cons (e2.rp _ _ p1) p2)⟩
theorem evEs_len : ∀ {ms : List ME} {ρ : Env} {μ : Store} {ds : List D} {μ' : Store}, evEs G ms ρ μ = .ok ds μ' → ds.length = ms.length
  | [], ρ, μ, ds, μ', h => by simp only [evEs, Out.ok.injEq] at h; rw [← h.1]; rfl
  | m :: ms, ρ, μ, ds, μ', h => by
    simp only [evEs] at h
    cases q : evE G m ρ μ with
    | ok d μ1 =>
      rw [q, Out.bind_ok] at h
      cases q2 : evEs G ms ρ μ1 with
      | ok es μ2 =>
        rw [q2, Out.bind_ok] at h
        cases h
        rw [List.length_cons, List.length_cons, evEs_len q2]
      | err _ _ => rw [q2] at h; cases h
      | bad => rw [q2] at h; cases h
    | err _ _ => rw [q] at h; cases h
    | bad => rw [q] at h; cases h
/-- .. with the number of arguments -/
theorem goLN {R : List Value → Shared → Prop} {f : List D → Store → Out D} {Q : VK} (ha : PA X es (tL K W G ms)) (I : Inv X pins σ H s) (S : StR K σ H C ρ μ) (h : PostE K W H C ((evEs G ms ρ μ).bind f) Q)
    (k : ∀ ds μ1 us s1 vs H1 C1, ds.length = ms.length → Inv X pins σ H1 s1 → Vals vs us → Rps K H1 C1 vs ds → StR K σ H1 C1 ρ μ1 → Ext K H C H1 C1 → PostE K W H1 C1 (f ds μ1) Q → R us s1) :
    wpAny (model X.prog X.w) X.A (spliced (backTo pos (starEach es X.env))) R X.xe s := by
  have h' : PostE K W H C ((evEs G ms ρ μ).bind fun ds μ1 => if ds.length = ms.length then f ds μ1 else .bad) Q := by
    cases q : evEs G ms ρ μ with
    | ok ds μ1 =>
      rw [q] at h
      rw [Out.bind_ok, if_pos (evEs_len q)]
      exact h
    | err _ _ => rw [q] at h; exact h
    | bad => rw [q] at h; exact h
  refine goLE ha I S h' fun ds μ1 us s1 vs H1 C1 I1 r1 p1 S1 e1 P1 => ?_
  split at P1
  · rename_i hl
    exact k ds μ1 us s1 vs H1 C1 hl I1 r1 p1 S1 e1 P1
  · exact P1.elim
theorem small1000' {n : Nat} (h : n ≤ 1000) : n ≤ sizeLine := by rw [sizeLine_eq]; omega
theorem m_tup {k : Nat} (h : PA X es (tL K W G ms)) (hz : ms.length ≤ 1000) : PE X (.Tuple es k pos) (tE K W G (.tup ms)) := by
  refine ⟨fun pins s σ H Q I ⟨C, ρ, μ, S, P⟩ => ?_⟩
  simp only [evE] at P
  refine wpAny_Tuple_spliced (goLN h I S P fun ds μ1 us s1 vs H1 C1 hl I1 r1 p1 S1 e1 P1 => ?_)
  have hz' : vs.length ≤ sizeLine := by rw [p1.length, hl]; exact small1000' hz
  refine ⟨by rw [← r1.length]; exact hz', ?_⟩
  have hf : H1 s1.heap.objs.size = none := I1.hok.fresh (Nat.le_refl _)
  refine ⟨.ref s1.heap.objs.size, upd H1 s1.heap.objs.size (.tup vs), I1.laid (t' := s1.toks) (fun b u e => Heap.get?_push_of_some _ e) (Nat.le_refl _) ?_, rfl, ?_⟩
  · exact ⟨hz', us, r1, ⟨_, Heap.get?_push_size _ rfl, rfl, _, rfl⟩⟩
  · exact P1 _ _ C1 (Ext.new hf) (S1.store.new hf) (Rp.newT hf p1 (by rw [hl]; exact small1000' hz))
theorem m_lst (h : PA X es (tL K W G ms)) (hz : ms.length ≤ 1000) : PE X (.List es pos) (tE K W G (.lst ms)) := by
  refine ⟨fun pins s σ H Q I ⟨C, ρ, μ, S, P⟩ => ?_⟩
  simp only [evE] at P
  refine wpAny_List_spliced (goLN h I S P fun ds μ1 us s1 vs H1 C1 hl I1 r1 p1 S1 e1 P1 => ?_)
  have hz' : vs.length ≤ sizeLine := by rw [p1.length, hl]; exact small1000' hz
  refine ⟨by rw [← r1.length]; exact hz', ?_⟩
  have hf : H1 s1.heap.objs.size = none := I1.hok.fresh (Nat.le_refl _)
  refine ⟨.ref s1.heap.objs.size, upd H1 s1.heap.objs.size (.lst vs), I1.laid (t' := s1.toks) (fun b u e => Heap.get?_push_of_some _ e) (Nat.le_refl _) ?_, rfl, ?_⟩
  · exact ⟨hz', us, 0, r1, Heap.get?_push_size _ rfl⟩
  · exact P1 _ _ C1 (Ext.new hf) (S1.store.new hf) (Rp.newL S1.store hf p1 (by rw [hl]; exact small1000' hz))
theorem m_cell (h : PA X es (tL K W G ms)) (hz : ms.length ≤ 1000) : PE X (.List es pos) (tE K W G (.cell ms)) := by
  refine ⟨fun pins s σ H Q I ⟨C, ρ, μ, S, P⟩ => ?_⟩
  simp only [evE] at P
  refine wpAny_List_spliced (goLN h I S P fun ds μ1 us s1 vs H1 C1 hl I1 r1 p1 S1 e1 P1 => ?_)
  have hz' : vs.length ≤ sizeLine := by rw [p1.length, hl]; exact small1000' hz
  refine ⟨by rw [← r1.length]; exact hz', ?_⟩
  have hf : H1 s1.heap.objs.size = none := I1.hok.fresh (Nat.le_refl _)
  refine ⟨.ref s1.heap.objs.size, upd H1 s1.heap.objs.size (.lst vs), I1.laid (t' := s1.toks) (fun b u e => Heap.get?_push_of_some _ e) (Nat.le_refl _) ?_, rfl, ?_⟩
  · exact ⟨hz', us, 0, r1, Heap.get?_push_size _ rfl⟩
  · refine P1 _ _ ⟨C1.mm ++ [s1.heap.objs.size], C1.hid⟩ (Ext.cell hf) (S1.store.cell hf p1 (by rw [hl]; exact small1000' hz)) (.ref ?_)
    rw [← S1.store.len, List.getElem?_append_right (Nat.le_refl _), Nat.sub_self]
    rfl

/-! ### subscripts, slices -/
theorem ixOf_eq (n : Nat) (i : Int) : ixOf n i = ixN n i := rfl
theorem clip_sIx (n d : Nat) (o : Option Int) : clip n d o = HT.sIx n d o := by
  cases o <;> rfl
theorem cutL_eq {α : Type} (xs : List α) (lo hi : Option Int) : cutL xs lo hi = (xs.drop (HT.sIx xs.length 0 lo)).take (HT.sIx xs.length xs.length hi - HT.sIx xs.length 0 lo) := by
  unfold cutL
  rw [clip_sIx, clip_sIx]
theorem cut_len {α : Type} (xs : List α) (lo hi : Option Int) : (cutL xs lo hi).length ≤ xs.length := by
  unfold cutL
  simp only [List.length_take, List.length_drop]
  omega
theorem Rps.cut {vs : List V} {ds : List D} (r : Rps K H C vs ds) (lo hi : Option Int) : Rps K H C (cutV vs lo hi) (cutL ds lo hi) := by
  rw [cutL_eq]
  unfold cutV
  rw [r.length]
  exact (r.drop _).take _
theorem Rps.at {vs : List V} {ds : List D} (r : Rps K H C vs ds) {i : Int} {d : D} (h : ((ixOf ds.length i).bind fun k => ds[k]?) = some d) : ∃ v, atI vs i = some v ∧ Rp K H C v d := by
  unfold atI
  rw [r.length]
  rw [ixOf_eq] at h
  cases q : ixN ds.length i with
  | none => rw [q] at h; cases h
  | some k =>
    rw [q] at h
    exact r.get h
theorem m_ix {b : Expr} {ma mb : ME} (hK : X.K = K) (ha : PE X a (tE K W G ma)) (hb : PE X b (tE K W G mb)) (hs : PlainIx b) : PE X (.Subscript a b pos) (tE K W G (.ix ma mb)) := by
  subst hK
  refine ⟨fun pins s σ H Q I ⟨C, ρ, μ, S, P⟩ => ?_⟩
  simp only [evE] at P
  refine Subscript_ (goEE ha I S P fun d μ1 v s1 x H1 C1 I1 r1 p1 S1 e1 P1 => goEE hb I1 S1 P1 fun d2 μ2 u s2 y H2 C2 I2 r2 p2 S2 e2 P2 => ?_)
  have q1 := e2.rp _ _ p1
  cases ex : view μ2 d with
  | tup xs =>
    cases d2 with
    | int i =>
      rw [ex] at P2
      cases p2
      cases q : ((ixOf xs.length i).bind fun k => xs[k]?) with
      | none => simp only [ixD, q] at P2; exact P2.elim
      | some z =>
        simp only [ixD, q] at P2
        obtain ⟨p, vs, rfl, hs', rs, _⟩ := view_tup S2.store q1 ex
        obtain ⟨w', e3, r3⟩ := rs.at q
        exact ix_tup a b pins s2 σ H2 _ _ v u Q I2 r1 r2 ⟨p, vs, i, w', rfl, rfl, hs', e3, PostE.at P2 S2.store r3⟩ (hs _ _)
    | _ => rw [ex] at P2; exact P2.elim
  | lst xs =>
    cases d2 with
    | int i =>
      rw [ex] at P2
      cases p2
      cases q : ((ixOf xs.length i).bind fun k => xs[k]?) with
      | none => simp only [ixD, q] at P2; exact P2.elim
      | some z =>
        simp only [ixD, q] at P2
        obtain ⟨p, vs, rfl, hs', rs, _⟩ := view_lst S2.store q1 ex
        obtain ⟨w', e3, r3⟩ := rs.at q
        exact ix_list a b pins s2 σ H2 _ _ v u Q I2 r1 r2 ⟨p, vs, i, w', rfl, rfl, SqL.of hs', e3, PostE.at P2 S2.store r3⟩ (hs _ _)
    | _ => rw [ex] at P2; exact P2.elim
  | scr xs =>
    cases d2 with
    | int i =>
      rw [ex] at P2
      cases p2
      cases q : ((ixOf xs.length i).bind fun k => xs[k]?) with
      | none => simp only [ixD, q] at P2; exact P2.elim
      | some z =>
        simp only [ixD, q] at P2
        have e0 := view_id S2.store q1 ex (fun _ z => by cases z)
        subst e0
        cases q1 with
        | scr hs' =>
          have e3 : atI (xs.map V.int) i = some (.int z) := by
            unfold atI
            rw [List.length_map]
            rw [ixOf_eq] at q
            cases q' : ixN xs.length i with
            | none => rw [q'] at q; cases q
            | some k =>
              rw [q'] at q
              have q2 : xs[k]? = some z := q
              show (xs.map V.int)[k]? = _
              rw [List.getElem?_map, q2]
              rfl
          exact ix_list a b pins s2 σ H2 _ _ v u Q I2 r1 r2 ⟨_, _, i, .int z, rfl, rfl, hs'.sq, e3, PostE.at P2 S2.store (.int z)⟩ (hs _ _)
    | _ => rw [ex] at P2; exact P2.elim
  | _ => rw [ex] at P2; exact P2.elim
/-- a slice's part -/
def tO (K : PySem.W.Frag) (W : Wish) (G : Glo) (o : Option ME) : TO := fun σ H Q => ∃ C ρ μ, StR K σ H C ρ μ ∧ (match evO G o ρ μ with
  | .ok i μ' => ∀ H' C', Ext K H C H' C' → StoreR K H' C' μ' → Q i H'
  | .err e μ' => ∀ H' C', Ext K H C H' C' → StoreR K H' C' μ' → W e μ' H' C'
  | .bad => False)
theorem m_none : PO X none (tO K W G none) := by
  refine ⟨fun pins s σ H Q I ⟨C, ρ, μ, S, P⟩ => ?_⟩
  rw [evalPart_none]
  exact wpAny_pure ⟨none, H, I, .none, P H C Ext.refl S.store⟩
theorem m_some (h : PE X a (tE K W G m)) : PO X (some a) (tO K W G (some m)) := by
  refine ⟨fun pins s σ H Q I ⟨C, ρ, μ, S, P⟩ => ?_⟩
  rw [evalPart_some]
  simp only [evO] at P
  refine goE (P := fun H C (o : Out (Option Int)) => (match o with
    | .ok i μ' => ∀ H' C', Ext K H C H' C' → StoreR K H' C' μ' → Q i H'
    | .err e μ' => ∀ H' C', Ext K H C H' C' → StoreR K H' C' μ' → W e μ' H' C'
    | .bad => False)) h I S P (fun _ _ z => z) (fun _ _ _ _ _ _ h e S => h _ _ e S) (fun H C H' C' o h e => ?_) fun d μ1 v s1 x H1 C1 I1 r1 p1 S1 e1 P1 => ?_
  · cases o with
    | ok _ _ => exact fun H2 C2 e2 S2 => h H2 C2 (e.trans e2) S2
    | err _ _ => exact fun H2 C2 e2 S2 => h H2 C2 (e.trans e2) S2
    | bad => exact h
  · cases d with
    | int i =>
      cases p1
      obtain ⟨t, rfl⟩ := r1
      exact ⟨some i, H1, I1, .int i t, P1 H1 C1 Ext.refl S1.store⟩
    | _ => exact P1.elim
theorem m_sl {lo hi : Option Expr} {ma : ME} {ml mh : Option ME} {p2 : Pos} (hK : X.K = K) (ha : PE X a (tE K W G ma)) (hl : PO X lo (tO K W G ml)) (hh : PO X hi (tO K W G mh)) : PE X (.Subscript a (.Slice lo hi none p2) pos) (tE K W G (.sl ma ml mh)) := by
  subst hK
  refine ⟨fun pins s σ H Q I ⟨C, ρ, μ, S, P⟩ => ?_⟩
  simp only [evE] at P
  refine Subscript_ (goEE ha I S P fun d μ1 v s1 x H1 C1 I1 r1 p1 S1 e1 P1 => ?_)
  have part : ∀ {mo : Option ME} {eo : Option Expr} {s2 : Shared} {H2 : Hp} {C2 : Ctx} {μ2 : Store} {f : Option Int → Store → Out D} {R : Value → Shared → Prop}, PO X eo (tO X.K W G mo) → Inv X pins σ H2 s2 → StR X.K σ H2 C2 ρ μ2 → PostE X.K W H2 C2 ((evO G mo ρ μ2).bind f) Q →
      (∀ i μ3 u s3 H3 C3, Inv X pins σ H3 s3 → IsPart u i → StR X.K σ H3 C3 ρ μ3 → Ext X.K H2 C2 H3 C3 → PostE X.K W H3 C3 (f i μ3) Q → R u s3) →
      wpAny (model X.prog X.w) X.A (evalPart eo X.env) R X.xe s2 := fun {mo eo s2 H2 C2 μ2 f R} ho I2 S2 P2 k => by
    cases q : evO G mo ρ μ2 with
    | ok i μ3 =>
      rw [q] at P2
      refine thn (ho.run pins s2 σ H2 (fun j H3 => j = i ∧ ∃ C3, Ext X.K H2 C2 H3 C3 ∧ StoreR X.K H3 C3 μ3) I2 ⟨C2, ρ, μ2, S2, ?_⟩) fun u s3 ⟨j, H3, I3, hp, ej, C3, e3, S3⟩ => ?_
      · rw [q]
        exact fun H' C' e S' => ⟨rfl, C', e, S'⟩
      · subst ej
        exact k _ μ3 u s3 H3 C3 I3 hp (S2.ext e3 S3) e3 (P2.ext e3)
    | err x μ3 =>
      rw [q] at P2
      refine thn (ho.run pins s2 σ H2 (fun _ _ => False) I2 ⟨C2, ρ, μ2, S2, ?_⟩) fun u s3 ⟨_, _, _, _, z⟩ => z.elim
      rw [q]
      exact P2
    | bad => rw [q] at P2; exact P2.elim
  refine wpAny_Slice (part hl I1 S1 P1 fun l μ2 vl s2 H2 C2 I2 pl S2 e2 P2 => part hh I2 S2 P2 fun h μ3 vu s3 H3 C3 I3 pu S3 e3 P3 => ?_)
  rw [evalPart_none]
  refine wpAny_pure ?_
  have I4 : Inv X pins σ H3 { s3 with heap := s3.heap.push { cls := .type "slice", data := .fields #[vl, vu, .none] } } := I3.kept (t' := s3.toks) fun b ob q => Heap.get?_push_of_some _ q
  have q1 := e3.rp _ _ (e2.rp _ _ p1)
  have fin : ∀ {r : V → Option Int → Option Int → Hp → VK → Prop}, SlR X r → r x l h H3 Q → wpAny (model X.prog X.w) X.A (subscriptTail a (.Slice lo hi none p2) v (.ref s3.heap.objs.size)) (EP X pins σ Q) X.xe { s3 with heap := s3.heap.push { cls := .type "slice", data := .fields #[vl, vu, .none] } } := fun {r} hr q3 => by
    obtain ⟨T, id, hT, ht, hg⟩ := hr pins { s3 with heap := s3.heap.push { cls := .type "slice", data := .fields #[vl, vu, .none] } } σ H3 x v vl vu l h s3.heap.objs.size Q I4 r1 (Heap.IsSliceOf.new ..) pl pu q3
    exact PyProof.Rows.tail_any (ops := [.ref s3.heap.objs.size, v]) ht hT hg (by with_unfolding_all rfl)
  cases ex : view μ3 d with
  | tup xs =>
    rw [ex] at P3
    obtain ⟨p, vs, e0, hs', rs, z0⟩ := view_tup S3.store q1 ex
    refine fin sl_tupA ⟨p, vs, e0, hs', fun ⟨z1, z2⟩ => ?_, fun _ q hq => ?_⟩
    · have e5 : cutL xs l h = xs := by
        rw [cutL_eq, ← rs.length, z1, z2]
        simp [rs.length]
      have P4 : PostE X.K W H3 C3 (Out.of (some (.tup (cutL xs l h))) μ3) Q := P3
      rw [e5] at P4
      exact PostE.val P4 S3.store (.tup hs' rs z0)
    · exact PostE.newT P3 S3.store (rs.cut l h) (Nat.le_trans (cut_len _ _ _) z0) hq
  | lst xs =>
    rw [ex] at P3
    obtain ⟨p, vs, e0, hs', rs, z0⟩ := view_lst S3.store q1 ex
    exact fin sl_list ⟨p, vs, e0, SqL.of hs', fun q hq => PostE.newL P3 S3.store (rs.cut l h) (Nat.le_trans (cut_len _ _ _) z0) hq⟩
  | _ => rw [ex] at P3; exact P3.elim
end
end Mi
/-! Mini: calls, built-ins. -/
namespace Mi
open PySem PySem.Spec PyProof.Rows L2
section
variable {X : Cx} {K : PySem.W.Frag} {W : Wish} {G : Glo} {m : ME} {ms : List ME} {a : Expr} {es : List Expr} {pins : List (Addr × Obj)} {s : Shared} {σ : L2.St} {H : Hp} {C : Ctx} {ρ : Env} {μ : Store} {pos : Pos}

/-! ### calls of defs -/
/-- a def's promise: what Mini's call hands back; WE: what is wanted of Mini's exceptions, by what is wanted of the model's -/
def spC (K : PySem.W.Frag) (WE : XK → Wish) (call : Nat → List D → Store → Out D) (f : Nat) : Sp := fun vs H Q E => ∃ C μ ds, StoreR K H C μ ∧ Rps K H C vs ds ∧ PostE K (WE E) H C (call f ds μ) Q
theorem m_call {CX : CXT} {WE : XK → Wish} {E : XK} {k f : Nat} {x : Str} {addr : Addr} {fd : FuncData} {ps : List Str} {p : Pos} {e : Expr} (F : FnOk X.prog X.w X.K X.mg X.base CX k addr fd ps (spC K WE G.call f)) (hx : Passes CX X E) (hr : Room k X.A) (hg : L2.Gl X x) (hm : X.mg x = some (.ref addr)) (hk : PySem.W.keepIn X.K (.ref addr) = true)
    (hb : Binds X.K fd ps []) (ha : PA X (e :: es) (tL K (WE E) G ms)) (hdb : (x == ("__debug__" : Str)) = false) (he : starEach (e :: es) X.env = (false, eval e X.env) :: starEach es X.env) (hpl : (backTo pos (starEach es X.env)).any (·.1) = false) :
    PE X (.Call (.Name x p) (e :: es) [] pos) (tE K (WE E) G (.call f ms)) := by
  refine ⟨fun pins s σ H Q I ⟨C, ρ, μ, S, P⟩ => ?_⟩
  simp only [evE] at P
  refine wpAny_Call_Name_kw (ld_glob I hg hm ?_ hdb)
  refine PySem.W.callWith_K (h₀ := X.base) I.ok.mod.kin hk (goLE ha I S P fun ds μ1 us s1 vs H1 C1 I1 r1 p1 S1 e1 P1 => ⟨I1.kIn, ?_⟩) he hpl
  exact run_fn (E := E) (dvs := []) F hr hb .nil hx I1 r1 ⟨C1, μ1, ds, S1.store, by rw [List.append_nil]; exact p1, P1⟩
theorem m_call0 {CX : CXT} {WE : XK → Wish} {E : XK} {k f : Nat} {x : Str} {addr : Addr} {fd : FuncData} {ps : List Str} {p : Pos} (F : FnOk X.prog X.w X.K X.mg X.base CX k addr fd ps (spC K WE G.call f)) (hx : Passes CX X E) (hr : Room k X.A) (hg : L2.Gl X x) (hm : X.mg x = some (.ref addr)) (hk : PySem.W.keepIn X.K (.ref addr) = true)
    (hb : Binds X.K fd ps []) (hdb : (x == ("__debug__" : Str)) = false) : PE X (.Call (.Name x p) [] [] pos) (tE K (WE E) G (.call f [])) := by
  refine ⟨fun pins s σ H Q I ⟨C, ρ, μ, S, P⟩ => ?_⟩
  simp only [evE, evEs, Out.bind_ok] at P
  refine wpAny_Call_Name_kw (ld_glob I hg hm ?_ hdb)
  exact PySem.W.callWith_K0 I.kIn hk (run_fn (us := []) (E := E) (dvs := []) F hr hb .nil hx I .nil ⟨C, μ, [], S.store, .nil, P⟩)

/-! ### built-ins by values -/
def CallS (X : Cx) (K : PySem.W.Frag) (W : Wish) (f : Value) (F : List D → Store → Out D) : Prop :=
  ∀ (pins : List (Addr × Obj)) (s : Shared) (σ : L2.St) (H : Hp) (C : Ctx) (μ : Store) (vs : List V) (ds : List D) (us : List Value) (Q : VK), Inv X pins σ H s → StoreR K H C μ → Rps K H C vs ds → Vals vs us →
    PostE K W H C (F ds μ) Q → wpAny (model X.prog X.w) X.A (call f us) (EP X pins σ Q) X.xe s
theorem m_callB {F : List D → Store → Out D} {x : Str} {id : String} {p : Pos} {e : Expr} (hc : CallS X K W (.builtin id) F) (hg : L2.Gl X x) (hm : X.mg x = none) (hv : bootBuiltins x = some (.builtin id)) (ha : PA X (e :: es) (tL K W G ms)) (hn : x ≠ "__name__") (hdb : (x == ("__debug__" : Str)) = false)
    (he : starEach (e :: es) X.env = (false, eval e X.env) :: starEach es X.env) (hpl : (backTo pos (starEach es X.env)).any (·.1) = false) (ee : ∀ ρ μ, evE G m ρ μ = (evEs G ms ρ μ).bind F) : PE X (.Call (.Name x p) (e :: es) [] pos) (tE K W G m) := by
  refine ⟨fun pins s σ H Q I ⟨C, ρ, μ, S, P⟩ => ?_⟩
  rw [ee] at P
  refine wpAny_Call_Name_kw (ld_blt I hg hm hv ?_ hn hdb)
  exact PyProof.Rows.callWith_builtin1 (goLE ha I S P fun ds μ1 us s1 vs H1 C1 I1 r1 p1 S1 e1 P1 => hc pins s1 σ H1 C1 μ1 vs ds us Q I1 S1.store p1 r1 P1) he hpl
theorem m_callT {F : List D → Store → Out D} {x : Str} {T : String} {p : Pos} {e : Expr} (hc : CallS X K W (.type T) F) (hg : L2.Gl X x) (hm : X.mg x = none) (hv : bootBuiltins x = some (.type T)) (ha : PA X (e :: es) (tL K W G ms)) (hn : x ≠ "__name__") (hdb : (x == ("__debug__" : Str)) = false)
    (he : starEach (e :: es) X.env = (false, eval e X.env) :: starEach es X.env) (hpl : (backTo pos (starEach es X.env)).any (·.1) = false) (ee : ∀ ρ μ, evE G m ρ μ = (evEs G ms ρ μ).bind F) : PE X (.Call (.Name x p) (e :: es) [] pos) (tE K W G m) := by
  refine ⟨fun pins s σ H Q I ⟨C, ρ, μ, S, P⟩ => ?_⟩
  rw [ee] at P
  refine wpAny_Call_Name_kw (ld_blt I hg hm hv ?_ hn hdb)
  exact PyProof.Rows.callWith_type1 (goLE ha I S P fun ds μ1 us s1 vs H1 C1 I1 r1 p1 S1 e1 P1 => hc pins s1 σ H1 C1 μ1 vs ds us Q I1 S1.store p1 r1 P1) he hpl

def biF (b : Bi) : List D → Store → Out D := fun xs μ => Out.of (biD b (xs.map (view μ))) μ
/-- one argument -/
theorem one_arg {b : Bi} {vs : List V} {ds : List D} {Q : VK} (r : Rps K H C vs ds) (h : PostE K W H C (biF b ds μ) Q) (h0 : biD b [] = none) (h2 : ∀ x y r, biD b (x :: y :: r) = none) :
    ∃ v d, vs = [v] ∧ ds = [d] ∧ Rp K H C v d ∧ PostE K W H C (Out.of (biD b [view μ d]) μ) Q := by
  unfold biF at h
  cases r with
  | nil => rw [List.map_nil, h0] at h; exact h.elim
  | cons r1 r2 =>
    cases r2 with
    | nil => exact ⟨_, _, rfl, rfl, r1, h⟩
    | cons r2 r3 => rw [List.map_cons, List.map_cons, h2] at h; exact h.elim
theorem s_len (hK : X.K = K) : CallS X K W (.builtin "len") (biF .len) := by
  subst hK
  intro pins s σ H C μ vs ds us Q I S r rv P
  obtain ⟨v, d, rfl, rfl, r1, P⟩ := one_arg r P rfl (fun _ _ _ => by simp [biD])
  cases ex : view μ d with
  | tup xs =>
    rw [ex] at P
    obtain ⟨a, ws, rfl, q1, q2, z1⟩ := view_tup S r1 ex
    refine call_len_seq pins s σ H _ us Q I rv ⟨a, ws, rfl, .inr q1, ?_⟩
    rw [q2.length]
    exact PostE.val P S (.int _)
  | lst xs =>
    rw [ex] at P
    obtain ⟨a, ws, rfl, q1, q2, z1⟩ := view_lst S r1 ex
    refine call_len_seq pins s σ H _ us Q I rv ⟨a, ws, rfl, .inl (SqL.of q1), ?_⟩
    rw [q2.length]
    exact PostE.val P S (.int _)
  | scr xs =>
    rw [ex] at P
    have e0 := view_id S r1 ex (fun _ z => by cases z)
    subst e0
    cases r1 with
    | scr q1 =>
      refine call_len_seq pins s σ H _ us Q I rv ⟨_, _, rfl, .inl q1.sq, ?_⟩
      rw [List.length_map]
      exact PostE.val P S (.int _)
  | _ => rw [ex] at P; exact P.elim
theorem s_int (hK : X.K = K) : CallS X K W (.type "int") (biF .toInt) := by
  subst hK
  intro pins s σ H C μ vs ds us Q I S r rv P
  obtain ⟨v, d, rfl, rfl, r1, P⟩ := one_arg r P rfl (fun _ _ _ => by simp [biD])
  cases ex : view μ d with
  | int i =>
    rw [ex] at P
    exact call_int1 pins s σ H _ us Q I rv (.inl ⟨i, by rw [view_int S r1 ex], PostE.val P S (.int _)⟩)
  | bl b =>
    rw [ex] at P
    exact call_int1 pins s σ H _ us Q I rv (.inr ⟨b, by rw [view_bl S r1 ex], PostE.val P S (.int _)⟩)
  | _ => rw [ex] at P; exact P.elim
theorem s_abs (hK : X.K = K) : CallS X K W (.builtin "abs") (biF .abs) := by
  subst hK
  intro pins s σ H C μ vs ds us Q I S r rv P
  obtain ⟨v, d, rfl, rfl, r1, P⟩ := one_arg r P rfl (fun _ _ _ => by simp [biD])
  cases ex : view μ d with
  | int i =>
    rw [ex] at P
    exact call_abs pins s σ H _ us Q I rv ⟨i, by rw [view_int S r1 ex], PostE.val P S (.int _)⟩
  | _ => rw [ex] at P; exact P.elim
theorem s_tuple (hK : X.K = K) : CallS X K W (.type "tuple") (biF .tuple) := by
  subst hK
  intro pins s σ H C μ vs ds us Q I S r rv P
  obtain ⟨v, d, rfl, rfl, r1, P⟩ := one_arg r P rfl (fun _ _ _ => by simp [biD])
  cases ex : view μ d with
  | tup xs =>
    rw [ex] at P
    obtain ⟨a, ws, rfl, q1, q2, z1⟩ := view_tup S r1 ex
    exact call_tuple_of pins s σ H _ us Q I rv ⟨a, ws, rfl, .inr ⟨q1, PostE.val P S (.tup q1 q2 z1)⟩⟩
  | lst xs =>
    rw [ex] at P
    obtain ⟨a, ws, rfl, q1, q2, z1⟩ := view_lst S r1 ex
    exact call_tuple_of pins s σ H _ us Q I rv ⟨a, ws, rfl, .inl ⟨SqL.of q1, fun p hp => PostE.newT P S q2 z1 hp⟩⟩
  | _ => rw [ex] at P; exact P.elim
theorem s_list (hK : X.K = K) : CallS X K W (.type "list") (biF .list) := by
  subst hK
  intro pins s σ H C μ vs ds us Q I S r rv P
  obtain ⟨v, d, rfl, rfl, r1, P⟩ := one_arg r P rfl (fun _ _ _ => by simp [biD])
  cases ex : view μ d with
  | tup xs =>
    rw [ex] at P
    obtain ⟨a, ws, rfl, q1, q2, z1⟩ := view_tup S r1 ex
    exact call_list_of pins s σ H _ us Q I rv ⟨a, ws, rfl, .inr q1, fun p hp => PostE.newL P S q2 z1 hp⟩
  | lst xs =>
    rw [ex] at P
    obtain ⟨a, ws, rfl, q1, q2, z1⟩ := view_lst S r1 ex
    exact call_list_of pins s σ H _ us Q I rv ⟨a, ws, rfl, .inl (SqL.of q1), fun p hp => PostE.newL P S q2 z1 hp⟩
  | _ => rw [ex] at P; exact P.elim
theorem s_all (hK : X.K = K) (hc : X.calm = true) : CallS X K W (.builtin "all") (biF .all) := by
  subst hK
  intro pins s σ H C μ vs ds us Q I S r rv P
  obtain ⟨v, d, rfl, rfl, r1, P⟩ := one_arg r P rfl (fun _ _ _ => by simp [biD])
  cases ex : view μ d with
  | lst xs =>
    rw [ex] at P
    obtain ⟨a, ws, rfl, q1, q2, z1⟩ := view_lst S r1 ex
    simp only [biD] at P
    cases q : boolsOf xs with
    | none => rw [q] at P; exact P.elim
    | some bs =>
      rw [q] at P
      have e := Rps.bools q2 q
      subst e
      exact cr_all hc pins s σ H _ us Q I rv ⟨a, bs, rfl, SqL.of q1, PostE.val P S (.bl _)⟩
  | _ => rw [ex] at P; exact P.elim
/-! ### isinstance -/
def tyN : Ty → String
  | .int => "int"
  | .bool => "bool"
  | .str => "str"
  | .tup => "tuple"
  | .lst => "list"
theorem kb_non (t : Ty) : kitB "NoneType" (tyN t) = some (isaD t .non) := by cases t <;> decide +kernel
theorem kb_bl (t : Ty) : kitB "bool" (tyN t) = some (isaD t (.bl true)) := by cases t <;> decide +kernel
theorem kb_int (t : Ty) : kitB "int" (tyN t) = some (isaD t (.int 0)) := by cases t <;> decide +kernel
theorem kb_str (t : Ty) : kitB "str" (tyN t) = some (isaD t (.str ⟨#[]⟩)) := by cases t <;> decide +kernel
theorem kb_tup (t : Ty) : kitB "tuple" (tyN t) = some (isaD t (.tup [])) := by cases t <;> decide +kernel
theorem kb_lst (t : Ty) : kitB "list" (tyN t) = some (isaD t (.lst [])) := by cases t <;> decide +kernel
theorem isa_cls (S : StoreR K H C μ) {v : V} {d : D} (r : Rp K H C v d) (n : plain (view μ d) = true) (t : Ty) : ∃ ty : String, TyX K H v (.type ty) ∧ kitB ty (tyN t) = some (isaD t (view μ d)) := by
  cases ex : view μ d with
  | non => exact ⟨"NoneType", by rw [view_non S r ex]; exact .base .non, kb_non t⟩
  | bl b => exact ⟨"bool", by rw [view_bl S r ex]; exact .base (.bl b), by rw [kb_bl]; cases t <;> rfl⟩
  | int i => exact ⟨"int", by rw [view_int S r ex]; exact .base (.int i), by rw [kb_int]; cases t <;> rfl⟩
  | str x => exact ⟨"str", by rw [(view_str S r ex).1]; exact .base (.str x), by rw [kb_str]; cases t <;> rfl⟩
  | tup xs =>
    obtain ⟨a, vs, rfl, q1, q2, z1⟩ := view_tup S r ex
    refine ⟨"tuple", ?_, by rw [kb_tup]; cases t <;> rfl⟩
    rcases q1 with (q | ⟨o, q⟩) | ⟨o, _, _, e, c, _⟩
    · exact .base (.tup q)
    · exact .fTuple q
    · exact .kTuple e c
  | lst xs =>
    obtain ⟨a, vs, rfl, q1, q2, z1⟩ := view_lst S r ex
    exact ⟨"list", .base (.lst q1), by rw [kb_lst]; cases t <;> rfl⟩
  | ref k => rw [ex] at n; cases n
  | clo l cs => rw [ex] at n; cases n
  | scr xs => rw [ex] at n; cases n
theorem m_isa {x : Str} {t : Ty} {p p2 : Pos} (hK : X.K = K) (ha : PE X a (tE K W G m)) (hg : L2.Gl X "isinstance") (hm : X.mg "isinstance" = none) (hg2 : L2.Gl X x) (hm2 : X.mg x = none) (hv : bootBuiltins x = some (.type (tyN t))) (hn : x ≠ "__name__") (hdb : (x == ("__debug__" : Str)) = false)
    (he : starEach [a, .Name x p2] X.env = [(false, eval a X.env), (false, eval (.Name x p2) X.env)]) (he2 : starEach [.Name x p2] X.env = [(false, eval (.Name x p2) X.env)]) : PE X (.Call (.Name "isinstance" p) [a, .Name x p2] [] pos) (tE K W G (.bi (.isa t) [m])) := by
  subst hK
  refine ⟨fun pins s σ H Q I ⟨C, ρ, μ, S, P⟩ => ?_⟩
  simp only [evE, evEs] at P
  have P' : PostE X.K W H C ((evE G m ρ μ).bind fun d μ1 => Out.of (biD (.isa t) [view μ1 d]) μ1) Q := by
    cases q : evE G m ρ μ with
    | ok d μ1 => rw [q] at P; exact P
    | err _ _ => rw [q] at P; exact P
    | bad => rw [q] at P; exact P
  have PA2 : PA X [a, .Name x p2] (tCons (fun σ H Q => ∃ C ρ μ, StR X.K σ H C ρ μ ∧ PostE X.K W H C (evE G m ρ μ) Q) (tCons (tC (.ty (tyN t))) tNil)) :=
    pa_cons ha (pa_cons (pe_bltn hg2 hm2 hv rfl hn hdb) pa_nil he2) (by rw [he, he2])
  refine wpAny_Call_Name_kw (ld_blt I hg hm PyProof.Rows.boot_isinstance ?_ (by decide +kernel) (by decide +kernel))
  refine PyProof.Rows.callWith_builtin1 ?_ (by rw [he, he2]) (by rw [he2]; rfl)
  have fin : ∀ (us : List Value) (s1 : Shared), AP X pins σ (fun vs H1 => ∃ x d μ1 C1, vs = [x, .ty (tyN t)] ∧ StoreR X.K H1 C1 μ1 ∧ Rp X.K H1 C1 x d ∧ PostE X.K W H1 C1 (Out.of (biD (.isa t) [view μ1 d]) μ1) Q) us s1 → wpAny (model X.prog X.w) X.A (call (.builtin "isinstance") us) (EP X pins σ Q) X.xe s1 := by
    rintro us s1 ⟨vs, H1, I1, rv, x, d, μ1, C1, rfl, S1, r1, P1⟩
    simp only [biD] at P1
    split at P1
    · rename_i hz
      obtain ⟨ty, h1, h2⟩ := isa_cls S1 r1 hz t
      exact call_isi pins s1 σ H1 _ us Q I1 rv ⟨x, _, _, _, _, rfl, .ty _, h1, kit_ty h2, PostE.val P1 S1 (.bl _)⟩
    · exact P1.elim
  refine thn (PA2.run pos pins s σ H (fun vs H1 => ∃ x d μ1 C1, vs = [x, .ty (tyN t)] ∧ StoreR X.K H1 C1 μ1 ∧ Rp X.K H1 C1 x d ∧ PostE X.K W H1 C1 (Out.of (biD (.isa t) [view μ1 d]) μ1) Q) I ?_) fin
  refine ⟨C, ρ, μ, S, ?_⟩
  cases q : evE G m ρ μ with
  | ok d μ1 =>
    rw [q] at P'
    exact fun v H' C' e S' r => ⟨v, d, μ1, C', rfl, S', r, PostE.ext P' e⟩
  | err x μ1 =>
    rw [q] at P'
    exact P'
  | bad => rw [q] at P'; exact P'.elim

/-! ### min, max -/
theorem ints_map : ∀ (ns : List Int), intsOf (ns.map D.int) = some ns
  | [] => rfl
  | n :: ns => by simp [intsOf, ints_map ns]
theorem minL_mem : ∀ (r : List Int) (m : Int), minL m r ∈ m :: r ∧ ∀ y ∈ m :: r, minL m r ≤ y
  | [], m => ⟨by simp [minL], fun y hy => by simp at hy; subst hy; simp [minL]⟩
  | x :: r, m => by
    obtain ⟨h1, h2⟩ := minL_mem r (if x < m then x else m)
    unfold minL
    by_cases h : x < m
    · rw [if_pos h] at h1 h2 ⊢
      refine ⟨List.mem_cons_of_mem _ h1, fun y hy => ?_⟩
      rcases List.mem_cons.mp hy with e | hy
      · subst e
        have := h2 x (List.mem_cons_self ..)
        omega
      · exact h2 y hy
    · rw [if_neg h] at h1 h2 ⊢
      refine ⟨?_, fun y hy => ?_⟩
      · rcases List.mem_cons.mp h1 with e | e
        · rw [e]
          exact List.mem_cons_self ..
        · exact List.mem_cons_of_mem _ (List.mem_cons_of_mem _ e)
      · rcases List.mem_cons.mp hy with e | hy
        · subst e
          exact h2 _ (List.mem_cons_self ..)
        · rcases List.mem_cons.mp hy with e | hy
          · subst e
            have := h2 m (List.mem_cons_self ..)
            omega
          · exact h2 y (List.mem_cons_of_mem _ hy)
theorem maxL_mem : ∀ (r : List Int) (m : Int), maxL m r ∈ m :: r ∧ ∀ y ∈ m :: r, y ≤ maxL m r
  | [], m => ⟨by simp [maxL], fun y hy => by simp at hy; subst hy; simp [maxL]⟩
  | x :: r, m => by
    obtain ⟨h1, h2⟩ := maxL_mem r (if m < x then x else m)
    unfold maxL
    by_cases h : m < x
    · rw [if_pos h] at h1 h2 ⊢
      refine ⟨List.mem_cons_of_mem _ h1, fun y hy => ?_⟩
      rcases List.mem_cons.mp hy with e | hy
      · subst e
        have := h2 x (List.mem_cons_self ..)
        omega
      · exact h2 y hy
    · rw [if_neg h] at h1 h2 ⊢
      refine ⟨?_, fun y hy => ?_⟩
      · rcases List.mem_cons.mp h1 with e | e
        · rw [e]
          exact List.mem_cons_self ..
        · exact List.mem_cons_of_mem _ (List.mem_cons_of_mem _ e)
      · rcases List.mem_cons.mp hy with e | hy
        · subst e
          exact h2 _ (List.mem_cons_self ..)
        · rcases List.mem_cons.mp hy with e | hy
          · subst e
            have := h2 m (List.mem_cons_self ..)
            omega
          · exact h2 y (List.mem_cons_of_mem _ hy)
theorem s_max (hK : X.K = K) (hc : X.calm = true) : CallS X K W (.builtin "max") (biF .max) := by
  subst hK
  intro pins s σ H C μ vs ds us Q I S r rv P
  unfold biF at P
  cases r with
  | nil => exact P.elim
  | cons r1 r2 =>
    cases r2 with
    | nil =>
      rename_i v d
      simp only [List.map_cons, List.map_nil] at P
      cases ex : view μ d with
      | lst xs =>
        rw [ex] at P
        obtain ⟨a, ws, rfl, q1, q2, z1⟩ := view_lst S r1 ex
        simp only [biD] at P
        cases q : intsOf xs with
        | none => rw [q] at P; exact P.elim
        | some ns =>
          cases ns with
          | nil => rw [q] at P; exact P.elim
          | cons n ns =>
            rw [q] at P
            obtain ⟨e, _⟩ := Rps.ints q2 q
            subst e
            refine cr_max hc pins s σ H _ us Q I rv ⟨a, n :: ns, rfl, SqL.of q1, by simp, fun m hm hle => ?_⟩
            obtain ⟨h1, h2⟩ := maxL_mem ns n
            have e : m = maxL n ns := by
              have := hle _ h1
              have := h2 _ hm
              omega
            rw [e]
            exact PostE.val P S (.int _)
      | _ => rw [ex] at P; exact P.elim
    | cons r2 r3 =>
      cases r3 with
      | nil =>
        rename_i v d v2 d2
        simp only [List.map_cons, List.map_nil] at P
        cases ex : view μ d with
        | int i =>
          cases ey : view μ d2 with
          | int j =>
            rw [ex, ey] at P
            exact call_max2 hc pins s σ H _ us Q I rv ⟨i, j, by rw [view_int S r1 ex, view_int S r2 ey], PostE.val P S (.int _)⟩
          | _ => rw [ex, ey] at P; exact P.elim
        | _ => rw [ex] at P; exact P.elim
      | cons r3 r4 =>
        simp [biD] at P
        exact P.elim
end
end Mi
/-! Mini: targets, what is walked, comprehensions. -/
namespace Mi
open PySem PySem.Spec PyProof.Rows L2

/-! ### targets -/
mutual
def slotsT : MT → List Nat
  | .nm i => [i]
  | .tp ts => slotsTs ts
def slotsTs : List MT → List Nat
  | [] => []
  | t :: ts => slotsT t ++ slotsTs ts
end
/-- σ' is σ but at is -/
def But (is : List Nat) (σ σ' : L2.St) : Prop := σ'.length = σ.length ∧ ∀ i, i ∉ is → σ'[i]? = σ[i]?
theorem But.refl {is : List Nat} {σ : L2.St} : But is σ σ := ⟨rfl, fun _ _ => rfl⟩
theorem But.trans {is js : List Nat} {σ σ' σ'' : L2.St} (a : But is σ σ') (b : But js σ' σ'') : But (is ++ js) σ σ'' :=
  ⟨b.1.trans a.1, fun i hi => (b.2 i fun z => hi (List.mem_append_right _ z)).trans (a.2 i fun z => hi (List.mem_append_left _ z))⟩
theorem wipe_get (σ : L2.St) : ∀ (vs : List Nat) (j : Nat), (wipe σ vs)[j]? = if j ∈ vs then (if j < σ.length then some none else none) else σ[j]?
  | [], j => by simp [wipe]
  | v :: vs, j => by
    have ih := wipe_get σ vs j
    unfold wipe
    by_cases h : j = v
    · subst h
      rw [if_pos (List.mem_cons_self ..)]
      by_cases hl : j < σ.length
      · rw [if_pos hl, List.getElem?_set_self (by rw [wipe_length]; exact hl)]
      · rw [if_neg hl, List.getElem?_eq_none (by rw [List.length_set, wipe_length]; omega)]
    · rw [List.getElem?_set_ne (Ne.symm h), ih]
      by_cases hm : j ∈ vs
      · rw [if_pos hm, if_pos (List.mem_cons_of_mem _ hm)]
      · rw [if_neg hm, if_neg (by simp [h, hm])]
theorem But.wipe {is vs : List Nat} {σ σ' : L2.St} (a : But is σ σ') (h : ∀ i ∈ is, i ∈ vs) : L2.wipe σ' vs = L2.wipe σ vs := by
  apply List.ext_getElem?
  intro j
  rw [wipe_get, wipe_get, a.1]
  by_cases hm : j ∈ vs
  · rw [if_pos hm, if_pos hm]
  · rw [if_neg hm, if_neg hm]
    exact a.2 j fun z => hm (h j z)
theorem wipe_wipe (σ : L2.St) (vs : List Nat) : L2.wipe (L2.wipe σ vs) vs = L2.wipe σ vs := by
  apply List.ext_getElem?
  intro j
  rw [wipe_get, wipe_get, wipe_length]
  by_cases hm : j ∈ vs
  · rw [if_pos hm, if_pos hm]
  · rw [if_neg hm, if_neg hm]
section
variable {X : Cx} {K : PySem.W.Frag} {W : Wish} {G : Glo} {pins : List (Addr × Obj)} {s : Shared} {σ : L2.St} {H : Hp} {C : Ctx} {ρ : Env} {μ : Store} {pos : Pos}
theorem look_set {i j : Nat} {d : Option D} : look (ρ.set i d) j = if i = j ∧ j < ρ.length then d else look ρ j := by
  unfold look
  by_cases h : i = j
  · subst h
    by_cases hl : i < ρ.length
    · rw [List.getElem?_set_self hl, if_pos ⟨rfl, hl⟩]
      cases d <;> rfl
    · rw [List.getElem?_eq_none (by simpa using hl), if_neg (by simp [hl]), List.getElem?_eq_none (by simpa using hl)]
  · rw [List.getElem?_set_ne h, if_neg (by simp [h])]
theorem StR.set {i : Nat} {v : V} {d : D} (S : StR K σ H C ρ μ) (r : Rp K H C v d) : StR K (σ.set i (some v)) H C (ρ.set i (some d)) μ := by
  refine ⟨fun j e h => ?_, by rw [List.length_set, List.length_set]; exact S.len, S.store⟩
  rw [look_set] at h
  split at h
  · rename_i hc
    obtain ⟨rfl, hl⟩ := hc
    cases h
    exact ⟨v, List.getElem?_set_self (by rw [← S.len]; exact hl), r⟩
  · rename_i hc
    obtain ⟨w', h1, h2⟩ := S.slots j e h
    refine ⟨w', ?_, h2⟩
    by_cases hj : i = j
    · subst hj
      have : i < ρ.length := by
        unfold look at h
        cases q : ρ[i]? with
        | none => rw [q] at h; cases h
        | some _ => exact (List.getElem?_eq_some_iff.mp q).1
      exact (hc ⟨rfl, this⟩).elim
    · rw [List.getElem?_set_ne hj]
      exact h1
theorem wipeE_get (ρ : Env) : ∀ (vs : List Nat) (j : Nat), look (wipeE ρ vs) j = if j ∈ vs then none else look ρ j
  | [], j => by simp [wipeE]
  | v :: vs, j => by
    unfold wipeE
    rw [look_set, wipeE_get ρ vs j]
    by_cases h : v = j
    · subst h
      rw [if_pos (List.mem_cons_self ..)]
      split
      · rfl
      · split
        · rfl
        · rename_i hl _
          have hl' : ¬ v < ρ.length := fun z => hl ⟨rfl, by
            have : ∀ l : List Nat, (wipeE ρ l).length = ρ.length := fun l => by
              induction l with
              | nil => rfl
              | cons a l ih => unfold wipeE; rw [List.length_set, ih]
            rw [this]; exact z⟩
          unfold look
          rw [List.getElem?_eq_none (by omega)]
    · rw [if_neg (by simp [h])]
      by_cases hm : j ∈ vs
      · rw [if_pos hm, if_pos (List.mem_cons_of_mem _ hm)]
      · rw [if_neg hm, if_neg (by simp [Ne.symm h, hm])]
theorem wipeE_len (ρ : Env) : ∀ l : List Nat, (wipeE ρ l).length = ρ.length
  | [] => rfl
  | a :: l => by unfold wipeE; rw [List.length_set, wipeE_len ρ l]
theorem StR.wipe (S : StR K σ H C ρ μ) (vs : List Nat) : StR K (L2.wipe σ vs) H C (wipeE ρ vs) μ := by
  refine ⟨fun j e h => ?_, by rw [wipeE_len, wipe_length]; exact S.len, S.store⟩
  rw [wipeE_get] at h
  split at h
  · cases h
  · rename_i hm
    obtain ⟨w', h1, h2⟩ := S.slots j e h
    exact ⟨w', by rw [wipe_get, if_neg hm]; exact h1, h2⟩
/-- a target's reading -/
def tG (K : PySem.W.Frag) (t : MT) : TG := fun v σ H Q => ∃ C ρ μ d, StR K σ H C ρ μ ∧ Rp K H C v d ∧ ∃ ρ', bindT t d ρ = some ρ' ∧ ∀ σ', StR K σ' H C ρ' μ → But (slotsT t) σ σ' → Q σ' H
def tGs (K : PySem.W.Frag) (ts : List MT) : TGs := fun vs σ H Q => ∃ C ρ μ ds, StR K σ H C ρ μ ∧ Rps K H C vs ds ∧ ∃ ρ', bindTs ts ds ρ = some ρ' ∧ ∀ σ', StR K σ' H C ρ' μ → But (slotsTs ts) σ σ' → Q σ' H
theorem g_nm {i : Nat} {x : Str} (hN : X.N.Nodup) (hi : X.N[i]? = some x) (hx : Loc X.env.scope x) (hf : X.fn x = true ∨ X.env.scope.names.lookup x = some .local) : PG X (.Name x pos) (tG K (.nm i)) := by
  refine ⟨fun pins s σ H v u Q I r ⟨C, ρ, μ, d, S, rp, ρ', hb, q⟩ => ?_⟩
  refine (pg_name hN hi hx hf).run pins s σ H v u Q I r ?_
  cases hb
  refine q _ (S.set rp) ⟨by simp, fun j hj => ?_⟩
  have hj' : i ≠ j := fun z => hj (by simp [slotsT, z])
  exact List.getElem?_set_ne hj'
theorem g_nil : PGs X [] (tGs K []) := by
  refine ⟨fun pins s σ H vs us Q I r ⟨C, ρ, μ, ds, S, rp, ρ', hb, q⟩ => ?_⟩
  cases rp with
  | nil =>
    cases r
    cases hb
    exact assignInOrder_nil ⟨σ, H, I, q σ S But.refl⟩
  | cons _ _ => cases hb
theorem g_cons {e : Expr} {es : List Expr} {t : MT} {ts : List MT} (h1 : PG X e (tG K t)) (h2 : PGs X es (tGs K ts)) (hs : (assignEach (e :: es) X.env).map (·.2) = assign e X.env :: (assignEach es X.env).map (·.2)) : PGs X (e :: es) (tGs K (t :: ts)) := by
  refine ⟨fun pins s σ H vs us Q I r ⟨C, ρ, μ, ds, S, rp, ρ', hb, q⟩ => ?_⟩
  cases rp with
  | nil => cases hb
  | @cons v vs' d ds' rp1 rp2 =>
    cases r with
    | @cons _ u _ us' r rr =>
      rw [hs]
      simp only [bindTs] at hb
      cases q1 : bindT t d ρ with
      | none => rw [q1] at hb; cases hb
      | some ρ1 =>
        rw [q1] at hb
        refine assignInOrder_cons (thn (h1.run pins s σ H v u (fun σ1 H1 => H1 = H ∧ StR K σ1 H C ρ1 μ ∧ But (slotsT t) σ σ1) I r ⟨C, ρ, μ, d, S, rp1, ρ1, q1, fun σ' S' b => ⟨rfl, S', b⟩⟩) fun _ s1 ⟨σ1, H1, I1, e1, S1, b1⟩ => ?_)
        rw [e1] at I1
        refine h2.run pins s1 σ1 H vs' us' Q I1 rr ⟨C, ρ1, μ, ds', S1, rp2, ρ', hb, fun σ' S' b => q σ' S' (b1.trans b)⟩
theorem g_tp {es : List Expr} {k : Nat} {ts : List MT} (hK : X.K = K) (hc : X.calm = true) (h : PGs X es (tGs K ts)) (hn : (assignEach es X.env).length = ts.length) (hst : (assignEach es X.env).findIdx? (·.1) = none) : PG X (.Tuple es k pos) (tG K (.tp ts)) := by
  subst hK
  refine ⟨fun pins s σ H v u Q I r ⟨C, ρ, μ, d, S, rp, ρ', hb, q⟩ => ?_⟩
  refine (pg_tup (t := tGs X.K ts) (n := ts.length) hc h hn hst).run pins s σ H v u Q I r ?_
  cases d with
  | tup ds =>
    cases rp with
    | tup h1 h2 _ =>
      have hl : ∀ (ts : List MT) (ds : List D) (ρ ρ' : Env), bindTs ts ds ρ = some ρ' → ds.length = ts.length := by
        intro ts
        induction ts with
        | nil => intro ds ρ ρ' e; cases ds with
          | nil => rfl
          | cons _ _ => cases e
        | cons t ts ih => intro ds ρ ρ' e; cases ds with
          | nil => cases e
          | cons d ds =>
            simp only [bindTs] at e
            cases q1 : bindT t d ρ with
            | none => rw [q1] at e; cases e
            | some ρ1 =>
              rw [q1] at e
              rw [List.length_cons, List.length_cons, ih ds ρ1 ρ' e]
      exact ⟨_, _, rfl, h1, by rw [h2.length]; exact hl ts ds ρ ρ' hb, C, ρ, μ, ds, S, h2, ρ', hb, q⟩
  | _ => cases hb

/-! ### what is walked -/
/-- the walk of an iterator over the items ds, while the arguments stand as ys -/
structure WalkM (K : PySem.W.Frag) (J : It) (vs : List V) (ds0 ys ds : List D) : Prop where
  goes : ∀ i H C μ, i < ds.length → StoreR K H C μ → Rps K H C vs ds0 → ds0.map (view μ) = ys → J.go i H
  stops : ∀ H C μ, StoreR K H C μ → Rps K H C vs ds0 → ds0.map (view μ) = ys → J.stop ds.length H
  yields : ∀ i x H C μ H' d, ds[i]? = some d → StoreR K H C μ → Rps K H C vs ds0 → ds0.map (view μ) = ys → J.yld i H x H' → Ext K H C H' C ∧ StoreR K H' C μ ∧ Rp K H' C x d
  size : ∀ H C μ, StoreR K H C μ → Rps K H C vs ds0 → ds0.map (view μ) = ys → ds.length ≤ sizeLine
def tI (K : PySem.W.Frag) (W : Wish) (G : Glo) (sr : Src) (ms : List ME) : TI := fun σ H R => ∃ C ρ μ, StR K σ H C ρ μ ∧ (match evEs G ms ρ μ with
  | .ok ds0 μ1 => ∃ ds, srcD sr (ds0.map (view μ1)) = some ds ∧ ∀ vs H1 C1 J, Ext K H C H1 C1 → StoreR K H1 C1 μ1 → Rps K H1 C1 vs ds0 → WalkM K J vs ds0 (ds0.map (view μ1)) ds → R J H1
  | .err e μ' => ∀ H' C', Ext K H C H' C' → StoreR K H' C' μ' → W e μ' H' C'
  | .bad => False)
theorem walkM_list {a : Addr} {ds : List D} {d : D} : WalkM K (Itl K a) [.ref a] [d] [.lst ds] ds where
  goes := fun i H C μ hi S r e => by
    cases r with
    | cons r1 r2 =>
      have e' : view μ d = .lst ds := by simpa using e
      obtain ⟨b, ws, q1, q2, q3, q4⟩ := view_lst S r1 e'
      cases q1
      obtain ⟨w', h1, _⟩ := q3.get (List.getElem?_eq_getElem hi)
      exact ⟨ws, w', SqL.of q2, h1⟩
  stops := fun H C μ S r e => by
    cases r with
    | cons r1 r2 =>
      have e' : view μ d = .lst ds := by simpa using e
      obtain ⟨b, ws, q1, q2, q3, q4⟩ := view_lst S r1 e'
      cases q1
      exact ⟨ws, SqL.of q2, Nat.le_of_eq q3.length⟩
  size := fun H C μ S r e => by
    cases r with
    | cons r1 r2 =>
      have e' : view μ d = .lst ds := by simpa using e
      obtain ⟨b, ws, q1, q2, q3, q4⟩ := view_lst S r1 e'
      exact q4
  yields := fun i x H C μ H' z hz S r e y => by
    cases r with
    | cons r1 r2 =>
      have e' : view μ d = .lst ds := by simpa using e
      obtain ⟨b, ws, q1, q2, q3, q4⟩ := view_lst S r1 e'
      cases q1
      obtain ⟨eH, y⟩ := y
      subst eH
      obtain ⟨w', h1, h2⟩ := q3.get hz
      have h3 := y ws (SqL.of q2)
      rw [h1] at h3
      cases h3
      exact ⟨Ext.refl, S, h2⟩
theorem walkM_tup {a : Addr} {ds : List D} {d : D} : WalkM K (Itt K a) [.ref a] [d] [.tup ds] ds where
  goes := fun i H C μ hi S r e => by
    cases r with
    | cons r1 r2 =>
      have e' : view μ d = .tup ds := by simpa using e
      obtain ⟨b, ws, q1, q2, q3, q4⟩ := view_tup S r1 e'
      cases q1
      obtain ⟨w', h1, _⟩ := q3.get (List.getElem?_eq_getElem hi)
      exact ⟨ws, w', q2, h1⟩
  stops := fun H C μ S r e => by
    cases r with
    | cons r1 r2 =>
      have e' : view μ d = .tup ds := by simpa using e
      obtain ⟨b, ws, q1, q2, q3, q4⟩ := view_tup S r1 e'
      cases q1
      exact ⟨ws, q2, Nat.le_of_eq q3.length⟩
  size := fun H C μ S r e => by
    cases r with
    | cons r1 r2 =>
      have e' : view μ d = .tup ds := by simpa using e
      obtain ⟨b, ws, q1, q2, q3, q4⟩ := view_tup S r1 e'
      exact q4
  yields := fun i x H C μ H' z hz S r e y => by
    cases r with
    | cons r1 r2 =>
      have e' : view μ d = .tup ds := by simpa using e
      obtain ⟨b, ws, q1, q2, q3, q4⟩ := view_tup S r1 e'
      cases q1
      obtain ⟨eH, y⟩ := y
      subst eH
      obtain ⟨w', h1, h2⟩ := q3.get hz
      have h3 := y ws q2
      rw [h1] at h3
      cases h3
      exact ⟨Ext.refl, S, h2⟩
theorem rangeD_get : ∀ (n : Nat) (lo : Int) (i : Nat) (d : D), (rangeD lo n)[i]? = some d → d = .int (lo + i)
  | 0, lo, i, d, h => by simp [rangeD] at h
  | n + 1, lo, 0, d, h => by simp [rangeD] at h; rw [← h]; simp
  | n + 1, lo, i + 1, d, h => by
    have h' : (rangeD (lo + 1) n)[i]? = some d := by simpa [rangeD] using h
    rw [rangeD_get n (lo + 1) i d h']
    congr 1
    omega
theorem rangeD_len : ∀ (n : Nat) (lo : Int), (rangeD lo n).length = n
  | 0, lo => rfl
  | n + 1, lo => by rw [rangeD, List.length_cons, rangeD_len n]
theorem walkM_rng {lo : Int} {n : Nat} {vs : List V} {ds0 ys : List D} (hz : n ≤ big) : WalkM K (Itr lo n) vs ds0 ys (rangeD lo n) where
  goes := fun i H C μ hi S r e => by rw [rangeD_len] at hi; exact hi
  stops := fun H C μ S r e => by rw [rangeD_len]; exact Nat.le_refl n
  size := fun H C μ S r e => by rw [rangeD_len, ← big_eq]; exact hz
  yields := fun i x H C μ H' z hz S r e y => by
    obtain ⟨eH, ex⟩ := y
    subst eH ex
    rw [rangeD_get n lo i z hz]
    exact ⟨Ext.refl, S, .int _⟩
theorem zipD_get : ∀ (xs ys : List D) (i : Nat) (d : D), (zipD xs ys)[i]? = some d → ∃ x y, xs[i]? = some x ∧ ys[i]? = some y ∧ d = .tup [x, y]
  | [], ys, i, d, h => by simp [zipD] at h
  | _ :: _, [], i, d, h => by simp [zipD] at h
  | x :: xs, y :: ys, 0, d, h => by simp [zipD] at h; exact ⟨x, y, rfl, rfl, h.symm⟩
  | x :: xs, y :: ys, i + 1, d, h => by
    have h' : (zipD xs ys)[i]? = some d := by simpa [zipD] using h
    obtain ⟨a, b, h1, h2, h3⟩ := zipD_get xs ys i d h'
    exact ⟨a, b, by simpa using h1, by simpa using h2, h3⟩
theorem zipD_len : ∀ (xs ys : List D), (zipD xs ys).length = min xs.length ys.length
  | [], ys => by simp [zipD]
  | _ :: _, [] => by simp [zipD]
  | x :: xs, y :: ys => by simp only [zipD, List.length_cons, zipD_len xs ys]; omega
theorem pair_new {v1 v2 : V} {d1 d2 : D} {T : Addr} (S : StoreR K H C μ) (h1 : Rp K H C v1 d1) (h2 : Rp K H C v2 d2) (hT : H T = none) : Ext K H C (upd H T (.tup [v1, v2])) C ∧ StoreR K (upd H T (.tup [v1, v2])) C μ ∧ Rp K (upd H T (.tup [v1, v2])) C (.ref T) (.tup [d1, d2]) :=
  ⟨Ext.new hT, S.new hT, Rp.newT hT (.cons h1 (.cons h2 .nil)) (by rw [sizeLine_eq]; simp)⟩
theorem walkM_zipL {a b : Addr} {xs ys : List D} {d e : D} : WalkM K (Itz K a b) [.ref a, .ref b] [d, e] [.lst xs, .lst ys] (zipD xs ys) where
  goes := fun i H C μ hi S r ev => by
    cases r with
    | cons r1 r2 =>
      cases r2 with
      | cons r2 r3 =>
        have e' : view μ d = .lst xs ∧ view μ e = .lst ys := by simpa using ev
        obtain ⟨_, ws, q1, q2, q3, q4⟩ := view_lst S r1 e'.1
        obtain ⟨_, zs, t1, t2, t3, t4⟩ := view_lst S r2 e'.2
        cases q1
        cases t1
        rw [zipD_len] at hi
        obtain ⟨w1, h1, _⟩ := q3.get (List.getElem?_eq_getElem (show i < xs.length by omega))
        obtain ⟨w2, h2, _⟩ := t3.get (List.getElem?_eq_getElem (show i < ys.length by omega))
        exact ⟨ws, zs, w1, w2, SqL.of q2, SqL.of t2, h1, h2⟩
  stops := fun H C μ S r ev => by
    cases r with
    | cons r1 r2 =>
      cases r2 with
      | cons r2 r3 =>
        have e' : view μ d = .lst xs ∧ view μ e = .lst ys := by simpa using ev
        obtain ⟨_, ws, q1, q2, q3, q4⟩ := view_lst S r1 e'.1
        obtain ⟨_, zs, t1, t2, t3, t4⟩ := view_lst S r2 e'.2
        cases q1
        cases t1
        refine ⟨ws, zs, SqL.of q2, SqL.of t2, ?_⟩
        rw [zipD_len, q3.length, t3.length]
        omega
  size := fun H C μ S r ev => by
    cases r with
    | cons r1 r2 =>
      cases r2 with
      | cons r2 r3 =>
        have e' : view μ d = .lst xs ∧ view μ e = .lst ys := by simpa using ev
        obtain ⟨_, ws, q1, q2, q3, q4⟩ := view_lst S r1 e'.1
        rw [zipD_len]
        exact Nat.le_trans (Nat.min_le_left _ _) q4
  yields := fun i x H C μ H' z hz S r ev y => by
    cases r with
    | cons r1 r2 =>
      cases r2 with
      | cons r2 r3 =>
        have e' : view μ d = .lst xs ∧ view μ e = .lst ys := by simpa using ev
        obtain ⟨_, ws, q1, q2, q3, q4⟩ := view_lst S r1 e'.1
        obtain ⟨_, zs, t1, t2, t3, t4⟩ := view_lst S r2 e'.2
        cases q1
        cases t1
        obtain ⟨dx, dy, g1, g2, rfl⟩ := zipD_get xs ys i z hz
        obtain ⟨w1, h1, k1⟩ := q3.get g1
        obtain ⟨w2, h2, k2⟩ := t3.get g2
        obtain ⟨T, x', y', rfl, hT, rfl, f1, f2⟩ := y
        have o1 := f1 ws (SqL.of q2)
        have o2 := f2 zs (SqL.of t2)
        rw [h1] at o1
        rw [h2] at o2
        cases o1
        cases o2
        exact pair_new S k1 k2 hT
theorem walkM_zipT {a b : Addr} {xs ys : List D} {d e : D} : WalkM K (RZ.ItzT K a b) [.ref a, .ref b] [d, e] [.tup xs, .tup ys] (zipD xs ys) where
  goes := fun i H C μ hi S r ev => by
    cases r with
    | cons r1 r2 =>
      cases r2 with
      | cons r2 r3 =>
        have e' : view μ d = .tup xs ∧ view μ e = .tup ys := by simpa using ev
        obtain ⟨_, ws, q1, q2, q3, q4⟩ := view_tup S r1 e'.1
        obtain ⟨_, zs, t1, t2, t3, t4⟩ := view_tup S r2 e'.2
        cases q1
        cases t1
        rw [zipD_len] at hi
        obtain ⟨w1, h1, _⟩ := q3.get (List.getElem?_eq_getElem (show i < xs.length by omega))
        obtain ⟨w2, h2, _⟩ := t3.get (List.getElem?_eq_getElem (show i < ys.length by omega))
        exact ⟨ws, zs, w1, w2, q2, t2, h1, h2⟩
  stops := fun H C μ S r ev => by
    cases r with
    | cons r1 r2 =>
      cases r2 with
      | cons r2 r3 =>
        have e' : view μ d = .tup xs ∧ view μ e = .tup ys := by simpa using ev
        obtain ⟨_, ws, q1, q2, q3, q4⟩ := view_tup S r1 e'.1
        obtain ⟨_, zs, t1, t2, t3, t4⟩ := view_tup S r2 e'.2
        cases q1
        cases t1
        refine ⟨ws, zs, q2, t2, ?_⟩
        rw [zipD_len, q3.length, t3.length]
        omega
  size := fun H C μ S r ev => by
    cases r with
    | cons r1 r2 =>
      cases r2 with
      | cons r2 r3 =>
        have e' : view μ d = .tup xs ∧ view μ e = .tup ys := by simpa using ev
        obtain ⟨_, ws, q1, q2, q3, q4⟩ := view_tup S r1 e'.1
        rw [zipD_len]
        exact Nat.le_trans (Nat.min_le_left _ _) q4
  yields := fun i x H C μ H' z hz S r ev y => by
    cases r with
    | cons r1 r2 =>
      cases r2 with
      | cons r2 r3 =>
        have e' : view μ d = .tup xs ∧ view μ e = .tup ys := by simpa using ev
        obtain ⟨_, ws, q1, q2, q3, q4⟩ := view_tup S r1 e'.1
        obtain ⟨_, zs, t1, t2, t3, t4⟩ := view_tup S r2 e'.2
        cases q1
        cases t1
        obtain ⟨dx, dy, g1, g2, rfl⟩ := zipD_get xs ys i z hz
        obtain ⟨w1, h1, k1⟩ := q3.get g1
        obtain ⟨w2, h2, k2⟩ := t3.get g2
        obtain ⟨T, x', y', rfl, hT, rfl, f1, f2⟩ := y
        have o1 := f1 ws q2
        have o2 := f2 zs t2
        rw [h1] at o1
        rw [h2] at o2
        cases o1
        cases o2
        exact pair_new S k1 k2 hT
theorem enumD_get : ∀ (xs : List D) (n i : Nat) (d : D), (enumD n xs)[i]? = some d → ∃ x, xs[i]? = some x ∧ d = .tup [.int (n + i : Nat), x]
  | [], n, i, d, h => by simp [enumD] at h
  | x :: xs, n, 0, d, h => by simp [enumD] at h; exact ⟨x, rfl, by rw [← h]; rfl⟩
  | x :: xs, n, i + 1, d, h => by
    have h' : (enumD (n + 1) xs)[i]? = some d := by simpa [enumD] using h
    obtain ⟨a, h1, h2⟩ := enumD_get xs (n + 1) i d h'
    refine ⟨a, by simpa using h1, ?_⟩
    rw [h2]
    congr 4
    omega
theorem enumD_len : ∀ (xs : List D) (n : Nat), (enumD n xs).length = xs.length
  | [], n => rfl
  | x :: xs, n => by rw [enumD, List.length_cons, List.length_cons, enumD_len xs]
theorem walkM_enum {a : Addr} {xs : List D} {d : D} : WalkM K (Ite K a) [.ref a] [d] [.lst xs] (enumD 0 xs) where
  goes := fun i H C μ hi S r ev => by
    cases r with
    | cons r1 r2 =>
      have e' : view μ d = .lst xs := by simpa using ev
      obtain ⟨_, ws, q1, q2, q3, q4⟩ := view_lst S r1 e'
      cases q1
      rw [enumD_len] at hi
      obtain ⟨w1, h1, _⟩ := q3.get (List.getElem?_eq_getElem hi)
      exact ⟨ws, w1, SqL.of q2, h1⟩
  stops := fun H C μ S r ev => by
    cases r with
    | cons r1 r2 =>
      have e' : view μ d = .lst xs := by simpa using ev
      obtain ⟨_, ws, q1, q2, q3, q4⟩ := view_lst S r1 e'
      cases q1
      exact ⟨ws, SqL.of q2, by rw [enumD_len, q3.length]; exact Nat.le_refl _⟩
  size := fun H C μ S r e => by
    cases r with
    | cons r1 r2 =>
      have e' : view μ d = .lst xs := by simpa using e
      obtain ⟨b, ws, q1, q2, q3, q4⟩ := view_lst S r1 e'
      rw [enumD_len]
      exact q4
  yields := fun i x H C μ H' z hz S r ev y => by
    cases r with
    | cons r1 r2 =>
      have e' : view μ d = .lst xs := by simpa using ev
      obtain ⟨_, ws, q1, q2, q3, q4⟩ := view_lst S r1 e'
      cases q1
      obtain ⟨dx, g1, rfl⟩ := enumD_get xs 0 i z hz
      obtain ⟨w1, h1, k1⟩ := q3.get g1
      obtain ⟨T, x', rfl, hT, rfl, f1⟩ := y
      have o1 := f1 ws (SqL.of q2)
      rw [h1] at o1
      cases o1
      have e3 : (D.int ((0 + i : Nat) : Int)) = .int (i : Nat) := by simp
      rw [e3]
      exact pair_new S (.int _) k1 hT
section
variable {tg : Expr} {R : It → Hp → Prop} {E : Value → Shared → Prop}
theorem it_list {a : Addr} (I : Inv X pins σ H s) (h : ∃ xs, SqL X.K H a xs) (q : R (Itl X.K a) H) : wpAny (model X.prog X.w) X.A (pyIter (.ref a)) (PIE X pins σ tg R) E s := by
  obtain ⟨xs, hq⟩ := h
  obtain ⟨its, rv, p, hz⟩ := I.list hq
  refine wpAny_pyIter_list p.isList ?_
  refine ⟨s.heap.objs.size, [s.heap.objs.size], _, _, H, rfl, I.kept (t' := s.toks) fun b o e => Heap.get?_push_of_some _ e, turn_list a _, ⟨_, Heap.get?_push_size _ rfl, rfl, rfl⟩, fun b hb => ?_, q⟩
  have e : b = s.heap.objs.size := by simpa using hb
  subst e
  exact I.fpOk (Nat.le_refl _) (I.hok.fresh (Nat.le_refl _))
theorem it_tup {a : Addr} (I : Inv X pins σ H s) (h : ∃ xs, SqT X.K H a xs) (q : R (Itt X.K a) H) : wpAny (model X.prog X.w) X.A (pyIter (.ref a)) (PIE X pins σ tg R) E s := by
  obtain ⟨xs, hq⟩ := h
  obtain ⟨its, rv, p, hz⟩ := I.tuple hq
  refine wpAny_pyIter_tuple (show s.heap.IsTuple a its.toArray from p) ?_
  refine ⟨s.heap.objs.size, [s.heap.objs.size], _, _, H, rfl, I.kept (t' := s.toks) fun b o e => Heap.get?_push_of_some _ e, turn_tuple a _, ⟨_, Heap.get?_push_size _ rfl, rfl, rfl⟩, fun b hb => ?_, q⟩
  have e : b = s.heap.objs.size := by simpa using hb
  subst e
  exact I.fpOk (Nat.le_refl _) (I.hok.fresh (Nat.le_refl _))
end
theorem i_seq {m : ME} {tg iter : Expr} (hK : X.K = K) (ha : PE X iter (tE K W G m)) : PI X tg iter (tI K W G .seq [m]) := by
  subst hK
  refine ⟨fun pins s σ H R I ⟨C, ρ, μ, S, P⟩ => ?_⟩
  simp only [evEs] at P
  cases q : evE G m ρ μ with
  | ok d μ1 =>
    rw [q] at P
    simp only [Out.bind_ok] at P
    obtain ⟨ds, hd, P⟩ := P
    refine thn (ha.run pins s σ H (fun x H1 => ∃ C1, Ext X.K H C H1 C1 ∧ StoreR X.K H1 C1 μ1 ∧ Rp X.K H1 C1 x d) I ⟨C, ρ, μ, S, by rw [q]; exact fun v H' C' e S' r => ⟨C', e, S', r⟩⟩) fun v s1 ⟨x, H1, I1, r1, C1, e1, S1, p1⟩ => ?_
    cases ex : view μ1 d with
    | lst xs =>
      obtain ⟨a, ws, rfl, q2, q3, q4⟩ := view_lst S1 p1 ex
      cases r1
      have e3 : ds = xs := by simp only [List.map_cons, List.map_nil, ex, srcD, items, Option.some.injEq] at hd; exact hd.symm
      subst e3
      exact it_list I1 ⟨ws, SqL.of q2⟩ (P [.ref a] H1 C1 _ e1 S1 (.cons p1 .nil) (by rw [List.map_cons, List.map_nil, ex]; exact walkM_list))
    | tup xs =>
      obtain ⟨a, ws, rfl, q2, q3, q4⟩ := view_tup S1 p1 ex
      cases r1
      have e3 : ds = xs := by simp only [List.map_cons, List.map_nil, ex, srcD, items, Option.some.injEq] at hd; exact hd.symm
      subst e3
      exact it_tup I1 ⟨ws, q2⟩ (P [.ref a] H1 C1 _ e1 S1 (.cons p1 .nil) (by rw [List.map_cons, List.map_nil, ex]; exact walkM_tup))
    | _ => simp [ex, srcD, items] at hd
  | err x μ1 =>
    rw [q] at P
    refine thn (ha.run pins s σ H (fun _ _ => False) I ⟨C, ρ, μ, S, by rw [q]; exact P⟩) fun v s1 ⟨_, _, _, _, z⟩ => z.elim
  | bad => rw [q] at P; exact P.elim
/-- the arguments of range, zip, enumerate -/
theorem goI {sr : Src} {ms : List ME} {es : List Expr} {R : List Value → Shared → Prop} {RI : It → Hp → Prop} (ha : PA X es (tL K W G ms)) (I : Inv X pins σ H s) (P : tI K W G sr ms σ H RI)
    (k : ∀ ds0 ds μ1 us s1 vs H1 C1, ds0.length = ms.length → Inv X pins σ H1 s1 → Vals vs us → Rps K H1 C1 vs ds0 → StoreR K H1 C1 μ1 → srcD sr (ds0.map (view μ1)) = some ds → (∀ J, WalkM K J vs ds0 (ds0.map (view μ1)) ds → RI J H1) → R us s1) :
    wpAny (model X.prog X.w) X.A (spliced (backTo pos (starEach es X.env))) R X.xe s := by
  obtain ⟨C, ρ, μ, S, P⟩ := P
  cases q : evEs G ms ρ μ with
  | ok ds0 μ1 =>
    rw [q] at P
    obtain ⟨ds, hd, P⟩ := P
    refine thn (ha.run pos pins s σ H (fun x H1 => ∃ C1, Ext K H C H1 C1 ∧ StoreR K H1 C1 μ1 ∧ Rps K H1 C1 x ds0) I ⟨C, ρ, μ, S, by rw [q]; exact fun v H' C' e S' r => ⟨C', e, S', r⟩⟩) fun us s1 ⟨vs, H1, I1, r1, C1, e1, S1, p1⟩ => ?_
    exact k ds0 ds μ1 us s1 vs H1 C1 (evEs_len q) I1 r1 p1 S1 hd fun J w => P vs H1 C1 J e1 S1 p1 w
  | err x μ1 =>
    rw [q] at P
    refine thn (ha.run pos pins s σ H (fun _ _ => False) I ⟨C, ρ, μ, S, by rw [q]; exact P⟩) fun v s1 ⟨_, _, _, _, z⟩ => z.elim
  | bad => rw [q] at P; exact P.elim
theorem inRange_iff {i : Int} (h : inRange i = true) : -(2 ^ 62) ≤ i ∧ i < 2 ^ 62 := by
  unfold inRange at h
  simpa using h
theorem rps1 {vs : List V} {ds : List D} (r : Rps K H C vs ds) (h : ds.length = 1) : ∃ v d, vs = [v] ∧ ds = [d] ∧ Rp K H C v d := by
  cases r with
  | nil => cases h
  | cons r1 r2 =>
    cases r2 with
    | nil => exact ⟨_, _, rfl, rfl, r1⟩
    | cons _ _ => simp at h
theorem rps2 {vs : List V} {ds : List D} (r : Rps K H C vs ds) (h : ds.length = 2) : ∃ v d v2 d2, vs = [v, v2] ∧ ds = [d, d2] ∧ Rp K H C v d ∧ Rp K H C v2 d2 := by
  cases r with
  | nil => cases h
  | cons r1 r2 =>
    obtain ⟨v2, d2, rfl, rfl, r3⟩ := rps1 r2 (by simpa using h)
    exact ⟨_, _, _, _, rfl, rfl, r1, r3⟩
theorem i_rng1 {m : ME} {tg a : Expr} {p : Pos} (hg : L2.Gl X "range") (hm : X.mg "range" = none) (ha : PA X [a] (tL K W G [m])) (hs : starEach [a] X.env = [(false, eval a X.env)]) : PI X tg (.Call (.Name "range" p) [a] [] pos) (tI K W G .rng [m]) := by
  refine ⟨fun pins s σ H R I P => ?_⟩
  refine Call_ (ld_blt I hg hm boot_range (PyProof.Rows.callWith_type1 (goI ha I P fun ds0 ds μ1 us s1 vs H1 C1 hl I1 r1 p1 S1 hd P1 => ?_) hs rfl))
  obtain ⟨v, d, ev0, ed0, k1⟩ := rps1 p1 hl
  subst ev0 ed0
  obtain ⟨u, eu, l1⟩ := vals1 r1
  subst eu
  cases ex : view μ1 d with
  | int j =>
    have ev := view_int S1 k1 ex
    subst ev
    obtain ⟨t, rfl⟩ := l1
    simp only [List.map_cons, List.map_nil, ex, srcD] at hd
    split at hd
    · rename_i hz
      cases hd
      rw [Bool.and_eq_true, decide_eq_true_eq] at hz
      obtain ⟨h1, h2⟩ := inRange_iff hz.1
      exact call_range_1 (range_it I1 (by omega) (by omega) h1 h2 (by simpa using P1 (Itr 0 j.toNat) (walkM_rng hz.2)))
    · cases hd
  | _ => simp [ex, srcD] at hd
theorem i_rng2 {m m2 : ME} {tg a b : Expr} {p : Pos} (hg : L2.Gl X "range") (hm : X.mg "range" = none) (ha : PA X [a, b] (tL K W G [m, m2])) (hs : starEach [a, b] X.env = [(false, eval a X.env), (false, eval b X.env)]) (hs2 : starEach [b] X.env = [(false, eval b X.env)]) :
    PI X tg (.Call (.Name "range" p) [a, b] [] pos) (tI K W G .rng [m, m2]) := by
  refine ⟨fun pins s σ H R I P => ?_⟩
  refine Call_ (ld_blt I hg hm boot_range (PyProof.Rows.callWith_type1 (goI ha I P fun ds0 ds μ1 us s1 vs H1 C1 hl I1 r1 p1 S1 hd P1 => ?_) (by rw [hs, hs2]) (by rw [hs2]; rfl)))
  obtain ⟨v, d, v2, d2, ev0, ed0, k1, k2⟩ := rps2 p1 hl
  subst ev0 ed0
  obtain ⟨u, u2, eu, l1, l2⟩ := vals2 r1
  subst eu
  cases ex : view μ1 d with
  | int i =>
    cases ey : view μ1 d2 with
    | int j =>
      have ev := view_int S1 k1 ex
      have ev2 := view_int S1 k2 ey
      subst ev ev2
      obtain ⟨t, rfl⟩ := l1
      obtain ⟨t', rfl⟩ := l2
      simp only [List.map_cons, List.map_nil, ex, ey, srcD] at hd
      split at hd
      · rename_i hz
        cases hd
        rw [Bool.and_eq_true, Bool.and_eq_true, decide_eq_true_eq] at hz
        obtain ⟨h1, h2⟩ := inRange_iff hz.1.1
        obtain ⟨h3, h4⟩ := inRange_iff hz.1.2
        exact call_range_2 (range_it I1 h1 h2 h3 h4 (P1 (Itr i (j - i).toNat) (walkM_rng hz.2)))
      · cases hd
    | _ => simp [ex, ey, srcD] at hd
  | _ => simp [ex, srcD] at hd
theorem i_zip {m m2 : ME} {a b : Expr} {p tpos : Pos} {elts : List Expr} {kk : Nat} (hK : X.K = K) (hg : L2.Gl X "zip") (hm : X.mg "zip" = none) (ha : PA X [a, b] (tL K W G [m, m2]))
    (hs : starEach [a, b] X.env = (false, eval a X.env) :: starEach [b] X.env) (hpl : (backTo pos (starEach [b] X.env)).any (·.1) = false) :
    PI X (.Tuple elts kk tpos) (.Call (.Name "zip" p) [a, b] [] pos) (tI K W G .zip [m, m2]) := by
  subst hK
  refine ⟨fun pins s σ H R I P => ?_⟩
  refine (RZ.pi_zipA hg hm (ta := fun σ H Q => tI X.K W G .zip [m, m2] σ H R ∧ ∀ vs H1 ds0 ds μ1 C1, ds0.length = 2 → Rps X.K H1 C1 vs ds0 → StoreR X.K H1 C1 μ1 → srcD .zip (ds0.map (view μ1)) = some ds → (∀ J, WalkM X.K J vs ds0 (ds0.map (view μ1)) ds → R J H1) → Q vs H1) ⟨fun pos pins s σ H Q I ⟨P, hQ⟩ => ?_⟩ hs hpl).run pins s σ H R I ⟨P, fun vs H1 ds0 ds μ1 C1 hl p1 S1 hd P1 => ?_⟩
  · refine goI ha I P fun ds0 ds μ1 us s1 vs H1 C1 hl I1 r1 p1 S1 hd P1 => ?_
    exact ⟨vs, H1, I1, r1, hQ vs H1 ds0 ds μ1 C1 hl p1 S1 hd P1⟩
  · obtain ⟨v, d, v2, d2, ev0, ed0, k1, k2⟩ := rps2 p1 hl
    subst ev0 ed0
    cases ex : view μ1 d with
    | lst xs =>
      cases ey : view μ1 d2 with
      | lst ys =>
        obtain ⟨a1, ws, rfl, q1, q2, _⟩ := view_lst S1 k1 ex
        obtain ⟨a2, zs, rfl, q3, q4, _⟩ := view_lst S1 k2 ey
        simp only [List.map_cons, List.map_nil, ex, ey, srcD, Option.some.injEq] at hd
        subst hd
        exact ⟨a1, a2, ws, zs, rfl, .inl ⟨SqL.of q1, SqL.of q3, P1 _ (by simp only [List.map_cons, List.map_nil, ex, ey]; exact walkM_zipL)⟩⟩
      | _ => simp [ex, ey, srcD] at hd
    | tup xs =>
      cases ey : view μ1 d2 with
      | tup ys =>
        obtain ⟨a1, ws, rfl, q1, q2, _⟩ := view_tup S1 k1 ex
        obtain ⟨a2, zs, rfl, q3, q4, _⟩ := view_tup S1 k2 ey
        simp only [List.map_cons, List.map_nil, ex, ey, srcD, Option.some.injEq] at hd
        subst hd
        exact ⟨a1, a2, ws, zs, rfl, .inr ⟨q1, q3, P1 _ (by simp only [List.map_cons, List.map_nil, ex, ey]; exact walkM_zipT)⟩⟩
      | _ => simp [ex, ey, srcD] at hd
    | _ => simp [ex, srcD] at hd
end
end Mi
/-! Mini: comprehensions. -/
namespace Mi
open PySem PySem.Spec PyProof.Rows L2
section
variable {X : Cx} {K : PySem.W.Frag} {W : Wish} {G : Glo} {pins : List (Addr × Obj)} {s : Shared} {σ : L2.St} {H H' : Hp} {C C' : Ctx} {ρ : Env} {μ μ' : Store} {pos : Pos}
/-- nothing may go wrong -/
abbrev W0 : Wish := fun _ _ _ _ => False

mutual
theorem deq_eq : ∀ (x y : D), deq x y = true → x = y
  | .non, y, h => by cases y <;> first | rfl | (simp [deq] at h)
  | .bl a, y, h => by cases y <;> first | (simp [deq] at h; done) | (simp [deq] at h; rw [h])
  | .int i, y, h => by cases y <;> first | (simp [deq] at h; done) | (simp [deq] at h; rw [h])
  | .str s, y, h => by cases y <;> first | (simp [deq] at h; done) | (simp [deq] at h; rw [h])
  | .tup xs, y, h => by
    cases y with
    | tup ys => rw [deqL_eq xs ys (by simpa [deq] using h)]
    | _ => simp [deq] at h
  | .lst xs, y, h => by
    cases y with
    | lst ys => rw [deqL_eq xs ys (by simpa [deq] using h)]
    | _ => simp [deq] at h
  | .ref i, y, h => by cases y <;> first | (simp [deq] at h; done) | (simp [deq] at h; rw [h])
  | .clo _ _, y, h => by simp [deq] at h
  | .scr xs, y, h => by cases y <;> first | (simp [deq] at h; done) | (simp [deq] at h; rw [h])
theorem deqL_eq : ∀ (xs ys : List D), deqL xs ys = true → xs = ys
  | [], ys, h => by cases ys with
    | nil => rfl
    | cons _ _ => simp [deqL] at h
  | x :: xs, ys, h => by cases ys with
    | nil => simp [deqL] at h
    | cons y ys =>
      have h' : deq x y = true ∧ deqL xs ys = true := by simpa [deqL] using h
      rw [deq_eq x y h'.1, deqL_eq xs ys h'.2]
end
theorem still_views {ds0 : List D} (h : still ds0 μ μ' = true) : ds0.map (view μ') = ds0.map (view μ) := by
  unfold still at h
  rw [List.all_eq_true] at h
  refine List.map_congr_left fun d hd => ?_
  have := h d hd
  cases d with
  | ref k => exact (deq_eq _ _ this).symm
  | _ => rfl
/-- an address joins the hidden ones -/
theorem Rp.unhide {D' : Addr} {mm hid : List Addr} : ∀ {d : D} {v : V}, Rp K H ⟨mm, D' :: hid⟩ v d → Rp K H ⟨mm, hid⟩ v d := fun {d v} h =>
  Rp.keep (C := ⟨mm, D' :: hid⟩) (C' := ⟨mm, hid⟩) ⟨fun _ _ t => t, fun a vs e h1 h2 => ⟨e, h1, fun z => h2 (List.mem_cons_of_mem _ z)⟩, fun _ _ e => e, fun _ _ e => e⟩ h
theorem Rps.unhide {D' : Addr} {mm hid : List Addr} : ∀ {ds : List D} {vs : List V}, Rps K H ⟨mm, D' :: hid⟩ vs ds → Rps K H ⟨mm, hid⟩ vs ds
  | [], _, h => by cases h; exact .nil
  | d :: ds, _, h => by
    cases h with
    | cons h1 h2 => exact .cons (Rp.unhide h1) (Rps.unhide h2)
/-- a new list, hidden -/
theorem Rp.hide {D' : Addr} (hD : H D' = none) (o : HO) : ∀ {d : D} {v : V}, Rp K H C v d → Rp K (upd H D' o) ⟨C.mm, D' :: C.hid⟩ v d := fun {d v} h =>
  Rp.keep (C := C) (C' := ⟨C.mm, D' :: C.hid⟩) (H := H) ⟨fun a vs t => sqT_upd t hD, fun a vs e h1 h2 => ⟨by rw [upd_ne (ne_of_none e hD)]; exact e, h1, fun z => (List.mem_cons.mp z).elim (fun q => ne_of_none e hD q) h2⟩, fun _ _ e => e, fun a vs e => scr_upd e hD⟩ h
/-- a hidden list is written -/
theorem Rp.hput {D' : Addr} {vs ws : List V} (hm : D' ∈ C.hid) (hD : H D' = some (.lst vs)) : ∀ {d : D} {v : V}, Rp K H C v d → Rp K (upd H D' (.lst ws)) C v d := fun {d v} h =>
  Rp.keep (C := C) (C' := C) (H := H) ⟨fun b us t => by
    rcases t with (t | ⟨ob, t⟩) | t
    · exact .inl (.inl (by rw [upd_ne (ne_of t hD (by intro z; cases z))]; exact t))
    · exact .inl (.inr ⟨ob, by rw [upd_ne (ne_of t hD (by intro z; cases z))]; exact t⟩)
    · exact .inr t, fun b us e h1 h2 => ⟨by
      have hn : b ≠ D' := by
        rintro rfl
        exact h2 hm
      rw [upd_ne hn]
      exact e, h1, h2⟩, fun _ _ e => e, fun b us e => by
    rcases e with ⟨ob, e⟩ | e
    · exact .inl ⟨ob, by rw [upd_ne (ne_of e hD (by intro z; cases z))]; exact e⟩
    · exact .inr e⟩ h
theorem Rps.hput {D' : Addr} {vs ws : List V} (hm : D' ∈ C.hid) (hD : H D' = some (.lst vs)) : ∀ {ds : List D} {us : List V}, Rps K H C us ds → Rps K (upd H D' (.lst ws)) C us ds
  | [], _, h => by cases h; exact .nil
  | d :: ds, _, h => by
    cases h with
    | cons h1 h2 => exact .cons (Rp.hput hm hD h1) (Rps.hput hm hD h2)
theorem Rps.hide {D' : Addr} (hD : H D' = none) (o : HO) : ∀ {ds : List D} {us : List V}, Rps K H C us ds → Rps K (upd H D' o) ⟨C.mm, D' :: C.hid⟩ us ds
  | [], _, h => by cases h; exact .nil
  | d :: ds, _, h => by
    cases h with
    | cons h1 h2 => exact .cons (Rp.hide hD o h1) (Rps.hide hD o h2)
theorem StoreR.hide {D' : Addr} (S : StoreR K H C μ) (hD : H D' = none) (o : HO) : StoreR K (upd H D' o) ⟨C.mm, D' :: C.hid⟩ μ := by
  refine ⟨S.len, S.nodup, fun a ha => ?_, fun a ha => ?_, fun k a c e1 e2 => ?_⟩
  · intro z
    rcases List.mem_cons.mp z with e | e
    · rw [e] at ha
      exact S.not_mm hD ha
    · exact S.apart a ha e
  · rcases List.mem_cons.mp ha with e | e
    · rw [e, upd_same]; simp
    · by_cases h : a = D'
      · rw [h, upd_same]; simp
      · rw [upd_ne h]; exact S.there a e
  · cases S.cells k a c e1 e2 with
    | lst h r z => exact .lst (by rw [upd_ne (ne_of_none h hD)]; exact h) (Rps.hide hD o r) z
theorem StoreR.hput {D' : Addr} {vs ws : List V} (S : StoreR K H C μ) (hm : D' ∈ C.hid) (hD : H D' = some (.lst vs)) : StoreR K (upd H D' (.lst ws)) C μ := by
  refine ⟨S.len, S.nodup, S.apart, fun a ha => ?_, fun k a c e1 e2 => ?_⟩
  · by_cases h : a = D'
    · rw [h, upd_same]; simp
    · rw [upd_ne h]; exact S.there a ha
  · have hn : a ≠ D' := by
      rintro rfl
      exact S.apart _ (List.mem_of_getElem? e1) hm
    cases S.cells k a c e1 e2 with
    | lst h r z => exact .lst (by rw [upd_ne hn]; exact h) (Rps.hput hm hD r) z
theorem StoreR.unhide {D' : Addr} {mm hid : List Addr} (S : StoreR K H ⟨mm, D' :: hid⟩ μ) : StoreR K H ⟨mm, hid⟩ μ := by
  refine ⟨S.len, S.nodup, fun a ha z => S.apart a ha (List.mem_cons_of_mem _ z), fun a ha => S.there a (List.mem_cons_of_mem _ ha), fun k a c e1 e2 => ?_⟩
  cases S.cells k a c e1 e2 with
  | lst h r z => exact .lst h (Rps.unhide r) z
/-- what stands through a comprehension's turns -/
structure Through (K : PySem.W.Frag) (H : Hp) (C : Ctx) (D' : Addr) (H' : Hp) (C' : Ctx) : Prop where
  hid : C'.hid = D' :: C.hid
  pre : ∃ l : List Addr, C'.mm = C.mm ++ l
  rp : ∀ d v, Rp K H C v d → Rp K H' C' v d
  keep : ∀ a o, a ∈ C.hid → H a = some o → H' a = some o
theorem Through.ext {D' : Addr} {H2 : Hp} {C2 : Ctx} (t : Through K H C D' H' C') (e : Ext K H' C' H2 C2) : Through K H C D' H2 C2 := by
  refine ⟨e.hid.trans t.hid, ?_, fun d v h => e.rp d v (t.rp d v h), fun a o ha h => e.keep a o (by rw [t.hid]; exact List.mem_cons_of_mem _ ha) (t.keep a o ha h)⟩
  obtain ⟨l, q⟩ := t.pre
  obtain ⟨l2, q2⟩ := e.pre
  exact ⟨l ++ l2, by rw [q2, q, List.append_assoc]⟩
theorem Through.rps {D' : Addr} (t : Through K H C D' H' C') : ∀ {ds : List D} {vs : List V}, Rps K H C vs ds → Rps K H' C' vs ds
  | [], _, h => by cases h; exact .nil
  | d :: ds, _, h => by
    cases h with
    | cons h1 h2 => exact .cons (t.rp _ _ h1) (Through.rps t h2)
theorem Through.put {D' : Addr} {vs ws : List V} (t : Through K H C D' H' C') (hn : H D' = none) (hD : H' D' = some (.lst vs)) : Through K H C D' (upd H' D' (.lst ws)) C' := by
  have hm : D' ∈ C'.hid := by rw [t.hid]; exact List.mem_cons_self ..
  refine ⟨t.hid, t.pre, fun d v h => Rp.hput hm hD (t.rp d v h), fun a o ha h => ?_⟩
  rw [upd_ne (ne_of_none h hn)]
  exact t.keep a o ha h
/-- the reading of a comprehension's test -/
def tC' (K : PySem.W.Frag) (G : Glo) (c : Option ME) : TT := fun σ H Q => ∃ C ρ μ, StR K σ H C ρ μ ∧ PostB K W0 H C (evC G c ρ μ) Q
theorem StR.wipe_same {vs : List Nat} {σ' : L2.St} {ρ' : Env} (S : StR K σ' H C ρ' μ) (h : L2.wipe σ' vs = L2.wipe σ vs) (hr : wipeE ρ' vs = wipeE ρ vs) : StR K (L2.wipe σ vs) H C (wipeE ρ vs) μ := by
  rw [← h, ← hr]
  exact S.wipe vs
theorem comp_lc {t : MT} {sr : Src} {ms : List ME} {me : ME} {mc : Option ME} {vs : List Nat} {Q : VK} (hK : X.K = K) (hsl : ∀ i ∈ slotsT t, i ∈ vs) (h : tE K W G (.comp me t sr ms mc vs) σ H Q) : tLc (tI K W G sr ms) (tG K t) (tC' K G mc) (tE K W0 G me) vs σ H Q := by
  subst hK
  obtain ⟨C, ρ, μ, S, P⟩ := h
  simp only [evE] at P
  refine ⟨C, ρ, μ, S, ?_⟩
  cases q : evEs G ms ρ μ with
  | err x μ1 => rw [q] at P; exact P
  | bad => rw [q] at P; exact P
  | ok ds0 μ1 =>
    rw [q] at P
    simp only [Out.bind_ok] at P
    cases q2 : srcD sr (ds0.map (view μ1)) with
    | none => rw [q2] at P; exact P.elim
    | some ds =>
      rw [q2] at P
      simp only [Out.of_some, Out.bind_ok] at P
      refine ⟨ds, q2, fun vs' H1 C1 J e1 S1 p1 w1 D' hD' => ?_⟩
      have P1 := PostE.ext P e1
      have hsz : ds.length ≤ sizeLine := w1.size H1 C1 μ1 S1 p1 rfl
      clear P q q2
      generalize hcf : (fun (ρ' : Env) (μ : Store) => evC G mc ρ' μ) = cf at P1
      generalize hef : (fun (ρ' : Env) (μ : Store) => evE G me ρ' μ) = ef at P1
      have SW : StR X.K (L2.wipe σ vs) H1 C1 (wipeE ρ vs) μ1 := (S.ext e1 S1).wipe _
      generalize hρw : wipeE ρ vs = ρw at P1 SW
      -- what holds between two turns
      let Inv' : Nat → Hp → Prop := fun i H2 => ∃ C2 μ2 acc ys, Through X.K H1 C1 D' H2 C2 ∧ StoreR X.K H2 C2 μ2 ∧ H2 D' = some (.lst acc) ∧ Rps X.K H2 C2 acc ys ∧ acc.length ≤ i ∧ ys.length ≤ i ∧
        PostE X.K W H1 C1 ((noErr (compL (still ds0 μ1) ρw t cf ef (ds.drop i) μ2)).bind fun zs μ3 => .ok (.lst (ys ++ zs)) μ3) Q
      have hrw : ∀ {i μ2 ys}, PostE X.K W H1 C1 ((noErr (compL (still ds0 μ1) ρw t cf ef (ds.drop i) μ2)).bind fun zs μ3 => .ok (.lst (ys ++ zs)) μ3) Q → still ds0 μ1 μ2 = true := fun {i μ2 ys} h => by
        cases hd : ds.drop i with
        | nil =>
          rw [hd] at h
          simp only [compL] at h
          by_cases z : still ds0 μ1 μ2 = true
          · exact z
          · rw [if_neg z] at h; exact h.elim
        | cons d r =>
          rw [hd] at h
          simp only [compL] at h
          by_cases z : still ds0 μ1 μ2 = true
          · exact z
          · rw [if_neg z] at h; exact h.elim
      refine ⟨fun i m H2 => m = ds.length - i ∧ i ≤ ds.length ∧ Inv' i H2, ⟨ds.length, rfl, Nat.zero_le _, ⟨C1.mm, D' :: C1.hid⟩, μ1, [], [], ?_, S1.hide hD' _, upd_same, .nil, Nat.zero_le _, Nat.zero_le _, ?_⟩, ?_⟩
      · refine ⟨rfl, ⟨[], by simp⟩, fun d v h => Rp.hide hD' _ h, fun a o _ h => ?_⟩
        rw [upd_ne (ne_of_none h hD')]
        exact h
      · simpa using P1
      · rintro i m H2 ⟨rfl, hil, C2, μ2, acc, ys, T2, S2, hacc, racc, hlen, hlen2, P2⟩
        have hst := hrw P2
        have hv := still_views hst
        have p2 := T2.rps p1
        by_cases hlt : i < ds.length
        · right
          have hdr : ds.drop i = ds[i] :: ds.drop (i + 1) := List.drop_eq_getElem_cons hlt
          have hget : ds[i]? = some ds[i] := List.getElem?_eq_getElem hlt
          refine ⟨w1.goes i H2 C2 μ2 hlt S2 p2 hv, fun H3 => ds.length - (i + 1) = ds.length - (i + 1) ∧ Inv' (i + 1) H3, fun H3 h3 => ⟨ds.length - (i + 1), by omega, rfl, hlt, h3.2⟩, fun x H3 y => ?_⟩
          obtain ⟨e3, S3, r3⟩ := w1.yields i x H2 C2 μ2 H3 _ hget S2 p2 hv y
          rw [hdr] at P2
          simp only [compL, if_pos hst] at P2
          cases hb : bindT t ds[i] ρw with
          | none => rw [hb] at P2; exact P2.elim
          | some ρ3 =>
            rw [hb] at P2
            simp only at P2
            have T3 := T2.ext e3
            have SW3 : StR X.K (L2.wipe σ vs) H3 C2 ρw μ2 := ⟨fun j d h => by
              obtain ⟨v, h1, h2⟩ := SW.slots j d h
              exact ⟨v, h1, T3.rp _ _ h2⟩, SW.len, S3⟩
            refine ⟨C2, ρw, μ2, ds[i], SW3, r3, ρ3, hb, fun σ3 S3' b3 => ⟨?_, C2, ρ3, μ2, S3', ?_⟩⟩
            · rw [b3.wipe hsl, wipe_wipe]
            · have hcm : evC G mc ρ3 μ2 = cf ρ3 μ2 := by
                rw [← hcf]
              rw [hcm]
              cases qc : cf ρ3 μ2 with
              | err _ _ => rw [qc] at P2; exact P2.elim
              | bad => rw [qc] at P2; exact P2.elim
              | ok b μ3 =>
                rw [qc] at P2
                simp only [Out.bind_ok] at P2
                intro H4 C4 e4 S4
                have hacc4 : H4 D' = some (.lst acc) := e4.keep D' _ (by rw [T3.hid]; exact List.mem_cons_self ..) (e3.keep D' _ (by rw [T2.hid]; exact List.mem_cons_self ..) hacc)
                have racc4 := e4.rps (e3.rps racc)
                cases b with
                | false =>
                  simp only [Bool.false_eq_true, if_false] at P2 ⊢
                  exact ⟨trivial, C4, μ3, acc, ys, T3.ext e4, S4, hacc4, racc4, by omega, by omega, P2⟩
                | true =>
                  simp only [if_true] at P2 ⊢
                  have hef' : ef ρ3 μ3 = evE G me ρ3 μ3 := by rw [← hef]
                  refine ⟨C4, ρ3, μ3, S3'.ext e4 S4, ?_⟩
                  rw [← hef']
                  cases qe : ef ρ3 μ3 with
                  | err _ _ => rw [qe] at P2; exact P2.elim
                  | bad => rw [qe] at P2; exact P2.elim
                  | ok z μ4 =>
                    rw [qe] at P2
                    simp only [Out.bind_ok] at P2
                    intro yv H5 C5 e5 S5 r5
                    have hacc5 : H5 D' = some (.lst acc) := e5.keep D' _ (by rw [e4.hid, T3.hid]; exact List.mem_cons_self ..) hacc4
                    have T5 := (T3.ext e4).ext e5
                    have hm5 : D' ∈ C5.hid := by rw [T5.hid]; exact List.mem_cons_self ..
                    refine ⟨acc, hacc5, ?_, trivial, C5, μ4, acc ++ [yv], ys ++ [z], T5.put hD' hacc5, S5.hput hm5 hacc5, upd_same, ?_, by simp; omega, by simp; omega, ?_⟩
                    · omega
                    · exact (Rps.hput hm5 hacc5 (e5.rps racc4)).append (.cons (Rp.hput hm5 hacc5 r5) .nil)
                    · cases ql : compL (still ds0 μ1) ρw t cf ef (ds.drop (i + 1)) μ4 with
                      | ok zs μ5 =>
                        rw [ql] at P2
                        simp only [Out.bind_ok, noErr_ok] at P2 ⊢
                        rw [List.append_assoc]
                        exact P2
                      | err _ _ => rw [ql] at P2; exact P2.elim
                      | bad => rw [ql] at P2; exact P2.elim
        · left
          have e : i = ds.length := by omega
          subst e
          rw [List.drop_length] at P2
          simp only [compL, if_pos hst, noErr_ok, Out.bind_ok, List.append_nil] at P2
          refine ⟨w1.stops H2 C2 μ2 S2 p2 hv, ?_⟩
          have hC2 : C2 = ⟨C2.mm, D' :: C1.hid⟩ := by rw [← T2.hid]
          have Su : StoreR X.K H2 ⟨C2.mm, C1.hid⟩ μ2 := StoreR.unhide (D' := D') (by rw [← hC2]; exact S2)
          have Ru : Rps X.K H2 ⟨C2.mm, C1.hid⟩ acc ys := Rps.unhide (D' := D') (by rw [← hC2]; exact racc)
          refine P2 (.ref D') H2 ⟨C2.mm, C1.hid⟩ ⟨rfl, T2.pre, fun d v h => Rp.unhide (D' := D') (by rw [← hC2]; exact T2.rp d v h), T2.keep⟩ Su (.lst hacc (fun z => S2.apart _ z (by rw [T2.hid]; exact List.mem_cons_self ..)) (fun z => S1.there _ z hD') Ru (Nat.le_trans hlen2 hsz))
theorem m_comp {t : MT} {sr : Src} {ms : List ME} {me : ME} {mc : Option ME} {own : List (Str × Nat)} {elt tg iter : Expr} {ifs : List Expr} {scope : Scope} (hK : X.K = K) (hc : X.calm = true) (hN : X.N.Nodup) (hi : PI X tg iter (tI K W G sr ms)) (ok : BlkOk X.N X.env.scope scope own)
    (hg : ∀ (s : Shared) (H : Hp) (C : Addr) (cl : List (Str × Addr)) (fp : List Addr), PG (X.blk s H scope (compEnvC scope cl C X.env) fp) tg (tG K t))
    (ht : ∀ (s : Shared) (H : Hp) (C : Addr) (cl : List (Str × Addr)) (fp : List Addr), PTs (X.blk s H scope (compEnvC scope cl C X.env) fp) ifs (tC' K G mc))
    (he : ∀ (s : Shared) (H : Hp) (C : Addr) (cl : List (Str × Addr)) (fp : List Addr), PE (X.blk s H scope (compEnvC scope cl C X.env) fp) elt (tE K W0 G me)) (hs : ∀ x, foldedSetIterable iter X.env x = pure x)
    (hsl : ∀ i ∈ slotsT t, i ∈ own.map (·.2)) : PE X (.ListComp elt [⟨tg, iter, ifs, 0⟩] scope pos) (tE K W G (.comp me t sr ms mc (own.map (·.2)))) :=
  ⟨fun pins s σ H Q I h => (pe_lc hc hN hi ok hg ht he hs).run pins s σ H Q I (comp_lc hK hsl h)⟩
end
end Mi
/-! Mini: tests, statements. -/
namespace Mi
open PySem PySem.Spec PyProof.Rows L2

def PostS (K : PySem.W.Frag) (W : Wish) (H : Hp) (C : Ctx) (o : OutS) (D : Ends) : Prop :=
  match o with
  | .nx ρ' μ' => ∀ σ' H' C', Ext K H C H' C' → StR K σ' H' C' ρ' μ' → D.nx σ' H'
  | .rt d μ' => ∀ v H' C', Ext K H C H' C' → StoreR K H' C' μ' → Rp K H' C' v d → D.rt v H'
  | .err e μ' => ∀ H' C', Ext K H C H' C' → StoreR K H' C' μ' → W e μ' H' C'
  | .bad => False
def tS (K : PySem.W.Frag) (W : Wish) (G : Glo) (m : MS) : TS := fun D σ H => ∃ C ρ μ, StR K σ H C ρ μ ∧ PostS K W H C (exS G m ρ μ) D
def tSs (K : PySem.W.Frag) (W : Wish) (G : Glo) (ms : List MS) : TS := fun D σ H => ∃ C ρ μ, StR K σ H C ρ μ ∧ PostS K W H C (exSs G ms ρ μ) D
section
variable {X : Cx} {K : PySem.W.Frag} {W : Wish} {G : Glo} {m : ME} {ms : List ME} {a : Expr} {es : List Expr} {pins : List (Addr × Obj)} {s : Shared} {σ : L2.St} {H H' : Hp} {C C' : Ctx} {ρ : Env} {μ : Store} {pos : Pos}
theorem PostS.ext {o : OutS} {D : Ends} (h : PostS K W H C o D) (e : Ext K H C H' C') : PostS K W H' C' o D := by
  cases o with
  | nx ρ μ => exact fun σ' H2 C2 x S => h σ' H2 C2 (e.trans x) S
  | rt d μ => exact fun v H2 C2 x S r => h v H2 C2 (e.trans x) S r
  | err x μ => exact fun H2 C2 x S => h H2 C2 (e.trans x) S
  | bad => exact h
theorem PE.of {t t' : TE} (h : PE X a t) (w : ∀ σ H Q, t' σ H Q → t σ H Q) : PE X a t' := ⟨fun pins s σ H Q I q => h.run pins s σ H Q I (w σ H Q q)⟩
theorem PT.of {t t' : TT} (h : PT X a t) (w : ∀ σ H Q, t' σ H Q → t σ H Q) : PT X a t' := ⟨fun pins s σ H Q I q => h.run pins s σ H Q I (w σ H Q q)⟩
theorem PS.of {st : Stmt} {t t' : TS} (h : PS X st t) (w : ∀ D σ H, t' D σ H → t D σ H) : PS X st t' := ⟨fun pins s σ H D I q => h.run pins s σ H D I (w D σ H q)⟩
theorem PSs.of {st : List Stmt} {t t' : TS} (h : PSs X st t) (w : ∀ D σ H, t' D σ H → t D σ H) : PSs X st t' := ⟨fun pins s σ H D I q => h.run pins s σ H D I (w D σ H q)⟩
/-- an expression in a statement -/
theorem toE {f : D → Store → OutS} {D' : Ends} {Q : VK} (S : StR K σ H C ρ μ) (P : PostS K W H C ((evE G m ρ μ).to f) D')
    (k : ∀ d μ1 v H1 C1, Ext K H C H1 C1 → StR K σ H1 C1 ρ μ1 → Rp K H1 C1 v d → PostS K W H1 C1 (f d μ1) D' → Q v H1) : tE K W G m σ H Q := by
  refine ⟨C, ρ, μ, S, ?_⟩
  cases q : evE G m ρ μ with
  | ok d μ1 =>
    rw [q] at P
    exact fun v H1 C1 e S1 r => k d μ1 v H1 C1 e (S.ext e S1) r (PostS.ext P e)
  | err x μ1 => rw [q] at P; exact P
  | bad => rw [q] at P; exact P

/-! ### tests -/
theorem m_tplain (ha : PE X a (tE K W G m)) (he : ∀ whole, isTrue a X.env whole = (do let v ← whole; standAt a.pos; holding [v] (truthy v))) : PT X a (tT K W G m) := by
  refine ⟨fun pins s σ H Q I ⟨C, ρ, μ, S, P⟩ => ?_⟩
  refine isTrue_plain (goEB ha I S P fun d μ1 v s1 x H1 C1 I1 r1 p1 S1 e1 P1 => ?_) (he _)
  cases d with
  | bl b =>
    cases p1
    cases r1
    exact wpAny_truthy_bool ⟨H1, I1, P1 H1 C1 Ext.refl S1.store⟩
  | _ => exact P1.elim
theorem goEB' {R : Value → Shared → Prop} {f : D → Store → Out D} {Q : Bool → Hp → Prop} (ha : PE X a (tE K W G m)) (I : Inv X pins σ H s) (S : StR K σ H C ρ μ) (h : PostB K W H C (((evE G m ρ μ).bind f).bind asBool) Q)
    (k : ∀ d μ1 v s1 x H1 C1, Inv X pins σ H1 s1 → RelV x v → Rp K H1 C1 x d → StR K σ H1 C1 ρ μ1 → Ext K H C H1 C1 → PostB K W H1 C1 ((f d μ1).bind asBool) Q → R v s1) :
    wpAny (model X.prog X.w) X.A (eval a X.env) R X.xe s := by
  refine goEB (f := fun d μ1 => (f d μ1).bind asBool) ha I S ?_ k
  cases q : evE G m ρ μ with
  | ok d μ1 => rw [q] at h; exact h
  | err _ _ => rw [q] at h; exact h
  | bad => rw [q] at h; exact h
theorem bl_test {o : Option Bool} {Q : Bool → Hp → Prop} (h : PostB K W H C ((Out.of (o.map .bl) μ).bind asBool) Q) (S : StoreR K H C μ) : ∃ b, o = some b ∧ Q b H := by
  cases o with
  | none => exact h.elim
  | some b => exact ⟨b, rfl, h H C Ext.refl S⟩
theorem m_tcmp {o : COp} {b : Expr} {ma mb : ME} (hK : X.K = K) (hu : X.A.units + 65 < cLine) (ha : PE X a (tE K W G ma)) (hb : PE X b (tE K W G mb)) (hm : behindInMarks (opC o) b = false) : PT X (.Compare a [opC o] [b] pos) (tT K W G (.cmp o ma mb)) := by
  refine ⟨fun pins s σ H Q I ⟨C, ρ, μ, S, P⟩ => ?_⟩
  simp only [evE] at P
  refine wpAny_isTrue_Compare1 (goEB' ha I S P fun d μ1 v s1 x H1 C1 I1 r1 p1 S1 e1 P1 => goEB' hb I1 S1 P1 fun d2 μ2 u s2 y H2 C2 I2 r2 p2 S2 e2 P2 => ?_) hm
  obtain ⟨c, e, q⟩ := bl_test P2 S2.store
  refine thn (sound_cmp hK hu o pins s2 σ H2 C2 μ2 x y d d2 v u c (fun z H3 => z = .bl c ∧ H3 = H2) I2 S2.store (e2.rp _ _ p1) p2 r1 r2 e ⟨rfl, rfl⟩) fun w' s3 ⟨z, H3, I3, r3, ez, eH⟩ => ?_
  subst ez
  rw [eH] at I3
  cases r3
  exact wpAny_truthy_bool ⟨H2, I3, q⟩
theorem m_tchain {o o' : COp} {b c : Expr} {ma mb mc : ME} (hK : X.K = K) (hu : X.A.units + 65 < cLine) (ha : PE X a (tE K W G ma)) (hb : PE X b (tE K W G mb)) (hc : PE X c (tE K W G mc)) (hm : lastMarks [opC o, opC o'] [b, c] = false) :
    PT X (.Compare a [opC o, opC o'] [b, c] pos) (tT K W G (.chain o o' ma mb mc)) := by
  refine ⟨fun pins s σ H Q I ⟨C, ρ, μ, S, P⟩ => ?_⟩
  simp only [evE] at P
  refine isTrue_chain (goEB' ha I S P fun d μ1 v s1 x H1 C1 I1 r1 p1 S1 e1 P1 => test_link (goEB' hb I1 S1 P1 fun d2 μ2 u s2 y H2 C2 I2 r2 p2 S2 e2 P2 => ?_)) hm
  cases q : cmpD o (view μ2 d) (view μ2 d2) with
  | none => rw [q] at P2; exact P2.elim
  | some k =>
    rw [q] at P2
    simp only [Out.of_some, Out.bind_ok] at P2
    refine thn (sound_cmp hK hu o pins s2 σ H2 C2 μ2 x y d d2 v u k (fun z H3 => z = .bl k ∧ H3 = H2) I2 S2.store (e2.rp _ _ p1) p2 r1 r2 q ⟨rfl, rfl⟩) fun w' s3 ⟨z, H3, I3, r3, ez, eH⟩ => ?_
    subst ez
    rw [eH] at I3
    cases r3
    refine wpAny_truthy_bool ?_
    cases k with
    | false => exact ite_ff ⟨H2, I3, P2 H2 C2 Ext.refl S2.store⟩
    | true =>
      refine ite_tt (test_last (goEB' hc I3 S2 P2 fun d4 μ4 w' s4 z' H4 C4 I4 r4 p4 S4 e4 P4 => ?_))
      obtain ⟨c2, e, q2⟩ := bl_test P4 S4.store
      refine thn (sound_cmp hK hu o' pins s4 σ H4 C4 μ4 y z' d2 d4 u w' c2 (fun z H5 => z = .bl c2 ∧ H5 = H4) I4 S4.store (e4.rp _ _ p2) p4 r2 r4 e ⟨rfl, rfl⟩) fun w5 s5 ⟨z5, H5, I5, r5, ez, eH⟩ => ?_
      subst ez
      rw [eH] at I5
      cases r5
      exact wpAny_truthy_bool ⟨H4, I5, q2⟩
theorem m_tnot {ma : ME} (ha : PT X a (tT K W G ma)) : PT X (.UnaryOp .Not a pos) (tT K W G (.not ma)) := by
  refine PT.of (pt_not ha) fun σ H Q ⟨C, ρ, μ, S, P⟩ => ⟨C, ρ, μ, S, ?_⟩
  simp only [evE] at P
  cases q : evE G ma ρ μ with
  | ok d μ1 =>
    rw [q] at P
    cases d with
    | bl b => exact P
    | _ => exact P
  | err _ _ => rw [q] at P; exact P
  | bad => rw [q] at P; exact P
def tWT (K : PySem.W.Frag) (W : Wish) (G : Glo) (m : ME) : TT := tT K W G m
theorem test_and {ma mb : ME} {tb : TT} (hb : ∀ σ H Q, tT K W G mb σ H Q → tb σ H Q) (σ : L2.St) (H : Hp) (Q : Bool → Hp → Prop) (h : tT K W G (.and ma mb) σ H Q) : tAnd (tT K W G ma) tb σ H Q := by
  obtain ⟨C, ρ, μ, S, P⟩ := h
  refine ⟨C, ρ, μ, S, ?_⟩
  simp only [evE] at P
  cases q : evE G ma ρ μ with
  | ok d μ1 =>
    rw [q] at P
    cases d with
    | bl b =>
      intro H1 C1 e1 S1
      cases b with
      | true => exact hb _ _ _ ⟨C1, ρ, μ1, S.ext e1 S1, PostB.ext P e1⟩
      | false => exact P H1 C1 e1 S1
    | _ => exact P
  | err _ _ => rw [q] at P; exact P
  | bad => rw [q] at P; exact P
theorem test_or {ma mb : ME} {tb : TT} (hb : ∀ σ H Q, tT K W G mb σ H Q → tb σ H Q) (σ : L2.St) (H : Hp) (Q : Bool → Hp → Prop) (h : tT K W G (.or ma mb) σ H Q) : tOr (tT K W G ma) tb σ H Q := by
  obtain ⟨C, ρ, μ, S, P⟩ := h
  refine ⟨C, ρ, μ, S, ?_⟩
  simp only [evE] at P
  cases q : evE G ma ρ μ with
  | ok d μ1 =>
    rw [q] at P
    cases d with
    | bl b =>
      intro H1 C1 e1 S1
      cases b with
      | false => exact hb _ _ _ ⟨C1, ρ, μ1, S.ext e1 S1, PostB.ext P e1⟩
      | true => exact P H1 C1 e1 S1
    | _ => exact P
  | err _ _ => rw [q] at P; exact P
  | bad => rw [q] at P; exact P
/-- a chain of and, or as a test -/
structure PWm (X : Cx) (e : Expr) (t : TT) : Prop where
  run : ∀ (whole : Sem Value) (pins : List (Addr × Obj)) (s : Shared) (σ : L2.St) (H : Hp) (Q : Bool → Hp → Prop), Inv X pins σ H s → t σ H Q → wpAny (model X.prog X.w) X.A (isTrue e X.env whole) (TP X pins σ Q) X.xe s
theorem m_wand1 (ha : PT X a (tT K W G m)) : PW X (.BoolOp .And [a] pos) (tT K W G m) := pw_and1 ha
theorem m_wor1 (ha : PT X a (tT K W G m)) : PW X (.BoolOp .Or [a] pos) (tT K W G m) := pw_or1 ha
theorem m_wand {b : Expr} {rest : List Expr} {ma mb : ME} (ha : PT X a (tT K W G ma)) (hb : PW X (.BoolOp .And (b :: rest) pos) (tT K W G mb)) : PW X (.BoolOp .And (a :: b :: rest) pos) (tT K W G (.and ma mb)) :=
  ⟨fun wh pins s σ H Q I h => (pw_and ha hb).run wh pins s σ H Q I (test_and (fun _ _ _ z => z) σ H Q h)⟩
theorem m_wor {b : Expr} {rest : List Expr} {ma mb : ME} (ha : PT X a (tT K W G ma)) (hb : PW X (.BoolOp .Or (b :: rest) pos) (tT K W G mb)) : PW X (.BoolOp .Or (a :: b :: rest) pos) (tT K W G (.or ma mb)) :=
  ⟨fun wh pins s σ H Q I h => (pw_or ha hb).run wh pins s σ H Q I (test_or (fun _ _ _ z => z) σ H Q h)⟩
theorem m_ite {c b : Expr} {mc ma mb : ME} (hc : PT X c (tT K W G mc)) (ha : PE X a (tE K W G ma)) (hb : PE X b (tE K W G mb)) : PE X (.IfExp c a b pos) (tE K W G (.ite mc ma mb)) := by
  refine PE.of (pe_ifExp hc ha hb) fun σ H Q ⟨C, ρ, μ, S, P⟩ => ⟨C, ρ, μ, S, ?_⟩
  simp only [evE] at P
  cases q : evE G mc ρ μ with
  | ok d μ1 =>
    rw [q] at P
    cases d with
    | bl b =>
      intro H1 C1 e1 S1
      cases b with
      | true => exact ⟨C1, ρ, μ1, S.ext e1 S1, PostE.ext P e1⟩
      | false => exact ⟨C1, ρ, μ1, S.ext e1 S1, PostE.ext P e1⟩
    | _ => exact P
  | err _ _ => rw [q] at P; exact P
  | bad => rw [q] at P; exact P
/-- a comprehension's tests -/
theorem m_pts_nil : PTs X [] (tC' K G none) := by
  refine ⟨fun pins s σ H Q I ⟨C, ρ, μ, S, P⟩ => ?_⟩
  exact pts_nil.run pins s σ H Q I (P H C Ext.refl S.store)
theorem m_pts_one {c : Expr} (h : PT X c (tT K W0 G m)) : PTs X [c] (tC' K G (some m)) := by
  refine ⟨fun pins s σ H Q I ⟨C, ρ, μ, S, P⟩ => ?_⟩
  simp only [evC] at P
  exact (pts_one h).run pins s σ H Q I ⟨C, ρ, μ, S, P⟩

/-! ### blocks -/
theorem s_nil : PSs X [] (tSs K W G []) := PSs.of pss_nil fun D σ H ⟨C, ρ, μ, S, P⟩ => P σ H C Ext.refl S
theorem s_cons {st : Stmt} {rest : List Stmt} {m1 : MS} {mr : List MS} (h1 : PS X st (tS K W G m1)) (h2 : PSs X rest (tSs K W G mr)) : PSs X (st :: rest) (tSs K W G (m1 :: mr)) := by
  refine PSs.of (pss_cons h1 h2) fun D σ H ⟨C, ρ, μ, S, P⟩ => ⟨C, ρ, μ, S, ?_⟩
  simp only [exSs] at P
  cases q : exS G m1 ρ μ with
  | nx ρ1 μ1 =>
    rw [q] at P
    exact fun σ' H' C' e S' => ⟨C', ρ1, μ1, S', PostS.ext P e⟩
  | rt d μ1 => rw [q] at P; exact P
  | err _ _ => rw [q] at P; exact P
  | bad => rw [q] at P; exact P
theorem s_pass : PS X (.Pass pos) (tS K W G .pas) := PS.of ps_pass fun D σ H ⟨C, ρ, μ, S, P⟩ => P σ H C Ext.refl S
theorem s_never {st : Stmt} : PS X st (tS K W G .never) := PS.of ps_never fun D σ H ⟨C, ρ, μ, S, P⟩ => P
theorem s_ret (ha : PE X a (tE K W G m)) : PS X (.Return (some a) pos) (tS K W G (.ret m)) :=
  PS.of (ps_ret ha) fun D σ H ⟨C, ρ, μ, S, P⟩ => by
    simp only [exS] at P
    exact toE S P fun d μ1 v H1 C1 e S1 r P1 => P1 v H1 C1 Ext.refl S1.store r
theorem s_retN : PS X (.Return none pos) (tS K W G .retN) := PS.of ps_retN fun D σ H ⟨C, ρ, μ, S, P⟩ => P .non H C Ext.refl S.store .non
theorem s_ex (ha : PE X a (tE K W G m)) (hs : swapsWith a none pos.line X.env = pure false) : PS X (.Expr a pos) (tS K W G (.ex m)) :=
  PS.of (ps_expr ha hs) fun D σ H ⟨C, ρ, μ, S, P⟩ => by
    simp only [exS] at P
    exact toE S P fun d μ1 v H1 C1 e S1 r P1 => P1 σ H1 C1 Ext.refl S1
theorem s_asg {tg : Expr} {t : MT} (ha : PE X a (tE K W G m)) (hg : PG X tg (tG K t)) (hs : swapsWithSole [tg] a pos.line X.env = pure false) (hw : swappedStores [tg] a X.env = pure none) (h1 : (assignEach [tg] X.env).map (·.2) = [assign tg X.env]) :
    PS X (.Assign [tg] a pos) (tS K W G (.asg t m)) := by
  refine PS.of (ps_asg ha hg hs hw h1) fun D σ H ⟨C, ρ, μ, S, P⟩ => toE S (by simpa only [exS] using P) fun d μ1 v H1 C1 e S1 r P1 => ?_
  cases q : bindT t d ρ with
  | none => rw [q] at P1; exact P1.elim
  | some ρ' =>
    rw [q] at P1
    exact ⟨C1, ρ, μ1, d, S1, r, ρ', q, fun σ' S' _ => P1 σ' H1 C1 Ext.refl S'⟩
theorem s_ifs {c : Expr} {sa sb : List Stmt} {ma mb : List MS} {mc : ME} (hc : PT X c (tT K W G mc)) (ha : PSs X sa (tSs K W G ma)) (hb : PSs X sb (tSs K W G mb)) : PS X (.If c sa sb pos) (tS K W G (.ifs mc ma mb)) := by
  refine PS.of (ps_if hc ha hb) fun D σ H ⟨C, ρ, μ, S, P⟩ => ⟨C, ρ, μ, S, ?_⟩
  simp only [exS] at P
  cases q : evE G mc ρ μ with
  | ok d μ1 =>
    rw [q] at P
    cases d with
    | bl b =>
      intro H1 C1 e1 S1
      cases b with
      | true => exact ⟨C1, ρ, μ1, S.ext e1 S1, PostS.ext P e1⟩
      | false => exact ⟨C1, ρ, μ1, S.ext e1 S1, PostS.ext P e1⟩
    | _ => exact P
  | err _ _ => rw [q] at P; exact P
  | bad => rw [q] at P; exact P
theorem s_par {i j : Nat} {x y : Str} {a b : Expr} {ma mb : ME} {px py pt : Pos} {kt k2 pt2} (hc : X.calm = true) (hN : X.N.Nodup) (hi : X.N[i]? = some x) (hj : X.N[j]? = some y) (hij : i ≠ j) (hx : X.env.scope.names.lookup x = some .local) (hy : X.env.scope.names.lookup y = some .local)
    (ha : PE X a (tE K W G ma)) (hb : PE X b (tE K W G mb)) (hsa : starEach [a, b] X.env = (false, eval a X.env) :: starEach [b] X.env) (hsb : starEach [b] X.env = [(false, eval b X.env)])
    (hw : swappedStores [.Tuple [.Name x px, .Name y py] kt pt] (.Tuple [a, b] k2 pt2) X.env = pure (some [x, y])) (hs : swapsWithSole [.Tuple [.Name x px, .Name y py] kt pt] (.Tuple [a, b] k2 pt2) pos.line X.env = pure false) :
    PS X (.Assign [.Tuple [.Name x px, .Name y py] kt pt] (.Tuple [a, b] k2 pt2) pos) (tS K W G (.par i j ma mb)) := by
  refine PS.of (ps_par hc hN hi hj hij hx hy (pa_cons ha (pa_cons hb pa_nil (by rw [hsb]; rfl)) hsa) hw hs) fun D σ H ⟨C, ρ, μ, S, P⟩ => ?_
  simp only [exS] at P
  refine toE S P fun d μ1 v H1 C1 e S1 r P1 => toE S1 P1 fun d2 μ2 v2 H2 C2 e2 S2 r2 P2 => ⟨v, v2, rfl, ?_⟩
  exact P2 _ H2 C2 Ext.refl ((S2.set (e2.rp _ _ r)).set r2)
theorem s_sub {o i : Expr} {mo mi : ME} {p2 : Pos} (ho : PE X o (tE K W G mo)) (hi : PE X i (tE K W G mi)) (ha : PE X a (tE K W G m))
    (hset : ∀ v, assign (.Subscript o i p2) X.env v = (do
      let ov ← holding [v] (eval o X.env)
      let iv ← holding [v, ov] (eval i X.env)
      standAt p2
      holding [v, ov, iv] (setItem ov iv v)
      release [v, ov, iv] [])) (hs : swapsWithSole [.Subscript o i p2] a pos.line X.env = pure false) (hw : swappedStores [.Subscript o i p2] a X.env = pure none) :
    PS X (.Assign [.Subscript o i p2] a pos) (tS K W G (.sub mo mi m)) := by
  refine PS.of (ps_asg ha (pg_sub ho hi set_list hset) hs hw rfl) fun D σ H ⟨C, ρ, μ, S, P⟩ => ?_
  simp only [exS] at P
  refine toE S P fun d μ1 v H1 C1 e1 S1 r1 P1 => toE S1 P1 fun dx μ2 ox H2 C2 e2 S2 r2 P2 => toE S2 P2 fun dy μ3 iy H3 C3 e3 S3 r3 P3 => ?_
  have r1' := e3.rp _ _ (e2.rp _ _ r1)
  have r2' := e3.rp _ _ r2
  cases dy with
  | int n =>
    cases r3
    cases dx with
    | ref k =>
      cases r2' with
      | @ref _ ad hk =>
        simp only [putC] at P3
        have hl : k < μ3.length := by rw [← S3.store.len]; exact (List.getElem?_eq_some_iff.mp hk).1
        have ek : μ3[k]? = some μ3[k] := List.getElem?_eq_getElem hl
        have rc := S3.store.cells k ad _ hk ek
        rw [ek] at P3
        cases q : μ3[k] with
        | lst ds =>
          rw [q] at P3 rc
          cases rc with
          | @lst vs _ hH rs hz =>
            simp only at P3
            cases q2 : ixOf ds.length n with
            | none => rw [q2] at P3; exact P3.elim
            | some kk =>
              rw [q2] at P3
              refine ⟨ad, vs, n, kk, rfl, rfl, hH, by rw [rs.length, ← ixOf_eq]; exact q2, ?_⟩
              have rs' := rs.set kk r1'
              exact P3 σ _ C3 (Ext.put S3.store hk hH) (S3.ext (Ext.put S3.store hk hH) (S3.store.put hk hH rs' (by rw [List.length_set]; exact hz)))
        | dic _ => rw [q] at P3; exact P3.elim
        | ins _ _ => rw [q] at P3; exact P3.elim
    | _ => exact P3.elim
  | _ => exact P3.elim
/-- a list's method append, as a statement -/
theorem s_app {o : Expr} {mo : ME} {apos p2 : Pos} (ho : PE X o (tE K W G mo)) (ha : PE X a (tE K W G m)) (hbase : attributeBase o "append" X.env (eval o X.env) = eval o X.env)
    (hsa : starEach [a] X.env = [(false, eval a X.env)]) (hline : (apos.endLine == p2.line) = true) :
    PS X (.Expr (.Call (.Attribute o "append" apos) [a] [] p2) pos) (tS K W G (.app mo m)) := by
  have hfew : ((backTo p2 (starEach [a] X.env)).all (fun x => !x.1) && (backToKw p2 (keywordEach [] X.env)).all (fun x => x.1.isSome)
      && decide ([a].length + ([] : List Keyword).length + (if ([] : List Keyword).isEmpty then 0 else 1) < 30)) = true := by
    rw [hsa]
    rfl
  refine PS.of (ps_expr (pe_bm PySem.F.plainAttrs_list PySem.F.slot_list_append PySem.F.type_list_append mt_append ho (pa_cons ha pa_nil (by rw [hsa]; rfl)) hbase hfew hline (by rw [hsa]; rfl) rfl) rfl) fun D σ H ⟨C, ρ, μ, S, P⟩ => ?_
  simp only [exS] at P
  refine toE S P fun d μ1 v H1 C1 e1 S1 r1 P1 => ?_
  by_cases hcell : isCellL μ1 d = true
  case neg => rw [if_neg hcell] at P1; exact P1.elim
  rw [if_pos hcell] at P1
  have key : ∀ d2 μ2 v2 H2 C2, Ext K H1 C1 H2 C2 → StR K σ H2 C2 ρ μ2 → Rp K H2 C2 v2 d2 → PostS K W H2 C2 (match putC μ2 d fun ds => if ds.length < big then some (ds ++ [d2]) else none with
      | some μ3 => .nx ρ μ3
      | none => .bad) D → ∃ ad vs, v = .ref ad ∧ H2 ad = some (.lst vs) ∧ vs.length < sizeLine ∧ D.nx σ (upd H2 ad (.lst (vs ++ [v2]))) := fun d2 μ2 v2 H2 C2 e2 S2 r2 P2 => by
    have r1' := e2.rp _ _ r1
    cases d with
    | ref k =>
      cases r1' with
      | @ref _ ad hk =>
        simp only [putC] at P2
        have hl : k < μ2.length := by rw [← S2.store.len]; exact (List.getElem?_eq_some_iff.mp hk).1
        have ek : μ2[k]? = some μ2[k] := List.getElem?_eq_getElem hl
        have rc := S2.store.cells k ad _ hk ek
        rw [ek] at P2
        cases q : μ2[k] with
        | lst ds =>
          rw [q] at P2 rc
          cases rc with
          | @lst vs _ hH rs hz =>
            simp only at P2
            by_cases hb : ds.length < big
            · rw [if_pos hb] at P2
              refine ⟨ad, vs, rfl, hH, by rw [rs.length, ← big_eq]; exact hb, ?_⟩
              have rs' := rs.append (.cons r2 .nil)
              exact P2 σ _ C2 (Ext.put S2.store hk hH) (S2.ext (Ext.put S2.store hk hH) (S2.store.put hk hH rs' (by rw [List.length_append, ← big_eq]; exact hb)))
            · rw [if_neg hb] at P2
              exact P2.elim
        | dic _ => rw [q] at P2; exact P2.elim
        | ins _ _ => rw [q] at P2; exact P2.elim
    | _ => exact P2.elim
  refine ⟨?_, toE S1 P1 fun d2 μ2 v2 H2 C2 e2 S2 r2 P2 => ?_⟩
  · cases d with
    | ref k =>
      cases r1 with
      | @ref _ ad hk =>
        simp only [isCellL] at hcell
        cases q : μ1[k]? with
        | none => rw [q] at hcell; cases hcell
        | some c =>
          rw [q] at hcell
          cases c with
          | lst ds =>
            cases S1.store.cells k ad _ hk q with
            | lst hH _ _ => exact .inl ⟨rfl, _, SqL.of hH⟩
          | dic _ => cases hcell
          | ins _ _ => cases hcell
    | _ => cases hcell
  · obtain ⟨ad, vs, rfl, hH, hz, q⟩ := key d2 μ2 v2 H2 C2 e2 S2 r2 P2
    exact ⟨ad, vs, v2, rfl, rfl, hH, hz, q⟩
end
end Mi
/-! Mini: loops. -/
namespace Mi
open PySem PySem.Spec PyProof.Rows L2
section
variable {X : Cx} {K : PySem.W.Frag} {W : Wish} {G : Glo} {m : ME} {ms : List ME} {a : Expr} {es : List Expr} {pins : List (Addr × Obj)} {s : Shared} {σ : L2.St} {H H' : Hp} {C C' : Ctx} {ρ : Env} {μ : Store} {pos : Pos}
theorem s_for {t : MT} {sr : Src} {body : List MS} {tg iter : Expr} {sb : List Stmt} (hp : PassesOwn (model X.prog X.w) X.A X.env X.xe) (hc : X.calm = true) (hi : PI X tg iter (tI K W G sr ms)) (hg : PG X tg (tG K t)) (hb : PSs X sb (tSs K W G body)) (hs : ∀ x, foldedSetIterable iter X.env x = pure x) :
    PS X (.For tg iter sb [] pos) (tS K W G (.for_ t sr ms body)) := by
  refine PS.of (ps_for hp hc hi hg hb hs) fun D σ H ⟨C, ρ, μ, S, P⟩ => ⟨C, ρ, μ, S, ?_⟩
  simp only [exS] at P
  cases q : evEs G ms ρ μ with
  | err _ _ => rw [q] at P; exact P
  | bad => rw [q] at P; exact P
  | ok ds0 μ1 =>
    rw [q, Out.to_ok] at P
    cases q2 : srcD sr (ds0.map (view μ1)) with
    | none => rw [q2] at P; exact P.elim
    | some ds =>
      rw [q2] at P
      simp only at P
      refine ⟨ds, q2, fun vs H1 C1 J e1 S1 p1 w1 => ?_⟩
      have P1 := PostS.ext P e1
      have SW := S.ext e1 S1
      clear P q q2 S
      let Inv' : Nat → L2.St → Hp → Prop := fun i σ2 H2 => ∃ C2 ρ2 μ2, Ext K H1 C1 H2 C2 ∧ StR K σ2 H2 C2 ρ2 μ2 ∧ PostS K W H2 C2 (forL (still ds0 μ1) t (fun ρ' μ' => exSs G body ρ' μ') (ds.drop i) ρ2 μ2) D
      have hrw : ∀ {i H2 C2 μ2 ρ2}, PostS K W H2 C2 (forL (still ds0 μ1) t (fun ρ' μ' => exSs G body ρ' μ') (ds.drop i) ρ2 μ2) D → still ds0 μ1 μ2 = true := fun {i H2 C2 μ2 ρ2} h => by
        cases hd : ds.drop i with
        | nil =>
          rw [hd] at h
          simp only [forL] at h
          by_cases z : still ds0 μ1 μ2 = true
          · exact z
          · rw [if_neg z] at h; exact h.elim
        | cons d r =>
          rw [hd] at h
          simp only [forL] at h
          by_cases z : still ds0 μ1 μ2 = true
          · exact z
          · rw [if_neg z] at h; exact h.elim
      refine ⟨fun i m σ2 H2 => m = ds.length - i ∧ i ≤ ds.length ∧ Inv' i σ2 H2, ⟨ds.length, rfl, Nat.zero_le _, C1, ρ, μ1, Ext.refl, SW, by simpa using P1⟩, ?_⟩
      rintro i m σ2 H2 ⟨rfl, hil, C2, ρ2, μ2, e2, S2, P2⟩
      have hst := hrw P2
      have hv := still_views hst
      have p2 := e2.rps p1
      by_cases hlt : i < ds.length
      · right
        have hdr : ds.drop i = ds[i] :: ds.drop (i + 1) := List.drop_eq_getElem_cons hlt
        have hget : ds[i]? = some ds[i] := List.getElem?_eq_getElem hlt
        refine ⟨w1.goes i H2 C2 μ2 hlt S2.store p2 hv, fun σ3 H3 => Inv' (i + 1) σ3 H3, fun σ3 H3 h3 => ⟨ds.length - (i + 1), by omega, rfl, hlt, h3⟩, fun x H3 y => ?_⟩
        obtain ⟨e3, S3, r3⟩ := w1.yields i x H2 C2 μ2 H3 _ hget S2.store p2 hv y
        rw [hdr] at P2
        simp only [forL, if_pos hst] at P2
        cases hb : bindT t ds[i] ρ2 with
        | none => rw [hb] at P2; exact P2.elim
        | some ρ3 =>
          rw [hb] at P2
          simp only at P2
          refine ⟨C2, ρ2, μ2, ds[i], S2.ext e3 S3, r3, ρ3, hb, fun σ3 S3' b3 => ⟨C2, ρ3, μ2, S3', ?_⟩⟩
          cases qb : exSs G body ρ3 μ2 with
          | nx ρ4 μ4 =>
            rw [qb] at P2
            exact fun σ4 H4 C4 e4 S4 => ⟨C4, ρ4, μ4, (e2.trans e3).trans e4, S4, PostS.ext P2 (e3.trans e4)⟩
          | rt d μ4 =>
            rw [qb] at P2
            exact fun v H4 C4 e4 S4 r4 => P2 v H4 C4 (e3.trans e4) S4 r4
          | err _ _ =>
            rw [qb] at P2
            exact fun H4 C4 e4 S4 => P2 H4 C4 (e3.trans e4) S4
          | bad => rw [qb] at P2; exact P2.elim
      · left
        have e : i = ds.length := by omega
        subst e
        rw [List.drop_length] at P2
        simp only [forL, if_pos hst] at P2
        exact ⟨w1.stops H2 C2 μ2 S2.store p2 hv, P2 σ2 H2 C2 Ext.refl S2⟩
theorem s_whl {c : Expr} {sb : List Stmt} {mc : ME} {body : List MS} (hp : PassesOwn (model X.prog X.w) X.A X.env X.xe) (hc : PT X c (tT K W G mc)) (hb : PSs X sb (tSs K W G body)) : PS X (.While c sb [] pos) (tS K W G (.whl mc body)) := by
  refine PS.of (ps_while hp hc hb) fun D σ H ⟨C, ρ, μ, S, P⟩ => ?_
  simp only [exS] at P
  refine ⟨fun n σ2 H2 => ∃ C2 ρ2 μ2, StR K σ2 H2 C2 ρ2 μ2 ∧ PostS K W H2 C2 (whlL (fun ρ' μ' => (evE G mc ρ' μ').bind asBool) (fun ρ' μ' => exSs G body ρ' μ') n ρ2 μ2) D, ⟨G.W, C, ρ, μ, S, P⟩, ?_⟩
  rintro n σ2 H2 ⟨C2, ρ2, μ2, S2, P2⟩
  cases n with
  | zero => exact P2.elim
  | succ n =>
    simp only [whlL] at P2
    refine ⟨C2, ρ2, μ2, S2, ?_⟩
    cases q : (evE G mc ρ2 μ2).bind asBool with
    | err _ _ => rw [q] at P2; exact P2
    | bad => rw [q] at P2; exact P2
    | ok b μ3 =>
      rw [q, Out.to_ok] at P2
      intro H3 C3 e3 S3
      have P3 := PostS.ext P2 e3
      cases b with
      | false => exact P3 σ2 H3 C3 Ext.refl (S2.ext e3 S3)
      | true =>
        rw [if_pos rfl]
        simp only [if_true] at P3
        refine ⟨fun σ4 H4 => ∃ C4 ρ4 μ4, StR K σ4 H4 C4 ρ4 μ4 ∧ PostS K W H4 C4 (whlL (fun ρ' μ' => (evE G mc ρ' μ').bind asBool) (fun ρ' μ' => exSs G body ρ' μ') n ρ4 μ4) D, fun σ4 H4 h4 => ⟨n, Nat.lt_succ_self n, h4⟩, C3, ρ2, μ3, S2.ext e3 S3, ?_⟩
        cases qb : exSs G body ρ2 μ3 with
        | nx ρ4 μ4 =>
          rw [qb] at P3
          exact fun σ4 H4 C4 e4 S4 => ⟨C4, ρ4, μ4, S4, PostS.ext P3 e4⟩
        | rt d μ4 =>
          rw [qb] at P3
          exact P3
        | err _ _ =>
          rw [qb] at P3
          exact P3
        | bad => rw [qb] at P3; exact P3.elim
/-- name = [..] on one line, the name a local -/
theorem s_asgC {t : MT} {sr : Src} {me : ME} {mc : Option ME} {own : List (Str × Nat)} {elt tg iter : Expr} {ifs : List Expr} {scope : Scope} {i : Nat} {y : Str} {py spos : Pos} (hK : X.K = K) (hc : X.calm = true) (hN : X.N.Nodup) (hy : X.N[i]? = some y) (hyl : X.env.scope.names.lookup y = some .local)
    (hsw : swapsWith (.ListComp elt [⟨tg, iter, ifs, 0⟩] scope pos) (some (.Name y py)) spos.line X.env = pure true) (hi : PI X tg iter (tI K W G sr ms)) (ok : BlkOk X.N X.env.scope scope own)
    (hg : ∀ (s : Shared) (H : Hp) (C : Addr) (cl : List (Str × Addr)) (fp : List Addr), PG (X.blk s H scope (compEnvC scope cl C X.env) fp) tg (tG K t))
    (ht : ∀ (s : Shared) (H : Hp) (C : Addr) (cl : List (Str × Addr)) (fp : List Addr), PTs (X.blk s H scope (compEnvC scope cl C X.env) fp) ifs (tC' K G mc))
    (he : ∀ (s : Shared) (H : Hp) (C : Addr) (cl : List (Str × Addr)) (fp : List Addr), PE (X.blk s H scope (compEnvC scope cl C X.env) fp) elt (tE K W0 G me)) (hs : ∀ x, foldedSetIterable iter X.env x = pure x)
    (hsl : ∀ i ∈ slotsT t, i ∈ own.map (·.2)) : PS X (.Assign [.Name y py] (.ListComp elt [⟨tg, iter, ifs, 0⟩] scope pos) spos) (tS K W G (.asgC i me t sr ms mc (own.map (·.2)))) := by
  refine PS.of (ps_setLc hc hN hy hyl hsw hi ok hg ht he hs) fun D σ H ⟨C, ρ, μ, S, P⟩ => comp_lc hK hsl (toE S (by simpa only [exS] using P) fun d μ1 v H1 C1 e1 S1 r P1 => ?_)
  exact P1 _ H1 C1 Ext.refl (S1.set r)
end
end Mi
/-! Mini against the model's syntax: the check. -/
namespace Mi
open PySem PySem.Spec PyProof.Rows L2

/-- where one stands: the names by slot, the scope, which names' cells may be stored -/
structure SI where
  N : List Str
  sc : Scope
  fn : Str → Bool
/-- the module: built-in names that it does not bind, constants, defs -/
structure MI where
  free : List Str
  glob : List (Str × Nat)
  funs : List (Str × Nat)

def notStar : Expr → Bool
  | .Starred .. => false
  | _ => true
def notSlice : Expr → Bool
  | .Slice .. => false
  | _ => true
def notSet : Expr → Bool
  | .Set .. => false
  | _ => true
def notCall : Expr → Bool
  | .Call .. => false
  | _ => true
def plainTest : Expr → Bool
  | .UnaryOp .. => false
  | .BoolOp .. => false
  | .IfExp .. => false
  | .Compare .. => false
  | _ => true
def isTup : Expr → Bool
  | .Tuple .. => true
  | _ => false
theorem star_cons {e : Expr} {es : List Expr} {env : PySem.Env} (h : notStar e = true) : starEach (e :: es) env = (false, eval e env) :: starEach es env := by
  cases e <;> first | rfl | cases h
theorem assign_cons {e : Expr} {es : List Expr} {env : PySem.Env} (h : notStar e = true) : assignEach (e :: es) env = (false, assign e env) :: assignEach es env := by
  cases e <;> first | rfl | cases h
theorem plainIx {e : Expr} (h : notSlice e = true) : PlainIx e := by
  intro o i
  cases e <;> first | rfl | cases h
theorem assign_sub {o i : Expr} {p : Pos} {env : PySem.Env} (h : notSlice i = true) (v : Value) : assign (.Subscript o i p) env v = (do
      let ov ← holding [v] (eval o env)
      let iv ← holding [v, ov] (eval i env)
      standAt p
      holding [v, ov, iv] (setItem ov iv v)
      release [v, ov, iv] []) := by
  cases i <;> first | rfl | cases h
theorem folded_id {e : Expr} {env : PySem.Env} (h : notSet e = true) (x : Value) : foldedSetIterable e env x = pure x := by
  cases e <;> first | rfl | cases h
theorem base_id {o : Expr} {attr : Str} {env : PySem.Env} (h : notCall o = true) : attributeBase o attr env (eval o env) = eval o env := by
  cases o <;> first | rfl | cases h
theorem test_plain {e : Expr} {env : PySem.Env} (h : plainTest e = true) (whole : Sem Value) : isTrue e env whole = (do let v ← whole; standAt e.pos; holding [v] (truthy v)) := by
  cases e <;> first | rfl | cases h
def noStars : List Expr → Bool
  | [] => true
  | e :: es => notStar e && noStars es
theorem back_any {es : List Expr} {env : PySem.Env} {pos : Pos} : noStars es = true → (backTo pos (starEach es env)).any (·.1) = false := by
  induction es with
  | nil => intro _; rfl
  | cons e es ih =>
    intro h
    have h' : notStar e = true ∧ noStars es = true := by simpa [noStars] using h
    rw [star_cons h'.1]
    exact ih h'.2

/-! ### assignments without swaps -/
def nameLocal (sc : Scope) : Expr → Bool
  | .Name id _ => (match sc.names.lookup id with | some .local => true | _ => false)
  | _ => false
def ownIn (scope : Scope) (t : Str) : Bool := scope.names.any fun (n, k) => n == t && (k == .local || k == .cell)
/-- the store is an ordinary one -/
def swNo (sc : Scope) (tg a : Expr) : Bool :=
  match a with
  | .ListComp _ _ s p => (match tg with
    | .Name t pos => !((match sc.names.lookup t with | some .local => true | _ => false) && pos.line == p.line && !ownIn s t)
    | _ => true)
  | .SetComp .. => false
  | .DictComp .. => false
  | _ => true
def swNone (sc : Scope) (tg a : Expr) : Bool :=
  match tg with
  | .Tuple ts _ _ => (match a with
    | .Tuple vs _ _ => !(ts.length == 2 || ts.length == 3) || !ts.all (nameLocal sc)
    | _ => true)
  | .List .. => false
  | _ => true
theorem swNo_ok {sc : Scope} {tg a : Expr} {l : Nat} {env : PySem.Env} (hk : env.scope.kind = .function) (hs : env.scope.names = sc.names) (h : swNo sc tg a = true) : swapsWithSole [tg] a l env = pure false := by
  show swapsWith a (some tg) l env = pure false
  have hb : env.blockKind = .function := by unfold Env.blockKind; rw [hk]; rfl
  cases a <;> first | rfl | (cases h; done) | skip
  rename_i elt gens scope pos
  cases tg <;> first | rfl | skip
  rename_i t tp
  have hkind : env.kindOf t = sc.names.lookup t := by
    show env.scope.names.lookup t = _
    rw [hs]
  unfold swapsWith
  simp only [hb, hkind, Expr.pos]
  have h' : ((match sc.names.lookup t with | some .local => true | _ => false) && tp.line == pos.line && !ownIn scope t) = false := by
    have h0 : (!((match sc.names.lookup t with | some .local => true | _ => false) && tp.line == pos.line && !ownIn scope t)) = true := h
    rw [Bool.not_eq_true'] at h0
    exact h0
  have e : (ScopeKind.function == ScopeKind.function && sc.names.lookup t == some NameKind.local && tp.line == pos.line && !(scope.names.any fun (n, k) => n == t && (k == .local || k == .cell))) = false := by
    rw [← h']
    have e1 : (sc.names.lookup t == some NameKind.local) = (match sc.names.lookup t with | some .local => true | _ => false) := by
      cases sc.names.lookup t with
      | none => rfl
      | some k => cases k <;> rfl
    rw [e1]
    rfl
  show (pure (ScopeKind.function == ScopeKind.function && sc.names.lookup t == some NameKind.local && tp.line == pos.line && !(scope.names.any fun (n, k) => n == t && (k == .local || k == .cell))) : Sem Bool) = pure false
  rw [e]
theorem filterMap_len {ts : List Expr} {sc : Scope} {env : PySem.Env} {line : Nat} (hs : env.scope.names = sc.names) (h : ts.all (nameLocal sc) = false) :
    ((ts.filterMap fun
    | .Name id pos => if env.kindOf id == some .local && pos.line == line then some id else none
    | _ => none).length != ts.length) = true := by
  have key : ∀ ts : List Expr, ts.all (nameLocal sc) = false → (ts.filterMap fun
    | .Name id pos => if env.kindOf id == some .local && pos.line == line then some id else none
    | _ => none).length < ts.length := by
    intro ts
    induction ts with
    | nil => intro h; simp at h
    | cons t ts ih =>
      intro h
      have le : ∀ l : List Expr, (l.filterMap fun
        | .Name id pos => if env.kindOf id == some .local && pos.line == line then some id else none
        | _ => none).length ≤ l.length := fun l => List.length_filterMap_le _ _
      by_cases ht : nameLocal sc t = true
      · have h2 : ts.all (nameLocal sc) = false := by simpa [ht] using h
        have := ih h2
        rw [List.filterMap_cons]
        split
        · rw [List.length_cons]; omega
        · rw [List.length_cons, List.length_cons]; omega
      · rw [List.filterMap_cons]
        have hn : (match t with
          | .Name id pos => if env.kindOf id == some .local && pos.line == line then some id else none
          | _ => none) = none := by
          cases t <;> first | rfl | skip
          rename_i id p
          have hk : env.kindOf id = sc.names.lookup id := by
            show env.scope.names.lookup id = _
            rw [hs]
          have e : (env.kindOf id == some .local) = false := by
            rw [hk]
            cases q : sc.names.lookup id with
            | none => rfl
            | some k =>
              cases k <;> first | rfl | (simp [nameLocal, q] at ht)
          simp only [e, Bool.false_and, Bool.false_eq_true, if_false]
        rw [hn]
        have := le ts
        rw [List.length_cons]
        simp only
        omega
  have := key ts h
  simp only [bne_iff_ne, ne_eq]
  omega
theorem swNone_ok {sc : Scope} {tg a : Expr} {env : PySem.Env} (hs : env.scope.names = sc.names) (h : swNone sc tg a = true) : swappedStores [tg] a env = pure none := by
  unfold swNone at h
  cases tg with
  | Tuple ts k p =>
    cases a with
    | Tuple vs k2 p2 =>
      simp only [Bool.or_eq_true] at h
      have h4 : (!(ts.length == 2 || ts.length == 3) || vs.length != ts.length || env.blockKind != .function) = true ∨ (ts.all (nameLocal sc) = false) := by
        rcases h with z | z
        · left
          rw [z]
          rfl
        · right
          simpa using z
      unfold swappedStores
      rcases h4 with h1 | h3
      · show (if (!(ts.length == 2 || ts.length == 3) || vs.length != ts.length || env.blockKind != .function) = true then pure none else _) = _
        rw [if_pos h1]
      · by_cases h1 : (!(ts.length == 2 || ts.length == 3) || vs.length != ts.length || env.blockKind != .function) = true
        · show (if (!(ts.length == 2 || ts.length == 3) || vs.length != ts.length || env.blockKind != .function) = true then pure none else _) = _
          rw [if_pos h1]
        · show (if (!(ts.length == 2 || ts.length == 3) || vs.length != ts.length || env.blockKind != .function) = true then pure none else _) = _
          rw [if_neg h1]
          by_cases h2 : (vs.any fun | .Starred .. => true | _ => false) = true
          · show (if (vs.any fun | .Starred .. => true | _ => false) = true then pure none else _) = _
            rw [if_pos h2]
          · show (if (vs.any fun | .Starred .. => true | _ => false) = true then pure none else _) = _
            rw [if_neg h2]
            have h5 := filterMap_len (line := (ts.head?.map (·.pos.line)).getD 0) hs h3
            show (if (_ || _) = true then pure none else _) = _
            exact if_pos ((Bool.or_eq_true _ _).mpr (Or.inl h5))
    | _ => rfl
  | List es p => cases h
  | _ => first | rfl | (cases a <;> rfl)
/-- x, y = a, b by two local names -/
def swTwo (x y : Str) (px py : Pos) (a b : Expr) : Bool :=
  !(x == y) && px.line == py.line && !([a, b].all (foldedForSure 8)) && !([a, b].all (constantsAlone 8)) && notStar a && notStar b
theorem swTwo_ok {x y : Str} {px py pt pt2 : Pos} {a b : Expr} {kt k2 : Nat} {env : PySem.Env} (hk : env.scope.kind = .function) (hx : env.scope.names.lookup x = some .local) (hy : env.scope.names.lookup y = some .local) (h : swTwo x y px py a b = true) :
    swappedStores [.Tuple [.Name x px, .Name y py] kt pt] (.Tuple [a, b] k2 pt2) env = pure (some [x, y]) := by
  have hb : env.blockKind = .function := by unfold Env.blockKind; rw [hk]; rfl
  have kx : env.kindOf x = some .local := hx
  have ky : env.kindOf y = some .local := hy
  unfold swTwo at h
  simp only [Bool.and_eq_true, Bool.not_eq_true'] at h
  obtain ⟨⟨⟨⟨⟨h1, h2⟩, h3⟩, h4⟩, h5⟩, h6⟩ := h
  have hst : ([a, b].any fun | .Starred .. => true | _ => false) = false := by
    cases a <;> cases b <;> first | rfl | (cases h5; done) | (cases h6; done)
  have e1 : (px.line == px.line) = true := by simp
  have e0 : (py.line == px.line) = true := by
    have : px.line = py.line := by simpa using h2
    simp [this]
  have e2 : [x, y].eraseDups.length = 2 := by
    have hne : (y == x) = false := by
      have : ¬ x = y := by simpa using h1
      simpa using fun z : y = x => this z.symm
    simp [List.eraseDups, List.eraseDupsBy, List.eraseDupsBy.loop, hne]
  have e0' : py.line = px.line := by simpa using e0
  have fm : ([Expr.Name x px, Expr.Name y py].filterMap fun
    | .Name id pos => if env.kindOf id == some .local && pos.line == px.line then some id else none
    | _ => none) = [x, y] := by
    simp [kx, ky, e0']
  unfold swappedStores
  show (if (!(2 == 2 || 2 == 3) || 2 != 2 || env.blockKind != .function) = true then pure none else _) = _
  rw [if_neg (by rw [hb]; decide)]
  show (if ([a, b].any fun | .Starred .. => true | _ => false) = true then pure none else _) = _
  rw [if_neg (by rw [hst]; decide)]
  show (if (_ || _) = true then pure none else _) = _
  have fm' : ∀ l : List Str, l = [x, y] → (l.length != 2 || l.eraseDups.length != l.length) = false := by
    rintro l rfl
    rw [e2]
    rfl
  rw [if_neg (by
    intro z
    have z2 := fm' _ fm
    exact absurd (z.symm.trans z2) (by decide))]
  show (if ([a, b].all (foldedForSure 8)) = true then pure none else _) = _
  rw [if_neg (by rw [h3]; decide)]
  show (if ([a, b].all (constantsAlone 8)) = true then _ else _) = _
  rw [if_neg (by rw [h4]; decide)]
  exact congrArg (fun l => (pure (some l) : Sem (Option (List Str)))) fm
end Mi
/-! Mini against the model's syntax: the check of expressions, its soundness. -/
namespace Mi
open PySem PySem.Spec PyProof.Rows L2

def okName (x : Str) : Bool := !(x == ("__debug__" : Str)) && !(x == ("__classdict__" : Str)) && !(x == ("__name__" : Str))
def visB (sc : Scope) (x : Str) : Bool := match sc.names.lookup x with
  | some .local => true
  | some .cell => true
  | some .free => true
  | _ => false
def locB (S : SI) (x : Str) : Bool := match S.sc.names.lookup x with
  | some .local => true
  | some .cell => S.fn x
  | _ => false
def glB (S : SI) (x : Str) : Bool := match S.sc.names.lookup x with
  | some .globalImplicit => true
  | _ => false
def freeB (M : MI) (S : SI) (x : Str) : Bool := okName x && glB S x && M.free.contains x
/-- built-in functions (true), types (false) -/
def biFn : Bi → Option Bool
  | .len => some true
  | .toInt => some false
  | .abs => some true
  | .max => some true
  | .min => some true
  | .tuple => some false
  | .list => some false
  | .all => some true
  | _ => none
def biI : Bi → String
  | .len => "len"
  | .toInt => "int"
  | .abs => "abs"
  | .min => "min"
  | .max => "max"
  | .tuple => "tuple"
  | .list => "list"
  | .lrange => "list"
  | .all => "all"
  | .sorted => "sorted"
  | .szip => "sorted"
  | .isa _ => "isinstance"
def biN (b : Bi) : Str := Str.ofString (biI b)
def blkB (N : List Str) (sc scope : Scope) (own : List Nat) : Bool :=
  decide (scope.kind = .function) && scope.names.all (fun y => decide (scope.names.lookup y.1 = some y.2)) && own.all (fun i => decide (i < N.length)) &&
  scope.names.all (fun y => !decide (y.2 = .free) || (decide (sc.names.lookup y.1 = some .cell) || decide (sc.names.lookup y.1 = some .free))) &&
  scope.names.all (fun y => !(decide (y.2 = .local) || decide (y.2 = .cell)) || (own.any (fun i => decide (N[i]? = some y.1)) || !N.contains y.1))
def SI.blk (S : SI) (scope : Scope) : SI := ⟨S.N, relS scope S.sc, fun x => scope.names.lookup x == some .cell⟩
mutual
def chkT (S : SI) : MT → Expr → Bool
  | .nm i, e => (match e with
    | .Name x _ => decide (S.N[i]? = some x) && locB S x
    | _ => false)
  | .tp ts, e => (match e with
    | .Tuple es _ _ => chkTs S ts es
    | _ => false)
def chkTs (S : SI) : List MT → List Expr → Bool
  | [], es => (match es with
    | [] => true
    | _ => false)
  | t :: ts, es => (match es with
    | [] => false
    | e :: es => notStar e && chkT S t e && chkTs S ts es)
end
def srcArgs : Src → Expr → List Expr
  | .seq, e => [e]
  | _, e => (match e with
    | .Call _ args _ _ => args
    | _ => [])
def callOf (x : Str) (n : List Nat) : Expr → Bool
  | .Call (.Name y _) args [] _ => decide (y = x) && n.contains args.length && noStars args
  | _ => false
def srcB (M : MI) (S : SI) (s : Src) (tg iter : Expr) : Bool :=
  match s with
  | .seq => true
  | .rng => freeB M S "range" && callOf "range" [1, 2] iter
  | .zip => isTup tg && freeB M S "zip" && callOf "zip" [2] iter
  | .enum => false
def ifsO : List Expr → Option (Option Expr)
  | [] => some none
  | [c] => some (some c)
  | _ => none
def constB : D → Const → Bool
  | .int i, .int j => decide (i = j)
  | .bl a, .bool b => a == b
  | .non, .none => true
  | .str s, .str t => decide (s = t) && PyData.strOk s
  | _, _ => false
mutual
def chkE (M : MI) : SI → Bool → ME → Expr → Bool
  | S, t, .v i, e => (match e with
    | .Name x _ => okName x && visB S.sc x && decide (S.N[i]? = some x)
    | _ => false)
  | S, t, .k d, e => (match e with
    | .Constant c _ _ => constB d c
    | _ => false)
  | S, t, .g i, e => (match e with
    | .Name x _ => okName x && glB S x && decide (M.glob.lookup x = some i)
    | _ => false)
  | S, t, .bin o a b, e => (match e with
    | .BinOp l op r _ => decide (op = opO o) && chkE M S false a l && chkE M S false b r
    | _ => false)
  | S, t, .neg a, e => (match e with
    | .UnaryOp .USub x _ => !t && chkE M S false a x
    | _ => false)
  | S, t, .not a, e => (match e with
    | .UnaryOp .Not x _ => chkE M S t a x
    | _ => false)
  | S, t, .and a b, e => (match e with
    | .BoolOp .And (l :: rest) p => chkE M S t a l && (match rest with
      | [] => false
      | [r] => chkE M S t b r
      | _ => chkE M S t b (.BoolOp .And rest p))
    | _ => false)
  | S, t, .or a b, e => (match e with
    | .BoolOp .Or (l :: rest) p => chkE M S t a l && (match rest with
      | [] => false
      | [r] => chkE M S t b r
      | _ => chkE M S t b (.BoolOp .Or rest p))
    | _ => false)
  | S, t, .cmp o a b, e => (match e with
    | .Compare l [op] [r] _ => decide (op = opC o) && !behindInMarks op r && chkE M S false a l && chkE M S false b r
    | _ => false)
  | S, t, .chain o o' a b c, e => (match e with
    | .Compare l [op, op'] [r, q] _ => decide (op = opC o) && decide (op' = opC o') && !lastMarks [op, op'] [r, q] && chkE M S false a l && chkE M S false b r && chkE M S false c q
    | _ => false)
  | S, t, .ite c a b, e => (match e with
    | .IfExp x y z _ => !t && chkE M S true c x && chkE M S false a y && chkE M S false b z
    | _ => false)
  | S, t, .tup ms, e => (match e with
    | .Tuple es _ _ => decide (ms.length ≤ 1000) && chkEs M S ms es
    | _ => false)
  | S, t, .lst ms, e => (match e with
    | .List es _ => decide (ms.length ≤ 1000) && chkEs M S ms es
    | _ => false)
  | S, t, .cell ms, e => (match e with
    | .List es _ => decide (ms.length ≤ 1000) && chkEs M S ms es
    | _ => false)
  | S, t, .ix a i, e => (match e with
    | .Subscript x y _ => notSlice y && chkE M S false a x && chkE M S false i y
    | _ => false)
  | S, t, .sl a lo hi, e => (match e with
    | .Subscript x (.Slice l h none _) _ => chkE M S false a x && chkO M S false lo l && chkO M S false hi h
    | _ => false)
  | S, t, .rev a, e => false
  | S, t, .call f ms, e => (match e with
    | .Call (.Name x _) args [] _ => okName x && glB S x && decide (M.funs.lookup x = some f) && noStars args && chkEs M S ms args
    | _ => false)
  | S, t, .bi b ms, e => (match e with
    | .Call (.Name x _) args [] _ => (match b with
      | .isa ty => (match ms, args with
        | [m], [a, .Name y _] => decide (x = "isinstance") && freeB M S "isinstance" && decide (y = Str.ofString (tyN ty)) && freeB M S (Str.ofString (tyN ty)) && notStar a && chkE M S false m a
        | _, _ => false)
      | b => decide (biFn b ≠ none) && decide (x = biN b) && freeB M S (biN b) && noStars args && !args.isEmpty && chkEs M S ms args)
    | _ => false)
  | S, t, .mt m a ms, e => (match e with
    | .Call (.Attribute o attr apos) [x] [] p2 => (match m, ms with
      | .index, [y] => decide (attr = "index") && notCall o && notStar x && (apos.endLine == p2.line) && chkE M S false a o && chkE M S false y x
      | _, _ => false)
    | _ => false)
  | S, t, .comp me tg s ms c own, e => (match e with
    | .ListComp elt gs scope _ => (match gs with
      | [⟨tgE, iter, ifs, as⟩] => decide (as = 0) && srcB M S s tgE iter && notSet iter && chkEs M S ms (srcArgs s iter) && blkB S.N S.sc scope own && (slotsT tg).all own.contains &&
        chkT (S.blk scope) tg tgE && (match ifsO ifs with
          | none => false
          | some o => chkO M (S.blk scope) true c o) && chkE M (S.blk scope) false me elt
      | _ => false)
    | _ => false)
def chkEs (M : MI) : SI → List ME → List Expr → Bool
  | S, [], es => (match es with
    | [] => true
    | _ => false)
  | S, m :: ms, es => (match es with
    | [] => false
    | e :: es => notStar e && chkE M S false m e && chkEs M S ms es)
def chkO (M : MI) : SI → Bool → Option ME → Option Expr → Bool
  | S, t, none, o => (match o with
    | none => true
    | some _ => false)
  | S, t, some m, o => (match o with
    | none => false
    | some e => chkE M S t m e)
end

/-! ### what a body's context offers -/
structure Tab (M : MI) (P : Program) (w : World) (K : PySem.W.Frag) (mg : Str → Option Value) (base : Heap) (CX : CXT) (WE : XK → Wish) (G : Glo) (k : Nat) : Prop where
  free : ∀ x, M.free.contains x = true → mg x = none
  glob : ∀ x i, M.glob.lookup x = some i → ∃ u v, mg x = some u ∧ RelV v u ∧ ∀ H C, Rp K H C v (G.gd i)
  funs : ∀ x f, M.funs.lookup x = some f → ∃ addr fd ps, mg x = some (.ref addr) ∧ PySem.W.keepIn K (.ref addr) = true ∧ Binds K fd ps [] ∧ FnOk P w K mg base CX k addr fd ps (spC K WE G.call f)
  pass : ∀ X : Cx, X.prog = P → X.w = w → Passes CX X E0
structure Good (M : MI) (CX : CXT) (WE : XK → Wish) (G : Glo) (k : Nat) (S : SI) (E : XK) (X : Cx) : Prop where
  tab : Tab M X.prog X.w X.K X.mg X.base CX WE G k
  N : X.N = S.N
  nd : S.N.Nodup
  kind : X.env.scope.kind = .function
  names : X.env.scope.names = S.sc.names
  sck : S.sc.kind = .function
  fn : ∀ x, S.fn x = true → X.fn x = true
  calm : X.calm = true
  room : Room k X.A
  pass : Passes CX X E
section
variable {M : MI} {CX : CXT} {WE : XK → Wish} {G : Glo} {k : Nat} {S : SI} {E : XK} {X : Cx}
theorem Good.gl (g : Good M CX WE G k S E X) {x : Str} (h : glB S x = true) : L2.Gl X x := by
  unfold glB at h
  show X.env.scope.names.lookup x = _
  rw [g.names]
  split at h
  · assumption
  · cases h
theorem Good.vis (g : Good M CX WE G k S E X) {x : Str} (h : visB S.sc x = true) : Vis X.env.scope x := by
  unfold visB at h
  unfold Vis
  rw [g.names]
  split at h <;> first | (cases h; done) | simp_all
theorem Good.loc (g : Good M CX WE G k S E X) {x : Str} (h : locB S x = true) : L2.Loc X.env.scope x ∧ (X.fn x = true ∨ X.env.scope.names.lookup x = some .local) := by
  unfold locB at h
  unfold L2.Loc
  rw [g.names]
  split at h
  · simp_all
  · exact ⟨by simp_all, .inl (g.fn x h)⟩
  · cases h
theorem okName_d {x : Str} (h : okName x = true) : (x == ("__debug__" : Str)) = false ∧ (x == ("__classdict__" : Str)) = false ∧ x ≠ "__name__" := by
  unfold okName at h
  simp only [Bool.and_eq_true, Bool.not_eq_true'] at h
  refine ⟨h.1.1, h.1.2, fun z => ?_⟩
  rw [z] at h
  simp at h
theorem Good.free (g : Good M CX WE G k S E X) {x : Str} (h : freeB M S x = true) : L2.Gl X x ∧ X.mg x = none ∧ (x == ("__debug__" : Str)) = false ∧ x ≠ "__name__" := by
  unfold freeB at h
  simp only [Bool.and_eq_true] at h
  exact ⟨g.gl h.1.2, g.tab.free x h.2, (okName_d h.1.1).1, (okName_d h.1.1).2.2⟩
theorem Good.units (g : Good M CX WE G k S E X) : X.A.units + 65 < cLine := by have := g.room.un; omega
theorem blk_ok {N : List Str} {sc sc' scope : Scope} {own : List Nat} (hs : sc'.names = sc.names) (h : blkB N sc scope own = true) : BlkOk N sc' scope (own.map fun i => ((N[i]?).getD "", i)) := by
  unfold blkB at h
  simp only [Bool.and_eq_true, List.all_eq_true, decide_eq_true_eq] at h
  obtain ⟨⟨⟨⟨h1, h2⟩, h3⟩, h4⟩, h5⟩ := h
  refine ⟨h1, h2, fun p hp => ?_, fun y hy hf => ?_, fun y hy hf => ?_⟩
  · obtain ⟨i, hi, rfl⟩ := List.mem_map.mp hp
    have := h3 i hi
    show N[i]? = some ((N[i]?).getD "")
    rw [List.getElem?_eq_getElem this]
    rfl
  · have := h4 y hy
    rw [hs]
    simpa [hf] using this
  · have := h5 y hy
    have z : (decide (y.2 = .local) || decide (y.2 = .cell)) = true := by simpa using hf
    rw [z] at this
    simp only [Bool.not_true, Bool.false_or, Bool.or_eq_true, List.any_eq_true, decide_eq_true_eq, Bool.not_eq_true'] at this
    rcases this with ⟨i, hi, e⟩ | e
    · exact .inl (List.mem_map.mpr ⟨(y.1, i), List.mem_map.mpr ⟨i, hi, by rw [e]; rfl⟩, rfl⟩)
    · exact .inr fun z => by
        have := List.contains_iff_mem.mpr z
        rw [e] at this
        cases this
theorem own_map {N : List Str} {own : List Nat} : ((own.map fun i => ((N[i]?).getD "", i)) : List (Str × Nat)).map (·.2) = own := by
  rw [List.map_map]
  exact List.map_id' _
theorem Good.blk (g : Good M CX WE G k S E X) {scope : Scope} (hk : scope.kind = .function) (s : Shared) (H : Hp) (C : Addr) (cl : List (Str × Addr)) (fp : List Addr) : Good M CX WE G k (S.blk scope) E0 (X.blk s H scope (compEnvC scope cl C X.env) fp) := by
  have e : (X.env.scope.kind == ScopeKind.function) = true := by rw [g.kind]; rfl
  have e2 : (S.sc.kind == ScopeKind.function) = true := by rw [g.sck]; rfl
  refine ⟨g.tab, g.N, g.nd, hk, ?_, hk, fun x h => h, g.calm, g.room, g.tab.pass _ rfl rfl⟩
  show (scope.names.map fun ((n, k) : Str × NameKind) => if (k == NameKind.free && X.env.scope.kind == ScopeKind.function && X.env.kindOf n == some NameKind.cell) then (n, NameKind.cell) else (n, k)) =
    (scope.names.map fun ((n, k) : Str × NameKind) => if (k == NameKind.free && S.sc.kind == ScopeKind.function && S.sc.names.lookup n == some NameKind.cell) then (n, NameKind.cell) else (n, k))
  rw [e, e2]
  unfold Env.kindOf
  rw [g.names]
/-! targets -/
theorem assignEach_len : ∀ {es : List Expr} {env : PySem.Env}, noStars es = true → (assignEach es env).length = es.length ∧ (assignEach es env).findIdx? (·.1) = none
  | [], env, _ => ⟨rfl, rfl⟩
  | e :: es, env, h => by
    have h' : notStar e = true ∧ noStars es = true := by simpa [noStars] using h
    obtain ⟨h1, h2⟩ := assignEach_len (es := es) (env := env) h'.2
    rw [assign_cons h'.1]
    refine ⟨by rw [List.length_cons, List.length_cons, h1], ?_⟩
    rw [List.findIdx?_cons, h2]
    rfl
mutual
theorem soundT {S : SI} {X : Cx} {E : XK} (g : Good M CX WE G k S E X) : ∀ (t : MT) (e : Expr), chkT S t e = true → PG X e (tG X.K t)
  | .nm i, e, h => by
    unfold chkT at h
    split at h
    · simp only [Bool.and_eq_true, decide_eq_true_eq] at h
      obtain ⟨h1, h2⟩ := g.loc h.2
      exact g_nm (by rw [g.N]; exact g.nd) (by rw [g.N]; exact h.1) h1 h2
    · cases h
  | .tp ts, e, h => by
    unfold chkT at h
    split at h
    · obtain ⟨h1, h2, h3⟩ := soundTs g ts _ h
      exact g_tp rfl g.calm h1 (by rw [(assignEach_len h3).1, h2]) (assignEach_len h3).2
    · cases h
theorem soundTs {S : SI} {X : Cx} {E : XK} (g : Good M CX WE G k S E X) : ∀ (ts : List MT) (es : List Expr), chkTs S ts es = true → PGs X es (tGs X.K ts) ∧ es.length = ts.length ∧ noStars es = true
  | [], es, h => by
    unfold chkTs at h
    split at h
    · exact ⟨g_nil, rfl, rfl⟩
    · cases h
  | t :: ts, es, h => by
    unfold chkTs at h
    split at h
    · cases h
    · simp only [Bool.and_eq_true] at h
      obtain ⟨h1, h2, h3⟩ := soundTs g ts _ h.2
      refine ⟨g_cons (soundT g t _ h.1.2) h1 (by rw [assign_cons h.1.1]; rfl), by simp [h2], by simp [noStars, h.1.1, h3]⟩
end
end
end Mi
/-! Mini: min, sorted, index. -/
namespace Mi
open PySem PySem.Spec PyProof.Rows L2
section
variable {X : Cx} {K : PySem.W.Frag} {W : Wish} {G : Glo} {pins : List (Addr × Obj)} {s : Shared} {σ : L2.St} {H : Hp} {C : Ctx} {μ : Store}
/-- a row as data -/
def rowP (r : List Int) : PyData := .tuple (r.map .int)
theorem toPyL_ints : ∀ (r : List Int), toPyL (r.map D.int) = some (r.map PyData.int)
  | [] => rfl
  | x :: r => by simp [toPyL, toPy, toPyL_ints r]
theorem intsOf_eq : ∀ {ds : List D} {ns : List Int}, intsOf ds = some ns → ds = ns.map D.int
  | [], ns, e => by cases e; rfl
  | d :: ds, ns, e => by
    cases d <;> simp only [intsOf] at e <;> try (cases e; done)
    cases q : intsOf ds with
    | none => rw [q] at e; cases e
    | some ms =>
      rw [q] at e
      cases e
      rw [intsOf_eq q]
      rfl
theorem tupInts_eq {d : D} {r : List Int} (h : tupInts d = some r) : d = .tup (r.map D.int) := by
  cases d <;> simp only [tupInts] at h <;> try (cases h; done)
  rw [intsOf_eq h]
theorem rowsOf_eq : ∀ {ds : List D} {rs : List (List Int)}, rowsOf ds = some rs → ds = rs.map fun r => D.tup (r.map D.int)
  | [], rs, e => by cases e; rfl
  | d :: ds, rs, e => by
    simp only [rowsOf] at e
    cases q1 : tupInts d with
    | none => rw [q1] at e; cases e
    | some r =>
      cases q2 : rowsOf ds with
      | none => rw [q1, q2] at e; cases e
      | some rs' =>
        rw [q1, q2] at e
        cases e
        rw [tupInts_eq q1, rowsOf_eq q2]
        rfl
theorem toPyL_rows : ∀ (rs : List (List Int)), toPyL (rs.map fun r => D.tup (r.map D.int)) = some (rs.map rowP)
  | [] => rfl
  | r :: rs => by simp [toPyL, toPy, toPyL_rows rs, toPyL_ints, rowP]
theorem lexLt_iff : ∀ (x y : List Int), lexLt x y = decide (x < y)
  | [], [] => by simp [lexLt]
  | [], _ :: _ => by simp [lexLt]
  | _ :: _, [] => by simp [lexLt]
  | a :: x, b :: y => by
    unfold lexLt
    by_cases h : a = b
    · subst h
      simp [lexLt_iff x y, List.cons_lt_cons_iff]
    · rw [if_neg h]
      simp [List.cons_lt_cons_iff, h]
theorem rowP_lt (x y : List Int) : PySem.W.dataLt (rowP x) (rowP y) = lexLt x y := by
  unfold rowP
  rw [lexLt_iff, PySem.W.dataLt_tuple]
  exact PySem.W.dataLt_ints x y
theorem minD_rows : ∀ (rs : List (List Int)) (r : List Int), PySem.W.minD (rowP r) (rs.map rowP) = rowP (minR r rs)
  | [], r => rfl
  | x :: rs, r => by
    have ih := minD_rows rs (if lexLt x r then x else r)
    unfold minR
    rw [← ih]
    unfold PySem.W.minD
    rw [List.map_cons, List.foldl_cons, rowP_lt]
    by_cases h : lexLt x r = true
    · rw [if_pos h, if_pos h]
    · rw [if_neg h, if_neg h]
theorem rowP_alike (x y : List Int) : PySem.W.alike (rowP x) (rowP y) = true := by
  unfold rowP
  rw [PySem.W.alike]
  exact PySem.W.alike_ints x y
theorem rowP_inj {x y : List Int} (h : rowP x = rowP y) : x = y := by
  unfold rowP at h
  injection h with h
  exact List.map_inj_right (fun a b e => by injection e) |>.mp h
theorem rows_alike (rs : List (List Int)) : PySem.W.AlikeAll (rs.map rowP) := by
  refine ⟨fun x hx y hy => ?_, fun x hx => ?_⟩
  · obtain ⟨a, _, rfl⟩ := List.mem_map.mp hx
    obtain ⟨b, _, rfl⟩ := List.mem_map.mp hy
    exact rowP_alike a b
  · obtain ⟨a, _, rfl⟩ := List.mem_map.mp hx
    exact fun z => by cases z
theorem rows_depth : ∀ (rs : List (List Int)), PyData.depthAll (rs.map rowP) ≤ 1
  | [] => by simp [PyData.depthAll]
  | r :: rs => by
    have := rows_depth rs
    have e : (rowP r).depth ≤ 1 := by unfold rowP; simp [PyData.depth, PySem.W.depth_ints]
    simp only [List.map_cons, PyData.depthAll]
    omega
theorem min_rows {xs : List D} {ws : List V} {a : Addr} {d : D} {us : List Value} {r : List Int} {rs : List (List Int)} {Q : VK} (hc : X.calm = true) (hu : X.A.units + 65 < cLine) (I : Inv X pins σ H s) (S : StoreR X.K H C μ) (r1 : Rp X.K H C (.ref a) d) (rv : Vals [V.ref a] us)
    (q1 : H a = some (.lst ws)) (q2 : Rps X.K H C ws xs) (q : rowsOf xs = some (r :: rs)) (P : PostE X.K W H C (Out.of (some (.tup ((minR r rs).map .int))) μ) Q) : wpAny (model X.prog X.w) X.A (call (.builtin "min") us) (EP X pins σ Q) X.xe s := by
  rw [Vals.ref1 rv]
  obtain ⟨its, rv2, hl, _⟩ := I.list (SqL.of (K := X.K) q1)
  have e0 := rowsOf_eq q
  have e1 : toPyL xs = some ((r :: rs).map rowP) := by rw [e0]; exact toPyL_rows _
  obtain ⟨as, hr⟩ := Dp.readsAll I _ _ its (Rps.dp q2 e1) rv2
  have hd := rows_depth (r :: rs)
  refine PySem.W.min_list_data (x := rowP r) (xs := rs.map rowP) (I.ok.hd hc) hl.isList hr (rows_alike (r :: rs)) (by rw [List.map_cons] at hd; omega) fun i v h' tk bs hv hR hk => ?_
  rw [minD_rows] at hR
  have hv' : its[i]? = some v := by simpa using hv
  have hxs : i < ws.length := by
    have h1 := (List.getElem?_eq_some_iff.mp hv').1
    have h2 := rv2.length
    omega
  have hx : ws[i]? = some ws[i] := List.getElem?_eq_getElem hxs
  obtain ⟨u', hu', rx⟩ := Vals.get rv2 hx
  rw [hv'] at hu'
  cases hu'
  generalize ws[i] = x at hx rx
  obtain ⟨d', hd', rp⟩ := q2.getV hx
  have : ∃ z : List Int, d' = D.tup (z.map D.int) := by
    rw [e0, List.getElem?_map] at hd'
    cases z : (r :: rs)[i]? with
    | none => rw [z] at hd'; cases hd'
    | some y => rw [z] at hd'; exact ⟨y, by simpa using hd'.symm⟩
  obtain ⟨z, rfl⟩ := this
  have ep : toPy (.tup (z.map D.int)) = some (rowP z) := by simp [toPy, toPyL_ints, rowP]
  obtain ⟨as2, hr2⟩ := Dp.reads I _ _ v (Rp.dp rp ep) rx
  have hr3 := PyProof.Rows.Reads.keeps hk hr2
  have ez := rowP_inj (PySem.W.alike_unique _ _ _ _ _ (rowP_alike _ _) hr3 hR)
  subst ez
  exact ⟨x, H, I.kept hk, rx, PostE.val P S rp⟩
theorem s_min (hK : X.K = K) (hc : X.calm = true) (hu : X.A.units + 65 < cLine) : CallS X K W (.builtin "min") (biF .min) := by
  subst hK
  intro pins s σ H C μ vs ds us Q I S r rv P
  unfold biF at P
  cases r with
  | nil => exact P.elim
  | cons r1 r2 =>
    cases r2 with
    | nil =>
      rename_i v d
      simp only [List.map_cons, List.map_nil] at P
      cases ex : view μ d with
      | lst xs =>
        rw [ex] at P
        obtain ⟨a, ws, rfl, q1, q2, z1⟩ := view_lst S r1 ex
        simp only [biD] at P
        cases q : intsOf xs with
        | some ns =>
          cases ns with
          | nil =>
            have : xs = [] := by
              obtain ⟨_, e⟩ := Rps.ints q2 q
              exact e
            subst this
            rw [q] at P
            exact P.elim
          | cons n ns =>
            rw [q] at P
            obtain ⟨e, _⟩ := Rps.ints q2 q
            subst e
            refine cr_min hc pins s σ H _ us Q I rv ⟨a, n :: ns, rfl, SqL.of q1, by simp, fun m hm hle => ?_⟩
            obtain ⟨h1, h2⟩ := minL_mem ns n
            have e : m = minL n ns := by
              have := hle _ h1
              have := h2 _ hm
              omega
            rw [e]
            exact PostE.val P S (.int _)
        | none =>
          rw [q] at P
          simp only at P
          cases qr : rowsOf xs with
          | none => rw [qr] at P; exact P.elim
          | some rs0 =>
            cases rs0 with
            | nil => rw [qr] at P; exact P.elim
            | cons r rs =>
              rw [qr] at P
              simp only at P
              exact min_rows hc hu I S r1 rv q1 q2 qr P
      | _ => rw [ex] at P; exact P.elim
    | cons r2 r3 =>
      cases r3 with
      | nil =>
        rename_i v d v2 d2
        simp only [List.map_cons, List.map_nil] at P
        cases ex : view μ d with
        | int i =>
          cases ey : view μ d2 with
          | int j =>
            rw [ex, ey] at P
            exact call_min2 hc pins s σ H _ us Q I rv ⟨i, j, by rw [view_int S r1 ex, view_int S r2 ey], PostE.val P S (.int _)⟩
          | _ => rw [ex, ey] at P; exact P.elim
        | _ => rw [ex] at P; exact P.elim
      | cons r3 r4 =>
        simp [biD] at P
        exact P.elim
/-! ### l.index(x) -/
theorem findD_of : ∀ (xs : List D) (y : D) (n j : Nat), findD y n xs = some j → n ≤ j ∧ (∃ z, xs[j - n]? = some z ∧ eqv z y = true) ∧ ∀ m z, m < j - n → xs[m]? = some z → eqv z y = false
  | [], y, n, j, h => by simp [findD] at h
  | x :: xs, y, n, j, h => by
    unfold findD at h
    by_cases e : eqv x y = true
    · rw [if_pos e] at h
      cases h
      refine ⟨Nat.le_refl _, ⟨x, by simp, e⟩, fun m z hm _ => by omega⟩
    · rw [if_neg e] at h
      obtain ⟨h1, ⟨z, h2, h3⟩, h4⟩ := findD_of xs y (n + 1) j h
      have ej : j - n = (j - (n + 1)) + 1 := by omega
      refine ⟨by omega, ⟨z, by rw [ej, List.getElem?_cons_succ]; exact h2, h3⟩, fun m z' hm hz => ?_⟩
      cases m with
      | zero =>
        simp only [List.getElem?_cons_zero, Option.some.injEq] at hz
        subst hz
        exact Bool.eq_false_iff.mpr e
      | succ m =>
        rw [List.getElem?_cons_succ] at hz
        exact h4 m z' (by omega) hz
theorem toPyL_get : ∀ {xs : List D} {ps : List PyData} {j : Nat}, toPyL xs = some ps → (∀ z, xs[j]? = some z → ∃ p, ps[j]? = some p ∧ toPy z = some p) ∧ ∀ p, ps[j]? = some p → ∃ z, xs[j]? = some z ∧ toPy z = some p
  | [], ps, j, e => by cases e; exact ⟨fun z h => by simp at h, fun p h => by simp at h⟩
  | x :: xs, ps, j, e => by
    simp only [toPyL] at e
    cases q1 : toPy x with
    | none => rw [q1] at e; cases e
    | some p1 =>
      cases q2 : toPyL xs with
      | none => rw [q1, q2] at e; cases e
      | some ps' =>
        rw [q1, q2] at e
        cases e
        cases j with
        | zero => exact ⟨fun z h => by simp at h; subst h; exact ⟨p1, rfl, q1⟩, fun p h => by simp at h; subst h; exact ⟨x, rfl, q1⟩⟩
        | succ j =>
          obtain ⟨h1, h2⟩ := toPyL_get (j := j) q2
          exact ⟨fun z h => by simpa using h1 z (by simpa using h), fun p h => by simpa using h2 p (by simpa using h)⟩
theorem m_index {o a : Expr} {mo m : ME} {apos p2 : Pos} (hK : X.K = K) (hu : X.A.units + 65 < cLine) (ho : PE X o (tE K W G mo)) (ha : PE X a (tE K W G m)) (hbase : attributeBase o "index" X.env (eval o X.env) = eval o X.env) (hsa : starEach [a] X.env = [(false, eval a X.env)]) (hline : (apos.endLine == p2.line) = true) :
    PE X (.Call (.Attribute o "index" apos) [a] [] p2) (tE K W G (.mt .index mo [m])) := by
  subst hK
  have hfew : ((backTo p2 (starEach [a] X.env)).all (fun x => !x.1) && (backToKw p2 (keywordEach [] X.env)).all (fun x => x.1.isSome)
      && decide ([a].length + ([] : List Keyword).length + (if ([] : List Keyword).isEmpty then 0 else 1) < 30)) = true := by
    rw [hsa]
    rfl
  refine PE.of (pe_bm PySem.F.plainAttrs_list PySem.F.slot_list_index PySem.F.type_list_index (mt_indexD hu) ho (pa_cons ha pa_nil (by rw [hsa]; rfl)) hbase hfew hline (by rw [hsa]; rfl) rfl) fun σ H Q ⟨C, ρ, μ, S, P⟩ => ⟨C, ρ, μ, S, ?_⟩
  simp only [evE, evEs] at P
  cases q : evE G mo ρ μ with
  | err _ _ => rw [q] at P; exact P
  | bad => rw [q] at P; exact P
  | ok d μ1 =>
    rw [q] at P
    simp only [Out.bind_ok] at P
    intro v H1 C1 e1 S1 r1
    cases ex : view μ1 d with
    | lst xs1 =>
      rw [ex] at P
      simp only [isLstD, if_true] at P
      obtain ⟨ad, vs1, rfl, q1, _, _⟩ := view_lst S1 r1 ex
      have P1 := PostE.ext P e1
      refine ⟨.inl ⟨rfl, _, SqL.of q1⟩, C1, ρ, μ1, S.ext e1 S1, ?_⟩
      cases q2 : evE G m ρ μ1 with
      | err _ _ => rw [q2] at P1; exact P1
      | bad => rw [q2] at P1; exact P1
      | ok d2 μ2 =>
        rw [q2] at P1
        simp only [Out.bind_ok] at P1
        intro v2 H2 C2 e2 S2 r2
        have P2 := PostE.ext P1 e2
        have r1' := e2.rp _ _ r1
        cases ex2 : view μ2 d with
        | lst xs =>
          rw [ex2] at P2
          simp only [mtD] at P2
          by_cases hz : (flat d2 && flatL xs && decide (dep d2 ≤ 64) && decide (depL xs < 64)) = true
          · rw [if_pos hz] at P2
            simp only [Bool.and_eq_true, decide_eq_true_eq] at hz
            obtain ⟨p, hp1, hp2, hp3⟩ := toPy_flat d2 r2 hz.1.1.1
            obtain ⟨ad2, vs, ev, k1, k2, k3⟩ := view_lst S2 r1' ex2
            obtain ⟨ps, hq1, hq2, hq3⟩ := toPyL_flat xs k2 hz.1.1.2
            cases ev
            cases qf : findD d2 0 xs with
            | none => rw [qf] at P2; exact P2.elim
            | some j =>
              rw [qf] at P2
              obtain ⟨_, ⟨z, f2, f3⟩, f4⟩ := findD_of xs d2 0 j qf
              obtain ⟨pz, g1, g2⟩ := (toPyL_get (j := j) hq1).1 z (by simpa using f2)
              refine ⟨ad, v2, p, ps, j, pz, rfl, rfl, .lst (SqL.of k1) (Rps.dp k2 hq1), Rp.dp r2 hp1, ?_, ?_, g1, ?_, fun m' z' hm hz' => ?_, PostE.val P2 S2 (.int _)⟩
              · have hdd : PyData.depth (.list ps) ≤ 64 := by
                  simp only [PyData.depth, hq2]
                  omega
                have hcc : PyData.canLay0 (.list ps) = true := by simpa [PyData.canLay0] using hq3
                unfold SeqAt.shaped
                rw [hcc, decide_eq_true hdd]
                rfl
              · unfold SeqAt.shaped
                rw [hp3, hp2, decide_eq_true hz.1.2]
                rfl
              · rw [eqv_py _ _ g2 hp1]
                exact f3
              · obtain ⟨zz, y1, y2⟩ := (toPyL_get (j := m') hq1).2 z' hz'
                rw [eqv_py _ _ y2 hp1]
                exact f4 m' zz (by simpa using hm) y1
          · rw [if_neg hz] at P2
            exact P2.elim
        | _ => rw [ex2] at P2; exact P2.elim
    | _ => rw [ex] at P; exact P.elim
end
end Mi
/-! Mini: the check of expressions is sound. -/
namespace Mi
open PySem PySem.Spec PyProof.Rows L2
section
variable {K : PySem.W.Frag} {W W' : Wish} {H : Hp} {C : Ctx}
theorem PostE.mono {o : Out D} {Q : VK} (h : PostE K W H C o Q) (w : ∀ e μ H C, W e μ H C → W' e μ H C) : PostE K W' H C o Q := by
  cases o with
  | ok d μ => exact h
  | err x μ => exact fun H2 C2 x S => w _ _ _ _ (h H2 C2 x S)
  | bad => exact h
theorem PostB.mono {o : Out Bool} {Q : Bool → Hp → Prop} (h : PostB K W H C o Q) (w : ∀ e μ H C, W e μ H C → W' e μ H C) : PostB K W' H C o Q := by
  cases o with
  | ok d μ => exact h
  | err x μ => exact fun H2 C2 x S => w _ _ _ _ (h H2 C2 x S)
  | bad => exact h
end
section
variable {M : MI} {CX : CXT} {WE : XK → Wish} {G : Glo} {k : Nat} {S : SI} {E : XK} {X : Cx} {W W' : Wish} {m : ME} {e a : Expr} {pos : Pos}
theorem pe_up (h : PE X e (tE X.K W' G m)) : PE X e (tE X.K W0 G m) := PE.of h fun σ H Q ⟨C, ρ, μ, S, P⟩ => ⟨C, ρ, μ, S, P.mono fun _ _ _ _ z => z.elim⟩
theorem pt_up (h : PT X e (tT X.K W' G m)) : PT X e (tT X.K W0 G m) := PT.of h fun σ H Q ⟨C, ρ, μ, S, P⟩ => ⟨C, ρ, μ, S, P.mono fun _ _ _ _ z => z.elim⟩
def Snd (X : Cx) (W : Wish) (G : Glo) (t : Bool) (m : ME) (e : Expr) : Prop := (t = false → PE X e (tE X.K W G m)) ∧ (t = true → PT X e (tT X.K W G m))
theorem Snd.mk' {t : Bool} (h : PE X e (tE X.K W G m)) (hp : plainTest e = true) : Snd X W G t m e := ⟨fun _ => h, fun _ => m_tplain h fun wh => test_plain hp wh⟩
theorem pw_of_bool {op : BoolOp} {vs : List Expr} {t : TT} (h : PT X (.BoolOp op vs pos) t) : PW X (.BoolOp op vs pos) t := ⟨fun wh pins s σ H Q I q => h.run pins s σ H Q I q⟩
theorem star_all {es : List Expr} {env : PySem.Env} (h : notStar e = true) : starEach (e :: es) env = (false, eval e env) :: starEach es env := star_cons h
theorem star1 {env : PySem.Env} (h : notStar e = true) : starEach [e] env = [(false, eval e env)] := star_cons h
theorem bi_sound (hc : X.calm = true) (hu : X.A.units + 65 < cLine) : ∀ b : Bi, (biFn b = some true → CallS X X.K W (.builtin (biI b)) (biF b) ∧ bootBuiltins (biN b) = some (.builtin (biI b))) ∧ (biFn b = some false → CallS X X.K W (.type (biI b)) (biF b) ∧ bootBuiltins (biN b) = some (.type (biI b)))
  | .len => ⟨fun _ => ⟨s_len rfl, boot_len⟩, fun z => by cases z⟩
  | .abs => ⟨fun _ => ⟨s_abs rfl, boot_abs⟩, fun z => by cases z⟩
  | .max => ⟨fun _ => ⟨s_max rfl hc, boot_max⟩, fun z => by cases z⟩
  | .all => ⟨fun _ => ⟨s_all rfl hc, boot_all⟩, fun z => by cases z⟩
  | .toInt => ⟨fun z => (by cases z), fun _ => ⟨s_int rfl, boot_int⟩⟩
  | .tuple => ⟨fun z => (by cases z), fun _ => ⟨s_tuple rfl, boot_tuple⟩⟩
  | .list => ⟨fun z => (by cases z), fun _ => ⟨s_list rfl, boot_list⟩⟩
  | .min => ⟨fun _ => ⟨s_min rfl hc hu, boot_min⟩, fun z => by cases z⟩
  | .sorted => ⟨fun z => (by cases z), fun z => (by cases z)⟩
  | .szip => ⟨fun z => (by cases z), fun z => (by cases z)⟩
  | .lrange => ⟨fun z => (by cases z), fun z => (by cases z)⟩
  | .isa _ => ⟨fun z => (by cases z), fun z => (by cases z)⟩
theorem boot_ty (t : Ty) : bootBuiltins (Str.ofString (tyN t)) = some (.type (tyN t)) := by cases t <;> decide +kernel
theorem callOf_eq {x : Str} {n : List Nat} {iter : Expr} (h : callOf x n iter = true) : ∃ p args pos, iter = .Call (.Name x p) args [] pos ∧ n.contains args.length = true ∧ noStars args = true := by
  unfold callOf at h
  split at h
  · simp only [Bool.and_eq_true, decide_eq_true_eq] at h
    obtain ⟨⟨rfl, h2⟩, h3⟩ := h
    exact ⟨_, _, _, rfl, h2, h3⟩
  · cases h
theorem len_of {es : List Expr} {n : Nat} (h : es.length = n) : es.length = n := h
/-- what a for walks -/
theorem soundSrc (g : Good M CX WE G k S E X) {s : Src} {ms : List ME} {tg iter : Expr} (h : srcB M S s tg iter = true) (ha : PA X (srcArgs s iter) (tL X.K (WE E) G ms)) (hl : ms.length = (srcArgs s iter).length) (h1 : ∀ m e, ms = [m] → srcArgs s iter = [e] → PE X e (tE X.K (WE E) G m)) :
    PI X tg iter (tI X.K (WE E) G s ms) := by
  cases s with
  | seq =>
    cases ms with
    | nil => cases hl
    | cons m ms =>
      cases ms with
      | nil => exact i_seq rfl (h1 m iter rfl rfl)
      | cons _ _ => simp [srcArgs] at hl
  | rng =>
    simp only [srcB, Bool.and_eq_true] at h
    obtain ⟨p, args, pos, rfl, h2, h3⟩ := callOf_eq h.2
    obtain ⟨f1, f2, f3, f4⟩ := g.free h.1
    cases args with
    | nil => exact absurd h2 (by decide)
    | cons a r =>
      simp only [noStars, Bool.and_eq_true] at h3
      cases r with
      | nil =>
        cases ms with
        | nil => cases hl
        | cons m ms =>
          cases ms with
          | nil => exact i_rng1 f1 f2 ha (star1 h3.1)
          | cons _ _ => simp [srcArgs] at hl
      | cons b r =>
        simp only [noStars, Bool.and_eq_true] at h3
        cases r with
        | nil =>
          cases ms with
          | nil => cases hl
          | cons m ms =>
            cases ms with
            | nil => simp [srcArgs] at hl
            | cons m2 ms =>
              cases ms with
              | nil => exact i_rng2 f1 f2 ha (by rw [star_cons h3.1, star1 h3.2.1]) (star1 h3.2.1)
              | cons _ _ => simp [srcArgs] at hl
        | cons c r => simp at h2
  | zip =>
    simp only [srcB, Bool.and_eq_true] at h
    obtain ⟨p, args, pos, rfl, h2, h3⟩ := callOf_eq h.2
    obtain ⟨f1, f2, f3, f4⟩ := g.free h.1.2
    cases args with
    | nil => exact absurd h2 (by decide)
    | cons a r =>
      cases r with
      | nil => exact absurd h2 (by simp)
      | cons b r =>
        cases r with
        | cons c r => simp at h2
        | nil =>
          simp only [noStars, Bool.and_eq_true] at h3
          cases ms with
          | nil => cases hl
          | cons m ms =>
            cases ms with
            | nil => simp [srcArgs] at hl
            | cons m2 ms =>
              cases ms with
              | cons _ _ => simp [srcArgs] at hl
              | nil =>
                cases tg <;> first | (simp [isTup] at h; done) | skip
                exact i_zip rfl f1 f2 ha (star_cons h3.1) (by rw [star1 h3.2.1]; rfl)
  | enum => cases h
theorem ifs_eq {ifs : List Expr} {o : Option Expr} (h : ifsO ifs = some o) : (ifs = [] ∧ o = none) ∨ ∃ c, ifs = [c] ∧ o = some c := by
  unfold ifsO at h
  split at h
  · cases h; exact .inl ⟨rfl, rfl⟩
  · cases h; exact .inr ⟨_, rfl, rfl⟩
  · cases h
/-- the parts of a comprehension -/
structure CompOk (M : MI) (CX : CXT) (WE : XK → Wish) (G : Glo) (k : Nat) (E : XK) (X : Cx) (tg iter elt : Expr) (ifs : List Expr) (scope : Scope) (me : ME) (t : MT) (s : Src) (ms : List ME) (c : Option ME) (own : List Nat) (ow : List (Str × Nat)) : Prop where
  eo : ow.map (·.2) = own
  src : PI X tg iter (tI X.K (WE E) G s ms)
  blk : BlkOk X.N X.env.scope scope ow
  tgt : ∀ (s : Shared) (H : Hp) (C : Addr) (cl : List (Str × Addr)) (fp : List Addr), PG (X.blk s H scope (compEnvC scope cl C X.env) fp) tg (tG X.K t)
  ifs : ∀ (s : Shared) (H : Hp) (C : Addr) (cl : List (Str × Addr)) (fp : List Addr), PTs (X.blk s H scope (compEnvC scope cl C X.env) fp) ifs (tC' X.K G c)
  elt : ∀ (s : Shared) (H : Hp) (C : Addr) (cl : List (Str × Addr)) (fp : List Addr), PE (X.blk s H scope (compEnvC scope cl C X.env) fp) elt (tE X.K W0 G me)
  fold : ∀ x, foldedSetIterable iter X.env x = pure x
  sl : ∀ i ∈ slotsT t, i ∈ ow.map (·.2)
def compB (M : MI) (S : SI) (tg : MT) (s : Src) (own : List Nat) (tgE iter : Expr) (as : Int) (scope : Scope) : Bool :=
  decide (as = 0) && srcB M S s tgE iter && notSet iter && blkB S.N S.sc scope own && (slotsT tg).all own.contains && chkT (S.blk scope) tg tgE
theorem compOk (g : Good M CX WE G k S E X) {tg iter elt : Expr} {ifs : List Expr} {scope : Scope} {me : ME} {t : MT} {s : Src} {ms : List ME} {c : Option ME} {own : List Nat} {o : Option Expr} (h1 : srcB M S s tg iter = true) (h2 : notSet iter = true)
    (h3 : blkB S.N S.sc scope own = true) (h4 : (slotsT t).all own.contains = true) (h5 : chkT (S.blk scope) t tg = true) (h6 : ifsO ifs = some o)
    (ha : PA X (srcArgs s iter) (tL X.K (WE E) G ms)) (hl : ms.length = (srcArgs s iter).length) (ha1 : ∀ m e, ms = [m] → srcArgs s iter = [e] → PE X e (tE X.K (WE E) G m))
    (hc : ∀ X' : Cx, Good M CX WE G k (S.blk scope) E0 X' → (c = none → o = none) ∧ ∀ m, c = some m → ∃ e, o = some e ∧ PT X' e (tT X'.K (WE E0) G m))
    (he : ∀ X' : Cx, Good M CX WE G k (S.blk scope) E0 X' → PE X' elt (tE X'.K (WE E0) G me)) :
    ∃ ow, CompOk M CX WE G k E X tg iter elt ifs scope me t s ms c own ow := by
  have hk : scope.kind = .function := by
    unfold blkB at h3
    simp only [Bool.and_eq_true, decide_eq_true_eq] at h3
    exact h3.1.1.1.1
  refine ⟨_, own_map (N := S.N), soundSrc g h1 ha hl ha1, by rw [g.N]; exact blk_ok g.names h3, fun s H C cl fp => soundT (g.blk hk s H C cl fp) t tg h5, fun s H C cl fp => ?_, fun s H C cl fp => pe_up (he _ (g.blk hk s H C cl fp)), folded_id h2, fun i hi => ?_⟩
  · obtain ⟨n1, n2⟩ := hc _ (g.blk hk s H C cl fp)
    rcases ifs_eq h6 with ⟨rfl, rfl⟩ | ⟨x, rfl, rfl⟩
    · cases c with
      | none => exact m_pts_nil
      | some m =>
        obtain ⟨e, z, _⟩ := n2 m rfl
        cases z
    · cases c with
      | none => exact absurd (n1 rfl) (by simp)
      | some m =>
        obtain ⟨e, z, p⟩ := n2 m rfl
        cases z
        exact m_pts_one (pt_up p)
  · rw [own_map]
    have := (List.all_eq_true.mp h4) i hi
    exact List.contains_iff_mem.mp this

mutual
theorem soundE : ∀ (m : ME) (t : Bool) (e : Expr) (S : SI) (E : XK) (X : Cx), Good M CX WE G k S E X → chkE M S t m e = true → Snd X (WE E) G t m e
  | .v i, t, e, S, E, X, g, h => by
    unfold chkE at h
    split at h
    · simp only [Bool.and_eq_true, decide_eq_true_eq] at h
      obtain ⟨d1, d2, _⟩ := okName_d h.1.1
      exact .mk' (m_v (by rw [g.N]; exact h.2) (g.vis h.1.2) d1 d2) rfl
    · cases h
  | .k d, t, e, S, E, X, g, h => by
    unfold chkE at h
    split at h
    · unfold constB at h
      split at h
      · simp only [decide_eq_true_eq] at h
        subst h
        exact .mk' m_int rfl
      · simp only [beq_iff_eq] at h
        subst h
        exact .mk' m_bl rfl
      · exact .mk' m_non rfl
      · simp only [Bool.and_eq_true, decide_eq_true_eq] at h
        obtain ⟨rfl, h2⟩ := h
        exact .mk' (m_str h2) rfl
      · cases h
    · cases h
  | .g i, t, e, S, E, X, g, h => by
    unfold chkE at h
    split at h
    · simp only [Bool.and_eq_true, decide_eq_true_eq] at h
      obtain ⟨d1, d2, _⟩ := okName_d h.1.1
      obtain ⟨u, v, hm, r, hr⟩ := g.tab.glob _ _ h.2
      exact .mk' (m_g (g.gl h.1.2) hm r hr d1) rfl
    · cases h
  | .bin o a b, t, e, S, E, X, g, h => by
    unfold chkE at h
    split at h
    · simp only [Bool.and_eq_true, decide_eq_true_eq] at h
      obtain ⟨⟨rfl, h1⟩, h2⟩ := h
      exact .mk' (m_bin rfl ((soundE a false _ S E X g h1).1 rfl) ((soundE b false _ S E X g h2).1 rfl)) rfl
    · cases h
  | .neg a, t, e, S, E, X, g, h => by
    unfold chkE at h
    split at h
    · simp only [Bool.and_eq_true, Bool.not_eq_true'] at h
      obtain ⟨rfl, h1⟩ := h
      exact ⟨fun _ => m_neg ((soundE a false _ S E X g h1).1 rfl), fun z => by cases z⟩
    · cases h
  | .not a, t, e, S, E, X, g, h => by
    unfold chkE at h
    split at h
    · have ih := soundE a t _ S E X g h
      exact ⟨fun z => m_not (ih.1 z), fun z => m_tnot (ih.2 z)⟩
    · cases h
  | .and a b, t, e, S, E, X, g, h => by
    unfold chkE at h
    split at h
    · rename_i l rest p
      simp only [Bool.and_eq_true] at h
      obtain ⟨h1, h2⟩ := h
      have ih := soundE a t _ S E X g h1
      split at h2
      · cases h2
      · have ih2 := soundE b t _ S E X g h2
        exact ⟨fun z => m_and (ih.1 z) (pe_one (ih2.1 z)), fun z => (m_wand (ih.2 z) (m_wand1 (ih2.2 z))).pt⟩
      · rename_i hr1 hr2
        have ih2 := soundE b t _ S E X g h2
        cases rest with
        | nil => exact (hr1 rfl).elim
        | cons y r => exact ⟨fun z => m_and (ih.1 z) (ih2.1 z), fun z => (m_wand (ih.2 z) (pw_of_bool (ih2.2 z))).pt⟩
    · cases h
  | .or a b, t, e, S, E, X, g, h => by
    unfold chkE at h
    split at h
    · rename_i l rest p
      simp only [Bool.and_eq_true] at h
      obtain ⟨h1, h2⟩ := h
      have ih := soundE a t _ S E X g h1
      split at h2
      · cases h2
      · have ih2 := soundE b t _ S E X g h2
        exact ⟨fun z => m_or (ih.1 z) (pe_one (ih2.1 z)), fun z => (m_wor (ih.2 z) (m_wor1 (ih2.2 z))).pt⟩
      · rename_i hr1 hr2
        have ih2 := soundE b t _ S E X g h2
        cases rest with
        | nil => exact (hr1 rfl).elim
        | cons y r => exact ⟨fun z => m_or (ih.1 z) (ih2.1 z), fun z => (m_wor (ih.2 z) (pw_of_bool (ih2.2 z))).pt⟩
    · cases h
  | .cmp o a b, t, e, S, E, X, g, h => by
    unfold chkE at h
    split at h
    · simp only [Bool.and_eq_true, decide_eq_true_eq, Bool.not_eq_true'] at h
      obtain ⟨⟨⟨rfl, h0⟩, h1⟩, h2⟩ := h
      have i1 := (soundE a false _ S E X g h1).1 rfl
      have i2 := (soundE b false _ S E X g h2).1 rfl
      exact ⟨fun _ => m_cmp rfl g.units i1 i2 h0, fun _ => m_tcmp rfl g.units i1 i2 h0⟩
    · cases h
  | .chain o o' a b c, t, e, S, E, X, g, h => by
    unfold chkE at h
    split at h
    · simp only [Bool.and_eq_true, decide_eq_true_eq, Bool.not_eq_true'] at h
      obtain ⟨⟨⟨⟨⟨rfl, rfl⟩, h0⟩, h1⟩, h2⟩, h3⟩ := h
      have i1 := (soundE a false _ S E X g h1).1 rfl
      have i2 := (soundE b false _ S E X g h2).1 rfl
      have i3 := (soundE c false _ S E X g h3).1 rfl
      exact ⟨fun _ => m_chain rfl g.units i1 i2 i3 h0, fun _ => m_tchain rfl g.units i1 i2 i3 h0⟩
    · cases h
  | .ite c a b, t, e, S, E, X, g, h => by
    unfold chkE at h
    split at h
    · simp only [Bool.and_eq_true, Bool.not_eq_true'] at h
      obtain ⟨⟨⟨rfl, h0⟩, h1⟩, h2⟩ := h
      have i0 := (soundE c true _ S E X g h0).2 rfl
      have i1 := (soundE a false _ S E X g h1).1 rfl
      have i2 := (soundE b false _ S E X g h2).1 rfl
      exact ⟨fun _ => m_ite i0 i1 i2, fun z => by cases z⟩
    · cases h
  | .tup ms, t, e, S, E, X, g, h => by
    unfold chkE at h
    split at h
    · simp only [Bool.and_eq_true, decide_eq_true_eq] at h
      exact .mk' (m_tup (soundEs ms _ S E X g h.2).1 h.1) rfl
    · cases h
  | .lst ms, t, e, S, E, X, g, h => by
    unfold chkE at h
    split at h
    · simp only [Bool.and_eq_true, decide_eq_true_eq] at h
      exact .mk' (m_lst (soundEs ms _ S E X g h.2).1 h.1) rfl
    · cases h
  | .cell ms, t, e, S, E, X, g, h => by
    unfold chkE at h
    split at h
    · simp only [Bool.and_eq_true, decide_eq_true_eq] at h
      exact .mk' (m_cell (soundEs ms _ S E X g h.2).1 h.1) rfl
    · cases h
  | .ix a i, t, e, S, E, X, g, h => by
    unfold chkE at h
    split at h
    · simp only [Bool.and_eq_true] at h
      obtain ⟨⟨h0, h1⟩, h2⟩ := h
      exact .mk' (m_ix rfl ((soundE a false _ S E X g h1).1 rfl) ((soundE i false _ S E X g h2).1 rfl) (plainIx h0)) rfl
    · cases h
  | .sl a lo hi, t, e, S, E, X, g, h => by
    unfold chkE at h
    split at h
    · simp only [Bool.and_eq_true] at h
      obtain ⟨⟨h0, h1⟩, h2⟩ := h
      have i0 := (soundE a false _ S E X g h0).1 rfl
      have i1 := (soundO lo false _ S E X g h1).1 rfl
      have i2 := (soundO hi false _ S E X g h2).1 rfl
      exact .mk' (m_sl rfl i0 i1 i2) rfl
    · cases h
  | .rev a, t, e, S, E, X, g, h => by
    unfold chkE at h
    cases h
  | .call f ms, t, e, S, E, X, g, h => by
    unfold chkE at h
    split at h
    · simp only [Bool.and_eq_true, decide_eq_true_eq] at h
      obtain ⟨⟨⟨⟨h0, h1⟩, h2⟩, h3⟩, h4⟩ := h
      obtain ⟨d1, d2, _⟩ := okName_d h0
      obtain ⟨addr, fd, ps, hm, hk, hb, F⟩ := g.tab.funs _ _ h2
      obtain ⟨ia, il, i1⟩ := soundEs ms _ S E X g h4
      rename_i args pos _
      cases args with
      | nil =>
        cases ms with
        | nil => exact .mk' (m_call0 F g.pass g.room (g.gl h1) hm hk hb d1) rfl
        | cons _ _ => cases il
      | cons a args =>
        simp only [noStars, Bool.and_eq_true] at h3
        exact .mk' (m_call F g.pass g.room (g.gl h1) hm hk hb ia d1 (star_cons h3.1) (back_any h3.2)) rfl
    · cases h
  | .bi b ms, t, e, S, E, X, g, h => by
    unfold chkE at h
    split at h
    · split at h
      · rename_i ty
        split at h
        · rename_i m a y p2
          simp only [Bool.and_eq_true, decide_eq_true_eq] at h
          obtain ⟨⟨⟨⟨⟨rfl, h1⟩, rfl⟩, h2⟩, h3⟩, h4⟩ := h
          obtain ⟨f1, f2, f3, f4⟩ := g.free h1
          obtain ⟨e1, e2, e3, e4⟩ := g.free h2
          have i1 := (soundE m false _ S E X g h4).1 rfl
          exact .mk' (m_isa rfl i1 f1 f2 e1 e2 (boot_ty ty) e4 e3 (by rw [star_cons h3, star1 rfl]) (star1 rfl)) rfl
        · cases h
      · simp only [Bool.and_eq_true, decide_eq_true_eq, Bool.not_eq_true'] at h
        obtain ⟨⟨⟨⟨⟨h0, rfl⟩, h1⟩, h2⟩, h3⟩, h4⟩ := h
        obtain ⟨f1, f2, f3, f4⟩ := g.free h1
        obtain ⟨ia, il, _⟩ := soundEs ms _ S E X g h4
        rename_i args pos bb hb0 _
        cases args with
        | nil => cases h3
        | cons a args =>
          simp only [noStars, Bool.and_eq_true] at h2
          cases q : biFn b with
          | none => exact absurd q h0
          | some fn =>
            cases fn with
            | true =>
              obtain ⟨c1, c2⟩ := (bi_sound (X := X) (W := WE E) g.calm g.units b).1 q
              exact .mk' (m_callB c1 f1 f2 c2 ia f4 f3 (star_cons h2.1) (back_any h2.2) fun _ _ => rfl) rfl
            | false =>
              obtain ⟨c1, c2⟩ := (bi_sound (X := X) (W := WE E) g.calm g.units b).2 q
              exact .mk' (m_callT c1 f1 f2 c2 ia f4 f3 (star_cons h2.1) (back_any h2.2) fun _ _ => rfl) rfl
    · cases h
  | .mt m a ms, t, e, S, E, X, g, h => by
    unfold chkE at h
    split at h
    · split at h
      · simp only [Bool.and_eq_true, decide_eq_true_eq] at h
        obtain ⟨⟨⟨⟨⟨rfl, h1⟩, h2⟩, h3⟩, h4⟩, h5⟩ := h
        rename_i y
        exact .mk' (m_index rfl g.units ((soundE a false _ S E X g h4).1 rfl) ((soundE y false _ S E X g h5).1 rfl) (base_id h1) (star1 h2) h3) rfl
      · cases h
    · cases h
  | .comp me tg s ms c own, t, e, S, E, X, g, h => by
    unfold chkE at h
    split at h
    · split at h
      · rename_i elt scope pos gs tgE iter ifs as
        split at h
        · simp at h
        · rename_i o ho
          simp only [Bool.and_eq_true, decide_eq_true_eq] at h
          obtain ⟨⟨⟨⟨⟨⟨⟨⟨rfl, h1⟩, h2⟩, h3⟩, h4⟩, h5⟩, h6⟩, h7⟩, h8⟩ := h
          obtain ⟨ia, il, i1⟩ := soundEs ms _ S E X g h3
          obtain ⟨ow, q⟩ := compOk (me := me) (c := c) (elt := elt) g h1 h2 h4 h5 h6 ho ia il i1 (fun X' g' => (soundO c true o _ E0 X' g' h7).2 rfl) (fun X' g' => (soundE me false _ _ E0 X' g' h8).1 rfl)
          refine .mk' ?_ rfl
          rw [← q.eo]
          exact m_comp rfl g.calm (by rw [g.N]; exact g.nd) q.src q.blk q.tgt q.ifs q.elt q.fold q.sl
      · cases h
    · cases h
theorem soundEs : ∀ (ms : List ME) (es : List Expr) (S : SI) (E : XK) (X : Cx), Good M CX WE G k S E X → chkEs M S ms es = true → PA X es (tL X.K (WE E) G ms) ∧ ms.length = es.length ∧ ∀ m e, ms = [m] → es = [e] → PE X e (tE X.K (WE E) G m)
  | [], es, S, E, X, g, h => by
    unfold chkEs at h
    split at h
    · exact ⟨m_nil, rfl, fun _ _ z => by cases z⟩
    · cases h
  | m :: ms, es, S, E, X, g, h => by
    unfold chkEs at h
    split at h
    · cases h
    · simp only [Bool.and_eq_true] at h
      obtain ⟨⟨h0, h1⟩, h2⟩ := h
      have i1 := (soundE m false _ S E X g h1).1 rfl
      obtain ⟨i2, i3, _⟩ := soundEs ms _ S E X g h2
      refine ⟨m_cons i1 i2 (star_cons h0), by rw [List.length_cons, List.length_cons, i3], fun m' e' z z' => ?_⟩
      cases z
      cases z'
      exact i1
theorem soundO : ∀ (o : Option ME) (t : Bool) (e : Option Expr) (S : SI) (E : XK) (X : Cx), Good M CX WE G k S E X → chkO M S t o e = true →
    (t = false → PO X e (tO X.K (WE E) G o)) ∧ (t = true → (o = none → e = none) ∧ ∀ m, o = some m → ∃ x, e = some x ∧ PT X x (tT X.K (WE E) G m))
  | none, t, e, S, E, X, g, h => by
    unfold chkO at h
    split at h
    · exact ⟨fun _ => m_none, fun _ => ⟨fun _ => rfl, fun _ z => by cases z⟩⟩
    · cases h
  | some m, t, e, S, E, X, g, h => by
    unfold chkO at h
    split at h
    · cases h
    · have ih := soundE m t _ S E X g h
      exact ⟨fun z => m_some (ih.1 z), fun z => ⟨fun y => (by cases y), fun m' y => (by cases y; exact ⟨_, rfl, ih.2 z⟩)⟩⟩
end
end
end Mi
/-! Mini: the check of statements, its soundness; a def. -/
namespace Mi
open PySem PySem.Spec PyProof.Rows L2
def isCall : Expr → Bool
  | .Call .. => true
  | _ => false
mutual
def chkS (M : MI) (S : SI) : MS → Stmt → Bool
  | .asg t e, st => (match st with
    | .Assign [tg] a _ => notStar tg && chkT S t tg && chkE M S false e a && swNo S.sc tg a && swNone S.sc tg a
    | _ => false)
  | .asgC i me tg s ms c own, st => (match st with
    | .Assign [.Name y py] (.ListComp elt gs scope pos) _ => (match gs with
      | [⟨tgE, iter, ifs, as⟩] => decide (S.N[i]? = some y) && decide (S.sc.names.lookup y = some .local) && (py.line == pos.line) && !(scope.names.any fun (n, k) => n == y && (k == .local || k == .cell)) &&
        decide (as = 0) && srcB M S s tgE iter && notSet iter && chkEs M S ms (srcArgs s iter) && blkB S.N S.sc scope own && (slotsT tg).all own.contains &&
        chkT (S.blk scope) tg tgE && (match ifsO ifs with
          | none => false
          | some o => chkO M (S.blk scope) true c o) && chkE M (S.blk scope) false me elt
      | _ => false)
    | _ => false)
  | .par i j a b, st => (match st with
    | .Assign [.Tuple [.Name x px, .Name y py] _ _] (.Tuple [p, q] _ _) _ => decide (S.N[i]? = some x) && decide (S.N[j]? = some y) && decide (i ≠ j) && decide (S.sc.names.lookup x = some .local) && decide (S.sc.names.lookup y = some .local) &&
      swTwo x y px py p q && notStar p && notStar q && chkE M S false a p && chkE M S false b q
    | _ => false)
  | .sub a i e, st => (match st with
    | .Assign [.Subscript o x p] v _ => notSlice x && chkE M S false e v && chkE M S false a o && chkE M S false i x && swNo S.sc (.Subscript o x p) v && swNone S.sc (.Subscript o x p) v
    | _ => false)
  | .ex e, st => (match st with
    | .Expr a _ => isCall a && chkE M S false e a
    | _ => false)
  | .app a e, st => (match st with
    | .Expr (.Call (.Attribute o attr apos) [x] [] p2) _ => decide (attr = "append") && notCall o && notStar x && (apos.endLine == p2.line) && chkE M S false a o && chkE M S false e x
    | _ => false)
  | .ret e, st => (match st with
    | .Return (some a) _ => chkE M S false e a
    | _ => false)
  | .retN, st => (match st with
    | .Return none _ => true
    | _ => false)
  | .ifs c a b, st => (match st with
    | .If x sa sb _ => chkE M S true c x && chkSs M S a sa && chkSs M S b sb
    | _ => false)
  | .for_ t s ms body, st => (match st with
    | .For tg iter sb [] _ => srcB M S s tg iter && notSet iter && chkEs M S ms (srcArgs s iter) && chkT S t tg && chkSs M S body sb
    | _ => false)
  | .whl c body, st => (match st with
    | .While x sb [] _ => chkE M S true c x && chkSs M S body sb
    | _ => false)
  | .pas, st => (match st with
    | .Pass _ => true
    | _ => false)
  | .never, _ => true
def chkSs (M : MI) (S : SI) : List MS → List Stmt → Bool
  | [], ss => (match ss with
    | [] => true
    | _ => false)
  | m :: ms, ss => (match ss with
    | [] => false
    | s :: ss => chkS M S m s && chkSs M S ms ss)
end
section
variable {M : MI} {CX : CXT} {WE : XK → Wish} {G : Glo} {k : Nat} {S : SI} {E : XK} {X : Cx}
theorem call_sw {a : Expr} {l : Nat} {env : PySem.Env} (h : isCall a = true) : swapsWith a none l env = pure false := by
  cases a <;> first | rfl | cases h
mutual
theorem soundS (g : Good M CX WE G k S E X) (hp : PassesOwn (model X.prog X.w) X.A X.env X.xe) : ∀ (m : MS) (st : Stmt), chkS M S m st = true → PS X st (tS X.K (WE E) G m)
  | .asg t e, st, h => by
    unfold chkS at h
    split at h
    · simp only [Bool.and_eq_true] at h
      obtain ⟨⟨⟨⟨h0, h1⟩, h2⟩, h3⟩, h4⟩ := h
      exact s_asg ((soundE e false _ S E X g h2).1 rfl) (soundT g t _ h1) (swNo_ok g.kind g.names h3) (swNone_ok g.names h4) (by rw [assign_cons h0]; rfl)
    · cases h
  | .asgC i me tg s ms c own, st, h => by
    unfold chkS at h
    split at h
    · split at h
      · rename_i y py elt scope pos spos gs tgE iter ifs as
        split at h
        · simp at h
        · rename_i o ho
          simp only [Bool.and_eq_true, decide_eq_true_eq, Bool.not_eq_true'] at h
          obtain ⟨⟨⟨⟨⟨⟨⟨⟨⟨⟨⟨⟨n1, n2⟩, n3⟩, n4⟩, rfl⟩, h1⟩, h2⟩, h3⟩, h4⟩, h5⟩, h6⟩, h7⟩, h8⟩ := h
          obtain ⟨ia, il, i1⟩ := soundEs ms _ S E X g h3
          obtain ⟨ow, q⟩ := compOk (me := me) (c := c) (elt := elt) g h1 h2 h4 h5 h6 ho ia il i1 (fun X' g' => (soundO c true o _ E0 X' g' h7).2 rfl) (fun X' g' => (soundE me false _ _ E0 X' g' h8).1 rfl)
          have e : X.env.scope.names.lookup y = some .local := by rw [g.names]; exact n2
          rw [← q.eo]
          exact s_asgC rfl g.calm (by rw [g.N]; exact g.nd) (by rw [g.N]; exact n1) e (sw_true g.kind e n3 n4) q.src q.blk q.tgt q.ifs q.elt q.fold q.sl
      · cases h
    · cases h
  | .par i j a b, st, h => by
    unfold chkS at h
    split at h
    · simp only [Bool.and_eq_true, decide_eq_true_eq] at h
      obtain ⟨⟨⟨⟨⟨⟨⟨⟨⟨n1, n2⟩, n3⟩, n4⟩, n5⟩, n6⟩, n7⟩, n8⟩, h1⟩, h2⟩ := h
      rename_i x px y py kt pt p q k2 pt2 pos
      have e1 : X.env.scope.names.lookup x = some .local := by rw [g.names]; exact n4
      have e2 : X.env.scope.names.lookup y = some .local := by rw [g.names]; exact n5
      exact s_par g.calm (by rw [g.N]; exact g.nd) (by rw [g.N]; exact n1) (by rw [g.N]; exact n2) n3 e1 e2 ((soundE a false _ S E X g h1).1 rfl) ((soundE b false _ S E X g h2).1 rfl) (star_cons n7) (star1 n8) (swTwo_ok g.kind e1 e2 n6) (swNo_ok (sc := S.sc) g.kind g.names rfl)
    · cases h
  | .sub a i e, st, h => by
    unfold chkS at h
    split at h
    · simp only [Bool.and_eq_true] at h
      obtain ⟨⟨⟨⟨⟨h0, h1⟩, h2⟩, h3⟩, h4⟩, h5⟩ := h
      exact s_sub ((soundE a false _ S E X g h2).1 rfl) ((soundE i false _ S E X g h3).1 rfl) ((soundE e false _ S E X g h1).1 rfl) (assign_sub h0) (swNo_ok g.kind g.names h4) (swNone_ok g.names h5)
    · cases h
  | .ex e, st, h => by
    unfold chkS at h
    split at h
    · simp only [Bool.and_eq_true] at h
      exact s_ex ((soundE e false _ S E X g h.2).1 rfl) (call_sw h.1)
    · cases h
  | .app a e, st, h => by
    unfold chkS at h
    split at h
    · simp only [Bool.and_eq_true, decide_eq_true_eq] at h
      obtain ⟨⟨⟨⟨⟨rfl, h1⟩, h2⟩, h3⟩, h4⟩, h5⟩ := h
      exact s_app ((soundE a false _ S E X g h4).1 rfl) ((soundE e false _ S E X g h5).1 rfl) (base_id h1) (star1 h2) h3
    · cases h
  | .ret e, st, h => by
    unfold chkS at h
    split at h
    · exact s_ret ((soundE e false _ S E X g h).1 rfl)
    · cases h
  | .retN, st, h => by
    unfold chkS at h
    split at h
    · exact s_retN
    · cases h
  | .ifs c a b, st, h => by
    unfold chkS at h
    split at h
    · simp only [Bool.and_eq_true] at h
      exact s_ifs ((soundE c true _ S E X g h.1.1).2 rfl) (soundSs g hp a _ h.1.2) (soundSs g hp b _ h.2)
    · cases h
  | .for_ t s ms body, st, h => by
    unfold chkS at h
    split at h
    · simp only [Bool.and_eq_true] at h
      obtain ⟨⟨⟨⟨h1, h2⟩, h3⟩, h4⟩, h5⟩ := h
      obtain ⟨ia, il, i1⟩ := soundEs ms _ S E X g h3
      exact s_for hp g.calm (soundSrc g h1 ia il i1) (soundT g t _ h4) (soundSs g hp body _ h5) (folded_id h2)
    · cases h
  | .whl c body, st, h => by
    unfold chkS at h
    split at h
    · simp only [Bool.and_eq_true] at h
      exact s_whl hp ((soundE c true _ S E X g h.1).2 rfl) (soundSs g hp body _ h.2)
    · cases h
  | .pas, st, h => by
    unfold chkS at h
    split at h
    · exact s_pass
    · cases h
  | .never, st, h => s_never
theorem soundSs (g : Good M CX WE G k S E X) (hp : PassesOwn (model X.prog X.w) X.A X.env X.xe) : ∀ (ms : List MS) (ss : List Stmt), chkSs M S ms ss = true → PSs X ss (tSs X.K (WE E) G ms)
  | [], ss, h => by
    unfold chkSs at h
    split at h
    · exact s_nil
    · cases h
  | m :: ms, ss, h => by
    unfold chkSs at h
    split at h
    · cases h
    · simp only [Bool.and_eq_true] at h
      exact s_cons (soundS g hp m _ h.1) (soundSs g hp ms _ h.2)
end
end
end Mi
/-! Mini: defs. -/
namespace Mi
open PySem PySem.Spec PyProof.Rows L2
section
variable {K : PySem.W.Frag} {H H' : Hp} {C C' : Ctx} {μ : Store} {n : Nat}
mutual
theorem Rp.blw : ∀ {d : D} {v : V}, Rp K H C v d → Mi.below C.mm.length d = true
  | .non, _, h => rfl
  | .bl b, _, h => rfl
  | .int i, _, h => rfl
  | .str x, _, h => rfl
  | .tup ds, _, h => by
    cases h with
    | tup h1 h2 h3 =>
      unfold Mi.below
      exact Rps.blw h2
  | .lst ds, _, h => by
    cases h with
    | lst h1 h2 h3 h4 h5 =>
      unfold Mi.below
      exact Rps.blw h4
  | .ref k, _, h => by
    cases h with
    | ref h1 =>
      unfold Mi.below
      exact decide_eq_true (List.getElem?_eq_some_iff.mp h1).1
  | .clo _ _, _, h => by cases h
  | .scr xs, _, h => rfl
theorem Rps.blw : ∀ {ds : List D} {vs : List V}, Rps K H C vs ds → belowL C.mm.length ds = true
  | [], _, h => rfl
  | d :: ds, _, h => by
    cases h with
    | cons h1 h2 =>
      unfold belowL
      rw [Rp.blw h1, Rps.blw h2]
      rfl
end
mutual
theorem Rp.rst : ∀ {d : D} {v : V}, Rp K H C v d → Mi.below n d = true → Rp K H ⟨C.mm.take n, C.hid⟩ v d
  | .non, _, h, _ => by cases h; exact .non
  | .bl b, _, h, _ => by cases h; exact .bl b
  | .int i, _, h, _ => by cases h; exact .int i
  | .str x, _, h, _ => by
    cases h with
    | str _ h1 => exact .str x h1
  | .tup ds, _, h, b => by
    cases h with
    | tup h1 h2 h3 => exact .tup h1 (Rps.rst h2 (by simpa [Mi.below] using b)) h3
  | .lst ds, _, h, b => by
    cases h with
    | lst h1 h2 h3 h4 h5 => exact .lst h1 (fun z => h2 (List.mem_of_mem_take z)) h3 (Rps.rst h4 (by simpa [Mi.below] using b)) h5
  | .ref k, _, h, b => by
    cases h with
    | ref h1 =>
      have hk : k < n := by simpa [Mi.below] using b
      exact .ref (by show (C.mm.take n)[k]? = _; rw [List.getElem?_take_of_lt hk]; exact h1)
  | .clo _ _, _, h, _ => by cases h
  | .scr xs, _, h, _ => by
    cases h with
    | scr h1 => exact .scr h1
theorem Rps.rst : ∀ {ds : List D} {vs : List V}, Rps K H C vs ds → belowL n ds = true → Rps K H ⟨C.mm.take n, C.hid⟩ vs ds
  | [], _, h, _ => by cases h; exact .nil
  | d :: ds, _, h, b => by
    cases h with
    | cons h1 h2 =>
      have b' : Mi.below n d = true ∧ belowL n ds = true := by simpa [belowL] using b
      exact .cons (Rp.rst h1 b'.1) (Rps.rst h2 b'.2)
end
theorem StoreR.cut (S : StoreR K H C μ) (hb : (μ.take n).all (belowC n) = true) : StoreR K H ⟨C.mm.take n, C.hid⟩ (μ.take n) := by
  refine ⟨by simp [S.len], S.nodup.sublist (List.take_sublist _ _), fun a ha => S.apart a (List.mem_of_mem_take ha), S.there, fun k a c e1 e2 => ?_⟩
  have hk : k < n := by
    have := (List.getElem?_eq_some_iff.mp e1).1
    simp at this
    omega
  have e1' : C.mm[k]? = some a := by rw [← List.getElem?_take_of_lt hk]; exact e1
  have e2' : μ[k]? = some c := by rw [← List.getElem?_take_of_lt hk]; exact e2
  have hc : belowC n c = true := (List.all_eq_true.mp hb) c (List.mem_of_getElem? e2)
  cases S.cells k a c e1' e2' with
  | lst h r z => exact .lst h (Rps.rst r (by simpa [belowC] using hc)) z
/-- a def that hands back plain data: its cells are forgotten -/
theorem cut_ext (S0 : StoreR K H C μ) (e : Ext K H C H' C') : Ext K H C H' ⟨C'.mm.take μ.length, C'.hid⟩ := by
  obtain ⟨l, q⟩ := e.pre
  have et : C'.mm.take μ.length = C.mm := by
    rw [q, ← S0.len, List.take_left']
    rfl
  refine ⟨e.hid, ⟨[], by simp [et]⟩, fun d v h => Rp.rst (e.rp d v h) ?_, e.keep⟩
  rw [← S0.len]
  exact Rp.blw h
theorem out_cut {μ' : Store} {d : D} {v : V} (S : StoreR K H C μ') (r : Rp K H C v d) (hb : Mi.below n (outD n μ' d) = true) : Rp K H ⟨C.mm.take n, C.hid⟩ v (outD n μ' d) := by
  cases d with
  | ref k =>
    unfold outD at hb ⊢
    simp only at hb ⊢
    by_cases hk : k < n
    · rw [if_pos hk] at hb ⊢
      exact Rp.rst r hb
    · rw [if_neg hk] at hb ⊢
      rcases view_rp S r with ⟨k', es, a, vs, e0, e', hv, hm, _, ha, rr, hz⟩ | e'
      · cases e0
        rw [e'] at hb ⊢
        subst hv
        refine .lst ha (fun z => ?_) (S.apart _ (List.mem_of_getElem? hm)) (Rps.rst rr (by simpa [Mi.below] using hb)) hz
        obtain ⟨j, hj, ej⟩ := List.mem_iff_getElem.mp z
        have hj' : j < n := by
          simp at hj
          omega
        rw [List.getElem_take] at ej
        obtain ⟨h2, e2⟩ := List.getElem?_eq_some_iff.mp hm
        have := (List.getElem_inj S.nodup).mp (ej.trans e2.symm)
        omega
      · rw [e'] at hb
        simp [Mi.below] at hb
        exact absurd hb hk
  | _ => exact Rp.rst r hb
theorem startE_look {nl : Nat} {ds : List D} {i : Nat} {d : D} (h : look (startE nl ds) i = some d) : ds[i]? = some d := by
  unfold look startE at h
  by_cases hi : i < ds.length
  · rw [List.getElem?_append_left (by simpa using hi), List.getElem?_map, List.getElem?_eq_getElem hi] at h
    rw [List.getElem?_eq_getElem hi]
    simpa using h
  · rw [List.getElem?_append_right (by simpa using hi), List.getElem?_replicate] at h
    by_cases hz : i - (List.map some ds).length < nl - ds.length
    · rw [if_pos hz] at h
      cases h
    · rw [if_neg hz] at h
      cases h
theorem str_start {N : List Str} {vs : List V} {ds : List D} (S : StoreR K H C μ) (r : Rps K H C vs ds) : StR K (L2.start N vs) H C (startE N.length ds) μ := by
  have hl := r.length
  refine ⟨fun i d h => ?_, ?_, S⟩
  · obtain ⟨v, e, rr⟩ := r.get (startE_look h)
    refine ⟨v, ?_, rr⟩
    unfold L2.start
    rw [List.getElem?_append_left (by simpa using (List.getElem?_eq_some_iff.mp e).1), List.getElem?_map, e]
    rfl
  · unfold startE L2.start
    simp [hl]
end
section
variable {M : MI} {P : Program} {w : World} {K : PySem.W.Frag} {mg : Str → Option Value} {base : Heap} {T : Nat → Option FDef} {gd : Nat → D} {W k f : Nat} {x qual : Str} {params : Arguments} {body : List Stmt} {scope : Scope} {addr : Addr} {fd : FuncData} {N ps : List Str}
abbrev WE0 : XK → Wish := fun _ => W0
/-- the check of one def -/
structure DefC (M : MI) (T : Nat → Option FDef) (f : Nat) (body : List Stmt) (scope : Scope) (N ps : List Str) : Prop where
  sc : FnScope N ps scope
  ex : ∃ mb drop, T f = some ⟨ps.length, N.length, mb, drop⟩ ∧ chkSs M ⟨N, scope, fun _ => true⟩ mb body = true
theorem def_ok (F : FunD K x qual params body scope [] [] addr fd) (c : DefC M T f body scope N ps) (tab : Tab M P w K mg base CX0 WE0 ⟨gd, run T gd W k, W⟩ k) : FnOk P w K mg base CX0 (k + 1) addr fd ps (spC K WE0 (run T gd W (k + 1)) f) := by
  obtain ⟨mb, drop, hT, hchk⟩ := c.ex
  have key : ∀ {vs : List V} {H : Hp} {Q : VK} {E : XK}, spC K WE0 (run T gd W (k + 1)) f vs H Q E → ∃ C μ ds, StoreR K H C μ ∧ Rps K H C vs ds ∧ ds.length = ps.length ∧ PostE K W0 H C (finS drop μ.length (exSs ⟨gd, run T gd W k, W⟩ mb (startE N.length ds) μ)) Q := by
    rintro vs H Q E ⟨C, μ, ds, S, r, p⟩
    unfold run at p
    rw [hT] at p
    simp only at p
    by_cases hl : ds.length = ps.length
    · rw [if_pos hl] at p
      exact ⟨C, μ, ds, S, r, hl, p⟩
    · rw [if_neg hl] at p
      exact p.elim
  refine F.ok c.sc (fun vs H Q E h => ?_) (fun cdv A outer s H vs Q E hr h => ⟨tSs K W0 ⟨gd, run T gd W k, W⟩ mb, PSs.nox ?_, ?_⟩)
  · obtain ⟨C, μ, ds, S, r, hl, _⟩ := key h
    rw [r.length, hl]
  · refine soundSs (CX := CX0) (WE := WE0) (E := E0) (k := k) (S := ⟨N, scope, fun _ => true⟩) ?_ PassesOwn.never mb body hchk
    exact ⟨tab, rfl, c.sc.nd, c.sc.kind, rfl, c.sc.kind, fun _ _ => rfl, rfl, hr, pass0⟩
  · obtain ⟨C, μ, ds, S, r, hl, p⟩ := key h
    refine ⟨C, _, μ, str_start S r, ?_⟩
    generalize exSs ⟨gd, run T gd W k, W⟩ mb (startE N.length ds) μ = o at p
    cases o with
    | bad => exact p
    | err e μ' => exact p
    | nx ρ' μ' =>
      intro σ' H' C' e S'
      simp only [finS] at p
      by_cases hd : (drop && decide (μ.length < μ'.length)) = true
      · rw [if_pos hd] at p
        by_cases hb : ((μ'.take μ.length).all (belowC μ.length)) = true
        · rw [if_pos hb] at p
          exact p .non H' _ (cut_ext S e) (S'.store.cut hb) .non
        · rw [if_neg hb] at p
          exact p.elim
      · rw [if_neg hd] at p
        exact p .non H' C' e S'.store .non
    | rt d μ' =>
      intro v H' C' e S' r'
      simp only [finS] at p
      by_cases hd : (drop && decide (μ.length < μ'.length)) = true
      · rw [if_pos hd] at p
        by_cases hb : ((μ'.take μ.length).all (belowC μ.length) && Mi.below μ.length (outD μ.length μ' d)) = true
        · rw [if_pos hb] at p
          rw [Bool.and_eq_true] at hb
          exact p v H' _ (cut_ext S e) (S'.cut hb.1) (out_cut S' r' hb.2)
        · rw [if_neg hb] at p
          exact p.elim
      · rw [if_neg hd] at p
        exact p v H' C' e S' r'
end
end Mi
/-! Mini: all defs of a law; the head. -/
namespace Mi
open PySem PySem.Spec PyProof.Rows L2
/-! ### constants of the module -/
mutual
def valB (K : PySem.W.Frag) : D → Value → Bool
  | .non, u => (match u with
    | .none => true
    | _ => false)
  | .bl b, u => (match u with
    | .bool c => b == c
    | _ => false)
  | .int i, u => (match u with
    | .int j _ => decide (i = j)
    | _ => false)
  | .str s, u => (match u with
    | .str t _ => decide (s = t) && PyData.strOk s
    | _ => false)
  | .tup ds, u => (match u with
    | .ref a => (match K.lookup a with
      | some ⟨.type c, _, .seq its _, _⟩ => decide (c = "tuple") && decide (its.size ≤ sizeLine) && valsB K ds its.toList
      | _ => false)
    | _ => false)
  | .lst _, _ => false
  | .ref _, _ => false
  | .clo _ _, _ => false
  | .scr _, _ => false
def valsB (K : PySem.W.Frag) : List D → List Value → Bool
  | [], us => us.isEmpty
  | d :: ds, us => (match us with
    | [] => false
    | u :: us => valB K d u && valsB K ds us)
end
mutual
theorem valB_ok {K : PySem.W.Frag} : ∀ (d : D) (u : Value), valB K d u = true → ∃ v, RelV v u ∧ ∀ H C, Rp K H C v d
  | .non, u, h => by
    unfold valB at h
    split at h
    · exact ⟨.non, rfl, fun _ _ => .non⟩
    · cases h
  | .bl b, u, h => by
    unfold valB at h
    split at h
    · simp only [beq_iff_eq] at h
      subst h
      exact ⟨.bl b, rfl, fun _ _ => .bl b⟩
    · cases h
  | .int i, u, h => by
    unfold valB at h
    split at h
    · rename_i j t
      have e : i = j := of_decide_eq_true h
      subst e
      exact ⟨.int i, ⟨t, rfl⟩, fun _ _ => .int i⟩
    · cases h
  | .str s, u, h => by
    unfold valB at h
    split at h
    · rename_i y t
      rw [Bool.and_eq_true] at h
      have e : s = y := of_decide_eq_true h.1
      subst e
      exact ⟨.str s, ⟨t, rfl⟩, fun _ _ => .str s h.2⟩
    · cases h
  | .tup ds, u, h => by
    unfold valB at h
    split at h
    · rename_i a
      split at h
      · rename_i c od its n sl q
        simp only [Bool.and_eq_true, decide_eq_true_eq] at h
        obtain ⟨⟨h1, h2⟩, h3⟩ := h
        obtain ⟨vs, r, hr, hl⟩ := valsB_ok ds its.toList h3
        refine ⟨.ref a, rfl, fun H C => .tup (vs := vs) (.inr ⟨_, its, n, q, congrArg Value.type h1, rfl, h2, r⟩) (hr H C) ?_⟩
        have : its.toList.length = its.size := Array.length_toList
        omega
      · cases h
    · cases h
  | .lst _, u, h => by unfold valB at h; cases h
  | .ref _, u, h => by unfold valB at h; cases h
  | .clo _ _, u, h => by unfold valB at h; cases h
  | .scr _, u, h => by unfold valB at h; cases h
theorem valsB_ok {K : PySem.W.Frag} : ∀ (ds : List D) (us : List Value), valsB K ds us = true → ∃ vs, Vals vs us ∧ (∀ H C, Rps K H C vs ds) ∧ ds.length = us.length
  | [], us, h => by
    unfold valsB at h
    cases us with
    | nil => exact ⟨[], .nil, fun _ _ => .nil, rfl⟩
    | cons _ _ => cases h
  | d :: ds, us, h => by
    unfold valsB at h
    split at h
    · cases h
    · rw [Bool.and_eq_true] at h
      obtain ⟨v, r, hr⟩ := valB_ok d _ h.1
      obtain ⟨vs, rs, hrs, hl⟩ := valsB_ok ds _ h.2
      exact ⟨v :: vs, .cons r rs, fun H C => .cons (hr H C) (hrs H C), by rw [List.length_cons, List.length_cons, hl]⟩
end
/-- the constants: their names, what they are -/
def conB (K : PySem.W.Frag) (cs : List (Str × D)) : Bool := cs.all fun q => match PySem.W.nsIn K mainGlobals q.1 with
  | some (some u) => valB K q.2 u
  | _ => false

/-! ### the Hook -/
abbrev AlM : Type := He.AlD × Bool
def obsM (fa : List He.Fa) (fn : List He.DefD) (cs : List (Str × D)) (K : PySem.W.Frag) : AlM := (He.obsD fa fn K, conB K cs)
def valM (fn : List He.DefD) : AlM := (He.valD fn, true)
def SaysM (fa : List He.Fa) (fn : List He.DefD) (cs : List (Str × D)) (K : PySem.W.Frag) : Prop := obsM fa fn cs K = valM fn
def obsMG (n : Nat) (fa : List He.Fa) (fn : List He.DefD) (cs : List (Str × D)) (g : Addr → Option Obj) : AlM := obsM fa fn cs (He.frG g (He.asD g n))
def hookM (n : Nat) (fa : List He.Fa) (fn : List He.DefD) (cs : List (Str × D)) : PySem.W.Hook where
  α := AlM
  obs := fun s => obsMG n fa fn cs s.heap.get?
  val := fun _ => valM fn
  says := fun _ h => ∃ K : PySem.W.Frag, K.In h ∧ SaysM fa fn cs K
  of := fun _ _ e => ⟨_, He.frG_in, e⟩
  keeps := fun _ _ _ ⟨K, hK, c⟩ k => ⟨K, PySem.W.Frag.In.keeps hK k, c⟩
theorem obsMG_eq {n : Nat} {fa : List He.Fa} {fn : List He.DefD} {cs : List (Str × D)} {g : Addr → Option Obj} {s : Shared} (h : ∀ a, g a = s.heap.get? a) : obsMG n fa fn cs g = (hookM n fa fn cs).obs s := by
  have e : g = s.heap.get? := funext h
  rw [e] <;> rfl
theorem SaysM.d {fa : List He.Fa} {fn : List He.DefD} {cs : List (Str × D)} {K : PySem.W.Frag} (c : SaysM fa fn cs K) : He.SaysD fa fn K := congrArg (fun z : AlM => z.1) c
theorem SaysM.con {fa : List He.Fa} {fn : List He.DefD} {cs : List (Str × D)} {K : PySem.W.Frag} (c : SaysM fa fn cs K) : conB K cs = true := congrArg (fun z : AlM => z.2) c

/-! ### the defs -/
structure LDef where
  x : Str
  st : Stmt
  N : List Str
  ps : List Str
def LDef.d (d : LDef) : He.DefD := ⟨(d.x, none), d.x, d.x, defArgs d.st, defBody d.st, defScope d.st, [], []⟩
structure LDef.Ok (M : MI) (T : Nat → Option FDef) (i : Nat) (d : LDef) : Prop where
  c : DefC M T i (defBody d.st) (defScope d.st) d.N d.ps
  b : ∀ (kV doc pm : Value) (an : Option Addr) (cdv ct : Value) (us : List Value), us.length = d.ps.length → bindArgs (PySem.W.fnOf d.x d.x (defArgs d.st) (defBody d.st) (defScope d.st) .none kV doc pm an cdv ct) ⟨us, []⟩ = pure (d.ps.zip us)
def AllOk (M : MI) (T : Nat → Option FDef) : Nat → List LDef → Prop
  | _, [] => True
  | i, d :: ds => d.Ok M T i ∧ AllOk M T (i + 1) ds
theorem AllOk.at_ {M : MI} {T : Nat → Option FDef} : ∀ {ds : List LDef} {i j : Nat} {d : LDef}, AllOk M T i ds → ds[j]? = some d → d.Ok M T (i + j)
  | [], i, j, d, _, h => by simp at h
  | d' :: ds, i, 0, d, a, h => by
    simp at h
    subst h
    exact a.1
  | d' :: ds, i, j + 1, d, a, h => by
    have := AllOk.at_ (j := j) a.2 (by simpa using h)
    rw [show i + (j + 1) = i + 1 + j by omega]
    exact this
/-- the facts that the head is asked -/
def faOf (ds : List LDef) (fr : List Str) : List He.Fa := ds.map (fun d => He.Fa.glo d.x) ++ fr.map He.Fa.free
section
variable {M : MI} {P : Program} {w : World} {K : PySem.W.Frag} {mg : Str → Option Value} {base h : Heap} {T : Nat → Option FDef} {gd : Nat → D} {W k f : Nat}
theorem nofn {fd : FuncData} {addr : Addr} {ps : List Str} : FnOk P w K mg base CX0 0 addr fd ps (spC K WE0 (run T gd W 0) f) :=
  ⟨fun vs H Q E ⟨_, _, _, _, _, p⟩ => p.elim, fun A outer s H args us vs Q E _ _ _ _ ⟨_, _, _, _, _, p⟩ => p.elim⟩
/-- every def keeps its promise, at every depth -/
theorem tabs {ds : List LDef} (hall : AllOk M T 0 ds) (hfree : ∀ x, M.free.contains x = true → mg x = none) (hglob : ∀ x i, M.glob.lookup x = some i → ∃ u v, mg x = some u ∧ RelV v u ∧ ∀ H C, Rp K H C v (gd i))
    (hd : ∀ x f, M.funs.lookup x = some f → ∃ (d : LDef) (fd : FuncData), ds[f]? = some d ∧ mg x = some (.ref (He.fAd K (d.x, none))) ∧ FunD K d.x d.x (defArgs d.st) (defBody d.st) (defScope d.st) [] [] (He.fAd K (d.x, none)) fd) :
    ∀ k, Tab M P w K mg base CX0 WE0 ⟨gd, run T gd W k, W⟩ k
  | 0 => ⟨hfree, hglob, fun x f e => by
      obtain ⟨d, fd, hi, hm, F⟩ := hd x f e
      have ok := hall.at_ hi
      exact ⟨_, fd, d.ps, hm, F.kp, F.bindsN ok.b, nofn (T := T) (gd := gd) (W := W)⟩, fun X _ _ => pass0⟩
  | k + 1 => ⟨hfree, hglob, fun x f e => by
      obtain ⟨d, fd, hi, hm, F⟩ := hd x f e
      have ok := hall.at_ hi
      have c := ok.c
      rw [Nat.zero_add] at c
      exact ⟨_, fd, d.ps, hm, F.kp, F.bindsN ok.b, def_ok F c (tabs hall hfree hglob hd k)⟩, fun X _ _ => pass0⟩
/-- what the module's tables say of the head's names -/
structure MOk (M : MI) (ds : List LDef) (fr : List Str) (cs : List (Str × D)) (gd : Nat → D) : Prop where
  free : M.free = fr
  funs : M.funs.all (fun p => match ds[p.2]? with
    | some d => d.x == p.1
    | none => false) = true
  glob : M.glob.all (fun p => cs.any fun q => q.1 == p.1 && deq q.2 (gd p.2)) = true
theorem facts {ds : List LDef} {fr : List Str} {cs : List (Str × D)} (mo : MOk M ds fr cs gd) (hall : AllOk M T 0 ds) (KX : K.In h) (Gn : h.Ns mainGlobals mg) (c : SaysM (faOf ds fr) (ds.map LDef.d) cs K) :
    (∀ (i : Nat) (d : LDef), ds[i]? = some d → ∃ fd, mg d.x = some (.ref (He.fAd K (d.x, none))) ∧ FunD K d.x d.x (defArgs d.st) (defBody d.st) (defScope d.st) [] [] (He.fAd K (d.x, none)) fd) ∧
    ∀ (P : Program) (w : World) (base : Heap) (k : Nat), Tab M P w K mg base CX0 WE0 ⟨gd, run T gd W k, W⟩ k := by
  have key : ∀ (i : Nat) (d : LDef), ds[i]? = some d → ∃ fd, mg d.x = some (.ref (He.fAd K (d.x, none))) ∧ FunD K d.x d.x (defArgs d.st) (defBody d.st) (defScope d.st) [] [] (He.fAd K (d.x, none)) fd := fun i d hi => by
    have hil := (List.getElem?_eq_some_iff.mp hi).1
    obtain ⟨fd, F⟩ := c.d.def_ i (d := d.d) (by rw [List.getElem?_map, hi]; rfl)
    refine ⟨fd, ?_, F⟩
    exact He.glo_ok KX Gn (c.d.fact i (f := .glo d.x) (by unfold faOf; rw [List.getElem?_append_left (by simpa using hil), List.getElem?_map, hi]; rfl))
  refine ⟨key, fun P w base => tabs hall (fun x hx => ?_) (fun x i hx => ?_) (fun x f hx => ?_)⟩
  · rw [mo.free] at hx
    have hm : x ∈ fr := List.contains_iff_mem.mp hx
    obtain ⟨j, hj, e⟩ := List.mem_iff_getElem.mp hm
    refine He.free_ok KX Gn (c.d.fact (ds.length + j) (f := .free x) ?_)
    unfold faOf
    rw [List.getElem?_append_right (by simp), List.getElem?_map]
    simp only [List.length_map, Nat.add_sub_cancel_left]
    rw [List.getElem?_eq_getElem hj, e]
    rfl
  · have h1 := List.all_eq_true.mp mo.glob _ (PySem.mem_of_lookup hx)
    obtain ⟨q, hq, h2⟩ := List.any_eq_true.mp h1
    rw [Bool.and_eq_true] at h2
    have e1 : q.1 = x := eq_of_beq h2.1
    have e2 := deq_eq _ _ h2.2
    have h3 := List.all_eq_true.mp c.con q hq
    rw [e1, e2] at h3
    cases z : PySem.W.nsIn K mainGlobals x with
    | none => rw [z] at h3; cases h3
    | some r =>
      cases r with
      | none => rw [z] at h3; cases h3
      | some u =>
        rw [z] at h3
        obtain ⟨v, r1, r2⟩ := valB_ok _ _ h3
        exact ⟨u, v, PySem.W.mg_of KX Gn z, r1, r2⟩
  · have h1 := List.all_eq_true.mp mo.funs _ (PySem.mem_of_lookup hx)
    simp only at h1
    cases z : ds[f]? with
    | none => rw [z] at h1; cases h1
    | some d =>
      rw [z] at h1
      have e1 : d.x = x := eq_of_beq h1
      obtain ⟨fd, hm, F⟩ := key f d z
      exact ⟨d, fd, rfl, by rw [← e1]; exact hm, F⟩
/-- THE END: what walk_ofE asks -/
theorem law_end {l : PySem.W.OpenLaw} {n fl : Nat} {dl : LDef} {x : Str} {fa : Addr} {ds : List LDef} {fr : List Str} {cs : List (Str × D)} (mo : MOk M ds fr cs gd) (hall : AllOk M T 0 ds) (hl : ds[fl]? = some dl) (hps : dl.ps = [x]) (hx : mg dl.x = some (.ref fa))
    (hn : n ≤ sizeLine) (hrun : ∀ ns : List Int, ns.length ≤ n → ∃ μ, run T gd W k fl [.scr ns] [] = .ok (.bl true) μ)
    (Y : ∃ K : PySem.W.Frag, K.In h ∧ SaysM (faOf ds fr) (ds.map LDef.d) cs K) (Gn : h.Ns mainGlobals mg) :
    ∃ (K : PySem.W.Frag) (fd : FuncData) (sp : Sp), K.In h ∧ (∀ (s : Shared) (u : Value), BindsTo s fd ⟨[u], []⟩ [(x, u)]) ∧
      (∀ (H : Hp) (a : Addr) (ns : List Int), ns.length ≤ n → Only H → SqL K H a (ns.map V.int) → sp [.ref a] H (fun v _ => v = .bl true) fun _ _ _ => False) ∧
      ∀ base : Heap, K.In base → base.Ns mainGlobals mg → FnOk l.prog w K mg base CX0 k fa fd [x] sp := by
  obtain ⟨K, KX, c⟩ := Y
  obtain ⟨f1, f2⟩ := facts (W := W) (T := T) mo hall KX Gn c
  obtain ⟨fd, hm, F⟩ := f1 fl dl hl
  rw [hx] at hm
  have ea : fa = He.fAd K (dl.x, none) := by injection Option.some.inj hm
  have ok := hall.at_ hl
  have b := FunD.bindsA F ok.b
  refine ⟨K, fd, spC K WE0 (run T gd W k) fl, KX, fun s u => ?_, fun H a ns hns hO hS => ?_, fun base _ _ => ?_⟩
  · have := b s [u] (by rw [hps]; rfl)
    rw [hps] at this
    exact this
  · obtain ⟨μ, e⟩ := hrun ns hns
    refine ⟨⟨[], []⟩, [], [.scr ns], ⟨rfl, .nil, fun _ z => (by cases z), fun _ z => (by cases z), fun k a c z => (by simp at z)⟩, .cons (.scr ?_) .nil, ?_⟩
    · rcases hS with (h1 | ⟨o, h1⟩) | h1
      · rcases hO a with z | ⟨o, xs, z⟩
        · rw [z] at h1; cases h1
        · rw [z] at h1; cases h1
      · exact .inl ⟨o, h1⟩
      · exact .inr (.inr h1)
    · rw [e]
      intro v H' C' _ _ r
      cases r
      rfl
  · cases k with
    | zero =>
      exact nofn
    | succ k =>
      have c' := ok.c
      rw [Nat.zero_add] at c'
      have := def_ok (W := W) F c' (f2 l.prog w base k)
      rw [hps] at this
      rw [ea]
      exact this
end
end Mi
/-! Mini by itself: what a run ends with. -/
namespace Mi
open PySem
def Out.Ok {α : Type} (o : Out α) (Q : α → Store → Prop) : Prop := match o with
  | .ok a μ => Q a μ
  | _ => False
def OutS.Ok (o : OutS) (N : Env → Store → Prop) (R : D → Store → Prop) : Prop := match o with
  | .nx ρ μ => N ρ μ
  | .rt d μ => R d μ
  | _ => False
section
variable {α β : Type} {a : α} {μ : Store} {Q Q' : α → Store → Prop} {N N' : Env → Store → Prop} {R R' : D → Store → Prop} {ρ : Env} {d : D}
@[simp] theorem Out.Ok_ok : (Out.ok a μ).Ok Q ↔ Q a μ := Iff.rfl
@[simp] theorem Out.Ok_bad : (Out.bad : Out α).Ok Q ↔ False := Iff.rfl
@[simp] theorem Out.Ok_err {e : Ex} : (Out.err e μ : Out α).Ok Q ↔ False := Iff.rfl
@[simp] theorem Out.Ok_bind {x : Out β} {f : β → Store → Out α} : (x.bind f).Ok Q ↔ x.Ok fun b μ => (f b μ).Ok Q := by cases x <;> rfl
@[simp] theorem Out.Ok_to {x : Out β} {f : β → Store → OutS} : (x.to f).Ok N R ↔ x.Ok fun b μ => (f b μ).Ok N R := by cases x <;> rfl
@[simp] theorem OutS.Ok_nx : (OutS.nx ρ μ).Ok N R ↔ N ρ μ := Iff.rfl
@[simp] theorem OutS.Ok_rt : (OutS.rt d μ).Ok N R ↔ R d μ := Iff.rfl
@[simp] theorem OutS.Ok_bad : OutS.bad.Ok N R ↔ False := Iff.rfl
@[simp] theorem OutS.Ok_err {e : Ex} : (OutS.err e μ).Ok N R ↔ False := Iff.rfl
@[simp] theorem OutS.Ok_then {o : OutS} {f : Env → Store → OutS} : (o.then_ f).Ok N R ↔ o.Ok (fun ρ μ => (f ρ μ).Ok N R) R := by cases o <;> rfl
theorem Out.Ok.mono {o : Out α} (h : o.Ok Q) (w : ∀ a μ, Q a μ → Q' a μ) : o.Ok Q' := by
  cases o with
  | ok a μ => exact w _ _ h
  | _ => exact h
theorem OutS.Ok.mono {o : OutS} (h : o.Ok N R) (w : ∀ ρ μ, N ρ μ → N' ρ μ) (w' : ∀ d μ, R d μ → R' d μ) : o.Ok N' R' := by
  cases o with
  | nx ρ μ => exact w _ _ h
  | rt d μ => exact w' _ _ h
  | _ => exact h
theorem Out.Ok_iff {o : Out α} : o.Ok Q ↔ ∃ a μ, o = .ok a μ ∧ Q a μ := by
  cases o with
  | ok a μ => exact ⟨fun h => ⟨a, μ, rfl, h⟩, fun ⟨_, _, e, h⟩ => by cases e; exact h⟩
  | err _ _ => exact ⟨fun h => h.elim, fun ⟨_, _, e, _⟩ => by cases e⟩
  | bad => exact ⟨fun h => h.elim, fun ⟨_, _, e, _⟩ => by cases e⟩
@[simp] theorem Out.Ok_ite {c : Prop} [Decidable c] {x y : Out α} : (if c then x else y).Ok Q ↔ if c then x.Ok Q else y.Ok Q := by split <;> rfl
@[simp] theorem OutS.Ok_ite {c : Prop} [Decidable c] {x y : OutS} : (if c then x else y).Ok N R ↔ if c then x.Ok N R else y.Ok N R := by split <;> rfl
theorem asBool_Ok {Q : Bool → Store → Prop} {b : Bool} : (asBool (.bl b) μ).Ok Q ↔ Q b μ := Iff.rfl
@[simp] theorem asBool_bl {b : Bool} : asBool (.bl b) μ = .ok b μ := rfl
@[simp] theorem view_int' {i : Int} : view μ (.int i) = .int i := rfl
@[simp] theorem view_bl' {b : Bool} : view μ (.bl b) = .bl b := rfl
@[simp] theorem view_str' {s : Str} : view μ (.str s) = .str s := rfl
@[simp] theorem view_non' : view μ .non = .non := rfl
@[simp] theorem view_tup' {xs : List D} : view μ (.tup xs) = .tup xs := rfl
@[simp] theorem view_lst' {xs : List D} : view μ (.lst xs) = .lst xs := rfl
@[simp] theorem view_scr' {xs : List Int} : view μ (.scr xs) = .scr xs := rfl
/-- the end of a def -/
def finQ (drop : Bool) (n : Nat) (Q : D → Store → Prop) (d : D) (μ : Store) : Prop :=
  if drop = true ∧ n < μ.length then (μ.take n).all (belowC n) = true ∧ below n (outD n μ d) = true ∧ Q (outD n μ d) (μ.take n) else Q d μ
theorem finS_Ok {drop : Bool} {n : Nat} {o : OutS} {Q : D → Store → Prop} (h : o.Ok (fun _ μ => finQ drop n Q .non μ) (fun d μ => finQ drop n Q d μ)) : (finS drop n o).Ok Q := by
  cases o with
  | nx ρ μ =>
    simp only [OutS.Ok_nx, finQ] at h
    simp only [finS, Bool.and_eq_true, decide_eq_true_eq]
    split at h
    · rename_i hz
      rw [if_pos hz, if_pos h.1]
      exact h.2.2
    · rename_i hz
      rw [if_neg hz]
      exact h
  | rt d μ =>
    simp only [OutS.Ok_rt, finQ] at h
    simp only [finS, Bool.and_eq_true, decide_eq_true_eq]
    split at h
    · rename_i hz
      rw [if_pos hz, if_pos ⟨h.1, h.2.1⟩]
      exact h.2.2
    · rename_i hz
      rw [if_neg hz]
      exact h
  | _ => exact h
theorem finQ_same {drop : Bool} {n : Nat} {Q : D → Store → Prop} {d : D} (hl : μ.length ≤ n) : finQ drop n Q d μ ↔ Q d μ := by
  unfold finQ
  rw [if_neg (by omega)]
theorem finQ_ff {n : Nat} {Q : D → Store → Prop} {d : D} : finQ false n Q d μ ↔ Q d μ := by
  unfold finQ
  rw [if_neg (by simp)]
/-- a def's run -/
theorem run_Ok {T : Nat → Option FDef} {gd : Nat → D} {W k f : Nat} {ds : List D} {Q : D → Store → Prop} {np nl : Nat} {body : List MS} {drop : Bool} (hT : T f = some ⟨np, nl, body, drop⟩) (hl : ds.length = np)
    (h : (exSs ⟨gd, run T gd W k, W⟩ body (startE nl ds) μ).Ok (fun _ μ' => finQ drop μ.length Q .non μ') (fun d μ' => finQ drop μ.length Q d μ')) : (run T gd W (k + 1) f ds μ).Ok Q := by
  unfold run
  rw [hT]
  simp only
  rw [if_pos hl]
  exact finS_Ok h

/-! ### loops -/
theorem forL_Ok {g : Store → Bool} {t : MT} {body : Env → Store → OutS} (I : Nat → Env → Store → Prop) : ∀ {ds : List D} {ρ : Env} {μ : Store} (j : Nat), (h0 : I j ρ μ) →
    (hg : ∀ i ρ μ, I i ρ μ → g μ = true) → (hs : ∀ i d ρ μ, ds[i]? = some d → I (j + i) ρ μ → ∃ ρ', bindT t d ρ = some ρ' ∧ (body ρ' μ).Ok (fun ρ2 μ2 => I (j + i + 1) ρ2 μ2) R) → (hN : ∀ ρ μ, I (j + ds.length) ρ μ → N ρ μ) → (forL g t body ds ρ μ).Ok N R
  | [], ρ, μ, j, h0, hg, hs, hN => by
    unfold forL
    rw [if_pos (hg _ _ _ h0)]
    exact hN ρ μ h0
  | d :: ds, ρ, μ, j, h0, hg, hs, hN => by
    unfold forL
    rw [if_pos (hg _ _ _ h0)]
    obtain ⟨ρ', hb, h1⟩ := hs 0 d ρ μ rfl h0
    rw [hb]
    simp only [OutS.Ok_then]
    refine h1.mono (fun ρ2 μ2 h2 => ?_) fun _ _ z => z
    refine forL_Ok I (j + 1) h2 hg (fun i d' ρ μ hi hI => ?_) (fun ρ μ hI => hN ρ μ ?_)
    · have := hs (i + 1) d' ρ μ (by simpa using hi) (by rw [show j + (i + 1) = j + 1 + i by omega]; exact hI)
      rw [show j + (i + 1) + 1 = j + 1 + i + 1 by omega] at this
      exact this
    · rw [List.length_cons, show j + (ds.length + 1) = j + 1 + ds.length by omega]
      exact hI
theorem for_Ok {g : Store → Bool} {t : MT} {body : Env → Store → OutS} (I : Nat → Env → Store → Prop) {ds : List D} {ρ : Env} {μ : Store} (h0 : I 0 ρ μ)
    (hg : ∀ i ρ μ, I i ρ μ → g μ = true) (hs : ∀ i d ρ μ, ds[i]? = some d → I i ρ μ → ∃ ρ', bindT t d ρ = some ρ' ∧ (body ρ' μ).Ok (fun ρ2 μ2 => I (i + 1) ρ2 μ2) R) (hN : ∀ ρ μ, I ds.length ρ μ → N ρ μ) : (forL g t body ds ρ μ).Ok N R :=
  forL_Ok I 0 h0 hg (fun i d ρ μ hi hI => by simpa using hs i d ρ μ hi (by simpa using hI)) fun ρ μ hI => hN ρ μ (by simpa using hI)
theorem compL_Ok {g : Store → Bool} {t : MT} {c : Env → Store → Out Bool} {e : Env → Store → Out D} {ρ : Env} {Q : List D → Store → Prop} (I : Nat → List D → Store → Prop) : ∀ {ds : List D} {μ : Store} (j : Nat) (acc : List D), (h0 : I j acc μ) →
    (hg : ∀ i acc μ, I i acc μ → g μ = true) → (hs : ∀ i d acc μ, ds[i]? = some d → I (j + i) acc μ → ∃ ρ', bindT t d ρ = some ρ' ∧ (c ρ' μ).Ok fun b μ1 => if b = true then (e ρ' μ1).Ok fun x μ2 => I (j + i + 1) (acc ++ [x]) μ2 else I (j + i + 1) acc μ1) →
    (hN : ∀ acc μ, I (j + ds.length) acc μ → Q acc μ) → (noErr (compL g ρ t c e ds μ)).Ok fun ys μ => Q (acc ++ ys) μ
  | [], μ, j, acc, h0, hg, hs, hN => by
    unfold compL
    rw [if_pos (hg _ _ _ h0)]
    simpa using hN acc μ h0
  | d :: ds, μ, j, acc, h0, hg, hs, hN => by
    unfold compL
    rw [if_pos (hg _ _ _ h0)]
    obtain ⟨ρ', hb, h1⟩ := hs 0 d acc μ rfl h0
    rw [hb]
    simp only
    obtain ⟨b, μ1, e1, h2⟩ := Out.Ok_iff.mp h1
    rw [e1]
    simp only [Out.bind_ok]
    have st : ∀ {acc' μ'}, I (j + 0 + 1) acc' μ' → (noErr (compL g ρ t c e ds μ')).Ok fun ys μ => Q (acc' ++ ys) μ := fun {acc' μ'} hI =>
      compL_Ok I (j + 1) acc' hI hg (fun i d' ac m hi hI => by
        have := hs (i + 1) d' ac m (by simpa using hi) (by rw [show j + (i + 1) = j + 1 + i by omega]; exact hI)
        rw [show j + (i + 1) + 1 = j + 1 + i + 1 by omega] at this
        exact this) fun ac m hI => hN ac m (by rw [List.length_cons, show j + (ds.length + 1) = j + 1 + ds.length by omega]; exact hI)
    cases b with
    | false =>
      simp only [Bool.false_eq_true, if_false] at h2 ⊢
      exact st h2
    | true =>
      simp only [if_true] at h2 ⊢
      obtain ⟨x, μ2, e2, h3⟩ := Out.Ok_iff.mp h2
      rw [e2]
      simp only [Out.bind_ok]
      obtain ⟨ys, μ3, e3, h4⟩ := Out.Ok_iff.mp (st h3)
      cases q : compL g ρ t c e ds μ2 with
      | ok zs μ4 =>
        rw [q] at e3
        simp only [noErr_ok] at e3
        cases e3
        simpa using h4
      | err _ _ => rw [q] at e3; cases e3
      | bad => rw [q] at e3; cases e3
/-- a comprehension without changes of the store -/
theorem compL_map {g : Store → Bool} {t : MT} {c : Env → Store → Out Bool} {e : Env → Store → Out D} {ρ : Env} {μ : Store} (p : D → Bool) (f : D → D) (hg : g μ = true) : ∀ {ds : List D}, (∀ d ∈ ds, ∃ ρ', bindT t d ρ = some ρ' ∧ c ρ' μ = .ok (p d) μ ∧ (p d = true → e ρ' μ = .ok (f d) μ)) → compL g ρ t c e ds μ = .ok ((ds.filter p).map f) μ
  | [], h => by unfold compL; rw [if_pos hg]; rfl
  | d :: ds, h => by
    obtain ⟨ρ', h1, h2, h3⟩ := h d (List.mem_cons_self ..)
    have ih := compL_map p f hg fun d' hd => h d' (List.mem_cons_of_mem _ hd)
    unfold compL
    rw [if_pos hg, h1]
    simp only
    rw [h2]
    simp only [Out.bind_ok]
    by_cases hp : p d = true
    · rw [if_pos hp, h3 hp]
      simp only [Out.bind_ok]
      rw [ih]
      simp [hp]
    · rw [if_neg hp, ih]
      simp [hp]
/-- .. that takes all -/
theorem compL_all {g : Store → Bool} {t : MT} {c : Env → Store → Out Bool} {e : Env → Store → Out D} {ρ : Env} {μ : Store} (f : D → D) (hg : g μ = true) {ds : List D} (h : ∀ d ∈ ds, ∃ ρ', bindT t d ρ = some ρ' ∧ c ρ' μ = .ok true μ ∧ e ρ' μ = .ok (f d) μ) : compL g ρ t c e ds μ = .ok (ds.map f) μ := by
  have := compL_map (c := c) (e := e) (ρ := ρ) (t := t) (fun _ => true) f hg (ds := ds) fun d hd => by
    obtain ⟨ρ', h1, h2, h3⟩ := h d hd
    exact ⟨ρ', h1, h2, fun _ => h3⟩
  rw [this, List.filter_eq_self.mpr fun _ _ => rfl]
end
/-! ### the store: all cells are lists of ints (the law's sources) -/
def Srcs (μ : Store) : Prop := ∀ c ∈ μ, ∃ a b : Int, c = .lst [.int a, .int b]
theorem Srcs.below {μ : Store} (h : Srcs μ) (n : Nat) : μ.all (belowC n) = true := by
  rw [List.all_eq_true]
  intro c hc
  obtain ⟨a, b, rfl⟩ := h c hc
  rfl
theorem Srcs.take {μ : Store} (h : Srcs μ) (n : Nat) : Srcs (μ.take n) := fun c hc => h c (List.mem_of_mem_take hc)
theorem Srcs.set {μ : Store} (h : Srcs μ) (r : Nat) (a b : Int) : Srcs (μ.set r (.lst [.int a, .int b])) := fun c hc => by
  rcases List.mem_or_eq_of_mem_set hc with z | z
  · exact h c z
  · exact ⟨a, b, z⟩
theorem Srcs.push {μ : Store} (h : Srcs μ) (a b : Int) : Srcs (μ ++ [.lst [.int a, .int b]]) := fun c hc => by
  rcases List.mem_append.mp hc with z | z
  · exact h c z
  · exact ⟨a, b, by simpa using z⟩
theorem Srcs.get {μ : Store} (h : Srcs μ) {r : Nat} (hr : r < μ.length) : ∃ a b : Int, μ[r]? = some (.lst [.int a, .int b]) := by
  obtain ⟨a, b, e⟩ := h μ[r] (List.getElem_mem hr)
  exact ⟨a, b, by rw [List.getElem?_eq_getElem hr, e]⟩
/-! ### the operators at known values -/
@[simp] theorem ofString_inj {s t : String} : Str.ofString s = Str.ofString t ↔ s = t := by
  constructor
  · intro h
    rw [Str.ofString_eq_toList, Str.ofString_eq_toList] at h
    have h2 : s.toList.map Char.toNat = t.toList.map Char.toNat := by
      have := congrArg (fun z : Str => z.cps.toList) h
      simpa using this
    have h3 : s.toList = t.toList := List.map_inj_right (fun a b e => Char.ext (UInt32.toNat_inj.mp e)) |>.mp h2
    exact String.toList_inj.mp h3
  · rintro rfl; rfl
section
variable {μ : Store} {ρ : Env} {i j : Int} {b c : Bool} {d : D} {xs ys : List D} {n r : Nat} {x : Option D}
@[simp] theorem look_0 : look (some d :: ρ) 0 = some d := rfl
@[simp] theorem look_s : look (x :: ρ) (n + 1) = look ρ n := rfl
@[simp] theorem start_0 : startE 0 [] = [] := rfl
@[simp] theorem start_s : startE (n + 1) [] = none :: startE n [] := rfl
@[simp] theorem start_c : startE (n + 1) (d :: xs) = some d :: startE n xs := by simp [startE]
@[simp] theorem of_map {α β : Type} {o : Option α} {f : α → β} : Out.of (o.map f) μ = (Out.of o μ).bind fun a μ => .ok (f a) μ := by cases o <;> rfl
@[simp] theorem bin_add : binD .add (.int i) (.int j) = some (.int (i + j)) := rfl
@[simp] theorem bin_addb : binD .add (.bl b) (.int j) = some (.int (b2i b + j)) := rfl
@[simp] theorem bin_sub : binD .sub (.int i) (.int j) = some (.int (i - j)) := rfl
theorem bin_mul (h : (small i || small j) = true) : binD .mul (.int i) (.int j) = some (.int (i * j)) := by simp only [binD, if_pos h]
theorem small_of (h1 : -(2 ^ 64) < i) (h2 : i < 2 ^ 64) : small i = true := by
  unfold small
  rw [decide_eq_true h1, decide_eq_true h2]
  rfl
@[simp] theorem bin_mulr (h : small j = true) : binD .mul (.int i) (.int j) = some (.int (i * j)) := bin_mul (by rw [h, Bool.or_true])
@[simp] theorem bin_mull (h : small i = true) : binD .mul (.int i) (.int j) = some (.int (i * j)) := bin_mul (by rw [h, Bool.true_or])
@[simp] theorem bin_mod (h : j ≠ 0) : binD .mod (.int i) (.int j) = some (.int (i.fmod j)) := by simp [binD, h]
@[simp] theorem bin_fdiv (h : j ≠ 0) (h2 : j.natAbs < 1073741824) : binD .fdiv (.int i) (.int j) = some (.int (i.fdiv j)) := by simp [binD, h, h2]
@[simp] theorem bin_pow (h : 0 ≤ j) (h2 : j ≤ 1000000) (h3 : i.natAbs < 2 ^ 64) : binD .pow (.int i) (.int j) = some (.int (i ^ j.toNat)) := by simp [binD, h, h2]; omega
@[simp] theorem bin_addt (h : xs.length + ys.length ≤ big) : binD .add (.tup xs) (.tup ys) = some (.tup (xs ++ ys)) := by simp [binD, h]
@[simp] theorem bin_addl (h : xs.length + ys.length ≤ big) : binD .add (.lst xs) (.lst ys) = some (.lst (xs ++ ys)) := by simp [binD, h]
@[simp] theorem cmp_lt : cmpD .lt (.int i) (.int j) = some (decide (i < j)) := rfl
@[simp] theorem cmp_le : cmpD .le (.int i) (.int j) = some (decide (i ≤ j)) := rfl
@[simp] theorem cmp_gt : cmpD .gt (.int i) (.int j) = some (decide (j < i)) := rfl
@[simp] theorem cmp_ge : cmpD .ge (.int i) (.int j) = some (decide (j ≤ i)) := rfl
@[simp] theorem cmp_eq {y : D} : cmpD .eq d y = eqD d y := rfl
@[simp] theorem cmp_ne {y : D} : cmpD .ne d y = (eqD d y).map (!·) := rfl
@[simp] theorem cmp_isN : cmpD .isN d .non = some (match d with | .non => true | _ => false) := rfl
@[simp] theorem cmp_notN : cmpD .notN d .non = some (match d with | .non => false | _ => true) := rfl
@[simp] theorem eqD_int : eqD (.int i) (.int j) = some (decide (i = j)) := rfl
@[simp] theorem eqD_bl : eqD (.bl b) (.bl c) = some (b == c) := rfl
@[simp] theorem eqD_str {s t : Str} : eqD (.str s) (.str t) = some (decide (s = t)) := rfl
theorem eqD_of {x y : D} (h1 : flat x = true) (h2 : flat y = true) (h3 : min (dep x) (dep y) ≤ 64) : eqD x y = some (eqv x y) := by
  unfold eqD
  rw [h1, h2, decide_eq_true h3]
  rfl
@[simp] theorem ix_tup : ixD (.tup xs) (.int i) = (ixOf xs.length i).bind fun k => xs[k]? := rfl
@[simp] theorem ix_lst : ixD (.lst xs) (.int i) = (ixOf xs.length i).bind fun k => xs[k]? := rfl
@[simp] theorem ix_scr {zs : List Int} : ixD (.scr zs) (.int i) = ((ixOf zs.length i).bind fun k => zs[k]?).map .int := rfl
theorem ixOf_lt (h0 : 0 ≤ i) (h1 : i < n) : ixOf n i = some i.toNat := by unfold ixOf; rw [if_pos h0, if_pos h1]
theorem ixOf_nat (h1 : r < n) : ixOf n (r : Int) = some r := by rw [ixOf_lt (by omega) (by omega)]; simp
@[simp] theorem ixOf_z : ixOf (n + 1) 0 = some 0 := ixOf_nat (r := 0) (by omega)
@[simp] theorem ixOf_1 : ixOf (n + 2) 1 = some 1 := ixOf_nat (r := 1) (by omega)
@[simp] theorem ixOf_2 : ixOf (n + 3) 2 = some 2 := ixOf_nat (r := 2) (by omega)
@[simp] theorem ixOf_m1 : ixOf (n + 1) (-1) = some n := by unfold ixOf; rw [if_neg (by omega), if_pos (by omega)]; congr 1; omega
@[simp] theorem sl_tup {lo hi : Option Int} : slD (.tup xs) lo hi = some (.tup (cutL xs lo hi)) := rfl
@[simp] theorem sl_lst {lo hi : Option Int} : slD (.lst xs) lo hi = some (.lst (cutL xs lo hi)) := rfl
@[simp] theorem bi_lent : biD .len [.tup xs] = some (.int xs.length) := rfl
@[simp] theorem bi_lenl : biD .len [.lst xs] = some (.int xs.length) := rfl
@[simp] theorem bi_lens {zs : List Int} : biD .len [.scr zs] = some (.int zs.length) := rfl
@[simp] theorem bi_int : biD .toInt [.int i] = some (.int i) := rfl
@[simp] theorem bi_intb : biD .toInt [.bl b] = some (.int (b2i b)) := rfl
@[simp] theorem bi_abs : biD .abs [.int i] = some (.int (if i < 0 then -i else i)) := rfl
@[simp] theorem bi_min2 : biD .min [.int i, .int j] = some (.int (if j < i then j else i)) := rfl
@[simp] theorem bi_max2 : biD .max [.int i, .int j] = some (.int (if j > i then j else i)) := rfl
@[simp] theorem bi_tupl : biD .tuple [.lst xs] = some (.tup xs) := rfl
@[simp] theorem bi_tupt : biD .tuple [.tup xs] = some (.tup xs) := rfl
@[simp] theorem bi_lstl : biD .list [.lst xs] = some (.lst xs) := rfl
@[simp] theorem bi_lstt : biD .list [.tup xs] = some (.lst xs) := rfl
@[simp] theorem isa_non {t : Ty} : biD (.isa t) [.non] = some (.bl false) := by cases t <;> rfl
@[simp] theorem isa_bl {t : Ty} : biD (.isa t) [.bl b] = some (.bl (decide (t = .int) || decide (t = .bool))) := by cases t <;> rfl
@[simp] theorem isa_int {t : Ty} : biD (.isa t) [.int i] = some (.bl (decide (t = .int))) := by cases t <;> rfl
@[simp] theorem isa_str {t : Ty} {s : Str} : biD (.isa t) [.str s] = some (.bl (decide (t = .str))) := by cases t <;> rfl
@[simp] theorem isa_tup {t : Ty} : biD (.isa t) [.tup xs] = some (.bl (decide (t = .tup))) := by cases t <;> rfl
@[simp] theorem isa_lst {t : Ty} : biD (.isa t) [.lst xs] = some (.bl (decide (t = .lst))) := by cases t <;> rfl
theorem bi_isa {t : Ty} (h : plain d = true) : biD (.isa t) [d] = some (.bl (isaD t d)) := by simp [biD, h]
@[simp] theorem src_seqt : srcD .seq [.tup xs] = some xs := rfl
@[simp] theorem src_seql : srcD .seq [.lst xs] = some xs := rfl
theorem src_rng1 (h0 : 0 ≤ j) (h2 : j.toNat ≤ big) : srcD .rng [.int j] = some (rangeD 0 j.toNat) := by
  have h1 : -(2 ^ 62) ≤ j := by omega
  have h3 : j < 2 ^ 62 := by unfold big at h2; omega
  simp only [srcD, inRange, decide_eq_true h1, decide_eq_true h3, decide_eq_true h2, Bool.and_self, if_true]
@[simp] theorem still_nil : still [] μ μ = true := rfl
theorem still_flat {μ' : Store} : ∀ {xs : List D}, (∀ k, .ref k ∉ xs) → still xs μ μ' = true := fun {xs} h => by
  unfold still
  rw [List.all_eq_true]
  intro x hx
  cases x with
  | ref k => exact absurd hx (h k)
  | _ => rfl
end
end Mi
namespace Mi
open PySem PySem.Spec PyProof.Rows L2
abbrev PP : Program := PySem.Challenge.pw_lockstairs_k01_values_recognized
def top (i : Nat) : Stmt := PP.main.body.getD i (.Pass ⟨0, 0, 0, 0⟩)
abbrev f_is_number : Nat := 0
abbrev f_is_tuple : Nat := 1
abbrev f_is_word : Nat := 2
abbrev f_is_good_rule : Nat := 3
abbrev f_is_boat : Nat := 4
abbrev f_is_good_plan : Nat := 5
abbrev f_is_plan : Nat := 6
abbrev f_is_rule : Nat := 7
abbrev f__law_source : Nat := 8
abbrev f__law_draw : Nat := 9
abbrev f__law_of : Nat := 10
abbrev f__law_rule : Nat := 11
abbrev f__law_plan : Nat := 12
abbrev f__law_is_int : Nat := 13
abbrev f__law_is_rule : Nat := 14
abbrev f__law_is_boat : Nat := 15
abbrev f__law_is_plan : Nat := 16
abbrev f__law_odd : Nat := 17
abbrev f__law_spoilt : Nat := 18
abbrev f_law : Nat := 19
def b_is_number : List MS :=
  [.ret (.and (.bi (.isa .int) [.v 0]) (.and (.not (.bi (.isa .bool) [.v 0])) (.chain .le .le (.v 1) (.v 0) (.v 2))))]
def b_is_tuple : List MS :=
  [.ret (.and (.bi (.isa .tup) [.v 0]) (.chain .le .le (.v 1) (.bi .len [.v 0]) (.v 2)))]
def b_is_word : List MS :=
  [.ret (.and (.bi (.isa .str) [.v 0]) (.cmp .isIn (.v 0) (.v 1)))]
def b_is_good_rule : List MS :=
  [.ifs (.or (.not (.call f_is_tuple [.v 0, .k (.int 1), .k (.int 2)])) (.not (.call f_is_word [.ix (.v 0) (.k (.int 0)), .tup [.k (.str "first"), .k (.str "soon"), .k (.str "batch")]])))
     [.ret (.k (.bl false))]
     [],
    .ifs (.cmp .eq (.ix (.v 0) (.k (.int 0))) (.k (.str "batch")))
     [.ret (.and (.cmp .eq (.bi .len [.v 0]) (.k (.int 2))) (.call f_is_number [.ix (.v 0) (.k (.int 1)), .k (.int 1), .k (.int 3)]))]
     [],
    .ret (.cmp .eq (.bi .len [.v 0]) (.k (.int 1)))]
def b_is_boat : List MS :=
  [.ifs (.or (.not (.call f_is_tuple [.v 0, .k (.int 3), .k (.int 3)])) (.not (.call f_is_word [.ix (.v 0) (.k (.int 0)), .g 0])))
     [.ret (.k (.bl false))]
     [],
    .ret (.and (.call f_is_number [.ix (.v 0) (.k (.int 1)), .k (.int 0), .k (.int 60)]) (.call f_is_number [.ix (.v 0) (.k (.int 2)), .k (.int 1), .k (.int 5)]))]
def b_is_good_plan : List MS :=
  [.ifs (.or (.not (.call f_is_tuple [.v 0, .k (.int 3), .k (.int 3)])) (.or (.not (.call f_is_number [.ix (.v 0) (.k (.int 0)), .k (.int 0), .k (.int 3)])) (.not (.call f_is_good_rule [.ix (.v 0) (.k (.int 1))]))))
     [.ret (.k (.bl false))]
     [],
    .ret (.and (.call f_is_tuple [.ix (.v 0) (.k (.int 2)), .k (.int 1), .k (.int 5)]) (.bi .all [.comp (.call f_is_boat [.v 1]) (.nm 1) .seq [.ix (.v 0) (.k (.int 2))] none [1]]))]
def b_is_plan : List MS :=
  [.ret (.call f_is_good_plan [.v 0])]
def b_is_rule : List MS :=
  [.ret (.call f_is_good_rule [.v 0])]
def b__law_source : List MS :=
  [.asg (.nm 2) (.k (.int 0)),
    .ifs (.cmp .lt (.v 1) (.bi .len [.v 0]))
     [.asg (.nm 2) (.bi .abs [.bi .toInt [.ix (.v 0) (.v 1)]])]
     [],
    .ifs (.cmp .lt (.v 2) (.bin .pow (.k (.int 10)) (.k (.int 18))))
     [.ret (.cell [.k (.int 0), .bin .add (.k (.int 1)) (.bin .mod (.bi .toInt [.bin .add (.bin .mul (.v 2) (.k (.int 7919))) (.bin .mul (.k (.int 104729)) (.v 1))]) (.k (.int 2147483646)))])]
     [],
    .ret (.cell [.v 2, .bin .add (.k (.int 1)) (.bin .mod (.bi .toInt [.bin .add (.v 2) (.v 1)]) (.k (.int 2147483646)))])]
def b__law_draw : List MS :=
  [.ifs (.cmp .gt (.ix (.v 0) (.k (.int 0))) (.k (.int 0)))
     [.asg (.nm 2) (.bin .mod (.bi .toInt [.ix (.v 0) (.k (.int 0))]) (.v 1)),
      .sub (.v 0) (.k (.int 0)) (.bin .fdiv (.ix (.v 0) (.k (.int 0))) (.v 1)),
      .ret (.v 2)]
     [],
    .sub (.v 0) (.k (.int 1)) (.bin .mod (.bi .toInt [.bin .mul (.ix (.v 0) (.k (.int 1))) (.k (.int 48271))]) (.k (.int 2147483647))),
    .ret (.bin .mod (.bi .toInt [.bin .fdiv (.bin .mod (.bi .toInt [.bin .mul (.ix (.v 0) (.k (.int 1))) (.ix (.v 0) (.k (.int 1)))]) (.k (.int 2147483629))) (.k (.int 64))]) (.v 1))]
def b__law_of : List MS :=
  [.ret (.ix (.v 1) (.call f__law_draw [.v 0, .bi .len [.v 1]]))]
def b__law_rule : List MS :=
  [.ret (.call f__law_of [.v 0, .lst [.tup [.k (.str "first")], .tup [.k (.str "soon")], .tup [.k (.str "soon")], .tup [.k (.str "batch"), .k (.int 1)], .tup [.k (.str "batch"), .k (.int 2)], .tup [.k (.str "batch"), .k (.int 3)]]])]
def b__law_plan : List MS :=
  [.asg (.nm 2) (.tup []),
    .for_ (.nm 3) .rng [.bin .add (.k (.int 1)) (.call f__law_draw [.v 0, .v 1])]
     [.asg (.nm 4) (.call f__law_of [.v 0, .lst [.k (.int 0), .call f__law_draw [.v 0, .k (.int 8)], .call f__law_draw [.v 0, .k (.int 61)]]]),
      .asg (.nm 5) (.call f__law_of [.v 0, .lst [.k (.str "up"), .k (.str "down")]]),
      .asg (.nm 2) (.bin .add (.v 2) (.tup [.tup [.v 5, .v 4, .bin .add (.k (.int 1)) (.call f__law_draw [.v 0, .k (.int 5)])]]))],
    .ret (.tup [.call f__law_draw [.v 0, .k (.int 4)], .call f__law_rule [.v 0], .v 2])]
def b__law_is_int : List MS :=
  [.ret (.and (.bi (.isa .int) [.v 0]) (.and (.not (.bi (.isa .bool) [.v 0])) (.chain .le .le (.v 1) (.v 0) (.v 2))))]
def b__law_is_rule : List MS :=
  [.ifs (.or (.not (.bi (.isa .tup) [.v 0])) (.or (.cmp .notIn (.bi .len [.v 0]) (.tup [.k (.int 1), .k (.int 2)])) (.not (.bi (.isa .str) [.ix (.v 0) (.k (.int 0))]))))
     [.ret (.k (.bl false))]
     [],
    .ifs (.cmp .eq (.bi .len [.v 0]) (.k (.int 1)))
     [.ret (.cmp .isIn (.ix (.v 0) (.k (.int 0))) (.tup [.k (.str "first"), .k (.str "soon")]))]
     [],
    .ret (.and (.cmp .eq (.ix (.v 0) (.k (.int 0))) (.k (.str "batch"))) (.call f__law_is_int [.ix (.v 0) (.k (.int 1)), .k (.int 1), .k (.int 3)]))]
def b__law_is_boat : List MS :=
  [.ifs (.or (.not (.bi (.isa .tup) [.v 0])) (.or (.cmp .ne (.bi .len [.v 0]) (.k (.int 3))) (.not (.bi (.isa .str) [.ix (.v 0) (.k (.int 0))]))))
     [.ret (.k (.bl false))]
     [],
    .ret (.and (.cmp .isIn (.ix (.v 0) (.k (.int 0))) (.tup [.k (.str "up"), .k (.str "down")])) (.and (.call f__law_is_int [.ix (.v 0) (.k (.int 1)), .k (.int 0), .k (.int 60)]) (.call f__law_is_int [.ix (.v 0) (.k (.int 2)), .k (.int 1), .k (.int 5)])))]
def b__law_is_plan : List MS :=
  [.ifs (.or (.not (.bi (.isa .tup) [.v 0])) (.or (.cmp .ne (.bi .len [.v 0]) (.k (.int 3))) (.not (.call f__law_is_int [.ix (.v 0) (.k (.int 0)), .k (.int 0), .k (.int 3)]))))
     [.ret (.k (.bl false))]
     [],
    .ifs (.or (.not (.call f__law_is_rule [.ix (.v 0) (.k (.int 1))])) (.or (.not (.bi (.isa .tup) [.ix (.v 0) (.k (.int 2))])) (.not (.chain .le .le (.k (.int 1)) (.bi .len [.ix (.v 0) (.k (.int 2))]) (.k (.int 5))))))
     [.ret (.k (.bl false))]
     [],
    .ret (.cmp .eq (.comp (.v 1) (.nm 1) .seq [.ix (.v 0) (.k (.int 2))] (some (.not (.call f__law_is_boat [.v 1]))) [1]) (.lst []))]
def b__law_odd : List MS :=
  [.asg (.nm 1) (.lst [.k .non, .k (.bl true), .k (.bl false), .k (.int 0), .k (.int 1), .k (.int 3), .k (.int 4), .k (.int 5), .k (.int 6), .k (.int 60), .k (.int 61), .neg (.k (.int 1)), .bin .pow (.k (.int 10)) (.k (.int 30)), .k (.str ""), .k (.str "up"), .k (.str "down"), .k (.str "first"), .k (.str "batch"), .tup []]),
    .ret (.call f__law_of [.v 0, .bin .add (.v 1) (.lst [.lst [], .tup [.k (.str "soon")], .tup [.k (.str "batch"), .k (.int 2)], .tup [.k (.str "batch")], .tup [.k (.str "up"), .k (.int 0), .k (.int 1)], .lst [.k (.str "up"), .k (.int 0), .k (.int 1)]])])]
def b__law_spoilt : List MS :=
  [.ifs (.or (.not (.bi (.isa .tup) [.v 1])) (.or (.cmp .eq (.v 1) (.tup [])) (.cmp .eq (.call f__law_draw [.v 0, .k (.int 6)]) (.k (.int 0)))))
     [.ret (.call f__law_odd [.v 0])]
     [],
    .par 2 3 (.call f__law_draw [.v 0, .bi .len [.v 1]]) (.call f__law_draw [.v 0, .k (.int 9)]),
    .ifs (.cmp .eq (.v 3) (.k (.int 0)))
     [.ret (.bin .add (.sl (.v 1) none (some (.v 2))) (.sl (.v 1) (some (.bin .add (.v 2) (.k (.int 1)))) none))]
     [],
    .ifs (.cmp .eq (.v 3) (.k (.int 1)))
     [.ret (.bin .add (.sl (.v 1) none (some (.bin .add (.v 2) (.k (.int 1))))) (.sl (.v 1) (some (.v 2)) none))]
     [],
    .ifs (.cmp .eq (.v 3) (.k (.int 2)))
     [.ret (.bin .add (.bin .add (.sl (.v 1) none (some (.v 2))) (.tup [.call f__law_odd [.v 0]])) (.sl (.v 1) (some (.v 2)) none))]
     [],
    .ifs (.cmp .eq (.v 3) (.k (.int 3)))
     [.ret (.bi .list [.v 1])]
     [],
    .ifs (.and (.bi (.isa .int) [.ix (.v 1) (.v 2)]) (.cmp .lt (.v 3) (.k (.int 6))))
     [.ret (.bin .add (.bin .add (.sl (.v 1) none (some (.v 2))) (.tup [.bin .sub (.bin .add (.ix (.v 1) (.v 2)) (.call f__law_draw [.v 0, .k (.int 3)])) (.k (.int 1))])) (.sl (.v 1) (some (.bin .add (.v 2) (.k (.int 1)))) none))]
     [],
    .ret (.bin .add (.bin .add (.sl (.v 1) none (some (.v 2))) (.tup [.call f__law_spoilt [.v 0, .ix (.v 1) (.v 2)]])) (.sl (.v 1) (some (.bin .add (.v 2) (.k (.int 1)))) none))]
def b_law : List MS :=
  [.asg (.nm 1) (.tup [.k (.str "up"), .k (.int 60), .k (.int 5)]),
    .for_ (.nm 2) .rng [.bin .add (.k (.int 1)) (.bi .min [.bi .len [.v 0], .k (.int 10)])]
     [.asg (.nm 3) (.call f__law_source [.v 0, .v 2]),
      .asg (.nm 4) (.call f__law_plan [.v 3, .k (.int 5)]),
      .for_ (.nm 5) .seq [.lst [.v 4, .v 4, .ix (.v 4) (.k (.int 1)), .tup [.k (.int 3), .tup [.k (.str "batch"), .k (.int 3)], .bin .mul (.tup [.v 1]) (.k (.int 5))]]]
       [.for_ (.nm 6) .rng [.k (.int 5)]
         [.ifs (.or (.cmp .ne (.call f_is_plan [.v 5]) (.call f__law_is_plan [.v 5])) (.cmp .ne (.call f_is_rule [.v 5]) (.call f__law_is_rule [.v 5])))
           [.ret (.k (.bl false))]
           [],
          .asg (.nm 5) (.call f__law_spoilt [.v 3, .v 5])]]],
    .ifs (.or (.call f_is_plan [.tup [.k (.int 4), .tup [.k (.str "soon")], .tup [.v 1]]]) (.call f_is_plan [.tup [.k (.int 0), .tup [.k (.str "soon")], .tup []]]))
     [.ret (.k (.bl false))]
     [],
    .ifs (.call f_is_plan [.tup [.k (.int 0), .tup [.k (.str "soon")], .bin .mul (.tup [.v 1]) (.k (.int 6))]])
     [.ret (.k (.bl false))]
     [],
    .ifs (.or (.call f_is_plan [.tup [.k (.int 0), .tup [.k (.str "soon")], .tup [.tup [.k (.str "up"), .k (.int 61), .k (.int 1)]]]]) (.call f_is_plan [.tup [.k (.int 0), .tup [.k (.str "soon")], .tup [.tup [.k (.str "up"), .k (.int 0), .k (.int 6)]]]]))
     [.ret (.k (.bl false))]
     [],
    .ifs (.or (.call f_is_rule [.tup [.k (.str "batch"), .k (.int 4)]]) (.or (.call f_is_rule [.tup [.k (.str "batch"), .k (.int 0)]]) (.or (.call f_is_rule [.tup [.k (.str "soon"), .k (.int 1)]]) (.call f_is_rule [.tup [.k (.str "last")]]))))
     [.ret (.k (.bl false))]
     [],
    .ret (.and (.call f_is_plan [.tup [.k (.int 3), .tup [.k (.str "batch"), .k (.int 3)], .bin .mul (.tup [.v 1]) (.k (.int 5))]]) (.and (.call f_is_rule [.tup [.k (.str "batch"), .k (.int 3)]]) (.not (.call f_is_rule [.k (.str "soon")]))))]
def T (i : Nat) : Option FDef := match i with
  | 0 => some ⟨3, 3, b_is_number, true⟩
  | 1 => some ⟨3, 3, b_is_tuple, true⟩
  | 2 => some ⟨2, 2, b_is_word, true⟩
  | 3 => some ⟨1, 1, b_is_good_rule, true⟩
  | 4 => some ⟨1, 1, b_is_boat, true⟩
  | 5 => some ⟨1, 2, b_is_good_plan, true⟩
  | 6 => some ⟨1, 1, b_is_plan, true⟩
  | 7 => some ⟨1, 1, b_is_rule, true⟩
  | 8 => some ⟨2, 3, b__law_source, false⟩
  | 9 => some ⟨2, 3, b__law_draw, true⟩
  | 10 => some ⟨2, 2, b__law_of, true⟩
  | 11 => some ⟨1, 1, b__law_rule, true⟩
  | 12 => some ⟨2, 6, b__law_plan, true⟩
  | 13 => some ⟨3, 3, b__law_is_int, true⟩
  | 14 => some ⟨1, 1, b__law_is_rule, true⟩
  | 15 => some ⟨1, 1, b__law_is_boat, true⟩
  | 16 => some ⟨1, 2, b__law_is_plan, true⟩
  | 17 => some ⟨1, 2, b__law_odd, true⟩
  | 18 => some ⟨2, 4, b__law_spoilt, true⟩
  | 19 => some ⟨1, 7, b_law, true⟩
  | _ => none
@[simp] theorem T_is_number : T f_is_number = some ⟨3, 3, b_is_number, true⟩ := rfl
@[simp] theorem T_is_tuple : T f_is_tuple = some ⟨3, 3, b_is_tuple, true⟩ := rfl
@[simp] theorem T_is_word : T f_is_word = some ⟨2, 2, b_is_word, true⟩ := rfl
@[simp] theorem T_is_good_rule : T f_is_good_rule = some ⟨1, 1, b_is_good_rule, true⟩ := rfl
@[simp] theorem T_is_boat : T f_is_boat = some ⟨1, 1, b_is_boat, true⟩ := rfl
@[simp] theorem T_is_good_plan : T f_is_good_plan = some ⟨1, 2, b_is_good_plan, true⟩ := rfl
@[simp] theorem T_is_plan : T f_is_plan = some ⟨1, 1, b_is_plan, true⟩ := rfl
@[simp] theorem T_is_rule : T f_is_rule = some ⟨1, 1, b_is_rule, true⟩ := rfl
@[simp] theorem T__law_source : T f__law_source = some ⟨2, 3, b__law_source, false⟩ := rfl
@[simp] theorem T__law_draw : T f__law_draw = some ⟨2, 3, b__law_draw, true⟩ := rfl
@[simp] theorem T__law_of : T f__law_of = some ⟨2, 2, b__law_of, true⟩ := rfl
@[simp] theorem T__law_rule : T f__law_rule = some ⟨1, 1, b__law_rule, true⟩ := rfl
@[simp] theorem T__law_plan : T f__law_plan = some ⟨2, 6, b__law_plan, true⟩ := rfl
@[simp] theorem T__law_is_int : T f__law_is_int = some ⟨3, 3, b__law_is_int, true⟩ := rfl
@[simp] theorem T__law_is_rule : T f__law_is_rule = some ⟨1, 1, b__law_is_rule, true⟩ := rfl
@[simp] theorem T__law_is_boat : T f__law_is_boat = some ⟨1, 1, b__law_is_boat, true⟩ := rfl
@[simp] theorem T__law_is_plan : T f__law_is_plan = some ⟨1, 2, b__law_is_plan, true⟩ := rfl
@[simp] theorem T__law_odd : T f__law_odd = some ⟨1, 2, b__law_odd, true⟩ := rfl
@[simp] theorem T__law_spoilt : T f__law_spoilt = some ⟨2, 4, b__law_spoilt, true⟩ := rfl
@[simp] theorem T_law : T f_law = some ⟨1, 7, b_law, true⟩ := rfl
def gd (i : Nat) : D := match i with
  | 0 => .tup [.str "up", .str "down"]
  | _ => .non
def cs : List (Str × D) := [("WAYS", .tup [.str "up", .str "down"])]
def fr : List Str := (["abs", "all", "bool", "int", "isinstance", "len", "list", "min", "range", "str", "tuple"] : List Str)
def MM : MI := ⟨fr, [("WAYS", 0)], [("is_number", 0), ("is_tuple", 1), ("is_word", 2), ("is_good_rule", 3), ("is_boat", 4), ("is_good_plan", 5), ("is_plan", 6), ("is_rule", 7), ("_law_source", 8), ("_law_draw", 9), ("_law_of", 10), ("_law_rule", 11), ("_law_plan", 12), ("_law_is_int", 13), ("_law_is_rule", 14), ("_law_is_boat", 15), ("_law_is_plan", 16), ("_law_odd", 17), ("_law_spoilt", 18), ("law", 19)]⟩
def d_is_number : LDef := ⟨"is_number", top 2, (["value", "least", "most"] : List Str), (["value", "least", "most"] : List Str)⟩
def d_is_tuple : LDef := ⟨"is_tuple", top 3, (["value", "least", "most"] : List Str), (["value", "least", "most"] : List Str)⟩
def d_is_word : LDef := ⟨"is_word", top 4, (["value", "words"] : List Str), (["value", "words"] : List Str)⟩
def d_is_good_rule : LDef := ⟨"is_good_rule", top 5, (["value"] : List Str), (["value"] : List Str)⟩
def d_is_boat : LDef := ⟨"is_boat", top 6, (["value"] : List Str), (["value"] : List Str)⟩
def d_is_good_plan : LDef := ⟨"is_good_plan", top 7, (["value", "boat"] : List Str), (["value"] : List Str)⟩
def d_is_plan : LDef := ⟨"is_plan", top 8, (["value"] : List Str), (["value"] : List Str)⟩
def d_is_rule : LDef := ⟨"is_rule", top 9, (["value"] : List Str), (["value"] : List Str)⟩
def d__law_source : LDef := ⟨"_law_source", top 11, (["_law_script", "_law_k", "_law_cell"] : List Str), (["_law_script", "_law_k"] : List Str)⟩
def d__law_draw : LDef := ⟨"_law_draw", top 12, (["_law_source_here", "_law_many", "_law_found"] : List Str), (["_law_source_here", "_law_many"] : List Str)⟩
def d__law_of : LDef := ⟨"_law_of", top 13, (["_law_source_here", "_law_items"] : List Str), (["_law_source_here", "_law_items"] : List Str)⟩
def d__law_rule : LDef := ⟨"_law_rule", top 14, (["_law_source_here"] : List Str), (["_law_source_here"] : List Str)⟩
def d__law_plan : LDef := ⟨"_law_plan", top 15, (["_law_source_here", "_law_most", "_law_boats", "_law_turn", "_law_start", "_law_way"] : List Str), (["_law_source_here", "_law_most"] : List Str)⟩
def d__law_is_int : LDef := ⟨"_law_is_int", top 16, (["_law_value", "_law_least", "_law_top"] : List Str), (["_law_value", "_law_least", "_law_top"] : List Str)⟩
def d__law_is_rule : LDef := ⟨"_law_is_rule", top 17, (["_law_value"] : List Str), (["_law_value"] : List Str)⟩
def d__law_is_boat : LDef := ⟨"_law_is_boat", top 18, (["_law_value"] : List Str), (["_law_value"] : List Str)⟩
def d__law_is_plan : LDef := ⟨"_law_is_plan", top 19, (["_law_value", "_law_boat"] : List Str), (["_law_value"] : List Str)⟩
def d__law_odd : LDef := ⟨"_law_odd", top 20, (["_law_source_here", "_law_items"] : List Str), (["_law_source_here"] : List Str)⟩
def d__law_spoilt : LDef := ⟨"_law_spoilt", top 21, (["_law_source_here", "_law_value", "_law_at", "_law_mode"] : List Str), (["_law_source_here", "_law_value"] : List Str)⟩
def d_law : LDef := ⟨"law", top 22, (["_law_script", "_law_boat", "_law_k", "_law_source_here", "_law_plan_here", "_law_value", "_law_turn"] : List Str), (["_law_script"] : List Str)⟩
def ds : List LDef := [d_is_number, d_is_tuple, d_is_word, d_is_good_rule, d_is_boat, d_is_good_plan, d_is_plan, d_is_rule, d__law_source, d__law_draw, d__law_of, d__law_rule, d__law_plan, d__law_is_int, d__law_is_rule, d__law_is_boat, d__law_is_plan, d__law_odd, d__law_spoilt, d_law]
theorem ok_is_number : d_is_number.Ok MM T f_is_number := ⟨⟨⟨rfl, rfl, rfl, by decide +kernel, rfl, by decide +kernel, by decide +kernel⟩, b_is_number, true, rfl, by decide +kernel⟩, fun _ _ _ _ _ _ us hl => match us, hl with | [_, _, _], _ => rfl⟩
theorem ok_is_tuple : d_is_tuple.Ok MM T f_is_tuple := ⟨⟨⟨rfl, rfl, rfl, by decide +kernel, rfl, by decide +kernel, by decide +kernel⟩, b_is_tuple, true, rfl, by decide +kernel⟩, fun _ _ _ _ _ _ us hl => match us, hl with | [_, _, _], _ => rfl⟩
theorem ok_is_word : d_is_word.Ok MM T f_is_word := ⟨⟨⟨rfl, rfl, rfl, by decide +kernel, rfl, by decide +kernel, by decide +kernel⟩, b_is_word, true, rfl, by decide +kernel⟩, fun _ _ _ _ _ _ us hl => match us, hl with | [_, _], _ => rfl⟩
theorem ok_is_good_rule : d_is_good_rule.Ok MM T f_is_good_rule := ⟨⟨⟨rfl, rfl, rfl, by decide +kernel, rfl, by decide +kernel, by decide +kernel⟩, b_is_good_rule, true, rfl, by decide +kernel⟩, fun _ _ _ _ _ _ us hl => match us, hl with | [_], _ => rfl⟩
theorem ok_is_boat : d_is_boat.Ok MM T f_is_boat := ⟨⟨⟨rfl, rfl, rfl, by decide +kernel, rfl, by decide +kernel, by decide +kernel⟩, b_is_boat, true, rfl, by decide +kernel⟩, fun _ _ _ _ _ _ us hl => match us, hl with | [_], _ => rfl⟩
theorem ok_is_good_plan : d_is_good_plan.Ok MM T f_is_good_plan := ⟨⟨⟨rfl, rfl, rfl, by decide +kernel, rfl, by decide +kernel, by decide +kernel⟩, b_is_good_plan, true, rfl, by decide +kernel⟩, fun _ _ _ _ _ _ us hl => match us, hl with | [_], _ => rfl⟩
theorem ok_is_plan : d_is_plan.Ok MM T f_is_plan := ⟨⟨⟨rfl, rfl, rfl, by decide +kernel, rfl, by decide +kernel, by decide +kernel⟩, b_is_plan, true, rfl, by decide +kernel⟩, fun _ _ _ _ _ _ us hl => match us, hl with | [_], _ => rfl⟩
theorem ok_is_rule : d_is_rule.Ok MM T f_is_rule := ⟨⟨⟨rfl, rfl, rfl, by decide +kernel, rfl, by decide +kernel, by decide +kernel⟩, b_is_rule, true, rfl, by decide +kernel⟩, fun _ _ _ _ _ _ us hl => match us, hl with | [_], _ => rfl⟩
theorem ok__law_source : d__law_source.Ok MM T f__law_source := ⟨⟨⟨rfl, rfl, rfl, by decide +kernel, rfl, by decide +kernel, by decide +kernel⟩, b__law_source, false, rfl, by decide +kernel⟩, fun _ _ _ _ _ _ us hl => match us, hl with | [_, _], _ => rfl⟩
theorem ok__law_draw : d__law_draw.Ok MM T f__law_draw := ⟨⟨⟨rfl, rfl, rfl, by decide +kernel, rfl, by decide +kernel, by decide +kernel⟩, b__law_draw, true, rfl, by decide +kernel⟩, fun _ _ _ _ _ _ us hl => match us, hl with | [_, _], _ => rfl⟩
theorem ok__law_of : d__law_of.Ok MM T f__law_of := ⟨⟨⟨rfl, rfl, rfl, by decide +kernel, rfl, by decide +kernel, by decide +kernel⟩, b__law_of, true, rfl, by decide +kernel⟩, fun _ _ _ _ _ _ us hl => match us, hl with | [_, _], _ => rfl⟩
theorem ok__law_rule : d__law_rule.Ok MM T f__law_rule := ⟨⟨⟨rfl, rfl, rfl, by decide +kernel, rfl, by decide +kernel, by decide +kernel⟩, b__law_rule, true, rfl, by decide +kernel⟩, fun _ _ _ _ _ _ us hl => match us, hl with | [_], _ => rfl⟩
theorem ok__law_plan : d__law_plan.Ok MM T f__law_plan := ⟨⟨⟨rfl, rfl, rfl, by decide +kernel, rfl, by decide +kernel, by decide +kernel⟩, b__law_plan, true, rfl, by decide +kernel⟩, fun _ _ _ _ _ _ us hl => match us, hl with | [_, _], _ => rfl⟩
theorem ok__law_is_int : d__law_is_int.Ok MM T f__law_is_int := ⟨⟨⟨rfl, rfl, rfl, by decide +kernel, rfl, by decide +kernel, by decide +kernel⟩, b__law_is_int, true, rfl, by decide +kernel⟩, fun _ _ _ _ _ _ us hl => match us, hl with | [_, _, _], _ => rfl⟩
theorem ok__law_is_rule : d__law_is_rule.Ok MM T f__law_is_rule := ⟨⟨⟨rfl, rfl, rfl, by decide +kernel, rfl, by decide +kernel, by decide +kernel⟩, b__law_is_rule, true, rfl, by decide +kernel⟩, fun _ _ _ _ _ _ us hl => match us, hl with | [_], _ => rfl⟩
theorem ok__law_is_boat : d__law_is_boat.Ok MM T f__law_is_boat := ⟨⟨⟨rfl, rfl, rfl, by decide +kernel, rfl, by decide +kernel, by decide +kernel⟩, b__law_is_boat, true, rfl, by decide +kernel⟩, fun _ _ _ _ _ _ us hl => match us, hl with | [_], _ => rfl⟩
theorem ok__law_is_plan : d__law_is_plan.Ok MM T f__law_is_plan := ⟨⟨⟨rfl, rfl, rfl, by decide +kernel, rfl, by decide +kernel, by decide +kernel⟩, b__law_is_plan, true, rfl, by decide +kernel⟩, fun _ _ _ _ _ _ us hl => match us, hl with | [_], _ => rfl⟩
theorem ok__law_odd : d__law_odd.Ok MM T f__law_odd := ⟨⟨⟨rfl, rfl, rfl, by decide +kernel, rfl, by decide +kernel, by decide +kernel⟩, b__law_odd, true, rfl, by decide +kernel⟩, fun _ _ _ _ _ _ us hl => match us, hl with | [_], _ => rfl⟩
theorem ok__law_spoilt : d__law_spoilt.Ok MM T f__law_spoilt := ⟨⟨⟨rfl, rfl, rfl, by decide +kernel, rfl, by decide +kernel, by decide +kernel⟩, b__law_spoilt, true, rfl, by decide +kernel⟩, fun _ _ _ _ _ _ us hl => match us, hl with | [_, _], _ => rfl⟩
theorem ok_law : d_law.Ok MM T f_law := ⟨⟨⟨rfl, rfl, rfl, by decide +kernel, rfl, by decide +kernel, by decide +kernel⟩, b_law, true, rfl, by decide +kernel⟩, fun _ _ _ _ _ _ us hl => match us, hl with | [_], _ => rfl⟩
theorem allOk : AllOk MM T 0 ds := ⟨ok_is_number, ok_is_tuple, ok_is_word, ok_is_good_rule, ok_is_boat, ok_is_good_plan, ok_is_plan, ok_is_rule, ok__law_source, ok__law_draw, ok__law_of, ok__law_rule, ok__law_plan, ok__law_is_int, ok__law_is_rule, ok__law_is_boat, ok__law_is_plan, ok__law_odd, ok__law_spoilt, ok_law, trivial⟩
theorem mok : MOk MM ds fr cs gd := ⟨rfl, by decide +kernel, by decide +kernel⟩
end Mi
namespace Mi
open PySem
section
variable {W : Nat}
/-- the source at r: its two numbers -/
structure Src' (μ : Store) (r : Nat) : Prop where
  all : Srcs μ
  lt : r < μ.length
theorem Src'.next {μ μ' : Store} {r : Nat} (S : Src' μ r) (h : Srcs μ' ∧ μ'.length = μ.length) : Src' μ' r := ⟨h.1, by rw [h.2]; exact S.lt⟩
theorem view_src {μ : Store} {r : Nat} {ds : List D} (e : μ[r]? = some (.lst ds)) : view μ (.ref r) = .lst ds := by simp only [view, e]
theorem put_src {μ : Store} {r : Nat} {ds : List D} {f : List D → Option (List D)} (e : μ[r]? = some (.lst ds)) : putC μ (.ref r) f = (f ds).map fun ds' => μ.set r (.lst ds') := by simp only [putC, e]
theorem view_set {μ : Store} {r : Nat} {ds : List D} (h : r < μ.length) : view (μ.set r (.lst ds)) (.ref r) = .lst ds := view_src (List.getElem?_set_self h)
theorem small_mod (x m : Int) (h0 : 0 < m) (h1 : m < 2 ^ 64) : small (x.fmod m) = true := by
  have h2 := Int.fmod_nonneg_of_pos (a := x) h0
  have h3 := Int.fmod_lt_of_pos x h0
  exact small_of (by omega) (by omega)
theorem draw_Ok {k r : Nat} {m : Int} {μ : Store} (S : Src' μ r) (h0 : 0 < m) (h1 : m < 1073741824) : (run T gd W (k + 1) f__law_draw [.ref r, .int m] μ).Ok fun d μ' => (∃ n : Int, d = .int n ∧ 0 ≤ n ∧ n < m) ∧ Srcs μ' ∧ μ'.length = μ.length := by
  obtain ⟨a, b, e⟩ := S.all.get S.lt
  have hm : m ≠ 0 := by omega
  have hm2 : m.natAbs < 1073741824 := by omega
  have s1 : small 48271 = true := rfl
  have s2 : small ((b * 48271).fmod 2147483647) = true := small_mod _ _ (by decide) (by decide)
  have hl := S.lt
  refine run_Ok T__law_draw rfl ?_
  simp [b__law_draw, view_src e, put_src e, view_set hl, hm, hm2, s1, s2, finQ_same]
  split
  · exact ⟨⟨Int.fmod_nonneg_of_pos _ h0, Int.fmod_lt_of_pos _ h0⟩, S.all.set _ _ _⟩
  · exact ⟨⟨Int.fmod_nonneg_of_pos _ h0, Int.fmod_lt_of_pos _ h0⟩, S.all.set _ _ _⟩
theorem of_Ok {k r : Nat} {xs : List D} {μ : Store} (S : Src' μ r) (h0 : xs ≠ []) (h1 : xs.length < 1073741824) : (run T gd W (k + 2) f__law_of [.ref r, .lst xs] μ).Ok fun d μ' => d ∈ xs ∧ Srcs μ' ∧ μ'.length = μ.length := by
  have hp : 0 < xs.length := List.length_pos_iff.mpr h0
  refine run_Ok T__law_of rfl ?_
  simp [b__law_of]
  refine (draw_Ok S (by omega) (by omega)).mono ?_
  rintro d μ' ⟨⟨n, rfl, h2, h3⟩, h4, h5⟩
  have hn : n.toNat < xs.length := by omega
  simp [ixOf_lt h2 h3, List.getElem?_eq_getElem hn, finQ_same, h5, h4]
theorem rule_Ok {k r : Nat} {μ : Store} (S : Src' μ r) : (run T gd W (k + 3) f__law_rule [.ref r] μ).Ok fun d μ' => (d = .tup [.str "first"] ∨ d = .tup [.str "soon"] ∨ ∃ n : Int, d = .tup [.str "batch", .int n] ∧ 1 ≤ n ∧ n ≤ 3) ∧ Srcs μ' ∧ μ'.length = μ.length := by
  refine run_Ok T__law_rule rfl ?_
  simp [b__law_rule]
  refine (of_Ok S (by simp) (by simp)).mono ?_
  rintro d μ' ⟨h1, h2, h3⟩
  simp [finQ_same, h3, h2]
  simp at h1
  rcases h1 with rfl | rfl | rfl | rfl | rfl <;> simp
theorem source_Ok {k : Nat} {ns : List Int} {i : Int} {μ : Store} (S : Srcs μ) (h0 : 0 ≤ i) (h1 : i < 2 ^ 64) : (run T gd W (k + 1) f__law_source [.scr ns, .int i] μ).Ok fun d μ' => ∃ a b, d = .ref μ.length ∧ μ' = μ ++ [.lst [.int a, .int b]] := by
  have s1 : small 7919 = true := rfl
  have s2 : small i = true := small_of (by omega) (by omega)
  have key : ∀ c : Int, (exSs ⟨gd, run T gd W k, W⟩ (b__law_source.drop 2) [some (.scr ns), some (.int i), some (.int c)] μ).Ok (fun _ μ' => finQ false μ.length (fun d μ' => ∃ a b, d = .ref μ.length ∧ μ' = μ ++ [.lst [.int a, .int b]]) .non μ') (fun d μ' => finQ false μ.length (fun d μ' => ∃ a b, d = .ref μ.length ∧ μ' = μ ++ [.lst [.int a, .int b]]) d μ') := by
    intro c
    simp [b__law_source, s1, s2, finQ_ff]
  refine run_Ok T__law_source rfl ?_
  have e : b__law_source = b__law_source.take 2 ++ b__law_source.drop 2 := rfl
  by_cases hl : i < ns.length
  · have hn : i.toNat < ns.length := by omega
    have := key (if ns[i.toNat] < 0 then -ns[i.toNat] else ns[i.toNat])
    simp [b__law_source] at this
    simp [b__law_source, hl, ixOf_lt h0 hl, List.getElem?_eq_getElem hn]
    exact this
  · have := key 0
    simp [b__law_source] at this
    simp [b__law_source, hl]
    exact this
/-- a plan as the law draws it -/
def wayD (up : Bool) : D := .str (if up then "up" else "down")
def ruleD : Nat → D
  | 0 => .tup [.str "first"]
  | 1 => .tup [.str "soon"]
  | n + 2 => .tup [.str "batch", .int ((n : Int) + 1)]
/-- boats: way, start, pace -/
abbrev Bt := Bool × Int × Int
def btD (b : Bt) : D := .tup [wayD b.1, .int b.2.1, .int b.2.2]
structure Plan where
  turn : Int
  rule : Nat
  boats : List Bt
def Plan.d (p : Plan) : D := .tup [.int p.turn, ruleD p.rule, .tup (p.boats.map btD)]
structure BtOk (b : Bt) : Prop where
  s0 : 0 ≤ b.2.1
  s1 : b.2.1 ≤ 60
  p0 : 1 ≤ b.2.2
  p1 : b.2.2 ≤ 5
def BtsOk (bs : List Bt) : Prop := ∀ b ∈ bs, BtOk b
structure Plan.Ok (p : Plan) (most : Nat) : Prop where
  t0 : 0 ≤ p.turn
  t1 : p.turn ≤ 3
  rl : p.rule ≤ 4
  n0 : 1 ≤ p.boats.length
  n1 : p.boats.length ≤ most
  bt : BtsOk p.boats
theorem plan_Ok {k r : Nat} {m : Nat} {μ : Store} (S : Src' μ r) (h0 : 0 < m) (h1 : m ≤ 1000) : (run T gd W (k + 4) f__law_plan [.ref r, .int m] μ).Ok fun d μ' => (∃ p : Plan, d = p.d ∧ p.Ok m) ∧ Srcs μ' ∧ μ'.length = μ.length := by
  refine run_Ok T__law_plan rfl ?_
  simp [b__law_plan]
  refine (draw_Ok S (by omega) (by omega)).mono ?_
  rintro d μ1 ⟨⟨n, rfl, h2, h3⟩, h4⟩
  have S1 := S.next h4
  simp
  rw [src_rng1 (by omega) (by unfold big; omega)]
  simp
  refine for_Ok (fun i ρ μ' => ∃ (bs : List Bt) (x3 x4 x5 : Option D), ρ = [some (.ref r), some (.int m), some (.tup (bs.map btD)), x3, x4, x5] ∧ bs.length = i ∧ BtsOk bs ∧ Srcs μ' ∧ μ'.length = μ.length) ⟨[], none, none, none, by simp, rfl, fun _ z => (by cases z), h4⟩ (fun i ρ μ' h => rfl) ?_ ?_
  · rintro i d ρ μ' hi ⟨bs, x3, x4, x5, rfl, hb, hbs, hS⟩
    have S2 := S.next hS
    refine ⟨_, rfl, ?_⟩
    simp
    refine (draw_Ok S2 (by omega) (by omega)).mono ?_
    rintro d2 μ2 ⟨⟨n2, rfl, a0, a1⟩, a2⟩
    have S3 := S2.next a2
    refine (draw_Ok S3 (by omega) (by omega)).mono ?_
    rintro d3 μ3 ⟨⟨n3, rfl, b0, b1⟩, b2⟩
    have S4 := S3.next b2
    refine (of_Ok S4 (by simp) (by simp)).mono ?_
    rintro d4 μ4 ⟨c1, c2⟩
    have S5 := S4.next c2
    try simp
    refine (of_Ok S5 (by simp) (by simp)).mono ?_
    rintro d5 μ5 ⟨e1, e2⟩
    have S6 := S5.next e2
    try simp
    refine (draw_Ok S6 (by omega) (by omega)).mono ?_
    rintro d6 μ6 ⟨⟨n6, rfl, f0, f1⟩, f2⟩
    have hlen : n.toNat ≤ 1000 := by omega
    have hin : i < (1 + n).toNat := by
      have := (List.getElem?_eq_some_iff.mp hi).1
      rw [rangeD_len] at this
      exact this
    have hz : bs.length + 1 ≤ big := by unfold big; omega
    have : ∃ up, d5 = wayD up := by
      simp at e1
      rcases e1 with rfl | rfl
      · exact ⟨true, rfl⟩
      · exact ⟨false, rfl⟩
    obtain ⟨up, rfl⟩ := this
    have : ∃ st : Int, d4 = .int st ∧ 0 ≤ st ∧ st ≤ 60 := by
      simp at c1
      rcases c1 with rfl | rfl | rfl
      · exact ⟨_, rfl, by omega, by omega⟩
      · exact ⟨_, rfl, by omega, by omega⟩
      · exact ⟨_, rfl, by omega, by omega⟩
    obtain ⟨st, rfl, g0, g1⟩ := this
    simp [hz]
    refine ⟨bs ++ [(up, st, 1 + n6)], by simp [btD], by simp [hb], ?_, f2.1, by omega⟩
    intro b hbm
    rcases List.mem_append.mp hbm with z | z
    · exact hbs b z
    · simp at z
      subst z
      exact ⟨g0, g1, by simp; omega, by simp; omega⟩
  · rintro ρ μ' ⟨bs, x3, x4, x5, rfl, hb, hbs, hS⟩
    have S2 := S.next hS
    simp
    refine (draw_Ok S2 (by omega) (by omega)).mono ?_
    rintro d2 μ2 ⟨⟨n2, rfl, a0, a1⟩, a2⟩
    have S3 := S2.next a2
    refine (rule_Ok S3).mono ?_
    rintro d3 μ3 ⟨b1, b2⟩
    simp [finQ_same, b2, a2, hS.2]
    rw [rangeD_len] at hb
    have : ∃ q, d3 = ruleD q ∧ q ≤ 4 := by
      rcases b1 with rfl | rfl | ⟨z, rfl, z1, z2⟩
      · exact ⟨0, rfl, by omega⟩
      · exact ⟨1, rfl, by omega⟩
      · refine ⟨(z - 1).toNat + 2, ?_, by omega⟩
        simp [ruleD]
        omega
    obtain ⟨q, rfl, hq⟩ := this
    exact ⟨⟨n2, q, bs⟩, rfl, a0, by show n2 ≤ 3; omega, hq, by show 1 ≤ bs.length; omega, by show bs.length ≤ m; omega, hbs⟩
end
end Mi
namespace Mi
open PySem
section
variable {W k : Nat} {μ : Store} {v : D}
theorem run_eq {o : Out D} {x : D} (h : o.Ok fun d μ' => d = x ∧ μ' = μ) : o = .ok x μ := by
  obtain ⟨a, m, e, rfl, rfl⟩ := Out.Ok_iff.mp h
  exact e
def isNum : D → Int → Int → Bool
  | .int i, lo, hi => decide (lo ≤ i) && decide (i ≤ hi)
  | _, _, _ => false
def isTupl : D → Int → Int → Bool
  | .tup xs, lo, hi => decide (lo ≤ xs.length) && decide ((xs.length : Int) ≤ hi)
  | _, _, _ => false
def isWord : D → List D → Bool
  | .str s, ws => memD (.str s) ws
  | _, _ => false
def okRule : D → Bool
  | .tup [.str s] => decide ("first" = s) || decide ("soon" = s)
  | .tup [.str s, x] => decide (s = "batch") && isNum x 1 3
  | _ => false
theorem plain_flat : ∀ {v : D}, flat v = true → plain v = true
  | .ref _, h => by simp [flat] at h
  | .clo _ _, h => by simp [flat] at h
  | .scr _, h => by simp [flat] at h
  | .non, _ => rfl
  | .bl _, _ => rfl
  | .int _, _ => rfl
  | .str _, _ => rfl
  | .tup _, _ => rfl
  | .lst _, _ => rfl
@[simp] theorem view_flat {v : D} (h : flat v = true) : view μ v = v := by cases v <;> first | rfl | (simp [flat] at h)
theorem e_is_number {lo hi : Int} (hv : flat v = true) : run T gd W (k + 1) f_is_number [v, .int lo, .int hi] μ = .ok (.bl (isNum v lo hi)) μ := by
  apply run_eq
  refine run_Ok T_is_number rfl ?_
  cases v <;> simp [flat] at hv <;> simp [b_is_number, finQ_same, isNum]
  split <;> simp [finQ_same, *]
theorem e_is_int {lo hi : Int} (hv : flat v = true) : run T gd W (k + 1) f__law_is_int [v, .int lo, .int hi] μ = .ok (.bl (isNum v lo hi)) μ := by
  apply run_eq
  refine run_Ok T__law_is_int rfl ?_
  cases v <;> simp [flat] at hv <;> simp [b__law_is_int, finQ_same, isNum]
  split <;> simp [finQ_same, *]
theorem e_is_tuple {lo hi : Int} (hv : flat v = true) : run T gd W (k + 1) f_is_tuple [v, .int lo, .int hi] μ = .ok (.bl (isTupl v lo hi)) μ := by
  apply run_eq
  refine run_Ok T_is_tuple rfl ?_
  cases v <;> simp [flat] at hv <;> simp [b_is_tuple, finQ_same, isTupl]
  split <;> simp [finQ_same, *]
theorem e_is_word {ws : List D} (hv : flat v = true) (hw : ws.all atom = true) : run T gd W (k + 1) f_is_word [v, .tup ws] μ = .ok (.bl (isWord v ws)) μ := by
  apply run_eq
  refine run_Ok T_is_word rfl ?_
  cases v <;> simp [flat] at hv <;> simp [b_is_word, finQ_same, isWord]
  simp [cmpD, atom, hw, finQ_same]
theorem okRule_tup0 : okRule (.tup []) = false := rfl
theorem e_good_rule (hv : flat v = true) : run T gd W (k + 2) f_is_good_rule [v] μ = .ok (.bl (okRule v)) μ := by
  apply run_eq
  refine run_Ok T_is_good_rule rfl ?_
  cases v with
  | tup xs =>
    have hf : flatL xs = true := by simpa [flat] using hv
    cases xs with
    | nil => simp [b_is_good_rule, e_is_tuple hv, isTupl, finQ_same, okRule]
    | cons a xs =>
      have ha : flat a = true ∧ flatL xs = true := by simpa [flatL] using hf
      cases xs with
      | nil =>
        simp [b_is_good_rule, e_is_tuple hv, isTupl, finQ_same, e_is_word ha.1, atom]
        cases a <;> simp [isWord, okRule, finQ_same, memD, eqv]
        rename_i s
        by_cases h1 : ("first" : Str) = s
        · subst h1; simp [finQ_same]
        · by_cases h2 : ("soon" : Str) = s
          · subst h2; simp [finQ_same]
          · by_cases h3 : ("batch" : Str) = s
            · subst h3; simp [finQ_same]
            · simp [finQ_same, h1, h2, h3]
      | cons b xs =>
        have hb : flat b = true ∧ flatL xs = true := by simpa [flatL] using ha.2
        cases xs with
        | nil =>
          simp [b_is_good_rule, e_is_tuple hv, isTupl, finQ_same, e_is_word ha.1, atom]
          cases a <;> simp [isWord, okRule, finQ_same, memD, eqv]
          rename_i s
          by_cases h3 : s = "batch"
          · subst h3; simp [finQ_same, e_is_number hb.1]
          · by_cases h1 : ("first" : Str) = s
            · subst h1; simp [finQ_same]
            · by_cases h2 : ("soon" : Str) = s
              · subst h2; simp [finQ_same]
              · simp [finQ_same, h1, h2, h3, Ne.symm h3]
        | cons c xs =>
          have e : okRule (.tup (a :: b :: c :: xs)) = false := by cases a <;> rfl
          simp [b_is_good_rule, e_is_tuple hv, isTupl, finQ_same, e]
          intro _ z
          omega
  | _ => simp [b_is_good_rule, e_is_tuple hv, isTupl, finQ_same, okRule]
theorem e_law_is_rule (hv : flat v = true) : run T gd W (k + 2) f__law_is_rule [v] μ = .ok (.bl (okRule v)) μ := by
  apply run_eq
  refine run_Ok T__law_is_rule rfl ?_
  cases v with
  | tup xs =>
    have hf : flatL xs = true := by simpa [flat] using hv
    cases xs with
    | nil => simp [b__law_is_rule, cmpD, atom, memD, eqv, finQ_same, okRule]
    | cons a xs =>
      have ha : flat a = true ∧ flatL xs = true := by simpa [flatL] using hf
      cases xs with
      | nil => cases a <;> simp [flat] at ha <;> simp [b__law_is_rule, cmpD, atom, memD, eqv, finQ_same, okRule, eqD, flat, dep]
      | cons b xs =>
        have hb : flat b = true ∧ flatL xs = true := by simpa [flatL] using ha.2
        cases xs with
        | nil =>
          cases a <;> simp [flat] at ha <;> simp [b__law_is_rule, cmpD, atom, memD, eqv, finQ_same, okRule, eqD, flat, dep]
          split <;> simp [finQ_same, e_is_int hb.1, *]
        | cons c xs =>
          have e : okRule (.tup (a :: b :: c :: xs)) = false := by cases a <;> rfl
          have n1 : ¬ ((1 : Int) = (xs.length : Int) + 1 + 1 + 1) := by omega
          have n2 : ¬ ((2 : Int) = (xs.length : Int) + 1 + 1 + 1) := by omega
          simp [b__law_is_rule, cmpD, atom, memD, eqv, finQ_same, e, n1, n2]
  | _ => first | (simp [flat] at hv; done) | simp [b__law_is_rule, finQ_same, okRule]
/-- a boat -/
def okBoat : D → Bool
  | .tup [.str s, x, y] => (decide ("up" = s) || decide ("down" = s)) && (isNum x 0 60 && isNum y 1 5)
  | _ => false
theorem e_is_boat (hv : flat v = true) : run T gd W (k + 2) f_is_boat [v] μ = .ok (.bl (okBoat v)) μ := by
  apply run_eq
  refine run_Ok T_is_boat rfl ?_
  cases v with
  | tup xs =>
    have hf : flatL xs = true := by simpa [flat] using hv
    cases xs with
    | nil => simp [b_is_boat, e_is_tuple hv, isTupl, finQ_same, okBoat]
    | cons a xs =>
      have ha : flat a = true ∧ flatL xs = true := by simpa [flatL] using hf
      cases xs with
      | nil => simp [b_is_boat, e_is_tuple hv, isTupl, finQ_same, okBoat]
      | cons b xs =>
        have hb : flat b = true ∧ flatL xs = true := by simpa [flatL] using ha.2
        cases xs with
        | nil => simp [b_is_boat, e_is_tuple hv, isTupl, finQ_same, okBoat]
        | cons c xs =>
          have hc : flat c = true ∧ flatL xs = true := by simpa [flatL] using hb.2
          cases xs with
          | nil =>
            simp [b_is_boat, e_is_tuple hv, isTupl, finQ_same, gd, e_is_word ha.1, atom]
            cases a <;> simp [isWord, okBoat, finQ_same, memD, eqv]
            rename_i s
            by_cases h1 : ("up" : Str) = s
            · subst h1
              simp [finQ_same, e_is_number hb.1, e_is_number hc.1]
              split <;> simp [finQ_same, e_is_number hc.1, *]
            · by_cases h2 : ("down" : Str) = s
              · subst h2
                simp [finQ_same, e_is_number hb.1, e_is_number hc.1]
                split <;> simp [finQ_same, e_is_number hc.1, *]
              · simp [finQ_same, h1, h2]
          | cons d xs =>
            have e : okBoat (.tup (a :: b :: c :: d :: xs)) = false := by cases a <;> rfl
            simp [b_is_boat, e_is_tuple hv, isTupl, finQ_same, e]
            intro _ z
            omega
  | _ => simp [b_is_boat, e_is_tuple hv, isTupl, finQ_same, okBoat]
theorem e_law_is_boat (hv : flat v = true) : run T gd W (k + 2) f__law_is_boat [v] μ = .ok (.bl (okBoat v)) μ := by
  apply run_eq
  refine run_Ok T__law_is_boat rfl ?_
  cases v with
  | tup xs =>
    have hf : flatL xs = true := by simpa [flat] using hv
    cases xs with
    | nil => simp [b__law_is_boat, finQ_same, okBoat]
    | cons a xs =>
      have ha : flat a = true ∧ flatL xs = true := by simpa [flatL] using hf
      cases xs with
      | nil => simp [b__law_is_boat, finQ_same, okBoat]
      | cons b xs =>
        have hb : flat b = true ∧ flatL xs = true := by simpa [flatL] using ha.2
        cases xs with
        | nil => simp [b__law_is_boat, finQ_same, okBoat]
        | cons c xs =>
          have hc : flat c = true ∧ flatL xs = true := by simpa [flatL] using hb.2
          cases xs with
          | nil =>
            cases a <;> simp [flat] at ha <;> simp [b__law_is_boat, finQ_same, okBoat, cmpD, atom, memD, eqv, eqD, flat, dep]
            rename_i s
            split
            · simp [e_is_int hb.1]
              split <;> simp [finQ_same, e_is_int hc.1, *]
            · simp [finQ_same, *]
          | cons d xs =>
            have e : okBoat (.tup (a :: b :: c :: d :: xs)) = false := by cases a <;> rfl
            have n1 : ¬ ((xs.length : Int) + 1 + 1 + 1 + 1 = 3) := by omega
            simp [b__law_is_boat, finQ_same, e, n1]
  | _ => first | (simp [flat] at hv; done) | simp [b__law_is_boat, finQ_same, okBoat]
def okPlan : D → Bool
  | .tup [x, y, .tup bs] => isNum x 0 3 && okRule y && (decide (1 ≤ bs.length) && decide (bs.length ≤ 5)) && bs.all okBoat
  | _ => false
theorem flatL_mem : ∀ {xs : List D}, flatL xs = true → ∀ x ∈ xs, flat x = true
  | [], _, x, hx => by cases hx
  | y :: ys, h, x, hx => by
    have h' : flat y = true ∧ flatL ys = true := by simpa [flatL] using h
    rcases List.mem_cons.mp hx with rfl | hx
    · exact h'.1
    · exact flatL_mem h'.2 x hx
theorem flatL_of : ∀ {xs : List D}, (∀ x ∈ xs, flat x = true) → flatL xs = true
  | [], _ => rfl
  | y :: ys, h => by
    unfold flatL
    rw [h y (List.mem_cons_self ..), flatL_of fun x hx => h x (List.mem_cons_of_mem _ hx)]
    rfl
theorem bools_map : ∀ (bs : List D) (f : D → Bool), boolsOf (bs.map fun b => D.bl (f b)) = some (bs.map f)
  | [], f => rfl
  | b :: bs, f => by simp [boolsOf, bools_map bs f]
theorem bi_all {xs : List D} {bs : List Bool} (h : boolsOf xs = some bs) : biD .all [.lst xs] = some (.bl (bs.all id)) := by simp [biD, h]
theorem e_good_plan (hv : flat v = true) : run T gd W (k + 3) f_is_good_plan [v] μ = .ok (.bl (okPlan v)) μ := by
  apply run_eq
  refine run_Ok T_is_good_plan rfl ?_
  cases v with
  | tup xs =>
    have hf : flatL xs = true := by simpa [flat] using hv
    cases xs with
    | nil => simp [b_is_good_plan, e_is_tuple hv, isTupl, finQ_same, okPlan]
    | cons a xs =>
      have ha : flat a = true ∧ flatL xs = true := by simpa [flatL] using hf
      cases xs with
      | nil => simp [b_is_good_plan, e_is_tuple hv, isTupl, finQ_same, okPlan]
      | cons b xs =>
        have hb : flat b = true ∧ flatL xs = true := by simpa [flatL] using ha.2
        cases xs with
        | nil => simp [b_is_good_plan, e_is_tuple hv, isTupl, finQ_same, okPlan]
        | cons c xs =>
          have hc : flat c = true ∧ flatL xs = true := by simpa [flatL] using hb.2
          cases xs with
          | nil =>
            simp [b_is_good_plan, e_is_tuple hv, isTupl, finQ_same, e_is_number ha.1, e_good_rule hb.1]
            cases hx : isNum a 0 3 with
            | false => cases c <;> simp [finQ_same, okPlan, hx]
            | true =>
              cases hy : okRule b with
              | false => cases c <;> simp [finQ_same, okPlan, hx, hy]
              | true =>
                simp [e_is_tuple hc.1]
                cases c with
                | tup bs =>
                  have hbs : flatL bs = true := by simpa [flat] using hc.1
                  simp [isTupl]
                  by_cases hn : 1 ≤ bs.length ∧ bs.length ≤ 5
                  · have hn1 : (1 : Int) ≤ bs.length := by omega
                    have hn2 : (bs.length : Int) ≤ 5 := by omega
                    simp [hn1, hn2]
                    rw [compL_all (fun d => .bl (okBoat d)) rfl fun d hd => ⟨_, rfl, rfl, by simp [wipeE, e_is_boat (flatL_mem hbs d hd)]⟩]
                    simp [finQ_same, bi_all (bools_map bs okBoat), okPlan, hx, hy, hn.1, hn.2]
                  · have hn' : ¬ ((1 : Int) ≤ bs.length ∧ (bs.length : Int) ≤ 5) := by omega
                    have e : okPlan (.tup [a, b, .tup bs]) = false := by
                      simp [okPlan, hx, hy]
                      intro h1 h2
                      exact absurd ⟨h1, h2⟩ hn
                    simp [e, hn', finQ_same]
                | _ => simp [isTupl, finQ_same, okPlan]
          | cons d xs =>
            simp [b_is_good_plan, e_is_tuple hv, isTupl, finQ_same, okPlan]
            intro _ z
            omega
  | _ => simp [b_is_good_plan, e_is_tuple hv, isTupl, finQ_same, okPlan]
theorem all_not {bs : List D} {f : D → Bool} : ((bs.filter fun b => !f b).isEmpty) = bs.all f := by
  induction bs with
  | nil => rfl
  | cons b bs ih =>
    cases h : f b with
    | true => simp [h, ih]
    | false => simp [h]
theorem eqv_nil {xs : List D} : eqv (.lst xs) (.lst []) = xs.isEmpty := by
  cases xs <;> simp [eqv, eqvL]
theorem e_law_is_plan (hv : flat v = true) : run T gd W (k + 3) f__law_is_plan [v] μ = .ok (.bl (okPlan v)) μ := by
  apply run_eq
  refine run_Ok T__law_is_plan rfl ?_
  cases v with
  | tup xs =>
    have hf : flatL xs = true := by simpa [flat] using hv
    cases xs with
    | nil => simp [b__law_is_plan, finQ_same, okPlan]
    | cons a xs =>
      have ha : flat a = true ∧ flatL xs = true := by simpa [flatL] using hf
      cases xs with
      | nil => simp [b__law_is_plan, finQ_same, okPlan]
      | cons b xs =>
        have hb : flat b = true ∧ flatL xs = true := by simpa [flatL] using ha.2
        cases xs with
        | nil => simp [b__law_is_plan, finQ_same, okPlan]
        | cons c xs =>
          have hc : flat c = true ∧ flatL xs = true := by simpa [flatL] using hb.2
          cases xs with
          | nil =>
            simp [b__law_is_plan, finQ_same, e_is_int ha.1]
            cases hx : isNum a 0 3 with
            | false => cases c <;> simp [finQ_same, okPlan, hx]
            | true =>
              simp [e_law_is_rule hb.1]
              cases hy : okRule b with
              | false => cases c <;> simp [finQ_same, okPlan, hx, hy]
              | true =>
                cases c with
                | tup bs =>
                  have hbs : flatL bs = true := by simpa [flat] using hc.1
                  simp
                  by_cases hn : 1 ≤ bs.length ∧ bs.length ≤ 5
                  · have hn1 : (1 : Int) ≤ bs.length := by omega
                    have hn2 : (bs.length : Int) ≤ 5 := by omega
                    simp [hn1, hn2]
                    rw [compL_map (fun d => !okBoat d) (fun d => d) rfl fun d hd => ⟨_, rfl, by simp [wipeE, e_law_is_boat (flatL_mem hbs d hd)], fun _ => by simp [wipeE]⟩]
                    have hfl : flat (.lst (bs.filter fun d => !okBoat d)) = true := by
                      simp only [flat]
                      exact flatL_of fun x hx => flatL_mem hbs x (List.mem_filter.mp hx).1
                    have he := eqD_of (x := .lst (bs.filter fun d => !okBoat d)) (y := .lst []) hfl rfl (by simp [dep, depL])
                    rw [eqv_nil, all_not] at he
                    simp [he, finQ_same, okPlan, hx, hy, hn.1, hn.2]
                  · have hn' : ¬ ((1 : Int) ≤ bs.length ∧ (bs.length : Int) ≤ 5) := by omega
                    have e : okPlan (.tup [a, b, .tup bs]) = false := by
                      simp [okPlan, hx, hy]
                      intro h1 h2
                      exact absurd ⟨h1, h2⟩ hn
                    simp [e, finQ_same]
                    exact fun h1 h2 => absurd ⟨h1, h2⟩ hn'
                | _ => first | (simp [flat] at hc; done) | simp [finQ_same, okPlan]
          | cons d xs =>
            have n1 : ¬ ((xs.length : Int) + 1 + 1 + 1 + 1 = 3) := by omega
            simp [b__law_is_plan, finQ_same, okPlan, n1]
  | _ => first | (simp [flat] at hv; done) | simp [b__law_is_plan, finQ_same, okPlan]
end
end Mi
namespace Mi
open PySem
section
variable {W k : Nat} {μ : Store} {v : D}
theorem e_is_plan (hv : flat v = true) : run T gd W (k + 4) f_is_plan [v] μ = .ok (.bl (okPlan v)) μ := by
  apply run_eq
  refine run_Ok T_is_plan rfl ?_
  simp [b_is_plan, e_good_plan hv, finQ_same]
theorem e_is_rule (hv : flat v = true) : run T gd W (k + 3) f_is_rule [v] μ = .ok (.bl (okRule v)) μ := by
  apply run_eq
  refine run_Ok T_is_rule rfl ?_
  simp [b_is_rule, e_good_rule hv, finQ_same]
/-- data at most n deep, no row longer than w -/
def okV (w : Nat) : Nat → D → Prop
  | 0, d => atom d = true
  | n + 1, d => atom d = true ∨ ∃ xs, (d = .tup xs ∨ d = .lst xs) ∧ xs.length ≤ w ∧ ∀ x ∈ xs, okV w n x
theorem okV.atom {w n : Nat} {d : D} (h : Mi.atom d = true) : okV w n d := by
  cases n with
  | zero => exact h
  | succ n => exact .inl h
theorem okV.mono {w w' : Nat} (hw : w ≤ w') : ∀ {n n' : Nat} {d : D}, n ≤ n' → okV w n d → okV w' n' d
  | 0, n', d, _, h => okV.atom h
  | n + 1, 0, d, hn, _ => by omega
  | n + 1, n' + 1, d, hn, h => by
    rcases h with h | ⟨xs, h1, h2, h3⟩
    · exact .inl h
    · exact .inr ⟨xs, h1, by omega, fun x hx => okV.mono hw (by omega) (h3 x hx)⟩
theorem okV.flat {w : Nat} : ∀ {n : Nat} {d : D}, okV w n d → Mi.flat d = true
  | 0, d, h => by cases d <;> first | rfl | (simp [okV, Mi.atom] at h)
  | n + 1, d, h => by
    rcases h with h | ⟨xs, rfl | rfl, _, h3⟩
    · cases d <;> first | rfl | (simp [Mi.atom] at h)
    · simp only [Mi.flat]
      exact flatL_of fun x hx => okV.flat (h3 x hx)
    · simp only [Mi.flat]
      exact flatL_of fun x hx => okV.flat (h3 x hx)
theorem okV.tup {w n : Nat} {xs : List D} (h1 : xs.length ≤ w) (h2 : ∀ x ∈ xs, okV w n x) : okV w (n + 1) (.tup xs) := .inr ⟨xs, .inl rfl, h1, h2⟩
theorem okV.lst {w n : Nat} {xs : List D} (h1 : xs.length ≤ w) (h2 : ∀ x ∈ xs, okV w n x) : okV w (n + 1) (.lst xs) := .inr ⟨xs, .inr rfl, h1, h2⟩
theorem odd_Ok {r : Nat} (S : Src' μ r) : (run T gd W (k + 3) f__law_odd [.ref r] μ).Ok fun d μ' => okV 3 1 d ∧ Srcs μ' ∧ μ'.length = μ.length := by
  refine run_Ok T__law_odd rfl ?_
  simp [b__law_odd, big]
  refine (of_Ok S (by simp) (by simp)).mono ?_
  rintro d μ' ⟨h1, h2, h3⟩
  simp only [finQ_same (Nat.le_of_eq h3)]
  refine ⟨?_, h2, h3⟩
  simp at h1
  rcases h1 with rfl | rfl | rfl | rfl | rfl | rfl | rfl | rfl | rfl | rfl | rfl | rfl | rfl | rfl | rfl | rfl | rfl | rfl | rfl | rfl | rfl | rfl | rfl | rfl | rfl <;>
    first | (refine okV.atom ?_; rfl) | (refine okV.tup (by simp) ?_; simp [okV, atom]; done) | (refine okV.lst (by simp) ?_; simp [okV, atom]; done)
theorem cutL_take {α : Type} {xs : List α} {i : Int} (h0 : 0 ≤ i) (h1 : i ≤ xs.length) : cutL xs none (some i) = xs.take i.toNat := by
  unfold cutL clip
  simp only [Nat.sub_zero, List.drop_zero]
  rw [if_neg (by omega)]
  congr 1
  omega
theorem cutL_drop {α : Type} {xs : List α} {i : Int} (h0 : 0 ≤ i) (h1 : i ≤ xs.length) : cutL xs (some i) none = xs.drop i.toNat := by
  unfold cutL clip
  simp only
  rw [if_neg (by omega), show min i.toNat xs.length = i.toNat by omega, List.take_of_length_le (by rw [List.length_drop]; omega)]
theorem eqD_unit {xs : List D} (h : flat (.tup xs) = true) : eqD (.tup xs) (.tup []) = some xs.isEmpty := by
  rw [eqD_of h rfl (by simp [dep, depL])]
  cases xs <;> simp [eqv, eqvL]
theorem isa_int_of {x : D} (hf : flat x = true) : biD (.isa .int) [x] = some (.bl (isaD .int x)) := bi_isa (plain_flat hf)
theorem spoilt_Ok {r w : Nat} (hw : 3 ≤ w) (hw2 : w ≤ 1000) : ∀ (n : Nat) {v : D} {μ : Store}, Src' μ r → okV w n v → (run T gd W (k + 4 + n) f__law_spoilt [.ref r, v] μ).Ok fun d μ' => okV (w + 1) (n + 1) d ∧ Srcs μ' ∧ μ'.length = μ.length := by
  have start : ∀ (m : Nat) {v : D} {μ : Store}, Src' μ r → atom v = true ∨ (∃ xs, v = .lst xs) → flat v = true → (run T gd W (k + 4 + m) f__law_spoilt [.ref r, v] μ).Ok fun d μ' => okV 3 1 d ∧ Srcs μ' ∧ μ'.length = μ.length := by
    intro m v μ S h hf
    rw [show k + 4 + m = (k + m + 3) + 1 by omega]
    refine run_Ok T__law_spoilt rfl ?_
    have : biD (.isa .tup) [v] = some (.bl false) := by
      rcases h with h | ⟨xs, rfl⟩
      · cases v <;> first | rfl | (simp [atom] at h)
      · rfl
    simp [b__law_spoilt, view_flat hf, this]
    refine (odd_Ok S).mono ?_
    rintro d μ' ⟨h1, h2, h3⟩
    simp [finQ_same (Nat.le_of_eq h3), h1, h2, h3]
  intro n
  induction n with
  | zero => exact fun S h => (start 0 S (.inl h) (okV.flat h)).mono fun d μ' h => ⟨h.1.mono (by omega) (by omega), h.2⟩
  | succ n ih =>
    intro v μ S h
    rcases h with h | ⟨xs, rfl | rfl, hl, hx⟩
    · exact (start (n + 1) S (.inl h) (okV.flat (okV.atom (w := w) (n := n) h))).mono fun d μ' h => ⟨h.1.mono (by omega) (by omega), h.2⟩
    · have hf : flat (.tup xs) = true := okV.flat (okV.tup hl hx)
      rw [show k + 4 + (n + 1) = (k + 4 + n) + 1 by omega]
      refine run_Ok T__law_spoilt rfl ?_
      have odd' : ∀ {μ'} (S' : Src' μ' r), (run T gd W (k + 4 + n) f__law_odd [.ref r] μ').Ok fun d μ2 => okV 3 1 d ∧ Srcs μ2 ∧ μ2.length = μ'.length := fun S' => by
        rw [show k + 4 + n = (k + n + 1) + 3 by omega]
        exact odd_Ok S'
      have draw' : ∀ {μ'} (S' : Src' μ' r) {m : Int}, 0 < m → m < 1073741824 → (run T gd W (k + 4 + n) f__law_draw [.ref r, .int m] μ').Ok fun d μ2 => (∃ z : Int, d = .int z ∧ 0 ≤ z ∧ z < m) ∧ Srcs μ2 ∧ μ2.length = μ'.length := fun S' m h0 h1 => by
        rw [show k + 4 + n = (k + n + 3) + 1 by omega]
        exact draw_Ok S' h0 h1
      cases xs with
      | nil =>
        simp [b__law_spoilt, eqD_unit hf]
        refine (odd' S).mono ?_
        rintro d μ' ⟨h1, h2, h3⟩
        simp [finQ_same (Nat.le_of_eq h3), h2, h3]
        exact h1.mono (by omega) (by omega)
      | cons y ys =>
        generalize hxs : y :: ys = xs at *
        have hp : 0 < xs.length := by rw [← hxs]; simp
        have he : xs.isEmpty = false := by rw [← hxs]; rfl
        simp [b__law_spoilt, eqD_unit hf, he]
        refine (draw' S (by omega) (by omega)).mono ?_
        rintro d μ1 ⟨⟨z, rfl, z0, z1⟩, hS1⟩
        have S1 := S.next hS1
        simp
        split
        · refine (odd' S1).mono ?_
          rintro d μ' ⟨h1, h2, h3⟩
          have h3' : μ'.length = μ.length := by omega
          simp [finQ_same (Nat.le_of_eq h3'), h2, h3']
          exact h1.mono (by omega) (by omega)
        · refine (draw' S1 (by omega) (by omega)).mono ?_
          rintro d μ2 ⟨⟨at_, rfl, a0, a1⟩, hS2⟩
          have S2 := S1.next hS2
          refine (draw' S2 (by omega) (by omega)).mono ?_
          rintro d μ3 ⟨⟨md, rfl, m0, m1⟩, hS3⟩
          have S3 := S2.next hS3
          have l3 : μ3.length = μ.length := by omega
          have hn : at_.toNat < xs.length := by omega
          have t1 := cutL_take (xs := xs) a0 (by omega)
          have t2 := cutL_take (xs := xs) (i := at_ + 1) (by omega) (by omega)
          have d1 := cutL_drop (xs := xs) a0 (by omega)
          have d2 := cutL_drop (xs := xs) (i := at_ + 1) (by omega) (by omega)
          have hbig : big = 16777216 := rfl
          have mem : ∀ x ∈ xs, okV (w + 1) (n + 1) x := fun x hx' => (hx x hx').mono (by omega) (by omega)
          have b1 : (xs.take at_.toNat).length + (xs.drop (at_ + 1).toNat).length ≤ big := by simp; omega
          have b2 : (xs.take (at_ + 1).toNat).length + (xs.drop at_.toNat).length ≤ big := by simp; omega
          simp [t1, t2, d1, d2]
          have fin : ∀ {zs : List D} {μ' : Store}, Srcs μ' → μ'.length = μ3.length → zs.length ≤ w + 1 → (∀ x ∈ zs, okV (w + 1) (n + 1) x) →
              finQ true μ.length (fun d μ' => okV (w + 1) (n + 1 + 1) d ∧ Srcs μ' ∧ μ'.length = μ.length) (.tup zs) μ' := fun h1 h2 h3 h4 => by
            rw [finQ_same (by omega)]
            exact ⟨okV.tup h3 h4, h1, by omega⟩
          have put : ∀ {b : D} {j : Nat} {μ' : Store}, Srcs μ' → μ'.length = μ3.length → at_.toNat ≤ j → okV (w + 1) (n + 1) b →
              (Out.of (binD .add (.tup (xs.take at_.toNat)) (.tup [b])) μ').Ok fun b μ_1 => (Out.of (binD .add (view μ_1 b) (.tup (xs.drop j))) μ_1).Ok fun d μ' =>
                finQ true μ.length (fun d μ' => okV (w + 1) (n + 1 + 1) d ∧ Srcs μ' ∧ μ'.length = μ.length) d μ' := fun {b j μ'} h1 h2 h3 h4 => by
            have q1 : (xs.take at_.toNat).length + [b].length ≤ big := by simp; omega
            have q2 : (xs.take at_.toNat ++ [b]).length + (xs.drop j).length ≤ big := by simp; omega
            rw [bin_addt q1]
            simp only [Out.of_some, Out.Ok_ok, view_tup']
            rw [bin_addt q2]
            simp only [Out.of_some, Out.Ok_ok]
            refine fin h1 h2 (by simp; omega) fun x hx' => ?_
            rcases List.mem_append.mp hx' with z | z
            · rcases List.mem_append.mp z with z | z
              · exact mem x (List.mem_of_mem_take z)
              · have : x = b := by simpa using z
                subst this
                exact h4
            · exact mem x (List.mem_of_mem_drop z)
          have hget : xs[at_.toNat]? = some xs[at_.toNat] := List.getElem?_eq_getElem hn
          have hat : okV w n xs[at_.toNat] := hx _ (List.getElem_mem hn)
          generalize xs[at_.toNat] = x0 at hget hat
          have rec_ : ∀ {μ' : Store}, Src' μ' r → μ'.length = μ3.length → (run T gd W (k + 4 + n) f__law_spoilt [.ref r, x0] μ').Ok fun b μ_5 => (Out.of (binD .add (.tup (xs.take at_.toNat)) (.tup [b])) μ_5).Ok fun b μ_6 => (Out.of (binD .add (view μ_6 b) (.tup (xs.drop (at_ + 1).toNat))) μ_6).Ok fun d μ' =>
              finQ true μ.length (fun d μ' => okV (w + 1) (n + 1 + 1) d ∧ Srcs μ' ∧ μ'.length = μ.length) d μ' := fun S' hl' =>
            (ih S' hat).mono fun d μ' h => put h.2.1 (by omega) (by omega) h.1
          split
          · rw [bin_addt b1]
            refine fin S3.all rfl (by simp; omega) fun x hx' => ?_
            rcases List.mem_append.mp hx' with z | z
            · exact mem x (List.mem_of_mem_take z)
            · exact mem x (List.mem_of_mem_drop z)
          · split
            · rw [bin_addt b2]
              refine fin S3.all rfl (by simp; omega) fun x hx' => ?_
              rcases List.mem_append.mp hx' with z | z
              · exact mem x (List.mem_of_mem_take z)
              · exact mem x (List.mem_of_mem_drop z)
            · split
              · refine (odd' S3).mono fun b μ' h => put h.2.1 h.2.2 (Nat.le_refl _) (h.1.mono (by omega) (by omega))
              · split
                · rw [finQ_same (by omega)]
                  exact ⟨okV.lst (by omega) mem, S3.all, l3⟩
                · simp [ixOf_lt a0 a1, hget, view_flat (okV.flat hat), isa_int_of (okV.flat hat)]
                  split
                  · rename_i hi
                    split
                    · refine (draw' S3 (by omega) (by omega)).mono ?_
                      rintro d μ4 ⟨⟨dd, rfl, _, _⟩, hS4⟩
                      have : ∃ j : Int, binD .add x0 (.int dd) = some (.int j) := by
                        cases x0 <;> first | exact ⟨_, rfl⟩ | (simp [isaD] at hi)
                      obtain ⟨j, ej⟩ := this
                      simp [view_flat (okV.flat hat), ej]
                      exact put hS4.1 hS4.2 (by omega) (okV.atom rfl)
                    · exact rec_ S3 rfl
                  · exact rec_ S3 rfl
    · exact (start (n + 1) S (.inr ⟨xs, rfl⟩) (okV.flat (okV.lst hl hx))).mono fun d μ' h => ⟨h.1.mono (by omega) (by omega), h.2⟩
end
end Mi
namespace Mi
open PySem
section
theorem btD_ok (b : Bt) : okV 5 1 (btD b) := okV.tup (by simp) fun x hx => okV.atom (by
  simp at hx
  rcases hx with rfl | rfl | rfl <;> rfl)
theorem ruleD_ok (q : Nat) : okV 5 1 (ruleD q) := by
  match q with
  | 0 => exact okV.tup (by simp) fun x hx => okV.atom (by simp at hx; subst hx; rfl)
  | 1 => exact okV.tup (by simp) fun x hx => okV.atom (by simp at hx; subst hx; rfl)
  | n + 2 => exact okV.tup (by simp) fun x hx => okV.atom (by
      simp at hx
      rcases hx with rfl | rfl <;> rfl)
theorem planD_ok {p : Plan} (h : p.Ok 5) : okV 5 3 p.d := okV.tup (by simp) fun x hx => by
  simp at hx
  rcases hx with rfl | rfl | rfl
  · exact okV.atom rfl
  · exact (ruleD_ok p.rule).mono (by omega) (by omega)
  · refine okV.tup (by simpa using h.n1) fun x hx => ?_
    obtain ⟨b, _, rfl⟩ := List.mem_map.mp hx
    exact btD_ok b
def boat0 : D := .tup [.str "up", .int 60, .int 5]
theorem boat0_ok : okV 5 1 boat0 := okV.tup (by simp) fun x hx => okV.atom (by
  simp at hx
  rcases hx with rfl | rfl | rfl <;> rfl)
theorem mul5 {x : D} : binD .mul (.tup [x]) (.int 5) = some (.tup [x, x, x, x, x]) := by simp [binD, List.replicate]
theorem mul6 {x : D} : binD .mul (.tup [x]) (.int 6) = some (.tup [x, x, x, x, x, x]) := by simp [binD, List.replicate]
theorem law_Ok (ns : List Int) : (run T gd 0 40 f_law [.scr ns] []).Ok fun d μ' => d = .bl true := by
  refine run_Ok T_law rfl ?_
  have hb : ((1 + if (10 : Int) < (ns.length : Int) then 10 else (ns.length : Int))).toNat ≤ big := by
    unfold big
    split <;> omega
  have hb0 : 0 ≤ (1 + if (10 : Int) < (ns.length : Int) then 10 else (ns.length : Int)) := by split <;> omega
  simp [b_law, src_rng1 hb0 hb]
  refine for_Ok (fun i ρ μ => ∃ x2 x3 x4 x5 x6, ρ = [some (.scr ns), some boat0, x2, x3, x4, x5, x6] ∧ Srcs μ) ⟨none, none, none, none, none, rfl, fun c hc => by cases hc⟩ (fun i ρ μ h => rfl) ?_ ?_
  · rintro i d ρ μ hi ⟨x2, x3, x4, x5, x6, rfl, hS⟩
    have hd := rangeD_get _ _ _ _ hi
    have hil := (List.getElem?_eq_some_iff.mp hi).1
    rw [rangeD_len] at hil
    subst hd
    refine ⟨_, rfl, ?_⟩
    simp
    refine (source_Ok hS (by omega) (by omega)).mono ?_
    rintro d μ1 ⟨a, b, rfl, rfl⟩
    have S1 : Src' (μ ++ [.lst [.int a, .int b]]) μ.length := ⟨hS.push a b, by simp⟩
    generalize μ.length = r at S1
    generalize μ ++ [Cell.lst [.int a, .int b]] = μ1 at S1
    try simp
    refine (plan_Ok (m := 5) S1 (by omega) (by omega)).mono ?_
    rintro d μ2 ⟨⟨p, rfl, hp⟩, hS2⟩
    have S2 := S1.next hS2
    have e1 : ixD p.d (.int 1) = some (ruleD p.rule) := rfl
    have ev : view μ2 p.d = p.d := rfl
    simp [e1, ev, mul5]
    generalize hvs : [p.d, p.d, ruleD p.rule, D.tup [D.int 3, D.tup [D.str (Str.ofString "batch"), D.int 3], D.tup [boat0, boat0, boat0, boat0, boat0]]] = vs
    have hvok : ∀ v ∈ vs, okV 5 3 v := by
      rw [← hvs]
      intro v hv
      simp at hv
      rcases hv with rfl | rfl | rfl
      · exact planD_ok hp
      · exact (ruleD_ok _).mono (by omega) (by omega)
      · refine okV.tup (by simp) fun x hx => ?_
        simp at hx
        rcases hx with rfl | rfl | rfl
        · exact okV.atom rfl
        · exact okV.tup (by simp) fun x hx => okV.atom (by
            simp at hx
            rcases hx with rfl | rfl <;> rfl)
        · exact okV.tup (by simp) fun x hx => by
            simp at hx
            subst hx
            exact boat0_ok
    refine for_Ok (fun j ρ μ => ∃ x2 x4 x5 x6, ρ = [some (.scr ns), some boat0, x2, some (.ref r), x4, x5, x6] ∧ Src' μ r) ⟨_, _, _, _, rfl, S2⟩ (fun i ρ μ h => rfl) ?_ ?_
    · rintro j v ρ μ hj ⟨x2, x4, x5, x6, rfl, S⟩
      have hv := hvok v (List.mem_of_getElem? hj)
      refine ⟨_, rfl, ?_⟩
      simp
      rw [src_rng1 (by omega) (by decide)]
      simp
      refine for_Ok (fun j ρ μ => ∃ x6 v, ρ = [some (.scr ns), some boat0, x2, some (.ref r), x4, some v, x6] ∧ Src' μ r ∧ okV (5 + j) (3 + j) v) ⟨_, _, rfl, S, hv⟩ (fun i ρ μ h => rfl) ?_ ?_
      · rintro m d ρ μ hm ⟨x6, v, rfl, S, hv⟩
        have hml := (List.getElem?_eq_some_iff.mp hm).1
        rw [rangeD_len] at hml
        have hml' : m < 5 := hml
        refine ⟨_, rfl, ?_⟩
        have f := okV.flat hv
        simp [e_is_plan f, e_law_is_plan f, e_is_rule f, e_law_is_rule f]
        have e : (39 : Nat) = (35 - (3 + m)) + 4 + (3 + m) := by omega
        have sp := spoilt_Ok (W := 0) (k := 35 - (3 + m)) (w := 5 + m) (by omega) (by omega) (3 + m) S hv
        rw [← e] at sp
        refine sp.mono ?_
        rintro d μ' ⟨h1, h2⟩
        exact ⟨_, _, ⟨rfl, rfl⟩, S.next h2, h1⟩
      · rintro ρ μ ⟨x6, v, rfl, S, _⟩
        exact ⟨⟨_, _, _, _, rfl⟩, S⟩
    · rintro ρ μ ⟨x2, x4, x5, x6, rfl, S⟩
      exact ⟨⟨_, _, _, _, _, rfl⟩, S.all⟩
  · rintro ρ μ ⟨x2, x3, x4, x5, x6, rfl, hS⟩
    have p1 : ∀ {v : D} {b : Bool} {μ : Store}, flat v = true → okPlan v = b → run T gd 0 39 f_is_plan [v] μ = .ok (.bl b) μ := fun h1 h2 => by rw [← h2]; exact e_is_plan h1
    have r1 : ∀ {v : D} {b : Bool} {μ : Store}, flat v = true → okRule v = b → run T gd 0 39 f_is_rule [v] μ = .ok (.bl b) μ := fun h1 h2 => by rw [← h2]; exact e_is_rule h1
    simp [mul5, mul6]
    have pf : ∀ b μ, finQ true 0 (fun d μ' => d = D.bl true) (D.bl b) μ ↔ b = true := fun b μ => by
      unfold finQ
      split
      · simp [outD, below]
      · simp
    rw [p1 (b := false) rfl (by decide +kernel)]
    simp
    rw [p1 (b := false) rfl (by decide +kernel)]
    simp
    rw [p1 (b := false) rfl (by decide +kernel)]
    simp
    rw [p1 (b := false) rfl (by decide +kernel)]
    simp
    rw [p1 (b := false) rfl (by decide +kernel)]
    simp
    rw [r1 (b := false) rfl (by decide +kernel)]
    simp
    rw [r1 (b := false) rfl (by decide +kernel)]
    simp
    rw [r1 (b := false) rfl (by decide +kernel)]
    simp
    rw [r1 (b := false) rfl (by decide +kernel)]
    simp
    rw [p1 (b := true) rfl (by decide +kernel)]
    simp
    rw [r1 (b := true) rfl (by decide +kernel)]
    simp
    rw [r1 (b := false) rfl (by decide +kernel)]
    simp
    exact (pf true μ).mpr rfl
theorem law_true (ns : List Int) (h : ns.length ≤ 63) : ∃ μ, run T gd 0 40 f_law [.scr ns] [] = .ok (.bl true) μ := by
  obtain ⟨d, μ, e, rfl⟩ := Out.Ok_iff.mp (law_Ok ns)
  exact ⟨μ, e⟩
end
end Mi
namespace Mi
open PySem PySem.Spec PyProof.Rows L2
abbrev R : PySem.W.OpenRow := PySem.W.OpenLaw.row PySem.Challenge.rw_lockstairs_k01_values_recognized
def fn : List He.DefD := ds.map LDef.d
abbrev hk : PySem.W.Hook := hookM 4 (faOf ds fr) fn cs
def loose : List Str := (["__name__", "WAYS", "is_number", "is_tuple", "is_word", "is_good_rule", "is_boat", "is_good_plan", "is_plan", "is_rule", "_law_source", "_law_draw", "_law_of", "_law_rule", "_law_plan", "_law_is_int", "_law_is_rule", "_law_is_boat", "_law_is_plan", "_law_odd", "_law_spoilt"] : List Str)
def ob (s : PySem.W.SharedT) : AlM := obsMG 4 (faOf ds fr) fn cs (HandSHeadRun.getT s)
theorem ob_eq (s : PySem.W.SharedT) : ob s = hk.obs s.abs := obsMG_eq (HandSHeadRun.getT_eq s)
theorem hrun (w : World) : HandSHeadRun.RunEq R (PySem.W.view R.prog [22]) hk ob 4000 loose w := by
  intro os
  kernel_rfl
end Mi
open PySem PySem.W PySem.Calls PyProof.Rows
theorem PySem.Challenge.cw_lockstairs_k01_values_recognized_holds : PySem.Challenge.rw_lockstairs_k01_values_recognized.Holds := by
  w_on; o_law
  refine HandSHeadRun.head_any (r := OpenLaw.row PySem.Challenge.rw_lockstairs_k01_values_recognized) (q := view (OpenLaw.row PySem.Challenge.rw_lockstairs_k01_values_recognized).prog [22]) (H := Mi.hk) (ob := Mi.ob) (M := 4000) (loose := Mi.loose) (d := HandSHeadRun.topDef (OpenLaw.row PySem.Challenge.rw_lockstairs_k01_values_recognized).prog 22) (kwd := []) Mi.ob_eq
    (by kernel_rfl) (fun s => by kernel_rfl) Mi.hrun (by kernel_rfl) (by kernel_rfl) (by kernel_rfl) (by rfl) (by first | assumption | decide +kernel) (by decide +kernel) ⟨rfl, rfl, rfl, rfl, rfl, by decide +kernel⟩ ?hw ?hc
  case hw => w_witness2
  case hc =>
    refine L2.walk_ofE (l := PySem.Challenge.rw_lockstairs_k01_values_recognized) (n := 63) (k := 40) (x := "_law_script") (CX := L2.CX0) rfl (by decide) (by kernel_rfl) ⟨rfl, by decide, by decide⟩ ?F (fun _ _ _ _ z => z)
    intro w mg fa h Y Gn hmg0
    have hmg : mg ("law" : PySem.Str) = some (.ref fa) := by
      have e : (HandSHeadRun.topDef (OpenLaw.row PySem.Challenge.rw_lockstairs_k01_values_recognized).prog 22).name = ("law" : PySem.Str) := by kernel_rfl
      rw [← e]
      exact hmg0
    exact Mi.law_end (W := 0) (fl := Mi.f_law) (dl := Mi.d_law) Mi.mok Mi.allOk rfl rfl hmg (by decide) Mi.law_true Y Gn

