import PyProof.Rows.All
import Wide.All
import OpenK.AllK
import Wide.FinOn
import KE.KExcLine
import PySem.Builtin.Int.W1All
import KE.SortData
import KE.DataMinMax
import HandS.Base
import HandS.Call
import HandS.List
import PyProof.NoPylong
import PyProof.ListMulRoad
import PyProof.FactsAll.tuple_2
import HandS.Comp
import HandS.TupAny
import HandS.TupMul
import HandS.Wide
import HandS.Deep
import PyProof.P3In
import HandS.Gcd
import PyProof.Rows.SortShell
import KE.KTupSum
import HandS.IsInst
import PyProof.MaxThree
import HandS.TupSets
import HandS.SetFor
import HandS.Strs
import PyProof.SeqIndex
import HandS.Flow
import HandS.ExcOwn
import HandS.ExcIs
import HandS.TryOnly
import HandS.Zip
import HandS.Style
import HandS.WordsExc
import PySem.Challenge.RW_roundshapes_k23_points_of_triangles
set_option linter.all false
set_option Elab.async false
namespace Lw
open PySem

/-! ## data and program terms -/
inductive D where
  | non | bl (b : Bool) | int (i : Int) | str (x : Str) | tup (xs : List D) | lst (xs : List D) | ro (xs : List D) | set (xs : List D) | exn (c : Nat)
  deriving Inhabited

inductive BOp where
  | add | sub | mul | fdiv | mod | pow | shl | shr | band | bor
  deriving DecidableEq
inductive COp where
  | eq | ne | lt | le | gt | ge | isIn | notIn
  deriving DecidableEq
inductive BI where
  | gcd | len | int | abs | min | max | sum | sorted | tuple | list | any | all | set | str | bool
  deriving DecidableEq
inductive TY where
  | bool | int | str | tuple | list
  deriving DecidableEq
inductive MT where
  | count | index | join | split
  deriving DecidableEq
inductive Tg where
  | nm (i : Nat) | tup (ns : List Nat)

mutual
inductive E where
  | var (i : Nat) | int (i : Int) | bl (b : Bool) | non | str (x : Str) | glob (c : Nat)
  | tup (es : List E) | lst (es : List E)
  | bin (o : BOp) (a b : E) | neg (a : E) | not (a : E) | and (es : List E) | or (es : List E) | ife (c a b : E)
  | cmp (o : COp) (a b : E) | chn (o o' : COp) (a b c : E) | isN (a : E) | notN (a : E)
  | idx (a i : E) | sl (a : E) (lo hi : Option E) | rev (a : E)
  | call (f : Nat) (es : List E) | bi (b : BI) (es : List E) | isi (a : E) (t : TY) | isx (i : Nat) (c : Nat) | meth (m : MT) (o : E) (es : List E)
  | pop (i : Nat) | app (i : Nat) (e : E) | rvs (i : Nat)
  | lc (elt : E) (tg : Tg) (it : It) (cond : Option E) (own : List Nat)
  | lc2 (elt : E) (tg : Tg) (it : It) (tg2 : Tg) (it2 : It) (cond : Option E) (own own2 : List Nat)
  | sc (elt : E) (tg : Tg) (it : It) (cond : Option E) (own : List Nat)
  | ofR (b : BI) (it : It)
inductive It where
  | seq (e : E) | rng (es : List E) | zip (a b : E) | enum (a : E)
end

inductive S where
  | expr (e : E) | asg (t : Tg) (e : E) | asgP (ns : List Nat) (es : List E) | aug (i : Nat) (o : BOp) (e : E)
  | setI (i : Nat) (k e : E) | augI (i : Nat) (k : E) (o : BOp) (e : E)
  | ife (c : E) (a b : List S) | for (t : Tg) (it : It) (b : List S) | while (c : E) (b : List S)
  | ret (e : E) | retN | raise (c : Nat) (m : Str) | tryAs (b : List S) (c : Nat) (i : Nat) (h : List S) | tryO (b : List S) (c : Nat) (h : List S)
  | pass | brk | cont

/-! ## what a state is -/
inductive Slot where
  | no | sh (d : D) | own (loan : Bool) (xs : List D)
  deriving Inhabited
inductive Val where
  | sh (d : D) | fr (xs : List D) | bor (i : Nat)
abbrev Env := List Slot
def Env.at : Env → Nat → Slot
  | [], _ => .no
  | s :: _, 0 => s
  | _ :: r, n + 1 => Env.at r n
inductive R (α : Type) where
  | ok (a : α) (env : Env) | exc (c : Nat) (env : Env) | bad
def R.bind {α β : Type} (x : R α) (f : α → Env → R β) : R β := match x with
  | .ok a e => f a e
  | .exc c e => .exc c e
  | .bad => .bad
def R.of {α : Type} (o : Option α) (env : Env) : R α := match o with
  | some a => .ok a env
  | none => .bad
inductive Arg where
  | sh (d : D) | loan (xs : List D)
/-- what a call hands back: its value, and what stands in the lists that were lent -/
inductive CR where
  | ok (v : Val) (outs : List (Option (List D))) | exc (c : Nat) (outs : List (Option (List D))) | bad
abbrev Cl := Nat → List Arg → CR
inductive Flow where
  | nxt | brk | cont | ret (v : Val)

structure FD where
  n : Nat
  ps : Nat
  body : List S
structure Pg where
  G : List Str
  fd : List FD
  C : List Str
  cv : List D
  XN : List Str
  /-- how many of these are the program's own -/
  xu : Nat := 0
  gcd : Bool := false
  sub : Nat → Nat → Bool

/-! ## values -/
def rdV : Val → Env → Option D
  | .sh d, _ => some d
  | .fr xs, _ => some (.lst xs)
  | .bor i, env => match env.at i with
    | .own _ xs => some (.lst xs)
    | .sh d => some d
    | .no => none
/-- a value that is to be kept: what is lent to it is not changed any more -/
def shV : Val → Env → Option (D × Env)
  | .sh d, env => some (d, env)
  | .fr xs, env => some (.lst xs, env)
  | .bor i, env => match env.at i with
    | .own false xs => some (.lst xs, env.set i (.sh (.lst xs)))
    | .sh d => some (d, env)
    | _ => none
def shAll : List Val → Env → Option (List D × Env)
  | [], env => some ([], env)
  | v :: vs, env => match shV v env with
    | none => none
    | some (d, env) => match shAll vs env with
      | none => none
      | some (ds, env) => some (d :: ds, env)
def rdAll : List Val → Env → Option (List D)
  | [], _ => some []
  | v :: vs, env => match rdV v env, rdAll vs env with
    | some d, some ds => some (d :: ds)
    | _, _ => none
def argV : Val → Env → Option Arg
  | .sh d, _ => some (.sh d)
  | .fr xs, _ => some (.sh (.lst xs))
  | .bor i, env => match env.at i with
    | .own _ xs => some (.loan xs)
    | .sh d => some (.sh d)
    | .no => none
def argAll : List Val → Env → Option (List Arg)
  | [], _ => some []
  | v :: vs, env => match argV v env, argAll vs env with
    | some d, some ds => some (d :: ds)
    | _, _ => none
def lentTo : List Val → Env → List Nat
  | [], _ => []
  | .bor i :: vs, env => (match env.at i with
    | .own _ _ => i :: lentTo vs env
    | _ => lentTo vs env)
  | _ :: vs, env => lentTo vs env
def backV : List Val → List (Option (List D)) → Env → Env
  | .bor i :: vs, o :: os, env => (match env.at i, o with
    | .own l _, some xs => backV vs os (env.set i (.own l xs))
    | _, _ => backV vs os env)
  | _ :: vs, _ :: os, env => backV vs os env
  | _, _, env => env

def truD : D → Option Bool
  | .non => some false
  | .bl b => some b
  | .int i => some (i != 0)
  | .tup xs => some (!xs.isEmpty)
  | .lst xs => some (!xs.isEmpty)
  | .str x => if x.length ≤ 16777216 then some ((x.length : Int) != 0) else none
  | _ => none

/-! equality as Python has it -/
mutual
def eqD : D → D → Bool
  | .non, .non => true
  | .bl a, .bl b => a == b
  | .bl a, .int b => (if a then 1 else 0) == b
  | .int a, .bl b => a == (if b then 1 else 0)
  | .int a, .int b => a == b
  | .str a, .str b => a == b
  | .tup xs, .tup ys => eqDs xs ys
  | .lst xs, .lst ys => eqDs xs ys
  | _, _ => false
def eqDs : List D → List D → Bool
  | [], [] => true
  | x :: xs, y :: ys => eqD x y && eqDs xs ys
  | _, _ => false
end
/-! none, bools, ints, texts, lists, tuples: what == is told of -/
mutual
def plainD : D → Bool
  | .non => true
  | .bl _ => true
  | .int _ => true
  | .str x => x.cps.all (· < 0x110000)
  | .tup xs => plainDs xs
  | .lst xs => plainDs xs
  | _ => false
def plainDs : List D → Bool
  | [] => true
  | x :: xs => plainD x && plainDs xs
end
mutual
def depD : D → Nat
  | .tup xs => depDs xs + 1
  | .lst xs => depDs xs + 1
  | _ => 0
def depDs : List D → Nat
  | [] => 0
  | x :: xs => max (depD x) (depDs xs)
end
def okD (d : D) : Bool := plainD d && decide (depD d ≤ 60)

def mulOk (i j : Int) : Prop := (i.natAbs < 2 ^ 64 ∨ j.natAbs < 2 ^ 64) ∨ (i.natAbs < 2 ^ 4000 ∧ j.natAbs < 2 ^ 4000)
instance (i j : Int) : Decidable (mulOk i j) := by unfold mulOk; infer_instance

def catD {α : Type} (xs ys : List α) : Option (List α) := if xs.length + ys.length ≤ 16777216 then some (xs ++ ys) else none
def repD {α : Type} (xs : List α) (k : Int) : List α := (List.replicate k.toNat xs).flatten
def binV : BOp → D → D → Option Val
  | .add, .int i, .int j => some (.sh (.int (i + j)))
  | .add, .tup xs, .tup ys => (catD xs ys).map fun z => .sh (.tup z)
  | .add, .lst xs, .lst ys => (catD xs ys).map fun z => .fr z
  | .add, .str x, .str y => if x.length + y.length ≤ 16777216 then some (.sh (.str (x ++ y))) else none
  | .sub, .int i, .int j => some (.sh (.int (i - j)))
  | .mul, .int i, .int j => if mulOk i j then some (.sh (.int (i * j))) else none
  | .mul, .tup xs, .int k => if (-1000 ≤ k ∧ k ≤ 1000) ∧ xs.length ≤ 1000 then some (.sh (.tup (repD xs k))) else none
  | .mul, .lst xs, .int k => if -(2 ^ 63) ≤ k ∧ k < 2 ^ 63 ∧ xs.length * k.toNat ≤ 16777216 then some (.fr (repD xs k)) else none
  | .fdiv, .int i, .int j => if j ≠ 0 ∧ j.natAbs < 2 ^ 4000 then some (.sh (.int (i.fdiv j))) else none
  | .mod, .int i, .int j => if j ≠ 0 then some (.sh (.int (i.fmod j))) else none
  | .pow, .int i, .int j => if 0 ≤ j ∧ j ≤ 1000000 ∧ i.natAbs < 2 ^ 64 then some (.sh (.int (i ^ j.toNat))) else none
  | .shl, .int i, .int j => if 0 ≤ j ∧ j ≤ 1000000 ∧ i.natAbs < 2 ^ 64 then some (.sh (.int (i * 2 ^ j.toNat))) else none
  | .shr, .int i, .int j => if 0 ≤ j then some (.sh (.int (i / 2 ^ j.toNat))) else none
  | .band, .int i, .int j => some (.sh (.int (Builtin.bitAnd i j)))
  | .bor, .int i, .int j => some (.sh (.int (Builtin.bitOr i j)))
  | _, _, _ => none

/-! ## the order -/
mutual
def toPy : D → PyData
  | .non => .none
  | .bl b => .bool b
  | .int i => .int i
  | .str x => .str x
  | .tup xs => .tuple (toPys xs)
  | .lst xs => .list (toPys xs)
  | _ => .none
def toPys : List D → List PyData
  | [] => []
  | x :: xs => toPy x :: toPys xs
end
def ltD (a b : D) : Bool := PySem.W.dataLt (toPy a) (toPy b)
def alkD (a b : D) : Bool := PySem.W.alike (toPy a) (toPy b)
def ordV (a b : D) (k : Bool) : Option Bool := if okD a && okD b && alkD a b then some k else none
def nonD : D → Bool
  | .non => true
  | _ => false
def netD : D → Bool
  | .tup (_ :: _) => true
  | _ => false
def tupD : D → Bool
  | .tup _ => true
  | _ => false
/-- items that may be compared with one another -/
def alkL (xs : List D) : Bool := xs.all fun x => okD x && !nonD x && xs.all (alkD x)
def bestD (f : D → D → Bool) : List D → Option D
  | [] => none
  | x :: r => some (r.foldl (fun a y => if f a y then y else a) x)
def maxL (xs : List D) : Option D := if alkL xs then bestD ltD xs else none
def minL (xs : List D) : Option D := if alkL xs then bestD (fun a y => ltD y a) xs else none
def sortL (xs : List D) : Option (List D) := if alkL xs && (xs.all netD || xs.all fun x => !tupD x) then some (xs.mergeSort (PySem.W.dataLe false toPy)) else none

def inD (x : D) (ys : List D) : Bool := ys.any fun y => eqD y x
def elsD : D → Option (List D)
  | .tup xs => some xs
  | .lst xs => some xs
  | .ro xs => some xs
  | _ => none
def cmpV : COp → D → D → Option Bool
  | .eq, a, b => if okD a && okD b then some (eqD a b) else none
  | .ne, a, b => if okD a && okD b then some (!eqD a b) else none
  | .lt, .int a, .int b => some (decide (a < b))
  | .gt, .int a, .int b => some (decide (b < a))
  | .le, .int a, .int b => some (decide (a ≤ b))
  | .ge, .int a, .int b => some (decide (b ≤ a))
  | .lt, .tup xs, .tup ys => ordV (.tup xs) (.tup ys) (ltD (.tup xs) (.tup ys))
  | .gt, .tup xs, .tup ys => ordV (.tup xs) (.tup ys) (ltD (.tup ys) (.tup xs))
  | .le, .tup xs, .tup ys => ordV (.tup xs) (.tup ys) (!ltD (.tup ys) (.tup xs))
  | .ge, .tup xs, .tup ys => ordV (.tup xs) (.tup ys) (!ltD (.tup xs) (.tup ys))
  | .lt, .lst xs, .lst ys => ordV (.lst xs) (.lst ys) (ltD (.lst xs) (.lst ys))
  | .gt, .lst xs, .lst ys => ordV (.lst xs) (.lst ys) (ltD (.lst ys) (.lst xs))
  | .le, .lst xs, .lst ys => ordV (.lst xs) (.lst ys) (!ltD (.lst ys) (.lst xs))
  | .ge, .lst xs, .lst ys => ordV (.lst xs) (.lst ys) (!ltD (.lst xs) (.lst ys))
  | .isIn, x, .tup ys => if okD x && okD (.tup ys) then some (inD x ys) else none
  | .isIn, x, .lst ys => if okD x && okD (.lst ys) then some (inD x ys) else none
  | .notIn, x, .tup ys => if okD x && okD (.tup ys) then some (!inD x ys) else none
  | .notIn, x, .lst ys => if okD x && okD (.lst ys) then some (!inD x ys) else none
  | _, _, _ => none

def ixP (n : Nat) (i : Int) : Option Nat := if 0 ≤ i then (if i < n then some i.toNat else none) else if -(n : Int) ≤ i then some (i + n).toNat else none
def ixL {α : Type} (xs : List α) (i : Int) : Option α := (ixP xs.length i).bind fun j => xs[j]?
def idxV : D → D → Option D
  | .tup xs, .int i => ixL xs i
  | .lst xs, .int i => ixL xs i
  | .ro xs, .int i => ixL xs i
  | _, _ => none
def clipP (n d : Nat) : Option Int → Nat
  | none => d
  | some v => if v < 0 then (v + n).toNat else min v.toNat n
def cutL {α : Type} (xs : List α) (lo hi : Option Int) : List α := (xs.drop (clipP xs.length 0 lo)).take (clipP xs.length xs.length hi - clipP xs.length 0 lo)
def slV : D → Option Int → Option Int → Option Val
  | .tup xs, lo, hi => some (.sh (.tup (cutL xs lo hi)))
  | .lst xs, lo, hi => some (.fr (cutL xs lo hi))
  | _, _, _ => none
def revV : D → Option Val
  | .tup xs => some (.sh (.tup xs.reverse))
  | .lst xs => some (.fr xs.reverse)
  | _ => none

def intsOf : List D → Option (List Int)
  | [] => some []
  | .int i :: r => (intsOf r).map (i :: ·)
  | _ => none
def blsOf : List D → Option (List Bool)
  | [] => some []
  | .bl i :: r => (blsOf r).map (i :: ·)
  | _ => none
def maxI : List Int → Option Int
  | [] => none
  | x :: xs => some (xs.foldl max x)
def minI : List Int → Option Int
  | [] => none
  | x :: xs => some (xs.foldl min x)
def biV : BI → List D → Option Val
  | .len, [.tup xs] => some (.sh (.int xs.length))
  | .len, [.lst xs] => some (.sh (.int xs.length))
  | .len, [.ro xs] => some (.sh (.int xs.length))
  | .int, [.int i] => some (.sh (.int i))
  | .int, [.bl b] => some (.sh (.int (if b then 1 else 0)))
  | .abs, [.int i] => some (.sh (.int i.natAbs))
  | .min, [.int i, .int j] => some (.sh (.int (min i j)))
  | .max, [.int i, .int j] => some (.sh (.int (max i j)))
  | .min, [.int i, .int j, .int k] => some (.sh (.int (min (min i j) k)))
  | .max, [.int i, .int j, .int k] => some (.sh (.int (max (max i j) k)))
  | .sum, [.lst xs] => (intsOf xs).map fun ns => .sh (.int ns.sum)
  | .sum, [.tup xs] => (intsOf xs).map fun ns => .sh (.int ns.sum)
  | .max, [.lst xs] => (maxL xs).map .sh
  | .min, [.lst xs] => (minL xs).map .sh
  | .max, [.tup xs] => (maxL xs).map .sh
  | .min, [.tup xs] => (minL xs).map .sh
  | .sorted, [.lst xs] => (sortL xs).map .fr
  | .sorted, [.tup xs] => (sortL xs).map .fr
  | .gcd, [.int i, .int j] => some (.sh (.int (Int.gcd i j)))
  | .tuple, [.lst xs] => some (.sh (.tup xs))
  | .tuple, [.tup xs] => some (.sh (.tup xs))
  | .list, [.tup xs] => some (.fr xs)
  | .list, [.lst xs] => some (.fr xs)
  | .any, [.lst xs] => (blsOf xs).map fun bs => .sh (.bl (bs.any id))
  | .all, [.lst xs] => (blsOf xs).map fun bs => .sh (.bl (bs.all id))
  | _, _ => none
/-! sorted(set(..)): each thing once, ascending -/
def ins {α : Type} (lt : α → α → Bool) (x : α) : List α → List α
  | [] => [x]
  | y :: ys => if lt x y then x :: y :: ys else if lt y x then y :: ins lt x ys else y :: ys
def us {α : Type} (lt : α → α → Bool) (xs : List α) : List α := xs.foldr (ins lt) []
def ltI (a b : Int) : Bool := decide (a < b)
def ltW (a b : List Int) : Bool := decide (a < b)
def wordsOf : List D → Option (List (List Int))
  | [] => some []
  | .tup xs :: r => (match intsOf xs, wordsOf r with
    | some w, some ws => some (w :: ws)
    | _, _ => none)
  | _ => none
def usL (xs : List D) : Option (List D) := match intsOf xs with
  | some ns => if ns.length < 64 then some ((us ltI ns).map .int) else none
  | none => (match wordsOf xs with
    | some ws => if ws.length < 64 ∧ (ws.all fun w => !w.isEmpty) = true then some ((us ltW ws).map fun w => .tup (w.map .int)) else none
    | none => none)
def ofV : BI → D → Option Val
  | .sorted, .lst xs => (usL xs).map .fr
  | .sorted, .tup xs => (usL xs).map .fr
  | _, _ => none
def isiD : TY → D → Option Bool
  | .bool, .bl _ => some true
  | .int, .bl _ => some true
  | .int, .int _ => some true
  | .str, .str _ => some true
  | .tuple, .tup _ => some true
  | .list, .lst _ => some true
  | _, .ro _ => none
  | _, .set _ => none
  | _, .exn _ => none
  | _, _ => some false
def methV : MT → D → List D → Option Val
  | .count, .tup xs, [x] => if okD (.tup xs) && okD x then some (.sh (.int (xs.countP fun y => eqD y x : Nat))) else none
  | .count, .lst xs, [x] => if okD (.lst xs) && okD x then some (.sh (.int (xs.countP fun y => eqD y x : Nat))) else none
  | .index, .lst xs, [x] => if okD (.lst xs) && okD x then (xs.findIdx? fun y => eqD y x).map fun j => .sh (.int j) else none
  | .index, .tup xs, [x] => if okD (.tup xs) && okD x then (xs.findIdx? fun y => eqD y x).map fun j => .sh (.int j) else none
  | _, _, _ => none

/-! ## loops -/
structure Src where
  xs : List D
  lock : Option (Nat × Bool)
open Classical in
/-- the list that is walked stands as it stood -/
noncomputable def Src.held (s : Src) (env : Env) : Bool := match s.lock with
  | none => true
  | some (i, l) => match env.at i with
    | .own m ys => m == l && decide (ys = s.xs)
    | _ => false
def forL (ok : Env → Bool) (step : D → Env → R Flow) : List D → Env → R Flow
  | [], env => if ok env then .ok .nxt env else .bad
  | d :: ds, env => if ok env then (step d env).bind fun f env => (match f with
    | .nxt => forL ok step ds env
    | .cont => forL ok step ds env
    | .brk => .ok .nxt env
    | .ret v => .ok (.ret v) env) else .bad
def compL (ok : Env → Bool) (turn : D → Env → R (Option D)) : List D → Env → List D → R (List D)
  | [], env, acc => if ok env then .ok acc env else .bad
  | d :: ds, env, acc => if ok env then (match turn d env with
    | .ok (some y) env => if acc.length < 16777216 then compL ok turn ds env (acc ++ [y]) else .bad
    | .ok none env => compL ok turn ds env acc
    | _ => .bad) else .bad
def whileN (cond : Env → R Bool) (body : Env → R Flow) : Nat → Env → Option (R Flow)
  | 0, _ => none
  | n + 1, env => match cond env with
    | .ok false env => some (.ok .nxt env)
    | .ok true env => (match body env with
      | .ok .nxt env => whileN cond body n env
      | .ok .cont env => whileN cond body n env
      | .ok .brk env => some (.ok .nxt env)
      | .ok (.ret v) env => some (.ok (.ret v) env)
      | .exc c env => some (.exc c env)
      | .bad => some .bad)
    | .exc c env => some (.exc c env)
    | .bad => some .bad
open Classical in
noncomputable def whileR (cond : Env → R Bool) (body : Env → R Flow) (env : Env) : R Flow :=
  if h : ∃ n r, whileN cond body n env = some r then (Classical.choose (Classical.choose_spec h)) else .bad

def rangeL (lo : Int) : Nat → List D
  | 0 => []
  | n + 1 => .int lo :: rangeL (lo + 1) n
def rngD : List D → Option (List D)
  | [.int n] => if -(2 ^ 62) ≤ n ∧ n < 2 ^ 62 then some (rangeL 0 n.toNat) else none
  | [.int a, .int b] => if -(2 ^ 62) ≤ a ∧ a < 2 ^ 62 ∧ -(2 ^ 62) ≤ b ∧ b < 2 ^ 62 then some (rangeL a (b - a).toNat) else none
  | _ => none
def zipD (xs ys : List D) : List D := (xs.zip ys).map fun p => .tup [p.1, p.2]
def enumD : Nat → List D → List D
  | _, [] => []
  | k, x :: xs => .tup [.int k, x] :: enumD (k + 1) xs

def setD (env : Env) : List Nat → List D → Env
  | i :: is, d :: ds => setD (env.set i (.sh d)) is ds
  | _, _ => env
/-- a slot that may be stored anew: no lent list stands there -/
def Env.mayV (env : Env) (i : Nat) : Bool := match env.at i with
  | .own true _ => false
  | _ => true
def bindD (t : Tg) (d : D) (env : Env) : Option Env := match t with
  | .nm i => if env.mayV i then some (env.set i (.sh d)) else none
  | .tup ns => match d with
    | .tup ds => if ds.length = ns.length ∧ ns.all env.mayV then some (setD env ns ds) else none
    | _ => none
def bindV (t : Tg) (v : Val) (env : Env) : Option Env := match t, v with
  | .nm i, .fr xs => if env.mayV i then some (env.set i (.own false xs)) else none
  | t, v => match shV v env with
    | some (d, env) => bindD t d env
    | none => none
def wipeE : List Nat → Env → Env
  | [], env => env
  | i :: is, env => (wipeE is env).set i .no
def restE : List Nat → Env → Env → Env
  | [], _, env => env
  | i :: is, env0, env => (restE is env0 env).set i (env0.at i)
end Lw
set_option linter.all false
set_option Elab.async false
set_option maxRecDepth 100000
set_option maxHeartbeats 4000000
namespace Lw
open PySem PySem.Spec
/-! # each thing once, ascending -/
section
variable {α : Type} {lt : α → α → Bool}
theorem mem_ins (tri : ∀ a b, lt a b = false → lt b a = false → a = b) {x y : α} : ∀ {ys : List α}, y ∈ ins lt x ys ↔ y = x ∨ y ∈ ys
  | [] => by simp [ins]
  | z :: ys => by
    simp only [ins]
    split
    · simp
    · split
      · rw [List.mem_cons, mem_ins tri, List.mem_cons]
        constructor
        · rintro (h | h | h)
          · exact .inr (.inl h)
          · exact .inl h
          · exact .inr (.inr h)
        · rintro (h | h | h)
          · exact .inr (.inl h)
          · exact .inl h
          · exact .inr (.inr h)
      · rename_i h1 h2
        have e := tri x z (by simpa using h1) (by simpa using h2)
        subst e
        simp
theorem asc_ins (tr : ∀ a b c, lt a b = true → lt b c = true → lt a c = true) (tri : ∀ a b, lt a b = false → lt b a = false → a = b) {x : α} : ∀ {ys : List α}, ys.Pairwise (fun a b => lt a b = true) → (ins lt x ys).Pairwise (fun a b => lt a b = true)
  | [], _ => by simp [ins]
  | z :: ys, h => by
    have h' := List.pairwise_cons.mp h
    simp only [ins]
    split
    · rename_i h1
      exact List.pairwise_cons.mpr ⟨fun y hy => (List.mem_cons.mp hy).elim (fun e => e ▸ h1) fun e => tr _ _ _ h1 (h'.1 y e), h⟩
    · split
      · rename_i h1 h2
        refine List.pairwise_cons.mpr ⟨fun y hy => ?_, asc_ins tr tri h'.2⟩
        rcases (mem_ins tri).mp hy with e | e
        · exact e ▸ h2
        · exact h'.1 y e
      · exact h
theorem mem_us (tri : ∀ a b, lt a b = false → lt b a = false → a = b) {y : α} : ∀ {xs : List α}, y ∈ us lt xs ↔ y ∈ xs
  | [] => by simp [us]
  | x :: xs => by
    show y ∈ ins lt x (us lt xs) ↔ _
    rw [mem_ins tri, mem_us tri, List.mem_cons]
theorem asc_us (tr : ∀ a b c, lt a b = true → lt b c = true → lt a c = true) (tri : ∀ a b, lt a b = false → lt b a = false → a = b) : ∀ xs : List α, (us lt xs).Pairwise (fun a b => lt a b = true)
  | [] => .nil
  | x :: xs => asc_ins tr tri (asc_us tr tri xs)
theorem asc_one (irr : ∀ a, lt a a = false) (tr : ∀ a b c, lt a b = true → lt b c = true → lt a c = true) : ∀ {as bs : List α}, as.Pairwise (fun a b => lt a b = true) → bs.Pairwise (fun a b => lt a b = true) → (∀ x, x ∈ as ↔ x ∈ bs) → as = bs
  | [], [], _, _, _ => rfl
  | [], b :: bs, _, _, h => absurd ((h b).mpr List.mem_cons_self) (by simp)
  | a :: as, [], _, _, h => absurd ((h a).mp List.mem_cons_self) (by simp)
  | a :: as, b :: bs, pa, pb, h => by
    have pa' := List.pairwise_cons.mp pa
    have pb' := List.pairwise_cons.mp pb
    have no : ∀ x, lt x x = true → False := fun x z => by rw [irr] at z; cases z
    have e : a = b := by
      rcases List.mem_cons.mp ((h a).mp List.mem_cons_self) with e | m1
      · exact e
      · rcases List.mem_cons.mp ((h b).mpr List.mem_cons_self) with e | m2
        · exact e.symm
        · exact (no a (tr _ _ _ (pa'.1 b m2) (pb'.1 a m1))).elim
    subst e
    rw [asc_one irr tr pa'.2 pb'.2 fun x => ⟨fun hx => ?_, fun hx => ?_⟩]
    · rcases List.mem_cons.mp ((h x).mp (List.mem_cons_of_mem _ hx)) with e | m
      · exact (no a (e ▸ pa'.1 x hx)).elim
      · exact m
    · rcases List.mem_cons.mp ((h x).mpr (List.mem_cons_of_mem _ hx)) with e | m
      · exact (no a (e ▸ pb'.1 x hx)).elim
      · exact m
end
theorem ltI_tr (a b c : Int) (h : ltI a b = true) (g : ltI b c = true) : ltI a c = true := by simp only [ltI, decide_eq_true_eq] at *; omega
theorem ltI_tri (a b : Int) (h : ltI a b = false) (g : ltI b a = false) : a = b := by simp only [ltI, decide_eq_false_iff_not] at *; omega
theorem ltI_irr (a : Int) : ltI a a = false := by simp [ltI]
theorem ltW_tr (a b c : List Int) (h : ltW a b = true) (g : ltW b c = true) : ltW a c = true := by
  simp only [ltW, decide_eq_true_eq] at *
  exact List.lt_trans h g
theorem ltW_tri (a b : List Int) (h : ltW a b = false) (g : ltW b a = false) : a = b := by
  simp only [ltW, decide_eq_false_iff_not] at *
  exact List.le_antisymm g h
theorem ltW_irr (a : List Int) : ltW a a = false := by simp [ltW, List.lt_irrefl]
/-! ## the order of data, of words -/
abbrev encW (w : List Int) : PySem.PyData := .tuple (w.map .int)
theorem encW_lt (a b : List Int) : PySem.W.dataLt (encW a) (encW b) = ltW a b := PySem.W.dataLt_ints a b
theorem encW_le (a b : List Int) : PySem.W.dataLe false encW a b = !ltW b a := by rw [PySem.W.dataLe_eq]; exact congrArg not (encW_lt b a)
end Lw
set_option linter.all false
set_option Elab.async false
namespace Lw
open PySem

/-! ## the interpreter -/
def bind2 (x : R Val) (k : Val → Env → R Val) (f : D → D → Option Val) : R Val :=
  x.bind fun v e1 => (k v e1).bind fun w e2 => R.of (do let a ← rdV v e2; let b ← rdV w e2; f a b) e2
/-- an operation on the value of one expression, two, some -/
def op1 (x : R Val) (f : D → Option Val) : R Val := x.bind fun v e => R.of ((rdV v e).bind f) e
def op2 (x : R Val) (y : Env → R Val) (f : D → D → Option Val) : R Val :=
  x.bind fun v e1 => (y e1).bind fun w e2 => R.of ((rdV v e2).bind fun a => (rdV w e2).bind fun b => f a b) e2
def opN (x : R (List Val)) (f : List D → Option Val) : R Val := x.bind fun vs e => R.of ((rdAll vs e).bind f) e
def truR (x : R Val) : R Bool := x.bind fun v e => R.of ((rdV v e).bind truD) e
def blV (b : Option Bool) : Option Val := b.map fun k => .sh (.bl k)
def intD : D → Option Int
  | .int i => some i
  | _ => none
/-- an int, where a slice has one -/
def asInt (x : R Val) : R Int := x.bind fun v e => R.of ((rdV v e).bind intD) e
def keepAll (x : R (List Val)) (f : List D → Option Val) : R Val := x.bind fun vs e => match shAll vs e with
  | some (ds, e) => R.of (f ds) e
  | none => .bad
def tupV (ds : List D) : Option Val := if ds.length ≤ 16777216 then some (.sh (.tup ds)) else none
def lstV (ds : List D) : Option Val := if ds.length ≤ 16777216 then some (.fr ds) else none
def noDup : List Nat → Bool
  | [] => true
  | x :: xs => !xs.contains x && noDup xs
def callR (cl : Cl) (f : Nat) (x : R (List Val)) : R Val := x.bind fun vs e => match argAll vs e with
  | none => .bad
  | some as => if noDup (lentTo vs e) then (match cl f as with
    | .ok v os => .ok v (backV vs os e)
    | .exc c os => .exc c (backV vs os e)
    | .bad => .bad) else .bad
/-- two tuples, two lists -/
def sameK : D → D → Bool
  | .tup _, .tup _ => true
  | .lst _, .lst _ => true
  | _, _ => false
def methR (m : MT) (v : Val) (d1 : Option D) (x : R (List Val)) : R Val := match d1 with
  | none => .bad
  | some d1 => if sameK d1 d1 then x.bind fun vs e2 => R.of ((rdV v e2).bind fun d => if sameK d1 d then (rdAll vs e2).bind fun ds => methV m d ds else none) e2 else .bad
def popR (i : Nat) (env : Env) : R Val := match env.at i with
  | .own l xs => (match xs.getLast? with
    | some y => .ok (.sh y) (env.set i (.own l xs.dropLast))
    | none => .bad)
  | _ => .bad
def appR (i : Nat) (env : Env) (x : R Val) : R Val := match env.at i with
  | .own _ _ => x.bind fun v e => (match shV v e with
    | some (d, e) => (match e.at i with
      | .own l xs => if xs.length < 16777216 then .ok (.sh .non) (e.set i (.own l (xs ++ [d]))) else .bad
      | _ => .bad)
    | none => .bad)
  | _ => .bad
def rvsR (i : Nat) (env : Env) : R Val := match env.at i with
  | .own l xs => .ok (.sh .non) (env.set i (.own l xs.reverse))
  | _ => .bad
def srcOf (v : Val) (e : Env) : Option Src := match v with
  | .sh d => (elsD d).map fun xs => ⟨xs, none⟩
  | .fr xs => some ⟨xs, none⟩
  | .bor i => match e.at i with
    | .own l xs => some ⟨xs, some (i, l)⟩
    | .sh d => (elsD d).map fun xs => ⟨xs, none⟩
    | .no => none
/-- one turn of a comprehension -/
def turnC (own : List Nat) (tg : Tg) (cond : Option (Env → R Bool)) (elt : Env → R Val) (d : D) (env : Env) : R (Option D) :=
  match bindD tg d (wipeE own env) with
  | none => .bad
  | some e1 =>
    let go := fun e2 : Env => (elt e2).bind fun v e3 => match shV v e3 with
      | some (y, e4) => R.ok (some y) (restE own env e4)
      | none => .bad
    match cond with
    | none => go e1
    | some c => (c e1).bind fun k e2 => if k then go e2 else .ok none (restE own env e2)
noncomputable def lcR (own : List Nat) (tg : Tg) (cond : Option (Env → R Bool)) (elt : Env → R Val) (x : R Src) : R Val :=
  x.bind fun s e => (compL s.held (turnC own tg cond elt) s.xs e []).bind fun ds e => .ok (.fr ds) e

/-- two walks, one in the other -/
def comp2 (ok : Env → Bool) (turn : D → Env → List D → R (List D)) : List D → Env → List D → R (List D)
  | [], env, acc => if ok env then .ok acc env else .bad
  | d :: ds, env, acc => if ok env then (match turn d env acc with
    | .ok acc env => comp2 ok turn ds env acc
    | _ => .bad) else .bad
noncomputable def turn2 (own own2 : List Nat) (tg tg2 : Tg) (cond : Option (Env → R Bool)) (elt : Env → R Val) (src2 : Env → R Src) (d : D) (env : Env) (acc : List D) : R (List D) :=
  match bindD tg d (wipeE own env) with
  | none => .bad
  | some e1 => (match src2 e1 with
    | .ok s2 e2 => (match compL s2.held (turnC own2 tg2 cond elt) s2.xs e2 acc with
      | .ok acc e3 => .ok acc (restE own env e3)
      | _ => .bad)
    | _ => .bad)
noncomputable def lc2R (own own2 : List Nat) (tg tg2 : Tg) (cond : Option (Env → R Bool)) (elt : Env → R Val) (src2 : Env → R Src) (x : R Src) : R Val :=
  x.bind fun s e => (comp2 s.held (turn2 own own2 tg tg2 cond elt src2) s.xs e []).bind fun ds e => .ok (.fr ds) e

def andK (v : Val) (last : Bool) (k : Env → R Val) (e : Env) : R Val := if last then .ok v e else match (rdV v e).bind truD with
  | some true => k e
  | some false => .ok v e
  | none => .bad
def orK (v : Val) (last : Bool) (k : Env → R Val) (e : Env) : R Val := if last then .ok v e else match (rdV v e).bind truD with
  | some true => .ok v e
  | some false => k e
  | none => .bad

mutual
noncomputable def evE (p : Pg) (cl : Cl) : E → Env → R Val
  | .var i, env => match env.at i with
    | .sh d => .ok (.sh d) env
    | .own _ _ => .ok (.bor i) env
    | .no => .bad
  | .int i, env => .ok (.sh (.int i)) env
  | .bl b, env => .ok (.sh (.bl b)) env
  | .non, env => .ok (.sh .non) env
  | .str x, env => .ok (.sh (.str x)) env
  | .glob c, env => R.of ((p.cv[c]?).map .sh) env
  | .tup es, env => keepAll (evEs p cl es env) tupV
  | .lst es, env => keepAll (evEs p cl es env) lstV
  | .bin o a b, env => op2 (evE p cl a env) (evE p cl b) (binV o)
  | .neg a, env => op1 (evE p cl a env) fun d => (intD d).map fun i => .sh (.int (-i))
  | .not a, env => op1 (evE p cl a env) fun d => (truD d).map fun k => .sh (.bl (!k))
  | .and es, env => evAnd p cl es env
  | .or es, env => evOr p cl es env
  | .ife c a b, env => (truR (evE p cl c env)).bind fun k e => if k then evE p cl a e else evE p cl b e
  | .cmp o a b, env => op2 (evE p cl a env) (evE p cl b) fun x y => blV (cmpV o x y)
  | .chn o o' a b c, env => (evE p cl a env).bind fun va e1 => (evE p cl b e1).bind fun vb e2 =>
      match (rdV va e2).bind fun x => (rdV vb e2).bind fun y => cmpV o x y with
      | none => .bad
      | some false => .ok (.sh (.bl false)) e2
      | some true => (evE p cl c e2).bind fun vc e3 => R.of ((rdV vb e3).bind fun y => (rdV vc e3).bind fun z => blV (cmpV o' y z)) e3
  | .isN a, env => op1 (evE p cl a env) fun d => match d with
      | .non => some (.sh (.bl true))
      | _ => some (.sh (.bl false))
  | .notN a, env => op1 (evE p cl a env) fun d => match d with
      | .non => some (.sh (.bl false))
      | _ => some (.sh (.bl true))
  | .idx a i, env => op2 (evE p cl a env) (evE p cl i) fun x y => (idxV x y).map .sh
  | .sl a lo hi, env => (evE p cl a env).bind fun v e1 => (evO p cl lo e1).bind fun l e2 => (evO p cl hi e2).bind fun h e3 => R.of ((rdV v e3).bind fun x => slV x l h) e3
  | .rev a, env => op1 (evE p cl a env) revV
  | .call f es, env => callR cl f (evEs p cl es env)
  | .bi b es, env => opN (evEs p cl es env) (biV b)
  | .isi a t, env => op1 (evE p cl a env) fun d => (isiD t d).map fun k => .sh (.bl k)
  | .isx i c, env => match env.at i with
    | .sh (.exn c') => .ok (.sh (.bl (p.sub c' c))) env
    | _ => .bad
  | .meth m o es, env => (evE p cl o env).bind fun v e1 => methR m v (rdV v e1) (evEs p cl es e1)
  | .pop i, env => popR i env
  | .app i e, env => appR i env (evE p cl e env)
  | .rvs i, env => rvsR i env
  | .lc elt tg it cond own, env => lcR own tg (evC p cl cond) (evE p cl elt) (evI p cl it env)
  | .lc2 elt tg it tg2 it2 cond own own2, env => lc2R own own2 tg tg2 (evC p cl cond) (evE p cl elt) (evI p cl it2) (evI p cl it env)
  | .sc _ _ _ _ _, _ => .bad
  | .ofR b (.seq a), env => op1 (evE p cl a env) (ofV b)
  | .ofR _ _, _ => .bad
noncomputable def evC (p : Pg) (cl : Cl) : Option E → Option (Env → R Bool)
  | none => none
  | some c => some fun env => truR (evE p cl c env)
noncomputable def evO (p : Pg) (cl : Cl) : Option E → Env → R (Option Int)
  | none, env => .ok none env
  | some c, env => (asInt (evE p cl c env)).bind fun i e => .ok (some i) e
noncomputable def evEs (p : Pg) (cl : Cl) : List E → Env → R (List Val)
  | [], env => .ok [] env
  | e :: es, env => (evE p cl e env).bind fun v e1 => (evEs p cl es e1).bind fun vs e2 => .ok (v :: vs) e2
noncomputable def evAnd (p : Pg) (cl : Cl) : List E → Env → R Val
  | [], _ => .bad
  | e :: es, env => (evE p cl e env).bind fun v e1 => andK v es.isEmpty (evAnd p cl es) e1
noncomputable def evOr (p : Pg) (cl : Cl) : List E → Env → R Val
  | [], _ => .bad
  | e :: es, env => (evE p cl e env).bind fun v e1 => orK v es.isEmpty (evOr p cl es) e1
noncomputable def evI (p : Pg) (cl : Cl) : It → Env → R Src
  | .seq e, env => (evE p cl e env).bind fun v e1 => R.of (srcOf v e1) e1
  | .rng es, env => (evEs p cl es env).bind fun vs e1 => R.of (((rdAll vs e1).bind rngD).map fun xs => ⟨xs, none⟩) e1
  | .zip a b, env => (evE p cl a env).bind fun v e1 => (evE p cl b e1).bind fun w e2 => (match v, w with
      | .sh (.tup xs), .sh (.tup ys) => .ok ⟨zipD xs ys, none⟩ e2
      | _, _ => .bad)
  | .enum a, env => (evE p cl a env).bind fun v e1 => (match srcOf v e1 with
      | some ⟨xs, none⟩ => .ok ⟨enumD 0 xs, none⟩ e1
      | _ => .bad)
end
end Lw
set_option linter.all false
set_option Elab.async false
namespace Lw
open PySem

/-! ## statements -/
def asgR (t : Tg) (x : R Val) : R Flow := x.bind fun v e => match bindV t v e with
  | some e => .ok .nxt e
  | none => .bad
def asgPR (ns : List Nat) (x : R (List Val)) : R Flow := x.bind fun vs e => match shAll vs e with
  | some (ds, e) => if ds.length = ns.length ∧ ns.all e.mayV then .ok .nxt (setD e ns ds) else .bad
  | none => .bad
/-- x op= y, where x is no list -/
def augV : BOp → D → D → Option D
  | .add, .int i, .int j => some (.int (i + j))
  | .add, .tup xs, .tup ys => (catD xs ys).map .tup
  | .add, .str x, .str y => if x.length + y.length ≤ 16777216 then some (.str (x ++ y)) else none
  | .sub, .int i, .int j => some (.int (i - j))
  | .mul, .int i, .int j => if mulOk i j then some (.int (i * j)) else none
  | .fdiv, .int i, .int j => if 0 < j ∧ j.natAbs < 2 ^ 4000 then some (.int (i / j)) else none
  | .mod, .int i, .int j => if 0 < j then some (.int (i % j)) else none
  | _, _, _ => none
def augR' (i : Nat) (o : BOp) (env : Env) (y : Env → R Val) : R Flow := match env.at i with
  | .sh d => (y env).bind fun v e => (match (rdV v e).bind fun b => augV o d b with
    | some w => if e.mayV i then .ok .nxt (e.set i (.sh w)) else .bad
    | none => .bad)
  | .own _ _ => if o = .add then (y env).bind fun v e => (match rdV v e, e.at i with
    | some (.lst ys), .own l xs => if xs.length + ys.length ≤ 16777216 then .ok .nxt (e.set i (.own l (xs ++ ys))) else .bad
    | _, _ => .bad) else .bad
  | .no => .bad
def setIR (i : Nat) (k : D) (d : D) (env : Env) : R Flow := match env.at i, k with
  | .own l xs, .int j => (match ixP xs.length j with
    | some n => .ok .nxt (env.set i (.own l (xs.set n d)))
    | none => .bad)
  | _, _ => .bad

/-- a list of one's own that a for walks is not changed any more -/
def keepS (s : Src) (e : Env) : Src × Env := match s.lock with
  | some (i, false) => (⟨s.xs, none⟩, e.set i (.sh (.lst s.xs)))
  | _ => (s, e)
noncomputable def forR (t : Tg) (se : Src × Env) (body : Env → R Flow) : R Flow := forL se.1.held (fun d e => match bindD t d e with
  | some e => body e
  | none => .bad) se.1.xs se.2

/-! ## what an except suite tells -/
mutual
def evX (p : Pg) (c' : Nat) : E → Env → Option D
  | .isx _ c, _ => if c < p.XN.length then some (.bl (p.sub c' c)) else none
  | .bl b, _ => some (.bl b)
  | .non, _ => some .non
  | .var j, env => (match env.at j with
    | .sh d => some d
    | _ => none)
  | .not e, env => (match evX p c' e env with
    | some (.bl b) => some (.bl (!b))
    | _ => none)
  | .and es, env => evXa p c' es env
  | .or es, env => evXo p c' es env
  | _, _ => none
def evXa (p : Pg) (c' : Nat) : List E → Env → Option D
  | [], _ => none
  | e :: es, env => if es.isEmpty then evX p c' e env else (match evX p c' e env with
    | some (.bl true) => evXa p c' es env
    | some (.bl false) => some (.bl false)
    | _ => none)
def evXo (p : Pg) (c' : Nat) : List E → Env → Option D
  | [], _ => none
  | e :: es, env => if es.isEmpty then evX p c' e env else (match evX p c' e env with
    | some (.bl true) => some (.bl true)
    | some (.bl false) => evXo p c' es env
    | _ => none)
end
def evH (p : Pg) (c' : Nat) : List S → Env → Option (D × Env)
  | .ret e :: _, env => (evX p c' e env).map fun d => (d, env)
  | .asg (.nm j) e :: ss, env => if env.mayV j then (match evX p c' e env with
    | some d => evH p c' ss (env.set j (.sh d))
    | none => none) else none
  | _, _ => none
def hdR (p : Pg) (c : Nat) (h : List S) (r : R Flow) (slot : Env → Option Env) : R Flow := match r with
  | .exc c' e => if c' < p.xu ∧ c < p.XN.length then (if p.sub c' c then (match (slot e).bind fun e => evH p c' h e with
      | some (d, e2) => .ok (.ret (.sh d)) e2
      | none => .bad) else .exc c' e) else .bad
  | r => r
mutual
noncomputable def evS (p : Pg) (cl : Cl) : S → Env → R Flow
  | .expr e, env => (evE p cl e env).bind fun _ e => .ok .nxt e
  | .asg t e, env => asgR t (evE p cl e env)
  | .asgP ns es, env => asgPR ns (evEs p cl es env)
  | .aug i o e, env => augR' i o env (evE p cl e)
  | .setI i k e, env => (evE p cl e env).bind fun v e1 => match shV v e1 with
      | some (d, e2) => (match e2.at i with
        | .own _ _ => (evE p cl k e2).bind fun w e3 => (match rdV w e3 with
          | some j => setIR i j d e3
          | none => .bad)
        | _ => .bad)
      | none => .bad
  | .augI i k o e, env => (match env.at i with
      | .own _ _ => (evE p cl k env).bind fun w e1 => (match e1.at i with
        | .own _ xs => (match (rdV w e1).bind fun j => (idxV (.lst xs) j).map fun d => (j, d) with
          | some (j, d) => (evE p cl e e1).bind fun v e2 => (match (rdV v e2).bind fun b => augV o d b with
            | some z => setIR i j z e2
            | none => .bad)
          | none => .bad)
        | _ => .bad)
      | _ => .bad)
  | .ife c a b, env => (truR (evE p cl c env)).bind fun k e => if k then evSs p cl a e else evSs p cl b e
  | .for t it b, env => (evI p cl it env).bind fun s e => forR t (keepS s e) (fun e => evSs p cl b e)
  | .while c b, env => whileR (fun e => truR (evE p cl c e)) (fun e => evSs p cl b e) env
  | .ret e, env => (evE p cl e env).bind fun v e => .ok (.ret v) e
  | .retN, env => .ok (.ret (.sh .non)) env
  | .raise c _, env => .exc c env
  | .tryAs b c i h, env => hdR p c h (evSs p cl b env) fun e => if e.mayV i = true ∧ i < e.length then some (e.set i .no) else none
  | .tryO b c h, env => hdR p c h (evSs p cl b env) some
  | .pass, env => .ok .nxt env
  | .brk, env => .ok .brk env
  | .cont, env => .ok .cont env
noncomputable def evSs (p : Pg) (cl : Cl) : List S → Env → R Flow
  | [], env => .ok .nxt env
  | s :: ss, env => (evS p cl s env).bind fun f e => (match f with
      | .nxt => evSs p cl ss e
      | f => .ok f e)
end

/-! ## calls -/
def argS : Arg → Slot
  | .sh d => .sh d
  | .loan xs => .own true xs
def outsOf : Nat → Env → List (Option (List D))
  | 0, _ => []
  | n + 1, [] => none :: outsOf n []
  | n + 1, .own true xs :: r => some xs :: outsOf n r
  | n + 1, _ :: r => none :: outsOf n r
def retV (v : Val) (env : Env) : Option Val := match v with
  | .bor i => (match env.at i with
    | .own false xs => some (.fr xs)
    | .sh d => some (.sh d)
    | _ => none)
  | v => some v
/-- a lent list stands where it stood -/
def keptB : List Arg → Env → Bool
  | [], _ => true
  | .loan _ :: as, .own true _ :: r => keptB as r
  | .loan _ :: _, _ => false
  | .sh _ :: as, _ :: r => keptB as r
  | .sh _ :: _, [] => false
def backR (as : List Arg) (x : R Flow) : CR := match x with
  | .ok (.ret v) e => if keptB as e then (match retV v e with
    | some w => .ok w (outsOf as.length e)
    | none => .bad) else .bad
  | .ok .nxt e => if keptB as e then .ok (.sh .non) (outsOf as.length e) else .bad
  | .ok _ _ => .bad
  | .exc c e => if keptB as e then .exc c (outsOf as.length e) else .bad
  | .bad => .bad
noncomputable def runB (p : Pg) (cl : Cl) (f : FD) (as : List Arg) : CR :=
  if as.length = f.ps ∧ f.ps ≤ f.n then backR as (evSs p cl f.body (as.map argS ++ List.replicate (f.n - f.ps) .no)) else .bad
noncomputable def run (p : Pg) : Nat → Cl
  | 0, _, _ => .bad
  | n + 1, f, as => match p.fd[f]? with
    | some d => runB p (run p n) d as
    | none => .bad
end Lw
set_option linter.all false
set_option Elab.async false
set_option maxRecDepth 100000
namespace Lw
open PySem PySem.Spec L2

/-! ## how data stands in the abstract heap -/
abbrev OS := Addr → Prop
/-- a tuple: tracked as a known object, or of the written part -/
def TupAt (K : PySem.W.Frag) (O : OS) (H : Hp) (a : Addr) (vs : List V) : Prop :=
  (¬ O a ∧ ∃ o, o.dict = none ∧ H a = some (.frz o (.tup vs))) ∨
    ∃ (o : Obj) (its : Array Value) (n : Nat), K.lookup a = some o ∧ o.cls = .type "tuple" ∧ o.dict = none ∧ o.data = .seq its n ∧ its.size ≤ sizeLine ∧ Vals vs its.toList
/-- a list that is only read (the script) -/
def RoAt (K : PySem.W.Frag) (O : OS) (H : Hp) (a : Addr) (vs : List V) : Prop :=
  (¬ O a ∧ ∃ o, H a = some (.frz o (.lst vs))) ∨
    ∃ (o : Obj) (its : Array Value) (n : Nat), K.lookup a = some o ∧ o.cls = .type "list" ∧ o.dict = none ∧ o.data = .seq its n ∧ its.size ≤ sizeLine ∧ Vals vs its.toList
mutual
inductive Rp (K : PySem.W.Frag) (O : OS) (H : Hp) : V → D → Prop
  | non : Rp K O H .non .non
  | bl (b : Bool) : Rp K O H (.bl b) (.bl b)
  | int (i : Int) : Rp K O H (.int i) (.int i)
  | str (x : Str) : Rp K O H (.str x) (.str x)
  | tup {a : Addr} {vs : List V} {ds : List D} : TupAt K O H a vs → RpL K O H vs ds → Rp K O H (.ref a) (.tup ds)
  | lst {a : Addr} {vs : List V} {ds : List D} : ¬ O a → H a = some (.lst vs) → RpL K O H vs ds → Rp K O H (.ref a) (.lst ds)
  | ro {a : Addr} {vs : List V} {ds : List D} : RoAt K O H a vs → RpL K O H vs ds → Rp K O H (.ref a) (.ro ds)
inductive RpL (K : PySem.W.Frag) (O : OS) (H : Hp) : List V → List D → Prop
  | nil : RpL K O H [] []
  | cons {v : V} {vs : List V} {d : D} {ds : List D} : Rp K O H v d → RpL K O H vs ds → RpL K O H (v :: vs) (d :: ds)
end

section
variable {K : PySem.W.Frag} {O O' : OS} {H H' : Hp}
/-- what is kept of the heap, and what may have come to be owned -/
structure Kept (O : OS) (H : Hp) (O' : OS) (H' : Hp) : Prop where
  keep : ∀ a o, ¬ O a → H a = some o → H' a = some o
  own : ∀ a, O' a → O a ∨ H a = none
theorem Kept.refl : Kept O H O H := ⟨fun _ _ _ h => h, fun _ h => .inl h⟩
theorem TupAt.kept {a : Addr} {vs : List V} (k : Kept O H O' H') (h : TupAt K O H a vs) : TupAt K O' H' a vs := by
  rcases h with ⟨h1, o, h2, h3⟩ | h
  · exact .inl ⟨fun z => (k.own a z).elim h1 (fun e => by rw [e] at h3; cases h3), o, h2, k.keep a _ h1 h3⟩
  · exact .inr h
theorem RoAt.kept {a : Addr} {vs : List V} (k : Kept O H O' H') (h : RoAt K O H a vs) : RoAt K O' H' a vs := by
  rcases h with ⟨h1, o, h3⟩ | h
  · exact .inl ⟨fun z => (k.own a z).elim h1 (fun e => by rw [e] at h3; cases h3), o, k.keep a _ h1 h3⟩
  · exact .inr h
mutual
theorem Rp.kept (k : Kept O H O' H') : ∀ {v : V} {d : D}, Rp K O H v d → Rp K O' H' v d
  | _, _, .non => .non
  | _, _, .bl b => .bl b
  | _, _, .int i => .int i
  | _, _, .str x => .str x
  | _, _, .tup h1 h2 => .tup (h1.kept k) (RpL.kept k h2)
  | _, _, .lst h1 h2 h3 => .lst (fun z => (k.own _ z).elim h1 (fun e => by rw [e] at h2; cases h2)) (k.keep _ _ h1 h2) (RpL.kept k h3)
  | _, _, .ro h1 h2 => .ro (h1.kept k) (RpL.kept k h2)
theorem RpL.kept (k : Kept O H O' H') : ∀ {vs : List V} {ds : List D}, RpL K O H vs ds → RpL K O' H' vs ds
  | _, _, .nil => .nil
  | _, _, .cons h1 h2 => .cons (Rp.kept k h1) (RpL.kept k h2)
end
theorem RpL.length : ∀ {vs : List V} {ds : List D}, RpL K O H vs ds → vs.length = ds.length
  | _, _, .nil => rfl
  | _, _, .cons _ h => by rw [List.length_cons, List.length_cons, h.length]
theorem RpL.get : ∀ {vs : List V} {ds : List D} {i : Nat} {d : D}, RpL K O H vs ds → ds[i]? = some d → ∃ v, vs[i]? = some v ∧ Rp K O H v d
  | _, _, _, _, .nil, e => by simp at e
  | _, _, 0, _, .cons r _, e => by simp at e; subst e; exact ⟨_, rfl, r⟩
  | _, _, i + 1, _, .cons _ t, e => by
    obtain ⟨v, h1, h2⟩ := RpL.get (i := i) t (by simpa using e)
    exact ⟨v, by simpa using h1, h2⟩
theorem RpL.getV : ∀ {vs : List V} {ds : List D} {i : Nat} {v : V}, RpL K O H vs ds → vs[i]? = some v → ∃ d, ds[i]? = some d ∧ Rp K O H v d
  | _, _, _, _, .nil, e => by simp at e
  | _, _, 0, _, .cons r _, e => by simp at e; subst e; exact ⟨_, rfl, r⟩
  | _, _, i + 1, _, .cons _ t, e => by
    obtain ⟨v, h1, h2⟩ := RpL.getV (i := i) t (by simpa using e)
    exact ⟨v, by simpa using h1, h2⟩
theorem RpL.append : ∀ {vs ws : List V} {ds es : List D}, RpL K O H vs ds → RpL K O H ws es → RpL K O H (vs ++ ws) (ds ++ es)
  | _, _, _, _, .nil, h => h
  | _, _, _, _, .cons r t, h => .cons r (t.append h)
theorem RpL.take : ∀ {vs : List V} {ds : List D} (n : Nat), RpL K O H vs ds → RpL K O H (vs.take n) (ds.take n)
  | _, _, 0, _ => .nil
  | _, _, _ + 1, .nil => .nil
  | _, _, n + 1, .cons r t => .cons r (t.take n)
theorem RpL.drop : ∀ {vs : List V} {ds : List D} (n : Nat), RpL K O H vs ds → RpL K O H (vs.drop n) (ds.drop n)
  | _, _, 0, h => h
  | _, _, _ + 1, .nil => .nil
  | _, _, n + 1, .cons _ t => t.drop n
theorem RpL.set {v : V} {d : D} (r : Rp K O H v d) : ∀ {vs : List V} {ds : List D} (i : Nat), RpL K O H vs ds → RpL K O H (vs.set i v) (ds.set i d)
  | _, _, _, .nil => .nil
  | _, _, 0, .cons _ t => .cons r t
  | _, _, i + 1, .cons q t => .cons q (t.set r i)
theorem RpL.reverse : ∀ {vs : List V} {ds : List D}, RpL K O H vs ds → RpL K O H vs.reverse ds.reverse
  | _, _, .nil => .nil
  | _, _, .cons r t => by
    rw [List.reverse_cons, List.reverse_cons]
    exact t.reverse.append (.cons r .nil)
theorem RpL.rep {vs : List V} {ds : List D} (h : RpL K O H vs ds) : ∀ k : Nat, RpL K O H (List.replicate k vs).flatten (List.replicate k ds).flatten
  | 0 => .nil
  | k + 1 => by
    rw [List.replicate_succ, List.replicate_succ, List.flatten_cons, List.flatten_cons]
    exact h.append (h.rep k)
theorem RpL.dropLast {vs : List V} {ds : List D} (h : RpL K O H vs ds) : RpL K O H vs.dropLast ds.dropLast := by
  rw [List.dropLast_eq_take, List.dropLast_eq_take, h.length]
  exact h.take _

/-! ## reading: an object that may be owned, its items are not -/
inductive Rt (K : PySem.W.Frag) (O : OS) (H : Hp) : V → D → Prop
  | sh {v : V} {d : D} : Rp K O H v d → Rt K O H v d
  | own {a : Addr} {vs : List V} {ds : List D} : H a = some (.lst vs) → RpL K O H vs ds → Rt K O H (.ref a) (.lst ds)
theorem TupAt.sq {a : Addr} {vs : List V} (h : TupAt K O H a vs) : SqT K H a vs := by
  rcases h with ⟨_, o, _, h⟩ | ⟨o, its, n, h1, h2, _, h3, h4, h5⟩
  · exact .inl (.inr ⟨o, h⟩)
  · exact .inr ⟨o, its, n, h1, h2, h3, h4, h5⟩
theorem RoAt.sq {a : Addr} {vs : List V} (h : RoAt K O H a vs) : SqL K H a vs := by
  rcases h with ⟨_, o, h⟩ | ⟨o, its, n, h1, h2, h0, h3, h4, h5⟩
  · exact .inl (.inr ⟨o, h⟩)
  · exact .inr ⟨o, its, n, h1, h2, h0, h3, h4, h5⟩
theorem Rt.kept (k : Kept O H O' H') (hk : ∀ a o, H a = some o → H' a = some o) {v : V} {d : D} (h : Rt K O H v d) : Rt K O' H' v d := by
  cases h with
  | sh h => exact .sh (h.kept k)
  | own h1 h2 => exact .own (hk _ _ h1) (h2.kept k)
theorem Rt.int {v : V} {i : Int} (h : Rt K O H v (.int i)) : v = .int i := by
  cases h with | sh h => cases h; rfl
theorem Rt.bl {v : V} {i : Bool} (h : Rt K O H v (.bl i)) : v = .bl i := by
  cases h with | sh h => cases h; rfl
theorem Rt.str {v : V} {i : Str} (h : Rt K O H v (.str i)) : v = .str i := by
  cases h with | sh h => cases h; rfl
theorem Rt.tup {v : V} {ds : List D} (h : Rt K O H v (.tup ds)) : ∃ a vs, v = .ref a ∧ TupAt K O H a vs ∧ RpL K O H vs ds := by
  cases h with | sh h => cases h with | tup h1 h2 => exact ⟨_, _, rfl, h1, h2⟩
theorem Rt.lst {v : V} {ds : List D} (h : Rt K O H v (.lst ds)) : ∃ a vs, v = .ref a ∧ H a = some (.lst vs) ∧ RpL K O H vs ds := by
  cases h with
  | sh h => cases h with | lst h1 h2 h3 => exact ⟨_, _, rfl, h2, h3⟩
  | own h1 h2 => exact ⟨_, _, rfl, h1, h2⟩
theorem Rt.ro {v : V} {ds : List D} (h : Rt K O H v (.ro ds)) : ∃ a vs, v = .ref a ∧ RoAt K O H a vs ∧ RpL K O H vs ds := by
  cases h with | sh h => cases h with | ro h1 h2 => exact ⟨_, _, rfl, h1, h2⟩

/-! ## a frame -/
/-- what stood at a def's entry: its heap, what others own, where the lent lists stand -/
structure Base where
  H : Hp
  O : OS
  lent : Nat → Option Addr
  /-- the heap at the statement's start -/
  L : Hp
def SlotOk (K : PySem.W.Frag) (B : Base) (O : OS) (σ : St) (H : Hp) (i : Nat) : Slot → Prop
  | .no => True
  | .sh d => ∃ v, σ[i]? = some (some v) ∧ Rp K O H v d
  | .own l xs => ∃ a vs, σ[i]? = some (some (.ref a)) ∧ O a ∧ H a = some (.lst vs) ∧ RpL K O H vs xs ∧ (if l then B.lent i = some a else B.H a = none)
/-- the addresses of the lists that the frame's slots own -/
def Mine (σ : St) (env : Env) (a : Addr) : Prop := ∃ i l xs, env.at i = .own l xs ∧ σ[i]? = some (some (.ref a))
structure FrameOk (K : PySem.W.Frag) (B : Base) (O : OS) (σ : St) (H : Hp) (env : Env) : Prop where
  len : σ.length = env.length
  slot : ∀ i, SlotOk K B O σ H i (env.at i)
  inj : ∀ i j l m xs ys a, env.at i = .own l xs → env.at j = .own m ys → σ[i]? = some (some (.ref a)) → σ[j]? = some (some (.ref a)) → i = j
  bo : ∀ a, B.O a → O a
  bh : ∀ a o, B.H a = some o → (∀ i, B.lent i ≠ some a) → H a = some o
  bw : ∀ a, B.O a → B.H a ≠ none
  bl : ∀ i a, B.lent i = some a → B.O a
  bt : ∀ a, B.H a ≠ none ∨ B.L a ≠ none → H a ≠ none
  ot : ∀ a, O a → H a ≠ none
theorem Env.at_set {env : Env} {i j : Nat} {s : Slot} : Env.at (env.set i s) j = if i = j ∧ i < env.length then s else env.at j := by
  induction env generalizing i j with
  | nil => simp [Env.at]
  | cons t r ih =>
    cases i with
    | zero => cases j with
      | zero => simp [Env.at]
      | succ j => simp [Env.at]
    | succ i => cases j with
      | zero => simp [Env.at]
      | succ j => simp [Env.at, ih]
theorem Env.at_none {env : Env} {i : Nat} (h : env.length ≤ i) : env.at i = .no := by
  induction env generalizing i with
  | nil => rfl
  | cons t r ih => cases i with
    | zero => simp at h
    | succ i => exact ih (by simpa using h)
theorem Env.lt_of {env : Env} {i : Nat} (h : env.at i ≠ .no) : i < env.length := by
  by_cases hl : i < env.length
  · exact hl
  · exact absurd (Env.at_none (by omega)) h
end
end Lw
set_option linter.all false
set_option Elab.async false
set_option maxRecDepth 100000
namespace Lw
open PySem PySem.Spec L2
abbrev SS := L2.St
section
variable {K : PySem.W.Frag} {B : Base} {O O' O1 O2 : OS} {H H' H1 H2 : Hp} {σ : SS} {env env' e1 e2 : Env}

/-- an address that is new -/
theorem FrameOk.isNew (F : FrameOk K B O σ H env) {a : Addr} (h : H a = none) : B.H a = none ∧ B.L a = none := by
  refine ⟨?_, ?_⟩
  · cases e : B.H a with
    | none => rfl
    | some o => exact absurd h (F.bt a (.inl (by rw [e]; exact fun z => nomatch z)))
  · cases e : B.L a with
    | none => rfl
    | some o => exact absurd h (F.bt a (.inr (by rw [e]; exact fun z => nomatch z)))
/-- the statement starts here -/
abbrev Base.now (B : Base) (H : Hp) : Base := { B with L := H }
theorem FrameOk.now (F : FrameOk K B O σ H env) : FrameOk K (B.now H) O σ H env := ⟨F.len, F.slot, F.inj, F.bo, F.bh, F.bw, F.bl, fun a h => h.elim (fun z => F.bt a (.inl z)) id, F.ot⟩
theorem FrameOk.unnow (F : FrameOk K B O σ H env) {O2 : OS} {σ2 : SS} {H2 : Hp} (F2 : FrameOk K (B.now H) O2 σ2 H2 e2) : FrameOk K B O2 σ2 H2 e2 :=
  ⟨F2.len, F2.slot, F2.inj, F2.bo, F2.bh, F2.bw, F2.bl, fun a h => F2.bt a (h.elim .inl fun z => .inr (F.bt a (.inr z))), F2.ot⟩
theorem FrameOk.mine (F : FrameOk K B O σ H env) {a : Addr} (m : Mine σ env a) : O a := by
  obtain ⟨i, l, xs, h1, h2⟩ := m
  have := F.slot i
  rw [h1] at this
  obtain ⟨b, vs, h3, h4, _⟩ := this
  rw [h2] at h3; cases h3
  exact h4
/-- the heap grows -/
def Grow (H H' : Hp) : Prop := ∀ a o, H a = some o → H' a = some o
theorem Grow.refl : Grow H H := fun _ _ h => h
theorem Grow.trans (a : Grow H H1) (b : Grow H1 H2) : Grow H H2 := fun c o h => b c o (a c o h)
theorem Grow.upd {p : Addr} {o : HO} (h : H p = none) : Grow H (upd H p o) := fun b u e => by
  rw [upd_ne (ne_of_none e h)]; exact e
theorem Grow.there (g : Grow H H') {a : Addr} (h : H a ≠ none) : H' a ≠ none := fun z => by
  cases e : H a with
  | none => exact h e
  | some o => rw [g a o e] at z; cases z
theorem Grow.kept (g : Grow H H') (hs : ∀ a o, ¬ O a → H a = some o → ¬ O' a) : Kept O H O' H' := ⟨fun a o _ h => g a o h, fun a h => by
  by_cases q : O a
  · exact .inl q
  · cases e : H a with
    | none => exact .inr rfl
    | some o => exact absurd h (hs a o q e)⟩
theorem FrameOk.move (F : FrameOk K B O σ H env) (g : Grow H H') (hb : ∀ a, B.O a → O' a) (hm : ∀ a, Mine σ env a → O' a) (hs : ∀ a o, ¬ O a → H a = some o → ¬ O' a) (ht : ∀ a, O' a → H' a ≠ none) : FrameOk K B O' σ H' env := by
  have k := g.kept hs
  refine ⟨F.len, fun i => ?_, F.inj, hb, fun a o h n => g _ _ (F.bh a o h n), F.bw, F.bl, fun a h => g.there (F.bt a h), ht⟩
  have := F.slot i
  cases e : env.at i with
  | no => trivial
  | sh d =>
    rw [e] at this
    obtain ⟨v, h1, h2⟩ := this
    exact ⟨v, h1, h2.kept k⟩
  | own l xs =>
    rw [e] at this
    obtain ⟨a, vs, h1, h2, h3, h4, h5⟩ := this
    exact ⟨a, vs, h1, hm a ⟨i, l, xs, e, h1⟩, g _ _ h3, h4.kept k, h5⟩
theorem FrameOk.grow (F : FrameOk K B O σ H env) (g : Grow H H') : FrameOk K B O σ H' env := F.move g F.bo (fun _ m => F.mine m) (fun _ _ h _ => h) fun a h => g.there (F.ot a h)
/-- .. and a new address may be taken as owned -/
theorem FrameOk.fresh (F : FrameOk K B O σ H env) {p : Addr} (hp : H p = none) (o : HO) : FrameOk K B (fun a => O a ∨ a = p) σ (upd H p o) env :=
  F.move (Grow.upd hp) (fun a h => .inl (F.bo a h)) (fun a m => .inl (F.mine m)) (fun a u h e z => by
    rcases z with z | z
    · exact h z
    · rw [z, hp] at e; cases e) fun a h => by
    rcases h with h | rfl
    · exact (Grow.upd (o := o) hp).there (F.ot a h)
    · rw [upd_same]; exact fun z => nomatch z

/-! ## steps -/
structure Step (σ : SS) (env env' : Env) (O : OS) (H : Hp) (O' : OS) (H' : Hp) : Prop where
  keep : ∀ a o, H a = some o → ¬ Mine σ env a → H' a = some o
  own : ∀ a, O' a → O a
  stay : ∀ a, O a → ¬ Mine σ env a → O' a
  mine : ∀ a, Mine σ env' a → Mine σ env a
theorem Step.refl : Step σ env env O H O H := ⟨fun _ _ h _ => h, fun _ h => h, fun _ h _ => h, fun _ h => h⟩
theorem Step.grow (g : Grow H H') : Step σ env env O H O H' := ⟨fun a o h _ => g a o h, fun _ h => h, fun _ h _ => h, fun _ h => h⟩
theorem Step.trans (a : Step σ env e1 O H O1 H1) (b : Step σ e1 e2 O1 H1 O2 H2) : Step σ env e2 O H O2 H2 :=
  ⟨fun c o h n => b.keep c o (a.keep c o h n) fun m => n (a.mine c m), fun c h => a.own c (b.own c h), fun c h n => b.stay c (a.stay c h n) fun m => n (a.mine c m), fun c h => a.mine c (b.mine c h)⟩
theorem Step.kept (a : Step σ env e1 O H O1 H1) (F : FrameOk K B O σ H env) : Kept O H O1 H1 :=
  ⟨fun c o n h => a.keep c o h fun m => n (F.mine m), fun c h => .inl (a.own c h)⟩

/-! ## values of expressions -/
def ValS (K : PySem.W.Frag) (O : OS) (σ : SS) (H : Hp) (v : Val) (x : V) : Prop := match v with
  | .sh d => Rp K O H x d
  | .fr xs => Rp K O H x (.lst xs)
  | .bor i => σ[i]? = some (some x)
/-- a list that nobody else has -/
def FreshV (K : PySem.W.Frag) (B : Base) (O : OS) (σ : SS) (H : Hp) (env : Env) (x : V) (xs : List D) : Prop :=
  ∃ a vs, x = .ref a ∧ H a = some (.lst vs) ∧ RpL K (fun b => O b ∨ b = a) H vs xs ∧ (B.H a = none ∧ B.L a = none) ∧ FrameOk K B (fun b => O b ∨ b = a) σ H env ∧ ¬ O a
def ValOk (K : PySem.W.Frag) (B : Base) (O : OS) (σ : SS) (H : Hp) (env : Env) (v : Val) (x : V) : Prop := ValS K O σ H v x ∧ match v with
  | .fr xs => FreshV K B O σ H env x xs
  | _ => True
theorem ValS.step {v : Val} {x : V} (F : FrameOk K B O σ H env) (s : Step σ env e1 O H O1 H1) (h : ValS K O σ H v x) : ValS K O1 σ H1 v x := by
  cases v with
  | sh d => exact Rp.kept (s.kept F) h
  | fr xs => exact Rp.kept (s.kept F) h
  | bor i => exact h
theorem rd_ok {v : Val} {x : V} {d : D} (F : FrameOk K B O σ H env) (h : ValS K O σ H v x) (e : rdV v env = some d) : Rt K O H x d := by
  cases v with
  | sh c => cases e; exact .sh h
  | fr xs => cases e; exact .sh h
  | bor i =>
    have hs := F.slot i
    simp only [rdV] at e
    cases q : env.at i with
    | no => rw [q] at e; cases e
    | sh c =>
      rw [q] at e hs
      cases e
      obtain ⟨w, h1, h2⟩ := hs
      have h' : σ[i]? = some (some x) := h
      rw [h1] at h'; cases h'
      exact .sh h2
    | own l xs =>
      rw [q] at e hs
      cases e
      obtain ⟨a, vs, h1, h2, h3, h4, h5⟩ := hs
      have h' : σ[i]? = some (some x) := h
      rw [h1] at h'; cases h'
      exact .own h3 h4

/-! ## storing -/
/-- what is known of the slots but i stays -/
theorem FrameOk.setSh (F : FrameOk K B O σ H env) {i : Nat} {v : V} {d : D} (r : Rp K O H v d) : FrameOk K B O (σ.set i (some v)) H (env.set i (.sh d)) := by
  refine ⟨by simp [F.len], fun j => ?_, fun j k l m xs ys a h1 h2 h3 h4 => ?_, F.bo, F.bh, F.bw, F.bl, F.bt, F.ot⟩
  · show SlotOk K B O (σ.set i (some v)) H j (Env.at (env.set i (.sh d)) j)
    rw [Env.at_set]
    split
    · rename_i h
      obtain ⟨rfl, hl⟩ := h
      exact ⟨v, by rw [List.getElem?_set_self (by rw [F.len]; exact hl)], r⟩
    · rename_i h
      have hs := F.slot j
      by_cases hij : i = j
      · subst hij
        have : env.length ≤ i := by
          by_cases hl : i < env.length
          · exact absurd ⟨rfl, hl⟩ h
          · omega
        rw [Env.at_none this]
        trivial
      · cases e : env.at j with
        | no => trivial
        | sh c =>
          rw [e] at hs
          obtain ⟨w, h1, h2⟩ := hs
          exact ⟨w, by rw [List.getElem?_set_ne hij]; exact h1, h2⟩
        | own l xs =>
          rw [e] at hs
          obtain ⟨a, vs, h1, h2⟩ := hs
          exact ⟨a, vs, by rw [List.getElem?_set_ne hij]; exact h1, h2⟩
  · have h1' : Env.at (env.set i (.sh d)) j = .own l xs := h1
    have h2' : Env.at (env.set i (.sh d)) k = .own m ys := h2
    rw [Env.at_set] at h1' h2'
    split at h1'
    · cases h1'
    · split at h2'
      · cases h2'
      · rename_i n1 n2
        have hj := Env.lt_of (env := env) (i := j) (by rw [h1']; intro z; cases z)
        have hk := Env.lt_of (env := env) (i := k) (by rw [h2']; intro z; cases z)
        have ij : i ≠ j := fun e => n1 ⟨e, by omega⟩
        have ik : i ≠ k := fun e => n2 ⟨e, by omega⟩
        rw [List.getElem?_set_ne ij] at h3
        rw [List.getElem?_set_ne ik] at h4
        exact F.inj j k l m xs ys a h1' h2' h3 h4
/-- a slot forgotten -/
theorem FrameOk.setNo (F : FrameOk K B O σ H env) (i : Nat) (w : Option V) : FrameOk K B O (σ.set i w) H (env.set i .no) := by
  refine ⟨by simp [F.len], fun j => ?_, fun j k l m xs ys a h1 h2 h3 h4 => ?_, F.bo, F.bh, F.bw, F.bl, F.bt, F.ot⟩
  · show SlotOk K B O (σ.set i w) H j (Env.at (env.set i .no) j)
    rw [Env.at_set]
    split
    · trivial
    · rename_i h
      have hs := F.slot j
      by_cases hij : i = j
      · subst hij
        have : env.length ≤ i := by
          by_cases hl : i < env.length
          · exact absurd ⟨rfl, hl⟩ h
          · omega
        rw [Env.at_none this]
        trivial
      · cases e : env.at j with
        | no => trivial
        | sh c =>
          rw [e] at hs
          obtain ⟨w, h1, h2⟩ := hs
          exact ⟨w, by rw [List.getElem?_set_ne hij]; exact h1, h2⟩
        | own l xs =>
          rw [e] at hs
          obtain ⟨a, vs, h1, h2⟩ := hs
          exact ⟨a, vs, by rw [List.getElem?_set_ne hij]; exact h1, h2⟩
  · have h1' : Env.at (env.set i .no) j = .own l xs := h1
    have h2' : Env.at (env.set i .no) k = .own m ys := h2
    rw [Env.at_set] at h1' h2'
    split at h1'
    · cases h1'
    · split at h2'
      · cases h2'
      · rename_i n1 n2
        have hj := Env.lt_of (env := env) (i := j) (by rw [h1']; intro z; cases z)
        have hk := Env.lt_of (env := env) (i := k) (by rw [h2']; intro z; cases z)
        have ij : i ≠ j := fun e => n1 ⟨e, by omega⟩
        have ik : i ≠ k := fun e => n2 ⟨e, by omega⟩
        rw [List.getElem?_set_ne ij] at h3
        rw [List.getElem?_set_ne ik] at h4
        exact F.inj j k l m xs ys a h1' h2' h3 h4
theorem Mine.setSh {i : Nat} {d : D} {a : Addr} (m : Mine σ (env.set i (.sh d)) a) : Mine σ env a := by
  obtain ⟨j, l, xs, h1, h2⟩ := m
  have h1' : Env.at (env.set i (.sh d)) j = .own l xs := h1
  rw [Env.at_set] at h1'
  split at h1'
  · cases h1'
  · exact ⟨j, l, xs, h1', h2⟩

/-- a value is kept by somebody: its list is owned no more -/
theorem sh_ok {v : Val} {x : V} {d : D} (F : FrameOk K B O σ H env) (h : ValS K O σ H v x) (e : shV v env = some (d, env')) : ∃ O', Step σ env env' O H O' H ∧ FrameOk K B O' σ H env' ∧ Rp K O' H x d := by
  cases v with
  | sh c => cases e; exact ⟨O, .refl, F, h⟩
  | fr xs => cases e; exact ⟨O, .refl, F, h⟩
  | bor i =>
    have hs := F.slot i
    have h' : σ[i]? = some (some x) := h
    simp only [shV] at e
    cases q : env.at i with
    | no => rw [q] at e; cases e
    | sh c =>
      rw [q] at e hs
      cases e
      obtain ⟨w, h1, h2⟩ := hs
      rw [h1] at h'; cases h'
      exact ⟨O, .refl, F, h2⟩
    | own l xs =>
      rw [q] at e hs
      cases l with
      | true => cases e
      | false =>
        cases e
        obtain ⟨a, vs, h1, h2, h3, h4, h5⟩ := hs
        have h5' : B.H a = none := h5
        rw [h1] at h'; cases h'
        have ilt : i < env.length := Env.lt_of (by rw [q]; intro z; cases z)
        have nb : ¬ B.O a := fun z => F.bw a z h5'
        have k : Kept O H (fun b => O b ∧ b ≠ a) H := ⟨fun _ _ _ h => h, fun b hb => .inl hb.1⟩
        have r : Rp K (fun b => O b ∧ b ≠ a) H (.ref a) (.lst xs) := .lst (fun z => z.2 rfl) h3 (h4.kept k)
        have mm : ∀ b, Mine σ (env.set i (.sh (.lst xs))) b → b ≠ a := by
          rintro b ⟨j, l, ys, g1, g2⟩ rfl
          have g1' : Env.at (env.set i (.sh (.lst xs))) j = .own l ys := g1
          rw [Env.at_set] at g1'
          split at g1'
          · cases g1'
          · rename_i hn
            exact hn ⟨F.inj i j _ _ _ _ b q g1' h1 g2, ilt⟩
        refine ⟨fun b => O b ∧ b ≠ a, ⟨fun _ _ h _ => h, fun _ h => h.1, fun b hb hm => ⟨hb, fun z => hm (by rw [z]; exact ⟨i, false, xs, q, h1⟩)⟩, fun b hb => hb.setSh⟩, ?_, r⟩
        refine ⟨by rw [List.length_set]; exact F.len, fun j => ?_, fun j k l m ys zs b g1 g2 g3 g4 => ?_, fun b hb => ⟨F.bo b hb, fun z => nb (by rw [← z]; exact hb)⟩, F.bh, F.bw, F.bl, F.bt, fun b hb => F.ot b hb.1⟩
        · show SlotOk K B _ σ H j (Env.at (env.set i (.sh (.lst xs))) j)
          rw [Env.at_set]
          split
          · rename_i hn
            obtain ⟨rfl, _⟩ := hn
            exact ⟨_, h1, r⟩
          · rename_i hn
            have hj := F.slot j
            cases e : env.at j with
            | no => trivial
            | sh c =>
              rw [e] at hj
              obtain ⟨w, g1, g2⟩ := hj
              exact ⟨w, g1, g2.kept k⟩
            | own l ys =>
              rw [e] at hj
              obtain ⟨b, ws, g1, g2, g3, g4, g5⟩ := hj
              refine ⟨b, ws, g1, ⟨g2, ?_⟩, g3, g4.kept k, g5⟩
              rintro rfl
              exact hn ⟨F.inj i j _ _ _ _ b q e h1 g1, ilt⟩
        · have g1' : Env.at (env.set i (.sh (.lst xs))) j = .own l ys := g1
          have g2' : Env.at (env.set i (.sh (.lst xs))) k = .own m zs := g2
          rw [Env.at_set] at g1' g2'
          split at g1'
          · cases g1'
          · split at g2'
            · cases g2'
            · exact F.inj j k l m ys zs b g1' g2' g3 g4
end
end Lw
set_option linter.all false
set_option Elab.async false
set_option maxRecDepth 100000
set_option maxHeartbeats 1000000
namespace Lw
open PySem PySem.Spec L2
section
variable {K : PySem.W.Frag} {B : Base} {O O' O1 O2 : OS} {H H' H1 H2 : Hp} {σ : SS} {env env' e1 e2 : Env}

/-! ## what an operation gives: a value of the growing heap, or a list that nobody has -/
def NewV (K : PySem.W.Frag) (O : OS) (H H' : Hp) (w : Val) (z : V) : Prop := match w with
  | .sh d => Grow H H' ∧ Rp K O H' z d
  | .fr xs => ∃ a vs H1, z = .ref a ∧ Grow H H1 ∧ H1 a = none ∧ H' = upd H1 a (.lst vs) ∧ RpL K O H1 vs xs
  | .bor _ => False
def Trk (O : OS) (H : Hp) : Prop := ∀ a, O a → H a ≠ none
theorem Trk.grow (t : Trk O H) (g : Grow H H') : Trk O H' := fun a h => g.there (t a h)
theorem kept_fresh {p : Addr} {o : HO} (hp : H p = none) : Kept O H (fun b => O b ∨ b = p) (upd H p o) :=
  ⟨fun a u _ e => Grow.upd hp a u e, fun a h => h.elim .inl (fun z => .inr (by rw [z]; exact hp))⟩
theorem new_ok {w : Val} {z : V} (F : FrameOk K B O σ H env) (h : NewV K O H H' w z) : Step σ env env O H O H' ∧ FrameOk K B O σ H' env ∧ ValOk K B O σ H' env w z := by
  cases w with
  | sh d => exact ⟨.grow h.1, F.grow h.1, h.2, trivial⟩
  | bor i => exact h.elim
  | fr xs =>
    obtain ⟨a, vs, H1, rfl, g, hn, rfl, r⟩ := h
    have F1 := F.grow g
    have na : ¬ O a := fun z => F1.ot a z hn
    have g2 : Grow H1 (upd H1 a (.lst vs)) := Grow.upd hn
    refine ⟨.grow (g.trans g2), F1.grow g2, .lst na upd_same (r.kept (g2.kept fun _ _ h _ => h)), a, vs, rfl, upd_same, r.kept (kept_fresh hn), F1.isNew hn, F1.fresh hn _, na⟩
end

/-! ## a new tuple, a new list -/
abbrev tupO (us : List Value) : Obj := { cls := .type "tuple", data := .seq us.toArray }
section
variable {X : Cx} {pins : List (Addr × Obj)} {σ : SS} {H : Hp} {s : Shared} {xs : List V} {us : List Value} {O : OS} {ds : List D}
theorem Inv.tupNew (I : Inv X pins σ H s) (r : Vals xs us) (hz : xs.length ≤ sizeLine) (t : Nat) : Inv X pins σ (upd H s.heap.objs.size (.frz (tupO us) (.tup xs))) { s with heap := s.heap.push (tupO us), toks := t } := by
  refine I.laid (t' := t) (o := .frz (tupO us) (.tup xs)) (fun b ob q => Heap.get?_push_of_some _ q) (Nat.le_refl _) ?_
  exact ⟨Heap.get?_push_size _ rfl, hz, us, r, PyProof.Rows.IsTup.new _ _⟩
theorem new_tup (t : Trk O H) {p : Addr} (hp : H p = none) (r : RpL X.K O H xs ds) : NewV X.K O H (upd H p (.frz (tupO us) (.tup xs))) (.sh (.tup ds)) (.ref p) :=
  ⟨Grow.upd hp, .tup (.inl ⟨fun z => t p z hp, tupO us, rfl, upd_same⟩) (r.kept ((Grow.upd hp).kept fun _ _ h _ => h))⟩
theorem ep_tup {Q : VK} (I : Inv X pins σ H s) (t : Trk O H) (r : Vals xs us) (hz : xs.length ≤ sizeLine) (rd : RpL X.K O H xs ds) (h : ∀ z H', NewV X.K O H H' (.sh (.tup ds)) z → Q z H') (tk : Nat) :
    EP X pins σ Q (.ref s.heap.objs.size) { s with heap := s.heap.push (tupO us), toks := tk } :=
  ⟨.ref s.heap.objs.size, _, Inv.tupNew I r hz tk, rfl, h _ _ (new_tup t (I.hok.fresh (Nat.le_refl _)) rd)⟩
theorem new_lst {p : Addr} (hp : H p = none) (r : RpL X.K O H xs ds) : NewV X.K O H (upd H p (.lst xs)) (.fr ds) (.ref p) := ⟨p, xs, H, rfl, Grow.refl, hp, rfl, r⟩
theorem new_sh {d : D} {z : V} (r : Rp X.K O H z d) : NewV X.K O H H (.sh d) z := ⟨Grow.refl, r⟩
end

section
open PyProof.Rows
theorem tuple_mulS (l : Addr) (items : Array Value) (n : Nat) (dd : Option Addr) (sl : Array (Option Value)) (x : Int) (u : Tok) (c0 : (decide (x < -(2 ^ 63)) || decide (x ≥ 2 ^ 63)) = false) (c1 : (items.isEmpty || x == 1) = true) :
    Meets (Builtin.«tuple.__mul__» ⟨[.ref l, .int x u], []⟩) (fun _ R s => s.heap.get? l = some { cls := .type "tuple", dict := dd, data := .seq items n, slots := sl } ∧
      R (.ok (.ret (Value.ref l))) s) :=
  .of_wp fun prog w A R s h => by
    obtain ⟨hp, g, d, tk, os⟩ := s
    obtain ⟨hl, h⟩ := h
    have f1 := AutoSeq1.idx_int
    have hT : Shared.TypeIs ⟨hp, g, d, tk, os⟩ (.ref l) "tuple" := ⟨_, hl, rfl⟩
    wp_walk using wpAny_loadPart' hl, wpAny_typeOf hT
    repeat (first
      | (refine wpAny_ite_false (decide_eq_false (by rw [c0]; exact Bool.false_ne_true)) ?_; wp_walk using wpAny_loadPart' hl, wpAny_typeOf hT)
      | (refine wpAny_ite_true (decide_eq_true c1) ?_; wp_walk using wpAny_loadPart' hl, wpAny_typeOf hT))
    exact ⟨_, rfl, h⟩
theorem tuple_mulE (l : Addr) (items : Array Value) (n : Nat) (dd : Option Addr) (sl : Array (Option Value)) (x : Int) (u : Tok) (c0 : (decide (x < -(2 ^ 63)) || decide (x ≥ 2 ^ 63)) = false) (c1 : (items.isEmpty || x == 1) = false) (c2 : (decide (x ≤ 0) || items.isEmpty) = true) :
    Meets (Builtin.«tuple.__mul__» ⟨[.ref l, .int x u], []⟩) (fun _ R s => s.heap.get? l = some { cls := .type "tuple", dict := dd, data := .seq items n, slots := sl } ∧
      R (.ok (.ret (Value.ref s.heap.objs.size))) { s with heap := s.heap.push { cls := Value.type "tuple", data := Data.seq #[] }, toks := s.toks }) :=
  .of_wp fun prog w A R s h => by
    obtain ⟨hp, g, d, tk, os⟩ := s
    obtain ⟨hl, h⟩ := h
    have f1 := AutoSeq1.idx_int
    wp_walk using wpAny_loadPart' hl
    repeat (first
      | (refine wpAny_ite_false (decide_eq_false (by rw [c0]; exact Bool.false_ne_true)) ?_; wp_walk using wpAny_loadPart' hl)
      | (refine wpAny_ite_false (decide_eq_false (by rw [c1]; exact Bool.false_ne_true)) ?_; wp_walk using wpAny_loadPart' hl)
      | (refine wpAny_ite_true (decide_eq_true c2) ?_; wp_walk using wpAny_loadPart' hl))
    exact ⟨_, rfl, h⟩
end
/-! ## operations of two values -/
def Op2R (X : Cx) (f : Value → Value → Sem Value) (g : D → D → Option Val) : Prop :=
  OpR X f fun x y H Q => ∃ O a b w, Trk O H ∧ Rt X.K O H x a ∧ Rt X.K O H y b ∧ g a b = some w ∧ ∀ z H', NewV X.K O H H' w z → Q z H'
section
variable {X : Cx}
theorem ixs_eq (n d : Nat) (o : Option Int) (hd : d ≤ n) : HT.sIx n d o = clipP n d o := by
  cases o with
  | none => rfl
  | some v =>
    unfold HT.sIx clipP
    rfl
theorem cut_eq {xs : List V} {lo hi : Option Int} : cutV xs lo hi = cutL xs lo hi := by
  unfold cutV cutL
  rw [ixs_eq _ _ _ (Nat.zero_le _), ixs_eq _ _ _ (Nat.le_refl _)]
theorem cat_ok {xs ys zs : List D} (h : catD xs ys = some zs) : zs = xs ++ ys ∧ xs.length + ys.length ≤ sizeLine := by
  unfold catD at h
  split at h
  · rename_i q
    cases h
    exact ⟨rfl, by rw [sizeLine_eq]; exact q⟩
  · cases h
theorem add_tups (x y : V) (v u : Value) (pins : List (Addr × Obj)) (s : Shared) (σ : SS) (H : Hp) (Q : VK) (I : Inv X pins σ H s) (rx : RelV x v) (ry : RelV y u) {O : OS} {xs ys : List D} (t : Trk O H)
    (h1 : Rt X.K O H x (.tup xs)) (h2 : Rt X.K O H y (.tup ys)) (hz : xs.length + ys.length ≤ sizeLine) (q : ∀ z H', NewV X.K O H H' (.sh (.tup (xs ++ ys))) z → Q z H') :
    wpAny (model X.prog X.w) X.A (binaryOp .Add v u) (EP X pins σ Q) X.xe s := by
  obtain ⟨a, vs, rfl, ta, ra⟩ := h1.tup
  obtain ⟨b, ws, rfl, tb, rb⟩ := h2.tup
  cases rx
  cases ry
  obtain ⟨its, r1, p1, _⟩ := I.tuple ta.sq
  obtain ⟨its2, r2, p2, _⟩ := I.tuple tb.sq
  have l1 := ra.length
  have l2 := rb.length
  by_cases hx : xs = []
  · subst hx
    have e : vs = [] := List.eq_nil_of_length_eq_zero (by rw [l1]; rfl)
    subst e
    cases r1
    exact cat_tup0 p1 p2 ⟨.ref b, H, I, rfl, q _ _ (new_sh (.tup tb rb))⟩
  · have hv : its ≠ [] := fun z => hx (List.eq_nil_of_length_eq_zero (by rw [← l1, r1.length, z]; rfl))
    refine HT.cat_tup p1 p2 hv (fun z => ?_) (fun z => ?_) (by rw [← r1.length, ← r2.length, l1, l2]; exact hz)
    · have e : ys = [] := List.eq_nil_of_length_eq_zero (by rw [← l2, r2.length, z]; rfl)
      subst e
      rw [List.append_nil] at q
      exact ⟨.ref a, H, I, rfl, q _ _ (new_sh (.tup ta ra))⟩
    · exact ep_tup (us := its ++ its2) I t (r1.append r2) (by rw [List.length_append, l1, l2]; exact hz) (ra.append rb) q s.toks
theorem add_ok : Op2R X (binaryOp .Add) (binV .add) := by
  intro pins s σ H x y v u Q I rx ry h
  obtain ⟨O, a, b, w, t, ra, rb, e, q⟩ := h
  cases a <;> cases b <;> simp only [binV] at e <;> first | cases e | skip
  · have e1 := ra.int; have e2 := rb.int
    subst e1; subst e2
    exact op_add pins s σ H _ _ v u Q I rx ry ⟨_, _, rfl, rfl, q _ _ (new_sh (.int _))⟩
  · have e1 := ra.str; have e2 := rb.str
    subst e1; subst e2
    split at e
    · rename_i hz
      cases e
      exact op_add_str pins s σ H _ _ v u Q I rx ry ⟨_, _, rfl, rfl, (by rw [sizeLine_eq]; exact hz), q _ _ (new_sh (.str _))⟩
    · cases e
  · rename_i xs ys
    cases e0 : catD xs ys with
    | none => rw [e0] at e; cases e
    | some zs =>
      rw [e0] at e; cases e
      obtain ⟨rfl, hz⟩ := cat_ok e0
      exact add_tups x y v u pins s σ H Q I rx ry t ra rb hz q
  · rename_i xs ys
    cases e0 : catD xs ys with
    | none => rw [e0] at e; cases e
    | some zs =>
      rw [e0] at e; cases e
      obtain ⟨rfl, hz⟩ := cat_ok e0
      obtain ⟨a, vs, rfl, ta, ra⟩ := ra.lst
      obtain ⟨b, ws, rfl, tb, rb⟩ := rb.lst
      exact op_cat pins s σ H _ _ v u Q I rx ry ⟨a, b, vs, ws, rfl, rfl, ta, tb, (by rw [ra.length, rb.length]; exact hz), fun p hp => q _ _ (new_lst hp (ra.append rb))⟩
theorem sub_ok : Op2R X (binaryOp .Sub) (binV .sub) := by
  intro pins s σ H x y v u Q I rx ry h
  obtain ⟨O, a, b, w, t, ra, rb, e, q⟩ := h
  cases a <;> cases b <;> simp only [binV] at e <;> first | cases e | skip
  have e1 := ra.int; have e2 := rb.int
  subst e1; subst e2
  exact op_sub pins s σ H _ _ v u Q I rx ry ⟨_, _, rfl, rfl, q _ _ (new_sh (.int _))⟩
theorem mulOk_ok {i j : Int} (h : mulOk i j) : PySem.IntMulOk i j := by
  rcases h with (h | h) | ⟨h1, h2⟩
  · exact .of_left (intBits_le_64 (by omega) (by omega))
  · exact .of_right (intBits_le_64 (by omega) (by omega))
  · exact (wide_mul (a := 4000) (b := 4000) h1 h2 (by decide) (by decide) (by decide)).ok
open PyProof.Rows in
theorem rep_tups (l : Addr) (k : Int) (v u : Value) (pins : List (Addr × Obj)) (s : Shared) (σ : SS) (H : Hp) (Q : VK) (I : Inv X pins σ H s) (rx : RelV (.ref l) v) (ry : RelV (.int k) u) {O : OS} {xs : List D} {vs : List V} (t : Trk O H)
    (h1 : TupAt X.K O H l vs) (r1 : RpL X.K O H vs xs) (hk : -1000 ≤ k ∧ k ≤ 1000) (hz : xs.length ≤ 1000) (q : ∀ z H', NewV X.K O H H' (.sh (.tup (repD xs k))) z → Q z H') :
    wpAny (model X.prog X.w) X.A (binaryOp .Mult v u) (EP X pins σ Q) X.xe s := by
  cases rx
  obtain ⟨tk, rfl⟩ := ry
  obtain ⟨its, r, ⟨⟨cls, dd, data, sl⟩, ho, hc, n, hd⟩, hs⟩ := I.tuple h1.sq
  simp only at hc hd
  subst hc hd
  have hle : its.length = xs.length := by rw [← r.length, r1.length]
  have hsz0 : its.toArray.size = xs.length := by rw [List.size_toArray, hle]
  have c0 : (decide (k < -(2 ^ 63)) || decide (k ≥ 2 ^ 63)) = false := by
    rw [decide_eq_false (by omega), decide_eq_false (by omega)] <;> rfl
  by_cases c1 : (its.toArray.isEmpty || k == 1) = true
  · refine wpAny_binaryOp_repeat_ref (T := "tuple") (U := "int") (by decide) ⟨_, ho, rfl⟩ (fun s' => typeIs_int s' k tk) noFill_tuple_mul F.fills_int_mul F.slot_int_rmul repeat_tuple F.slot_int_index.lookup
      (call_meets F.slot_int_rmul (typeIs_int s k tk) F.entry_int_rmul (F.args_int_rmul_2 _ _) (int_rmul_tuple k tk l its.toArray n dd sl)
        ⟨ho, rfl, ⟨_, ho, rfl⟩, call_meets F.slot_tuple_mul ⟨_, ho, rfl⟩ F.entry_tuple_mul (F.args_tuple_mul_2 _ _) (tuple_mulS l its.toArray n dd sl k tk c0 c1) ⟨ho, ?_⟩⟩)
    have e : repD xs k = xs := by
      unfold repD
      rcases Bool.or_eq_true _ _ ▸ c1 with c | c
      · have e1 : xs = [] := List.eq_nil_of_length_eq_zero (by rw [← hsz0]; simpa using c)
        subst e1
        simp
      · have e1 : k = 1 := by simpa using c
        subst e1
        simp
    rw [e] at q
    exact ⟨.ref l, H, I, rfl, q _ _ (new_sh (.tup h1 r1))⟩
  · have c1' : (its.toArray.isEmpty || k == 1) = false := by simpa using c1
    by_cases c2 : (decide (k ≤ 0) || its.toArray.isEmpty) = true
    · refine wpAny_binaryOp_repeat_ref (T := "tuple") (U := "int") (by decide) ⟨_, ho, rfl⟩ (fun s' => typeIs_int s' k tk) noFill_tuple_mul F.fills_int_mul F.slot_int_rmul repeat_tuple F.slot_int_index.lookup
        (call_meets F.slot_int_rmul (typeIs_int s k tk) F.entry_int_rmul (F.args_int_rmul_2 _ _) (int_rmul_tuple k tk l its.toArray n dd sl)
          ⟨ho, rfl, ⟨_, ho, rfl⟩, call_meets F.slot_tuple_mul ⟨_, ho, rfl⟩ F.entry_tuple_mul (F.args_tuple_mul_2 _ _) (tuple_mulE l its.toArray n dd sl k tk c0 c1' c2) ⟨ho, ?_⟩⟩)
      have e : repD xs k = [] := by
        unfold repD
        have c3 : its.toArray.isEmpty = false := (Bool.or_eq_false_iff.mp c1').1
        rw [c3, Bool.or_false] at c2
        have : k.toNat = 0 := by have := of_decide_eq_true c2; omega
        rw [this]; rfl
      rw [e] at q
      exact ep_tup (us := []) I t .nil (Nat.zero_le _) .nil q s.toks
    · have c2' : (decide (k ≤ 0) || its.toArray.isEmpty) = false := by simpa using c2
      have hk0 : 0 < k := by have := of_decide_eq_false (Bool.or_eq_false_iff.mp c2').1; omega
      have hm : ((its.toArray.size : Nat) : Int) * k ≤ 1000000 := by
        rw [hsz0]
        have a1 : ((xs.length : Nat) : Int) * k ≤ 1000 * k := Int.mul_le_mul_of_nonneg_right (by omega) (by omega)
        omega
      have c4 : Builtin.Tuple.tupleTooMany (((its.toArray.size : Nat) : Int) * k) = false := by
        unfold Builtin.Tuple.tupleTooMany
        rw [sizeLine_eq]
        exact decide_eq_false (by omega)
      have flen : (List.replicate k.toNat its).flatten.length ≤ sizeLine := by
        rw [PyProof.Rows.lm_len_rep_flat, hle, sizeLine_eq]
        have a1 : k.toNat * xs.length ≤ 1000 * 1000 := Nat.mul_le_mul (by omega) hz
        omega
      refine wpAny_binaryOp_repeat_ref (T := "tuple") (U := "int") (by decide) ⟨_, ho, rfl⟩ (fun s' => typeIs_int s' k tk) noFill_tuple_mul F.fills_int_mul F.slot_int_rmul repeat_tuple F.slot_int_index.lookup
        (call_meets F.slot_int_rmul (typeIs_int s k tk) F.entry_int_rmul (F.args_int_rmul_2 _ _) (int_rmul_tuple k tk l its.toArray n dd sl)
          ⟨ho, rfl, ⟨_, ho, rfl⟩, call_meets F.slot_tuple_mul ⟨_, ho, rfl⟩ F.entry_tuple_mul (F.args_tuple_mul_2 _ _) (tuple_mulW l its.toArray n dd sl k tk c0 c1' c2' (by omega) c4 (by rw [size_rep, List.size_toArray]; exact flen)) ⟨ho, ?_⟩⟩)
      rw [size_rep]
      exact ep_tup (us := (List.replicate k.toNat its).flatten) I t (r.rep k.toNat) (by rw [(r.rep k.toNat).length]; exact flen) (r1.rep k.toNat) q s.toks
theorem mul_ok : Op2R X (binaryOp .Mult) (binV .mul) := by
  intro pins s σ H x y v u Q I rx ry h
  obtain ⟨O, a, b, w, t, ra, rb, e, q⟩ := h
  cases a <;> cases b <;> simp only [binV] at e <;> first | cases e | skip
  · have e1 := ra.int; have e2 := rb.int
    subst e1; subst e2
    split at e
    · rename_i hm
      cases e
      obtain ⟨t1, rfl⟩ := rx
      obtain ⟨t2, rfl⟩ := ry
      exact PyProof.Rows.mul_int ⟨.int _, H, I.tok _, ⟨_, rfl⟩, q _ _ (new_sh (.int _))⟩ (mulOk_ok hm)
    · cases e
  · have e2 := rb.int
    subst e2
    split at e
    · rename_i hm
      cases e
      obtain ⟨a, vs, rfl, ta, ra⟩ := ra.tup
      exact rep_tups a _ v u pins s σ H Q I rx ry t ta ra hm.1 hm.2 q
    · cases e
  · have e2 := rb.int
    subst e2
    split at e
    · rename_i hm
      cases e
      obtain ⟨a, vs, rfl, ta, ra⟩ := ra.lst
      exact op_rep pins s σ H _ _ v u Q I rx ry ⟨a, _, vs, rfl, rfl, ta, hm.1, hm.2.1, (by rw [ra.length, sizeLine_eq]; exact hm.2.2), fun p hp => q _ _ (new_lst hp (ra.rep _))⟩
    · cases e
theorem ints_ok {f : Value → Value → Sem Value} {g : D → D → Option Val} {C : Int → Int → Prop} {h : Int → Int → Int} (r : OpR X f (rI C fun i j => .int (h i j)))
    (hg : ∀ a b w, g a b = some w → ∃ i j, a = .int i ∧ b = .int j ∧ C i j ∧ w = .sh (.int (h i j))) : Op2R X f g := by
  intro pins s σ H x y v u Q I rx ry z
  obtain ⟨O, a, b, w, t, ra, rb, e, q⟩ := z
  obtain ⟨i, j, rfl, rfl, hc, rfl⟩ := hg a b w e
  have e1 := ra.int; have e2 := rb.int
  subst e1; subst e2
  exact r pins s σ H _ _ v u Q I rx ry ⟨i, j, rfl, rfl, hc, q _ _ (new_sh (.int _))⟩
theorem log_lt {j : Int} (h : j.natAbs < 2 ^ 4000) : j.natAbs.log2 < 9000 := Nat.lt_of_lt_of_le (PySem.Flt.log2_lt_of (by decide) h) (by decide)
theorem fdiv_ok : Op2R X (binaryOp .FloorDiv) (binV .fdiv) :=
  ints_ok (C := fun _ j => j ≠ 0 ∧ j.natAbs < 2 ^ 4000) (h := fun i j => i.fdiv j) (opI fun _ _ _ _ _ _ _ hc q => PyProof.Rows.floordiv_int hc.1 q (.inl (PyProof.noPylong_of_log2 (log_lt hc.2)))) fun a b w e => by
    cases a <;> cases b <;> simp only [binV] at e <;> first | cases e | skip
    split at e
    · cases e; exact ⟨_, _, rfl, rfl, by assumption, rfl⟩
    · cases e
theorem mod_ok : Op2R X (binaryOp .Mod) (binV .mod) :=
  ints_ok (h := fun i j => i.fmod j) op_modN fun a b w e => by
    cases a <;> cases b <;> simp only [binV] at e <;> first | cases e | skip
    split at e
    · cases e; exact ⟨_, _, rfl, rfl, by assumption, rfl⟩
    · cases e
theorem pow_ok : Op2R X (binaryOp .Pow) (binV .pow) :=
  ints_ok (h := fun i j => i ^ j.toNat) op_pow fun a b w e => by
    cases a <;> cases b <;> simp only [binV] at e <;> first | cases e | skip
    split at e
    · cases e; exact ⟨_, _, rfl, rfl, by assumption, rfl⟩
    · cases e
theorem shl_ok : Op2R X (binaryOp .LShift) (binV .shl) :=
  ints_ok (h := fun i j => i * 2 ^ j.toNat) op_shl fun a b w e => by
    cases a <;> cases b <;> simp only [binV] at e <;> first | cases e | skip
    split at e
    · cases e; exact ⟨_, _, rfl, rfl, by assumption, rfl⟩
    · cases e
theorem shr_ok : Op2R X (binaryOp .RShift) (binV .shr) :=
  ints_ok (h := fun i j => i / 2 ^ j.toNat) op_shr fun a b w e => by
    cases a <;> cases b <;> simp only [binV] at e <;> first | cases e | skip
    split at e
    · cases e; exact ⟨_, _, rfl, rfl, by assumption, rfl⟩
    · cases e
theorem opI0' {f : Value → Value → Sem Value} {h : Int → Int → Int} (r : OpR X f (rI0 fun i j => .int (h i j))) : OpR X f (rI (fun _ _ => True) fun i j => .int (h i j)) := fun pins s σ H x y v u Q I rx ry ⟨i, j, e1, e2, _, q⟩ =>
  r pins s σ H x y v u Q I rx ry ⟨i, j, e1, e2, q⟩
theorem band_ok : Op2R X (binaryOp .BitAnd) (binV .band) :=
  ints_ok (h := fun i j => Builtin.bitAnd i j) (opI0' op_and) fun a b w e => by
    cases a <;> cases b <;> simp only [binV] at e <;> first | cases e | skip
    exact ⟨_, _, rfl, rfl, trivial, rfl⟩
theorem bor_ok : Op2R X (binaryOp .BitOr) (binV .bor) :=
  ints_ok (h := fun i j => Builtin.bitOr i j) (opI0' op_or) fun a b w e => by
    cases a <;> cases b <;> simp only [binV] at e <;> first | cases e | skip
    exact ⟨_, _, rfl, rfl, trivial, rfl⟩
/-- the operator of the text -/
def opOf : BOp → Operator
  | .add => .Add | .sub => .Sub | .mul => .Mult | .fdiv => .FloorDiv | .mod => .Mod | .pow => .Pow | .shl => .LShift | .shr => .RShift | .band => .BitAnd | .bor => .BitOr
theorem bin_ok : ∀ o : BOp, Op2R X (binaryOp (opOf o)) (binV o)
  | .add => add_ok | .sub => sub_ok | .mul => mul_ok | .fdiv => fdiv_ok | .mod => mod_ok | .pow => pow_ok | .shl => shl_ok | .shr => shr_ok | .band => band_ok | .bor => bor_ok
end
end Lw
set_option linter.all false
set_option Elab.async false
set_option maxRecDepth 100000
set_option maxHeartbeats 1000000
namespace Lw
open PySem PySem.Spec L2

/-! ## equality -/
section
variable {K : PySem.W.Frag} {O : OS} {H : Hp}
mutual
theorem dp_rp : ∀ {v : V} {d : D}, plainD d = true → Rp K O H v d → Dp K H v (toPy d)
  | _, .non, _, h => by cases h; exact .non
  | _, .bl b, _, h => by cases h; exact .bl b
  | _, .int i, _, h => by cases h; exact .int i
  | _, .str x, _, h => by cases h; exact .str x
  | _, .tup xs, p, h => by
    cases h with
    | tup h1 h2 => exact .tup h1.sq (dps_rp (by simpa [plainD] using p) h2)
  | _, .lst xs, p, h => by
    cases h with
    | lst h0 h1 h2 => exact .lst (.of h1) (dps_rp (by simpa [plainD] using p) h2)
  | _, .ro _, p, _ => by simp [plainD] at p
  | _, .set _, p, _ => by simp [plainD] at p
  | _, .exn _, p, _ => by simp [plainD] at p
theorem dps_rp : ∀ {vs : List V} {ds : List D}, plainDs ds = true → RpL K O H vs ds → DpAll K H vs (toPys ds)
  | _, [], _, h => by cases h; exact .nil
  | _, d :: ds, p, h => by
    simp only [plainDs, Bool.and_eq_true] at p
    cases h with
    | cons h1 h2 => exact .cons (dp_rp p.1 h1) (dps_rp p.2 h2)
end
theorem dp_rt {v : V} {d : D} (p : plainD d = true) (h : Rt K O H v d) : Dp K H v (toPy d) := by
  cases h with
  | sh h => exact dp_rp p h
  | own h1 h2 => exact .lst (.of h1) (dps_rp (by simpa [plainD] using p) h2)
end
mutual
theorem eqv_eq : ∀ a b : D, plainD a = true → plainD b = true → PyData.eqv (toPy a) (toPy b) = eqD a b
  | .non, b, _, h => by cases b <;> first | rfl | simp [plainD] at h
  | .bl _, b, _, h => by cases b <;> first | rfl | simp [plainD] at h
  | .int _, b, _, h => by cases b <;> first | rfl | simp [plainD] at h
  | .str _, b, _, h => by cases b <;> first | rfl | simp [plainD] at h
  | .tup xs, b, p, h => by
    cases b with
    | tup ys =>
      simp only [toPy, PyData.eqv, eqD]
      exact eqvs_eq xs ys (by simpa [plainD] using p) (by simpa [plainD] using h)
    | ro _ => simp [plainD] at h
    | set _ => simp [plainD] at h
    | exn _ => simp [plainD] at h
    | _ => simp [toPy, PyData.eqv, eqD]
  | .lst xs, b, p, h => by
    cases b with
    | lst ys =>
      simp only [toPy, PyData.eqv, eqD]
      exact eqvs_eq xs ys (by simpa [plainD] using p) (by simpa [plainD] using h)
    | ro _ => simp [plainD] at h
    | set _ => simp [plainD] at h
    | exn _ => simp [plainD] at h
    | _ => simp [toPy, PyData.eqv, eqD]
  | .ro _, _, p, _ => by simp [plainD] at p
  | .set _, _, p, _ => by simp [plainD] at p
  | .exn _, _, p, _ => by simp [plainD] at p
theorem eqvs_eq : ∀ a b : List D, plainDs a = true → plainDs b = true → PyData.eqvAll (toPys a) (toPys b) = eqDs a b
  | [], [], _, _ => by simp [toPys, PyData.eqvAll, eqDs]
  | [], _ :: _, _, _ => by simp [toPys, PyData.eqvAll, eqDs]
  | _ :: _, [], _, _ => by simp [toPys, PyData.eqvAll, eqDs]
  | x :: xs, y :: ys, p, q => by
    simp only [plainDs, Bool.and_eq_true] at p q
    simp only [toPys, PyData.eqvAll, eqDs]
    rw [eqv_eq x y p.1 q.1, eqvs_eq xs ys p.2 q.2]
end
mutual
theorem lay_eq : ∀ a : D, plainD a = true → (toPy a).canLay0 = true
  | .non, _ => rfl
  | .bl _, _ => rfl
  | .int _, _ => rfl
  | .str x, h => by
    simp only [toPy, PyData.canLay0]
    simpa [plainD, PySem.PyData.strOk] using h
  | .tup xs, h => by simp only [toPy, PyData.canLay0]; exact lays_eq xs (by simpa [plainD] using h)
  | .lst xs, h => by simp only [toPy, PyData.canLay0]; exact lays_eq xs (by simpa [plainD] using h)
  | .ro _, p => by simp [plainD] at p
  | .set _, p => by simp [plainD] at p
  | .exn _, p => by simp [plainD] at p
theorem lays_eq : ∀ a : List D, plainDs a = true → PyData.canLayAll0 (toPys a) = true
  | [], _ => by simp [toPys, PyData.canLayAll0]
  | x :: xs, p => by
    simp only [plainDs, Bool.and_eq_true] at p
    simp only [toPys, PyData.canLayAll0, lay_eq x p.1, lays_eq xs p.2, Bool.and_self]
end
mutual
theorem dep_eq : ∀ a : D, (toPy a).depth ≤ depD a
  | .non => Nat.zero_le _
  | .bl _ => Nat.zero_le _
  | .int _ => Nat.zero_le _
  | .str x => Nat.zero_le _
  | .tup xs => by simp only [toPy, PyData.depth, depD]; exact Nat.succ_le_succ (deps_eq xs)
  | .lst xs => by simp only [toPy, PyData.depth, depD]; exact Nat.succ_le_succ (deps_eq xs)
  | .ro _ => Nat.zero_le _
  | .set _ => Nat.zero_le _
  | .exn _ => Nat.zero_le _
theorem deps_eq : ∀ a : List D, PyData.depthAll (toPys a) ≤ depDs a
  | [] => by simp [toPys, PyData.depthAll]
  | x :: xs => by
    simp only [toPys, PyData.depthAll, depDs]
    have h1 := dep_eq x
    have h2 := deps_eq xs
    omega
end
theorem okD_plain {d : D} (h : okD d = true) : plainD d = true := (Bool.and_eq_true _ _ ▸ h).1
theorem shaped_ok {d : D} (h : okD d = true) : SeqAt.shaped (toPy d) = true := by
  unfold okD at h
  rw [Bool.and_eq_true] at h
  have h1 := of_decide_eq_true h.2
  have h2 := dep_eq d
  show ((toPy d).canLay0 && decide ((toPy d).depth ≤ 64)) = true
  rw [Bool.and_eq_true]
  exact ⟨lay_eq d h.1, decide_eq_true (by omega)⟩
theorem any_eqv {x : D} (hx : plainD x = true) : ∀ ys : List D, plainDs ys = true → ((toPys ys).any fun z => PyData.eqv z (toPy x)) = inD x ys
  | [], _ => rfl
  | y :: ys, h => by
    simp only [plainDs, Bool.and_eq_true] at h
    have ih := any_eqv hx ys h.2
    unfold inD at ih ⊢
    simp only [toPys, List.any_cons]
    rw [ih, eqv_eq y x h.1 hx]

def copOf : COp → CmpOp
  | .eq => .Eq | .ne => .NotEq | .lt => .Lt | .le => .LtE | .gt => .Gt | .ge => .GtE | .isIn => .In | .notIn => .NotIn
def CmpR (X : Cx) (o : COp) : Prop := OpR X (compareOp (copOf o)) fun x y H Q => ∃ O a b k, Rt X.K O H x a ∧ Rt X.K O H y b ∧ cmpV o a b = some k ∧ Q (.bl k) H
section
variable {X : Cx}
theorem op_inT (hu : X.A.units + 65 < cLine) : OpR X (compareOp .In) (fun x y H Q => ∃ d ds, Dp X.K H x d ∧ Dp X.K H y (.tuple ds) ∧ SeqAt.shaped d = true ∧ SeqAt.shaped (.tuple ds) = true ∧ Q (.bl (ds.any fun z => PyData.eqv z d)) H) := by
  intro pins s σ H x y v u Q I rx ry h
  obtain ⟨d, ds, hd, he, sd, se, q⟩ := h
  obtain ⟨as, r1⟩ := Dp.reads I d x v hd rx
  obtain ⟨bs, r2⟩ := Dp.reads I (.tuple ds) y u he ry
  exact SeqAt.in_tuple_reads r2 r1 (SeqAt.canLay_of_shaped se) (SeqAt.canLay_of_shaped sd) (PyProof.Rows.room_in_shaped sd hu) ⟨.bl _, H, I, rfl, q⟩
theorem op_notInT (hu : X.A.units + 65 < cLine) : OpR X (compareOp .NotIn) (fun x y H Q => ∃ d ds, Dp X.K H x d ∧ Dp X.K H y (.tuple ds) ∧ SeqAt.shaped d = true ∧ SeqAt.shaped (.tuple ds) = true ∧ Q (.bl (!ds.any fun z => PyData.eqv z d)) H) := by
  intro pins s σ H x y v u Q I rx ry h
  obtain ⟨d, ds, hd, he, sd, se, q⟩ := h
  obtain ⟨as, r1⟩ := Dp.reads I d x v hd rx
  obtain ⟨bs, r2⟩ := Dp.reads I (.tuple ds) y u he ry
  exact SeqAt.notIn_tuple_reads r2 r1 (SeqAt.canLay_of_shaped se) (SeqAt.canLay_of_shaped sd) (PyProof.Rows.room_in_shaped sd hu) ⟨.bl _, H, I, rfl, q⟩
theorem okD_dep {d : D} (h : okD d = true) : (toPy d).depth ≤ 60 := by
  unfold okD at h
  rw [Bool.and_eq_true] at h
  exact Nat.le_trans (dep_eq d) (of_decide_eq_true h.2)
theorem ordV_inv {a b : D} {k k' : Bool} (h : ordV a b k = some k') : (okD a = true ∧ okD b = true ∧ alkD a b = true) ∧ k = k' := by
  unfold ordV at h
  split at h
  · rename_i hc
    rw [Bool.and_eq_true, Bool.and_eq_true] at hc
    cases h
    exact ⟨⟨hc.1.1, hc.1.2, hc.2⟩, rfl⟩
  · cases h
theorem ord_lt (hu : X.A.units + 65 < cLine) : OpR X (compareOp .Lt) (fun x y H Q => ∃ O a b, Rt X.K O H x a ∧ Rt X.K O H y b ∧ okD a = true ∧ okD b = true ∧ alkD a b = true ∧ toPy a ≠ .none ∧ Q (.bl (ltD a b)) H) := by
  intro pins s σ H x y v u Q I rx ry h
  obtain ⟨O, a, b, ra, rb, oa, ob, al, hn, q⟩ := h
  obtain ⟨as, r1⟩ := Dp.reads I (toPy a) x v (dp_rt (okD_plain oa) ra) rx
  obtain ⟨bs, r2⟩ := Dp.reads I (toPy b) y u (dp_rt (okD_plain ob) rb) ry
  exact PySem.W.lt_data r1 r2 al hn (by have := okD_dep oa; omega) ⟨.bl _, H, I, rfl, q⟩
theorem ord_gt (hu : X.A.units + 65 < cLine) : OpR X (compareOp .Gt) (fun x y H Q => ∃ O a b, Rt X.K O H x a ∧ Rt X.K O H y b ∧ okD a = true ∧ okD b = true ∧ alkD a b = true ∧ toPy a ≠ .none ∧ Q (.bl (ltD b a)) H) := by
  intro pins s σ H x y v u Q I rx ry h
  obtain ⟨O, a, b, ra, rb, oa, ob, al, hn, q⟩ := h
  obtain ⟨as, r1⟩ := Dp.reads I (toPy a) x v (dp_rt (okD_plain oa) ra) rx
  obtain ⟨bs, r2⟩ := Dp.reads I (toPy b) y u (dp_rt (okD_plain ob) rb) ry
  exact PySem.W.gt_data r1 r2 al hn (by have := okD_dep oa; omega) ⟨.bl _, H, I, rfl, q⟩
theorem ord_le (hu : X.A.units + 65 < cLine) : OpR X (compareOp .LtE) (fun x y H Q => ∃ O a b, Rt X.K O H x a ∧ Rt X.K O H y b ∧ okD a = true ∧ okD b = true ∧ alkD a b = true ∧ toPy a ≠ .none ∧ Q (.bl (!ltD b a)) H) := by
  intro pins s σ H x y v u Q I rx ry h
  obtain ⟨O, a, b, ra, rb, oa, ob, al, hn, q⟩ := h
  obtain ⟨as, r1⟩ := Dp.reads I (toPy a) x v (dp_rt (okD_plain oa) ra) rx
  obtain ⟨bs, r2⟩ := Dp.reads I (toPy b) y u (dp_rt (okD_plain ob) rb) ry
  exact PySem.W.le_data r1 r2 al hn (by have := okD_dep oa; omega) ⟨.bl _, H, I, rfl, q⟩
theorem ord_ge (hu : X.A.units + 65 < cLine) : OpR X (compareOp .GtE) (fun x y H Q => ∃ O a b, Rt X.K O H x a ∧ Rt X.K O H y b ∧ okD a = true ∧ okD b = true ∧ alkD a b = true ∧ toPy a ≠ .none ∧ Q (.bl (!ltD a b)) H) := by
  intro pins s σ H x y v u Q I rx ry h
  obtain ⟨O, a, b, ra, rb, oa, ob, al, hn, q⟩ := h
  obtain ⟨as, r1⟩ := Dp.reads I (toPy a) x v (dp_rt (okD_plain oa) ra) rx
  obtain ⟨bs, r2⟩ := Dp.reads I (toPy b) y u (dp_rt (okD_plain ob) rb) ry
  exact PySem.W.ge_data r1 r2 al hn (by have := okD_dep oa; omega) ⟨.bl _, H, I, rfl, q⟩
theorem cmp_ok (hu : X.A.units + 65 < cLine) : ∀ o : COp, CmpR X o
  | .eq => by
    intro pins s σ H x y v u Q I rx ry h
    obtain ⟨O, a, b, k, ra, rb, e, q⟩ := h
    simp only [cmpV] at e
    split at e
    · rename_i hk
      rw [Bool.and_eq_true] at hk
      cases e
      refine op_eqD (by omega) pins s σ H x y v u Q I rx ry ⟨_, _, dp_rt (okD_plain hk.1) ra, dp_rt (okD_plain hk.2) rb, shaped_ok hk.1, shaped_ok hk.2, ?_⟩
      rw [eqv_eq _ _ (okD_plain hk.1) (okD_plain hk.2)]
      exact q
    · cases e
  | .ne => by
    intro pins s σ H x y v u Q I rx ry h
    obtain ⟨O, a, b, k, ra, rb, e, q⟩ := h
    simp only [cmpV] at e
    split at e
    · rename_i hk
      rw [Bool.and_eq_true] at hk
      cases e
      refine op_neD (by omega) pins s σ H x y v u Q I rx ry ⟨_, _, dp_rt (okD_plain hk.1) ra, dp_rt (okD_plain hk.2) rb, shaped_ok hk.1, shaped_ok hk.2, ?_⟩
      rw [eqv_eq _ _ (okD_plain hk.1) (okD_plain hk.2)]
      exact q
    · cases e
  | .lt => by
    intro pins s σ H x y v u Q I rx ry h
    obtain ⟨O, a, b, k, ra, rb, e, q⟩ := h
    cases a <;> cases b <;> simp only [cmpV] at e <;> first | (cases e; done) | skip
    · cases e
      have e1 := ra.int; have e2 := rb.int
      subst e1; subst e2
      exact op_lt pins s σ H _ _ v u Q I rx ry ⟨_, _, rfl, rfl, q⟩
    · obtain ⟨⟨oa, ob, al⟩, rfl⟩ := ordV_inv e
      exact ord_lt hu pins s σ H _ _ v u Q I rx ry ⟨O, _, _, ra, rb, oa, ob, al, (by simp [toPy]), q⟩
    · obtain ⟨⟨oa, ob, al⟩, rfl⟩ := ordV_inv e
      exact ord_lt hu pins s σ H _ _ v u Q I rx ry ⟨O, _, _, ra, rb, oa, ob, al, (by simp [toPy]), q⟩
  | .gt => by
    intro pins s σ H x y v u Q I rx ry h
    obtain ⟨O, a, b, k, ra, rb, e, q⟩ := h
    cases a <;> cases b <;> simp only [cmpV] at e <;> first | (cases e; done) | skip
    · cases e
      have e1 := ra.int; have e2 := rb.int
      subst e1; subst e2
      exact op_gt pins s σ H _ _ v u Q I rx ry ⟨_, _, rfl, rfl, q⟩
    · obtain ⟨⟨oa, ob, al⟩, rfl⟩ := ordV_inv e
      exact ord_gt hu pins s σ H _ _ v u Q I rx ry ⟨O, _, _, ra, rb, oa, ob, al, (by simp [toPy]), q⟩
    · obtain ⟨⟨oa, ob, al⟩, rfl⟩ := ordV_inv e
      exact ord_gt hu pins s σ H _ _ v u Q I rx ry ⟨O, _, _, ra, rb, oa, ob, al, (by simp [toPy]), q⟩
  | .le => by
    intro pins s σ H x y v u Q I rx ry h
    obtain ⟨O, a, b, k, ra, rb, e, q⟩ := h
    cases a <;> cases b <;> simp only [cmpV] at e <;> first | (cases e; done) | skip
    · cases e
      have e1 := ra.int; have e2 := rb.int
      subst e1; subst e2
      exact op_le pins s σ H _ _ v u Q I rx ry ⟨_, _, rfl, rfl, q⟩
    · obtain ⟨⟨oa, ob, al⟩, rfl⟩ := ordV_inv e
      exact ord_le hu pins s σ H _ _ v u Q I rx ry ⟨O, _, _, ra, rb, oa, ob, al, (by simp [toPy]), q⟩
    · obtain ⟨⟨oa, ob, al⟩, rfl⟩ := ordV_inv e
      exact ord_le hu pins s σ H _ _ v u Q I rx ry ⟨O, _, _, ra, rb, oa, ob, al, (by simp [toPy]), q⟩
  | .ge => by
    intro pins s σ H x y v u Q I rx ry h
    obtain ⟨O, a, b, k, ra, rb, e, q⟩ := h
    cases a <;> cases b <;> simp only [cmpV] at e <;> first | (cases e; done) | skip
    · cases e
      have e1 := ra.int; have e2 := rb.int
      subst e1; subst e2
      exact op_ge pins s σ H _ _ v u Q I rx ry ⟨_, _, rfl, rfl, q⟩
    · obtain ⟨⟨oa, ob, al⟩, rfl⟩ := ordV_inv e
      exact ord_ge hu pins s σ H _ _ v u Q I rx ry ⟨O, _, _, ra, rb, oa, ob, al, (by simp [toPy]), q⟩
    · obtain ⟨⟨oa, ob, al⟩, rfl⟩ := ordV_inv e
      exact ord_ge hu pins s σ H _ _ v u Q I rx ry ⟨O, _, _, ra, rb, oa, ob, al, (by simp [toPy]), q⟩
  | .isIn => by
    intro pins s σ H x y v u Q I rx ry h
    obtain ⟨O, a, b, k, ra, rb, e, q⟩ := h
    cases b <;> simp only [cmpV] at e <;> first | cases e | skip
    · rename_i ys
      split at e
      · rename_i hk
        rw [Bool.and_eq_true] at hk
        cases e
        refine op_inT hu pins s σ H x y v u Q I rx ry ⟨_, toPys ys, dp_rt (okD_plain hk.1) ra, dp_rt (okD_plain hk.2) rb, shaped_ok hk.1, shaped_ok hk.2, ?_⟩
        rw [any_eqv (okD_plain hk.1) ys (by simpa [plainD] using okD_plain hk.2)]
        exact q
      · cases e
    · rename_i ys
      split at e
      · rename_i hk
        rw [Bool.and_eq_true] at hk
        cases e
        refine op_inD hu pins s σ H x y v u Q I rx ry ⟨_, toPys ys, dp_rt (okD_plain hk.1) ra, dp_rt (okD_plain hk.2) rb, shaped_ok hk.1, shaped_ok hk.2, ?_⟩
        rw [any_eqv (okD_plain hk.1) ys (by simpa [plainD] using okD_plain hk.2)]
        exact q
      · cases e
  | .notIn => by
    intro pins s σ H x y v u Q I rx ry h
    obtain ⟨O, a, b, k, ra, rb, e, q⟩ := h
    cases b <;> simp only [cmpV] at e <;> first | cases e | skip
    · rename_i ys
      split at e
      · rename_i hk
        rw [Bool.and_eq_true] at hk
        cases e
        refine op_notInT hu pins s σ H x y v u Q I rx ry ⟨_, toPys ys, dp_rt (okD_plain hk.1) ra, dp_rt (okD_plain hk.2) rb, shaped_ok hk.1, shaped_ok hk.2, ?_⟩
        rw [any_eqv (okD_plain hk.1) ys (by simpa [plainD] using okD_plain hk.2)]
        exact q
      · cases e
    · rename_i ys
      split at e
      · rename_i hk
        rw [Bool.and_eq_true] at hk
        cases e
        refine op_notInD hu pins s σ H x y v u Q I rx ry ⟨_, toPys ys, dp_rt (okD_plain hk.1) ra, dp_rt (okD_plain hk.2) rb, shaped_ok hk.1, shaped_ok hk.2, ?_⟩
        rw [any_eqv (okD_plain hk.1) ys (by simpa [plainD] using okD_plain hk.2)]
        exact q
      · cases e
end
end Lw
set_option linter.all false
set_option Elab.async false
set_option maxRecDepth 100000
set_option maxHeartbeats 1000000
namespace Lw
open PySem PySem.Spec L2

/-! ## places, slices -/
theorem ixP_eq : ixP = ixN := rfl
theorem ix_get {K : PySem.W.Frag} {O : OS} {H : Hp} {vs : List V} {ds : List D} (r : RpL K O H vs ds) {i : Int} {d : D} (h : ixL ds i = some d) : ∃ v, atI vs i = some v ∧ Rp K O H v d := by
  unfold ixL at h
  cases e : ixP ds.length i with
  | none => rw [e] at h; cases h
  | some j =>
    rw [e] at h
    obtain ⟨v, h1, h2⟩ := r.get (show ds[j]? = some d from h)
    refine ⟨v, ?_, h2⟩
    unfold atI
    rw [r.length, ← ixP_eq, e]
    exact h1
def IdxR (X : Cx) : R2 := fun x y H Q => ∃ O a b d, Rt X.K O H x a ∧ Rt X.K O H y b ∧ idxV a b = some d ∧ ∀ z, Rp X.K O H z d → Q z H
section
variable {X : Cx}
theorem idx_ok : IxR X (IdxR X) := by
  intro value slice pins s σ H x y v u Q I rx ry h hs
  obtain ⟨O, a, b, d, ra, rb, e, q⟩ := h
  cases a <;> cases b <;> simp only [idxV] at e <;> first | cases e | skip
  · have e2 := rb.int
    subst e2
    obtain ⟨p, vs, rfl, ta, ra⟩ := ra.tup
    obtain ⟨w, h1, h2⟩ := ix_get ra e
    exact ix_tup value slice pins s σ H _ _ v u Q I rx ry ⟨p, vs, _, w, rfl, rfl, ta.sq, h1, q w h2⟩ hs
  · have e2 := rb.int
    subst e2
    obtain ⟨p, vs, rfl, ta, ra⟩ := ra.lst
    obtain ⟨w, h1, h2⟩ := ix_get ra e
    exact ix_list value slice pins s σ H _ _ v u Q I rx ry ⟨p, vs, _, w, rfl, rfl, .of ta, h1, q w h2⟩ hs
  · have e2 := rb.int
    subst e2
    obtain ⟨p, vs, rfl, ta, ra⟩ := ra.ro
    obtain ⟨w, h1, h2⟩ := ix_get ra e
    exact ix_list value slice pins s σ H _ _ v u Q I rx ry ⟨p, vs, _, w, rfl, rfl, ta.sq, h1, q w h2⟩ hs
theorem cutL_rp {K : PySem.W.Frag} {O : OS} {H : Hp} {vs : List V} {ds : List D} (r : RpL K O H vs ds) (lo hi : Option Int) : RpL K O H (cutV vs lo hi) (cutL ds lo hi) := by
  rw [cut_eq]
  unfold cutL
  rw [r.length]
  exact (r.drop _).take _
def SlcR (X : Cx) : V → Option Int → Option Int → Hp → VK → Prop := fun x lo hi H Q => ∃ O a w, Trk O H ∧ Rt X.K O H x a ∧ slV a lo hi = some w ∧ ∀ z H', NewV X.K O H H' w z → Q z H'
theorem sl_ok : SlR X (SlcR X) := by
  intro pins s σ H x v vl vu lo hi sl Q I rx hs pl pu h
  obtain ⟨O, a, w, t, ra, e, q⟩ := h
  cases a <;> simp only [slV] at e <;> first | cases e | skip
  · obtain ⟨p, vs, rfl, ta, ra⟩ := ra.tup
    cases rx
    obtain ⟨its, r, ht, hz⟩ := I.tuple ta.sq
    have hlen : its.toArray.size = vs.length := by rw [List.size_toArray]; exact r.length.symm
    refine ⟨"tuple", _, PyProof.Rows.slot_tuple_getitem.lookup, ht.typeIs, ?_⟩
    by_cases hw : HT.sIx vs.length 0 lo = 0 ∧ HT.sIx vs.length vs.length hi = vs.length
    · refine getItem_tuple_whole ht hs pl pu (by rw [hlen]; exact hw) ⟨.ref p, H, I, rfl, ?_⟩
      have e2 : cutV vs lo hi = vs := by
        unfold cutV
        rw [hw.1, hw.2]
        simp
      have r2 := cutL_rp ra lo hi
      rw [e2] at r2
      exact q _ _ (new_sh (.tup ta r2))
    · refine HT.getItem_tuple_cut ht hs pl pu (by rw [hlen]; exact hw) ?_ (by rw [hlen]; exact hz)
      rw [hlen]
      exact ep_tup (us := (its.drop (HT.sIx vs.length 0 lo)).take (HT.sIx vs.length vs.length hi - HT.sIx vs.length 0 lo)) I t
        ((r.drop (HT.sIx vs.length 0 lo)).take (HT.sIx vs.length vs.length hi - HT.sIx vs.length 0 lo)) (Nat.le_trans (cutV_length vs lo hi) hz) (cutL_rp ra lo hi) q s.toks
  · obtain ⟨p, vs, rfl, ta, ra⟩ := ra.lst
    exact sl_list pins s σ H _ v vl vu lo hi sl Q I rx hs pl pu ⟨p, vs, rfl, .of ta, fun b hb => q _ _ (new_lst hb (cutL_rp ra lo hi))⟩

/-! ## built-in functions -/
/-- a call of a built-in with told values -/
def CallD (X : Cx) (f : Value) (b : BI) : Prop := CallR X f fun xs H Q => ∃ O ds w, Trk O H ∧ Paired (Rt X.K O H) xs ds ∧ biV b ds = some w ∧ ∀ z H', NewV X.K O H H' w z → Q z H'
theorem ints_rp {K : PySem.W.Frag} {O : OS} {H : Hp} : ∀ {vs : List V} {ds : List D} {ns : List Int}, intsOf ds = some ns → RpL K O H vs ds → vs = ns.map V.int
  | _, [], _, e, h => by cases e; cases h; rfl
  | _, d :: ds, ns, e, h => by
    cases d with
    | int i =>
      simp only [intsOf] at e
      cases e2 : intsOf ds with
      | none => rw [e2] at e; cases e
      | some ms =>
        rw [e2] at e; cases e
        cases h with
        | cons h1 h2 =>
          cases h1
          rw [ints_rp e2 h2]; rfl
    | _ => simp [intsOf] at e
theorem bls_rp {K : PySem.W.Frag} {O : OS} {H : Hp} : ∀ {vs : List V} {ds : List D} {ns : List Bool}, blsOf ds = some ns → RpL K O H vs ds → vs = ns.map V.bl
  | _, [], _, e, h => by cases e; cases h; rfl
  | _, d :: ds, ns, e, h => by
    cases d with
    | bl i =>
      simp only [blsOf] at e
      cases e2 : blsOf ds with
      | none => rw [e2] at e; cases e
      | some ms =>
        rw [e2] at e; cases e
        cases h with
        | cons h1 h2 =>
          cases h1
          rw [bls_rp e2 h2]; rfl
    | _ => simp [blsOf] at e
/-- the arguments of one, two -/
theorem fa1 {α β : Type} {R : α → β → Prop} {xs : List α} {d : β} (h : Paired R xs [d]) : ∃ x, xs = [x] ∧ R x d := by
  cases h with | cons h1 h2 => cases h2; exact ⟨_, rfl, h1⟩
theorem fa2 {α β : Type} {R : α → β → Prop} {xs : List α} {d e : β} (h : Paired R xs [d, e]) : ∃ x y, xs = [x, y] ∧ R x d ∧ R y e := by
  cases h with | cons h1 h2 => cases h2 with | cons h3 h4 => cases h4; exact ⟨_, _, rfl, h1, h3⟩
theorem fa3 {α β : Type} {R : α → β → Prop} {xs : List α} {d e f : β} (h : Paired R xs [d, e, f]) : ∃ x y z, xs = [x, y, z] ∧ R x d ∧ R y e ∧ R z f := by
  cases h with | cons h1 h2 => cases h2 with | cons h3 h4 => cases h4 with | cons h5 h6 => cases h6; exact ⟨_, _, _, rfl, h1, h3, h5⟩
theorem v3V {x y z : V} {us : List Value} (r : Vals [x, y, z] us) : ∃ u w' t', us = [u, w', t'] ∧ RelV x u ∧ RelV y w' ∧ RelV z t' := by
  cases r with | cons h1 h2 => cases h2 with | cons h3 h4 => cases h4 with | cons h5 h6 => cases h6; exact ⟨_, _, _, rfl, h1, h3, h5⟩
/-- lists of one thing -/
theorem bi_one {f : Value} {b : BI} (hb : ∀ ds w, biV b ds = some w → ∃ d, ds = [d])
    (h : ∀ (pins : List (Addr × Obj)) (s : Shared) (σ : SS) (H : Hp) (x : V) (u : Value) (Q : VK) (O : OS) (d : D) (w : Val), Inv X pins σ H s → RelV x u → Trk O H → Rt X.K O H x d → biV b [d] = some w → (∀ z H', NewV X.K O H H' w z → Q z H') →
      wpAny (model X.prog X.w) X.A (call f [u]) (EP X pins σ Q) X.xe s) : CallD X f b := by
  intro pins s σ H xs us Q I r ⟨O, ds, w, t, fr, e, q⟩
  obtain ⟨d, rfl⟩ := hb ds w e
  obtain ⟨x, rfl, rx⟩ := fa1 fr
  obtain ⟨u, rfl, ru⟩ := vals1 r
  exact h pins s σ H x u Q O d w I ru t rx e q
theorem bi_len : CallD X (.builtin "len") .len := bi_one (fun ds w e => by rcases ds with _ | ⟨d, _ | ⟨d2, r⟩⟩ <;> first | exact ⟨d, rfl⟩ | (simp [biV] at e)) fun pins s σ H x u Q O d w I ru t rx e q => by
  cases d <;> simp only [biV] at e <;> first | cases e | skip
  · obtain ⟨p, vs, rfl, ta, ra⟩ := rx.tup
    refine call_len_seq pins s σ H [.ref p] [u] Q I (.cons ru .nil) ⟨p, vs, rfl, .inr ta.sq, ?_⟩
    rw [ra.length]; exact q _ _ (new_sh (.int _))
  · obtain ⟨p, vs, rfl, ta, ra⟩ := rx.lst
    refine call_len_seq pins s σ H [.ref p] [u] Q I (.cons ru .nil) ⟨p, vs, rfl, .inl (.of ta), ?_⟩
    rw [ra.length]; exact q _ _ (new_sh (.int _))
  · obtain ⟨p, vs, rfl, ta, ra⟩ := rx.ro
    refine call_len_seq pins s σ H [.ref p] [u] Q I (.cons ru .nil) ⟨p, vs, rfl, .inl ta.sq, ?_⟩
    rw [ra.length]; exact q _ _ (new_sh (.int _))
theorem bi_int : CallD X (.type "int") .int := bi_one (fun ds w e => by rcases ds with _ | ⟨d, _ | ⟨d2, r⟩⟩ <;> first | exact ⟨d, rfl⟩ | (simp [biV] at e)) fun pins s σ H x u Q O d w I ru t rx e q => by
  cases d <;> simp only [biV] at e <;> first | cases e | skip
  · have e1 := rx.bl
    subst e1
    exact call_int1 pins s σ H [.bl _] [u] Q I (.cons ru .nil) (.inr ⟨_, rfl, q _ _ (new_sh (.int _))⟩)
  · have e1 := rx.int
    subst e1
    exact call_int1 pins s σ H [.int _] [u] Q I (.cons ru .nil) (.inl ⟨_, rfl, q _ _ (new_sh (.int _))⟩)
theorem bi_abs : CallD X (.builtin "abs") .abs := bi_one (fun ds w e => by rcases ds with _ | ⟨d, _ | ⟨d2, r⟩⟩ <;> first | exact ⟨d, rfl⟩ | (simp [biV] at e)) fun pins s σ H x u Q O d w I ru t rx e q => by
  cases d <;> simp only [biV] at e <;> first | cases e | skip
  rename_i i
  have e1 := rx.int
  subst e1
  refine call_abs pins s σ H [.int _] [u] Q I (.cons ru .nil) ⟨_, rfl, ?_⟩
  have e2 : (if i < 0 then -i else i) = (i.natAbs : Int) := by split <;> omega
  rw [e2]
  exact q _ _ (new_sh (.int _))
theorem cr_sumT (hc : X.calm = true) : CallR X (.builtin "sum") fun vs H Q => ∃ (a : Addr) (ns : List Int), vs = [V.ref a] ∧ SqT X.K H a (ns.map V.int) ∧ Q (.int ns.sum) H := by
  intro pins s σ H vs us Q I r h
  obtain ⟨a, ns, rfl, hs, q⟩ := h
  obtain ⟨its, rv, hl, _⟩ := I.tuple hs
  rw [Vals.ref1 r]
  have hi := rv.ints
  have hl' : s.heap.IsTuple a its.toArray := hl
  obtain ⟨xs, hx⟩ := hi.allInts.items
  have hn : PySem.numsOf (intItems xs).toList = ns := by rw [← hx]; exact hi.numsOf
  rw [nums_intItems] at hn
  rw [hx] at hl'
  refine PySem.W.ktm_sumG (I.ok.hd hc) hl' fun h' tk t' hk => ?_
  rw [preSum_eq, List.take_of_length_le (by simp), hn]
  exact ⟨.int _, H, I.kept hk, ⟨_, rfl⟩, q⟩
theorem bi_sum (hc : X.calm = true) : CallD X (.builtin "sum") .sum := bi_one (fun ds w e => by rcases ds with _ | ⟨d, _ | ⟨d2, r⟩⟩ <;> first | exact ⟨d, rfl⟩ | (simp [biV] at e)) fun pins s σ H x u Q O d w I ru t rx e q => by
  cases d <;> simp only [biV] at e <;> first | cases e | skip
  · obtain ⟨p, vs, rfl, ta, ra⟩ := rx.tup
    rename_i xs
    cases e2 : intsOf xs with
    | none => rw [e2] at e; cases e
    | some ns =>
      rw [e2] at e; cases e
      rw [ints_rp e2 ra] at ta
      exact cr_sumT hc pins s σ H [.ref p] [u] Q I (.cons ru .nil) ⟨p, ns, rfl, ta.sq, q _ _ (new_sh (.int _))⟩
  · obtain ⟨p, vs, rfl, ta, ra⟩ := rx.lst
    rename_i xs
    cases e2 : intsOf xs with
    | none => rw [e2] at e; cases e
    | some ns =>
      rw [e2] at e; cases e
      rw [ints_rp e2 ra] at ta
      exact cr_sum hc pins s σ H [.ref p] [u] Q I (.cons ru .nil) ⟨p, ns, rfl, .of ta, q _ _ (new_sh (.int _))⟩
theorem bi_any (hc : X.calm = true) : CallD X (.builtin "any") .any := bi_one (fun ds w e => by rcases ds with _ | ⟨d, _ | ⟨d2, r⟩⟩ <;> first | exact ⟨d, rfl⟩ | (simp [biV] at e)) fun pins s σ H x u Q O d w I ru t rx e q => by
  cases d <;> simp only [biV] at e <;> first | cases e | skip
  obtain ⟨p, vs, rfl, ta, ra⟩ := rx.lst
  rename_i xs
  cases e2 : blsOf xs with
  | none => rw [e2] at e; cases e
  | some ns =>
    rw [e2] at e; cases e
    rw [bls_rp e2 ra] at ta
    exact cr_any hc pins s σ H [.ref p] [u] Q I (.cons ru .nil) ⟨p, ns, rfl, .of ta, q _ _ (new_sh (.bl _))⟩
theorem bi_all (hc : X.calm = true) : CallD X (.builtin "all") .all := bi_one (fun ds w e => by rcases ds with _ | ⟨d, _ | ⟨d2, r⟩⟩ <;> first | exact ⟨d, rfl⟩ | (simp [biV] at e)) fun pins s σ H x u Q O d w I ru t rx e q => by
  cases d <;> simp only [biV] at e <;> first | cases e | skip
  obtain ⟨p, vs, rfl, ta, ra⟩ := rx.lst
  rename_i xs
  cases e2 : blsOf xs with
  | none => rw [e2] at e; cases e
  | some ns =>
    rw [e2] at e; cases e
    rw [bls_rp e2 ra] at ta
    exact cr_all hc pins s σ H [.ref p] [u] Q I (.cons ru .nil) ⟨p, ns, rfl, .of ta, q _ _ (new_sh (.bl _))⟩
theorem bi_tuple : CallD X (.type "tuple") .tuple := bi_one (fun ds w e => by rcases ds with _ | ⟨d, _ | ⟨d2, r⟩⟩ <;> first | exact ⟨d, rfl⟩ | (simp [biV] at e)) fun pins s σ H x u Q O d w I ru t rx e q => by
  cases d <;> simp only [biV] at e <;> first | cases e | skip
  · obtain ⟨p, vs, rfl, ta, ra⟩ := rx.tup
    cases ru
    obtain ⟨its, r', pl, hz⟩ := I.tuple ta.sq
    exact call_tuple_same pl ⟨.ref p, H, I, rfl, q _ _ (new_sh (.tup ta ra))⟩
  · obtain ⟨p, vs, rfl, ta, ra⟩ := rx.lst
    cases ru
    obtain ⟨its, r', pl, hz⟩ := I.list (.of ta)
    have hlen := r'.length
    refine call_tuple_list pl.isList (fun h' kp => ?_) (by simp only [List.size_toArray] <;> omega)
    have I1 : Inv X pins σ H { s with heap := h' } := I.kept (t' := s.toks) kp
    exact ep_tup (us := its) I1 t r' hz ra q s.toks
theorem bi_list : CallD X (.type "list") .list := bi_one (fun ds w e => by rcases ds with _ | ⟨d, _ | ⟨d2, r⟩⟩ <;> first | exact ⟨d, rfl⟩ | (simp [biV] at e)) fun pins s σ H x u Q O d w I ru t rx e q => by
  cases d <;> simp only [biV] at e <;> first | cases e | skip
  · obtain ⟨p, vs, rfl, ta, ra⟩ := rx.tup
    exact call_list_of pins s σ H [.ref p] [u] Q I (.cons ru .nil) ⟨p, vs, rfl, .inr ta.sq, fun l hl => q _ _ (new_lst hl ra)⟩
  · obtain ⟨p, vs, rfl, ta, ra⟩ := rx.lst
    exact call_list_of pins s σ H [.ref p] [u] Q I (.cons ru .nil) ⟨p, vs, rfl, .inl (.of ta), fun l hl => q _ _ (new_lst hl ra)⟩
theorem toPys_map : ∀ xs : List D, toPys xs = xs.map toPy
  | [] => rfl
  | x :: xs => by simp [toPys, toPys_map xs]
mutual
theorem toPy_inj : ∀ {a b : D}, plainD a = true → plainD b = true → toPy a = toPy b → a = b
  | .non, b, _, h, e => by cases b <;> first | rfl | (simp [toPy] at e; done) | simp [plainD] at h
  | .bl _, b, _, h, e => by cases b <;> first | (simp [toPy] at e; subst e; rfl) | (simp [toPy] at e; done) | simp [plainD] at h
  | .int _, b, _, h, e => by cases b <;> first | (simp [toPy] at e; subst e; rfl) | (simp [toPy] at e; done) | simp [plainD] at h
  | .str _, b, _, h, e => by cases b <;> first | (simp [toPy] at e; subst e; rfl) | (simp [toPy] at e; done) | simp [plainD] at h
  | .tup xs, b, p, h, e => by
    cases b with
    | tup ys =>
      simp only [toPy, PyData.tuple.injEq] at e
      rw [toPys_inj (by simpa [plainD] using p) (by simpa [plainD] using h) e]
    | ro _ => simp [plainD] at h
    | set _ => simp [plainD] at h
    | exn _ => simp [plainD] at h
    | _ => simp [toPy] at e
  | .lst xs, b, p, h, e => by
    cases b with
    | lst ys =>
      simp only [toPy, PyData.list.injEq] at e
      rw [toPys_inj (by simpa [plainD] using p) (by simpa [plainD] using h) e]
    | ro _ => simp [plainD] at h
    | set _ => simp [plainD] at h
    | exn _ => simp [plainD] at h
    | _ => simp [toPy] at e
  | .ro _, _, p, _, _ => by simp [plainD] at p
  | .set _, _, p, _, _ => by simp [plainD] at p
  | .exn _, _, p, _, _ => by simp [plainD] at p
theorem toPys_inj : ∀ {a b : List D}, plainDs a = true → plainDs b = true → toPys a = toPys b → a = b
  | [], [], _, _, _ => rfl
  | [], _ :: _, _, _, e => by simp [toPys] at e
  | _ :: _, [], _, _, e => by simp [toPys] at e
  | x :: xs, y :: ys, p, q, e => by
    simp only [plainDs, Bool.and_eq_true] at p q
    simp only [toPys, List.cons.injEq] at e
    rw [toPy_inj p.1 q.1 e.1, toPys_inj p.2 q.2 e.2]
end
theorem plainDs_iff : ∀ {xs : List D}, plainDs xs = true ↔ ∀ x ∈ xs, plainD x = true
  | [] => by simp [plainDs]
  | x :: xs => by simp [plainDs, plainDs_iff (xs := xs)]
theorem alkL_mem {xs : List D} (h : alkL xs = true) {x : D} (hx : x ∈ xs) : okD x = true ∧ nonD x = false ∧ ∀ y ∈ xs, alkD x y = true := by
  unfold alkL at h
  rw [List.all_eq_true] at h
  have := h x hx
  rw [Bool.and_eq_true, Bool.and_eq_true, List.all_eq_true, Bool.not_eq_true'] at this
  exact ⟨this.1.1, this.1.2, this.2⟩
theorem alkL_plain {xs : List D} (h : alkL xs = true) : plainDs xs = true := plainDs_iff.mpr fun _ hx => okD_plain (alkL_mem h hx).1
theorem alkL_dep : ∀ {xs : List D}, alkL xs = true → PyData.depthAll (toPys xs) ≤ 60 := fun {xs} h => by
  have gen : ∀ ys : List D, (∀ y ∈ ys, okD y = true) → PyData.depthAll (toPys ys) ≤ 60 := by
    intro ys
    induction ys with
    | nil => intro _; simp [toPys, PyData.depthAll]
    | cons y ys ih =>
      intro h
      have h1 := okD_dep (h y List.mem_cons_self)
      have h2 := ih fun z hz => h z (List.mem_cons_of_mem _ hz)
      simp only [toPys, PyData.depthAll]
      omega
  exact gen xs fun y hy => (alkL_mem h hy).1
theorem non_py {x : D} (h : nonD x = false) (p : plainD x = true) : toPy x ≠ .none := by
  cases x <;> first | (simp [nonD] at h; done) | (simp [plainD] at p; done) | simp [toPy]
theorem alkL_all {xs : List D} (h : alkL xs = true) : PySem.W.AlikeAll (toPys xs) := by
  rw [toPys_map]
  refine ⟨fun x hx y hy => ?_, fun x hx => ?_⟩
  · obtain ⟨a, ha, rfl⟩ := List.mem_map.mp hx
    obtain ⟨b, hb, rfl⟩ := List.mem_map.mp hy
    exact (alkL_mem h ha).2.2 b hb
  · obtain ⟨a, ha, rfl⟩ := List.mem_map.mp hx
    exact non_py (alkL_mem h ha).2.1 (okD_plain (alkL_mem h ha).1)
theorem maxL_inv {xs : List D} {d : D} (h : maxL xs = some d) : alkL xs = true ∧ ∃ y r, xs = y :: r ∧ r.foldl (fun a y => if ltD a y then y else a) y = d := by
  unfold maxL at h
  split at h
  · rename_i ha
    cases xs with
    | nil => cases h
    | cons y r => cases h; exact ⟨ha, y, r, rfl, rfl⟩
  · cases h
theorem minL_inv {xs : List D} {d : D} (h : minL xs = some d) : alkL xs = true ∧ ∃ y r, xs = y :: r ∧ r.foldl (fun a y => if ltD y a then y else a) y = d := by
  unfold minL at h
  split at h
  · rename_i ha
    cases xs with
    | nil => cases h
    | cons y r => cases h; exact ⟨ha, y, r, rfl, rfl⟩
  · cases h
theorem fold_mem (f : D → D → Bool) : ∀ (r : List D) (x : D), r.foldl (fun a y => if f a y then y else a) x ∈ x :: r
  | [], x => by simp
  | y :: r, x => by
    rw [List.foldl_cons]
    by_cases c : f x y = true
    · rw [if_pos c]
      exact List.mem_cons_of_mem _ (fold_mem f r y)
    · rw [if_neg c]
      rcases List.mem_cons.mp (fold_mem f r x) with h | h
      · rw [h]; exact List.mem_cons_self
      · exact List.mem_cons_of_mem _ (List.mem_cons_of_mem _ h)
theorem maxD_fold : ∀ (r : List D) (y : D), PySem.W.maxD (toPy y) (toPys r) = toPy (r.foldl (fun a y => if ltD a y then y else a) y)
  | [], y => rfl
  | z :: r, y => by
    have ih := maxD_fold r (if ltD y z then z else y)
    rw [List.foldl_cons, ← ih]
    unfold PySem.W.maxD
    simp only [toPys, List.foldl_cons]
    congr 1
    unfold ltD
    split <;> rfl
theorem minD_fold : ∀ (r : List D) (y : D), PySem.W.minD (toPy y) (toPys r) = toPy (r.foldl (fun a y => if ltD y a then y else a) y)
  | [], y => rfl
  | z :: r, y => by
    have ih := minD_fold r (if ltD z y then z else y)
    rw [List.foldl_cons, ← ih]
    unfold PySem.W.minD
    simp only [toPys, List.foldl_cons]
    congr 1
    unfold ltD
    split <;> rfl
theorem best_end {pins : List (Addr × Obj)} {s : Shared} {σ : SS} {H : Hp} {O : OS} {vs : List V} {ds : List D} {its : List Value} {d : D} {Q : VK} {i : Nat} {v : Value} {h' : Heap} {tk : Nat} {bs : List Addr} (I : Inv X pins σ H s) (rv : Vals vs its) (ra : RpL X.K O H vs ds) (ha : alkL ds = true) (hd : d ∈ ds)
    (hv : its.toArray[i]? = some v) (hr : PySem.Reads h' v (toPy d) bs) (hk : ∀ b o, s.heap.get? b = some o → h'.get? b = some o) (q : ∀ z, Rp X.K O H z d → Q z H) : EP X pins σ Q v { s with heap := h', toks := tk } := by
  have hv' : its[i]? = some v := by simpa using hv
  have hi : i < its.length := (List.getElem?_eq_some_iff.mp hv').1
  have hl := rv.length
  obtain ⟨z, hz⟩ : ∃ z, vs[i]? = some z := ⟨_, List.getElem?_eq_getElem (by omega)⟩
  obtain ⟨u, hu, rel⟩ := rv.get hz
  rw [hv'] at hu; cases hu
  obtain ⟨d0, hd0, r0⟩ := ra.getV hz
  have ok0 := (alkL_mem ha (List.mem_of_getElem? hd0)).1
  obtain ⟨as, r1⟩ := Dp.reads I (toPy d0) z v (dp_rp (okD_plain ok0) r0) rel
  have e := PySem.SeqAt.Reads.unique (toPy d0) (toPy d) v as bs (lay_eq _ (okD_plain ok0)) (PyProof.Rows.Reads.keeps hk r1) hr
  have e2 := toPy_inj (okD_plain ok0) (okD_plain (alkL_mem ha hd).1) e
  subst e2
  exact ⟨z, H, I.kept hk, rel, q z r0⟩
theorem bi_max (hc : X.calm = true) (hu : X.A.units + 65 < cLine) : CallD X (.builtin "max") .max := by
  intro pins s σ H xs us Q I r ⟨O, ds, w, t, fr, e, q⟩
  have hd : (∃ i j, ds = [.int i, .int j]) ∨ (∃ i j k, ds = [.int i, .int j, .int k]) ∨ (∃ ys, ds = [.lst ys]) ∨ ∃ ys, ds = [.tup ys] := by
    rcases ds with _ | ⟨d, _ | ⟨d2, _ | ⟨d3, _ | ⟨d4, r⟩⟩⟩⟩ <;> (try (simp [biV] at e; done))
    · cases d <;> (try (simp [biV] at e; done))
      · exact .inr (.inr (.inr ⟨_, rfl⟩))
      · exact .inr (.inr (.inl ⟨_, rfl⟩))
    · cases d <;> (try (simp [biV] at e; done))
      cases d2 <;> (try (simp [biV] at e; done))
      exact .inl ⟨_, _, rfl⟩
    · cases d <;> (try (simp [biV] at e; done))
      cases d2 <;> (try (simp [biV] at e; done))
      cases d3 <;> (try (simp [biV] at e; done))
      exact .inr (.inl ⟨_, _, _, rfl⟩)
  rcases hd with ⟨i, j, rfl⟩ | ⟨i, j, k, rfl⟩ | ⟨ys, rfl⟩ | ⟨ys, rfl⟩
  · cases e
    obtain ⟨x, y, rfl, r1, r2⟩ := fa2 fr
    have e1 := r1.int; have e2 := r2.int
    subst e1; subst e2
    refine call_max2 hc pins s σ H _ us Q I r ⟨i, j, rfl, ?_⟩
    have e2 : (if j > i then j else i) = max i j := by split <;> omega
    rw [e2]
    exact q _ _ (new_sh (.int _))
  · cases e
    obtain ⟨x, y, z, rfl, r1, r2, r3⟩ := fa3 fr
    have e1 := r1.int; have e2 := r2.int; have e3 := r3.int
    subst e1; subst e2; subst e3
    obtain ⟨_, _, _, rfl, ⟨t1, rfl⟩, ⟨t2, rfl⟩, ⟨t3, rfl⟩⟩ := v3V r
    refine max_three_ints (I.ok.hd hc) fun h' tk k' => ⟨.int (max (max i j) k), _, I.kept k', ?_, q _ _ (new_sh (.int _))⟩
    by_cases h1 : j > i
    · rw [if_pos h1]
      by_cases h2 : k > j
      · rw [if_pos h2]; exact ⟨_, by congr 1; omega⟩
      · rw [if_neg h2]; exact ⟨_, by congr 1; omega⟩
    · rw [if_neg h1]
      by_cases h2 : k > i
      · rw [if_pos h2]; exact ⟨_, by congr 1; omega⟩
      · rw [if_neg h2]; exact ⟨_, by congr 1; omega⟩
  · obtain ⟨x, rfl, rx⟩ := fa1 fr
    obtain ⟨p, vs, rfl, ta, ra⟩ := rx.lst
    simp only [biV] at e
    cases e2 : maxL ys with
    | none => rw [e2] at e; cases e
    | some d =>
      rw [e2] at e; cases e
      obtain ⟨ha, y, r', rfl, rfl⟩ := maxL_inv e2
      obtain ⟨its, rv, hl, hz⟩ := I.list (.of ta)
      rw [Vals.ref1 r]
      obtain ⟨as, hr⟩ := Dp.readsAll I (toPys (y :: r')) vs its (dps_rp (alkL_plain ha) ra) rv
      refine PySem.W.max_list_data (I.ok.hd hc) hl.isList (show PySem.ReadsAll s.heap its.toArray.toList (toPy y :: toPys r') as from hr) (alkL_all ha) (by have := alkL_dep ha; simp only [toPys] at this; omega) fun i v h' tk bs hv hrd hk => ?_
      rw [maxD_fold] at hrd
      exact best_end I rv ra ha (fold_mem _ r' y) hv hrd hk fun z rz => q _ _ (new_sh rz)
  · obtain ⟨x, rfl, rx⟩ := fa1 fr
    obtain ⟨p, vs, rfl, ta, ra⟩ := rx.tup
    simp only [biV] at e
    cases e2 : maxL ys with
    | none => rw [e2] at e; cases e
    | some d =>
      rw [e2] at e; cases e
      obtain ⟨ha, y, r', rfl, rfl⟩ := maxL_inv e2
      obtain ⟨its, rv, hl, hz⟩ := I.tuple ta.sq
      rw [Vals.ref1 r]
      obtain ⟨as, hr⟩ := Dp.readsAll I (toPys (y :: r')) vs its (dps_rp (alkL_plain ha) ra) rv
      refine PySem.W.max_tuple_data (I.ok.hd hc) (show s.heap.IsTuple p its.toArray from hl) (show PySem.ReadsAll s.heap its.toArray.toList (toPy y :: toPys r') as from hr) (alkL_all ha) (by have := alkL_dep ha; simp only [toPys] at this; omega) fun i v h' tk bs hv hrd hk => ?_
      rw [maxD_fold] at hrd
      exact best_end I rv ra ha (fold_mem _ r' y) hv hrd hk fun z rz => q _ _ (new_sh rz)
theorem bi_min (hc : X.calm = true) (hu : X.A.units + 65 < cLine) : CallD X (.builtin "min") .min := by
  intro pins s σ H xs us Q I r ⟨O, ds, w, t, fr, e, q⟩
  have hd : (∃ i j, ds = [.int i, .int j]) ∨ (∃ i j k, ds = [.int i, .int j, .int k]) ∨ (∃ ys, ds = [.lst ys]) ∨ ∃ ys, ds = [.tup ys] := by
    rcases ds with _ | ⟨d, _ | ⟨d2, _ | ⟨d3, _ | ⟨d4, r⟩⟩⟩⟩ <;> (try (simp [biV] at e; done))
    · cases d <;> (try (simp [biV] at e; done))
      · exact .inr (.inr (.inr ⟨_, rfl⟩))
      · exact .inr (.inr (.inl ⟨_, rfl⟩))
    · cases d <;> (try (simp [biV] at e; done))
      cases d2 <;> (try (simp [biV] at e; done))
      exact .inl ⟨_, _, rfl⟩
    · cases d <;> (try (simp [biV] at e; done))
      cases d2 <;> (try (simp [biV] at e; done))
      cases d3 <;> (try (simp [biV] at e; done))
      exact .inr (.inl ⟨_, _, _, rfl⟩)
  rcases hd with ⟨i, j, rfl⟩ | ⟨i, j, k, rfl⟩ | ⟨ys, rfl⟩ | ⟨ys, rfl⟩
  · cases e
    obtain ⟨x, y, rfl, r1, r2⟩ := fa2 fr
    have e1 := r1.int; have e2 := r2.int
    subst e1; subst e2
    refine call_min2 hc pins s σ H _ us Q I r ⟨i, j, rfl, ?_⟩
    have e2 : (if j < i then j else i) = min i j := by split <;> omega
    rw [e2]
    exact q _ _ (new_sh (.int _))
  · cases e
    obtain ⟨x, y, z, rfl, r1, r2, r3⟩ := fa3 fr
    have e1 := r1.int; have e2 := r2.int; have e3 := r3.int
    subst e1; subst e2; subst e3
    obtain ⟨_, _, _, rfl, ⟨t1, rfl⟩, ⟨t2, rfl⟩, ⟨t3, rfl⟩⟩ := v3V r
    refine min_three_ints (I.ok.hd hc) fun h' tk k' => ⟨.int (min (min i j) k), _, I.kept k', ?_, q _ _ (new_sh (.int _))⟩
    by_cases h1 : j < i
    · rw [if_pos h1]
      by_cases h2 : k < j
      · rw [if_pos h2]; exact ⟨_, by congr 1; omega⟩
      · rw [if_neg h2]; exact ⟨_, by congr 1; omega⟩
    · rw [if_neg h1]
      by_cases h2 : k < i
      · rw [if_pos h2]; exact ⟨_, by congr 1; omega⟩
      · rw [if_neg h2]; exact ⟨_, by congr 1; omega⟩
  · obtain ⟨x, rfl, rx⟩ := fa1 fr
    obtain ⟨p, vs, rfl, ta, ra⟩ := rx.lst
    simp only [biV] at e
    cases e2 : minL ys with
    | none => rw [e2] at e; cases e
    | some d =>
      rw [e2] at e; cases e
      obtain ⟨ha, y, r', rfl, rfl⟩ := minL_inv e2
      obtain ⟨its, rv, hl, hz⟩ := I.list (.of ta)
      rw [Vals.ref1 r]
      obtain ⟨as, hr⟩ := Dp.readsAll I (toPys (y :: r')) vs its (dps_rp (alkL_plain ha) ra) rv
      refine PySem.W.min_list_data (I.ok.hd hc) hl.isList (show PySem.ReadsAll s.heap its.toArray.toList (toPy y :: toPys r') as from hr) (alkL_all ha) (by have := alkL_dep ha; simp only [toPys] at this; omega) fun i v h' tk bs hv hrd hk => ?_
      rw [minD_fold] at hrd
      exact best_end I rv ra ha (fold_mem _ r' y) hv hrd hk fun z rz => q _ _ (new_sh rz)
  · obtain ⟨x, rfl, rx⟩ := fa1 fr
    obtain ⟨p, vs, rfl, ta, ra⟩ := rx.tup
    simp only [biV] at e
    cases e2 : minL ys with
    | none => rw [e2] at e; cases e
    | some d =>
      rw [e2] at e; cases e
      obtain ⟨ha, y, r', rfl, rfl⟩ := minL_inv e2
      obtain ⟨its, rv, hl, hz⟩ := I.tuple ta.sq
      rw [Vals.ref1 r]
      obtain ⟨as, hr⟩ := Dp.readsAll I (toPys (y :: r')) vs its (dps_rp (alkL_plain ha) ra) rv
      refine PySem.W.min_tuple_data (I.ok.hd hc) (show s.heap.IsTuple p its.toArray from hl) (show PySem.ReadsAll s.heap its.toArray.toList (toPy y :: toPys r') as from hr) (alkL_all ha) (by have := alkL_dep ha; simp only [toPys] at this; omega) fun i v h' tk bs hv hrd hk => ?_
      rw [minD_fold] at hrd
      exact best_end I rv ra ha (fold_mem _ r' y) hv hrd hk fun z rz => q _ _ (new_sh rz)
/-! ## sorted -/
section
variable {prog : Program} {w : World} {A : Around} {E : Value → Shared → Prop} {s : Shared}
open PyProof.Rows in
theorem collect_tupleN {l : Addr} {vs : List Value} {Q : List Value → Shared → Prop} (hl : s.heap.IsTuple l vs.toArray)
    (h : Q vs { s with heap := (s.heap.push (seqObj "list" #[] 0)).update s.heap.objs.size (Obj.mapSeq (· ++ vs.toArray)) }) (hsz : vs.length ≤ sizeLine) :
    wpAny (model prog w) A (collect (.ref l)) Q E s := by
  obtain ⟨o, ho, hc, n, hd⟩ := id hl
  unfold collect
  refine wpAny_bind (wpAny_runValue (codeAny_builtin entry_proto_collect' ?_))
  show wpAny _ _ (do again (.builtin "list.__iadd__" ⟨[← newList [], .ref l], []⟩)) _ _ s
  refine wpAny_bind (wpAny_newList (wpAny_pure ⟨Code.quiet_builtin _ (by decide +kernel), codeAny_builtin entry_list_iadd' ?_⟩))
  show wpAny _ _ (Builtin.List.listExtendWith (.ref s.heap.objs.size) (.ref l) (.ref s.heap.objs.size)) _ _ { s with heap := s.heap.push (seqObj "list" #[] 0) }
  unfold Builtin.List.listExtendWith
  have ho' : (s.heap.push (seqObj "list" #[] 0)).get? l = some o := Heap.get?_push_of_some _ ho
  refine wpAny_bind (wpAny_typeOf (T := "tuple") ⟨o, ho', hc⟩ ?_)
  rw [if_pos (by first | rfl | simp | decide)]
  refine wpAny_bind (listItems_at ho' hd ?_)
  refine wpAny_bind (listItems_at (xs := #[]) (n := 0) (Heap.get?_push_size _ rfl) rfl ?_)
  rw [if_neg (by simp)]
  refine wpAny_bind (listUpdate_at (xs := #[]) (n := 0) (Heap.get?_push_size _ rfl) rfl ?_ (Nat.zero_le _) (by show (#[] ++ vs.toArray).size ≤ sizeLine + 1; simp only [Array.size_append, List.size_toArray, List.length_nil]; omega))
  refine wpAny_pure ?_
  show wpAny (model prog w) A (do
      let o ← load s.heap.objs.size
      match o.data with
      | .seq xs _ => pure xs.toList
      | _ => unsupported "internal:collect") Q E { s with heap := (s.heap.push (seqObj "list" #[] 0)).update s.heap.objs.size (Obj.mapSeq (· ++ vs.toArray)) }
  refine wpAny_bind (wpAny_load (get?_update_seq (Heap.get?_push_size _ rfl) _) ?_)
  show wpAny _ _ (pure ((#[] : Array Value) ++ vs.toArray).toList) Q E _
  rw [show ((#[] : Array Value) ++ vs.toArray).toList = vs by simp]
  exact wpAny_pure h
open PyProof.Rows PySem.W in
theorem sorted_of_sortT {l : Addr} {vs : List Value} {Q : Value → Shared → Prop} (hl : s.heap.IsTuple l vs.toArray) (hL : vs.length ≤ sizeLine)
    (body : ∀ E' : Value → Shared → Prop, wpAny (model prog w) A.in1.in1 (Builtin.«list.sort» ⟨[.ref (s.heap.objs.size + 1)], []⟩) (fun f s' => f = .done (.ret .none) ∧ Q (.ref (s.heap.objs.size + 1)) s') E' { s with heap := copyHeap s.heap vs }) :
    wpAny (model prog w) A (call (.builtin "sorted") [.ref l] []) Q E s := by
  refine call_function_entry_kw kind_sorted plain_sorted entry_sorted (args_sorted1 _) ?_
  unfold Builtin.«sorted»
  refine wpAny_bind (m := checkCount "sorted" 1 1 _) (wpAny_pure ?_)
  refine wpAny_bind (collect_tupleN hl ?_ hL)
  refine wpAny_bind (wpAny_newList ?_ hL)
  have hsz : ((s.heap.push (seqObj "list" #[] 0)).update s.heap.objs.size (Obj.mapSeq (· ++ vs.toArray))).objs.size = s.heap.objs.size + 1 := by
    rw [Heap.size_update, size_push']
  show wpAny _ _ _ _ _ { s with heap := copyHeap s.heap vs }
  rw [hsz]
  refine wpAny_bind (wpAny_holding (wpAny_call_entry_kw slot_list_sort ⟨_, copyHeap_at s.heap vs, rfl⟩ entry_list_sort ?body (args_list_sort _)))
  case body =>
    show wpAny (model prog w) A.in1.in1 (Builtin.«list.sort» ⟨[.ref (s.heap.objs.size + 1)], []⟩) _ _ _
    refine wpAny_mono (body _) (fun f s' hf => ?_) fun _ _ e => e
    obtain ⟨rfl, hq⟩ := hf
    exact ⟨_, rfl, wpAny_pure ⟨_, rfl, hq⟩⟩
open PyProof.Rows PySem.W in
theorem sorted_dataT {β : Type} {vs : List Value} {bs : List β} {enc : β → PyData} {R : Value → β → Prop} {l : Addr} {Q : Value → Shared → Prop} (hl : s.heap.IsTuple l vs.toArray) (e : EachIs R vs bs) (er : EachIs (fun v b => ∃ as, Reads s.heap v (enc b) as) vs bs) (hal : AllAlike (bs.map enc)) (hk : Sortable (bs.map enc)) (hL : bs.length ≤ sizeLine)
    (hu : ∀ b, b ∈ bs → A.units + 2 + (enc b).depth < cLine) (h : ∀ out, out.length = bs.length → EachIs R out (bs.mergeSort (dataLe false enc)) → Q (.ref (s.heap.objs.size + 1)) { s with heap := sortedAll s.heap vs (List.toArray out) }) :
    wpAny (model prog w) A (call (.builtin "sorted") [.ref l]) Q E s := by
  have er' : EachIs (fun v b => ∃ as, Reads (sortingHeap (copyHeap s.heap vs) (s.heap.objs.size + 1) vs) v (enc b) as) vs bs := er.mono fun _ _ ⟨as, r⟩ => ⟨as, PyProof.Rows.Reads.keeps (fun _ _ => sorting_copy_old) r⟩
  have S := SortsAt.data (prog := prog) (w := w) (A := A.in1.in1) (s := { s with heap := sortingHeap (copyHeap s.heap vs) (s.heap.objs.size + 1) vs }) (each_map (R := fun v d => ∃ as, Reads (sortingHeap (copyHeap s.heap vs) (s.heap.objs.size + 1) vs) v d as) enc er') hal hk (bound_map hu)
  have hL' : vs.length ≤ sizeLine := by rw [e.length]; exact hL
  exact sorted_of_sortT hl hL' fun _ => list_sort_vals (s := { s with heap := copyHeap s.heap vs }) (copyHeap_at s.heap vs) S hL' ⟨rfl, h _ (by rw [sortVals_length false rfl]; exact e.length) (sortVals_data false e er' hal)⟩
end
theorem each_of {K : PySem.W.Frag} {O : OS} {H : Hp} : ∀ {vs : List V} {its : List Value} {ds : List D}, Vals vs its → RpL K O H vs ds → PySem.W.EachIs (fun v d => ∃ x, RelV x v ∧ Rp K O H x d) its ds
  | _, _, _, .nil, .nil => .nil
  | _, _, _, .cons r rs, .cons h hs => .cons ⟨_, r, h⟩ (each_of rs hs)
theorem each_split {K : PySem.W.Frag} {O : OS} {H : Hp} : ∀ {out : List Value} {ds : List D}, PySem.W.EachIs (fun v d => ∃ x, RelV x v ∧ Rp K O H x d) out ds → ∃ vs, Vals vs out ∧ RpL K O H vs ds
  | _, _, .nil => ⟨[], .nil, .nil⟩
  | _, _, .cons ⟨x, r, h⟩ t => by
    obtain ⟨vs, h1, h2⟩ := each_split t
    exact ⟨x :: vs, .cons r h1, .cons h h2⟩
theorem each_reads {pins : List (Addr × Obj)} {s : Shared} {σ : SS} {H : Hp} {O : OS} (I : Inv X pins σ H s) : ∀ {vs : List V} {its : List Value} {ds : List D}, (∀ d ∈ ds, okD d = true) → Vals vs its → RpL X.K O H vs ds → PySem.W.EachIs (fun v d => ∃ as, PySem.Reads s.heap v (toPy d) as) its ds
  | _, _, _, _, .nil, .nil => .nil
  | _, _, _, ok, .cons r rs, .cons h hs => .cons (Dp.reads I _ _ _ (dp_rp (okD_plain (ok _ List.mem_cons_self)) h) r) (each_reads I (fun d hd => ok d (List.mem_cons_of_mem _ hd)) rs hs)
theorem sortL_inv {xs ys : List D} (h : sortL xs = some ys) : alkL xs = true ∧ PySem.W.Sortable (xs.map toPy) ∧ ys = xs.mergeSort (PySem.W.dataLe false toPy) := by
  unfold sortL at h
  split at h
  · rename_i hc
    cases h
    rw [Bool.and_eq_true, Bool.or_eq_true, List.all_eq_true, List.all_eq_true] at hc
    refine ⟨hc.1, ?_, rfl⟩
    rcases hc.2 with h | h
    · refine .inl fun d hd => ?_
      obtain ⟨a, ha, rfl⟩ := List.mem_map.mp hd
      have := h a ha
      cases a with
      | tup zs => cases zs with
        | nil => simp [netD] at this
        | cons z zs => exact ⟨toPy z, toPys zs, by simp [toPy, toPys]⟩
      | _ => simp [netD] at this
    · refine .inr fun d hd => ?_
      obtain ⟨a, ha, rfl⟩ := List.mem_map.mp hd
      have := h a ha
      have h2 := alkL_mem hc.1 ha
      refine ⟨non_py h2.2.1 (okD_plain h2.1), fun zs e => ?_⟩
      cases a <;> first | (simp [toPy] at e; done) | (simp [tupD] at this; done) | skip
  · cases h
theorem alkL_pair {xs : List D} (h : alkL xs = true) : PySem.W.AllAlike (xs.map toPy) := fun d hd d' hd' => by
  obtain ⟨a, ha, rfl⟩ := List.mem_map.mp hd
  obtain ⟨b, hb, rfl⟩ := List.mem_map.mp hd'
  exact (alkL_mem h ha).2.2 b hb
theorem sorted_end {pins : List (Addr × Obj)} {s : Shared} {σ : SS} {H : Hp} {O : OS} {vs : List V} {its : List Value} {ds : List D} {Q : VK} (I : Inv X pins σ H s) (rv : Vals vs its) (hz : ds.length ≤ sizeLine) {out : List Value} (hl : out.length = ds.length)
    (he : PySem.W.EachIs (fun v d => ∃ x, RelV x v ∧ Rp X.K O H x d) out (ds.mergeSort (PySem.W.dataLe false toPy))) (q : ∀ z H', NewV X.K O H H' (.fr (ds.mergeSort (PySem.W.dataLe false toPy))) z → Q z H') : EP X pins σ Q (.ref (s.heap.objs.size + 1)) { s with heap := PyProof.Rows.sortedAll s.heap its (List.toArray out) } := by
  obtain ⟨vs', h1, h2⟩ := each_split he
  obtain ⟨ep, he'⟩ := PyProof.Rows.sortedAll_at s.heap its (List.toArray out)
  have hfree : H (s.heap.objs.size + 1) = none := I.hok.fresh (Nat.le_succ _)
  have hlen : vs'.length ≤ sizeLine := by rw [h1.length, hl]; exact hz
  exact ⟨.ref _, upd H (s.heap.objs.size + 1) (.lst vs'), I.laid (t' := s.toks) (fun _ _ => PyProof.Rows.sortedAll_old) (Nat.le_succ _) ⟨hlen, out, ep, h1, by simpa using he'⟩, rfl, q _ _ (new_lst hfree h2)⟩
theorem bi_sorted (hu : X.A.units + 65 < cLine) : CallD X (.builtin "sorted") .sorted := bi_one (fun ds w e => by rcases ds with _ | ⟨d, _ | ⟨d2, r⟩⟩ <;> first | exact ⟨d, rfl⟩ | (simp [biV] at e)) fun pins s σ H x u Q O d w I ru t rx e q => by
  cases d <;> simp only [biV] at e <;> first | (cases e; done) | skip
  · rename_i xs
    obtain ⟨p, vs, rfl, ta, ra⟩ := rx.tup
    cases ru
    cases e2 : sortL xs with
    | none => rw [e2] at e; cases e
    | some ys =>
      rw [e2] at e; cases e
      obtain ⟨ha, hs, rfl⟩ := sortL_inv e2
      obtain ⟨its, rv, hl, hz⟩ := I.tuple ta.sq
      rw [ra.length] at hz
      exact sorted_dataT (show s.heap.IsTuple p its.toArray from hl) (each_of rv ra) (each_reads I (fun d hd => (alkL_mem ha hd).1) rv ra) (alkL_pair ha) hs hz (fun b hb => by have := okD_dep (alkL_mem ha hb).1; omega) fun out hlo he => sorted_end I rv hz hlo he q
  · rename_i xs
    obtain ⟨p, vs, rfl, ta, ra⟩ := rx.lst
    cases ru
    cases e2 : sortL xs with
    | none => rw [e2] at e; cases e
    | some ys =>
      rw [e2] at e; cases e
      obtain ⟨ha, hs, rfl⟩ := sortL_inv e2
      obtain ⟨its, rv, hl, hz⟩ := I.list (.of ta)
      rw [ra.length] at hz
      exact PySem.W.sorted_data hl.isList (each_of rv ra) (each_reads I (fun d hd => (alkL_mem ha hd).1) rv ra) (alkL_pair ha) hs hz (fun b hb => by have := okD_dep (alkL_mem ha hb).1; omega) fun out hlo he => sorted_end I rv hz hlo he q
theorem bi_gcd : CallD X (.builtin "math.gcd") .gcd := by
  intro pins s σ H xs us Q I r ⟨O, ds, w, t, fr, e, q⟩
  have hd : ∃ i j, ds = [.int i, .int j] := by
    rcases ds with _ | ⟨d, _ | ⟨d2, _ | ⟨d3, r⟩⟩⟩ <;> (try (simp [biV] at e; done))
    cases d <;> (try (simp [biV] at e; done))
    cases d2 <;> (try (simp [biV] at e; done))
    exact ⟨_, _, rfl⟩
  obtain ⟨i, j, rfl⟩ := hd
  cases e
  obtain ⟨x, y, rfl, r1, r2⟩ := fa2 fr
  have e1 := r1.int; have e2 := r2.int
  subst e1; subst e2
  exact cr_gcd pins s σ H _ us Q I r ⟨i, j, rfl, q _ _ (new_sh (.int _))⟩
end
end Lw
set_option linter.all false
set_option Elab.async false
set_option maxRecDepth 100000
set_option maxHeartbeats 4000000
namespace Lw
open PySem PySem.Spec L2 PyProof.Rows
/-! # sets that are made of lists and tuples -/
/-- a set that was just made -/
abbrev nSet (w : World) : Obj := { cls := .type "set", dict := none, data := .set #[] 0 (.fresh 0 0 (!w.params.followText "set-order")) }
section
variable {P : Program} {w : World} {A : Around} {E : Value → Shared → Prop} {s : Shared}
/-- set(t), t a tuple of tuples of ints -/
theorem set_tt {l : Addr} {its : Array Value} (ks : List (Addr × List Int)) {Q : Value → Shared → Prop} (calm : A.handled = none) (tl : s.heap.IsTuple l its) (eq : its.toList = ks.map fun p => Value.ref p.1) (kt : ∀ p ∈ ks, L2.IsT P w s.heap p.2 p.1) (few : ks.length < 64) (room : A.units + 3 < cLine)
    (fin : ∀ (h : Heap) (tk : Nat) L es ep t, SetTR P w h s.heap.objs.size L es ep t → Got ks ks.length L → (∀ b o, s.heap.get? b = some o → h.get? b = some o) → Q (.ref s.heap.objs.size) { s with heap := h, toks := tk }) :
    wpAny (model P w) A (call (.type "set") [.ref l]) Q E s := by
  have szs : its.size = ks.length := by
    have := congrArg List.length eq
    simpa using this
  obtain ⟨c0, r0, mro0⟩ := F.called_set.mro
  have m0 := F.called_set.made
  have u0 := F.called_set.sub
  refine wpAny_call (codeAny_of_tree ?_)
  show wpAny _ _ (callAny (.type "set") _) _ _ _
  refine wpAny_pure ⟨Code.quiet_builtin _ (by decide +kernel), codeAny_builtin F.entry_type_call ?_⟩
  rw [Around.under_plain (weight_type_call_type "set" [.ref l] []) rfl]
  have n0 := F.called_set.notType
  have n1 := F.called_set.canCreate
  have n2 := F.typeCall_set_1 (.ref l)
  repeat any_goals first | assumption | wp_step
  generalize ea : s.heap.objs.size = a
  refine codeAny_mono (code_set_led1 (.ref l) (E := E) (Q₁ := fun v t => v = .ref a ∧ t = { s with heap := s.heap.push (nSet w) }) ⟨by rw [ea], rfl⟩) fun r t hr => ?_
  rcases r with e | fl
  · exact hr
  cases fl <;> first | exact hr.elim | skip
  obtain ⟨rfl, rfl⟩ := hr
  have atS : (s.heap.push (nSet w)).get? a = some (nSet w) := by rw [← ea]; exact Heap.get?_push_size _ rfl
  have tyS : Shared.TypeIs { s with heap := s.heap.push (nSet w) } (.ref a) "set" := ⟨_, atS, rfl⟩
  have i0 := F.called_set.init.lookup
  have i1 := F.called_set.init.bind (.ref a)
  repeat any_goals first | assumption | wp_step
  refine codeAny_mono (codeAny_call_builtin (R := wants (fun r t => r = .none ∧ ∃ h tk L es ep t', t = { s with heap := h, toks := tk } ∧ SetTR P w h a L es ep t' ∧ Got ks ks.length L ∧ ∀ b o, s.heap.get? b = some o → h.get? b = some o) E) F.called_set.init.plain F.entry_set_init (check_set_init_1 tyS ?_)) fun r2 s2 hr2 => ?_
  · obtain ⟨ol, gl, cl, nl, dl⟩ := tl
    obtain ⟨lc, ld, lt, ls⟩ := ol
    simp only at cl dl
    subst cl dl
    have gl' : (s.heap.push (nSet w)).get? l = some ⟨.type "tuple", ld, .seq its nl, ls⟩ := Heap.get?_push_of_some _ gl
    have f0 := F.sub_tuple_set
    have f1 := F.sub_tuple_frozenset
    have f2 : (Value.type "tuple" == Value.type "dict") = false := by decide
    have tl1 : (s.heap.push (nSet w)).IsTuple l its := ⟨_, gl', rfl, nl, rfl⟩
    unfold Builtin.«set.__init__» noKeywords Builtin.Frozenset.updateFrom
    generalize ep : pyIter = it
    wp_walk
    subst ep
    refine wpAny_pyIter_tuple tl1 (wpAny_bind (wpAny_runValue ?_))
    have lS : Nat.lt l a := by rw [← ea]; exact Heap.lt_size gl
    have q3 : A.in1.in1.in1.handled = none := by simp [calm]
    have zp : (s.heap.push (nSet w)).objs.size = a + 1 := by rw [Heap.size_push, ea]
    have nI : l ≠ (s.heap.push (nSet w)).objs.size := by rw [zp]; exact Nat.ne_of_lt (Nat.lt_succ_of_lt lS)
    have nS : a ∉ [(s.heap.push (nSet w)).objs.size, l] := by
      rw [zp]
      simp only [List.mem_cons, List.not_mem_nil, or_false, not_or]
      exact ⟨Nat.ne_of_lt (Nat.lt_succ_self a), Nat.ne_of_gt lS⟩
    have none_of : ∀ b, a ≤ b → s.heap.get? b = none := fun b hb => by
      cases q : s.heap.get? b with
      | none => rfl
      | some o => exact absurd (Nat.lt_of_lt_of_le (Heap.lt_size q) (Nat.le_trans (Nat.le_of_eq ea) hb)) (Nat.lt_irrefl b)
    have hv : ∀ (i : Nat) (v : Value), its[i]? = some v → ∃ p, ks[i]? = some p ∧ v = .ref p.1 := fun i v hv => by
      have q : its.toList[i]? = some v := by rw [Array.getElem?_toList]; exact hv
      rw [eq, List.getElem?_map, Option.map_eq_some_iff] at q
      obtain ⟨p, h1, h2⟩ := q
      exact ⟨p, h1, h2.symm⟩
    refine set_update_tups ((Walks.tuple q3 _ l nI its).toS) a nS ks szs few hv s.heap kt (none_of _ (Nat.le_refl _)) (fun b hb => none_of b ?wr) room (its.size - 0) 0 _ (by omega) (Nat.zero_le _) ⟨⟨_, Heap.get?_push_size _ rfl, rfl, rfl⟩, tl1.push _⟩ (fun b o e => Heap.get?_push_of_some _ (Heap.get?_push_of_some _ e)) ?start ?fin
    case wr =>
      rw [List.mem_singleton.mp hb, zp]
      exact Nat.le_succ a
    case start =>
      have g0 : ((s.heap.push (nSet w)).push { cls := .type "tuple_iterator", data := .fields #[.ref l, .int 0 0] }).get? a = some (nSet w) := Heap.get?_push_of_some _ atS
      exact ⟨[], #[], 0, _, setTR_fresh g0, .zero ks⟩
    case fin =>
      rintro ⟨h, g, d, tk, os⟩ L es ep t mv sr gt kp
      obtain rfl : g = s.gens := mv.gens
      obtain rfl : d = s.drawn := mv.drawn
      obtain rfl : os = s.os := mv.os
      show wpAny _ _ _ _ _ _
      refine wpAny_pure ?_
      show wpAny _ _ (ret Value.none) _ _ _
      rw [szs] at gt
      exact wpAny_pure ⟨rfl, h, tk, L, es, ep, t, rfl, sr, gt, kp⟩
  · rcases r2 with e | fl2
    · exact hr2
    cases fl2 <;> first | exact hr2.elim | skip
    obtain ⟨rfl, h, tk, L, es, ep, t, rfl, b1, b2, b3⟩ := hr2
    repeat any_goals first | assumption | wp_step
    subst ea
    exact fin _ _ _ _ _ _ b1 b2 b3
/-- set(l), l a list of ints -/
theorem set_li {l : Addr} {its : Array Value} (ks : List Int) {Q : Value → Shared → Prop} (calm : A.handled = none) (tl : s.heap.IsList l its) (eq : IntsAre its.toList ks) (few : ks.length + 1 < scanBound)
    (fin : ∀ (h : Heap) (tk c : Nat), SetR w h s.heap.objs.size (fun j => decide (j ∈ ks)) c → c ≤ ks.length → (∀ b o, s.heap.get? b = some o → h.get? b = some o) → Q (.ref s.heap.objs.size) { s with heap := h, toks := tk }) :
    wpAny (model P w) A (call (.type "set") [.ref l]) Q E s := by
  have szs : its.size = ks.length := by
    have := IntsAre.length eq
    simpa using this
  obtain ⟨c0, r0, mro0⟩ := F.called_set.mro
  have m0 := F.called_set.made
  have u0 := F.called_set.sub
  refine wpAny_call (codeAny_of_tree ?_)
  show wpAny _ _ (callAny (.type "set") _) _ _ _
  refine wpAny_pure ⟨Code.quiet_builtin _ (by decide +kernel), codeAny_builtin F.entry_type_call ?_⟩
  rw [Around.under_plain (weight_type_call_type "set" [.ref l] []) rfl]
  have n0 := F.called_set.notType
  have n1 := F.called_set.canCreate
  have n2 := F.typeCall_set_1 (.ref l)
  repeat any_goals first | assumption | wp_step
  generalize ea : s.heap.objs.size = a
  refine codeAny_mono (code_set_led1 (.ref l) (E := E) (Q₁ := fun v t => v = .ref a ∧ t = { s with heap := s.heap.push (nSet w) }) ⟨by rw [ea], rfl⟩) fun r t hr => ?_
  rcases r with e | fl
  · exact hr
  cases fl <;> first | exact hr.elim | skip
  obtain ⟨rfl, rfl⟩ := hr
  have atS : (s.heap.push (nSet w)).get? a = some (nSet w) := by rw [← ea]; exact Heap.get?_push_size _ rfl
  have tyS : Shared.TypeIs { s with heap := s.heap.push (nSet w) } (.ref a) "set" := ⟨_, atS, rfl⟩
  have i0 := F.called_set.init.lookup
  have i1 := F.called_set.init.bind (.ref a)
  repeat any_goals first | assumption | wp_step
  refine codeAny_mono (codeAny_call_builtin (R := wants (fun r t => r = .none ∧ ∃ h tk c, t = { s with heap := h, toks := tk } ∧ SetR w h a (fun j => decide (j ∈ ks)) c ∧ c ≤ ks.length ∧ ∀ b o, s.heap.get? b = some o → h.get? b = some o) E) F.called_set.init.plain F.entry_set_init (check_set_init_1 tyS ?_)) fun r2 s2 hr2 => ?_
  · obtain ⟨ol, gl, cl, nl, dl⟩ := tl
    obtain ⟨lc, ld, lt, ls⟩ := ol
    simp only at cl dl
    subst cl dl
    have gl' : (s.heap.push (nSet w)).get? l = some ⟨.type "list", ld, .seq its nl, ls⟩ := Heap.get?_push_of_some _ gl
    have f0 := F.sub_list_set
    have f1 := F.sub_list_frozenset
    have f2 : (Value.type "list" == Value.type "dict") = false := by decide
    have tl1 : (s.heap.push (nSet w)).IsList l its := ⟨_, gl', rfl, nl, rfl⟩
    unfold Builtin.«set.__init__» noKeywords Builtin.Frozenset.updateFrom
    generalize ep : pyIter = it
    wp_walk
    subst ep
    refine wpAny_pyIter_list tl1 (wpAny_bind (wpAny_runValue ?_))
    have lS : Nat.lt l a := by rw [← ea]; exact Heap.lt_size gl
    have q3 : A.in1.in1.in1.handled = none := by simp [calm]
    have zp : (s.heap.push (nSet w)).objs.size = a + 1 := by rw [Heap.size_push, ea]
    have nI : l ≠ (s.heap.push (nSet w)).objs.size := by rw [zp]; exact Nat.ne_of_lt (Nat.lt_succ_of_lt lS)
    have nS : a ∉ [(s.heap.push (nSet w)).objs.size, l] := by
      rw [zp]
      simp only [List.mem_cons, List.not_mem_nil, or_false, not_or]
      exact ⟨Nat.ne_of_lt (Nat.lt_succ_self a), Nat.ne_of_gt lS⟩
    have none_of : ∀ b, a ≤ b → s.heap.get? b = none := fun b hb => by
      cases q : s.heap.get? b with
      | none => rfl
      | some o => exact absurd (Nat.lt_of_lt_of_le (Heap.lt_size q) (Nat.le_trans (Nat.le_of_eq ea) hb)) (Nat.lt_irrefl b)
    have hv : ∀ (i : Nat) (v : Value), its[i]? = some v → ∃ k t, ks[i]? = some k ∧ v = .int k t := fun i v hv => by
      have hi : i < ks.length := by rw [← szs]; exact (Array.getElem?_eq_some_iff.mp hv).1
      obtain ⟨t, e⟩ := PyProof.Rows.IntsAre.int_at eq i v (by rw [Array.getElem?_toList]; exact hv)
      refine ⟨ks[i], t, List.getElem?_eq_getElem hi, ?_⟩
      rw [e, List.getD_eq_getElem?_getD, List.getElem?_eq_getElem hi]
      rfl
    refine set_update_ints ((Walks.list q3 _ l nI its).toS) a nS ks szs few hv (its.size - 0) 0 _ (by omega) (Nat.zero_le _) ⟨⟨_, Heap.get?_push_size _ rfl, rfl, rfl⟩, tl1.push _⟩ ?start ?fin
    case start =>
      have g0 : ((s.heap.push (nSet w)).push { cls := .type "list_iterator", data := .fields #[.ref l, .int 0 0] }).get? a = some (nSet w) := Heap.get?_push_of_some _ atS
      exact ⟨0, Nat.le_refl 0, setR_new_at g0⟩
    case fin =>
      rintro ⟨h, g, d, tk, os⟩ c mv cl sr
      obtain rfl : g = s.gens := mv.gens
      obtain rfl : d = s.drawn := mv.drawn
      obtain rfl : os = s.os := mv.os
      show wpAny _ _ _ _ _ _
      refine wpAny_pure ?_
      show wpAny _ _ (ret Value.none) _ _ _
      rw [szs] at cl
      refine wpAny_pure ⟨rfl, h, tk, c, rfl, sr, cl, fun b o e => ?_⟩
      have hb : Nat.lt b a := by rw [← ea]; exact Heap.lt_size e
      exact mv.heap b o (by rw [zp]; simp only [List.mem_cons, List.not_mem_nil, or_false, not_or]; exact ⟨Nat.ne_of_lt hb, Nat.ne_of_lt (Nat.lt_succ_of_lt hb)⟩) (Heap.get?_push_of_some _ (Heap.get?_push_of_some _ e))
  · rcases r2 with e | fl2
    · exact hr2
    cases fl2 <;> first | exact hr2.elim | skip
    obtain ⟨rfl, h, tk, c, rfl, b1, b2, b3⟩ := hr2
    repeat any_goals first | assumption | wp_step
    subst ea
    exact fin _ _ _ b1 b2 b3
end
end Lw
set_option linter.all false
set_option Elab.async false
set_option maxRecDepth 100000
set_option maxHeartbeats 4000000
namespace Lw
open PySem PySem.Spec L2 PyProof.Rows
theorem toPysI : ∀ w : List Int, toPys (w.map D.int) = w.map PyData.int
  | [] => rfl
  | x :: w => by rw [List.map_cons, List.map_cons, toPys, toPysI w]; rfl
theorem plainI : ∀ w : List Int, plainDs (w.map D.int) = true ∧ depDs (w.map D.int) = 0
  | [] => ⟨rfl, rfl⟩
  | x :: w => by
    obtain ⟨h1, h2⟩ := plainI w
    rw [List.map_cons, plainDs, depDs, h1, h2]
    exact ⟨rfl, rfl⟩
theorem okW (w : List Int) : okD (.tup (w.map D.int)) = true := by
  unfold okD
  rw [plainD, depD, (plainI w).1, (plainI w).2]
  rfl
theorem encW_py (w : List Int) : encW w = toPy (.tup (w.map D.int)) := by rw [toPy, toPysI]
theorem encW_dep (w : List Int) : (encW w).depth ≤ 60 := by rw [encW_py]; exact okD_dep (okW w)
section
variable {X : Cx}
/-! ## set(..) -/
/-- of ints -/
def rSetI (K : PySem.W.Frag) (w : World) : List V → Hp → VK → Prop := fun xs H Q => ∃ (l : Addr) (ns : List Int), xs = [V.ref l] ∧ (SqL K H l (ns.map V.int) ∨ SqT K H l (ns.map V.int)) ∧ ns.length < 64 ∧ ∀ a c, H a = none → c < 64 → Q (.ref a) (upd H a (SetO w a (fun j => decide (j ∈ ns)) c))
theorem cr_setI (hc : X.calm = true) : CallR X (.type "set") (rSetI X.K X.w) := by
  rintro pins s σ H xs us Q I r ⟨l, ns, rfl, hs, hl, q⟩
  rw [Vals.ref1 r]
  have free : H s.heap.objs.size = none := I.hok.fresh (Nat.le_refl _)
  have sb : ns.length + 1 < scanBound := by unfold scanBound; omega
  rcases hs with hs | hs
  · obtain ⟨its, rv, pl, _⟩ := I.list hs
    exact set_li ns (I.ok.hd hc) pl.isList (ints_of_vals rv) sb fun h' tk c R hcn k => ⟨.ref s.heap.objs.size, upd H s.heap.objs.size (SetO X.w s.heap.objs.size (fun j => decide (j ∈ ns)) c), I.laid (t' := tk) k (Nat.le_refl _) (setO_new R), rfl, q _ c free (by omega)⟩
  · obtain ⟨its, rv, pt, _⟩ := I.tuple hs
    exact call_set_tupI ns (I.ok.hd hc) (show s.heap.IsTuple l its.toArray from pt) (ints_of_vals rv) sb fun h' tk c R hcn k => ⟨.ref s.heap.objs.size, upd H s.heap.objs.size (SetO X.w s.heap.objs.size (fun j => decide (j ∈ ns)) c), I.laid (t' := tk) k (Nat.le_refl _) (setO_new R), rfl, q _ c free (by omega)⟩
/-- of tuples of ints -/
def rSetW (K : PySem.W.Frag) (P : Program) (w : World) : List V → Hp → VK → Prop := fun xs H Q => ∃ (l : Addr) (ks : List (Addr × List Int)), xs = [V.ref l] ∧ (SqL K H l (ks.map fun p => V.ref p.1) ∨ SqT K H l (ks.map fun p => V.ref p.1)) ∧ (∀ p ∈ ks, SqT K H p.1 (p.2.map V.int)) ∧ ks.length < 64 ∧
  ∀ a L, H a = none → (∀ p ∈ L, p ∈ ks) → (∀ p ∈ ks, p.2 ∈ L.map (·.2)) → Q (.ref a) (upd H a (SetTO P w a L))
theorem cr_setW (hc : X.calm = true) (hu : X.A.units + 64 < cLine) : CallR X (.type "set") (rSetW X.K X.prog X.w) := by
  rintro pins s σ H xs us Q I r ⟨l, ks, e, hs, hk, hl, q⟩
  rcases hs with hs | hs
  · exact cr_setOfT hc hu pins s σ H xs us Q I r ⟨l, ks, e, hs, hk, hl, q⟩
  · subst e
    rw [Vals.ref1 r]
    have free : H s.heap.objs.size = none := I.hok.fresh (Nat.le_refl _)
    obtain ⟨its, rv, pt, _⟩ := I.tuple hs
    refine set_tt (P := X.prog) (w := X.w) ks (I.ok.hd hc) (show s.heap.IsTuple l its.toArray from pt) (by simpa using refs_of_vals rv) (fun p hp => I.isT (hk p hp)) hl (by omega) fun h' tk L es ep t R g k => ?_
    exact ⟨.ref s.heap.objs.size, upd H s.heap.objs.size (SetTO X.prog X.w s.heap.objs.size L), I.laid (t' := tk) k (Nat.le_refl _) (setTO_new R.t0), rfl, q _ L free (fun p hp => List.mem_of_mem_take (g.sub p hp)) fun p hp => g.all p (by rw [List.take_length]; exact hp)⟩
/-! ## sorted(set) -/
theorem sorted_words {w : World} {P : Program} {A : Around} {E : Value → Shared → Prop} {s : Shared} {a : Addr} {L : List (Addr × List Int)} {es : Array (Int × Value)} {ep : Nat} {t : SetTable} {Q : Value → Shared → Prop} (R : SetTR P w s.heap a L es ep t) (calm : A.handled = none) (room : A.units + 65 < cLine)
    (ne : ∀ p ∈ L, p.2 ≠ []) (rd : ∀ p ∈ L, ∃ as, PySem.Reads s.heap (.ref p.1) (encW p.2) as)
    (fin : ∀ s' q (out : Array Value) (c : Nat) (L' : List (Addr × List Int)), (∀ b o, s.heap.get? b = some o → s'.heap.get? b = some o) → s'.gens = s.gens → s'.os = s.os → s.heap.objs.size ≤ q → s'.heap.get? q = some (seqObj "list" out c) → out.toList = L'.map (fun p => Value.ref p.1) → L'.Perm L → L'.Pairwise (fun p q => ltW p.2 q.2 = true) → Q (.ref q) s') :
    wpAny (model P w) A (call (.builtin "sorted") [.ref a]) Q E s := by
  have RR := R
  obtain ⟨o, ho, hex, hd⟩ := R.ob
  have sz := R.size
  have few := R.few
  refine Calls.call_function_entry kind_sorted plain_sorted entry_sorted (args_sorted1 _) ?_
  unfold Builtin.«sorted»
  refine wpAny_bind (m := checkCount "sorted" 1 1 _) (wpAny_pure ?_)
  refine wpAny_bind (collect_set (A := A.in1) calm ⟨o, ho, hex.1, hd⟩ R.fits (by unfold scanBound; omega) R.tab.ris R.led fun s1 vs k1 hz g1 o1 pm => ?_)
  have rows : es.toList.map (·.2) = L.map fun q => Value.ref q.1 := by
    rw [R.rows]
    unfold rowsOf
    rw [List.map_map]
    rfl
  rw [rows] at pm
  -- which rows these are
  have from_ : ∀ us : List Value, us.Perm (L.map fun q => Value.ref q.1) → ∃ M : List (Addr × List Int), us = M.map (fun q => Value.ref q.1) ∧ M.Perm L := by
    intro us pu
    have key : ∀ q ∈ L, ∀ r ∈ L, q.1 = r.1 → q = r := fun q hq r hr e => by
      have x := R.tup q hq
      rw [e] at x
      exact Prod.ext e (x.inj (R.tup r hr))
    have nd : L.Nodup := nodup_of_map R.nd
    have ndr : (L.map fun q => Value.ref q.1).Nodup := by
      refine List.pairwise_map.mpr (nd.imp_of_mem fun {q r} hq hr h e => ?_)
      injection e with e
      exact h (key q hq r hr e)
    have pick : ∀ us : List Value, (∀ u ∈ us, u ∈ L.map fun q => Value.ref q.1) → ∃ M : List (Addr × List Int), us = M.map (fun q => Value.ref q.1) ∧ ∀ q ∈ M, q ∈ L := by
      intro us
      induction us with
      | nil => exact fun _ => ⟨[], rfl, by simp⟩
      | cons u us ih =>
        intro h
        obtain ⟨M, e, hm⟩ := ih fun v hv => h v (List.mem_cons_of_mem _ hv)
        obtain ⟨q, hq, rfl⟩ := List.mem_map.mp (h u List.mem_cons_self)
        exact ⟨q :: M, by rw [e]; rfl, fun r hr => (List.mem_cons.mp hr).elim (fun e => e ▸ hq) (hm r)⟩
    obtain ⟨M, rfl, hM⟩ := pick us fun u hu => pu.mem_iff.mp hu
    refine ⟨M, rfl, (List.perm_ext_iff_of_nodup (nodup_of_map (pu.nodup_iff.mpr ndr)) nd).mpr fun q => ⟨hM q, fun hq => ?_⟩⟩
    obtain ⟨r, hr, e⟩ := List.mem_map.mp (pu.mem_iff.mpr (List.mem_map.mpr ⟨q, hq, rfl⟩))
    injection e with e
    exact key r (hM r hr) q hq e ▸ hr
  obtain ⟨M, rfl, pM⟩ := from_ vs pm
  have lM : (M.map fun q : Addr × List Int => Value.ref q.1).length ≤ sizeLine := by rw [List.length_map, pM.length_eq, sizeLine_eq]; omega
  refine wpAny_bind (wpAny_newList ?_ lM)
  generalize ec : s1.heap.objs.size = c
  have atL : (s1.heap.push (seqObj "list" (M.map fun q => Value.ref q.1).toArray 0)).get? c = some (seqObj "list" (M.map fun q => Value.ref q.1).toArray 0) := by rw [← ec]; exact Heap.get?_push_size _ rfl
  generalize hh : s1.heap.push (seqObj "list" (M.map fun q => Value.ref q.1).toArray 0) = h1 at *
  have old1 : ∀ b u, s.heap.get? b = some u → h1.get? b = some u := fun b u e => by rw [← hh]; exact Heap.get?_push_of_some _ (k1 b u e)
  have lt1 : ∀ b u, s.heap.get? b = some u → Nat.lt b c := fun b u e => by rw [← ec]; exact Heap.lt_size (k1 b u e)
  have eR : ∀ M : List (Addr × List Int), PySem.W.EachIs (fun v q => v = Value.ref q.1) (M.map fun q => Value.ref q.1) M := by
    intro M
    induction M with
    | nil => exact .nil
    | cons q M ih => exact .cons rfl ih
  have eD : PySem.W.EachIs (fun v (q : Addr × List Int) => ∃ as, PySem.Reads (PySem.W.sortingHeap h1 c (M.map fun q => Value.ref q.1)) v (encW q.2) as) (M.map fun q => Value.ref q.1) M := by
    have gen : ∀ M' : List (Addr × List Int), (∀ q ∈ M', q ∈ L) → PySem.W.EachIs (fun v (q : Addr × List Int) => ∃ as, PySem.Reads (PySem.W.sortingHeap h1 c (M.map fun q => Value.ref q.1)) v (encW q.2) as) (M'.map fun q => Value.ref q.1) M' := by
      intro M'
      induction M' with
      | nil => exact fun _ => .nil
      | cons q M' ih =>
        intro hq
        obtain ⟨as, r⟩ := rd q (hq q List.mem_cons_self)
        exact .cons ⟨as, PyProof.Rows.Reads.keeps (fun b u e => PySem.W.sortingHeap_old (Nat.ne_of_lt (lt1 b u e)) (old1 b u e)) r⟩ (ih fun r hr => hq r (List.mem_cons_of_mem _ hr))
    exact gen M fun q hq => pM.mem_iff.mp hq
  have al : PySem.W.AllAlike (M.map fun q => encW q.2) := fun d hd d' hd' => by
    obtain ⟨q, _, rfl⟩ := List.mem_map.mp hd
    obtain ⟨r, _, rfl⟩ := List.mem_map.mp hd'
    show PySem.W.alike (encW q.2) (encW r.2) = true
    rw [PySem.W.alike]
    exact PySem.W.alike_ints q.2 r.2
  have sb : PySem.W.Sortable (M.map fun q => encW q.2) := .inl fun d hd => by
    obtain ⟨q, hq, rfl⟩ := List.mem_map.mp hd
    obtain ⟨x, r, e⟩ := List.exists_cons_of_ne_nil (ne q (pM.mem_iff.mp hq))
    exact ⟨.int x, r.map .int, by show PyData.tuple (q.2.map .int) = _; rw [e]; rfl⟩
  have S := PySem.W.SortsAt.data (prog := P) (w := w) (A := A.in1.in1) (s := { s1 with heap := PySem.W.sortingHeap h1 c (M.map fun q => Value.ref q.1) }) (PySem.W.each_map (R := fun v d => ∃ as, PySem.Reads (PySem.W.sortingHeap h1 c (M.map fun q => Value.ref q.1)) v d as) (fun q : Addr × List Int => encW q.2) eD) al sb (fun d hd => by
    obtain ⟨q, _, rfl⟩ := List.mem_map.mp hd
    have := encW_dep q.2
    show A.in1.in1.units + _ < _
    have e1 : A.in1.in1.units = A.units + 2 := rfl
    omega)
  refine wpAny_bind (wpAny_holding (wpAny_call_entry_kw slot_list_sort ⟨_, atL, rfl⟩ entry_list_sort ?body (args_list_sort _)))
  case body =>
    refine PySem.W.list_sort_vals (s := { s1 with heap := h1 }) atL S lM ?_
    have srt := PySem.W.sortVals_data (h' := PySem.W.sortingHeap h1 c (M.map fun q => Value.ref q.1)) (enc := fun q : Addr × List Int => encW q.2) false (eR M) eD al
    generalize PySem.W.sortVals _ false _ _ = out at srt
    generalize eN : M.mergeSort (PySem.W.dataLe false fun q : Addr × List Int => encW q.2) = N at srt
    have pN : N.Perm L := by rw [← eN]; exact (List.mergeSort_perm _ _).trans pM
    have oN : out = N.map fun q => Value.ref q.1 := by
      clear eN pN
      induction srt with
      | nil => rfl
      | cons e _ ih => rw [e, ih]; rfl
    have le : ∀ q r : Addr × List Int, PySem.W.dataLe false (fun q : Addr × List Int => encW q.2) q r = !ltW r.2 q.2 := fun q r => by
      rw [PySem.W.dataLe_eq]
      exact congrArg not (encW_lt r.2 q.2)
    have wk : N.Pairwise fun q r => PySem.W.dataLe false (fun q : Addr × List Int => encW q.2) q r = true := by
      rw [← eN]
      refine List.pairwise_mergeSort (fun a b c h g => ?_) (fun a b => ?_) M
      · rw [le] at h g ⊢
        simp only [Bool.not_eq_true'] at h g ⊢
        cases h3 : ltW c.2 a.2 with
        | false => rfl
        | true =>
          cases h4 : ltW a.2 b.2 with
          | true => rw [ltW_tr _ _ _ h3 h4] at g; cases g
          | false => rw [ltW_tri _ _ h4 h] at h3; rw [h3] at g; cases g
      · rw [le, le]
        cases h1 : ltW b.2 a.2 with
        | false => rfl
        | true =>
          cases h2 : ltW a.2 b.2 with
          | false => rfl
          | true => have := ltW_tr _ _ _ h1 h2; rw [ltW_irr] at this; cases this
    have st : N.Pairwise fun p q => ltW p.2 q.2 = true := by
      have ndN : (N.map (·.2)).Nodup := (pN.map (·.2)).nodup_iff.mpr R.nd
      have := List.pairwise_map.mp ndN
      refine (wk.and this).imp fun {p q} h => ?_
      obtain ⟨h1, h2⟩ := h
      rw [le] at h1
      cases h3 : ltW p.2 q.2 with
      | true => rfl
      | false => exact absurd (ltW_tri _ _ h3 (by simpa using h1)) h2
    obtain ⟨c2, hc2⟩ := sortedHeap_at (vs := M.map fun q => Value.ref q.1) (out := out.toArray) atL
    refine ⟨_, rfl, wpAny_pure ⟨_, rfl, ?_⟩⟩
    refine fin _ c out.toArray c2 N (fun b u e => ?_) g1 o1 (by rw [← ec]; exact hz) hc2 (by rw [oN]) pN st
    show (sortedHeap h1 c _ _).get? b = some u
    have lb : Nat.lt b h1.objs.size := Heap.lt_size (old1 b u e)
    rw [sortedHeap_old (Nat.ne_of_lt (lt1 b u e)) lb]
    exact old1 b u e
end
end Lw
set_option linter.all false
set_option Elab.async false
set_option maxRecDepth 100000
set_option maxHeartbeats 4000000
namespace Lw
open PySem PySem.Spec L2 PyProof.Rows
theorem rp_words {K : PySem.W.Frag} {O : OS} {H : Hp} {x : V} {ds : List D} {w : List Int} (r : Rp K O H x (.tup ds)) (e : intsOf ds = some w) : ∃ a, x = .ref a ∧ SqT K H a (w.map V.int) := by
  cases r with
  | @tup a vs _ h1 h2 => exact ⟨a, rfl, by rw [← ints_rp e h2]; exact h1.sq⟩
theorem ints_back : ∀ {ds : List D} {w : List Int}, intsOf ds = some w → ds = w.map D.int
  | [], _, e => by cases e; rfl
  | d :: ds, w, e => by
    cases d <;> simp only [intsOf] at e <;> first | cases e | skip
    cases q : intsOf ds with
    | none => rw [q] at e; cases e
    | some ns => rw [q] at e; cases e; rw [ints_back q]; rfl
/-- the rows of a sequence of tuples of ints -/
theorem rows_of {K : PySem.W.Frag} {O : OS} {H : Hp} : ∀ {vs : List V} {ds : List D} {ws : List (List Int)}, wordsOf ds = some ws → RpL K O H vs ds → ∃ ks : List (Addr × List Int), vs = ks.map (fun p => V.ref p.1) ∧ ks.map (·.2) = ws ∧ ∀ p ∈ ks, Rp K O H (.ref p.1) (.tup (p.2.map .int)) ∧ SqT K H p.1 (p.2.map V.int)
  | _, _, _, e, .nil => by cases e; exact ⟨[], rfl, rfl, by simp⟩
  | _, d :: ds, ws, e, .cons r rs => by
    cases d <;> simp only [wordsOf] at e <;> first | cases e | skip
    rename_i xs
    cases e1 : intsOf xs with
    | none => rw [e1] at e; cases e
    | some w =>
      cases e2 : wordsOf ds with
      | none => rw [e1, e2] at e; cases e
      | some ws' =>
        rw [e1, e2] at e
        cases e
        obtain ⟨ks, rfl, rfl, h⟩ := rows_of e2 rs
        obtain ⟨a, rfl, hs⟩ := rp_words r e1
        refine ⟨(a, w) :: ks, rfl, rfl, fun p hp => ?_⟩
        rcases List.mem_cons.mp hp with rfl | hp
        · exact ⟨by rw [← ints_back e1]; exact r, hs⟩
        · exact h p hp
section
variable {X : Cx}
def rSrtW (K : PySem.W.Frag) (P : Program) (w : World) : List V → Hp → VK → Prop := fun vs H Q => ∃ (O : OS) (a : Addr) (L : List (Addr × List Int)), vs = [V.ref a] ∧ H a = some (SetTO P w a L) ∧ (∀ p ∈ L, p.2 ≠ [] ∧ Rp K O H (.ref p.1) (.tup (p.2.map .int)) ∧ SqT K H p.1 (p.2.map V.int)) ∧
  ∀ (N : List (Addr × List Int)) (q : Addr), N.Perm L → (N.Pairwise fun p r => ltW p.2 r.2 = true) → H q = none → Q (.ref q) (upd H q (.lst (N.map fun p => V.ref p.1)))
theorem cr_srtW (hc : X.calm = true) (hu : X.A.units + 65 < cLine) : CallR X (.builtin "sorted") (rSrtW X.K X.prog X.w) := by
  rintro pins s σ H vs us Q I r ⟨O, a, L, rfl, ha, hk, q⟩
  have R0 : SetT0 X.prog X.w s.heap a L := (I.hok a _ ha).1
  obtain ⟨es, ep, t, R⟩ := R0.full fun p hp => I.isT (hk p hp).2.2
  rw [Vals.ref1 r]
  refine sorted_words R (I.ok.hd hc) hu (fun p hp => (hk p hp).1) (fun p hp => ?_) fun s' b out c N k g o hb hg ho pm pw => ?_
  · obtain ⟨as, rd⟩ := Dp.reads I _ _ _ (dp_rp (okD_plain (okW p.2)) (hk p hp).2.1) (show RelV (.ref p.1) (Value.ref p.1) from rfl)
    exact ⟨as, by rw [encW_py]; exact rd⟩
  · have few : N.length < 64 := by rw [pm.length_eq]; exact R.few
    have lN : (N.map fun p => V.ref p.1).length ≤ sizeLine := by rw [List.length_map, sizeLine_eq]; omega
    have free : H b = none := I.hok.fresh hb
    have J : Inv X pins σ (upd H b (.lst (N.map fun p => V.ref p.1))) { s with heap := s'.heap, gens := s'.gens, drawn := s'.drawn, toks := s'.toks } :=
      I.call (ch := []) (Un.laid k hb free) (I.hok.laid k hb ⟨lN, out.toList, c, by rw [ho]; exact vals_of_refs N, hg⟩) (by rw [g]; exact I.bare) (fun _ z => nomatch z)
    have e : s' = { s with heap := s'.heap, gens := s'.gens, drawn := s'.drawn, toks := s'.toks } := by
      obtain ⟨x1, x2, x3, x4, x5⟩ := s'
      obtain ⟨y1, y2, y3, y4, y5⟩ := s
      cases o
      rfl
    rw [e]
    exact ⟨.ref b, _, J, rfl, q N b pm pw free⟩
def rSet (K : PySem.W.Frag) (P : Program) (w : World) : List V → Hp → VK → Prop := fun xs H Q => rSetI K w xs H Q ∨ rSetW K P w xs H Q
def rSrt (K : PySem.W.Frag) (P : Program) (w : World) : List V → Hp → VK → Prop := fun xs H Q => rSortedSet w xs H Q ∨ rSrtW K P w xs H Q
theorem cr_set (hc : X.calm = true) (hu : X.A.units + 65 < cLine) : CallR X (.type "set") (rSet X.K X.prog X.w) := fun pins s σ H xs us Q I r h => h.elim (cr_setI hc pins s σ H xs us Q I r) (cr_setW hc (by omega) pins s σ H xs us Q I r)
theorem cr_srt (hc : X.calm = true) (hu : X.A.units + 65 < cLine) : CallR X (.builtin "sorted") (rSrt X.K X.prog X.w) := fun pins s σ H xs us Q I r h => h.elim (cr_sortedSet hc pins s σ H xs us Q I r) (cr_srtW hc hu pins s σ H xs us Q I r)
/-- sorted(set(x)) -/
theorem ss_ok {K : PySem.W.Frag} {P : Program} {w : World} {x : V} {H : Hp} {Q : VK} (h : ∃ O d v, Trk O H ∧ Rt K O H x d ∧ ofV .sorted d = some v ∧ ∀ z H', NewV K O H H' v z → Q z H') : rSet K P w [x] H fun z H2 => rSrt K P w [z] H2 Q := by
  obtain ⟨O, d, v, tr, rx, ev, q⟩ := h
  have go : ∀ (l : Addr) (vs : List V) (xs : List D), x = .ref l → (SqL K H l vs ∨ SqT K H l vs) → RpL K O H vs xs → ∀ ys, usL xs = some ys → (∀ z H', NewV K O H H' (.fr ys) z → Q z H') → rSet K P w [x] H fun z H2 => rSrt K P w [z] H2 Q := by
    rintro l vs xs rfl hs rl ys e q
    unfold usL at e
    cases ei : intsOf xs with
    | some ns =>
      rw [ei] at e
      dsimp only at e
      split at e
      · rename_i hl
        cases e
        rw [ints_rp ei rl] at hs
        refine .inl ⟨l, ns, rfl, hs, hl, fun a c ha hc => .inl ⟨a, _, c, rfl, upd_same, hc, fun ns' p asc mem _ hp => ?_⟩⟩
        have eq : us ltI ns = ns' := asc_one ltI_irr ltI_tr (asc_us ltI_tr ltI_tri ns) (asc.imp fun h => by simpa [ltI] using h) fun y => by
          rw [mem_us ltI_tri, mem]
          simp
        rw [eq] at q
        have ri : ∀ (O : OS) (H : Hp) (m : List Int), RpL K O H (m.map V.int) (m.map D.int) := fun O H m => by
          induction m with
          | nil => exact .nil
          | cons x m ih => exact .cons (.int x) ih
        exact q _ _ ⟨p, _, _, rfl, Grow.upd ha, hp, rfl, ri _ _ ns'⟩
      · cases e
    | none =>
      rw [ei] at e
      dsimp only at e
      cases ew : wordsOf xs with
      | none => rw [ew] at e; cases e
      | some ws =>
        rw [ew] at e
        dsimp only at e
        split at e
        · rename_i hl
          cases e
          obtain ⟨ks, rfl, rfl, hk⟩ := rows_of ew rl
          have hne : ∀ p ∈ ks, p.2 ≠ [] := fun p hp z => by
            have := List.all_eq_true.mp hl.2 p.2 (List.mem_map.mpr ⟨p, hp, rfl⟩)
            rw [z] at this; cases this
          refine .inr ⟨l, ks, rfl, hs, fun p hp => (hk p hp).2, by simpa using hl.1, fun a L ha h1 h2 => .inr ?_⟩
          have gr : Grow H (upd H a (SetTO P w a L)) := Grow.upd ha
          have kk : Kept O H O (upd H a (SetTO P w a L)) := gr.kept fun _ _ h _ => h
          refine ⟨O, a, L, rfl, upd_same, fun p hp => ⟨hne p (h1 p hp), (hk p (h1 p hp)).1.kept kk, ?_⟩, fun N p pm asc hp => ?_⟩
          · obtain ⟨b, e, hs⟩ := rp_words ((hk p (h1 p hp)).1.kept kk) (w := p.2) (by
              have : ∀ m : List Int, intsOf (m.map D.int) = some m := fun m => by
                induction m with
                | nil => rfl
                | cons x m ih => rw [List.map_cons, intsOf, ih]; rfl
              exact this p.2)
            cases e
            exact hs
          · have eq : us ltW (ks.map (·.2)) = N.map (·.2) := asc_one ltW_irr ltW_tr (asc_us ltW_tr ltW_tri _) (List.pairwise_map.mpr asc) fun y => by
              rw [mem_us ltW_tri]
              constructor
              · intro hy
                obtain ⟨p, hp, rfl⟩ := List.mem_map.mp hy
                exact (pm.map (·.2)).mem_iff.mpr (h2 p hp)
              · intro hy
                obtain ⟨p, hp, rfl⟩ := List.mem_map.mp hy
                exact List.mem_map.mpr ⟨p, h1 p (pm.mem_iff.mp hp), rfl⟩
            rw [eq] at q
            have rN : ∀ M : List (Addr × List Int), (∀ p ∈ M, p ∈ ks) → RpL K O (upd H a (SetTO P w a L)) (M.map fun p => V.ref p.1) ((M.map (·.2)).map fun w => D.tup (w.map .int)) := fun M => by
              induction M with
              | nil => exact fun _ => .nil
              | cons p M ih => exact fun hM => .cons ((hk p (hM p List.mem_cons_self)).1.kept kk) (ih fun r hr => hM r (List.mem_cons_of_mem _ hr))
            exact q _ _ ⟨p, _, _, rfl, gr, hp, rfl, rN N fun r hr => h1 r (pm.mem_iff.mp hr)⟩
        · cases e
  cases d <;> simp only [ofV] at ev <;> first | (cases ev; done) | skip
  · rename_i xs
    cases e : usL xs with
    | none => rw [e] at ev; cases ev
    | some ys =>
      rw [e] at ev
      cases ev
      obtain ⟨a, vs, rfl, ta, ra⟩ := rx.tup
      exact go a vs xs rfl (.inr ta.sq) ra ys e q
  · rename_i xs
    cases e : usL xs with
    | none => rw [e] at ev; cases ev
    | some ys =>
      rw [e] at ev
      cases ev
      obtain ⟨a, vs, rfl, ta, ra⟩ := rx.lst
      exact go a vs xs rfl (.inl (.of ta)) ra ys e q
end
end Lw
set_option linter.all false
set_option Elab.async false
set_option maxRecDepth 100000
set_option maxHeartbeats 1000000
namespace Lw
open PySem PySem.Spec L2

/-! ## methods of built-in types -/
/-- the value is of that built-in type, and has no dict of its own -/
def TyS (X : Cx) (T : String) (x : V) (H : Hp) : Prop := ∀ (pins : List (Addr × Obj)) (s : Shared) (σ : SS) (v : Value), Inv X pins σ H s → RelV x v →
  s.TypeIs v T ∧ ∀ a, v = .ref a → ∃ ob, s.heap.get? a = some ob ∧ ob.dict = none
section
variable {X : Cx} {H : Hp} {O : OS}
theorem tys_tup {a : Addr} {vs : List V} (h : TupAt X.K O H a vs) : TyS X "tuple" (.ref a) H := by
  intro pins s σ v I r
  cases r
  rcases h with ⟨_, o, hd, h⟩ | ⟨o, its, n, hk, hc, hd, _⟩
  · obtain ⟨e, q⟩ := (show s.heap.get? a = some o ∧ ObjOk X.prog X.w H s.heap a (.tup vs) from I.hok a _ h)
    obtain ⟨_, _, _, o', e', c, _⟩ := (show vs.length ≤ sizeLine ∧ ∃ its : List Value, Vals vs its ∧ PyProof.Rows.IsTup s.heap a its.toArray from q)
    rw [e] at e'; cases e'
    exact ⟨⟨o, e, c⟩, fun b z => by cases z; exact ⟨o, e, hd⟩⟩
  · exact ⟨⟨o, I.kIn a o hk, hc⟩, fun b z => by cases z; exact ⟨o, I.kIn _ o hk, hd⟩⟩
theorem tys_lst {a : Addr} {vs : List V} (h : H a = some (.lst vs)) : TyS X "list" (.ref a) H := by
  intro pins s σ v I r
  cases r
  obtain ⟨_, _, ⟨o, n, e, c, hd, _⟩, _⟩ := I.list (.of h)
  exact ⟨⟨o, e, c⟩, fun b z => by cases z; exact ⟨o, e, hd⟩⟩
end
def tBMX (X : Cx) (name : Str) (to : TE) (t : TA) : TE := fun σ H Q => to σ H fun x H1 => ∃ (T id : String) (r : V → List V → Hp → VK → Prop), PlainAttrs T ∧ PySem.Slot T name id ∧ typeOf (.builtin id) = pure (.type "method_descriptor") ∧ MtR X id r ∧
  TyS X T x H1 ∧ t σ H1 fun xs H2 => r x xs H2 Q
section
variable {X : Cx} {o e : Expr} {es : List Expr} {to : TE} {t : TA} {name : Str} {apos cpos : Pos}
theorem pe_bmx0 (ho : PE X o to) (hbase : attributeBase o name X.env (eval o X.env) = eval o X.env) (hline : (apos.endLine == cpos.line) = true) : PE X (.Call (.Attribute o name apos) [] [] cpos) (tBMX X name to tNil) := by
  refine ⟨fun pins s σ H Q I h => ?_⟩
  refine wpAny_Call_method0_late hbase hline (thn (ho.run pins s σ H _ I h) fun v s1 ⟨x, H1, I1, r1, T, id, r, pa, slot, hty, hm, ty, q1⟩ => ?_)
  obtain ⟨h1, h2⟩ := ty pins s1 σ v I1 r1
  exact ⟨T, id, pa, slot, hty, h1, h2, Calls.callWith_builtin rfl (PySem.evalArgs_none (hm pins s1 σ H1 x [] v [] Q I1 r1 .nil q1))⟩
theorem pe_bmx (ho : PE X o to) (ha : PA X (e :: es) t)
    (hbase : attributeBase o name X.env (eval o X.env) = eval o X.env)
    (hfew : ((backTo cpos (starEach (e :: es) X.env)).all (fun x => !x.1) && (backToKw cpos (keywordEach [] X.env)).all (fun x => x.1.isSome)
      && decide ((e :: es).length + ([] : List Keyword).length + (if ([] : List Keyword).isEmpty then 0 else 1) < 30)) = true)
    (hline : (apos.endLine == cpos.line) = true) (hs : starEach (e :: es) X.env = (false, eval e X.env) :: starEach es X.env) (hplain : (backTo cpos (starEach es X.env)).any (·.1) = false) :
    PE X (.Call (.Attribute o name apos) (e :: es) [] cpos) (tBMX X name to t) := by
  refine ⟨fun pins s σ H Q I h => ?_⟩
  refine wpAny_Call_method_late hbase hfew hline rfl (thn (ho.run pins s σ H _ I h) fun v s1 ⟨x, H1, I1, r1, T, id, r, pa, slot, hty, hm, ty, q1⟩ => ?_)
  obtain ⟨h1, h2⟩ := ty pins s1 σ v I1 r1
  refine ⟨T, id, pa, slot, hty, h1, h2, ?_⟩
  have hA := ha.run cpos pins s1 σ H1 _ I1 q1
  rw [hs] at hA ⊢
  refine Calls.callWith_builtin (by show (false || (backTo cpos (starEach es X.env)).any (·.1)) = false; rw [hplain] <;> rfl) (Calls.evalArgs_plain ?_)
  exact thn hA fun us s2 ⟨vs, H2, I2, r2, q2⟩ => hm pins s2 σ H2 x vs v us Q I2 r1 r2 q2
end

/-! ### x.count(y), x.index(y) -/
theorem plain_tup {xs : List D} (h : okD (.tup xs) = true) : plainDs xs = true := by
  have := okD_plain h
  simpa [plainD] using this
theorem plain_lst {xs : List D} (h : okD (.lst xs) = true) : plainDs xs = true := by
  have := okD_plain h
  simpa [plainD] using this
theorem count_py {x : D} (hx : plainD x = true) : ∀ ys : List D, plainDs ys = true → ((toPys ys).countP fun z => PyData.eqv z (toPy x)) = ys.countP fun y => eqD y x
  | [], _ => rfl
  | y :: ys, h => by
    simp only [plainDs, Bool.and_eq_true] at h
    simp only [toPys, List.countP_cons]
    rw [count_py hx ys h.2, eqv_eq y x h.1 hx]
theorem get_py : ∀ (ys : List D) (i : Nat), (toPys ys)[i]? = ys[i]?.map toPy
  | [], _ => by simp [toPys]
  | y :: ys, 0 => by simp [toPys]
  | y :: ys, i + 1 => by simp [toPys, get_py ys i]
theorem plain_mem : ∀ {ys : List D} {y : D}, plainDs ys = true → y ∈ ys → plainD y = true
  | z :: ys, y, h, m => by
    simp only [plainDs, Bool.and_eq_true] at h
    rcases List.mem_cons.mp m with e | m
    · rw [e]; exact h.1
    · exact plain_mem h.2 m
/-- what a method gives -/
def rMeth (X : Cx) (m : MT) : V → List V → Hp → VK → Prop := fun x xs H Q => ∃ O d ds w, Trk O H ∧ Rt X.K O H x d ∧ Paired (Rt X.K O H) xs ds ∧ methV m d ds = some w ∧ ∀ z H', NewV X.K O H H' w z → Q z H'
def rMethT (X : Cx) (m : MT) (f : List D → D) : V → List V → Hp → VK → Prop := fun x xs H Q => ∃ O ys d w, Trk O H ∧ Rt X.K O H x (f ys) ∧ Paired (Rt X.K O H) xs [d] ∧ methV m (f ys) [d] = some w ∧ ∀ z H', NewV X.K O H H' w z → Q z H'
section
variable {X : Cx}
open PySem.SeqAt in
theorem mt_count_tup (hu : X.A.units + 65 < cLine) : MtR X "tuple.count" (rMethT X .count .tup) := by
  intro pins s σ H x xs v us Q I rx rs h
  obtain ⟨O, ys, d, w, t, ry, rd, e, q⟩ := h
  obtain ⟨y, rfl, rd1⟩ := fa1 rd
  obtain ⟨u, rfl, ru⟩ := vals1 rs
  simp only [methV] at e
  split at e
  · rename_i hk
    rw [Bool.and_eq_true] at hk
    cases e
    obtain ⟨p, vs, rfl, ta, ra⟩ := ry.tup
    cases rx
    obtain ⟨its, rv, ⟨⟨cls, dd, data, sl⟩, ho, hc, n, hd⟩, hz⟩ := I.tuple ta.sq
    simp only at hc hd
    subst hc hd
    have pl := plain_tup hk.1
    obtain ⟨bs, r1⟩ := Dp.reads I _ y u (dp_rt (okD_plain hk.2) rd1) ru
    obtain ⟨as, h4⟩ := Dp.readsAll I _ _ its (dps_rp pl ra) rv
    have lay := lays_eq ys pl
    have hroom : X.A.units + 1 + min (PyData.depthAll (toPys ys)) (toPy d).depth < cLine := PyProof.Rows.room_in_shaped (shaped_ok hk.2) hu
    have hmap : its.map (readOf s.heap) = toPys ys := readsAll_map _ its as lay h4
    refine call_meets PySem.F.slot_tuple_count ⟨_, ho, rfl⟩ PySem.F.entry_tuple_count (PySem.F.args_tuple_count_2 _ _)
      (tuple_countAt p its.toArray n dd sl u (fun z => PyData.eqv (readOf s.heap z) (toPy d))) ⟨ho, items_eqAt (vs := its.toArray) (show ReadsAll s.heap its.toArray.toList _ as from h4) r1 lay (lay_eq d (okD_plain hk.2)) hroom, ?_⟩
    have ec : (its.toArray.toList.countP fun z => PyData.eqv (readOf s.heap z) (toPy d)) = ys.countP fun y => eqD y d := by
      rw [← count_py (okD_plain hk.2) ys pl, ← hmap, List.countP_map]
      rfl
    refine ⟨.int (ys.countP fun y => eqD y d : Nat), H, I.tok _, ⟨s.toks, ?_⟩, q _ _ (new_sh (.int _))⟩
    rw [← ec]
  · cases e
open PySem.SeqAt in
theorem mt_count_lst (hu : X.A.units + 65 < cLine) : MtR X "list.count" (rMethT X .count .lst) := by
  intro pins s σ H x xs v us Q I rx rs h
  obtain ⟨O, ys, d, w, t, ry, rd, e, q⟩ := h
  obtain ⟨y, rfl, rd1⟩ := fa1 rd
  obtain ⟨u, rfl, ru⟩ := vals1 rs
  simp only [methV] at e
  split at e
  · rename_i hk
    rw [Bool.and_eq_true] at hk
    cases e
    obtain ⟨p, vs, rfl, ta, ra⟩ := ry.lst
    cases rx
    obtain ⟨its, rv, ⟨⟨cls, dd, data, sl⟩, n, ho, hc, hdn, hd⟩, hz⟩ := I.list (.of ta)
    simp only at hc hd
    subst hc hd
    have pl := plain_lst hk.1
    obtain ⟨bs, r1⟩ := Dp.reads I _ y u (dp_rt (okD_plain hk.2) rd1) ru
    obtain ⟨as, h4⟩ := Dp.readsAll I _ _ its (dps_rp pl ra) rv
    have lay := lays_eq ys pl
    have hroom : X.A.units + 1 + min (PyData.depthAll (toPys ys)) (toPy d).depth < cLine := PyProof.Rows.room_in_shaped (shaped_ok hk.2) hu
    have hmap : its.map (readOf s.heap) = toPys ys := readsAll_map _ its as lay h4
    refine call_meets PySem.F.slot_list_count ⟨_, ho, rfl⟩ PySem.F.entry_list_count (PySem.F.args_list_count_2 _ _)
      (list_countAt p its.toArray n dd sl u (fun z => PyData.eqv (readOf s.heap z) (toPy d))) ⟨ho, items_eqAt (vs := its.toArray) (show ReadsAll s.heap its.toArray.toList _ as from h4) r1 lay (lay_eq d (okD_plain hk.2)) hroom, ?_⟩
    have ec : (its.toArray.toList.countP fun z => PyData.eqv (readOf s.heap z) (toPy d)) = ys.countP fun y => eqD y d := by
      rw [← count_py (okD_plain hk.2) ys pl, ← hmap, List.countP_map]
      rfl
    refine ⟨.int (ys.countP fun y => eqD y d : Nat), H, I.tok _, ⟨s.toks, ?_⟩, q _ _ (new_sh (.int _))⟩
    rw [← ec]
  · cases e
theorem find_idx {p : D → Bool} : ∀ {ys : List D} {j : Nat}, ys.findIdx? p = some j → (∃ y, ys[j]? = some y ∧ p y = true) ∧ ∀ m z, m < j → ys[m]? = some z → p z = false
  | [], j, h => by simp at h
  | y :: ys, j, h => by
    rw [List.findIdx?_cons] at h
    split at h
    · rename_i hp
      cases h
      exact ⟨⟨y, rfl, hp⟩, fun m z hm => absurd hm (Nat.not_lt_zero _)⟩
    · rename_i hp
      cases e : ys.findIdx? p with
      | none => rw [e] at h; cases h
      | some k =>
        rw [e] at h; cases h
        obtain ⟨⟨z, h1, h2⟩, h3⟩ := find_idx e
        refine ⟨⟨z, by simpa using h1, h2⟩, fun m w hm hw => ?_⟩
        cases m with
        | zero => cases hw; simpa using hp
        | succ m => exact h3 m w (Nat.lt_of_succ_lt_succ hm) (by simpa using hw)
theorem mt_index_lst (hu : X.A.units + 65 < cLine) : MtR X "list.index" (rMethT X .index .lst) := by
  intro pins s σ H x xs v us Q I rx rs h
  obtain ⟨O, ys, d, w, t, ry, rd, e, q⟩ := h
  obtain ⟨y, rfl, rd1⟩ := fa1 rd
  simp only [methV] at e
  split at e
  · rename_i hk
    rw [Bool.and_eq_true] at hk
    cases ej : ys.findIdx? (fun y => eqD y d) with
    | none => rw [ej] at e; cases e
    | some j =>
      rw [ej] at e; cases e
      obtain ⟨⟨z, hz, hp⟩, hno⟩ := find_idx ej
      have pl := plain_lst hk.1
      have dl := dp_rt (okD_plain hk.1) ry
      obtain ⟨p, vs, rfl, ta, ra⟩ := ry.lst
      refine mt_indexD hu pins s σ H (.ref p) [y] v us Q I rx rs ⟨p, y, toPy d, toPys ys, j, toPy z, rfl, rfl, dl, dp_rt (okD_plain hk.2) rd1, shaped_ok hk.1, shaped_ok hk.2, ?_, ?_, fun m z' hm hz' => ?_, q _ _ (new_sh (.int _))⟩
      · rw [get_py, hz]; rfl
      · rw [eqv_eq _ _ (plain_mem pl (List.mem_of_getElem? hz)) (okD_plain hk.2)]; exact hp
      · rw [get_py] at hz'
        cases ez : ys[m]? with
        | none => rw [ez] at hz'; cases hz'
        | some c =>
          rw [ez] at hz'; cases hz'
          rw [eqv_eq _ _ (plain_mem pl (List.mem_of_getElem? ez)) (okD_plain hk.2)]
          exact hno m c hm ez
  · cases e
open PySem.SeqAt in
theorem mt_index_tup (hu : X.A.units + 65 < cLine) : MtR X "tuple.index" (rMethT X .index .tup) := by
  intro pins s σ H x xs v us Q I rx rs h
  obtain ⟨O, ys, d, w, t, ry, rd, e, q⟩ := h
  obtain ⟨y, rfl, rd1⟩ := fa1 rd
  obtain ⟨u, rfl, ru⟩ := vals1 rs
  simp only [methV] at e
  split at e
  · rename_i hk
    rw [Bool.and_eq_true] at hk
    cases ej : ys.findIdx? (fun y => eqD y d) with
    | none => rw [ej] at e; cases e
    | some j =>
      rw [ej] at e; cases e
      obtain ⟨⟨z, hz, hp⟩, hno⟩ := find_idx ej
      have pl := plain_tup hk.1
      obtain ⟨p, vs, rfl, ta, ra⟩ := ry.tup
      cases rx
      obtain ⟨its, rv, ⟨⟨cls, dd, data, sl⟩, ho, hc, n, hd⟩, hsz⟩ := I.tuple ta.sq
      simp only at hc hd
      subst hc hd
      obtain ⟨bs, r1⟩ := Dp.reads I _ y u (dp_rt (okD_plain hk.2) rd1) ru
      obtain ⟨as, h4⟩ := Dp.readsAll I _ _ its (dps_rp pl ra) rv
      have lay := lays_eq ys pl
      have hroom : X.A.units + 1 + min (PyData.depthAll (toPys ys)) (toPy d).depth < cLine := PyProof.Rows.room_in_shaped (shaped_ok hk.2) hu
      have hmap : its.map (readOf s.heap) = toPys ys := readsAll_map _ its as lay h4
      have hl : its.length = ys.length := by rw [← rv.length, ra.length]
      have hjy : j < ys.length := (List.getElem?_eq_some_iff.mp hz).1
      have at_ : ∀ (m : Nat) (hm : m < its.toArray.size) (c : D), ys[m]? = some c → PyData.eqv (readOf s.heap its.toArray[m]) (toPy d) = eqD c d := by
        intro m hm c hc
        have hml : m < its.length := by simpa using hm
        have h1 : (its.map (readOf s.heap))[m]? = some (toPy c) := by rw [hmap, get_py, hc]; rfl
        rw [List.getElem?_map, List.getElem?_eq_getElem hml] at h1
        have h2 : readOf s.heap its[m] = toPy c := Option.some.inj h1
        rw [← eqv_eq c d (plain_mem pl (List.mem_of_getElem? hc)) (okD_plain hk.2), ← h2]
        simp
      have hj : j < its.toArray.size := by rw [List.size_toArray, hl]; exact hjy
      refine call_meets PySem.F.slot_tuple_index ⟨_, ho, rfl⟩ PySem.F.entry_tuple_index (PySem.F.args_tuple_index_2 _ _)
        (tuple_index2_found p its.toArray n dd sl u (fun m => if h : m < its.toArray.size then PyData.eqv (readOf s.heap its.toArray[m]) (toPy d) else false) j hj (Nat.zero_le _) hj ?_ ?_) ⟨ho, fun m hm => ?_, ?_⟩
      · rw [dif_pos hj, at_ j hj z hz]; exact hp
      · intro m hm _ hmj
        rw [dif_pos hm]
        have hmy : m < ys.length := by omega
        rw [at_ m hm ys[m] (List.getElem?_eq_getElem hmy)]
        exact hno m _ hmj (List.getElem?_eq_getElem hmy)
      · rw [dif_pos hm]
        exact items_eqAt (vs := its.toArray) (show ReadsAll s.heap its.toArray.toList _ as from h4) r1 lay (lay_eq d (okD_plain hk.2)) hroom _ (Array.getElem_mem hm)
      · exact ⟨.int (j : Nat), H, I.tok _, ⟨_, rfl⟩, q _ _ (new_sh (.int _))⟩
  · cases e
end
end Lw
set_option linter.all false
set_option Elab.async false
set_option maxRecDepth 100000
set_option maxHeartbeats 1000000
namespace Lw
open PySem PySem.Spec L2

/-! ## readings -/
abbrev WN := Nat → SS → Hp → Prop
section
variable {α β γ δ : Type}
def Post (K : PySem.W.Frag) (W : WN) (B : Base) (O : OS) (σ : SS) (H : Hp) (env : Env) (r : R α) (ok : OS → Hp → Env → α → β → Prop) (Q : β → Hp → Prop) : Prop := match r with
  | .ok a e' => ∀ b O' H', Step σ env e' O H O' H' → FrameOk K B O' σ H' e' → ok O' H' e' a b → Q b H'
  | .exc c e' => ∀ O' H', Step σ env e' O H O' H' → FrameOk K B O' σ H' e' → W c σ H'
  | .bad => False
variable {K : PySem.W.Frag} {W : WN} {B : Base} {O O1 : OS} {σ : SS} {H H1 : Hp} {env e1 : Env} {r : R α} {g : α → Env → R γ} {ok : OS → Hp → Env → γ → δ → Prop} {ok1 : OS → Hp → Env → α → β → Prop} {Q : δ → Hp → Prop}
/-- what is known behind the first part -/
def Mid (K : PySem.W.Frag) (W : WN) (B : Base) (O : OS) (σ : SS) (H : Hp) (env : Env) (r : R α) (g : α → Env → R γ) (ok : OS → Hp → Env → γ → δ → Prop) (ok1 : OS → Hp → Env → α → β → Prop) (Q : δ → Hp → Prop) (b : β) (H1 : Hp) : Prop :=
  ∃ a e1 O1, r = .ok a e1 ∧ Step σ env e1 O H O1 H1 ∧ FrameOk K B O1 σ H1 e1 ∧ ok1 O1 H1 e1 a b ∧ Post K W B O1 σ H1 e1 (g a e1) ok Q
theorem Post.bind (h : Post K W B O σ H env (r.bind g) ok Q) : Post K W B O σ H env r ok1 (Mid K W B O σ H env r g ok ok1 Q) := by
  cases r with
  | bad => exact h
  | exc c e' => exact h
  | ok a e' =>
    intro b O1 H1 s F k
    refine ⟨a, e', O1, rfl, s, F, k, ?_⟩
    have h' : Post K W B O σ H env (g a e') ok Q := h
    cases q : g a e' with
    | bad => rw [q] at h'; exact h'
    | exc c e2 =>
      rw [q] at h'
      exact fun O2 H2 s2 F2 => h' O2 H2 (s.trans s2) F2
    | ok d e2 =>
      rw [q] at h'
      exact fun x O2 H2 s2 F2 k2 => h' x O2 H2 (s.trans s2) F2 k2
theorem Post.mono {ok2 : OS → Hp → Env → α → β → Prop} {Q1 Q2 : β → Hp → Prop} (h : Post K W B O σ H env r ok2 Q1) (i : ∀ b H', Q1 b H' → Q2 b H') : Post K W B O σ H env r ok2 Q2 := by
  cases r with
  | bad => exact h
  | exc c e => exact h
  | ok a e => exact fun b O' H' s F k => i _ _ (h b O' H' s F k)
theorem Post.of {o : Option γ} (F : FrameOk K B O σ H env) (h : Post K W B O σ H env (R.of o env) ok Q) : ∃ w, o = some w ∧ ∀ x O' H', Step σ env env O H O' H' → FrameOk K B O' σ H' env → ok O' H' env w x → Q x H' := by
  cases o with
  | none => exact h.elim
  | some w => exact ⟨w, rfl, h⟩
end

abbrev okV (K : PySem.W.Frag) (B : Base) (σ : SS) : OS → Hp → Env → Val → V → Prop := fun O' H' e' v x => ValOk K B O' σ H' e' v x
abbrev okS (K : PySem.W.Frag) (σ : SS) : OS → Hp → Env → Val → V → Prop := fun O' H' _ v x => ValS K O' σ H' v x
abbrev okE {α : Type} : OS → Hp → Env → α → α → Prop := fun _ _ _ a b => a = b
abbrev okL (K : PySem.W.Frag) (σ : SS) : OS → Hp → Env → List Val → List V → Prop := fun O' H' _ vs xs => Paired (ValS K O' σ H') vs xs
def TmE (K : PySem.W.Frag) (W : WN) (f : Env → R Val) : TE := fun σ H Q => ∃ B O env, FrameOk K B O σ H env ∧ Post K W B O σ H env (f env) (okV K B σ) Q
def TmB (K : PySem.W.Frag) (W : WN) (f : Env → R Bool) : TT := fun σ H Q => ∃ B O env, FrameOk K B O σ H env ∧ Post K W B O σ H env (f env) okE Q
def TmL (K : PySem.W.Frag) (W : WN) (f : Env → R (List Val)) : TA := fun σ H Q => ∃ B O env, FrameOk K B O σ H env ∧ Post K W B O σ H env (f env) (okL K σ) Q
def TmO (K : PySem.W.Frag) (W : WN) (f : Env → R (Option Int)) : TO := fun σ H Q => ∃ B O env, FrameOk K B O σ H env ∧ Post K W B O σ H env (f env) okE Q

section
variable {X : Cx}
theorem PE_imp {e : Expr} {t t' : TE} (h : PE X e t) (i : ∀ σ H Q, t' σ H Q → t σ H Q) : PE X e t' := ⟨fun pins s σ H Q I q => h.run pins s σ H Q I (i σ H Q q)⟩
theorem PT_imp {e : Expr} {t t' : TT} (h : PT X e t) (i : ∀ σ H Q, t' σ H Q → t σ H Q) : PT X e t' := ⟨fun pins s σ H Q I q => h.run pins s σ H Q I (i σ H Q q)⟩
theorem PW_imp {e : Expr} {t t' : TT} (h : PW X e t) (i : ∀ σ H Q, t' σ H Q → t σ H Q) : PW X e t' := ⟨fun wh pins s σ H Q I q => h.run wh pins s σ H Q I (i σ H Q q)⟩
theorem PA_imp {es : List Expr} {t t' : TA} (h : PA X es t) (i : ∀ σ H Q, t' σ H Q → t σ H Q) : PA X es t' := ⟨fun pos pins s σ H Q I q => h.run pos pins s σ H Q I (i σ H Q q)⟩
theorem PO_imp {e : Option Expr} {t t' : TO} (h : PO X e t) (i : ∀ σ H Q, t' σ H Q → t σ H Q) : PO X e t' := ⟨fun pins s σ H Q I q => h.run pins s σ H Q I (i σ H Q q)⟩
theorem PS_imp {st : Stmt} {t t' : TS} (h : PS X st t) (i : ∀ D σ H, t' D σ H → t D σ H) : PS X st t' := ⟨fun pins s σ H D I q => h.run pins s σ H D I (i D σ H q)⟩
theorem PSs_imp {st : List Stmt} {t t' : TS} (h : PSs X st t) (i : ∀ D σ H, t' D σ H → t D σ H) : PSs X st t' := ⟨fun pins s σ H D I q => h.run pins s σ H D I (i D σ H q)⟩
end

section
variable {K : PySem.W.Frag} {W : WN} {B : Base} {O O1 O2 : OS} {σ : SS} {H H1 H2 : Hp} {env e1 e2 : Env} {Q : VK}
theorem FrameOk.trk (F : FrameOk K B O σ H env) : Trk O H := F.ot
theorem paired_get {α β : Type} {R : α → β → Prop} {a : α} {b : β} {as : List α} {bs : List β} (h : Paired R (a :: as) (b :: bs)) : R a b ∧ Paired R as bs := by
  cases h with | cons h1 h2 => exact ⟨h1, h2⟩
theorem paired_imp {α β : Type} {R R' : α → β → Prop} (i : ∀ a b, R a b → R' a b) : ∀ {as : List α} {bs : List β}, Paired R as bs → Paired R' as bs
  | _, _, .nil => .nil
  | _, _, .cons h t => .cons (i _ _ h) (paired_imp i t)
theorem paired_flip {α β : Type} {R : α → β → Prop} : ∀ {as : List α} {bs : List β}, Paired R as bs → Paired (fun b a => R a b) bs as
  | _, _, .nil => .nil
  | _, _, .cons h t => .cons h (paired_flip t)
theorem rdAll_ok (F : FrameOk K B O σ H env) : ∀ {vs : List Val} {xs : List V} {ds : List D}, Paired (ValS K O σ H) vs xs → rdAll vs env = some ds → Paired (Rt K O H) xs ds
  | [], _, _, .nil, e => by cases e; exact .nil
  | v :: vs, _, _, .cons h t, e => by
    simp only [rdAll] at e
    cases e1 : rdV v env with
    | none => rw [e1] at e; cases e
    | some d =>
      cases e2 : rdAll vs env with
      | none => rw [e1, e2] at e; cases e
      | some ds =>
        rw [e1, e2] at e; cases e
        exact .cons (rd_ok F h e1) (rdAll_ok F t e2)
theorem shAll_ok : ∀ {vs : List Val} {xs : List V} {ds : List D} {O : OS} {env e' : Env}, FrameOk K B O σ H env → Paired (ValS K O σ H) vs xs → shAll vs env = some (ds, e') →
    ∃ O', Step σ env e' O H O' H ∧ FrameOk K B O' σ H e' ∧ RpL K O' H xs ds
  | [], _, _, O, env, _, F, .nil, e => by cases e; exact ⟨O, .refl, F, .nil⟩
  | v :: vs, _, _, O, env, _, F, .cons h t, e => by
    simp only [shAll] at e
    cases e1 : shV v env with
    | none => rw [e1] at e; cases e
    | some p =>
      obtain ⟨d, en⟩ := p
      rw [e1] at e
      simp only at e
      cases e2 : shAll vs en with
      | none => rw [e2] at e; cases e
      | some p2 =>
        obtain ⟨ds, en2⟩ := p2
        rw [e2] at e; cases e
        obtain ⟨O1, s1, F1, r1⟩ := sh_ok F h e1
        obtain ⟨O2, s2, F2, r2⟩ := shAll_ok F1 (paired_imp (fun _ _ z => z.step F s1) t) e2
        exact ⟨O2, s1.trans s2, F2, .cons (r1.kept (s2.kept F1)) r2⟩
/-- the end of an operation that gives a value -/
theorem post_new {w : Val} {z : V} {H' : Hp} (F : FrameOk K B O σ H env) (q : ∀ x O' H', Step σ env env O H O' H' → FrameOk K B O' σ H' env → ValOk K B O' σ H' env w x → Q x H') (n : NewV K O H H' w z) : Q z H' := by
  obtain ⟨s, F', k⟩ := new_ok F n
  exact q z O H' s F' k
theorem ValS.of_ok {v : Val} {x : V} (h : ValOk K B O σ H env v x) : ValS K O σ H v x := h.1
end
end Lw
set_option linter.all false
set_option Elab.async false
set_option maxRecDepth 100000
set_option maxHeartbeats 1000000
namespace Lw
open PySem PySem.Spec L2

/-! ## the text of a term: places stand apart -/
inductive Pt where
  | node (p : Pos) (k : Nat) (sc : Scope) (cs : List Pt)
instance : Inhabited Pt := ⟨.node default 0 default []⟩
def Pt.p : Pt → Pos
  | .node p _ _ _ => p
def Pt.k : Pt → Nat
  | .node _ k _ _ => k
def Pt.sc : Pt → Scope
  | .node _ _ s _ => s
def Pt.cs : Pt → List Pt
  | .node _ _ _ c => c
def Pt.c (t : Pt) (i : Nat) : Pt := t.cs.getD i default

def biN : BI → Str
  | .gcd => "gcd" | .len => "len" | .int => "int" | .abs => "abs" | .min => "min" | .max => "max" | .sum => "sum" | .sorted => "sorted" | .tuple => "tuple" | .list => "list" | .any => "any" | .all => "all" | .set => "set" | .str => "str" | .bool => "bool"
def tyN : TY → Str
  | .bool => "bool" | .int => "int" | .str => "str" | .tuple => "tuple" | .list => "list"
def mtN : MT → Str
  | .count => "count" | .index => "index" | .join => "join" | .split => "split"
def nmN (N : List Str) (i : Nat) : Str := N.getD i "__debug__"
def fNs (N : List Str) : List Nat → Pt → Nat → List Expr
  | [], _, _ => []
  | n :: ns, t, i => .Name (nmN N n) (t.c i).p :: fNs N ns t (i + 1)
def fT (N : List Str) (g : Tg) (t : Pt) : Expr := match g with
  | .nm i => .Name (nmN N i) t.p
  | .tup ns => .Tuple (fNs N ns t 0) t.k t.p
mutual
def fE (N : List Str) (p : Pg) : E → Pt → Expr
  | .var i, t => .Name (nmN N i) t.p
  | .int i, t => .Constant (.int i) t.k t.p
  | .bl b, t => .Constant (.bool b) t.k t.p
  | .non, t => .Constant .none t.k t.p
  | .str x, t => .Constant (.str x) t.k t.p
  | .glob c, t => .Name (p.C.getD c "__debug__") t.p
  | .tup es, t => .Tuple (fEs N p es t 0) t.k t.p
  | .lst es, t => .List (fEs N p es t 0) t.p
  | .bin o a b, t => .BinOp (fE N p a (t.c 0)) (opOf o) (fE N p b (t.c 1)) t.p
  | .neg a, t => .UnaryOp .USub (fE N p a (t.c 0)) t.p
  | .not a, t => .UnaryOp .Not (fE N p a (t.c 0)) t.p
  | .and es, t => .BoolOp .And (fEs N p es t 0) t.p
  | .or es, t => .BoolOp .Or (fEs N p es t 0) t.p
  | .ife c a b, t => .IfExp (fE N p c (t.c 0)) (fE N p a (t.c 1)) (fE N p b (t.c 2)) t.p
  | .cmp o a b, t => .Compare (fE N p a (t.c 0)) [copOf o] [fE N p b (t.c 1)] t.p
  | .chn o o' a b c, t => .Compare (fE N p a (t.c 0)) [copOf o, copOf o'] [fE N p b (t.c 1), fE N p c (t.c 2)] t.p
  | .isN a, t => .Compare (fE N p a (t.c 0)) [.Is] [.Constant .none (t.c 1).k (t.c 1).p] t.p
  | .notN a, t => .Compare (fE N p a (t.c 0)) [.IsNot] [.Constant .none (t.c 1).k (t.c 1).p] t.p
  | .idx a i, t => .Subscript (fE N p a (t.c 0)) (fE N p i (t.c 1)) t.p
  | .sl a lo hi, t => .Subscript (fE N p a (t.c 0)) (.Slice (fO N p lo (t.c 1)) (fO N p hi (t.c 2)) none (t.c 3).p) t.p
  | .rev a, t => .Subscript (fE N p a (t.c 0)) (.Slice none none (some (.UnaryOp .USub (.Constant (.int 1) (t.c 1).k (t.c 1).p) (t.c 2).p)) (t.c 3).p) t.p
  | .call f es, t => .Call (.Name (p.G.getD f "__debug__") (t.c 0).p) (fEs N p es t 1) [] t.p
  | .bi b es, t => .Call (.Name (biN b) (t.c 0).p) (fEs N p es t 1) [] t.p
  | .isi a T, t => .Call (.Name "isinstance" (t.c 0).p) [fE N p a (t.c 1), .Name (tyN T) (t.c 2).p] [] t.p
  | .isx i c, t => .Call (.Name "isinstance" (t.c 0).p) [.Name (nmN N i) (t.c 1).p, .Name (p.XN.getD c "__debug__") (t.c 2).p] [] t.p
  | .meth m o es, t => .Call (.Attribute (fE N p o (t.c 0)) (mtN m) (t.c 1).p) (fEs N p es t 2) [] t.p
  | .pop i, t => .Call (.Attribute (.Name (nmN N i) (t.c 0).p) "pop" (t.c 1).p) [] [] t.p
  | .app i e, t => .Call (.Attribute (.Name (nmN N i) (t.c 0).p) "append" (t.c 1).p) [fE N p e (t.c 2)] [] t.p
  | .rvs i, t => .Call (.Attribute (.Name (nmN N i) (t.c 0).p) "reverse" (t.c 1).p) [] [] t.p
  | .lc elt tg it cond _, t => .ListComp (fE N p elt (t.c 0)) [⟨fT N tg (t.c 1), fI N p it (t.c 2), fC N p cond (t.c 3), 0⟩] t.sc t.p
  | .lc2 elt tg it tg2 it2 cond _ _, t => .ListComp (fE N p elt (t.c 0)) [⟨fT N tg (t.c 1), fI N p it (t.c 2), [], 0⟩, ⟨fT N tg2 (t.c 3), fI N p it2 (t.c 4), fC N p cond (t.c 5), 0⟩] t.sc t.p
  | .sc .., t => .Constant .none 0 t.p
  | .ofR b (.seq a), t => .Call (.Name (biN b) (t.c 0).p) [.Call (.Name "set" (t.c 1).p) [fE N p a (t.c 2)] [] (t.c 3).p] [] t.p
  | .ofR .., t => .Constant .none 0 t.p
def fEs (N : List Str) (p : Pg) : List E → Pt → Nat → List Expr
  | [], _, _ => []
  | e :: es, t, i => fE N p e (t.c i) :: fEs N p es t (i + 1)
def fO (N : List Str) (p : Pg) : Option E → Pt → Option Expr
  | none, _ => none
  | some e, t => some (fE N p e t)
def fC (N : List Str) (p : Pg) : Option E → Pt → List Expr
  | none, _ => []
  | some e, t => [fE N p e t]
def fI (N : List Str) (p : Pg) : It → Pt → Expr
  | .seq e, t => fE N p e t
  | .rng es, t => .Call (.Name "range" (t.c 0).p) (fEs N p es t 1) [] t.p
  | .zip a b, t => .Call (.Name "zip" (t.c 0).p) [fE N p a (t.c 1), fE N p b (t.c 2)] [] t.p
  | .enum a, t => .Call (.Name "enumerate" (t.c 0).p) [fE N p a (t.c 1)] [] t.p
end

/-! ## what is asked of names and places -/
def visB (sc : Scope) (x : Str) : Bool := match sc.names.lookup x with
  | some .local => true
  | some .cell => true
  | some .free => true
  | _ => false
def glB (sc : Scope) (x : Str) : Bool := match sc.names.lookup x with
  | some .globalImplicit => true
  | _ => false
def nmB (x : Str) : Bool := !(x == ("__debug__" : Str)) && !(x == ("__classdict__" : Str)) && !(x == ("__name__" : Str))
def wfV (N : List Str) (sc : Scope) (i : Nat) : Bool := decide (i < N.length) && visB sc (nmN N i) && nmB (nmN N i)
def wfS (N : List Str) (sc : Scope) (fn : Str → Bool) (i : Nat) : Bool := decide (i < N.length) && (match sc.names.lookup (nmN N i) with
  | some .local => true
  | some .cell => fn (nmN N i)
  | _ => false)
def wfG (N : List Str) (sc : Scope) (fn : Str → Bool) (g : Tg) : Bool := match g with
  | .nm i => wfS N sc fn i
  | .tup ns => ns.all (wfS N sc fn)
def lineB (a c : Pos) : Bool := a.endLine == c.line
def tgIn (own : List Nat) : Tg → Bool
  | .nm i => own.contains i
  | .tup ns => ns.all own.contains
/-- what a zip yields is unpacked at once -/
def zipG : It → Tg → Bool
  | .zip _ _, .tup _ => true
  | .zip _ _, _ => false
  | _, _ => true
/-! may stand as a test -/
mutual
def tstE : E → Bool
  | .ife .. => false
  | .and es => tstEs es
  | .or es => tstEs es
  | .not a => tstE a
  | _ => true
def tstEs : List E → Bool
  | [] => true
  | e :: es => tstE e && tstEs es
end
def biB : BI → Bool
  | .set => false | .str => false | .bool => false
  | _ => true
def isG : BI → Bool
  | .gcd => true
  | _ => false
def bgB (p : Pg) (b : BI) : Bool := !isG b || p.gcd
def mtB : MT → Bool
  | .count => true | .index => true
  | _ => false
def ownL (N : List Str) (own : List Nat) : List (Str × Nat) := own.map fun i => (nmN N i, i)
def cellF (sc : Scope) : Str → Bool := fun x => match sc.names.lookup x with
  | some .cell => true
  | _ => false
mutual
def wfE (N : List Str) (p : Pg) : Scope → (Str → Bool) → E → Pt → Bool
  | sc, _, .var i, _ => wfV N sc i
  | _, _, .int _, _ => true
  | _, _, .bl _, _ => true
  | _, _, .non, _ => true
  | _, _, .str _, _ => true
  | sc, _, .glob c, _ => glB sc (p.C.getD c "__debug__") && nmB (p.C.getD c "__debug__") && decide (c < p.C.length)
  | sc, fn, .tup es, t => wfEs N p sc fn es t 0
  | sc, fn, .lst es, t => wfEs N p sc fn es t 0
  | sc, fn, .bin _ a b, t => wfE N p sc fn a (t.c 0) && wfE N p sc fn b (t.c 1)
  | sc, fn, .neg a, t => wfE N p sc fn a (t.c 0)
  | sc, fn, .not a, t => wfE N p sc fn a (t.c 0)
  | sc, fn, .and es, t => wfEs N p sc fn es t 0 && !es.isEmpty
  | sc, fn, .or es, t => wfEs N p sc fn es t 0 && !es.isEmpty
  | sc, fn, .ife c a b, t => wfE N p sc fn c (t.c 0) && tstE c && wfE N p sc fn a (t.c 1) && wfE N p sc fn b (t.c 2)
  | sc, fn, .cmp _ a b, t => wfE N p sc fn a (t.c 0) && wfE N p sc fn b (t.c 1)
  | sc, fn, .chn _ _ a b c, t => wfE N p sc fn a (t.c 0) && wfE N p sc fn b (t.c 1) && wfE N p sc fn c (t.c 2)
  | sc, fn, .isN a, t => wfE N p sc fn a (t.c 0)
  | sc, fn, .notN a, t => wfE N p sc fn a (t.c 0)
  | sc, fn, .idx a i, t => wfE N p sc fn a (t.c 0) && wfE N p sc fn i (t.c 1)
  | sc, fn, .sl a lo hi, t => wfE N p sc fn a (t.c 0) && wfO N p sc fn lo (t.c 1) && wfO N p sc fn hi (t.c 2)
  | sc, fn, .rev a, t => wfE N p sc fn a (t.c 0)
  | sc, fn, .call f es, t => glB sc (p.G.getD f "__debug__") && nmB (p.G.getD f "__debug__") && decide (f < p.G.length) && !es.isEmpty && wfEs N p sc fn es t 1
  | sc, fn, .bi b es, t => glB sc (biN b) && !es.isEmpty && wfEs N p sc fn es t 1 && biB b && bgB p b
  | sc, fn, .isi a T, t => glB sc "isinstance" && glB sc (tyN T) && wfE N p sc fn a (t.c 1)
  | _, _, .isx _ _, _ => false
  | sc, fn, .meth m o es, t => mtB m && lineB (t.c 1).p t.p && decide (es.length < 30) && !es.isEmpty && wfE N p sc fn o (t.c 0) && wfEs N p sc fn es t 2
  | sc, _, .pop i, t => lineB (t.c 1).p t.p && wfV N sc i
  | sc, fn, .app i e, t => lineB (t.c 1).p t.p && wfV N sc i && wfE N p sc fn e (t.c 2)
  | sc, _, .rvs i, t => lineB (t.c 1).p t.p && wfV N sc i
  | sc, fn, .lc elt tg it cond own, t => blkC N sc t.sc (ownL N own) && (wfI N p sc fn it (t.c 2) && zipG it tg) && wfG N (relS t.sc sc) (cellF t.sc) tg && (match tg with
      | .nm i => own.contains i
      | .tup ns => ns.all own.contains) && wfC N p (relS t.sc sc) (cellF t.sc) cond (t.c 3) && wfE N p (relS t.sc sc) (cellF t.sc) elt (t.c 0)
  | sc, fn, .lc2 elt tg it tg2 it2 cond own own2, t => blkC N sc t.sc (ownL N own) && (wfI N p sc fn it (t.c 2) && zipG it tg) && wfG N (relS t.sc sc) (cellF t.sc) tg && tgIn own tg && (wfI N p (relS t.sc sc) (cellF t.sc) it2 (t.c 4) && zipG it2 tg2) && wfG N (relS t.sc sc) (cellF t.sc) tg2 && tgIn own2 tg2 && own2.all own.contains &&
      wfC N p (relS t.sc sc) (cellF t.sc) cond (t.c 5) && wfE N p (relS t.sc sc) (cellF t.sc) elt (t.c 0)
  | _, _, .sc .., _ => false
  | sc, fn, .ofR .sorted (.seq a), t => glB sc "sorted" && glB sc "set" && wfE N p sc fn a (t.c 2)
  | _, _, .ofR .., _ => false
def wfEs (N : List Str) (p : Pg) : Scope → (Str → Bool) → List E → Pt → Nat → Bool
  | _, _, [], _, _ => true
  | sc, fn, e :: es, t, i => wfE N p sc fn e (t.c i) && wfEs N p sc fn es t (i + 1)
def wfO (N : List Str) (p : Pg) : Scope → (Str → Bool) → Option E → Pt → Bool
  | _, _, none, _ => true
  | sc, fn, some e, t => wfE N p sc fn e t
def wfC (N : List Str) (p : Pg) : Scope → (Str → Bool) → Option E → Pt → Bool
  | _, _, none, _ => true
  | sc, fn, some e, t => wfE N p sc fn e t && tstE e
def wfI (N : List Str) (p : Pg) : Scope → (Str → Bool) → It → Pt → Bool
  | sc, fn, .seq e, t => wfE N p sc fn e t
  | sc, fn, .rng es, t => glB sc "range" && decide (0 < es.length) && decide (es.length ≤ 2) && wfEs N p sc fn es t 1
  | sc, fn, .zip a b, t => glB sc "zip" && wfE N p sc fn a (t.c 1) && wfE N p sc fn b (t.c 2)
  | _, _, .enum _, _ => false
end

/-! ## forms -/
section
variable {N : List Str} {p : Pg}
theorem star_cons (e : E) (t : Pt) (es : List Expr) (env : PySem.Env) : starEach (fE N p e t :: es) env = (false, eval (fE N p e t) env) :: starEach es env := by
  cases e with
  | ofR b it => cases it <;> rfl
  | _ => rfl
theorem star_es : ∀ (es : List E) (t : Pt) (i : Nat) (env : PySem.Env), starEach (fEs N p es t i) env = (fEs N p es t i).map fun e => (false, eval e env)
  | [], _, _, _ => by simp [fEs, starEach]
  | e :: es, t, i, env => by
    simp only [fEs]
    rw [star_cons, star_es es t (i + 1) env, List.map_cons]
theorem star_any (es : List E) (t : Pt) (i : Nat) (env : PySem.Env) (pos : Pos) : (backTo pos (starEach (fEs N p es t i) env)).any (·.1) = false := by
  rw [star_es]
  simp [backTo]
theorem fEs_length : ∀ (es : List E) (t : Pt) (i : Nat), (fEs N p es t i).length = es.length
  | [], _, _ => rfl
  | _ :: es, t, i => by simp [fEs, fEs_length es t (i + 1)]
theorem nobeh (o : CmpOp) (e : E) (t : Pt) : behindInMarks o (fE N p e t) = false := by
  cases e with
  | ofR b it => cases it <;> rfl
  | _ => rfl
theorem plainIx (e : E) (t : Pt) : PlainIx (fE N p e t) := fun _ _ => by
  cases e with
  | ofR b it => cases it <;> rfl
  | _ => rfl
theorem fold_it (it : It) (t : Pt) (env : PySem.Env) (x : Value) : foldedSetIterable (fI N p it t) env x = pure x := by
  cases it with
  | seq e => cases e with
    | ofR b it => cases it <;> rfl
    | _ => rfl
  | _ => rfl
end
end Lw
set_option linter.all false
set_option Elab.async false
set_option maxRecDepth 100000
set_option maxHeartbeats 1000000
namespace Lw
open PySem PySem.Spec L2

/-! ## what a call is promised -/
/-- the address where argument i is lent, if it is -/
def lentA : List V → List Arg → Nat → Option Addr
  | .ref a :: _, .loan _ :: _, 0 => some a
  | _ :: vs, _ :: as, i + 1 => lentA vs as i
  | _, _, _ => none
theorem lentA_succ (x : V) (xs : List V) (g : Arg) (as : List Arg) (i : Nat) : lentA (x :: xs) (g :: as) (i + 1) = lentA xs as i := by cases x <;> cases g <;> rfl
def ArgOk (K : PySem.W.Frag) (O : OS) (H : Hp) (v : V) (a : Arg) : Prop := match a with
  | .sh d => Rp K O H v d
  | .loan xs => ∃ b ws, v = .ref b ∧ O b ∧ H b = some (.lst ws) ∧ RpL K O H ws xs
/-- what stands at the lent addresses behind a call -/
def OutsOk (K : PySem.W.Frag) (O : OS) (H' : Hp) : List V → List Arg → List (Option (List D)) → Prop
  | v :: vs, a :: as, o :: os => (match a with
      | .sh _ => True
      | .loan _ => ∃ b ws xs, v = .ref b ∧ o = some xs ∧ H' b = some (.lst ws) ∧ RpL K O H' ws xs) ∧ OutsOk K O H' vs as os
  | [], [], [] => True
  | _, _, _ => False
def Unlent (H H' : Hp) (vs : List V) (as : List Arg) : Prop := ∀ a o, H a = some o → (∀ i, lentA vs as i ≠ some a) → H' a = some o
def SpF (K : PySem.W.Frag) (cA : Nat → Value) (n : Nat) (cl : Cl) (f : Nat) : Sp := fun vs H Q E => vs.length = n ∧ ∃ O as, Trk O H ∧ Paired (ArgOk K O H) vs as ∧ (∀ i j a, lentA vs as i = some a → lentA vs as j = some a → i = j) ∧
  match cl f as with
  | .ok v os => ∀ x H', Unlent H H' vs as → (match v with
      | .sh d => OutsOk K O H' vs as os ∧ Rp K O H' x d
      | .fr xs => ∃ a ws, x = .ref a ∧ H a = none ∧ H' a = some (.lst ws) ∧ OutsOk K (fun b => O b ∨ b = a) H' vs as os ∧ RpL K (fun b => O b ∨ b = a) H' ws xs
      | .bor _ => False) → Q x H'
  | .exc c os => ∀ H', Unlent H H' vs as → OutsOk K O H' vs as os → E (cA c) none H'
  | .bad => False

/-! ## what is known of the text around -/
/-- an exception's class -/
structure ExnOk (K : PySem.W.Frag) (mg : Str → Option Value) (x : Str) (C : Addr) : Prop where
  m : mg x = some (.ref C)
  kp : PySem.W.keepIn K (.ref C) = true
  ex : ∃ B newId initId bmB, ExcBaseFacts B newId initId bmB ∧ PySem.W.excIn K C bmB newId = true
  sb : PySem.W.subIn K (.ref C) (.type "BaseException") = some true
  ty : PySem.W.typeIn K (.ref C) = some (.type "type")
  ec : ExcC K C
structure GOk (P : Program) (w : World) (K : PySem.W.Frag) (mg : Str → Option Value) (base : Heap) (p : Pg) (cl : Cl) (lv : Nat) (cA : Nat → Value) : Prop where
  fns : ∀ f, f < p.G.length → ∃ (fa : Addr) (fd : FuncData) (ps : List Str), mg (p.G.getD f "__debug__") = some (.ref fa) ∧ PySem.W.keepIn K (.ref fa) = true ∧ Binds K fd ps [] ∧ FnOk P w K mg base (L2.CX P w) lv fa fd ps (SpF K cA ps.length cl f) ∧ ∀ as, cl f as ≠ .bad → as.length = ps.length
  bis : ∀ b : BI, isG b = false → mg (biN b) = none
  gcd : p.gcd = true → mg "gcd" = some (.builtin "math.gcd")
  tys : ∀ b : TY, mg (tyN b) = none
  isi : mg "isinstance" = none
  rng : mg "range" = none
  zip : mg "zip" = none
  exn : ∀ c, c < p.XN.length → (c < p.xu ∧ ∃ C, cA c = .ref C ∧ ExnOk K mg (p.XN.getD c "__debug__") C) ∨ (p.xu ≤ c ∧ mg (p.XN.getD c "__debug__") = none ∧ ∃ T, bootBuiltins (p.XN.getD c "__debug__") = some (.type T) ∧ cA c = .type T)
  xle : p.xu ≤ p.XN.length
  xsub : ∀ c' c, c' < p.xu → c < p.XN.length → PySem.W.kitOne K (cA c') (cA c) = some (p.sub c' c) ∧ (c < p.xu → PySem.W.exmOne K (cA c') (cA c) = some (p.sub c' c))
  cst : ∀ c d, c < p.C.length → p.cv[c]? = some d → ∃ u v, mg (p.C.getD c "__debug__") = some u ∧ RelV v u ∧ ∀ O H, Rp K O H v d
def wX (cA : Nat → Value) (W : WN) : WX := fun cls d σ H => ∃ c, cls = cA c ∧ d = none ∧ W c σ H
structure XOk (p : Pg) (cl : Cl) (lv : Nat) (cA : Nat → Value) (N : List Str) (sc : Scope) (fn : Str → Bool) (X : Cx) (W : WN) : Prop where
  g : GOk X.prog X.w X.K X.mg X.base p cl lv cA
  names : X.N = N
  nd : N.Nodup
  sc : X.env.scope = sc
  calm : X.calm = true
  fn : ∀ x, fn x = true → X.fn x = true
  room : Room lv X.A
  tk : Takes X (wX cA W)

section
variable {p : Pg} {cl : Cl} {lv : Nat} {cA : Nat → Value} {N : List Str} {sc : Scope} {fn : Str → Bool} {X : Cx} {W : WN}
theorem XOk.units (h : XOk p cl lv cA N sc fn X W) : X.A.units + 65 < cLine := by
  have := h.room.un
  omega
theorem vis_of {x : Str} (h : visB sc x = true) : Vis sc x := by
  unfold visB at h
  split at h <;> first | exact .inl (by assumption) | exact .inr (.inl (by assumption)) | exact .inr (.inr (by assumption)) | cases h
theorem nmN_get {i : Nat} (h : i < N.length) : N[i]? = some (nmN N i) := by
  unfold nmN
  rw [List.getD_eq_getElem?_getD, List.getElem?_eq_getElem h]
  rfl
theorem nm_of {x : Str} (h : nmB x = true) : (x == ("__debug__" : Str)) = false ∧ (x == ("__classdict__" : Str)) = false ∧ x ≠ "__name__" := by
  unfold nmB at h
  simp only [Bool.and_eq_true, Bool.not_eq_true', beq_eq_false_iff_ne] at h
  exact ⟨beq_eq_false_iff_ne.mpr h.1.1, beq_eq_false_iff_ne.mpr h.1.2, h.2⟩
theorem pe_v (h : XOk p cl lv cA N sc fn X W) {i : Nat} {pos : Pos} (w : wfV N sc i = true) : PE X (.Name (nmN N i) pos) (tVar i) := by
  unfold wfV at w
  simp only [Bool.and_eq_true, decide_eq_true_eq] at w
  obtain ⟨d1, d2, _⟩ := nm_of w.2
  exact pe_var (by rw [h.names]; exact nmN_get w.1.1) (by rw [h.sc]; exact vis_of w.1.2) d1 d2
theorem gl_of (h : XOk p cl lv cA N sc fn X W) {x : Str} (w : glB sc x = true) : Gl X x := by
  show X.env.kindOf x = _
  unfold glB at w
  show X.env.scope.names.lookup x = _
  rw [h.sc]
  split at w
  · assumption
  · cases w
/-- a slot that is read -/
theorem var_rd {K : PySem.W.Frag} {B : Base} {O : OS} {σ : SS} {H : Hp} {env : Env} (F : FrameOk K B O σ H env) {i : Nat} {v : Val} (e : (match env.at i with
    | .sh d => R.ok (.sh d) env
    | .own _ _ => R.ok (.bor i) env
    | .no => R.bad) = R.ok v env) : ∃ x, σ[i]? = some (some x) ∧ ValOk K B O σ H env v x := by
  have hs := F.slot i
  cases q : env.at i with
  | no => rw [q] at e; cases e
  | sh d =>
    rw [q] at e hs
    cases e
    obtain ⟨x, h1, h2⟩ := hs
    exact ⟨x, h1, h2, trivial⟩
  | own l xs =>
    rw [q] at e hs
    cases e
    obtain ⟨a, vs, h1, _⟩ := hs
    exact ⟨_, h1, h1, trivial⟩

/-! ## operations as expressions -/
theorem tm_op2 {f : Env → R Val} {g : Env → R Val} {o : D → D → Option Val} {K : PySem.W.Frag} {r : R2} (hr : ∀ x y H Q, (∃ O a b w, Trk O H ∧ Rt K O H x a ∧ Rt K O H y b ∧ o a b = some w ∧ ∀ z H', NewV K O H H' w z → Q z H') → r x y H Q)
    {σ : SS} {H : Hp} {Q : VK} (h : TmE K W (fun env => op2 (f env) g o) σ H Q) : tOp r (TmE K W f) (TmE K W g) σ H Q := by
  obtain ⟨B, O, env, F, hp⟩ := h
  refine ⟨B, O, env, F, Post.mono (Post.bind (ok1 := okV K B σ) hp) ?_⟩
  rintro x H1 ⟨v, e1, O1, _, s1, F1, k1, hp2⟩
  refine ⟨B, O1, e1, F1, Post.mono (Post.bind (ok1 := okV K B σ) hp2) ?_⟩
  rintro y H2 ⟨u, e2, O2, _, s2, F2, k2, hp3⟩
  obtain ⟨w, hw, q⟩ := Post.of F2 hp3
  have k1' : ValS K O2 σ H2 v x := k1.1.step F1 s2
  cases ea : rdV v e2 with
  | none => rw [ea] at hw; cases hw
  | some a =>
    cases eb : rdV u e2 with
    | none => rw [ea, eb] at hw; cases hw
    | some b =>
      rw [ea, eb] at hw
      exact hr _ _ _ _ ⟨O2, a, b, w, F2.trk, rd_ok F2 k1' ea, rd_ok F2 k2.1 eb, hw, fun z H' n => post_new F2 q n⟩
theorem tm_op1 {f : Env → R Val} {o : D → Option Val} {K : PySem.W.Frag} {r : V → Hp → VK → Prop} (hr : ∀ x H Q, (∃ O a w, Trk O H ∧ Rt K O H x a ∧ o a = some w ∧ ∀ z H', NewV K O H H' w z → Q z H') → r x H Q)
    {σ : SS} {H : Hp} {Q : VK} (h : TmE K W (fun env => op1 (f env) o) σ H Q) : TmE K W f σ H fun x H1 => r x H1 Q := by
  obtain ⟨B, O, env, F, hp⟩ := h
  refine ⟨B, O, env, F, Post.mono (Post.bind (ok1 := okV K B σ) hp) ?_⟩
  rintro x H1 ⟨v, e1, O1, _, s1, F1, k1, hp2⟩
  obtain ⟨w, hw, q⟩ := Post.of F1 hp2
  cases ea : rdV v e1 with
  | none => rw [ea] at hw; cases hw
  | some a =>
    rw [ea] at hw
    exact hr _ _ _ ⟨O1, a, w, F1.trk, rd_ok F1 k1.1 ea, hw, fun z H' n => post_new F1 q n⟩
/-- behind a value: its truth -/
theorem tm_tru {f : Env → R Val} {K : PySem.W.Frag} {σ : SS} {H : Hp} {Q : Bool → Hp → Prop} (h : TmB K W (fun env => truR (f env)) σ H Q) :
    TmE K W f σ H fun x H1 => ∃ O a k, Rt K O H1 x a ∧ truD a = some k ∧ Q k H1 := by
  obtain ⟨B, O, env, F, hp⟩ := h
  refine ⟨B, O, env, F, Post.mono (Post.bind (ok1 := okV K B σ) hp) ?_⟩
  rintro x H1 ⟨v, e1, O1, _, s1, F1, k1, hp2⟩
  obtain ⟨w, hw, q⟩ := Post.of F1 hp2
  cases ea : rdV v e1 with
  | none => rw [ea] at hw; cases hw
  | some a =>
    rw [ea] at hw
    exact ⟨O1, a, w, rd_ok F1 k1.1 ea, hw, q w O1 H1 .refl F1 rfl⟩
theorem tru_v {K : PySem.W.Frag} {O : OS} {H : Hp} {x : V} {a : D} {k : Bool} (r : Rt K O H x a) (e : truD a = some k) : TruV K x H k := by
  cases a <;> simp only [truD] at e <;> first | cases e | skip
  · cases r with | sh r => cases r; rfl
  · have := r.bl; subst this; rfl
  · have := r.int; subst this; rfl
  · have := r.str; subst this
    split at e
    · cases e
      rename_i hl
      exact ⟨by rw [sizeLine_eq]; exact hl, rfl⟩
    · cases e
  · obtain ⟨b, vs, rfl, ta, ra⟩ := r.tup
    refine .inr (.inl ⟨vs, ta.sq, ?_⟩)
    cases ra <;> rfl
  · obtain ⟨b, vs, rfl, ta, ra⟩ := r.lst
    refine .inl ⟨vs, .of ta, ?_⟩
    cases ra <;> rfl
end
end Lw
set_option linter.all false
set_option Elab.async false
set_option maxRecDepth 100000
set_option maxHeartbeats 1000000
namespace Lw
open PySem PySem.Spec L2

/-! ## lending -/
def isOwn : Slot → Bool
  | .own _ _ => true
  | _ => false
/-- slot s is lent as argument i -/
def LentAt (vs : List Val) (env : Env) (i s : Nat) : Prop := vs[i]? = some (.bor s) ∧ isOwn (env.at s) = true
theorem lentTo_mem {vs : List Val} {env : Env} {s : Nat} : s ∈ lentTo vs env ↔ ∃ i, LentAt vs env i s := by
  induction vs with
  | nil => simp [lentTo, LentAt]
  | cons v vs ih =>
    have step : (∃ i, LentAt (v :: vs) env i s) ↔ (v = .bor s ∧ isOwn (env.at s) = true) ∨ ∃ i, LentAt vs env i s := by
      constructor
      · rintro ⟨i, h1, h2⟩
        cases i with
        | zero => exact .inl ⟨by simpa using h1, h2⟩
        | succ i => exact .inr ⟨i, by simpa using h1, h2⟩
      · rintro (⟨h1, h2⟩ | ⟨i, h1, h2⟩)
        · exact ⟨0, by simp [h1], h2⟩
        · exact ⟨i + 1, by simpa using h1, h2⟩
    rw [step, ← ih]
    cases v with
    | sh d => simp [lentTo]
    | fr xs => simp [lentTo]
    | bor j =>
      simp only [lentTo]
      cases q : env.at j with
      | own l xs =>
        simp only [List.mem_cons]
        constructor
        · rintro (rfl | h)
          · exact .inl ⟨rfl, by rw [q]; rfl⟩
          · exact .inr h
        · rintro (⟨h, _⟩ | h)
          · cases h; exact .inl rfl
          · exact .inr h
      | no =>
        constructor
        · exact .inr
        · rintro (⟨h, h2⟩ | h)
          · cases h; rw [q] at h2; cases h2
          · exact h
      | sh d =>
        constructor
        · exact .inr
        · rintro (⟨h, h2⟩ | h)
          · cases h; rw [q] at h2; cases h2
          · exact h
theorem noDup_cons {x : Nat} {xs : List Nat} (h : noDup (x :: xs) = true) : x ∉ xs ∧ noDup xs = true := by
  simp only [noDup, Bool.and_eq_true, Bool.not_eq_true', List.contains_eq_mem, decide_eq_false_iff_not] at h
  exact h
theorem lent_inj : ∀ {vs : List Val} {env : Env}, noDup (lentTo vs env) = true → ∀ {i j s : Nat}, LentAt vs env i s → LentAt vs env j s → i = j
  | [], _, _, i, _, _, h, _ => by simp [LentAt] at h
  | v :: vs, env, nd, i, j, s, h1, h2 => by
    have tl : noDup (lentTo vs env) = true := by
      cases v with
      | sh d => exact nd
      | fr xs => exact nd
      | bor k =>
        simp only [lentTo] at nd
        cases q : env.at k with
        | own l xs => rw [q] at nd; exact (noDup_cons nd).2
        | no => rw [q] at nd; exact nd
        | sh d => rw [q] at nd; exact nd
    have hd : ∀ k, LentAt vs env k s → v = .bor s → False := fun k hk e => by
      subst e
      simp only [lentTo] at nd
      cases q : env.at s with
      | own l xs => rw [q] at nd; exact (noDup_cons nd).1 (lentTo_mem.mpr ⟨k, hk⟩)
      | no => have := hk.2; rw [q] at this; cases this
      | sh d => have := hk.2; rw [q] at this; cases this
    cases i with
    | zero =>
      cases j with
      | zero => rfl
      | succ j => exact (hd j ⟨by simpa using h2.1, h2.2⟩ (by simpa using h1.1)).elim
    | succ i =>
      cases j with
      | zero => exact (hd i ⟨by simpa using h1.1, h1.2⟩ (by simpa using h2.1)).elim
      | succ j => rw [lent_inj tl (i := i) (j := j) ⟨by simpa using h1.1, h1.2⟩ ⟨by simpa using h2.1, h2.2⟩]
/-- what stands in a slot behind a call -/
theorem back_at : ∀ {vs : List Val} {os : List (Option (List D))} {env : Env} (s : Nat), noDup (lentTo vs env) = true →
    (∃ (i : Nat) (l : Bool) (xs ys : List D), vs[i]? = some (Val.bor s) ∧ env.at s = .own l xs ∧ os[i]? = some (some ys) ∧ (backV vs os env).at s = .own l ys) ∨
    ((∀ (i : Nat) (ys : List D), vs[i]? = some (Val.bor s) → isOwn (env.at s) = true → os[i]? ≠ some (some ys)) ∧ (backV vs os env).at s = env.at s)
  | [], os, env, s, _ => .inr ⟨fun i ys h => by simp at h, by cases os <;> rfl⟩
  | v :: vs, [], env, s, _ => .inr ⟨fun i ys _ _ h => by simp at h, by cases v <;> rfl⟩
  | v :: vs, o :: os, env, s, nd => by
    have tl : noDup (lentTo vs env) = true := by
      cases v with
      | sh d => exact nd
      | fr xs => exact nd
      | bor k =>
        simp only [lentTo] at nd
        cases q : env.at k with
        | own l xs => rw [q] at nd; exact (noDup_cons nd).2
        | no => rw [q] at nd; exact nd
        | sh d => rw [q] at nd; exact nd
    have shift : ∀ {env' : Env}, backV (v :: vs) (o :: os) env = backV vs os env' → env'.at s = env.at s → noDup (lentTo vs env') = true → ¬ (v = .bor s ∧ isOwn (env.at s) = true ∧ ∃ ys, o = some ys) →
        (∃ (i : Nat) (l : Bool) (xs ys : List D), (v :: vs)[i]? = some (Val.bor s) ∧ env.at s = .own l xs ∧ (o :: os)[i]? = some (some ys) ∧ (backV (v :: vs) (o :: os) env).at s = .own l ys) ∨
        ((∀ (i : Nat) (ys : List D), (v :: vs)[i]? = some (Val.bor s) → isOwn (env.at s) = true → (o :: os)[i]? ≠ some (some ys)) ∧ (backV (v :: vs) (o :: os) env).at s = env.at s) := fun {env'} e es nd' no => by
      rcases back_at (vs := vs) (os := os) (env := env') s nd' with ⟨i, l, xs, ys, h1, h2, h3, h4⟩ | ⟨h1, h2⟩
      · exact .inl ⟨i + 1, l, xs, ys, by simpa using h1, by rw [← es]; exact h2, by simpa using h3, by rw [e]; exact h4⟩
      · refine .inr ⟨fun i ys a b c => ?_, by rw [e, h2, es]⟩
        cases i with
        | zero => exact no ⟨by simpa using a, b, ys, by simpa using c⟩
        | succ i => exact h1 i ys (by simpa using a) (by rw [es]; exact b) (by simpa using c)
    cases v with
    | sh d => exact shift (env' := env) rfl rfl tl (fun z => by cases z.1)
    | fr d => exact shift (env' := env) rfl rfl tl (fun z => by cases z.1)
    | bor k =>
      cases q : env.at k with
      | no => exact shift (env' := env) (by simp only [backV, q]) rfl tl (fun z => by cases z.1; have := z.2.1; rw [q] at this; cases this)
      | sh d => exact shift (env' := env) (by simp only [backV, q]) rfl tl (fun z => by cases z.1; have := z.2.1; rw [q] at this; cases this)
      | own l xs =>
        cases o with
        | none => exact shift (env' := env) (by simp only [backV, q]) rfl tl (fun z => by obtain ⟨_, _, ys, z⟩ := z; cases z)
        | some ys =>
          simp only [lentTo, q] at nd
          obtain ⟨n1, n2⟩ := noDup_cons nd
          have klt : k < env.length := Env.lt_of (by rw [q]; intro z; cases z)
          have eb : backV (.bor k :: vs) (some ys :: os) env = backV vs os (env.set k (.own l ys)) := by simp only [backV, q]
          have own_same : ∀ j, isOwn (Env.at (env.set k (.own l ys)) j) = isOwn (env.at j) := fun j => by
            rw [Env.at_set]
            split
            · rename_i h; rw [← h.1, q]; rfl
            · rfl
          have el : ∀ ws : List Val, lentTo ws (env.set k (.own l ys)) = lentTo ws env := by
            intro ws
            induction ws with
            | nil => rfl
            | cons w ws ih =>
              cases w with
              | sh d => exact ih
              | fr d => exact ih
              | bor j =>
                have := own_same j
                simp only [lentTo]
                rw [ih]
                cases e1 : Env.at (env.set k (.own l ys)) j <;> cases e2 : env.at j <;> rw [e1, e2] at this <;> first | rfl | cases this
          by_cases hs : s = k
          · subst hs
            refine .inl ⟨0, l, xs, ys, rfl, q, rfl, ?_⟩
            rw [eb]
            rcases back_at (vs := vs) (os := os) (env := env.set s (.own l ys)) s (by rw [el]; exact n2) with ⟨i, l', xs', ys', h1, h2, h3, h4⟩ | ⟨h1, h2⟩
            · exact absurd (lentTo_mem.mpr ⟨i, h1, by rw [q]; rfl⟩) n1
            · rw [h2, Env.at_set, if_pos ⟨rfl, klt⟩]
          · refine shift (env' := env.set k (.own l ys)) eb ?_ (by rw [el]; exact n2) (fun z => hs (by cases z.1; rfl))
            rw [Env.at_set, if_neg (fun z => hs z.1.symm)]
theorem backV_length : ∀ {vs : List Val} {os : List (Option (List D))} {env : Env}, (backV vs os env).length = env.length
  | [], os, _ => by cases os <;> rfl
  | v :: vs, [], _ => by cases v <;> rfl
  | v :: vs, o :: os, env => by
    cases v with
    | sh d => exact backV_length (vs := vs)
    | fr d => exact backV_length (vs := vs)
    | bor k =>
      simp only [backV]
      split
      · rw [backV_length (vs := vs), List.length_set]
      · exact backV_length (vs := vs)

section
variable {K : PySem.W.Frag} {B : Base} {O O' : OS} {σ : SS} {H H' : Hp} {env : Env}
theorem argAll_ok (F : FrameOk K B O σ H env) : ∀ {vs : List Val} {xs : List V} {as : List Arg}, Paired (ValS K O σ H) vs xs → argAll vs env = some as → Paired (ArgOk K O H) xs as ∧
    ∀ i a, lentA xs as i = some a → ∃ s, LentAt vs env i s ∧ σ[s]? = some (some (.ref a))
  | [], _, _, .nil, e => by cases e; exact ⟨.nil, fun i a h => by simp [lentA] at h⟩
  | v :: vs, x :: xs, _, .cons h t, e => by
    simp only [argAll] at e
    cases e1 : argV v env with
    | none => rw [e1] at e; cases e
    | some g =>
      cases e2 : argAll vs env with
      | none => rw [e1, e2] at e; cases e
      | some as =>
        rw [e1, e2] at e; cases e
        obtain ⟨p, l⟩ := argAll_ok F t e2
        have hl : ∀ i a, lentA xs as i = some a → ∃ s, LentAt (v :: vs) env (i + 1) s ∧ σ[s]? = some (some (.ref a)) := fun i a hi => by
          obtain ⟨s, ⟨h1, h2⟩, h3⟩ := l i a hi
          exact ⟨s, ⟨by simpa using h1, h2⟩, h3⟩
        have fin : ArgOk K O H x g → (∀ a, lentA (x :: xs) (g :: as) 0 = some a → ∃ s, LentAt (v :: vs) env 0 s ∧ σ[s]? = some (some (.ref a))) → Paired (ArgOk K O H) (x :: xs) (g :: as) ∧
            ∀ i a, lentA (x :: xs) (g :: as) i = some a → ∃ s, LentAt (v :: vs) env i s ∧ σ[s]? = some (some (.ref a)) := fun a0 l0 => ⟨.cons a0 p, fun i a hi => by
          cases i with
          | zero => exact l0 a hi
          | succ i => exact hl i a (by rw [← lentA_succ x xs g as i]; exact hi)⟩
        have sh0 : ∀ d, g = .sh d → ∀ a, lentA (x :: xs) (g :: as) 0 = some a → ∃ s, LentAt (v :: vs) env 0 s ∧ σ[s]? = some (some (.ref a)) := fun d e a z => by
          subst e; cases x <;> cases z
        cases v with
        | sh d => cases e1; exact fin h (sh0 _ rfl)
        | fr d => cases e1; exact fin h (sh0 _ rfl)
        | bor k =>
          have hk := F.slot k
          have h' : σ[k]? = some (some x) := h
          simp only [argV] at e1
          cases q : env.at k with
          | no => rw [q] at e1; cases e1
          | sh d =>
            rw [q] at e1 hk
            cases e1
            obtain ⟨w, g1, g2⟩ := hk
            rw [g1] at h'; cases h'
            exact fin g2 (sh0 _ rfl)
          | own l ys =>
            rw [q] at e1 hk
            cases e1
            obtain ⟨a, ws, g1, g2, g3, g4, _⟩ := hk
            rw [g1] at h'; cases h'
            exact fin ⟨a, ws, rfl, g2, g3, g4⟩ fun b z => by cases z; exact ⟨k, ⟨rfl, by rw [q]; rfl⟩, g1⟩
theorem lentA_loan : ∀ {xs : List V} {as : List Arg} {vs : List Val} (i s : Nat) (a : Addr), Paired (ValS K O σ H) vs xs → argAll vs env = some as → LentAt vs env i s → σ[s]? = some (some (.ref a)) → lentA xs as i = some a
  | _, _, [], i, s, a, _, _, h, _ => by simp [LentAt] at h
  | x :: xs, _, v :: vs, i, s, a, .cons h t, e, l, hs => by
    simp only [argAll] at e
    cases e1 : argV v env with
    | none => rw [e1] at e; cases e
    | some g =>
      cases e2 : argAll vs env with
      | none => rw [e1, e2] at e; cases e
      | some as =>
        rw [e1, e2] at e; cases e
        cases i with
        | zero =>
          have hv : v = .bor s := by simpa using l.1
          subst hv
          have h' : σ[s]? = some (some x) := h
          rw [hs] at h'; cases h'
          have lo := l.2
          simp only [argV] at e1
          cases q : env.at s with
          | own m ys => rw [q] at e1; cases e1; rfl
          | no => rw [q] at lo; cases lo
          | sh d => rw [q] at lo; cases lo
        | succ i =>
          rw [lentA_succ]
          exact lentA_loan i s a t e2 ⟨by simpa using l.1, l.2⟩ hs
theorem outs_get : ∀ {xs : List V} {as : List Arg} {os : List (Option (List D))} (i : Nat) (a : Addr), OutsOk K O H' xs as os → lentA xs as i = some a → ∃ ws ys, os[i]? = some (some ys) ∧ H' a = some (.lst ws) ∧ RpL K O H' ws ys
  | [], [], [], i, a, _, h => by cases i <;> cases h
  | [], _ :: _, _, _, _, h, _ => h.elim
  | [], [], _ :: _, _, _, h, _ => h.elim
  | _ :: _, [], _, _, _, h, _ => h.elim
  | _ :: _, _ :: _, [], _, _, h, _ => h.elim
  | x :: xs, g :: as, o :: os, i, a, h, e => by
    obtain ⟨h1, h2⟩ := h
    cases i with
    | zero =>
      cases g with
      | sh d => cases x <;> cases e
      | loan ys =>
        obtain ⟨b, ws, zs, rfl, rfl, g1, g2⟩ := h1
        cases e
        exact ⟨ws, zs, rfl, g1, g2⟩
    | succ i =>
      have e' : lentA xs as i = some a := by rw [lentA_succ] at e; exact e
      obtain ⟨ws, ys, q⟩ := outs_get i a h2 e'
      exact ⟨ws, ys, by simpa using q⟩
/-- the frame behind a call -/
theorem call_frame (F : FrameOk K B O σ H env) {vs : List Val} {xs : List V} {as : List Arg} {os : List (Option (List D))} (pv : Paired (ValS K O σ H) vs xs) (ea : argAll vs env = some as) (nd : noDup (lentTo vs env) = true)
    (ul : Unlent H H' xs as) (hO : ∀ a, O a → O' a) (hN : ∀ a, O' a → O a ∨ H a = none) (hT : ∀ a, O' a → ¬ O a → H' a ≠ none) (out : OutsOk K O' H' xs as os) : FrameOk K B O' σ H' (backV vs os env) := by
  have la := (argAll_ok F pv ea).2
  -- what is lent is owned
  have lo : ∀ i a, lentA xs as i = some a → Mine σ env a := fun i a h => by
    obtain ⟨s, ⟨_, h2⟩, h3⟩ := la i a h
    cases q : env.at s with
    | own l ys => exact ⟨s, l, ys, q, h3⟩
    | no => rw [q] at h2; cases h2
    | sh d => rw [q] at h2; cases h2
  have k : Kept O H O' H' := ⟨fun a o n h => ul a o h fun i e => n (F.mine (lo i a e)), hN⟩
  have there : ∀ a, H a ≠ none → H' a ≠ none := fun a h => by
    cases e : H a with
    | none => exact absurd e h
    | some o =>
      by_cases hl : ∃ i, lentA xs as i = some a
      · obtain ⟨i, hi⟩ := hl
        obtain ⟨ws, ys, _, g, _⟩ := outs_get i a out hi
        rw [g]; exact fun z => nomatch z
      · rw [ul a o e fun i z => hl ⟨i, z⟩]; exact fun z => nomatch z
  have slot : ∀ s, SlotOk K B O' σ H' s ((backV vs os env).at s) := fun s => by
    have hs := F.slot s
    rcases back_at (vs := vs) (os := os) (env := env) s nd with ⟨i, l, ys, zs, h1, h2, h3, h4⟩ | ⟨h1, h2⟩
    · rw [h4]
      rw [h2] at hs
      obtain ⟨a, ws, g1, g2, g3, g4, g5⟩ := hs
      have e := lentA_loan i s a pv ea ⟨h1, by rw [h2]; rfl⟩ g1
      obtain ⟨ws', ys', q1, q2, q3⟩ := outs_get i a out e
      rw [h3] at q1
      cases q1
      exact ⟨a, ws', g1, hO a g2, q2, q3, g5⟩
    · rw [h2]
      cases q : env.at s with
      | no => trivial
      | sh d =>
        rw [q] at hs
        obtain ⟨v, g1, g2⟩ := hs
        exact ⟨v, g1, g2.kept k⟩
      | own l ys =>
        rw [q] at hs
        obtain ⟨a, ws, g1, g2, g3, g4, g5⟩ := hs
        refine ⟨a, ws, g1, hO a g2, ul a _ g3 fun i e => ?_, g4.kept k, g5⟩
        obtain ⟨s', ⟨c1, c2⟩, c3⟩ := la i a e
        have es : s' = s := by
          cases q' : env.at s' with
          | own l' ys' => exact F.inj s' s _ _ _ _ a q' q c3 g1
          | no => rw [q'] at c2; cases c2
          | sh d => rw [q'] at c2; cases c2
        subst es
        obtain ⟨ws', ys', q1, _⟩ := outs_get i a out e
        exact h1 i ys' c1 c2 q1
  refine ⟨by rw [backV_length]; exact F.len, slot, fun i j l m ys zs a h1 h2 h3 h4 => ?_, fun a h => hO a (F.bo a h), fun a o h n => ?_, F.bw, F.bl, fun a h => there a (F.bt a h), fun a h => ?_⟩
  · have back : ∀ s l ys, (backV vs os env).at s = .own l ys → ∃ l' ys', env.at s = .own l' ys' := fun s l ys e => by
      rcases back_at (vs := vs) (os := os) (env := env) s nd with ⟨_, l', xs', _, _, h2, _, _⟩ | ⟨_, h2⟩
      · exact ⟨l', xs', h2⟩
      · exact ⟨l, ys, by rw [← h2]; exact e⟩
    obtain ⟨l1, y1, e1⟩ := back i l ys h1
    obtain ⟨l2, y2, e2⟩ := back j m zs h2
    exact F.inj i j _ _ _ _ a e1 e2 h3 h4
  · refine ul a o (F.bh a o h n) fun i e => ?_
    obtain ⟨s, l, ys, c1, c2⟩ := lo i a e
    have hs := F.slot s
    rw [c1] at hs
    obtain ⟨b, ws, g1, g2, g3, g4, g5⟩ := hs
    have e0 : a = b := by
      have e0 := c2.symm.trans g1
      simpa using e0
    subst e0
    cases l with
    | true => exact n s g5
    | false =>
      have g5' : B.H a = none := g5
      rw [h] at g5'; cases g5'
  · by_cases q : O a
    · exact there a (F.ot a q)
    · exact hT a h q
theorem call_step (F : FrameOk K B O σ H env) {vs : List Val} {xs : List V} {as : List Arg} {os : List (Option (List D))} (pv : Paired (ValS K O σ H) vs xs) (ea : argAll vs env = some as) (nd : noDup (lentTo vs env) = true)
    (ul : Unlent H H' xs as) : Step σ env (backV vs os env) O H O H' := by
  have la := (argAll_ok F pv ea).2
  refine ⟨fun a o h n => ul a o h fun i e => n ?_, fun _ h => h, fun _ h _ => h, fun a m => ?_⟩
  · obtain ⟨s, ⟨_, h2⟩, h3⟩ := la i a e
    cases q : env.at s with
    | own l ys => exact ⟨s, l, ys, q, h3⟩
    | no => rw [q] at h2; cases h2
    | sh d => rw [q] at h2; cases h2
  · obtain ⟨s, l, ys, c1, c2⟩ := m
    rcases back_at (vs := vs) (os := os) (env := env) s nd with ⟨_, l', xs', _, _, h2, _, _⟩ | ⟨_, h2⟩
    · exact ⟨s, l', xs', h2, c2⟩
    · exact ⟨s, l, ys, by rw [← h2]; exact c1, c2⟩
/-- one owned address more is no harm to what is read -/
theorem outs_anti (hO : ∀ a, O a → O' a) : ∀ {xs : List V} {as : List Arg} {os : List (Option (List D))}, OutsOk K O' H' xs as os → OutsOk K O H' xs as os
  | [], [], [], _ => trivial
  | [], _ :: _, _, h => h.elim
  | [], [], _ :: _, h => h.elim
  | _ :: _, [], _, h => h.elim
  | _ :: _, _ :: _, [], h => h.elim
  | x :: xs, g :: as, o :: os, ⟨h1, h2⟩ => by
    refine ⟨?_, outs_anti hO h2⟩
    cases g with
    | sh d => trivial
    | loan ys =>
      obtain ⟨b, ws, zs, g1, g2, g3, g4⟩ := h1
      exact ⟨b, ws, zs, g1, g2, g3, g4.kept ⟨fun _ _ _ h => h, fun a h => .inl (hO a h)⟩⟩
/-- a call's reading -/
theorem tm_call {W : WN} {cA : Nat → Value} {cl : Cl} {f n : Nat} (har : ∀ as, cl f as ≠ .bad → as.length = n) {g : Env → R (List Val)} {Q : VK} (h : TmE K W (fun env => callR cl f (g env)) σ H Q) :
    TmL K W g σ H fun vs H1 => SpF K cA n cl f vs H1 Q (WE (wX cA W) σ) := by
  obtain ⟨B, O, env, F, hp⟩ := h
  refine ⟨B, O, env, F, Post.mono (Post.bind (ok1 := okL K σ) hp) ?_⟩
  rintro xs H1 ⟨vs, e1, O1, _, s1, F1, pv, hp2⟩
  dsimp only at hp2
  cases ea : argAll vs e1 with
  | none => rw [ea] at hp2; exact hp2.elim
  | some as =>
    rw [ea] at hp2
    dsimp only at hp2
    split at hp2
    · rename_i nd
      obtain ⟨pa, la⟩ := argAll_ok F1 pv ea
      have len : xs.length = as.length := Paired.length pa
      have nb : cl f as ≠ .bad := fun z => by rw [z] at hp2; exact hp2.elim
      refine ⟨by rw [len]; exact har as nb, O1, as, F1.trk, pa, fun i j a h1 h2 => ?_, ?_⟩
      · obtain ⟨s, l1, c1⟩ := la i a h1
        obtain ⟨s', l2, c2⟩ := la j a h2
        have es : s = s' := by
          cases q : e1.at s with
          | own l ys =>
            cases q' : e1.at s' with
            | own l' ys' => exact F1.inj s s' _ _ _ _ a q q' c1 c2
            | no => have := l2.2; rw [q'] at this; cases this
            | sh d => have := l2.2; rw [q'] at this; cases this
          | no => have := l1.2; rw [q] at this; cases this
          | sh d => have := l1.2; rw [q] at this; cases this
        subst es
        exact lent_inj nd l1 l2
      · cases q : cl f as with
        | bad => exact nb q
        | exc c os =>
          rw [q] at hp2
          intro H' ul out
          have st := call_step (os := os) F1 pv ea nd ul
          exact ⟨c, rfl, rfl, hp2 O1 H' st (call_frame F1 pv ea nd ul (fun _ h => h) (fun _ h => .inl h) (fun _ h n => absurd h n) out)⟩
        | ok v os =>
          rw [q] at hp2
          intro x H' ul res
          have st := call_step (os := os) F1 pv ea nd ul
          cases v with
          | bor i => exact res.elim
          | sh d =>
            obtain ⟨out, r⟩ := res
            exact hp2 x O1 H' st (call_frame F1 pv ea nd ul (fun _ h => h) (fun _ h => .inl h) (fun _ h n => absurd h n) out) ⟨r, trivial⟩
          | fr ys =>
            obtain ⟨a, ws, rfl, na, ha, out, r⟩ := res
            have nO : ¬ O1 a := fun z => F1.ot a z na
            have F' := call_frame F1 pv ea nd ul (fun _ h => h) (fun _ h => .inl h) (fun _ h n => absurd h n) (outs_anti (fun _ h => Or.inl h) out)
            have F2 := call_frame (O' := fun b => O1 b ∨ b = a) F1 pv ea nd ul (fun _ h => .inl h) (fun b h => h.elim .inl fun z => .inr (by rw [z]; exact na)) (fun b h n => by
              rcases h with h | rfl
              · exact absurd h n
              · rw [ha]; exact fun z => nomatch z) out
            refine hp2 _ O1 H' st F' ⟨.lst nO ha (r.kept ⟨fun _ _ _ h => h, fun b h => .inl (.inl h)⟩), a, ws, rfl, ha, r, F1.isNew na, F2, nO⟩
    · exact hp2.elim
end
end Lw
set_option linter.all false
set_option Elab.async false
set_option maxRecDepth 100000
set_option maxHeartbeats 1000000
namespace Lw
open PySem PySem.Spec L2
section
variable {p : Pg} {cl : Cl} {lv : Nat} {cA : Nat → Value} {N : List Str} {sc : Scope} {fn : Str → Bool} {X : Cx} {W : WN}
theorem Post.at {γ δ : Type} {K : PySem.W.Frag} {W : WN} {B : Base} {O : OS} {σ : SS} {H : Hp} {env e2 : Env} {o : Option γ} {ok : OS → Hp → Env → γ → δ → Prop} {Q : δ → Hp → Prop} (h : Post K W B O σ H env (R.of o e2) ok Q) :
    ∃ w, o = some w ∧ ∀ x O' H', Step σ env e2 O H O' H' → FrameOk K B O' σ H' e2 → ok O' H' e2 w x → Q x H' := by
  cases o with
  | none => exact h.elim
  | some w => exact ⟨w, rfl, h⟩
/-- a constant -/
theorem tm_c {d : D} {v : V} {K : PySem.W.Frag} (hr : ∀ O H, Rp K O H v d) : ∀ σ H Q, TmE K W (fun env => .ok (.sh d) env) σ H Q → tC v σ H Q := by
  rintro σ H Q ⟨B, O, env, F, hp⟩
  exact hp v O H .refl F ⟨hr O H, trivial⟩
theorem snd_var (h : XOk p cl lv cA N sc fn X W) {i : Nat} {t : Pt} (w : wfE N p sc fn (.var i) t = true) : PE X (fE N p (.var i) t) (TmE X.K W (evE p cl (.var i))) := by
  refine PE_imp (pe_v h w) ?_
  rintro σ H Q ⟨B, O, env, F, hp⟩
  cases q : (evE p cl (.var i) env) with
  | bad => rw [q] at hp; exact hp.elim
  | exc c e => simp only [evE] at q; split at q <;> cases q
  | ok v e =>
    have e1 : e = env := by simp only [evE] at q; split at q <;> cases q <;> rfl
    subst e1
    rw [q] at hp
    obtain ⟨x, h1, h2⟩ := var_rd F (i := i) (v := v) (by simp only [evE] at q; exact q)
    exact ⟨x, h1, hp x O H .refl F h2⟩
/-- a tuple, written -/
def tTupF (K : PySem.W.Frag) (t : TA) : TE := fun σ H Q => t σ H fun xs H1 => ∃ O ds, Trk O H1 ∧ RpL K O H1 xs ds ∧ ds.length ≤ sizeLine ∧ ∀ z H', NewV K O H1 H' (.sh (.tup ds)) z → Q z H'
theorem pe_tupF {es : List Expr} {t : TA} {x1 : Nat} {pos : Pos} (h : PA X es t) : PE X (.Tuple es x1 pos) (tTupF X.K t) := by
  refine ⟨fun pins s σ H Q I hq => ?_⟩
  refine wpAny_Tuple_spliced (thn (h.run pos pins s σ H _ I hq) fun us s1 ⟨xs, H1, I1, r, O, ds, t, rd, z, q⟩ => ⟨by rw [← r.length, rd.length]; exact z, ?_⟩)
  exact ep_tup I1 t r (by rw [rd.length]; exact z) rd q s1.toks
theorem tm_keep {K : PySem.W.Frag} {g : Env → R (List Val)} {f : List D → Option Val} {σ : SS} {H : Hp} {Q : VK} (h : TmE K W (fun env => keepAll (g env) f) σ H Q) :
    TmL K W g σ H fun xs H1 => ∃ O ds w, Trk O H1 ∧ RpL K O H1 xs ds ∧ f ds = some w ∧ ∀ z H', NewV K O H1 H' w z → Q z H' := by
  obtain ⟨B, O, env, F, hp⟩ := h
  refine ⟨B, O, env, F, Post.mono (Post.bind (ok1 := okL K σ) hp) ?_⟩
  rintro xs H1 ⟨vs, e1, O1, _, s1, F1, pv, hp2⟩
  dsimp only at hp2
  cases es : shAll vs e1 with
  | none => rw [es] at hp2; exact hp2.elim
  | some q =>
    obtain ⟨ds, e2⟩ := q
    rw [es] at hp2
    dsimp only at hp2
    obtain ⟨w, hw, q⟩ := Post.at hp2
    obtain ⟨O2, s2, F2, r⟩ := shAll_ok F1 pv es
    refine ⟨O2, ds, w, F2.trk, r, hw, fun z H' n => ?_⟩
    obtain ⟨s3, F3, k3⟩ := new_ok F2 n
    exact q z O2 H' (s2.trans s3) F3 k3
theorem snd_tup {es : List E} {t : Pt} (ha : PA X (fEs N p es t 0) (TmL X.K W (evEs p cl es))) : PE X (fE N p (.tup es) t) (TmE X.K W (evE p cl (.tup es))) := by
  refine PE_imp (pe_tupF ha) fun σ H Q h => ?_
  obtain ⟨B, O, env, F, hp⟩ := tm_keep (f := tupV) h
  refine ⟨B, O, env, F, hp.mono ?_⟩
  rintro xs H1 ⟨O1, ds, w, t1, r, e, q⟩
  unfold tupV at e
  split at e
  · cases e
    exact ⟨O1, ds, t1, r, by rw [sizeLine_eq]; assumption, q⟩
  · cases e
theorem snd_lst {es : List E} {t : Pt} (ha : PA X (fEs N p es t 0) (TmL X.K W (evEs p cl es))) : PE X (fE N p (.lst es) t) (TmE X.K W (evE p cl (.lst es))) := by
  refine PE_imp (pe_lst ha) fun σ H Q h => ?_
  obtain ⟨B, O, env, F, hp⟩ := tm_keep (f := lstV) h
  refine ⟨B, O, env, F, hp.mono ?_⟩
  rintro xs H1 ⟨O1, ds, w, t1, r, e, q⟩
  unfold lstV at e
  split at e
  · cases e
    exact ⟨by rw [r.length, sizeLine_eq]; assumption, fun b hb => q _ _ (new_lst (X := X) hb r)⟩
  · cases e
theorem snd_bin {o : BOp} {a b : E} {t : Pt} (ha : PE X (fE N p a (t.c 0)) (TmE X.K W (evE p cl a))) (hb : PE X (fE N p b (t.c 1)) (TmE X.K W (evE p cl b))) : PE X (fE N p (.bin o a b) t) (TmE X.K W (evE p cl (.bin o a b))) :=
  PE_imp (pe_op (bin_ok o) ha hb) fun _ _ _ h => tm_op2 (fun _ _ _ _ h => h) h
theorem snd_neg {a : E} {t : Pt} (ha : PE X (fE N p a (t.c 0)) (TmE X.K W (evE p cl a))) : PE X (fE N p (.neg a) t) (TmE X.K W (evE p cl (.neg a))) :=
  PE_imp (pe_un un_neg ha) fun _ _ _ h => tm_op1 (r := rU fun i => .int (-i)) (fun x H Q ⟨O, a, w, tr, r, e, q⟩ => by
    cases a <;> simp only [intD] at e <;> first | cases e | skip
    have e1 := r.int
    subst e1
    exact ⟨_, rfl, q _ _ (new_sh (X := X) (.int _))⟩) h
theorem snd_not {a : E} {t : Pt} (ha : PE X (fE N p a (t.c 0)) (TmE X.K W (evE p cl a))) : PE X (fE N p (.not a) t) (TmE X.K W (evE p cl (.not a))) :=
  PE_imp (pe_notT ha) fun _ _ _ h => tm_op1 (r := fun x H Q => ∃ k, TruV X.K x H k ∧ Q (.bl (!k)) H) (fun x H Q ⟨O, a, w, tr, r, e, q⟩ => by
    cases e1 : truD a with
    | none => rw [e1] at e; cases e
    | some k =>
      rw [e1] at e; cases e
      exact ⟨k, tru_v r e1, q _ _ (new_sh (X := X) (.bl _))⟩) h
theorem snd_ife {c a b : E} {t : Pt} (hc : PT X (fE N p c (t.c 0)) (TmB X.K W fun env => truR (evE p cl c env))) (ha : PE X (fE N p a (t.c 1)) (TmE X.K W (evE p cl a))) (hb : PE X (fE N p b (t.c 2)) (TmE X.K W (evE p cl b))) :
    PE X (fE N p (.ife c a b) t) (TmE X.K W (evE p cl (.ife c a b))) := by
  refine PE_imp (pe_ifExp hc ha hb) ?_
  rintro σ H Q ⟨B, O, env, F, hp⟩
  refine ⟨B, O, env, F, Post.mono (Post.bind (ok1 := okE) hp) ?_⟩
  rintro k H1 ⟨k', e1, O1, _, s1, F1, ek, hp2⟩
  cases ek
  cases k with
  | true => exact ⟨B, O1, e1, F1, hp2⟩
  | false => exact ⟨B, O1, e1, F1, hp2⟩
theorem snd_cmp (h : XOk p cl lv cA N sc fn X W) {o : COp} {a b : E} {t : Pt} (ha : PE X (fE N p a (t.c 0)) (TmE X.K W (evE p cl a))) (hb : PE X (fE N p b (t.c 1)) (TmE X.K W (evE p cl b))) : PE X (fE N p (.cmp o a b) t) (TmE X.K W (evE p cl (.cmp o a b))) :=
  PE_imp (pe_cmpR (cmp_ok h.units o) ha hb (nobeh _ _ _)) fun _ _ _ h => tm_op2 (fun x y H Q ⟨O, a, b, w, tr, r1, r2, e, q⟩ => by
    unfold blV at e
    cases e1 : cmpV o a b with
    | none => rw [e1] at e; cases e
    | some k =>
      rw [e1] at e; cases e
      exact ⟨O, a, b, k, r1, r2, e1, q _ _ (new_sh (X := X) (.bl _))⟩) h
theorem snd_idx {a b : E} {t : Pt} (ha : PE X (fE N p a (t.c 0)) (TmE X.K W (evE p cl a))) (hb : PE X (fE N p b (t.c 1)) (TmE X.K W (evE p cl b))) : PE X (fE N p (.idx a b) t) (TmE X.K W (evE p cl (.idx a b))) :=
  PE_imp (pe_ix idx_ok ha hb (plainIx _ _)) fun _ _ _ h => tm_op2 (fun x y H Q ⟨O, a, b, w, tr, r1, r2, e, q⟩ => by
    cases e1 : idxV a b with
    | none => rw [e1] at e; cases e
    | some k =>
      rw [e1] at e; cases e
      exact ⟨O, a, b, k, r1, r2, e1, fun z r => q _ _ (new_sh (X := X) r)⟩) h
theorem last_no (o o' : CmpOp) (b c : E) (t t' : Pt) : lastMarks [o, o'] [fE N p b t, fE N p c t'] = false := nobeh o' c t'
theorem snd_chn (h : XOk p cl lv cA N sc fn X W) {o o' : COp} {a b c : E} {t : Pt} (ha : PE X (fE N p a (t.c 0)) (TmE X.K W (evE p cl a))) (hb : PE X (fE N p b (t.c 1)) (TmE X.K W (evE p cl b))) (hc : PE X (fE N p c (t.c 2)) (TmE X.K W (evE p cl c))) :
    PE X (fE N p (.chn o o' a b c) t) (TmE X.K W (evE p cl (.chn o o' a b c))) := by
  refine PE_imp (pe_chain (cmp_ok h.units o) (cmp_ok h.units o') ha hb hc (last_no _ _ _ _ _ _)) ?_
  rintro σ H Q ⟨B, O, env, F, hp⟩
  refine ⟨B, O, env, F, Post.mono (Post.bind (ok1 := okV X.K B σ) hp) ?_⟩
  rintro x H1 ⟨v, e1, O1, _, s1, F1, k1, hp2⟩
  refine ⟨B, O1, e1, F1, Post.mono (Post.bind (ok1 := okV X.K B σ) hp2) ?_⟩
  rintro y H2 ⟨u, e2, O2, _, s2, F2, k2, hp3⟩
  have k1' : ValS X.K O2 σ H2 v x := k1.1.step F1 s2
  dsimp only at hp3
  cases ea : rdV v e2 with
  | none => rw [ea] at hp3; exact hp3.elim
  | some da =>
    cases eb : rdV u e2 with
    | none => rw [ea, eb] at hp3; exact hp3.elim
    | some db =>
      rw [ea, eb] at hp3
      dsimp only [Option.bind_some] at hp3
      cases ec : cmpV o da db with
      | none => rw [ec] at hp3; exact hp3.elim
      | some k =>
        refine ⟨O2, da, db, k, rd_ok F2 k1' ea, rd_ok F2 k2.1 eb, ec, k, rfl, ?_⟩
        rw [ec] at hp3
        cases k with
        | false => exact hp3 _ O2 H2 .refl F2 ⟨.bl _, trivial⟩
        | true =>
          refine ⟨B, O2, e2, F2, Post.mono (Post.bind (ok1 := okV X.K B σ) hp3) ?_⟩
          rintro z H3 ⟨v3, e3, O3, _, s3, F3, k3, hp4⟩
          obtain ⟨w, hw, q⟩ := Post.at hp4
          have k2' : ValS X.K O3 σ H3 u y := k2.1.step F2 s3
          cases eb' : rdV u e3 with
          | none => rw [eb'] at hw; cases hw
          | some db' =>
            cases ec' : rdV v3 e3 with
            | none => rw [eb', ec'] at hw; cases hw
            | some dc =>
              rw [eb', ec'] at hw
              dsimp only [Option.bind_some, blV] at hw
              cases eq' : cmpV o' db' dc with
              | none => rw [eq'] at hw; cases hw
              | some k' =>
                rw [eq'] at hw; cases hw
                exact ⟨O3, db', dc, k', rd_ok F3 k2' eb', rd_ok F3 k3.1 ec', eq', q _ O3 H3 .refl F3 ⟨.bl _, trivial⟩⟩
theorem non_iff {K : PySem.W.Frag} {O : OS} {H : Hp} {x : V} {d : D} (r : Rt K O H x d) : decide (x = .non) = (match d with | .non => true | _ => false) := by
  cases r with
  | own h1 h2 => rfl
  | sh r => cases r <;> rfl
theorem snd_isN {a : E} {t : Pt} (ha : PE X (fE N p a (t.c 0)) (TmE X.K W (evE p cl a))) : PE X (fE N p (.isN a) t) (TmE X.K W (evE p cl (.isN a))) :=
  PE_imp (pe_cmp (pc_isN ha) rfl) fun _ _ _ h => tm_op1 (r := fun x H Q => Q (.bl (decide (x = .non))) H) (fun x H Q ⟨O, a, w, tr, r, e, q⟩ => by
    rw [non_iff r]
    cases a <;> cases e <;> exact q _ _ (new_sh (X := X) (.bl _))) h
theorem snd_notN {a : E} {t : Pt} (ha : PE X (fE N p a (t.c 0)) (TmE X.K W (evE p cl a))) : PE X (fE N p (.notN a) t) (TmE X.K W (evE p cl (.notN a))) :=
  PE_imp (pe_cmp (pc_notN ha) rfl) fun _ _ _ h => tm_op1 (r := fun x H Q => Q (.bl (!decide (x = .non))) H) (fun x H Q ⟨O, a, w, tr, r, e, q⟩ => by
    rw [non_iff r]
    cases a <;> cases e <;> exact q _ _ (new_sh (X := X) (.bl _))) h
/-- parts of a slice -/
theorem po_no : PO X none (TmO X.K W (fun env => .ok none env)) := PO_imp po_none fun σ H Q ⟨B, O, env, F, hp⟩ => hp _ O H .refl F rfl
theorem po_so {e : Expr} {g : Env → R Val} (h : PE X e (TmE X.K W g)) : PO X (some e) (TmO X.K W (fun env => (asInt (g env)).bind fun i e => .ok (some i) e)) := by
  refine PO_imp (po_some h) ?_
  rintro σ H Q ⟨B, O, env, F, hp⟩
  have hp' : Post X.K W B O σ H env ((g env).bind fun v e => ((R.of ((rdV v e).bind intD) e).bind fun i e => R.ok (some i) e)) okE Q := by
    have e : ((asInt (g env)).bind fun i e => R.ok (some i) e) = ((g env).bind fun v e => ((R.of ((rdV v e).bind intD) e).bind fun i e => R.ok (some i) e)) := by
      unfold asInt
      cases g env <;> rfl
    rw [← e]; exact hp
  refine ⟨B, O, env, F, Post.mono (Post.bind (ok1 := okV X.K B σ) hp') ?_⟩
  rintro x H1 ⟨v, e1, O1, _, s1, F1, k1, hp2⟩
  dsimp only at hp2
  cases ea : rdV v e1 with
  | none => rw [ea] at hp2; exact hp2.elim
  | some a =>
    rw [ea] at hp2
    have r := rd_ok F1 k1.1 ea
    cases a with
    | int i =>
      have := r.int
      subst this
      exact ⟨i, rfl, hp2 _ O1 H1 .refl F1 rfl⟩
    | _ => exact hp2.elim
theorem snd_sl {a : E} {lo hi : Option E} {t : Pt} (ha : PE X (fE N p a (t.c 0)) (TmE X.K W (evE p cl a))) (hl : PO X (fO N p lo (t.c 1)) (TmO X.K W (evO p cl lo))) (hh : PO X (fO N p hi (t.c 2)) (TmO X.K W (evO p cl hi))) :
    PE X (fE N p (.sl a lo hi) t) (TmE X.K W (evE p cl (.sl a lo hi))) := by
  refine PE_imp (pe_slice sl_ok ha hl hh) ?_
  rintro σ H Q ⟨B, O, env, F, hp⟩
  refine ⟨B, O, env, F, Post.mono (Post.bind (ok1 := okV X.K B σ) hp) ?_⟩
  rintro x H1 ⟨v, e1, O1, _, s1, F1, k1, hp2⟩
  refine ⟨B, O1, e1, F1, Post.mono (Post.bind (ok1 := okE) hp2) ?_⟩
  rintro l H2 ⟨l', e2, O2, _, s2, F2, el, hp3⟩
  cases el
  refine ⟨B, O2, e2, F2, Post.mono (Post.bind (ok1 := okE) hp3) ?_⟩
  rintro u H3 ⟨u', e3, O3, _, s3, F3, eu, hp4⟩
  cases eu
  obtain ⟨w, hw, q⟩ := Post.at hp4
  have k1' : ValS X.K O3 σ H3 v x := k1.1.step F1 (s2.trans s3)
  cases ea : rdV v e3 with
  | none => rw [ea] at hw; cases hw
  | some a =>
    rw [ea] at hw
    exact ⟨O3, a, w, F3.trk, rd_ok F3 k1' ea, hw, fun z H' n => post_new F3 q n⟩
theorem snd_glob (h : XOk p cl lv cA N sc fn X W) {c : Nat} {t : Pt} (w : wfE N p sc fn (.glob c) t = true) : PE X (fE N p (.glob c) t) (TmE X.K W (evE p cl (.glob c))) := by
  simp only [wfE, Bool.and_eq_true, decide_eq_true_eq] at w
  obtain ⟨⟨w1, w2⟩, w3⟩ := w
  obtain ⟨d1, _, _⟩ := nm_of w2
  cases ec : p.cv[c]? with
  | none =>
    refine ⟨fun pins s σ H Q I ht => ?_⟩
    obtain ⟨B, O, env, F, hp⟩ := ht
    simp only [evE, ec] at hp
    exact hp.elim
  | some d =>
    obtain ⟨u, v, hm, rv, hr⟩ := h.g.cst c d w3 ec
    refine PE_imp (pe_glob (gl_of h w1) hm rv d1) fun σ H Q ht => tm_c (W := W) (d := d) hr σ H Q ?_
    obtain ⟨B, O, env, F, hp⟩ := ht
    simp only [evE, ec] at hp
    exact ⟨B, O, env, F, hp⟩
end
end Lw
set_option linter.all false
set_option Elab.async false
set_option maxRecDepth 100000
set_option maxHeartbeats 1000000
namespace Lw
open PySem PySem.Spec L2
section
variable {p : Pg} {cl : Cl} {lv : Nat} {cA : Nat → Value} {N : List Str} {sc : Scope} {fn : Str → Bool} {X : Cx} {W : WN}
theorem bind_ok {α : Type} (x : R α) : (x.bind fun v e => R.ok v e) = x := by cases x <;> rfl

/-! ## and, or -/
theorem evAnd1 (e : E) (env : Env) : evAnd p cl [e] env = evE p cl e env := by
  simp only [evAnd, andK, List.isEmpty_nil, if_true]
  exact bind_ok _
theorem evOr1 (e : E) (env : Env) : evOr p cl [e] env = evE p cl e env := by
  simp only [evOr, orK, List.isEmpty_nil, if_true]
  exact bind_ok _
theorem evAnd2 (e e2 : E) (es : List E) (env : Env) : evAnd p cl (e :: e2 :: es) env = (evE p cl e env).bind fun v e1 => (match (rdV v e1).bind truD with
  | some true => evAnd p cl (e2 :: es) e1
  | some false => .ok v e1
  | none => .bad) := by
  rw [evAnd]
  rfl
theorem evOr2 (e e2 : E) (es : List E) (env : Env) : evOr p cl (e :: e2 :: es) env = (evE p cl e env).bind fun v e1 => (match (rdV v e1).bind truD with
  | some true => .ok v e1
  | some false => evOr p cl (e2 :: es) e1
  | none => .bad) := by
  rw [evOr]
  rfl
theorem tm_congr {K : PySem.W.Frag} {f g : Env → R Val} (h : ∀ env, f env = g env) {σ : SS} {H : Hp} {Q : VK} (t : TmE K W f σ H Q) : TmE K W g σ H Q := by
  have e : f = g := funext h
  rw [← e]; exact t
theorem tmB_congr {K : PySem.W.Frag} {f g : Env → R Bool} (h : ∀ env, f env = g env) {σ : SS} {H : Hp} {Q : Bool → Hp → Prop} (t : TmB K W f σ H Q) : TmB K W g σ H Q := by
  have e : f = g := funext h
  rw [← e]; exact t
theorem snd_and1 {e : E} {t : Pt} {i : Nat} {pos : Pos} (ha : PE X (fE N p e (t.c i)) (TmE X.K W (evE p cl e))) : PE X (.BoolOp .And (fEs N p [e] t i) pos) (TmE X.K W (evAnd p cl [e])) :=
  PE_imp (pe_one ha) fun _ _ _ h => tm_congr (evAnd1 e) h
theorem snd_or1 {e : E} {t : Pt} {i : Nat} {pos : Pos} (ha : PE X (fE N p e (t.c i)) (TmE X.K W (evE p cl e))) : PE X (.BoolOp .Or (fEs N p [e] t i) pos) (TmE X.K W (evOr p cl [e])) :=
  PE_imp (pe_one ha) fun _ _ _ h => tm_congr (evOr1 e) h
theorem snd_and2 {e e2 : E} {es : List E} {t : Pt} {i : Nat} {pos : Pos} (ha : PE X (fE N p e (t.c i)) (TmE X.K W (evE p cl e))) (hb : PE X (.BoolOp .And (fEs N p (e2 :: es) t (i + 1)) pos) (TmE X.K W (evAnd p cl (e2 :: es)))) :
    PE X (.BoolOp .And (fEs N p (e :: e2 :: es) t i) pos) (TmE X.K W (evAnd p cl (e :: e2 :: es))) := by
  refine PE_imp (pe_andT ha hb) fun σ H Q h => ?_
  obtain ⟨B, O, env, F, hp⟩ := tm_congr (evAnd2 e e2 es) h
  refine ⟨B, O, env, F, Post.mono (Post.bind (ok1 := okV X.K B σ) hp) ?_⟩
  rintro x H1 ⟨v, e1, O1, _, s1, F1, k1, hp2⟩
  dsimp only at hp2
  cases ea : rdV v e1 with
  | none => rw [ea] at hp2; exact hp2.elim
  | some a =>
    rw [ea] at hp2
    dsimp only [Option.bind_some] at hp2
    cases et : truD a with
    | none => rw [et] at hp2; exact hp2.elim
    | some k =>
      rw [et] at hp2
      refine ⟨k, tru_v (rd_ok F1 k1.1 ea) et, ?_⟩
      cases k with
      | true => exact ⟨B, O1, e1, F1, hp2⟩
      | false => exact hp2 x O1 H1 .refl F1 k1
theorem snd_or2 {e e2 : E} {es : List E} {t : Pt} {i : Nat} {pos : Pos} (ha : PE X (fE N p e (t.c i)) (TmE X.K W (evE p cl e))) (hb : PE X (.BoolOp .Or (fEs N p (e2 :: es) t (i + 1)) pos) (TmE X.K W (evOr p cl (e2 :: es)))) :
    PE X (.BoolOp .Or (fEs N p (e :: e2 :: es) t i) pos) (TmE X.K W (evOr p cl (e :: e2 :: es))) := by
  refine PE_imp (pe_orT ha hb) fun σ H Q h => ?_
  obtain ⟨B, O, env, F, hp⟩ := tm_congr (evOr2 e e2 es) h
  refine ⟨B, O, env, F, Post.mono (Post.bind (ok1 := okV X.K B σ) hp) ?_⟩
  rintro x H1 ⟨v, e1, O1, _, s1, F1, k1, hp2⟩
  dsimp only at hp2
  cases ea : rdV v e1 with
  | none => rw [ea] at hp2; exact hp2.elim
  | some a =>
    rw [ea] at hp2
    dsimp only [Option.bind_some] at hp2
    cases et : truD a with
    | none => rw [et] at hp2; exact hp2.elim
    | some k =>
      rw [et] at hp2
      refine ⟨k, tru_v (rd_ok F1 k1.1 ea) et, ?_⟩
      cases k with
      | false => exact ⟨B, O1, e1, F1, hp2⟩
      | true => exact hp2 x O1 H1 .refl F1 k1
/-- as tests -/
theorem truR_and2 (e e2 : E) (es : List E) (env : Env) : truR (evAnd p cl (e :: e2 :: es) env) = (truR (evE p cl e env)).bind fun k e1 => if k then truR (evAnd p cl (e2 :: es) e1) else .ok false e1 := by
  rw [evAnd2]
  cases evE p cl e env with
  | bad => rfl
  | exc c e => rfl
  | ok v e1 =>
    show truR (match (rdV v e1).bind truD with
      | some true => evAnd p cl (e2 :: es) e1
      | some false => .ok v e1
      | none => .bad) = (R.of ((rdV v e1).bind truD) e1).bind fun k e1 => if k then truR (evAnd p cl (e2 :: es) e1) else .ok false e1
    cases q : (rdV v e1).bind truD with
    | none => rfl
    | some k =>
      cases k with
      | true => rfl
      | false =>
        show R.of ((rdV v e1).bind truD) e1 = R.ok false e1
        rw [q]; rfl
theorem truR_or2 (e e2 : E) (es : List E) (env : Env) : truR (evOr p cl (e :: e2 :: es) env) = (truR (evE p cl e env)).bind fun k e1 => if k then .ok true e1 else truR (evOr p cl (e2 :: es) e1) := by
  rw [evOr2]
  cases evE p cl e env with
  | bad => rfl
  | exc c e => rfl
  | ok v e1 =>
    show truR (match (rdV v e1).bind truD with
      | some true => .ok v e1
      | some false => evOr p cl (e2 :: es) e1
      | none => .bad) = (R.of ((rdV v e1).bind truD) e1).bind fun k e1 => if k then .ok true e1 else truR (evOr p cl (e2 :: es) e1)
    cases q : (rdV v e1).bind truD with
    | none => rfl
    | some k =>
      cases k with
      | false => rfl
      | true =>
        show R.of ((rdV v e1).bind truD) e1 = R.ok true e1
        rw [q]; rfl
abbrev TmT (p : Pg) (cl : Cl) (K : PySem.W.Frag) (W : WN) (e : E) : TT := TmB K W fun env => truR (evE p cl e env)
theorem snt_and1 {e : E} {t : Pt} {i : Nat} {pos : Pos} (ha : PT X (fE N p e (t.c i)) (TmT p cl X.K W e)) : PW X (.BoolOp .And (fEs N p [e] t i) pos) (TmB X.K W fun env => truR (evAnd p cl [e] env)) :=
  PW_imp (pw_and1 ha) fun _ _ _ h => tmB_congr (fun env => by rw [evAnd1]) h
theorem snt_or1 {e : E} {t : Pt} {i : Nat} {pos : Pos} (ha : PT X (fE N p e (t.c i)) (TmT p cl X.K W e)) : PW X (.BoolOp .Or (fEs N p [e] t i) pos) (TmB X.K W fun env => truR (evOr p cl [e] env)) :=
  PW_imp (pw_or1 ha) fun _ _ _ h => tmB_congr (fun env => by rw [evOr1]) h
theorem snt_and2 {e e2 : E} {es : List E} {t : Pt} {i : Nat} {pos : Pos} (ha : PT X (fE N p e (t.c i)) (TmT p cl X.K W e)) (hb : PW X (.BoolOp .And (fEs N p (e2 :: es) t (i + 1)) pos) (TmB X.K W fun env => truR (evAnd p cl (e2 :: es) env))) :
    PW X (.BoolOp .And (fEs N p (e :: e2 :: es) t i) pos) (TmB X.K W fun env => truR (evAnd p cl (e :: e2 :: es) env)) := by
  refine PW_imp (pw_and ha hb) fun σ H Q h => ?_
  obtain ⟨B, O, env, F, hp⟩ := tmB_congr (truR_and2 e e2 es) h
  refine ⟨B, O, env, F, Post.mono (Post.bind (ok1 := okE) hp) ?_⟩
  rintro k H1 ⟨k', e1, O1, _, s1, F1, ek, hp2⟩
  cases ek
  cases k with
  | true => exact ⟨B, O1, e1, F1, hp2⟩
  | false => exact hp2 false O1 H1 .refl F1 rfl
theorem snt_or2 {e e2 : E} {es : List E} {t : Pt} {i : Nat} {pos : Pos} (ha : PT X (fE N p e (t.c i)) (TmT p cl X.K W e)) (hb : PW X (.BoolOp .Or (fEs N p (e2 :: es) t (i + 1)) pos) (TmB X.K W fun env => truR (evOr p cl (e2 :: es) env))) :
    PW X (.BoolOp .Or (fEs N p (e :: e2 :: es) t i) pos) (TmB X.K W fun env => truR (evOr p cl (e :: e2 :: es) env)) := by
  refine PW_imp (pw_or ha hb) fun σ H Q h => ?_
  obtain ⟨B, O, env, F, hp⟩ := tmB_congr (truR_or2 e e2 es) h
  refine ⟨B, O, env, F, Post.mono (Post.bind (ok1 := okE) hp) ?_⟩
  rintro k H1 ⟨k', e1, O1, _, s1, F1, ek, hp2⟩
  cases ek
  cases k with
  | false => exact ⟨B, O1, e1, F1, hp2⟩
  | true => exact hp2 true O1 H1 .refl F1 rfl
theorem snt_not {a : E} {t : Pt} (ha : PT X (fE N p a (t.c 0)) (TmT p cl X.K W a)) : PT X (fE N p (.not a) t) (TmT p cl X.K W (.not a)) := by
  refine PT_imp (pt_not ha) fun σ H Q h => ?_
  have e : ∀ env, truR (evE p cl (.not a) env) = (truR (evE p cl a env)).bind fun k e => .ok (!k) e := fun env => by
    simp only [evE]
    cases evE p cl a env with
    | bad => rfl
    | exc c e => rfl
    | ok v e1 =>
      show truR (R.of ((rdV v e1).bind fun d => (truD d).map fun k => Val.sh (.bl (!k))) e1) = (R.of ((rdV v e1).bind truD) e1).bind fun k e => .ok (!k) e
      cases rdV v e1 with
      | none => rfl
      | some d =>
        show truR (R.of ((truD d).map fun k => Val.sh (.bl (!k))) e1) = (R.of (truD d) e1).bind fun k e => .ok (!k) e
        cases truD d <;> rfl
  obtain ⟨B, O, env, F, hp⟩ := tmB_congr e h
  refine ⟨B, O, env, F, Post.mono (Post.bind (ok1 := okE) hp) ?_⟩
  rintro k H1 ⟨k', e1, O1, _, s1, F1, ek, hp2⟩
  cases ek
  exact hp2 _ O1 H1 .refl F1 rfl
/-- a value that is True or False, as a test -/
theorem tm_truB {f : Env → R Val} (hf : ∀ env v e, f env = .ok v e → ∃ k, v = .sh (.bl k)) {K : PySem.W.Frag} {σ : SS} {H : Hp} {Q : Bool → Hp → Prop} (h : TmB K W (fun env => truR (f env)) σ H Q) :
    TmE K W f σ H fun x H1 => ∃ k, x = .bl k ∧ Q k H1 := by
  obtain ⟨B, O, env, F, hp⟩ := h
  refine ⟨B, O, env, F, Post.mono (Post.bind (ok1 := okV K B σ) hp) ?_⟩
  rintro x H1 ⟨v, e1, O1, q, s1, F1, k1, hp2⟩
  obtain ⟨k, rfl⟩ := hf _ _ _ q
  have r : Rp K O1 H1 x (.bl k) := k1.1
  cases r
  exact ⟨k, rfl, hp2 k O1 H1 .refl F1 rfl⟩
theorem of_ok {α : Type} {o : Option α} {e e' : Env} {v : α} (h : R.of o e = .ok v e') : o = some v ∧ e = e' := by
  cases o with
  | none => cases h
  | some w => cases h; exact ⟨rfl, rfl⟩
theorem bind_inv {α β : Type} {x : R α} {f : α → Env → R β} {v : β} {e : Env} (h : x.bind f = .ok v e) : ∃ a e1, x = .ok a e1 ∧ f a e1 = .ok v e := by
  cases x with
  | ok a e1 => exact ⟨a, e1, rfl, h⟩
  | exc c e => cases h
  | bad => cases h
theorem op2_bl {x : R Val} {y : Env → R Val} {f : D → D → Option Bool} {v : Val} {e : Env} (h : op2 x y (fun a b => blV (f a b)) = .ok v e) : ∃ k, v = .sh (.bl k) := by
  obtain ⟨a, e1, _, h⟩ := bind_inv h
  obtain ⟨b, e2, _, h⟩ := bind_inv h
  obtain ⟨h, _⟩ := of_ok h
  cases ea : rdV a e2 with
  | none => rw [ea] at h; cases h
  | some da =>
    cases eb : rdV b e2 with
    | none => rw [ea, eb] at h; cases h
    | some db =>
      rw [ea, eb] at h
      dsimp only [Option.bind_some, blV] at h
      cases ef : f da db with
      | none => rw [ef] at h; cases h
      | some k => rw [ef] at h; cases h; exact ⟨k, rfl⟩
theorem snt_cmp (h : XOk p cl lv cA N sc fn X W) {o : COp} {a b : E} {t : Pt} (ha : PE X (fE N p a (t.c 0)) (TmE X.K W (evE p cl a))) (hb : PE X (fE N p b (t.c 1)) (TmE X.K W (evE p cl b))) : PT X (fE N p (.cmp o a b) t) (TmT p cl X.K W (.cmp o a b)) :=
  PT_imp (pt_cmpR (cmp_ok h.units o) ha hb (nobeh _ _ _)) fun σ H Q ht => tm_op2 (f := evE p cl a) (g := evE p cl b) (o := fun x y => blV (cmpV o x y)) (fun x y H Q ⟨O, a, b, w, tr, r1, r2, e, q⟩ => by
    unfold blV at e
    cases e1 : cmpV o a b with
    | none => rw [e1] at e; cases e
    | some k =>
      rw [e1] at e; cases e
      exact ⟨O, a, b, k, r1, r2, e1, q _ _ (new_sh (X := X) (.bl _))⟩) (tm_truB (fun env v e q => op2_bl q) ht)
theorem op1_bl {x : R Val} {f : D → Option Val} (hf : ∀ d w, f d = some w → ∃ k, w = .sh (.bl k)) {v : Val} {e : Env} (h : op1 x f = .ok v e) : ∃ k, v = .sh (.bl k) := by
  obtain ⟨a, e1, _, h⟩ := bind_inv h
  obtain ⟨h, _⟩ := of_ok h
  cases ea : rdV a e1 with
  | none => rw [ea] at h; cases h
  | some d => rw [ea] at h; exact hf d v h
theorem snt_isN {a : E} {t : Pt} (ha : PE X (fE N p a (t.c 0)) (TmE X.K W (evE p cl a))) : PT X (fE N p (.isN a) t) (TmT p cl X.K W (.isN a)) :=
  PT_imp (pt_cmp (pc_isN ha) rfl) fun _ _ _ h => tm_op1 (r := fun x H Q => Q (.bl (decide (x = .non))) H) (f := evE p cl a) (o := fun d => match d with
      | .non => some (.sh (.bl true))
      | _ => some (.sh (.bl false))) (fun x H Q ⟨O, a, w, tr, r, e, q⟩ => by
    rw [non_iff r]
    cases a <;> cases e <;> exact q _ _ (new_sh (X := X) (.bl _))) (tm_truB (fun env v e q => op1_bl (fun d w hw => by cases d <;> cases hw <;> exact ⟨_, rfl⟩) q) h)
theorem snt_notN {a : E} {t : Pt} (ha : PE X (fE N p a (t.c 0)) (TmE X.K W (evE p cl a))) : PT X (fE N p (.notN a) t) (TmT p cl X.K W (.notN a)) :=
  PT_imp (pt_cmp (pc_notN ha) rfl) fun _ _ _ h => tm_op1 (r := fun x H Q => Q (.bl (!decide (x = .non))) H) (f := evE p cl a) (o := fun d => match d with
      | .non => some (.sh (.bl false))
      | _ => some (.sh (.bl true))) (fun x H Q ⟨O, a, w, tr, r, e, q⟩ => by
    rw [non_iff r]
    cases a <;> cases e <;> exact q _ _ (new_sh (X := X) (.bl _))) (tm_truB (fun env v e q => op1_bl (fun d w hw => by cases d <;> cases hw <;> exact ⟨_, rfl⟩) q) h)
/-- a chain, as a value and as a test -/
theorem imp_chn {K : PySem.W.Frag} {o o' : COp} {a b c : E} {σ : SS} {H : Hp} {Q : VK} (ht : TmE K W (evE p cl (.chn o o' a b c)) σ H Q) :
    tChain (fun x y H Q => ∃ O a b k, Rt K O H x a ∧ Rt K O H y b ∧ cmpV o a b = some k ∧ Q (.bl k) H) (fun x y H Q => ∃ O a b k, Rt K O H x a ∧ Rt K O H y b ∧ cmpV o' a b = some k ∧ Q (.bl k) H) (TmE K W (evE p cl a)) (TmE K W (evE p cl b)) (TmE K W (evE p cl c)) σ H Q := by
  obtain ⟨B, O, env, F, hp⟩ := ht
  refine ⟨B, O, env, F, Post.mono (Post.bind (ok1 := okV K B σ) hp) ?_⟩
  rintro x H1 ⟨v, e1, O1, _, s1, F1, k1, hp2⟩
  refine ⟨B, O1, e1, F1, Post.mono (Post.bind (ok1 := okV K B σ) hp2) ?_⟩
  rintro y H2 ⟨u, e2, O2, _, s2, F2, k2, hp3⟩
  have k1' : ValS K O2 σ H2 v x := k1.1.step F1 s2
  dsimp only at hp3
  cases ea : rdV v e2 with
  | none => rw [ea] at hp3; exact hp3.elim
  | some da =>
    cases eb : rdV u e2 with
    | none => rw [ea, eb] at hp3; exact hp3.elim
    | some db =>
      rw [ea, eb] at hp3
      dsimp only [Option.bind_some] at hp3
      cases ec : cmpV o da db with
      | none => rw [ec] at hp3; exact hp3.elim
      | some k =>
        refine ⟨O2, da, db, k, rd_ok F2 k1' ea, rd_ok F2 k2.1 eb, ec, k, rfl, ?_⟩
        rw [ec] at hp3
        cases k with
        | false => exact hp3 _ O2 H2 .refl F2 ⟨.bl _, trivial⟩
        | true =>
          refine ⟨B, O2, e2, F2, Post.mono (Post.bind (ok1 := okV K B σ) hp3) ?_⟩
          rintro z H3 ⟨v3, e3, O3, _, s3, F3, k3, hp4⟩
          obtain ⟨w, hw, q⟩ := Post.at hp4
          have k2' : ValS K O3 σ H3 u y := k2.1.step F2 s3
          cases eb' : rdV u e3 with
          | none => rw [eb'] at hw; cases hw
          | some db' =>
            cases ec' : rdV v3 e3 with
            | none => rw [eb', ec'] at hw; cases hw
            | some dc =>
              rw [eb', ec'] at hw
              dsimp only [Option.bind_some, blV] at hw
              cases eq' : cmpV o' db' dc with
              | none => rw [eq'] at hw; cases hw
              | some k' =>
                rw [eq'] at hw; cases hw
                exact ⟨O3, db', dc, k', rd_ok F3 k2' eb', rd_ok F3 k3.1 ec', eq', q _ O3 H3 .refl F3 ⟨.bl _, trivial⟩⟩
theorem chn_bl {o o' : COp} {a b c : E} {env e : Env} {v : Val} (h : evE p cl (.chn o o' a b c) env = .ok v e) : ∃ k, v = .sh (.bl k) := by
  simp only [evE] at h
  obtain ⟨va, e1, _, h⟩ := bind_inv h
  obtain ⟨vb, e2, _, h⟩ := bind_inv h
  split at h
  · cases h
  · cases h; exact ⟨_, rfl⟩
  · obtain ⟨vc, e3, _, h⟩ := bind_inv h
    obtain ⟨h, _⟩ := of_ok h
    cases eb : rdV vb e3 with
    | none => rw [eb] at h; cases h
    | some db =>
      cases ec : rdV vc e3 with
      | none => rw [eb, ec] at h; cases h
      | some dc =>
        rw [eb, ec] at h
        dsimp only [Option.bind_some, blV] at h
        cases ef : cmpV o' db dc with
        | none => rw [ef] at h; cases h
        | some k => rw [ef] at h; cases h; exact ⟨k, rfl⟩
theorem snt_chn (h : XOk p cl lv cA N sc fn X W) {o o' : COp} {a b c : E} {t : Pt} (ha : PE X (fE N p a (t.c 0)) (TmE X.K W (evE p cl a))) (hb : PE X (fE N p b (t.c 1)) (TmE X.K W (evE p cl b))) (hc : PE X (fE N p c (t.c 2)) (TmE X.K W (evE p cl c))) :
    PT X (fE N p (.chn o o' a b c) t) (TmT p cl X.K W (.chn o o' a b c)) :=
  PT_imp (pt_chain (cmp_ok h.units o) (cmp_ok h.units o') ha hb hc (last_no _ _ _ _ _ _)) fun σ H Q ht => imp_chn (tm_truB (fun _ _ _ q => chn_bl q) ht)
/-- any other expression -/
theorem snt_any {e : E} {t : Pt} (ha : PE X (fE N p e t) (TmE X.K W (evE p cl e))) (he : ∀ whole, isTrue (fE N p e t) X.env whole = (do let v ← whole; standAt (fE N p e t).pos; holding [v] (truthy v))) : PT X (fE N p e t) (TmT p cl X.K W e) :=
  PT_imp (pt_truth ha he) fun σ H Q h => by
    obtain ⟨B, O, env, F, hp⟩ := tm_tru h
    refine ⟨B, O, env, F, hp.mono ?_⟩
    rintro x H1 ⟨O1, a, k, r, e, q⟩
    exact ⟨k, tru_v r e, q⟩
end
end Lw
set_option linter.all false
set_option Elab.async false
set_option maxRecDepth 100000
set_option maxHeartbeats 1000000
namespace Lw
open PySem PySem.Spec L2
section
variable {p : Pg} {cl : Cl} {lv : Nat} {cA : Nat → Value} {N : List Str} {sc : Scope} {fn : Str → Bool} {X : Cx} {W : WN}
/-! ## argument lists -/
theorem sna_nil : PA X [] (TmL X.K W (evEs p cl [])) := PA_imp pa_nil fun σ H Q ⟨B, O, env, F, hp⟩ => hp [] O H .refl F .nil
theorem sna_cons {e : E} {es : List E} {t : Pt} {i : Nat} (ha : PE X (fE N p e (t.c i)) (TmE X.K W (evE p cl e))) (hb : PA X (fEs N p es t (i + 1)) (TmL X.K W (evEs p cl es))) : PA X (fEs N p (e :: es) t i) (TmL X.K W (evEs p cl (e :: es))) := by
  refine PA_imp (pa_cons ha hb (star_cons _ _ _ _)) ?_
  rintro σ H Q ⟨B, O, env, F, hp⟩
  refine ⟨B, O, env, F, Post.mono (Post.bind (ok1 := okV X.K B σ) hp) ?_⟩
  rintro x H1 ⟨v, e1, O1, _, s1, F1, k1, hp2⟩
  refine ⟨B, O1, e1, F1, Post.mono (Post.bind (ok1 := okL X.K σ) hp2) ?_⟩
  rintro xs H2 ⟨vs, e2, O2, _, s2, F2, k2, hp3⟩
  exact hp3 (x :: xs) O2 H2 .refl F2 (.cons (k1.1.step F1 s2) k2)

/-! ## calls -/
theorem snd_call (h : XOk p cl lv cA N sc fn X W) {f : Nat} {es : List E} {t : Pt} (w : wfE N p sc fn (.call f es) t = true) (ha : PA X (fEs N p es t 1) (TmL X.K W (evEs p cl es))) : PE X (fE N p (.call f es) t) (TmE X.K W (evE p cl (.call f es))) := by
  simp only [wfE, Bool.and_eq_true, decide_eq_true_eq, Bool.not_eq_true'] at w
  obtain ⟨⟨⟨⟨w1, w2⟩, w3⟩, w4⟩, w5⟩ := w
  obtain ⟨d1, _, _⟩ := nm_of w2
  obtain ⟨fa, fd, ps, hm, kp, hb, F, ar⟩ := h.g.fns f w3
  cases es with
  | nil => cases w4
  | cons e es =>
    have ha' : PA X (fE N p e (t.c 1) :: fEs N p es t (1 + 1)) (TmL X.K W (evEs p cl (e :: es))) := ha
    exact PE_imp (pe_callS F h.room (gl_of h w1) hm kp hb (fun σ => passAt h.tk σ) ha' d1 (star_cons _ _ _ _) (star_any _ _ _ _ _)) fun σ H Q ht => tm_call ar ht
/-- built-in functions and types -/
theorem tm_bi {K : PySem.W.Frag} {g : Env → R (List Val)} {b : BI} {r : List V → Hp → VK → Prop} (hr : ∀ xs H Q, (∃ O ds w, Trk O H ∧ Paired (Rt K O H) xs ds ∧ biV b ds = some w ∧ ∀ z H', NewV K O H H' w z → Q z H') → r xs H Q) {σ : SS} {H : Hp} {Q : VK}
    (h : TmE K W (fun env => opN (g env) (biV b)) σ H Q) : tCB r (TmL K W g) σ H Q := by
  obtain ⟨B, O, env, F, hp⟩ := h
  refine ⟨B, O, env, F, Post.mono (Post.bind (ok1 := okL K σ) hp) ?_⟩
  rintro xs H1 ⟨vs, e1, O1, _, s1, F1, pv, hp2⟩
  obtain ⟨w, hw, q⟩ := Post.at hp2
  cases ed : rdAll vs e1 with
  | none => rw [ed] at hw; cases hw
  | some ds =>
    rw [ed] at hw
    exact hr _ _ _ ⟨O1, ds, w, F1.trk, rdAll_ok F1 pv ed, hw, fun z H' n => post_new F1 q n⟩
theorem snd_biB (h : XOk p cl lv cA N sc fn X W) {b : BI} {id : String} {es : List E} {t : Pt} (w : wfE N p sc fn (.bi b es) t = true) (ha : PA X (fEs N p es t 1) (TmL X.K W (evEs p cl es))) (hc : CallD X (.builtin id) b) (hv : bootBuiltins (biN b) = some (.builtin id))
    (hg : isG b = false) (hn : biN b ≠ "__name__") (hd : (biN b == ("__debug__" : Str)) = false) : PE X (fE N p (.bi b es) t) (TmE X.K W (evE p cl (.bi b es))) := by
  simp only [wfE, Bool.and_eq_true, Bool.not_eq_true'] at w
  cases es with
  | nil => have := w.1.1.1.2; cases this
  | cons e es =>
    have ha' : PA X (fE N p e (t.c 1) :: fEs N p es t (1 + 1)) (TmL X.K W (evEs p cl (e :: es))) := ha
    exact PE_imp (pe_callB hc (gl_of h w.1.1.1.1) (h.g.bis b hg) hv ha' hn hd (star_cons _ _ _ _) (star_any _ _ _ _ _)) fun σ H Q ht => tm_bi (fun _ _ _ z => z) ht
theorem snd_biT (h : XOk p cl lv cA N sc fn X W) {b : BI} {T : String} {es : List E} {t : Pt} (w : wfE N p sc fn (.bi b es) t = true) (ha : PA X (fEs N p es t 1) (TmL X.K W (evEs p cl es))) (hc : CallD X (.type T) b) (hv : bootBuiltins (biN b) = some (.type T))
    (hg : isG b = false) (hn : biN b ≠ "__name__") (hd : (biN b == ("__debug__" : Str)) = false) : PE X (fE N p (.bi b es) t) (TmE X.K W (evE p cl (.bi b es))) := by
  simp only [wfE, Bool.and_eq_true, Bool.not_eq_true'] at w
  cases es with
  | nil => have := w.1.1.1.2; cases this
  | cons e es =>
    have ha' : PA X (fE N p e (t.c 1) :: fEs N p es t (1 + 1)) (TmL X.K W (evEs p cl (e :: es))) := ha
    exact PE_imp (pe_callTy hc (gl_of h w.1.1.1.1) (h.g.bis b hg) hv ha' hn hd (star_cons _ _ _ _) (star_any _ _ _ _ _)) fun σ H Q ht => tm_bi (fun _ _ _ z => z) ht
theorem snd_gcd (h : XOk p cl lv cA N sc fn X W) {es : List E} {t : Pt} (w : wfE N p sc fn (.bi .gcd es) t = true) (ha : PA X (fEs N p es t 1) (TmL X.K W (evEs p cl es))) : PE X (fE N p (.bi .gcd es) t) (TmE X.K W (evE p cl (.bi .gcd es))) := by
  simp only [wfE, Bool.and_eq_true, Bool.not_eq_true'] at w
  cases es with
  | nil => have := w.1.1.1.2; cases this
  | cons e es =>
    have ha' : PA X (fE N p e (t.c 1) :: fEs N p es t (1 + 1)) (TmL X.K W (evEs p cl (e :: es))) := ha
    have hg : p.gcd = true := by simpa [bgB, isG] using w.2
    exact PE_imp (pe_callBfun bi_gcd (gl_of h w.1.1.1.1) (h.g.gcd hg) ha' (by decide) (star_cons _ _ _ _) (star_any _ _ _ _ _)) fun σ H Q ht => tm_bi (fun _ _ _ z => z) ht
theorem snd_bi (h : XOk p cl lv cA N sc fn X W) {b : BI} {es : List E} {t : Pt} (w : wfE N p sc fn (.bi b es) t = true) (ha : PA X (fEs N p es t 1) (TmL X.K W (evEs p cl es))) : PE X (fE N p (.bi b es) t) (TmE X.K W (evE p cl (.bi b es))) := by
  cases b with
  | len => exact snd_biB h w ha bi_len (by decide +kernel) rfl (by decide) (by decide)
  | int => exact snd_biT h w ha bi_int (by decide +kernel) rfl (by decide) (by decide)
  | abs => exact snd_biB h w ha bi_abs (by decide +kernel) rfl (by decide) (by decide)
  | min => exact snd_biB h w ha (bi_min h.calm h.units) (by decide +kernel) rfl (by decide) (by decide)
  | max => exact snd_biB h w ha (bi_max h.calm h.units) (by decide +kernel) rfl (by decide) (by decide)
  | sum => exact snd_biB h w ha (bi_sum h.calm) (by decide +kernel) rfl (by decide) (by decide)
  | tuple => exact snd_biT h w ha bi_tuple (by decide +kernel) rfl (by decide) (by decide)
  | list => exact snd_biT h w ha bi_list (by decide +kernel) rfl (by decide) (by decide)
  | any => exact snd_biB h w ha (bi_any h.calm) (by decide +kernel) rfl (by decide) (by decide)
  | all => exact snd_biB h w ha (bi_all h.calm) (by decide +kernel) rfl (by decide) (by decide)
  | sorted => exact snd_biB h w ha (bi_sorted h.units) (by decide +kernel) rfl (by decide) (by decide)
  | gcd => exact snd_gcd h w ha
  | _ => simp [wfE, biB] at w

/-! ## isinstance -/
def tyT : TY → String
  | .bool => "bool" | .int => "int" | .str => "str" | .tuple => "tuple" | .list => "list"
theorem isi_ok {K : PySem.W.Frag} {O : OS} {H : Hp} {x : V} {d : D} {T : TY} {k : Bool} (r : Rt K O H x d) (e : isiD T d = some k) : ∃ t, TyX K H x t ∧ PySem.W.kitOne K t (.type (tyT T)) = some k := by
  cases d with
  | ro xs => cases T <;> cases e
  | set xs => cases T <;> cases e
  | exn c => cases T <;> cases e
  | non =>
    cases r with | sh r => cases r; exact ⟨_, .base .non, kit_ty (by cases T <;> cases e <;> decide +kernel)⟩
  | bl b =>
    have := r.bl; subst this
    exact ⟨_, .base (.bl _), kit_ty (by cases T <;> cases e <;> decide +kernel)⟩
  | int b =>
    have := r.int; subst this
    exact ⟨_, .base (.int _), kit_ty (by cases T <;> cases e <;> decide +kernel)⟩
  | str b =>
    have := r.str; subst this
    exact ⟨_, .base (.str _), kit_ty (by cases T <;> cases e <;> decide +kernel)⟩
  | tup xs =>
    obtain ⟨a, vs, rfl, ta, ra⟩ := r.tup
    refine ⟨.type "tuple", ?_, kit_ty (by cases T <;> cases e <;> decide +kernel)⟩
    rcases ta with ⟨_, o, _, h⟩ | ⟨o, its, n, h1, h2, _⟩
    · exact .fTuple h
    · exact .kTuple h1 h2
  | lst xs =>
    obtain ⟨a, vs, rfl, ta, ra⟩ := r.lst
    exact ⟨.type "list", .base (.lst ta), kit_ty (by cases T <;> cases e <;> decide +kernel)⟩
theorem snd_isi (h : XOk p cl lv cA N sc fn X W) {a : E} {T : TY} {t : Pt} (w : wfE N p sc fn (.isi a T) t = true) (ha : PE X (fE N p a (t.c 1)) (TmE X.K W (evE p cl a))) : PE X (fE N p (.isi a T) t) (TmE X.K W (evE p cl (.isi a T))) := by
  simp only [wfE, Bool.and_eq_true] at w
  have hT : PE X (.Name (tyN T) (t.c 2).p) (tC (.ty (tyT T))) := pe_bltn (u := .type (tyT T)) (gl_of h w.1.2) (h.g.tys T) (by cases T <;> decide +kernel) rfl (by cases T <;> decide) (by cases T <;> decide)
  refine PE_imp (pe_callB call_isi (gl_of h w.1.1) h.g.isi (by decide +kernel) (pa_cons ha (pa_cons hT pa_nil) (star_cons _ _ _ _)) (by decide) (by decide) (star_cons _ _ _ _)) fun σ H Q ht => ?_
  exact tm_op1 (r := fun x H Q => rIsi X.K [x, .ty (tyT T)] H Q) (fun x H Q ⟨O, d, w, tr, r, e, q⟩ => by
    cases e1 : isiD T d with
    | none => rw [e1] at e; cases e
    | some k =>
      rw [e1] at e; cases e
      obtain ⟨ty, h1, h2⟩ := isi_ok r e1
      exact ⟨x, .ty (tyT T), ty, .type (tyT T), k, rfl, .ty _, h1, h2, q _ _ (new_sh (X := X) (.bl _))⟩) ht

/-! ## an owned list is changed -/
theorem set_own {K : PySem.W.Frag} {B : Base} {O : OS} {σ : SS} {H : Hp} {env : Env} (F : FrameOk K B O σ H env) {i : Nat} {l : Bool} {xs ys : List D} {a : Addr} {vs ws : List V} (e : env.at i = .own l xs) (hs : σ[i]? = some (some (.ref a))) (ha : H a = some (.lst vs)) (r : RpL K O H ws ys) :
    Step σ env (env.set i (.own l ys)) O H O (upd H a (.lst ws)) ∧ FrameOk K B O σ (upd H a (.lst ws)) (env.set i (.own l ys)) := by
  have hi := F.slot i
  rw [e] at hi
  obtain ⟨b, us, g1, g2, g3, g4, g5⟩ := hi
  rw [hs] at g1; cases g1
  have ilt : i < env.length := Env.lt_of (by rw [e]; intro z; cases z)
  have k : Kept O H O (upd H a (.lst ws)) := ⟨fun b o n h => by rw [upd_ne (fun z => n (by rw [z]; exact g2))]; exact h, fun _ h => .inl h⟩
  have there : ∀ b, H b ≠ none → upd H a (.lst ws) b ≠ none := fun b h => by
    by_cases z : b = a
    · rw [z, upd_same]; exact fun z => nomatch z
    · rw [upd_ne z]; exact h
  have own_at : ∀ j m zs, Env.at (env.set i (.own l ys)) j = .own m zs → ∃ zs', env.at j = .own m zs' := fun j m zs h => by
    rw [Env.at_set] at h
    split at h
    · rename_i q
      cases h
      exact ⟨xs, by rw [← q.1]; exact e⟩
    · exact ⟨zs, h⟩
  refine ⟨⟨fun b o h n => by rw [upd_ne (fun z => n (by rw [z]; exact ⟨i, l, xs, e, hs⟩))]; exact h, fun _ h => h, fun _ h _ => h, fun b m => ?_⟩, ?_⟩
  · obtain ⟨j, m, zs, h1, h2⟩ := m
    obtain ⟨zs', h3⟩ := own_at j m zs h1
    exact ⟨j, m, zs', h3, h2⟩
  refine ⟨by rw [List.length_set]; exact F.len, fun j => ?_, fun j j' m m' zs zs' b h1 h2 h3 h4 => ?_, F.bo, fun b o h n => ?_, F.bw, F.bl, fun b h => there b (F.bt b h), fun b h => there b (F.ot b h)⟩
  · show SlotOk K B O σ _ j (Env.at (env.set i (.own l ys)) j)
    rw [Env.at_set]
    split
    · rename_i q
      obtain ⟨rfl, _⟩ := q
      exact ⟨a, ws, hs, g2, upd_same, r.kept k, g5⟩
    · rename_i q
      have hj := F.slot j
      cases q' : env.at j with
      | no => trivial
      | sh d =>
        rw [q'] at hj
        obtain ⟨v, c1, c2⟩ := hj
        exact ⟨v, c1, c2.kept k⟩
      | own m zs =>
        rw [q'] at hj
        obtain ⟨b, us', c1, c2, c3, c4, c5⟩ := hj
        refine ⟨b, us', c1, c2, ?_, c4.kept k, c5⟩
        rw [upd_ne]
        · exact c3
        · rintro rfl
          exact q ⟨F.inj i j _ _ _ _ b e q' hs c1, ilt⟩
  · obtain ⟨y1, e1⟩ := own_at j m zs h1
    obtain ⟨y2, e2⟩ := own_at j' m' zs' h2
    exact F.inj j j' _ _ _ _ b e1 e2 h3 h4
  · rw [upd_ne]
    · exact F.bh b o h n
    · rintro rfl
      cases l with
      | true => exact n i g5
      | false =>
        have g5' : B.H b = none := g5
        rw [h] at g5'; cases g5'
theorem slot_own {K : PySem.W.Frag} {B : Base} {O : OS} {σ : SS} {H : Hp} {env : Env} (F : FrameOk K B O σ H env) {i : Nat} {l : Bool} {xs : List D} (e : env.at i = .own l xs) : ∃ a vs, σ[i]? = some (some (.ref a)) ∧ O a ∧ H a = some (.lst vs) ∧ RpL K O H vs xs := by
  have hi := F.slot i
  rw [e] at hi
  obtain ⟨b, us, g1, g2, g3, g4, g5⟩ := hi
  exact ⟨b, us, g1, g2, g3, g4⟩
theorem base_name {x name : Str} {pos : Pos} {env : PySem.Env} {whole : Sem Value} : attributeBase (.Name x pos) name env whole = whole := rfl
theorem snd_pop (h : XOk p cl lv cA N sc fn X W) {i : Nat} {t : Pt} (w : wfE N p sc fn (.pop i) t = true) : PE X (fE N p (.pop i) t) (TmE X.K W (evE p cl (.pop i))) := by
  simp only [wfE, Bool.and_eq_true] at w
  refine PE_imp (pe_bmx0 (pe_v h w.2) base_name w.1) ?_
  rintro σ H Q ⟨B, O, env, F, hp⟩
  simp only [evE, popR] at hp
  cases e : env.at i with
  | no => rw [e] at hp; exact hp.elim
  | sh d => rw [e] at hp; exact hp.elim
  | own l xs =>
    rw [e] at hp
    dsimp only at hp
    obtain ⟨a, vs, hs, hO, ha, r⟩ := slot_own F e
    cases ey : xs.getLast? with
    | none => rw [ey] at hp; exact hp.elim
    | some y =>
      rw [ey] at hp
      have hy : xs[xs.length - 1]? = some y := by rw [← List.getLast?_eq_getElem?]; exact ey
      obtain ⟨v, hv, rv⟩ := r.get hy
      rw [← r.length] at hv
      have hL : H a = some (.lst vs) := ha
      obtain ⟨st, F'⟩ := set_own F e hs ha r.dropLast
      refine ⟨.ref a, hs, "list", "list.pop", rPop, PySem.F.plainAttrs_list, PySem.F.slot_list_pop, PySem.F.type_list_pop, mt_pop, tys_lst ha, a, vs, v, rfl, rfl, ha, hv, ?_⟩
      exact hp v O _ st F' ⟨rv.kept (st.kept F), trivial⟩
theorem snd_rvs (h : XOk p cl lv cA N sc fn X W) {i : Nat} {t : Pt} (w : wfE N p sc fn (.rvs i) t = true) : PE X (fE N p (.rvs i) t) (TmE X.K W (evE p cl (.rvs i))) := by
  simp only [wfE, Bool.and_eq_true] at w
  refine PE_imp (pe_bmx0 (pe_v h w.2) base_name w.1) ?_
  rintro σ H Q ⟨B, O, env, F, hp⟩
  simp only [evE, rvsR] at hp
  cases e : env.at i with
  | no => rw [e] at hp; exact hp.elim
  | sh d => rw [e] at hp; exact hp.elim
  | own l xs =>
    rw [e] at hp
    obtain ⟨a, vs, hs, hO, ha, r⟩ := slot_own F e
    obtain ⟨st, F'⟩ := set_own F e hs ha r.reverse
    refine ⟨.ref a, hs, "list", "list.reverse", rReverse, PySem.F.plainAttrs_list, PySem.F.slot_list_reverse, PySem.F.type_list_reverse, mt_reverse, tys_lst ha, a, vs, rfl, rfl, ha, ?_⟩
    exact hp .non O _ st F' ⟨.non, trivial⟩
theorem few_ok {e : E} {t t' : Pt} {es : List E} {i : Nat} {env : PySem.Env} {cpos : Pos} (h : (e :: es).length < 30) : ((backTo cpos (starEach (fE N p e t :: fEs N p es t' i) env)).all (fun x => !x.1) && (backToKw cpos (keywordEach [] env)).all (fun x => x.1.isSome)
      && decide ((fE N p e t :: fEs N p es t' i).length + ([] : List Keyword).length + (if ([] : List Keyword).isEmpty then 0 else 1) < 30)) = true := by
  rw [star_cons, star_es]
  have h2 : (fE N p e t :: fEs N p es t' i).length = (e :: es).length := by simp [fEs_length]
  rw [h2]
  simp [backTo, backToKw, keywordEach, h]
  simpa using h
theorem snd_app (h : XOk p cl lv cA N sc fn X W) {i : Nat} {e : E} {t : Pt} (w : wfE N p sc fn (.app i e) t = true) (ha : PE X (fE N p e (t.c 2)) (TmE X.K W (evE p cl e))) : PE X (fE N p (.app i e) t) (TmE X.K W (evE p cl (.app i e))) := by
  simp only [wfE, Bool.and_eq_true] at w
  refine PE_imp (pe_bmx (es := []) (pe_v h w.1.2) (pa_cons ha pa_nil (star_cons _ _ _ _)) base_name (few_ok (es := []) (t' := t) (i := 0) (by simp)) w.1.1 (star_cons _ _ _ _) rfl) ?_
  rintro σ H Q ⟨B, O, env, F, hp⟩
  simp only [evE, appR] at hp
  cases e0 : env.at i with
  | no => rw [e0] at hp; exact hp.elim
  | sh d => rw [e0] at hp; exact hp.elim
  | own l0 xs0 =>
    rw [e0] at hp
    dsimp only at hp
    obtain ⟨a, vs, hs, hO, ha, r⟩ := slot_own F e0
    refine ⟨.ref a, hs, "list", "list.append", rAppend, PySem.F.plainAttrs_list, PySem.F.slot_list_append, PySem.F.type_list_append, mt_append, tys_lst ha, B, O, env, F, Post.mono (Post.bind (ok1 := okV X.K B σ) hp) ?_⟩
    rintro x H1 ⟨v, e1, O1, _, s1, F1, k1, hp2⟩
    dsimp only at hp2
    cases es : shV v e1 with
    | none => rw [es] at hp2; exact hp2.elim
    | some q =>
      obtain ⟨d, e2⟩ := q
      rw [es] at hp2
      dsimp only at hp2
      obtain ⟨O2, s2, F2, rx⟩ := sh_ok F1 k1.1 es
      cases e3 : e2.at i with
      | no => rw [e3] at hp2; exact hp2.elim
      | sh d => rw [e3] at hp2; exact hp2.elim
      | own l xs =>
        rw [e3] at hp2
        dsimp only at hp2
        split at hp2
        · rename_i hl
          obtain ⟨a', vs', hs', hO', ha', r'⟩ := slot_own F2 e3
          rw [hs] at hs'; cases hs'
          obtain ⟨s3, F3⟩ := set_own F2 e3 hs ha' (r'.append (.cons rx .nil))
          refine ⟨a, vs', x, rfl, rfl, ha', by rw [r'.length, sizeLine_eq]; exact hl, ?_⟩
          exact hp2 .non O2 _ (s2.trans s3) F3 ⟨.non, trivial⟩
        · exact hp2.elim
theorem base_ok {o : E} {t : Pt} {name : Str} {env : PySem.Env} {whole : Sem Value} (w : wfE N p sc fn o t = true) : attributeBase (fE N p o t) name env whole = whole := by
  cases o with
  | call f es =>
    cases es with
    | nil => simp [wfE] at w
    | cons e es => rfl
  | bi b es =>
    cases es with
    | nil => simp [wfE] at w
    | cons e es => rfl
  | ofR b it => cases it <;> rfl
  | _ => rfl
theorem tm_meth {K : PySem.W.Frag} {g : Env → R Val} {g2 : Env → R (List Val)} {m : MT} {σ : SS} {H : Hp} {Q : VK}
    (h : TmE K W (fun env => (g env).bind fun v e1 => methR m v (rdV v e1) (g2 e1)) σ H Q) :
    TmE K W g σ H fun x H1 => ∃ O1 d1, Rt K O1 H1 x d1 ∧ sameK d1 d1 = true ∧ TmL K W g2 σ H1 fun xs H2 => ∃ O d ds w, Trk O H2 ∧ Rt K O H2 x d ∧ sameK d1 d = true ∧ Paired (Rt K O H2) xs ds ∧ methV m d ds = some w ∧ ∀ z H', NewV K O H2 H' w z → Q z H' := by
  obtain ⟨B, O, env, F, hp⟩ := h
  refine ⟨B, O, env, F, Post.mono (Post.bind (ok1 := okV K B σ) hp) ?_⟩
  rintro x H1 ⟨v, e1, O1, _, s1, F1, k1, hp2⟩
  dsimp only at hp2
  cases ed1 : rdV v e1 with
  | none => rw [ed1] at hp2; exact hp2.elim
  | some d1 =>
    rw [ed1] at hp2
    simp only [methR] at hp2
    split at hp2
    case isFalse => exact hp2.elim
    rename_i sk1
    refine ⟨O1, d1, rd_ok F1 k1.1 ed1, sk1, B, O1, e1, F1, Post.mono (Post.bind (ok1 := okL K σ) hp2) ?_⟩
    rintro xs H2 ⟨vs, e2, O2, _, s2, F2, pv, hp3⟩
    obtain ⟨w, hw, q⟩ := Post.at hp3
    have k1' : ValS K O2 σ H2 v x := k1.1.step F1 s2
    cases ed : rdV v e2 with
    | none => rw [ed] at hw; cases hw
    | some d =>
      rw [ed] at hw
      dsimp only [Option.bind_some] at hw
      split at hw
      · rename_i sk
        cases eds : rdAll vs e2 with
        | none => rw [eds] at hw; cases hw
        | some ds =>
          rw [eds] at hw
          exact ⟨O2, d, ds, w, F2.trk, rd_ok F2 k1' ed, sk, rdAll_ok F2 pv eds, hw, fun z H' n => post_new F2 q n⟩
      · cases hw
theorem meth_one {m : MT} {d : D} {ds : List D} {w : Val} (h : methV m d ds = some w) : ∃ x, ds = [x] := by
  rcases ds with _ | ⟨x, _ | ⟨y, r⟩⟩
  · cases m <;> cases d <;> simp [methV] at h
  · exact ⟨x, rfl⟩
  · cases m <;> cases d <;> simp [methV] at h
theorem snd_meth (h : XOk p cl lv cA N sc fn X W) {m : MT} {o : E} {es : List E} {t : Pt} (w : wfE N p sc fn (.meth m o es) t = true) (ho : PE X (fE N p o (t.c 0)) (TmE X.K W (evE p cl o))) (ha : PA X (fEs N p es t 2) (TmL X.K W (evEs p cl es))) :
    PE X (fE N p (.meth m o es) t) (TmE X.K W (evE p cl (.meth m o es))) := by
  simp only [wfE, Bool.and_eq_true, decide_eq_true_eq, Bool.not_eq_true'] at w
  obtain ⟨⟨⟨⟨⟨w0, w1⟩, w2⟩, w3⟩, w4⟩, w5⟩ := w
  cases es with
  | nil => cases w3
  | cons e es =>
    have ha' : PA X (fE N p e (t.c 2) :: fEs N p es t (2 + 1)) (TmL X.K W (evEs p cl (e :: es))) := ha
    refine PE_imp (pe_bmx (name := mtN m) ho ha' (base_ok w4) (few_ok w2) w1 (star_cons _ _ _ _) (star_any _ _ _ _ _)) fun σ H Q ht => ?_
    obtain ⟨B, O, env, F, hp⟩ := tm_meth (g := evE p cl o) (g2 := evEs p cl (e :: es)) ht
    refine ⟨B, O, env, F, hp.mono ?_⟩
    rintro x H1 ⟨O1, d1, r1, sk1, hq⟩
    cases d1 with
    | tup xs =>
      obtain ⟨a, vs, rfl, ta, _⟩ := r1.tup
      have fin : ∀ {id : String} {r : V → List V → Hp → VK → Prop}, PySem.Slot "tuple" (mtN m) id → typeOf (.builtin id) = pure (.type "method_descriptor") → MtR X id (rMethT X m .tup) → tBMX X (mtN m) (fun _ H Q => Q (.ref a) H) (TmL X.K W (evEs p cl (e :: es))) σ H1 Q := fun {id r} sl ty mr =>
        ⟨"tuple", id, rMethT X m .tup, PySem.F.plainAttrs_tuple, sl, ty, mr, tys_tup ta, by
          obtain ⟨B2, O2, env2, F2, hp2⟩ := hq
          refine ⟨B2, O2, env2, F2, hp2.mono ?_⟩
          rintro ys H2 ⟨O3, d, ds, w, tr, rd, sk, pr, e, q⟩
          obtain ⟨z, rfl⟩ := meth_one e
          cases d <;> simp only [sameK] at sk <;> first | cases sk | skip
          exact ⟨O3, _, z, w, tr, rd, pr, e, q⟩⟩
      cases m with
      | count => exact fin (r := fun _ _ _ _ => True) PySem.F.slot_tuple_count PySem.F.type_tuple_count (mt_count_tup h.units)
      | index => exact fin (r := fun _ _ _ _ => True) PySem.F.slot_tuple_index PySem.F.type_tuple_index (mt_index_tup h.units)
      | _ => cases w0
    | lst xs =>
      obtain ⟨a, vs, rfl, ta, _⟩ := r1.lst
      have fin : ∀ {id : String} {r : V → List V → Hp → VK → Prop}, PySem.Slot "list" (mtN m) id → typeOf (.builtin id) = pure (.type "method_descriptor") → MtR X id (rMethT X m .lst) → tBMX X (mtN m) (fun _ H Q => Q (.ref a) H) (TmL X.K W (evEs p cl (e :: es))) σ H1 Q := fun {id r} sl ty mr =>
        ⟨"list", id, rMethT X m .lst, PySem.F.plainAttrs_list, sl, ty, mr, tys_lst ta, by
          obtain ⟨B2, O2, env2, F2, hp2⟩ := hq
          refine ⟨B2, O2, env2, F2, hp2.mono ?_⟩
          rintro ys H2 ⟨O3, d, ds, w, tr, rd, sk, pr, e, q⟩
          obtain ⟨z, rfl⟩ := meth_one e
          cases d <;> simp only [sameK] at sk <;> first | cases sk | skip
          exact ⟨O3, _, z, w, tr, rd, pr, e, q⟩⟩
      cases m with
      | count => exact fin (r := fun _ _ _ _ => True) PySem.F.slot_list_count PySem.F.type_list_count (mt_count_lst h.units)
      | index => exact fin (r := fun _ _ _ _ => True) PySem.F.slot_list_index PySem.F.type_list_index (mt_index_lst h.units)
      | _ => cases w0
    | _ => cases sk1
end
end Lw
set_option linter.all false
set_option Elab.async false
set_option maxRecDepth 100000
set_option maxHeartbeats 1000000
namespace Lw
open PySem PySem.Spec L2
section
variable {p : Pg} {cl : Cl} {lv : Nat} {cA : Nat → Value} {N : List Str} {sc : Scope} {fn : Str → Bool} {X : Cx} {W : WN}
/-! ## targets -/
def setV (σ : SS) : List Nat → List V → SS
  | i :: is, v :: vs => setV (σ.set i (some v)) is vs
  | _, _ => σ
def gNs (ns : List Nat) : TGs := fun vs σ H Q => vs.length = ns.length ∧ Q (setV σ ns vs) H
theorem loc_of (h : XOk p cl lv cA N sc fn X W) {i : Nat} (w : wfS N sc fn i = true) : X.N[i]? = some (nmN N i) ∧ Loc X.env.scope (nmN N i) ∧ (X.fn (nmN N i) = true ∨ X.env.scope.names.lookup (nmN N i) = some .local) := by
  unfold wfS at w
  simp only [Bool.and_eq_true, decide_eq_true_eq] at w
  refine ⟨by rw [h.names]; exact nmN_get w.1, ?_, ?_⟩
  · have w2 := w.2
    rw [h.sc]
    split at w2
    · exact .inl (by assumption)
    · exact .inr (by assumption)
    · cases w2
  · have w2 := w.2
    rw [h.sc]
    split at w2
    · exact .inr (by assumption)
    · exact .inl (h.fn _ w2)
    · cases w2
theorem png_ns (h : XOk p cl lv cA N sc fn X W) : ∀ (ns : List Nat) (t : Pt) (i : Nat), ns.all (wfS N sc fn) = true → PGs X (fNs N ns t i) (gNs ns)
  | [], _, _, _ => ⟨fun pins s σ H vs us Q I r q => by
    obtain ⟨e, q⟩ := q
    have e' : vs = [] := List.eq_nil_of_length_eq_zero e
    exact pgs_nil.run pins s σ H vs us Q I r ⟨e', by subst e'; exact q⟩⟩
  | n :: ns, t, i, w => by
    simp only [List.all_cons, Bool.and_eq_true] at w
    obtain ⟨l1, l2, l3⟩ := loc_of h w.1
    have h1 : PG X (.Name (nmN N n) (t.c i).p) (gName n) := pg_name (by rw [h.names]; exact h.nd) l1 l2 l3
    have h2 := png_ns h ns t (i + 1) w.2
    refine ⟨fun pins s σ H vs us Q I r q => (pgs_cons h1 h2 rfl).run pins s σ H vs us Q I r ?_⟩
    obtain ⟨e, q⟩ := q
    cases vs with
    | nil => cases e
    | cons v vs => exact ⟨v, vs, rfl, by simpa using e, q⟩
theorem aE_len (ns : List Nat) (t : Pt) (i : Nat) (env : PySem.Env) : (assignEach (fNs N ns t i) env).length = ns.length ∧ (assignEach (fNs N ns t i) env).findIdx? (·.1) = none := by
  induction ns generalizing i with
  | nil => exact ⟨rfl, rfl⟩
  | cons n ns ih =>
    obtain ⟨h1, h2⟩ := ih (i + 1)
    have e : assignEach (fNs N (n :: ns) t i) env = (false, assign (.Name (nmN N n) (t.c i).p) env) :: assignEach (fNs N ns t (i + 1)) env := rfl
    rw [e]
    refine ⟨by rw [List.length_cons, h1, List.length_cons], ?_⟩
    rw [List.findIdx?_cons]
    simp [h2]
/-- a target's reading: the datum that is stored -/
def gD (K : PySem.W.Frag) (g : Tg) : TG := fun v σ H Q => match g with
  | .nm i => Q (σ.set i (some v)) H
  | .tup ns => ∃ a vs, v = .ref a ∧ SqT K H a vs ∧ vs.length = ns.length ∧ Q (setV σ ns vs) H
theorem png (h : XOk p cl lv cA N sc fn X W) {g : Tg} {t : Pt} (w : wfG N sc fn g = true) : PG X (fT N g t) (gD X.K g) := by
  cases g with
  | nm i =>
    obtain ⟨l1, l2, l3⟩ := loc_of h w
    exact pg_name (by rw [h.names]; exact h.nd) l1 l2 l3
  | tup ns =>
    have h1 := pg_tup (pos := t.p) (k := t.k) (n := ns.length) h.calm (png_ns h ns t 0 w) (aE_len ns t 0 _).1 (aE_len ns t 0 _).2
    refine ⟨fun pins s σ H v u Q I r q => h1.run pins s σ H v u Q I r ?_⟩
    obtain ⟨a, vs, e, sq, l, q⟩ := q
    exact ⟨a, vs, e, sq, l, l, q⟩

section
variable {K : PySem.W.Frag} {B : Base} {O O' : OS} {σ : SS} {H H' : Hp} {env e1 : Env}
theorem FrameOk.setVs : ∀ {ns : List Nat} {vs : List V} {ds : List D} {σ : SS} {env : Env}, FrameOk K B O σ H env → RpL K O H vs ds → FrameOk K B O (setV σ ns vs) H (setD env ns ds)
  | [], vs, ds, _, _, F, r => by cases r <;> exact F
  | i :: is, _, _, _, _, F, .nil => F
  | i :: is, _, _, _, _, F, .cons h t => (F.setSh h).setVs t
/-- what a turn is handed: a datum, or a new tuple that is unpacked at once -/
def YlOk (K : PySem.W.Frag) (O : OS) (H : Hp) (g : Tg) (x : V) (d : D) : Prop := Rp K O H x d ∨ ∃ ns a vs ds, g = .tup ns ∧ x = .ref a ∧ d = .tup ds ∧ SqT K H a vs ∧ RpL K O H vs ds
/-- a datum is bound -/
theorem bind_ok2 (F : FrameOk K B O σ H env) {g : Tg} {v : V} {d : D} {Q : SS → Hp → Prop} (r : YlOk K O H g v d) (e : bindD g d env = some e1) (q : ∀ σ', FrameOk K B O σ' H e1 → (∀ j, (match g with | .nm i => j ≠ i | .tup ns => j ∉ ns) → σ'[j]? = σ[j]?) → Q σ' H) : gD K g v σ H Q := by
  cases g with
  | nm i =>
    simp only [bindD] at e
    split at e
    · cases e
      rcases r with r | ⟨_, _, _, _, z, _⟩
      · exact q _ (F.setSh r) fun j hj => List.getElem?_set_ne (Ne.symm hj)
      · cases z
    · cases e
  | tup ns =>
    cases d <;> simp only [bindD] at e <;> first | cases e | skip
    split at e
    · rename_i hl
      cases e
      obtain ⟨b, vs, rfl, h1, h2⟩ : ∃ b vs, v = .ref b ∧ SqT K H b vs ∧ RpL K O H vs _ := by
        rcases r with r | ⟨_, b, vs, ds, _, e1, e2, h1, h2⟩
        · cases r with | tup h1 h2 => exact ⟨_, _, rfl, h1.sq, h2⟩
        · cases e2; exact ⟨b, vs, e1, h1, h2⟩
      · refine ⟨_, _, rfl, h1, by rw [h2.length]; exact hl.1, q _ (F.setVs h2) fun j hj => ?_⟩
        have gen : ∀ (ns : List Nat) (vs : List V) (σ : SS), j ∉ ns → (setV σ ns vs)[j]? = σ[j]? := by
          intro ns
          induction ns with
          | nil => intro vs σ _; cases vs <;> rfl
          | cons n ns ih =>
            intro vs σ hn
            simp only [List.mem_cons, not_or] at hn
            cases vs with
            | nil => rfl
            | cons v vs =>
              show (setV (σ.set n (some v)) ns vs)[j]? = _
              rw [ih vs _ hn.2, List.getElem?_set_ne (Ne.symm hn.1)]
        exact gen ns _ σ hj
    · cases e
end

/-! ## what is walked -/
/-- J goes through s -/
structure Walks (K : PySem.W.Frag) (B : Base) (σ0 : SS) (J : L2.It) (s : Src) (P : OS → Hp → Prop) (g : Tg) : Prop where
  lk : ∀ i l, s.lock = some (i, l) → ∃ a, J = Itl K a ∧ σ0[i]? = some (some (.ref a))
  stable : ∀ O H O' H', Kept O H O' H' → P O H → P O' H'
  walk : ∀ O H σ env, P O H → FrameOk K B O σ H env → (∀ i l, s.lock = some (i, l) → l = true ∨ σ[i]? = σ0[i]?) → s.held env = true → ∀ i,
    ((∀ d, s.xs[i]? = some d → J.go i H ∧ ∀ x H', J.yld i H x H' → Grow H H' ∧ YlOk K O H' g x d) ∧ (s.xs.length ≤ i → J.stop i H))
def TmI (K : PySem.W.Frag) (W : WN) (g : Tg) (f : Env → R Src) : TI := fun σ H R => ∃ B O env, FrameOk K B O σ H env ∧ Post K W B O σ H env (f env) (fun O' H' _ s J => ∃ P, P O' H' ∧ Walks K B σ J s P g) R
theorem yl_eq {K : PySem.W.Frag} {O : OS} {H H' : Hp} {g : Tg} {x : V} {d : D} (e : H' = H) (r : Rp K O H x d) : Grow H H' ∧ YlOk K O H' g x d := by subst e; exact ⟨.refl, .inl r⟩
theorem walk_tup {g : Tg} {K : PySem.W.Frag} {B : Base} {σ0 : SS} {a : Addr} {vs : List V} {xs : List D} : Walks K B σ0 (Itt K a) ⟨xs, none⟩ (fun O H => TupAt K O H a vs ∧ RpL K O H vs xs) g where
  lk := fun _ _ e => nomatch e
  stable := fun O H O' H' k ⟨h1, h2⟩ => ⟨h1.kept k, h2.kept k⟩
  walk := fun O H σ env ⟨h1, h2⟩ F _ _ i => by
    refine ⟨fun d hd => ?_, fun hl => ⟨vs, h1.sq, by rw [h2.length]; exact hl⟩⟩
    obtain ⟨v, hv, rv⟩ := h2.get hd
    exact ⟨⟨vs, v, h1.sq, hv⟩, fun x H' ⟨e, y⟩ => yl_eq e (by
      have e2 := y vs h1.sq
      rw [hv] at e2; cases e2
      exact rv)⟩
theorem walk_lst {g : Tg} {K : PySem.W.Frag} {B : Base} {σ0 : SS} {a : Addr} {xs : List D} : Walks K B σ0 (Itl K a) ⟨xs, none⟩ (fun O H => Rp K O H (.ref a) (.lst xs)) g where
  lk := fun _ _ e => nomatch e
  stable := fun O H O' H' k h => h.kept k
  walk := fun O H σ env h F _ _ i => by
    cases h with
    | @lst _ vs _ h0 h1 h2 =>
      refine ⟨fun d hd => ?_, fun hl => ⟨vs, .of h1, by rw [h2.length]; exact hl⟩⟩
      obtain ⟨v, hv, rv⟩ := h2.get hd
      exact ⟨⟨vs, v, .of h1, hv⟩, fun x H' ⟨e, y⟩ => yl_eq e (by
        have e2 := y vs (.of h1)
        rw [hv] at e2; cases e2
        exact rv)⟩
theorem walk_ro {g : Tg} {K : PySem.W.Frag} {B : Base} {σ0 : SS} {a : Addr} {xs : List D} : Walks K B σ0 (Itl K a) ⟨xs, none⟩ (fun O H => Rp K O H (.ref a) (.ro xs)) g where
  lk := fun _ _ e => nomatch e
  stable := fun O H O' H' k h => h.kept k
  walk := fun O H σ env h F _ _ i => by
    cases h with
    | @ro _ vs _ h1 h2 =>
      refine ⟨fun d hd => ?_, fun hl => ⟨vs, h1.sq, by rw [h2.length]; exact hl⟩⟩
      obtain ⟨v, hv, rv⟩ := h2.get hd
      exact ⟨⟨vs, v, h1.sq, hv⟩, fun x H' ⟨e, y⟩ => yl_eq e (by
        have e2 := y vs h1.sq
        rw [hv] at e2; cases e2
        exact rv)⟩
/-- a list of one's own -/
theorem walk_own {g : Tg} {K : PySem.W.Frag} {B : Base} {σ0 : SS} {a : Addr} {xs : List D} {i0 : Nat} {l0 : Bool} (hσ : σ0[i0]? = some (some (.ref a))) (hl : l0 = true → B.lent i0 = some a) : Walks K B σ0 (Itl K a) ⟨xs, some (i0, l0)⟩ (fun _ _ => True) g where
  lk := fun i l e => by cases e; exact ⟨a, rfl, hσ⟩
  stable := fun _ _ _ _ _ _ => trivial
  walk := fun O H σ env _ F hk hh i => by
    have hh' := hh
    simp only [Src.held] at hh'
    cases q : env.at i0 with
    | no => rw [q] at hh'; cases hh'
    | sh d => rw [q] at hh'; cases hh'
    | own m ys =>
      rw [q] at hh'
      simp only [Bool.and_eq_true, beq_iff_eq, decide_eq_true_eq] at hh'
      obtain ⟨rfl, rfl⟩ := hh'
      have hs := F.slot i0
      rw [q] at hs
      obtain ⟨b, vs, g1, g2, g3, g4, g5⟩ := hs
      have eb : b = a := by
        rcases hk i0 m rfl with e | e
        · subst e
          have g5' : B.lent i0 = some b := g5
          rw [hl rfl] at g5'; cases g5'; rfl
        · rw [g1, hσ] at e; cases e; rfl
      subst eb
      refine ⟨fun d hd => ?_, fun hl => ⟨vs, .of g3, by rw [g4.length]; exact hl⟩⟩
      obtain ⟨v, hv, rv⟩ := g4.get hd
      exact ⟨⟨vs, v, .of g3, hv⟩, fun x H' ⟨e, y⟩ => yl_eq e (by
        have e2 := y vs (.of g3)
        rw [hv] at e2; cases e2
        exact rv)⟩
theorem rangeL_get : ∀ (n : Nat) (lo : Int) (i : Nat), (rangeL lo n)[i]? = if i < n then some (.int (lo + i)) else none
  | 0, lo, i => by simp [rangeL]
  | n + 1, lo, 0 => by simp [rangeL]
  | n + 1, lo, i + 1 => by
    simp only [rangeL, List.getElem?_cons_succ, rangeL_get n (lo + 1) i]
    by_cases h : i < n
    · rw [if_pos h, if_pos (by omega)]
      congr 2
      omega
    · rw [if_neg h, if_neg (by omega)]
theorem rangeL_length : ∀ (n : Nat) (lo : Int), (rangeL lo n).length = n
  | 0, _ => rfl
  | n + 1, lo => by simp [rangeL, rangeL_length n (lo + 1)]
theorem walk_rng {g : Tg} {K : PySem.W.Frag} {B : Base} {σ0 : SS} {lo : Int} {n : Nat} : Walks K B σ0 (Itr lo n) ⟨rangeL lo n, none⟩ (fun _ _ => True) g where
  lk := fun _ _ e => nomatch e
  stable := fun _ _ _ _ _ _ => trivial
  walk := fun O H σ env _ F _ _ i => by
    refine ⟨fun d hd => ?_, fun hl => by rw [rangeL_length] at hl; exact hl⟩
    rw [rangeL_get] at hd
    split at hd
    · rename_i hi
      cases hd
      exact ⟨hi, fun x H' ⟨e, y⟩ => yl_eq e (by rw [y]; exact .int _)⟩
    · cases hd
end
end Lw
set_option linter.all false
set_option Elab.async false
set_option maxRecDepth 100000
set_option maxHeartbeats 1000000
namespace Lw
open PySem PySem.Spec L2
section
variable {p : Pg} {cl : Cl} {lv : Nat} {cA : Nat → Value} {N : List Str} {sc : Scope} {fn : Str → Bool} {X : Cx} {W : WN}
/-- a tuple or a list, walked -/
def iSeq (K : PySem.W.Frag) (te : TE) : TI := fun σ H R => te σ H fun x H1 => (∃ a vs, x = .ref a ∧ SqT K H1 a vs ∧ R (Itt K a) H1) ∨ (∃ a vs, x = .ref a ∧ SqL K H1 a vs ∧ R (Itl K a) H1)
theorem pi_seq {tg l : Expr} {te : TE} (hl : PE X l te) : PI X tg l (iSeq X.K te) := by
  refine ⟨fun pins s σ H R I h => thn (hl.run pins s σ H _ I h) fun v s1 ⟨x, H1, I1, r1, q1⟩ => ?_⟩
  have fresh : ∀ b ∈ [s1.heap.objs.size], FpOk X pins H1 b := fun b hb => by
    cases List.mem_singleton.mp hb
    exact I1.fpOk (Nat.le_refl _) (I1.hok.fresh (Nat.le_refl _))
  rcases q1 with ⟨a, vs, rfl, hq, q⟩ | ⟨a, vs, rfl, hq, q⟩
  · cases r1
    obtain ⟨its, rv, pl, hz⟩ := I1.tuple hq
    refine wpAny_pyIter_tuple (show s1.heap.IsTuple a its.toArray from pl) ⟨s1.heap.objs.size, [s1.heap.objs.size], _, _, H1, rfl, ?_, turn_tuple a _, ?_, fresh, q⟩
    · exact I1.kept (t' := s1.toks) fun b o e => Heap.get?_push_of_some _ e
    · exact ⟨_, Heap.get?_push_size _ rfl, rfl, rfl⟩
  · cases r1
    obtain ⟨its, rv, pl, hz⟩ := I1.list hq
    refine wpAny_pyIter_list pl.isList ⟨s1.heap.objs.size, [s1.heap.objs.size], _, _, H1, rfl, ?_, turn_list a _, ?_, fresh, q⟩
    · exact I1.kept (t' := s1.toks) fun b o e => Heap.get?_push_of_some _ e
    · exact ⟨_, Heap.get?_push_size _ rfl, rfl, rfl⟩
theorem PI_imp {tg l : Expr} {t t' : TI} (h : PI X tg l t) (i : ∀ σ H R, t' σ H R → t σ H R) : PI X tg l t' := ⟨fun pins s σ H R I q => h.run pins s σ H R I (i σ H R q)⟩
theorem sni_seq {g : Tg} {tg : Expr} {e : E} {t : Pt} (ha : PE X (fE N p e t) (TmE X.K W (evE p cl e))) : PI X tg (fI N p (.seq e) t) (TmI X.K W g (evI p cl (.seq e))) := by
  refine PI_imp (pi_seq ha) ?_
  rintro σ H R ⟨B, O, env, F, hp⟩
  refine ⟨B, O, env, F, Post.mono (Post.bind (ok1 := okV X.K B σ) hp) ?_⟩
  rintro x H1 ⟨v, e1, O1, _, s1, F1, k1, hp2⟩
  obtain ⟨w, hw, q⟩ := Post.at hp2
  have els : ∀ d, Rp X.K O1 H1 x d → (elsD d).map (fun xs => (⟨xs, none⟩ : Src)) = some w → (∃ a vs, x = .ref a ∧ SqT X.K H1 a vs ∧ R (Itt X.K a) H1) ∨ (∃ a vs, x = .ref a ∧ SqL X.K H1 a vs ∧ R (Itl X.K a) H1) := fun d r e => by
    cases d <;> simp only [elsD] at e <;> first | cases e | skip
    · cases r with
      | tup h1 h2 => exact .inl ⟨_, _, rfl, h1.sq, q _ O1 H1 .refl F1 ⟨_, ⟨h1, h2⟩, walk_tup⟩⟩
    · cases r with
      | lst h0 h1 h2 => exact .inr ⟨_, _, rfl, .of h1, q _ O1 H1 .refl F1 ⟨_, Rp.lst h0 h1 h2, walk_lst⟩⟩
    · cases r with
      | ro h1 h2 => exact .inr ⟨_, _, rfl, h1.sq, q _ O1 H1 .refl F1 ⟨_, Rp.ro h1 h2, walk_ro⟩⟩
  cases v with
  | sh d => exact els d k1.1 hw
  | fr xs =>
    cases hw
    have r : Rp X.K O1 H1 x (.lst xs) := k1.1
    cases r with
    | lst h0 h1 h2 => exact .inr ⟨_, _, rfl, .of h1, q _ O1 H1 .refl F1 ⟨_, Rp.lst h0 h1 h2, walk_lst⟩⟩
  | bor i =>
    have hx : σ[i]? = some (some x) := k1.1
    have hs := F1.slot i
    simp only [srcOf] at hw
    cases e : e1.at i with
    | no => rw [e] at hw; cases hw
    | sh d =>
      rw [e] at hw hs
      obtain ⟨y, g1, g2⟩ := hs
      rw [hx] at g1; cases g1
      exact els d g2 hw
    | own l xs =>
      rw [e] at hw hs
      cases hw
      obtain ⟨a, vs, g1, g2, g3, g4, g5⟩ := hs
      rw [hx] at g1; cases g1
      refine .inr ⟨a, vs, rfl, .of g3, q _ O1 H1 .refl F1 ⟨fun _ _ => True, trivial, walk_own hx fun e => ?_⟩⟩
      subst e
      exact g5
theorem rng_ok {K : PySem.W.Frag} {O : OS} {H : Hp} {xs : List V} {ds ys : List D} (r : Paired (Rt K O H) xs ds) (e : rngD ds = some ys) :
    (∃ n, xs = [.int n] ∧ ds.length = 1 ∧ -(2 ^ 62) ≤ n ∧ n < 2 ^ 62 ∧ ys = rangeL 0 n.toNat) ∨ (∃ a b, xs = [.int a, .int b] ∧ ds.length = 2 ∧ (-(2 ^ 62) ≤ a ∧ a < 2 ^ 62 ∧ -(2 ^ 62) ≤ b ∧ b < 2 ^ 62) ∧ ys = rangeL a (b - a).toNat) := by
  rcases ds with _ | ⟨d, _ | ⟨d2, _ | ⟨d3, ds⟩⟩⟩
  · simp [rngD] at e
  · cases d <;> simp only [rngD] at e <;> first | cases e | skip
    obtain ⟨x, rfl, rx⟩ := fa1 r
    have := rx.int; subst this
    split at e
    · rename_i h
      cases e
      exact .inl ⟨_, rfl, rfl, h.1, h.2, rfl⟩
    · cases e
  · cases d <;> simp only [rngD] at e <;> first | cases e | skip
    cases d2 <;> simp only [rngD] at e <;> first | cases e | skip
    obtain ⟨x, y, rfl, rx, ry⟩ := fa2 r
    have := rx.int; subst this
    have := ry.int; subst this
    split at e
    · rename_i h
      cases e
      exact .inr ⟨_, _, rfl, rfl, h, rfl⟩
    · cases e
  · cases d <;> cases d2 <;> simp [rngD] at e
theorem evEs_length : ∀ {es : List E} {env e : Env} {vs : List Val}, evEs p cl es env = .ok vs e → vs.length = es.length
  | [], _, _, _, h => by simp only [evEs] at h; cases h; rfl
  | e :: es, _, _, _, h => by
    simp only [evEs] at h
    obtain ⟨v, e1, _, h⟩ := bind_inv h
    obtain ⟨vs, e2, h2, h⟩ := bind_inv h
    cases h
    rw [List.length_cons, List.length_cons, evEs_length h2]
theorem sni_rng (h : XOk p cl lv cA N sc fn X W) {g : Tg} {tg : Expr} {es : List E} {t : Pt} (w : wfI N p sc fn (.rng es) t = true) (ha : PA X (fEs N p es t 1) (TmL X.K W (evEs p cl es))) : PI X tg (fI N p (.rng es) t) (TmI X.K W g (evI p cl (.rng es))) := by
  simp only [wfI, Bool.and_eq_true, decide_eq_true_eq] at w
  obtain ⟨⟨⟨w1, w2⟩, w3⟩, w4⟩ := w
  have go : ∀ {R : L2.It → Hp → Prop} {σ : SS} {H : Hp}, TmI X.K W g (evI p cl (.rng es)) σ H R → TmL X.K W (evEs p cl es) σ H fun xs H1 => xs.length = es.length ∧ (
      (∃ n, xs = [.int n] ∧ -(2 ^ 62) ≤ n ∧ n < 2 ^ 62 ∧ R (Itr 0 n.toNat) H1) ∨ (∃ a b, xs = [.int a, .int b] ∧ (-(2 ^ 62) ≤ a ∧ a < 2 ^ 62 ∧ -(2 ^ 62) ≤ b ∧ b < 2 ^ 62) ∧ R (Itr a (b - a).toNat) H1)) := by
    rintro R σ H ⟨B, O, env, F, hp⟩
    refine ⟨B, O, env, F, Post.mono (Post.bind (ok1 := okL X.K σ) hp) ?_⟩
    rintro xs H1 ⟨vs, e1, O1, ev, s1, F1, pv, hp2⟩
    refine ⟨by rw [← Paired.length pv]; exact evEs_length ev, ?_⟩
    obtain ⟨s, hs, q⟩ := Post.at hp2
    cases ed : rdAll vs e1 with
    | none => rw [ed] at hs; cases hs
    | some ds =>
      rw [ed] at hs
      dsimp only [Option.bind_some] at hs
      cases ey : rngD ds with
      | none => rw [ey] at hs; cases hs
      | some ys =>
        rw [ey] at hs; cases hs
        rcases rng_ok (rdAll_ok F1 pv ed) ey with ⟨n, e1, _, h1, h2, e2⟩ | ⟨a, b, e1, _, hb, e2⟩
        · subst e2
          exact .inl ⟨n, e1, h1, h2, q _ O1 H1 .refl F1 ⟨fun _ _ => True, trivial, walk_rng⟩⟩
        · subst e2
          exact .inr ⟨a, b, e1, hb, q _ O1 H1 .refl F1 ⟨fun _ _ => True, trivial, walk_rng⟩⟩
  rcases es with _ | ⟨e, _ | ⟨e2, _ | ⟨e3, es⟩⟩⟩
  · exact absurd w2 (by simp)
  · refine PI_imp (pi_range1 (gl_of h w1) h.g.rng ha (by exact star_cons _ _ _ _)) fun σ H R ht => ?_
    obtain ⟨B, O, env, F, hp⟩ := go ht
    refine ⟨B, O, env, F, hp.mono ?_⟩
    rintro xs H1 ⟨hl, ⟨n, e, h1, h2, q⟩ | ⟨a, b, e, _⟩⟩
    · exact ⟨n, e, h1, h2, q⟩
    · rw [e] at hl; cases hl
  · refine PI_imp (pi_range2 (gl_of h w1) h.g.rng ha (by rw [star_cons, star_cons]; rfl) (by exact star_cons _ _ _ _)) fun σ H R ht => ?_
    obtain ⟨B, O, env, F, hp⟩ := go ht
    refine ⟨B, O, env, F, hp.mono ?_⟩
    rintro xs H1 ⟨hl, ⟨n, e, _⟩ | ⟨a, b, e, hb, q⟩⟩
    · rw [e] at hl; cases hl
    · exact ⟨a, b, e, hb, q⟩
  · exact absurd w3 (by simp)
/-! ## zip -/
theorem zipD_at {xs ys : List D} {i : Nat} {d : D} (h : (zipD xs ys)[i]? = some d) : ∃ x y, xs[i]? = some x ∧ ys[i]? = some y ∧ d = .tup [x, y] := by
  unfold zipD at h
  rw [List.getElem?_map] at h
  cases e : (xs.zip ys)[i]? with
  | none => rw [e] at h; cases h
  | some q =>
    rw [e] at h; cases h
    obtain ⟨x, y⟩ := q
    rw [List.getElem?_zip_eq_some] at e
    exact ⟨x, y, e.1, e.2, rfl⟩
theorem walk_zip {K : PySem.W.Frag} {B : Base} {σ0 : SS} {a b : Addr} {vs ws : List V} {xs ys : List D} {ns : List Nat} : Walks K B σ0 (RZ.ItzT K a b) ⟨zipD xs ys, none⟩ (fun O H => (TupAt K O H a vs ∧ RpL K O H vs xs) ∧ TupAt K O H b ws ∧ RpL K O H ws ys) (.tup ns) where
  lk := fun _ _ e => nomatch e
  stable := fun O H O' H' k ⟨⟨h1, h2⟩, h3, h4⟩ => ⟨⟨h1.kept k, h2.kept k⟩, h3.kept k, h4.kept k⟩
  walk := fun O H σ env ⟨⟨h1, h2⟩, h3, h4⟩ F _ _ i => by
    refine ⟨fun d hd => ?_, fun hl => ⟨vs, ws, h1.sq, h3.sq, ?_⟩⟩
    · obtain ⟨x, y, hx, hy, rfl⟩ := zipD_at hd
      obtain ⟨v, hv, rv⟩ := h2.get hx
      obtain ⟨u, hu, ru⟩ := h4.get hy
      refine ⟨⟨vs, ws, v, u, h1.sq, h3.sq, hv, hu⟩, ?_⟩
      rintro z H' ⟨T, v', u', rfl, hT, rfl, g1, g2⟩
      have e1 := g1 vs h1.sq
      have e2 := g2 ws h3.sq
      rw [hv] at e1; cases e1
      rw [hu] at e2; cases e2
      have gr : Grow H (upd H T (.tup [v, u])) := Grow.upd hT
      have kk : Kept O H O (upd H T (.tup [v, u])) := gr.kept fun _ _ h _ => h
      exact ⟨gr, .inr ⟨ns, T, [v, u], [x, y], rfl, rfl, rfl, .inl (.inl upd_same), .cons (rv.kept kk) (.cons (ru.kept kk) .nil)⟩⟩
    · have e1 := h2.length
      have e2 := h4.length
      have hl : (zipD xs ys).length ≤ i := hl
      unfold zipD at hl
      rw [List.length_map, List.length_zip] at hl
      omega
theorem sni_zip (h : XOk p cl lv cA N sc fn X W) {ns : List Nat} {a b : E} {t t' : Pt} (w : wfI N p sc fn (.zip a b) t = true) (ha : PA X (fEs N p [a, b] t 1) (TmL X.K W (evEs p cl [a, b]))) : PI X (fT N (.tup ns) t') (fI N p (.zip a b) t) (TmI X.K W (.tup ns) (evI p cl (.zip a b))) := by
  simp only [wfI, Bool.and_eq_true] at w
  refine PI_imp (RZ.pi_zipA (gl_of h w.1.1) h.g.zip ha (by exact star_cons _ _ _ _) (by exact star_any [b] t 2 _ _)) fun σ H R ht => ?_
  obtain ⟨B, O, env, F, hp⟩ := ht
  have eq : evI p cl (.zip a b) env = (evEs p cl [a, b] env).bind fun vs e => match vs with
      | [.sh (.tup xs), .sh (.tup ys)] => .ok ⟨zipD xs ys, none⟩ e
      | _ => .bad := by
    simp only [evI, evEs]
    cases evE p cl a env with
    | bad => rfl
    | exc c e => rfl
    | ok v e1 =>
      simp only [Lw.R.bind]
      cases evE p cl b e1 with
      | bad => rfl
      | exc c e => rfl
      | ok v2 e2 =>
        simp only [Lw.R.bind]
        cases v with
        | sh d => cases v2 with
          | sh d2 => cases d <;> cases d2 <;> rfl
          | fr _ => cases d <;> rfl
          | bor _ => cases d <;> rfl
        | fr _ => rfl
        | bor _ => rfl
  rw [eq] at hp
  refine ⟨B, O, env, F, Post.mono (Post.bind (ok1 := okL X.K σ) hp) ?_⟩
  rintro us H1 ⟨vs, e1, O1, ev, s1, F1, pv, hp2⟩
  have go : ∀ xs ys, vs = [.sh (.tup xs), .sh (.tup ys)] → ∃ a b xs ys, us = [.ref a, .ref b] ∧ ((SqL X.K H1 a xs ∧ SqL X.K H1 b ys ∧ R (Itz X.K a b) H1) ∨ (SqT X.K H1 a xs ∧ SqT X.K H1 b ys ∧ R (RZ.ItzT X.K a b) H1)) := by
    rintro xs ys rfl
    have q := hp2
    have pr := rdAll_ok F1 pv (show rdAll [.sh (.tup xs), .sh (.tup ys)] e1 = some [.tup xs, .tup ys] from rfl)
    cases pr with
    | cons r1 pr =>
      cases pr with
      | cons r2 pr =>
        cases pr
        obtain ⟨a1, v1, rfl, t1, l1⟩ := r1.tup
        obtain ⟨a2, v2, rfl, t2, l2⟩ := r2.tup
        exact ⟨a1, a2, v1, v2, rfl, .inr ⟨t1.sq, t2.sq, q _ O1 H1 .refl F1 ⟨_, ⟨⟨t1, l1⟩, t2, l2⟩, walk_zip⟩⟩⟩
  rcases vs with _ | ⟨v1, _ | ⟨v2, _ | ⟨v3, r⟩⟩⟩
  · exact hp2.elim
  · cases v1 with
    | sh d => cases d <;> exact hp2.elim
    | fr _ => exact hp2.elim
    | bor _ => exact hp2.elim
  · cases v1 with
    | sh d =>
      cases v2 with
      | sh d2 =>
        cases d <;> first | exact hp2.elim | skip
        cases d2 <;> first | exact hp2.elim | skip
        exact go _ _ rfl
      | fr _ => cases d <;> exact hp2.elim
      | bor _ => cases d <;> exact hp2.elim
    | fr _ => exact hp2.elim
    | bor _ => exact hp2.elim
  · cases v1 with
    | sh d =>
      cases v2 with
      | sh d2 =>
        cases d <;> first | exact hp2.elim | skip
        cases d2 <;> exact hp2.elim
      | fr _ => cases d <;> exact hp2.elim
      | bor _ => cases d <;> exact hp2.elim
    | fr _ => exact hp2.elim
    | bor _ => exact hp2.elim
end
end Lw
set_option linter.all false
set_option Elab.async false
set_option maxRecDepth 100000
set_option maxHeartbeats 1000000
namespace Lw
open PySem PySem.Spec L2
section
variable {K : PySem.W.Frag} {B : Base} {O O' : OS} {σ : SS} {H H' : Hp} {env e1 : Env}
/-! ## a block's own names -/
theorem wipeE_at : ∀ {own : List Nat} {env : Env} {j : Nat}, (wipeE own env).at j = if j ∈ own then .no else env.at j
  | [], env, j => by simp [wipeE]
  | i :: is, env, j => by
    show Env.at ((wipeE is env).set i .no) j = _
    rw [Env.at_set, wipeE_at (own := is)]
    by_cases hj : i = j
    · subst hj
      by_cases hl : i < (wipeE is env).length
      · rw [if_pos ⟨rfl, hl⟩, if_pos List.mem_cons_self]
      · rw [if_neg (fun z => hl z.2), if_pos List.mem_cons_self]
        have := Env.at_none (env := wipeE is env) (i := i) (by omega)
        rw [wipeE_at] at this
        exact this
    · rw [if_neg (fun z => hj z.1)]
      by_cases hm : j ∈ is
      · rw [if_pos hm, if_pos (List.mem_cons_of_mem _ hm)]
      · rw [if_neg hm, if_neg (by simp only [List.mem_cons, not_or]; exact ⟨Ne.symm hj, hm⟩)]
theorem wipeE_length : ∀ {own : List Nat} {env : Env}, (wipeE own env).length = env.length
  | [], _ => rfl
  | i :: is, env => by simp [wipeE, wipeE_length (own := is)]
theorem restE_length : ∀ {own : List Nat} {env0 env : Env}, (restE own env0 env).length = env.length
  | [], _, _ => rfl
  | i :: is, env0, env => by simp [restE, restE_length (own := is)]
theorem restE_at : ∀ {own : List Nat} {env0 env : Env} {j : Nat}, env0.length = env.length → (restE own env0 env).at j = if j ∈ own then env0.at j else env.at j
  | [], env0, env, j, _ => by simp [restE]
  | i :: is, env0, env, j, h => by
    show Env.at ((restE is env0 env).set i (env0.at i)) j = _
    rw [Env.at_set, restE_at (own := is) h]
    by_cases hj : i = j
    · subst hj
      by_cases hl : i < (restE is env0 env).length
      · rw [if_pos ⟨rfl, hl⟩, if_pos List.mem_cons_self]
      · rw [if_neg (fun z => hl z.2), if_pos List.mem_cons_self]
        rw [restE_length] at hl
        by_cases hm : i ∈ is
        · rw [if_pos hm]
        · rw [if_neg hm, Env.at_none (env := env) (by omega), Env.at_none (env := env0) (by omega)]
    · rw [if_neg (fun z => hj z.1)]
      by_cases hm : j ∈ is
      · rw [if_pos hm, if_pos (List.mem_cons_of_mem _ hm)]
      · rw [if_neg hm, if_neg (by simp only [List.mem_cons, not_or]; exact ⟨Ne.symm hj, hm⟩)]
theorem wipe_at : ∀ {own : List Nat} {j : Nat}, j ∉ own → (wipe σ own)[j]? = σ[j]?
  | [], _, _ => rfl
  | i :: is, j, h => by
    simp only [List.mem_cons, not_or] at h
    show ((wipe σ is).set i none)[j]? = _
    rw [List.getElem?_set_ne (Ne.symm h.1), wipe_at h.2]
theorem FrameOk.wipe (F : FrameOk K B O σ H env) (own : List Nat) : FrameOk K B O (L2.wipe σ own) H (wipeE own env) := by
  induction own with
  | nil => exact F
  | cons i is ih => exact ih.setNo i none
/-- a block's frame, seen from outside again -/
theorem FrameOk.back {own : List Nat} {σ2 : SS} {e2 : Env} (F : FrameOk K B O σ H env) (F2 : FrameOk K B O' σ2 H' e2) (hσ : L2.wipe σ2 own = L2.wipe σ own) (st : Step (L2.wipe σ own) (wipeE own env) e2 O H O' H') (hm : ∀ a, Mine σ2 e2 a → Mine (L2.wipe σ own) (wipeE own env) a)
    (hlen : e2.length = env.length) : FrameOk K B O' σ H' (restE own env e2) ∧ Step σ env (restE own env e2) O H O' H' := by
  have sgo : ∀ j, j ∉ own → σ2[j]? = σ[j]? := fun j hj => by rw [← wipe_at (σ := σ2) hj, hσ, wipe_at hj]
  have wm : ∀ a, Mine (L2.wipe σ own) (wipeE own env) a → Mine σ env a := fun a ⟨i, l, xs, h1, h2⟩ => by
    rw [wipeE_at] at h1
    split at h1
    · cases h1
    · rename_i hi
      exact ⟨i, l, xs, h1, by rw [← wipe_at (σ := σ) hi]; exact h2⟩
  -- an own slot's list is no list of the block
  have notw : ∀ i l xs a, i ∈ own → env.at i = .own l xs → σ[i]? = some (some (.ref a)) → ¬ Mine (L2.wipe σ own) (wipeE own env) a := fun i l xs a hi h1 h2 ⟨j, l', ys, g1, g2⟩ => by
    rw [wipeE_at] at g1
    split at g1
    · cases g1
    · rename_i hj
      rw [wipe_at hj] at g2
      have := F.inj i j _ _ _ _ a h1 g1 h2 g2
      subst this
      exact hj hi
  have Fw := F.wipe own
  have k : Kept O H O' H' := ⟨fun c o n h => st.keep c o h fun m => n (F.mine (wm c m)), fun c h => .inl (st.own c h)⟩
  have at_ : ∀ j, (restE own env e2).at j = if j ∈ own then env.at j else e2.at j := fun j => restE_at hlen.symm
  refine ⟨⟨by rw [restE_length, hlen]; exact F.len, fun j => ?_, fun i j l m xs ys a h1 h2 h3 h4 => ?_, F2.bo, F2.bh, F.bw, F.bl, F2.bt, F2.ot⟩, ⟨fun a o h n => st.keep a o h fun m => n (wm a m), st.own, fun a h n => st.stay a h fun m => n (wm a m), fun a ⟨j, l, xs, h1, h2⟩ => ?_⟩⟩
  · rw [at_]
    split
    · rename_i hj
      have hs := F.slot j
      cases q : env.at j with
      | no => trivial
      | sh d =>
        rw [q] at hs
        obtain ⟨v, g1, g2⟩ := hs
        exact ⟨v, g1, g2.kept k⟩
      | own l xs =>
        rw [q] at hs
        obtain ⟨a, vs, g1, g2, g3, g4, g5⟩ := hs
        have nm := notw j l xs a hj q g1
        exact ⟨a, vs, g1, st.stay a g2 nm, st.keep a _ g3 nm, g4.kept k, g5⟩
    · rename_i hj
      have hs := F2.slot j
      cases q : e2.at j with
      | no => trivial
      | sh d =>
        rw [q] at hs
        obtain ⟨v, g1, g2⟩ := hs
        exact ⟨v, by rw [← sgo j hj]; exact g1, g2⟩
      | own l xs =>
        rw [q] at hs
        obtain ⟨a, vs, g1, g2⟩ := hs
        exact ⟨a, vs, by rw [← sgo j hj]; exact g1, g2⟩
  · rw [at_] at h1 h2
    split at h1
    · rename_i hi
      split at h2
      · exact F.inj i j l m xs ys a h1 h2 h3 h4
      · rename_i hj
        exact absurd (hm a ⟨j, m, ys, h2, by rw [sgo j hj]; exact h4⟩) (notw i l xs a hi h1 h3)
    · rename_i hi
      split at h2
      · rename_i hj
        exact absurd (hm a ⟨i, l, xs, h1, by rw [sgo i hi]; exact h3⟩) (notw j m ys a hj h2 h4)
      · rename_i hj
        exact F2.inj i j l m xs ys a h1 h2 (by rw [sgo i hi]; exact h3) (by rw [sgo j hj]; exact h4)
  · rw [at_] at h1
    split at h1
    · exact ⟨j, l, xs, h1, h2⟩
    · rename_i hj
      exact wm a (hm a ⟨j, l, xs, h1, by rw [sgo j hj]; exact h2⟩)
end
end Lw
set_option linter.all false
set_option Elab.async false
set_option maxRecDepth 100000
set_option maxHeartbeats 1000000
namespace Lw
open PySem PySem.Spec L2
section
variable {K : PySem.W.Frag} {B : Base} {O O' : OS} {σ σ2 : SS} {H H' : Hp} {env e1 : Env}
/-- an owned list that no slot has is changed -/
theorem FrameOk.put (F : FrameOk K B O σ H env) {D : Addr} {o : HO} (hD : O D) (hB : B.H D = none) (hm : ¬ Mine σ env D) : FrameOk K B O σ (upd H D o) env := by
  have k : Kept O H O (upd H D o) := ⟨fun a u n e => by rw [upd_ne (fun z => n (by rw [z]; exact hD))]; exact e, fun _ h => .inl h⟩
  have there : ∀ a, H a ≠ none → upd H D o a ≠ none := fun a h => by
    by_cases q : a = D
    · rw [q, upd_same]; exact fun z => nomatch z
    · rw [upd_ne q]; exact h
  refine ⟨F.len, fun i => ?_, F.inj, F.bo, fun a u e n => ?_, F.bw, F.bl, fun a h => there a (F.bt a h), fun a h => there a (F.ot a h)⟩
  · have hs := F.slot i
    cases q : env.at i with
    | no => trivial
    | sh d =>
      rw [q] at hs
      obtain ⟨v, h1, h2⟩ := hs
      exact ⟨v, h1, h2.kept k⟩
    | own l xs =>
      rw [q] at hs
      obtain ⟨a, vs, h1, h2, h3, h4, h5⟩ := hs
      have ne : a ≠ D := fun z => hm (by rw [← z]; exact ⟨i, l, xs, q, h1⟩)
      exact ⟨a, vs, h1, h2, by rw [upd_ne ne]; exact h3, h4.kept k, h5⟩
  · have ne : a ≠ D := fun z => by rw [z, hB] at e; cases e
    rw [upd_ne ne]
    exact F.bh a u e n
theorem setD_own : ∀ {ns : List Nat} {ds : List D} {env : Env} {j : Nat} {l : Bool} {xs : List D}, (setD env ns ds).at j = .own l xs → env.at j = .own l xs
  | [], ds, env, _, _, _, h => by cases ds <;> exact h
  | n :: ns, [], _, _, _, _, h => h
  | n :: ns, d :: ds, env, j, l, xs, h => by
    have h2 := setD_own (ns := ns) (ds := ds) h
    rw [Env.at_set] at h2
    split at h2
    · cases h2
    · exact h2
theorem bindD_own {g : Tg} {d : D} {j : Nat} {l : Bool} {xs : List D} (e : bindD g d env = some e1) (h : e1.at j = .own l xs) : env.at j = .own l xs := by
  cases g with
  | nm i =>
    simp only [bindD] at e
    split at e
    · cases e
      rw [Env.at_set] at h
      split at h
      · cases h
      · exact h
    · cases e
  | tup ns =>
    cases d <;> simp only [bindD] at e <;> first | cases e | skip
    split at e
    · cases e
      exact setD_own h
    · cases e
theorem wipe_at2 {own : List Nat} {j : Nat} (h : j ∈ own) : (wipe σ own)[j]? = if j < σ.length then some none else none := by
  induction own with
  | nil => cases h
  | cons i is ih =>
    show ((wipe σ is).set i none)[j]? = _
    by_cases q : i = j
    · subst q
      by_cases hl : i < σ.length
      · rw [List.getElem?_set_self (by rw [wipe_length]; exact hl), if_pos hl]
      · rw [if_neg hl, List.getElem?_eq_none (by rw [List.length_set, wipe_length]; omega)]
    · rw [List.getElem?_set_ne q, ih]
      rcases List.mem_cons.mp h with z | z
      · exact absurd z.symm q
      · exact z
theorem wipe_eq {own : List Nat} (hl : σ2.length = σ.length) (h : ∀ j, j ∉ own → σ2[j]? = (wipe σ own)[j]?) : wipe σ2 own = wipe σ own := by
  apply List.ext_getElem?
  intro j
  by_cases q : j ∈ own
  · rw [wipe_at2 q, wipe_at2 q, hl]
  · rw [wipe_at q, h j q]
end
section
variable {p : Pg} {cl : Cl} {lv : Nat} {cA : Nat → Value} {N : List Str} {sc : Scope} {fn : Str → Bool} {X : Cx} {W : WN}
abbrev W0 : WN := fun _ _ _ => False
def ttC (K : PySem.W.Frag) : Option (Env → R Bool) → TT
  | none => tYes
  | some c => TmB K W0 c
def inTg (own : List Nat) : Tg → Prop
  | .nm i => i ∈ own
  | .tup ns => ∀ n ∈ ns, n ∈ own
/-- a turn, seen from outside -/
theorem turn_ok {K : PySem.W.Frag} {own : List Nat} {tg : Tg} {cond : Option (Env → R Bool)} {elt : Env → R Val} {B : Base} {O : OS} {σ : SS} {H : Hp} {env : Env} {x : V} {d : D} {Q : Option V → Hp → Prop} (hin : inTg own tg) (F : FrameOk K B O σ H env) (r : YlOk K O H tg x d)
    (h : ∃ o e', turnC own tg cond elt d env = .ok o e' ∧ ∀ y O' H', Step σ env e' O H O' H' → FrameOk K B O' σ H' e' → (match o, y with | none, none => True | some a, some b => Rp K O' H' b a | _, _ => False) → Q y H') :
    gD K tg x (wipe σ own) H fun σ2 H2 => wipe σ2 own = wipe σ own ∧ ttC K cond σ2 H2 fun b H3 => if b = true then TmE K W0 elt σ2 H3 fun y H4 => Q (some y) H4 else Q none H3 := by
  obtain ⟨o, e', ht, q⟩ := h
  have Fw := F.wipe own
  simp only [turnC] at ht
  cases eb : bindD tg d (wipeE own env) with
  | none => rw [eb] at ht; cases ht
  | some en =>
    rw [eb] at ht
    dsimp only at ht
    refine bind_ok2 Fw r eb fun σ2 F2 same => ?_
    have same' : ∀ j, j ∉ own → σ2[j]? = (wipe σ own)[j]? := fun j hj => same j (by
      cases tg with
      | nm i => exact fun z => hj (z ▸ hin)
      | tup ns => exact fun z => hj (hin j z))
    have enl : en.length = env.length := by
      have gen : ∀ (ns : List Nat) (ds : List D) (e : Env), (setD e ns ds).length = e.length := by
        intro ns
        induction ns with
        | nil => intro ds e; cases ds <;> rfl
        | cons n ns ih =>
          intro ds e
          cases ds with
          | nil => rfl
          | cons d ds =>
            show (setD (e.set n (.sh d)) ns ds).length = _
            rw [ih, List.length_set]
      cases tg with
      | nm i =>
        simp only [bindD] at eb
        split at eb
        · cases eb; rw [List.length_set, wipeE_length]
        · cases eb
      | tup ns =>
        cases d <;> simp only [bindD] at eb <;> first | cases eb | skip
        split at eb
        · cases eb; rw [gen, wipeE_length]
        · cases eb
    have hl2 : σ2.length = σ.length := by rw [F2.len, enl, F.len]
    have hw : wipe σ2 own = wipe σ own := wipe_eq hl2 same'
    have m0 : ∀ a, Mine σ2 en a → Mine (wipe σ own) (wipeE own env) a := fun a ⟨j, l, xs, h1, h2⟩ => by
      have h3 := bindD_own eb h1
      have hj : j ∉ own := fun z => by rw [wipeE_at, if_pos z] at h3; cases h3
      exact ⟨j, l, xs, h3, by rw [← same' j hj]; exact h2⟩
    have up : ∀ {ex : Env} {O2 : OS} {H2 : Hp}, Step σ2 en ex O H O2 H2 → FrameOk K B O2 σ2 H2 ex → FrameOk K B O2 σ H2 (restE own env ex) ∧ Step σ env (restE own env ex) O H O2 H2 := fun {ex O2 H2} s F3 => by
      have mm : ∀ a, Mine σ2 ex a → Mine (wipe σ own) (wipeE own env) a := fun a m => m0 a (s.mine a m)
      refine F.back F3 hw ⟨fun a u e n => s.keep a u e fun m => n (m0 a m), s.own, fun a e n => s.stay a e fun m => n (m0 a m), fun a ⟨j, l, xs, h1, h2⟩ => mm a ⟨j, l, xs, h1, ?_⟩⟩ mm ?_
      · have hj : j ∉ own := fun z => by
          rw [wipe_at2 z] at h2
          split at h2 <;> cases h2
        rw [same' j hj]; exact h2
      · have := F3.len
        rw [← this, hl2, F.len]
    refine ⟨hw, ?_⟩
    -- the value
    have val : ∀ {ex : Env} {O2 : OS} {H2 : Hp}, Step σ2 en ex O H O2 H2 → FrameOk K B O2 σ2 H2 ex → ((elt ex).bind fun v e3 => match shV v e3 with
        | some (y, e4) => R.ok (some y) (restE own env e4)
        | none => .bad) = .ok o e' → TmE K W0 elt σ2 H2 fun y H4 => Q (some y) H4 := fun {ex O2 H2} s F3 hv => by
      refine ⟨B, O2, ex, F3, ?_⟩
      cases ee : elt ex with
      | bad => rw [ee] at hv; cases hv
      | exc c e => rw [ee] at hv; cases hv
      | ok v e3 =>
        rw [ee] at hv
        dsimp only [R.bind] at hv
        intro y O4 H4 s4 F4 k4
        cases es : shV v e3 with
        | none => rw [es] at hv; cases hv
        | some pr =>
          obtain ⟨yd, e4⟩ := pr
          rw [es] at hv
          cases hv
          obtain ⟨O5, s5, F5, r5⟩ := sh_ok F4 k4.1 es
          obtain ⟨F6, s6⟩ := up (s.trans (s4.trans s5)) F5
          exact q (some y) O5 H4 s6 F6 r5
    cases cond with
    | none =>
      show (if true = true then TmE K W0 elt σ2 H (fun y H4 => Q (some y) H4) else Q none H)
      rw [if_pos rfl]
      exact val (ex := en) (O2 := O) (H2 := H) .refl F2 ht
    | some c =>
      refine ⟨B, O, en, F2, ?_⟩
      dsimp only at ht
      cases ec : c en with
      | bad => rw [ec] at ht; cases ht
      | exc c e => rw [ec] at ht; cases ht
      | ok k e3 =>
        rw [ec] at ht
        dsimp only [R.bind] at ht
        intro b O3 H3 s3 F3 kb
        have kb : k = b := kb
        subst kb
        cases k with
        | true =>
          rw [if_pos rfl]
          rw [if_pos rfl] at ht
          exact val s3 F3 ht
        | false =>
          rw [if_neg (by simp)]
          rw [if_neg (by simp)] at ht
          cases ht
          obtain ⟨F6, s6⟩ := up s3 F3
          exact q none O3 H3 s6 F6 trivial
theorem tm_lc {K : PySem.W.Frag} {own : List Nat} {tg : Tg} {cond : Option (Env → R Bool)} {elt : Env → R Val} {f : Env → R Src} {σ : SS} {H : Hp} {Q : VK} (hin : inTg own tg) (h : TmE K W (fun env => lcR own tg cond elt (f env)) σ H Q) :
    tLc (TmI K W tg f) (gD K tg) (ttC K cond) (TmE K W0 elt) own σ H Q := by
  obtain ⟨B, O, env, F, hp⟩ := h
  refine ⟨B, O, env, F, Post.mono (Post.bind (ok1 := fun O' H' _ s J => ∃ P, P O' H' ∧ Walks K B σ J s P tg) hp) ?_⟩
  rintro J H1 ⟨s, e1, O1, _, s1, F1, ⟨P, hP, hW⟩, hp2⟩
  intro D hD
  have hB2 := F1.isNew hD
  have hB := hB2.1
  have hp2 : Post K W B O1 σ H1 e1 ((compL s.held (turnC own tg cond elt) s.xs e1 []).bind fun ds e => .ok (.fr ds) e) (okV K B σ) Q := hp2
  generalize hr0 : compL s.held (turnC own tg cond elt) s.xs e1 [] = r0 at hp2
  have nb : r0 ≠ .bad := fun z => by rw [z] at hp2; exact hp2
  refine ⟨fun i m H => m = s.xs.length - i ∧ i ≤ s.xs.length ∧ ∃ OO env acc vs, OO D ∧ ¬ Mine σ env D ∧ FrameOk K B OO σ H env ∧ H D = some (.lst vs) ∧ RpL K OO H vs acc ∧ P OO H ∧ (∀ a o, H1 a = some o → ¬ Mine σ e1 a → H a = some o) ∧
    (∀ a, OO a → O1 a ∨ a = D) ∧ (∀ a, O1 a → ¬ Mine σ e1 a → OO a) ∧ (∀ a, Mine σ env a → Mine σ e1 a) ∧ compL s.held (turnC own tg cond elt) (s.xs.drop i) env acc = r0, ⟨s.xs.length, rfl, Nat.zero_le _, fun a => O1 a ∨ a = D, e1, [], [], .inr rfl, ?_, F1.fresh hD _, upd_same, .nil, ?_, ?_, fun a h => h, fun a h _ => .inl h, fun a h => h, hr0⟩, ?_⟩
  · exact fun m => F1.ot D (F1.mine m) hD
  · refine hW.stable _ _ _ _ ⟨fun a o n e => Grow.upd hD a o e, fun a h => ?_⟩ hP
    rcases h with h | h
    · exact .inl h
    · exact .inr (by rw [h]; exact hD)
  · exact fun a o e _ => Grow.upd hD a o e
  rintro i m H ⟨rfl, hi, OO, env2, acc, vs, oD, nm, F2, hHD, rv, hP2, kp, ow, st, mn, hc⟩
  by_cases hlt : i < s.xs.length
  · obtain ⟨d, hd⟩ : ∃ d, s.xs[i]? = some d := ⟨s.xs[i], List.getElem?_eq_getElem hlt⟩
    have hdr : s.xs.drop i = d :: s.xs.drop (i + 1) := by
      rw [List.drop_eq_getElem_cons hlt]
      rw [List.getElem?_eq_getElem hlt] at hd; cases hd; rfl
    rw [hdr] at hc
    simp only [compL] at hc
    split at hc
    · rename_i hh
      obtain ⟨w1, _⟩ := hW.walk OO H σ env2 hP2 F2 (fun _ _ _ => .inr rfl) hh i
      obtain ⟨go, yl⟩ := w1 d hd
      refine .inr ⟨go, fun H' => ∃ OO env acc vs, OO D ∧ ¬ Mine σ env D ∧ FrameOk K B OO σ H' env ∧ H' D = some (.lst vs) ∧ RpL K OO H' vs acc ∧ P OO H' ∧ (∀ a o, H1 a = some o → ¬ Mine σ e1 a → H' a = some o) ∧
        (∀ a, OO a → O1 a ∨ a = D) ∧ (∀ a, O1 a → ¬ Mine σ e1 a → OO a) ∧ (∀ a, Mine σ env a → Mine σ e1 a) ∧ compL s.held (turnC own tg cond elt) (s.xs.drop (i + 1)) env acc = r0, fun H' z => ⟨s.xs.length - (i + 1), by omega, rfl, hlt, z⟩, fun x H' hy => ?_⟩
      obtain ⟨gr, rx⟩ := yl x H' hy
      have kk : Kept OO H OO H' := gr.kept fun _ _ h _ => h
      replace F2 := F2.grow gr
      replace hHD := gr D _ hHD
      replace rv := rv.kept kk
      replace hP2 := hW.stable _ _ _ _ kk hP2
      replace kp : ∀ a o, H1 a = some o → ¬ Mine σ e1 a → H' a = some o := fun a o e n => gr a o (kp a o e n)
      -- what a turn has kept
      have next : ∀ {O' : OS} {H4 : Hp} {e' : Env}, Step σ env2 e' OO H' O' H4 → FrameOk K B O' σ H4 e' → O' D ∧ ¬ Mine σ e' D ∧ H4 D = some (.lst vs) ∧ RpL K O' H4 vs acc ∧ P O' H4 ∧ (∀ a o, H1 a = some o → ¬ Mine σ e1 a → H4 a = some o) ∧
          (∀ a, O' a → O1 a ∨ a = D) ∧ (∀ a, O1 a → ¬ Mine σ e1 a → O' a) ∧ (∀ a, Mine σ e' a → Mine σ e1 a) := fun {O' H4 e'} s4 F4 =>
        ⟨s4.stay D oD nm, fun z => nm (s4.mine D z), s4.keep D _ hHD nm, rv.kept (s4.kept F2), hW.stable _ _ _ _ (s4.kept F2) hP2, fun a o e n => s4.keep a o (kp a o e n) fun z => n (mn a z), fun a z => ow a (s4.own a z), fun a z n => s4.stay a (st a z n) fun z => n (mn a z), fun a z => mn a (s4.mine a z)⟩
      cases et : turnC own tg cond elt d env2 with
      | bad => rw [et] at hc; exact absurd hc.symm nb
      | exc c e => rw [et] at hc; exact absurd hc.symm nb
      | ok o e' =>
        rw [et] at hc
        have fin := turn_ok (Q := fun y H4 => match y with
          | none => ∃ OO env acc vs, OO D ∧ ¬ Mine σ env D ∧ FrameOk K B OO σ H4 env ∧ H4 D = some (.lst vs) ∧ RpL K OO H4 vs acc ∧ P OO H4 ∧ (∀ a o, H1 a = some o → ¬ Mine σ e1 a → H4 a = some o) ∧
            (∀ a, OO a → O1 a ∨ a = D) ∧ (∀ a, O1 a → ¬ Mine σ e1 a → OO a) ∧ (∀ a, Mine σ env a → Mine σ e1 a) ∧ compL s.held (turnC own tg cond elt) (s.xs.drop (i + 1)) env acc = r0
          | some y => ∃ ac, H4 D = some (.lst ac) ∧ ac.length < sizeLine ∧ ∃ OO env acc vs, OO D ∧ ¬ Mine σ env D ∧ FrameOk K B OO σ (upd H4 D (.lst (ac ++ [y]))) env ∧ upd H4 D (.lst (ac ++ [y])) D = some (.lst vs) ∧ RpL K OO (upd H4 D (.lst (ac ++ [y]))) vs acc ∧ P OO (upd H4 D (.lst (ac ++ [y]))) ∧ (∀ a o, H1 a = some o → ¬ Mine σ e1 a → upd H4 D (.lst (ac ++ [y])) a = some o) ∧
            (∀ a, OO a → O1 a ∨ a = D) ∧ (∀ a, O1 a → ¬ Mine σ e1 a → OO a) ∧ (∀ a, Mine σ env a → Mine σ e1 a) ∧ compL s.held (turnC own tg cond elt) (s.xs.drop (i + 1)) env acc = r0) hin F2 rx ⟨o, e', et, fun y O4 H4 s4 F4 ky => ?_⟩
        · exact fin
        · obtain ⟨g1, g2, g3, g4, g5, g6, g7, g8, g9⟩ := next s4 F4
          cases y with
          | none =>
            cases o with
            | some a => exact ky.elim
            | none => exact ⟨O4, e', acc, vs, g1, g2, F4, g3, g4, g5, g6, g7, g8, g9, hc⟩
          | some y =>
            cases o with
            | none => exact ky.elim
            | some a =>
              dsimp only at hc
              split at hc
              · rename_i hz
                have kD : Kept O4 H4 O4 (upd H4 D (.lst (vs ++ [y]))) := ⟨fun a u n e => by rw [upd_ne (fun z => n (by rw [z]; exact g1))]; exact e, fun _ h => .inl h⟩
                refine ⟨vs, g3, by rw [sizeLine_eq, rv.length]; exact hz, O4, e', acc ++ [a], vs ++ [y], g1, g2, F4.put g1 hB g2, upd_same, (g4.append (.cons ky .nil)).kept kD, hW.stable _ _ _ _ kD g5, fun b o e n => ?_, g7, g8, g9, hc⟩
                have ne : b ≠ D := fun z => by rw [z, hD] at e; cases e
                rw [upd_ne ne]; exact g6 b o e n
              · exact absurd hc.symm nb
    · exact absurd hc.symm nb
  · have e : i = s.xs.length := by omega
    subst e
    rw [List.drop_length] at hc
    simp only [compL] at hc
    split at hc
    · rename_i hh
      obtain ⟨_, w2⟩ := hW.walk OO H σ env2 hP2 F2 (fun _ _ _ => .inr rfl) hh s.xs.length
      refine .inl ⟨w2 (Nat.le_refl _), ?_⟩
      subst hc
      have hp3 : Post K W B O1 σ H1 e1 (.ok (.fr acc) env2) (okV K B σ) Q := hp2
      have nO1 : ¬ O1 D := fun z => F1.ot D z hD
      have bO : ∀ a, B.O a → OO a ∧ a ≠ D := fun a z => ⟨F2.bo a z, fun e => F2.bw a z (by rw [e]; exact hB)⟩
      refine hp3 (.ref D) (fun a => OO a ∧ a ≠ D) H ⟨kp, fun a z => (ow a z.1).elim id fun e => absurd e z.2, fun a z n => ⟨st a z n, fun e => nO1 (e ▸ z)⟩, mn⟩
        (F2.move .refl bO (fun a z => ⟨F2.mine z, fun e => nm (e ▸ z)⟩) (fun a o n _ z => n z.1) fun a z => F2.ot a z.1) ⟨?_, ?_⟩
      · exact Rp.lst (fun z => z.2 rfl) hHD (rv.kept ⟨fun a o _ h => h, fun a z => .inl z.1⟩)
      · have sub : ∀ a, ((OO a ∧ a ≠ D) ∨ a = D) → OO a := fun a z => z.elim (·.1) fun e => e ▸ oD
        refine ⟨D, vs, rfl, hHD, rv.kept ⟨fun a o _ h => h, fun a z => .inl (sub a z)⟩, hB2, F2.move .refl (fun a z => .inl (bO a z)) (fun a z => .inl ⟨F2.mine z, fun e => nm (e ▸ z)⟩) (fun a o n _ z => n (sub a z)) (fun a z => F2.ot a (sub a z)), fun z => z.2 rfl⟩
    · exact absurd hc.symm nb
theorem takes_no {cA : Nat → Value} : Takes X (wX cA W0) := fun u s x => by
  rcases x with ⟨a1, a2, a3, a4, a5, a6, a7, a8, a9, a10, a11, a12, a13, a14, a15, a16, c, _, _, w⟩
  exact w.elim
theorem XOk.blk (h : XOk p cl lv cA N sc fn X W) (s : Shared) (H : Hp) (scope : Scope) (C : Addr) (c : List (Str × Addr)) (fp : List Addr) :
    XOk p cl lv cA N (relS scope sc) (cellF scope) (X.blk s H scope (compEnvC scope c C X.env) fp) W0 where
  g := h.g
  names := h.names
  nd := h.nd
  sc := by show relS scope X.env.scope = _; rw [h.sc]
  calm := h.calm
  fn := fun x hx => by
    show (scope.names.lookup x == some NameKind.cell) = true
    unfold cellF at hx
    split at hx
    · rename_i e; rw [e]; rfl
    · cases hx
  room := h.room
  tk := takes_no
theorem own_ix (own : List Nat) : (ownL N own).map (·.2) = own := by
  unfold ownL
  rw [List.map_map]
  exact (List.map_congr_left fun i _ => rfl).trans (List.map_id own)
theorem pts_c {cond : Option E} {t : Pt} (h : ∀ c, cond = some c → PT X (fE N p c t) (TmB X.K W0 fun env => truR (evE p cl c env))) : PTs X (fC N p cond t) (ttC X.K (evC p cl cond)) := by
  cases cond with
  | none => exact pts_nil
  | some c => exact pts_one (h c rfl)
/-- [.. for .. in .. if ..] -/
theorem snd_lc (h : XOk p cl lv cA N sc fn X W) {elt : E} {tg : Tg} {it : It} {cond : Option E} {own : List Nat} {t : Pt} (w : wfE N p sc fn (.lc elt tg it cond own) t = true) (hi : PI X (fT N tg (t.c 1)) (fI N p it (t.c 2)) (TmI X.K W tg (evI p cl it)))
    (hc : ∀ {Y : Cx}, XOk p cl lv cA N (relS t.sc sc) (cellF t.sc) Y W0 → ∀ c, cond = some c → PT Y (fE N p c (t.c 3)) (TmB Y.K W0 fun env => truR (evE p cl c env)))
    (he : ∀ {Y : Cx}, XOk p cl lv cA N (relS t.sc sc) (cellF t.sc) Y W0 → PE Y (fE N p elt (t.c 0)) (TmE Y.K W0 (evE p cl elt))) : PE X (fE N p (.lc elt tg it cond own) t) (TmE X.K W (evE p cl (.lc elt tg it cond own))) := by
  simp only [wfE, Bool.and_eq_true] at w
  obtain ⟨⟨⟨⟨⟨w1, w2, _⟩, w3⟩, w4⟩, w5⟩, w6⟩ := w
  have hin : inTg own tg := by
    cases tg with
    | nm i => exact List.contains_iff_mem.mp w4
    | tup ns => exact fun n hn => List.contains_iff_mem.mp (List.all_eq_true.mp w4 n hn)
  have hb : BlkOk X.N X.env.scope t.sc (ownL N own) := by
    rw [h.names, h.sc]
    exact blkOk_by w1
  have := pe_lc (pos := t.p) (wi := TmI X.K W tg (evI p cl it)) (g := gD X.K tg) (tt := ttC X.K (evC p cl cond)) (te := TmE X.K W0 (evE p cl elt)) h.calm (by rw [h.names]; exact h.nd) hi hb (fun s H C c fp => png (h.blk s H t.sc C c fp) w3)
    (fun s H C c fp => pts_c (hc (h.blk s H t.sc C c fp))) (fun s H C c fp => he (h.blk s H t.sc C c fp)) (fold_it it (t.c 2) X.env)
  rw [own_ix] at this
  exact PE_imp this fun σ H Q ht => tm_lc hin ht
end
end Lw
set_option linter.all false
set_option Elab.async false
set_option maxRecDepth 100000
set_option maxHeartbeats 1000000
namespace Lw
open PySem PySem.Spec L2
/-! # [.. for .. in .. for .. in .. if ..] -/
theorem Step.putD {σ : SS} {e e' : Env} {O O' : OS} {H H' : Hp} {D : Addr} {a b : HO} (s : Step σ e e' O (upd H D a) O' H') : Step σ e e' O (upd H D b) O' (upd H' D b) :=
  ⟨fun c o h n => by
    by_cases z : c = D
    · subst z; rw [upd_same] at h ⊢; exact h
    · rw [upd_ne z] at h ⊢
      exact s.keep c o (by rw [upd_ne z]; exact h) n, s.own, s.stay, s.mine⟩
theorem Step.putD0 {σ : SS} {e e' : Env} {O O' : OS} {H H' : Hp} {D : Addr} {b : HO} (s : Step σ e e' O H O' H') : Step σ e e' O (upd H D b) O' (upd H' D b) :=
  ⟨fun c o h n => by
    by_cases z : c = D
    · subst z; rw [upd_same] at h ⊢; exact h
    · rw [upd_ne z] at h ⊢
      exact s.keep c o h n, s.own, s.stay, s.mine⟩
theorem upd_upd {H : Hp} {D : Addr} {a b : HO} : upd (upd H D a) D b = upd H D b := by
  funext c
  by_cases z : c = D
  · subst z; rw [upd_same, upd_same]
  · rw [upd_ne z, upd_ne z, upd_ne z]
theorem upd_id {H : Hp} {D : Addr} {a : HO} (h : H D = some a) : upd H D a = H := by
  funext c
  by_cases z : c = D
  · subst z; rw [upd_same, h]
  · rw [upd_ne z]
section
variable {K : PySem.W.Frag}
/-- a block's target is bound; seen from outside -/
theorem bind_up {own : List Nat} {tg : Tg} {B : Base} {O : OS} {σ : SS} {H : Hp} {env en : Env} {x : V} {d : D} {Q : SS → Hp → Prop} (hin : inTg own tg) (F : FrameOk K B O σ H env) (r : YlOk K O H tg x d) (eb : bindD tg d (wipeE own env) = some en)
    (q : ∀ σ2, FrameOk K B O σ2 H en → wipe σ2 own = wipe σ own → (∀ {Hs : Hp} {ex : Env} {O2 : OS} {H2 : Hp}, FrameOk K B O σ Hs env → Step σ2 en ex O Hs O2 H2 → FrameOk K B O2 σ2 H2 ex → FrameOk K B O2 σ H2 (restE own env ex) ∧ Step σ env (restE own env ex) O Hs O2 H2) →
      (∀ a, Mine σ2 en a → Mine σ env a) → Q σ2 H) : gD K tg x (wipe σ own) H Q := by
  have Fw := F.wipe own
  refine bind_ok2 Fw r eb fun σ2 F2 same => ?_
  have same' : ∀ j, j ∉ own → σ2[j]? = (wipe σ own)[j]? := fun j hj => same j (by
    cases tg with
    | nm i => exact fun z => hj (z ▸ hin)
    | tup ns => exact fun z => hj (hin j z))
  have enl : en.length = env.length := by
    have gen : ∀ (ns : List Nat) (ds : List D) (e : Env), (setD e ns ds).length = e.length := by
      intro ns
      induction ns with
      | nil => intro ds e; cases ds <;> rfl
      | cons n ns ih =>
        intro ds e
        cases ds with
        | nil => rfl
        | cons d ds =>
          show (setD (e.set n (.sh d)) ns ds).length = _
          rw [ih, List.length_set]
    cases tg with
    | nm i =>
      simp only [bindD] at eb
      split at eb
      · cases eb; rw [List.length_set, wipeE_length]
      · cases eb
    | tup ns =>
      cases d <;> simp only [bindD] at eb <;> first | cases eb | skip
      split at eb
      · cases eb; rw [gen, wipeE_length]
      · cases eb
  have hl2 : σ2.length = σ.length := by rw [F2.len, enl, F.len]
  have hw : wipe σ2 own = wipe σ own := wipe_eq hl2 same'
  have m0 : ∀ a, Mine σ2 en a → Mine (wipe σ own) (wipeE own env) a := fun a ⟨j, l, xs, h1, h2⟩ => by
    have h3 := bindD_own eb h1
    have hj : j ∉ own := fun z => by rw [wipeE_at, if_pos z] at h3; cases h3
    exact ⟨j, l, xs, h3, by rw [← same' j hj]; exact h2⟩
  refine q σ2 F2 hw (fun {Hs ex O2 H2} F0 s F3 => ?_) fun a m => ?_
  · have mm : ∀ a, Mine σ2 ex a → Mine (wipe σ own) (wipeE own env) a := fun a m => m0 a (s.mine a m)
    refine F0.back F3 hw ⟨fun a u e n => s.keep a u e fun m => n (m0 a m), s.own, fun a e n => s.stay a e fun m => n (m0 a m), fun a ⟨j, l, xs, h1, h2⟩ => mm a ⟨j, l, xs, h1, ?_⟩⟩ mm ?_
    · have hj : j ∉ own := fun z => by
        rw [wipe_at2 z] at h2
        split at h2 <;> cases h2
      rw [same' j hj]; exact h2
    · have := F3.len
      rw [← this, hl2, F.len]
  · obtain ⟨j, l, xs, h1, h2⟩ := m0 a m
    rw [wipeE_at] at h1
    split at h1
    · cases h1
    · rename_i hj
      exact ⟨j, l, xs, h1, by rw [← wipe_at (σ := σ) hj]; exact h2⟩
/-- the turns of a walk that fills the list at D -/
theorem lc_loop {own : List Nat} {tg : Tg} {cond : Option (Env → R Bool)} {elt : Env → R Val} {B : Base} {σ : SS} {J : L2.It} {s : Src} {P : OS → Hp → Prop} {D : Addr} {O0 : OS} {H0 : Hp} {env0 : Env} {acc0 : List Lw.D} {vs0 : List V}
    (hin : inTg own tg) (hW : Walks K B σ J s P tg) (oD : O0 D) (nm : ¬ Mine σ env0 D) (F : FrameOk K B O0 σ H0 env0) (hHD : H0 D = some (.lst vs0)) (rv : RpL K O0 H0 vs0 acc0) (hP : P O0 H0) (hB : B.H D = none) {acc1 : List Lw.D} {env1 : Env} (hc : compL s.held (turnC own tg cond elt) s.xs env0 acc0 = .ok acc1 env1) {Nx : Hp → Prop}
    (fin : ∀ O H vs, O D → ¬ Mine σ env1 D → FrameOk K B O σ H env1 → H D = some (.lst vs) → RpL K O H vs acc1 → Step σ env0 env1 O0 (upd H0 D (.lst vs)) O H → Nx H) :
    ∃ W : Nat → Nat → Hp → Prop, (∃ m, W 0 m H0) ∧ ∀ i m H, W i m H → (J.stop i H ∧ Nx H) ∨ (J.go i H ∧ ∃ N : Hp → Prop, (∀ H', N H' → ∃ m', m' < m ∧ W (i + 1) m' H') ∧ ∀ x H', J.yld i H x H' → gD K tg x (wipe σ own) H' fun σ2 H2 => wipe σ2 own = wipe σ own ∧ ttC K cond σ2 H2 fun b H3 =>
      if b = true then TmE K W0 elt σ2 H3 fun y H4 => ∃ ac, H4 D = some (.lst ac) ∧ ac.length < sizeLine ∧ N (upd H4 D (.lst (ac ++ [y]))) else N H3) := by
  refine ⟨fun i m H => m = s.xs.length - i ∧ i ≤ s.xs.length ∧ ∃ O env acc vs, O D ∧ ¬ Mine σ env D ∧ FrameOk K B O σ H env ∧ H D = some (.lst vs) ∧ RpL K O H vs acc ∧ P O H ∧ Step σ env0 env O0 (upd H0 D (.lst vs)) O H ∧ compL s.held (turnC own tg cond elt) (s.xs.drop i) env acc = .ok acc1 env1,
    ⟨s.xs.length, rfl, Nat.zero_le _, O0, env0, acc0, vs0, oD, nm, F, hHD, rv, hP, by rw [upd_id hHD]; exact .refl, hc⟩, ?_⟩
  rintro i m H ⟨rfl, hi, OO, env2, acc, vs, oD, nm, F2, hHD, rv, hP2, st, hc⟩
  by_cases hlt : i < s.xs.length
  · obtain ⟨d, hd⟩ : ∃ d, s.xs[i]? = some d := ⟨s.xs[i], List.getElem?_eq_getElem hlt⟩
    have hdr : s.xs.drop i = d :: s.xs.drop (i + 1) := by
      rw [List.drop_eq_getElem_cons hlt]
      rw [List.getElem?_eq_getElem hlt] at hd; cases hd; rfl
    rw [hdr] at hc
    simp only [compL] at hc
    split at hc
    · rename_i hh
      obtain ⟨w1, _⟩ := hW.walk OO H σ env2 hP2 F2 (fun _ _ _ => .inr rfl) hh i
      obtain ⟨go, yl⟩ := w1 d hd
      refine .inr ⟨go, fun H' => ∃ O env acc vs, O D ∧ ¬ Mine σ env D ∧ FrameOk K B O σ H' env ∧ H' D = some (.lst vs) ∧ RpL K O H' vs acc ∧ P O H' ∧ Step σ env0 env O0 (upd H0 D (.lst vs)) O H' ∧ compL s.held (turnC own tg cond elt) (s.xs.drop (i + 1)) env acc = .ok acc1 env1, fun H' z => ⟨s.xs.length - (i + 1), by omega, rfl, hlt, z⟩, fun x H' hy => ?_⟩
      obtain ⟨gr, rx⟩ := yl x H' hy
      have kk : Kept OO H OO H' := gr.kept fun _ _ h _ => h
      replace F2 := F2.grow gr
      replace hHD := gr D _ hHD
      replace rv := rv.kept kk
      replace hP2 := hW.stable _ _ _ _ kk hP2
      replace st : Step σ env0 env2 O0 (upd H0 D (.lst vs)) OO H' := st.trans (.grow gr)
      have next : ∀ {O' : OS} {H4 : Hp} {e' : Env}, Step σ env2 e' OO H' O' H4 → FrameOk K B O' σ H4 e' → O' D ∧ ¬ Mine σ e' D ∧ H4 D = some (.lst vs) ∧ RpL K O' H4 vs acc ∧ P O' H4 ∧ Step σ env0 e' O0 (upd H0 D (.lst vs)) O' H4 := fun {O' H4 e'} s4 F4 =>
        ⟨s4.stay D oD nm, fun z => nm (s4.mine D z), s4.keep D _ hHD nm, rv.kept (s4.kept F2), hW.stable _ _ _ _ (s4.kept F2) hP2, st.trans s4⟩
      cases et : turnC own tg cond elt d env2 with
      | bad => rw [et] at hc; cases hc
      | exc c e => rw [et] at hc; cases hc
      | ok o e' =>
        rw [et] at hc
        have fin2 := turn_ok (Q := fun y H4 => match y with
          | none => ∃ O env acc vs, O D ∧ ¬ Mine σ env D ∧ FrameOk K B O σ H4 env ∧ H4 D = some (.lst vs) ∧ RpL K O H4 vs acc ∧ P O H4 ∧ Step σ env0 env O0 (upd H0 D (.lst vs)) O H4 ∧ compL s.held (turnC own tg cond elt) (s.xs.drop (i + 1)) env acc = .ok acc1 env1
          | some y => ∃ ac, H4 D = some (.lst ac) ∧ ac.length < sizeLine ∧ ∃ O env acc vs, O D ∧ ¬ Mine σ env D ∧ FrameOk K B O σ (upd H4 D (.lst (ac ++ [y]))) env ∧ upd H4 D (.lst (ac ++ [y])) D = some (.lst vs) ∧ RpL K O (upd H4 D (.lst (ac ++ [y]))) vs acc ∧ P O (upd H4 D (.lst (ac ++ [y]))) ∧ Step σ env0 env O0 (upd H0 D (.lst vs)) O (upd H4 D (.lst (ac ++ [y]))) ∧ compL s.held (turnC own tg cond elt) (s.xs.drop (i + 1)) env acc = .ok acc1 env1) hin F2 rx ⟨o, e', et, fun y O4 H4 s4 F4 ky => ?_⟩
        · exact fin2
        · obtain ⟨g1, g2, g3, g4, g5, g6⟩ := next s4 F4
          cases y with
          | none =>
            cases o with
            | some a => exact ky.elim
            | none => exact ⟨O4, e', acc, vs, g1, g2, F4, g3, g4, g5, g6, hc⟩
          | some y =>
            cases o with
            | none => exact ky.elim
            | some a =>
              dsimp only at hc
              split at hc
              · rename_i hz
                have kD : Kept O4 H4 O4 (upd H4 D (.lst (vs ++ [y]))) := ⟨fun a u n e => by rw [upd_ne (fun z => n (by rw [z]; exact g1))]; exact e, fun _ h => .inl h⟩
                exact ⟨vs, g3, by rw [sizeLine_eq, rv.length]; exact hz, O4, e', acc ++ [a], vs ++ [y], g1, g2, F4.put g1 hB g2, upd_same, (g4.append (.cons ky .nil)).kept kD, hW.stable _ _ _ _ kD g5, g6.putD, hc⟩
              · cases hc
    · cases hc
  · have e : i = s.xs.length := by omega
    subst e
    rw [List.drop_length] at hc
    simp only [compL] at hc
    split at hc
    · rename_i hh
      cases hc
      obtain ⟨_, w2⟩ := hW.walk OO H σ _ hP2 F2 (fun _ _ _ => .inr rfl) hh s.xs.length
      exact .inl ⟨w2 (Nat.le_refl _), fin OO H vs oD nm F2 hHD rv st⟩
    · cases hc
theorem tm_lc2 {own own2 : List Nat} {tg tg2 : Tg} {cond : Option (Env → R Bool)} {elt : Env → R Val} {src2 : Env → R Src} {W : WN} {f : Env → R Src} {σ : SS} {H : Hp} {Q : VK} (hin : inTg own tg) (hin2 : inTg own2 tg2) (h : TmE K W (fun env => lc2R own own2 tg tg2 cond elt src2 (f env)) σ H Q) :
    tLc2 (TmI K W tg f) (gD K tg) tYes (TmI K W0 tg2 src2) (gD K tg2) (ttC K cond) (TmE K W0 elt) own own2 σ H Q := by
  obtain ⟨B, O, env, F, hp⟩ := h
  refine ⟨B, O, env, F, Post.mono (Post.bind (ok1 := fun O' H' _ s J => ∃ P, P O' H' ∧ Walks K B σ J s P tg) hp) ?_⟩
  rintro J H1 ⟨s, e1, O1, _, s1, F1, ⟨P, hP, hW⟩, hp2⟩
  intro D hD
  have hB2 := F1.isNew hD
  have hB := hB2.1
  have hp2 : Post K W B O1 σ H1 e1 ((comp2 s.held (turn2 own own2 tg tg2 cond elt src2) s.xs e1 []).bind fun ds e => .ok (.fr ds) e) (okV K B σ) Q := hp2
  generalize hr0 : comp2 s.held (turn2 own own2 tg tg2 cond elt src2) s.xs e1 [] = r0 at hp2
  have nb : r0 ≠ .bad := fun z => by rw [z] at hp2; exact hp2
  refine ⟨fun i m H => m = s.xs.length - i ∧ i ≤ s.xs.length ∧ ∃ OO env acc vs, OO D ∧ ¬ Mine σ env D ∧ FrameOk K B OO σ H env ∧ H D = some (.lst vs) ∧ RpL K OO H vs acc ∧ P OO H ∧ (∀ a o, H1 a = some o → ¬ Mine σ e1 a → H a = some o) ∧
    (∀ a, OO a → O1 a ∨ a = D) ∧ (∀ a, O1 a → ¬ Mine σ e1 a → OO a) ∧ (∀ a, Mine σ env a → Mine σ e1 a) ∧ comp2 s.held (turn2 own own2 tg tg2 cond elt src2) (s.xs.drop i) env acc = r0, ⟨s.xs.length, rfl, Nat.zero_le _, fun a => O1 a ∨ a = D, e1, [], [], .inr rfl, ?_, F1.fresh hD _, upd_same, .nil, ?_, ?_, fun a h => h, fun a h _ => .inl h, fun a h => h, hr0⟩, ?_⟩
  · exact fun m => F1.ot D (F1.mine m) hD
  · refine hW.stable _ _ _ _ ⟨fun a o n e => Grow.upd hD a o e, fun a h => ?_⟩ hP
    rcases h with h | h
    · exact .inl h
    · exact .inr (by rw [h]; exact hD)
  · exact fun a o e _ => Grow.upd hD a o e
  rintro i m H ⟨rfl, hi, OO, env2, acc, vs, oD, nm, F2, hHD, rv, hP2, kp, ow, st, mn, hc⟩
  by_cases hlt : i < s.xs.length
  · obtain ⟨d, hd⟩ : ∃ d, s.xs[i]? = some d := ⟨s.xs[i], List.getElem?_eq_getElem hlt⟩
    have hdr : s.xs.drop i = d :: s.xs.drop (i + 1) := by
      rw [List.drop_eq_getElem_cons hlt]
      rw [List.getElem?_eq_getElem hlt] at hd; cases hd; rfl
    rw [hdr] at hc
    simp only [comp2] at hc
    split at hc
    · rename_i hh
      obtain ⟨w1, _⟩ := hW.walk OO H σ env2 hP2 F2 (fun _ _ _ => .inr rfl) hh i
      obtain ⟨go, yl⟩ := w1 d hd
      refine .inr ⟨go, fun H' => ∃ OO env acc vs, OO D ∧ ¬ Mine σ env D ∧ FrameOk K B OO σ H' env ∧ H' D = some (.lst vs) ∧ RpL K OO H' vs acc ∧ P OO H' ∧ (∀ a o, H1 a = some o → ¬ Mine σ e1 a → H' a = some o) ∧
        (∀ a, OO a → O1 a ∨ a = D) ∧ (∀ a, O1 a → ¬ Mine σ e1 a → OO a) ∧ (∀ a, Mine σ env a → Mine σ e1 a) ∧ comp2 s.held (turn2 own own2 tg tg2 cond elt src2) (s.xs.drop (i + 1)) env acc = r0, fun H' z => ⟨s.xs.length - (i + 1), by omega, rfl, hlt, z⟩, fun x H' hy => ?_⟩
      obtain ⟨gr, rx⟩ := yl x H' hy
      have kk : Kept OO H OO H' := gr.kept fun _ _ h _ => h
      replace F2 := F2.grow gr
      replace hHD := gr D _ hHD
      replace rv := rv.kept kk
      replace hP2 := hW.stable _ _ _ _ kk hP2
      replace kp : ∀ a o, H1 a = some o → ¬ Mine σ e1 a → H' a = some o := fun a o e n => gr a o (kp a o e n)
      cases et : turn2 own own2 tg tg2 cond elt src2 d env2 acc with
      | bad => rw [et] at hc; exact absurd hc.symm nb
      | exc c e => rw [et] at hc; exact absurd hc.symm nb
      | ok acc' e' =>
        rw [et] at hc
        dsimp only at hc
        unfold turn2 at et
        cases eb : bindD tg d (wipeE own env2) with
        | none => rw [eb] at et; cases et
        | some en =>
          rw [eb] at et
          dsimp only at et
          refine bind_up hin F2 rx eb fun σ2 F3 hw up mo => ⟨hw, ?_⟩
          dsimp only [tYes]
          rw [if_pos rfl]
          refine ⟨B, OO, en, F3, ?_⟩
          cases es : src2 en with
          | bad => rw [es] at et; cases et
          | exc c e => rw [es] at et; cases et
          | ok s2 e2 =>
            rw [es] at et
            dsimp only at et
            cases ec : compL s2.held (turnC own2 tg2 cond elt) s2.xs e2 acc with
            | bad => rw [ec] at et; cases et
            | exc c e => rw [ec] at et; cases et
            | ok ac3 e3 =>
              rw [ec] at et
              cases et
              intro J1 O3 H4 s3 F4 hJ
              obtain ⟨P1, hP1, hW1⟩ := hJ
              have nmn : ¬ Mine σ2 en D := fun z => nm (mo D z)
              refine lc_loop hin2 hW1 (s3.stay D oD nmn) (fun z => nmn (s3.mine D z)) F4 (s3.keep D _ hHD nmn) (rv.kept (s3.kept F3)) hP1 hB ec fun O5 H5 vs5 q1 q2 q3 q4 q5 q6 => ?_
              have F2D : FrameOk K B OO σ (upd H' D (.lst vs5)) env2 := F2.put oD hB nm
              have sAll : Step σ2 en e3 OO (upd H' D (.lst vs5)) O5 H5 := (s3.putD0 (b := .lst vs5)).trans q6
              obtain ⟨F6, s6⟩ := up F2D sAll q3
              have kD : Kept OO H' OO (upd H' D (.lst vs5)) := ⟨fun a u n e => by rw [upd_ne (fun z => n (by rw [z]; exact oD))]; exact e, fun _ h => .inl h⟩
              refine ⟨O5, _, _, vs5, q1, fun z => nm (s6.mine D z), F6, q4, q5, hW.stable _ _ _ _ (s6.kept F2D) (hW.stable _ _ _ _ kD hP2), fun a o e n => ?_, fun a z => ow a (s6.own a z), fun a z n => s6.stay a (st a z n) fun z => n (mn a z), fun a z => mn a (s6.mine a z), hc⟩
              have ne : a ≠ D := fun z => by rw [z, hD] at e; cases e
              exact s6.keep a o (by rw [upd_ne ne]; exact kp a o e n) fun z => n (mn a z)
    · exact absurd hc.symm nb
  · have e : i = s.xs.length := by omega
    subst e
    rw [List.drop_length] at hc
    simp only [comp2] at hc
    split at hc
    · rename_i hh
      obtain ⟨_, w2⟩ := hW.walk OO H σ env2 hP2 F2 (fun _ _ _ => .inr rfl) hh s.xs.length
      refine .inl ⟨w2 (Nat.le_refl _), ?_⟩
      subst hc
      have hp3 : Post K W B O1 σ H1 e1 (.ok (.fr acc) env2) (okV K B σ) Q := hp2
      have nO1 : ¬ O1 D := fun z => F1.ot D z hD
      have bO : ∀ a, B.O a → OO a ∧ a ≠ D := fun a z => ⟨F2.bo a z, fun e => F2.bw a z (by rw [e]; exact hB)⟩
      refine hp3 (.ref D) (fun a => OO a ∧ a ≠ D) H ⟨kp, fun a z => (ow a z.1).elim id fun e => absurd e z.2, fun a z n => ⟨st a z n, fun e => nO1 (e ▸ z)⟩, mn⟩
        (F2.move .refl bO (fun a z => ⟨F2.mine z, fun e => nm (e ▸ z)⟩) (fun a o n _ z => n z.1) fun a z => F2.ot a z.1) ⟨?_, ?_⟩
      · exact Rp.lst (fun z => z.2 rfl) hHD (rv.kept ⟨fun a o _ h => h, fun a z => .inl z.1⟩)
      · have sub : ∀ a, ((OO a ∧ a ≠ D) ∨ a = D) → OO a := fun a z => z.elim (·.1) fun e => e ▸ oD
        refine ⟨D, vs, rfl, hHD, rv.kept ⟨fun a o _ h => h, fun a z => .inl (sub a z)⟩, hB2, F2.move .refl (fun a z => .inl (bO a z)) (fun a z => .inl ⟨F2.mine z, fun e => nm (e ▸ z)⟩) (fun a o n _ z => n (sub a z)) (fun a z => F2.ot a (sub a z)), fun z => z.2 rfl⟩
    · exact absurd hc.symm nb
end
section
variable {p : Pg} {cl : Cl} {lv : Nat} {cA : Nat → Value} {N : List Str} {sc : Scope} {fn : Str → Bool} {X : Cx} {W : WN}
theorem inTg_of {own : List Nat} {tg : Tg} (h : tgIn own tg = true) : inTg own tg := by
  cases tg with
  | nm i => exact List.contains_iff_mem.mp h
  | tup ns => exact fun n hn => List.contains_iff_mem.mp (List.all_eq_true.mp h n hn)
theorem snd_lc2 (h : XOk p cl lv cA N sc fn X W) {elt : E} {tg tg2 : Tg} {it it2 : It} {cond : Option E} {own own2 : List Nat} {t : Pt} (w : wfE N p sc fn (.lc2 elt tg it tg2 it2 cond own own2) t = true) (hi : PI X (fT N tg (t.c 1)) (fI N p it (t.c 2)) (TmI X.K W tg (evI p cl it)))
    (hi2 : ∀ {Y : Cx}, XOk p cl lv cA N (relS t.sc sc) (cellF t.sc) Y W0 → PI Y (fT N tg2 (t.c 3)) (fI N p it2 (t.c 4)) (TmI Y.K W0 tg2 (evI p cl it2)))
    (hc : ∀ {Y : Cx}, XOk p cl lv cA N (relS t.sc sc) (cellF t.sc) Y W0 → ∀ c, cond = some c → PT Y (fE N p c (t.c 5)) (TmB Y.K W0 fun env => truR (evE p cl c env)))
    (he : ∀ {Y : Cx}, XOk p cl lv cA N (relS t.sc sc) (cellF t.sc) Y W0 → PE Y (fE N p elt (t.c 0)) (TmE Y.K W0 (evE p cl elt))) : PE X (fE N p (.lc2 elt tg it tg2 it2 cond own own2) t) (TmE X.K W (evE p cl (.lc2 elt tg it tg2 it2 cond own own2))) := by
  simp only [wfE, Bool.and_eq_true] at w
  obtain ⟨⟨⟨⟨⟨⟨⟨⟨⟨w1, w2, _⟩, w3⟩, w4⟩, w5, _⟩, w6⟩, w7⟩, w8⟩, w9⟩, w10⟩ := w
  have hb : BlkOk X.N X.env.scope t.sc (ownL N own) := by
    rw [h.names, h.sc]
    exact blkOk_by w1
  have hv : ∀ i ∈ own2, i ∈ (ownL N own).map (·.2) := fun i hi => by
    rw [own_ix]
    exact List.contains_iff_mem.mp (List.all_eq_true.mp w8 i hi)
  have := pe_lc2 (pos := t.p) (vs1 := own2) (wi := TmI X.K W tg (evI p cl it)) (g := gD X.K tg) (tt := tYes) (wi1 := TmI X.K W0 tg2 (evI p cl it2)) (g1 := gD X.K tg2) (tt1 := ttC X.K (evC p cl cond)) (te := TmE X.K W0 (evE p cl elt)) h.calm (by rw [h.names]; exact h.nd) hi hb hv (fun s H C c fp => png (h.blk s H t.sc C c fp) w3) (fun s H C c fp => pts_nil)
    (fun s H C c fp => hi2 (h.blk s H t.sc C c fp)) (fun s H C c fp => png (h.blk s H t.sc C c fp) w6) (fun s H C c fp => pts_c (hc (h.blk s H t.sc C c fp))) (fun s H C c fp => he (h.blk s H t.sc C c fp)) (fold_it it (t.c 2) X.env) (fun env => fold_it it2 (t.c 4) env)
  rw [own_ix] at this
  exact PE_imp this fun σ H Q ht => tm_lc2 (inTg_of w4) (inTg_of w7) (by simpa only [evE] using ht)
end
end Lw
set_option linter.all false
set_option Elab.async false
set_option maxRecDepth 100000
set_option maxHeartbeats 1000000
namespace Lw
open PySem PySem.Spec L2
/-! ## e[::-1] -/
section
variable {prog : Program} {w : World} {A : Around} {E : Value → Shared → Prop} {s : Shared}
theorem sliceApplied_rev {sl : Addr} {vs : Value} {n : Nat} {Q : Int × Int × Nat → Shared → Prop} (hs : s.heap.IsSliceOf sl .none .none vs) (ps : IsPart vs (some (-1)))
    (h : Q ((n : Int) - 1, -1, n) s) : wpAny (model prog w) A (Builtin.Slice.sliceApplied (.ref sl) (pure (n : Int))) Q E s := by
  obtain ⟨os, hos, hcs, hds⟩ := id hs
  unfold Builtin.Slice.sliceApplied Builtin.Slice.sliceFields
  refine wpAny_bind (wpAny_bind (wpAny_field hos hds (x := .none) rfl (wpAny_bind (wpAny_field hos hds (x := .none) rfl (wpAny_bind (wpAny_field hos hds (x := vs) rfl (wpAny_pure ?_)))))))
  refine wpAny_bind (HT.slicePart_ ps ?_)
  show wpAny _ _ (if ((-1 : Int) == 0) = true then _ else _) _ _ s
  rw [if_neg (by decide)]
  refine wpAny_bind (HT.slicePart_ .none (wpAny_bind (HT.slicePart_ .none (wpAny_bind (wpAny_pure ?_)))))
  show wpAny _ _ (match Builtin.Slice.sliceAdjust none none (-1) (n : Int) with | (lo, hi) => pure (lo, (-1 : Int), Builtin.Slice.slicePlaces lo hi (-1))) _ _ s
  have e1 : Builtin.Slice.sliceAdjust none none (-1) (n : Int) = ((n : Int) - 1, -1) := rfl
  rw [e1]
  have e2 : Builtin.Slice.slicePlaces ((n : Int) - 1) (-1) (-1) = n := by
    unfold Builtin.Slice.slicePlaces
    rw [if_neg (by decide)]
    by_cases h : (n : Int) - 1 > -1
    · rw [if_pos h]
      simp
    · rw [if_neg h]
      simp
      omega
  show wpAny _ _ (pure ((n : Int) - 1, (-1 : Int), Builtin.Slice.slicePlaces ((n : Int) - 1) (-1) (-1))) _ _ s
  rw [e2]
  exact wpAny_pure h
theorem pick_rev (xs : Array Value) : ((List.range xs.size).filterMap fun (m : Nat) => xs[((xs.size : Int) - 1 + (m : Int) * (-1)).toNat]?).toArray = xs.toList.reverse.toArray := by
  congr 1
  have e : ∀ m ∈ List.range xs.size, xs[((xs.size : Int) - 1 + (m : Int) * (-1)).toNat]? = some (xs.toList.reverse.getD m .none) := fun m hm => by
    have hm' := List.mem_range.mp hm
    have : ((xs.size : Int) - 1 + (m : Int) * (-1)).toNat = xs.size - 1 - m := by omega
    rw [this, List.getD_eq_getElem?_getD, List.getElem?_reverse (by simpa using hm'), ← Array.getElem?_toList]
    rw [show xs.toList.length = xs.size from rfl, List.getElem?_eq_getElem (by show _ < xs.size; omega)]
    rfl
  have e2 : (List.range xs.size).filterMap (fun (m : Nat) => xs[((xs.size : Int) - 1 + (m : Int) * (-1)).toNat]?) = (List.range xs.size).map fun m => xs.toList.reverse.getD m .none := by
    have gen : ∀ l : List Nat, (∀ m ∈ l, xs[((xs.size : Int) - 1 + (m : Int) * (-1)).toNat]? = some (xs.toList.reverse.getD m .none)) → l.filterMap (fun (m : Nat) => xs[((xs.size : Int) - 1 + (m : Int) * (-1)).toNat]?) = l.map fun m => xs.toList.reverse.getD m .none := by
      intro l
      induction l with
      | nil => intro _; rfl
      | cons m l ih =>
        intro h
        rw [List.filterMap_cons, h m List.mem_cons_self, List.map_cons, ih fun k hk => h k (List.mem_cons_of_mem _ hk)]
    exact gen _ e
  rw [e2]
  apply List.ext_getElem?
  intro i
  rw [List.getElem?_map]
  by_cases h : i < xs.size
  · rw [List.getElem?_range h, List.getElem?_eq_getElem (by simpa using h)]
    simp only [Option.map_some, Option.some.injEq]
    rw [List.getD_eq_getElem?_getD, List.getElem?_eq_getElem (by simpa using h)]
    rfl
  · rw [List.getElem?_eq_none (by simpa using h), List.getElem?_eq_none (by simpa using h)]
    rfl
open PyProof.Rows in
theorem getItem_tuple_rev {t sl : Addr} {items : Array Value} {vs : Value} {Q : Value → Shared → Prop} (ht : IsTup s.heap t items) (hs : s.heap.IsSliceOf sl .none .none vs) (ps : IsPart vs (some (-1)))
    (h : Q (.ref s.heap.objs.size) { s with heap := s.heap.push { cls := .type "tuple", data := .seq items.toList.reverse.toArray } })
    (hsz : items.size ≤ sizeLine) : wpAny (model prog w) A (getItem (.ref t) (.ref sl)) Q E s := by
  have htake : sizeOk (.seq items.toList.reverse.toArray) := by
    show items.toList.reverse.toArray.size ≤ sizeLine
    simpa using hsz
  obtain ⟨os, hos, hcs, hds⟩ := id hs
  have hTs : s.TypeIs (.ref sl) "slice" := ⟨os, hos, hcs⟩
  unfold getItem
  try with_reducible refine wpAny_holding ?_
  first | refine wpAny_bind (wpAny_pure ?_) | skip
  refine wpAny_bind (wpAny_sequenceKey ht.typeIs (by decide) ?_)
  refine wpAny_bind (wpAny_callSpecial?_slot (name := Str.ofString "__getitem__") ht.typeIs PyProof.Rows.slot_tuple_getitem
    (wpAny_call_entry PyProof.Rows.slot_tuple_getitem ht.typeIs entry_tuple_getitem ?_ (args_tuple_getitem _ _)))
  show wpAny _ _ (Builtin.Tuple.tupleItemsOf (.ref t) >>= _) _ _ s
  refine wpAny_bind (tupleItemsOf_ ht ?_)
  refine wpAny_bind (wpAny_typeOf hTs ?_)
  rw [if_pos (by decide)]
  refine wpAny_bind (sliceApplied_rev hs ps ?_)
  have hno : ¬ (((items.size : Int) - 1 == 0 && (-1 : Int) == 1 && items.size == items.size) = true) := by simp
  show wpAny _ _ (if ((items.size : Int) - 1 == 0 && (-1 : Int) == 1 && items.size == items.size) = true then _ else _) _ _ s
  rw [if_neg hno, pick_rev]
  first
    | exact wpAny_bind (m := Builtin.Tuple.tupleExact _) (wpAny_newObj_type (wpAny_pure ⟨_, rfl, wpAny_pure h⟩) htake)
    | exact wpAny_bind (m := Builtin.Tuple.tupleExact _) (wpAny_newObj_type (wpAny_bind (wpAny_pure (wpAny_pure ⟨_, rfl, wpAny_pure h⟩))) htake)
    | exact wpAny_bind (wpAny_bind (m := Builtin.Tuple.tupleExact _) (wpAny_newObj_type (wpAny_pure (wpAny_pure ⟨_, rfl, wpAny_pure h⟩)) htake))
    | exact wpAny_bind (wpAny_bind (m := Builtin.Tuple.tupleExact _) (wpAny_newObj_type (wpAny_pure ⟨_, rfl, wpAny_pure h⟩) htake))
end
section
variable {X : Cx}
def tRevA (K : PySem.W.Frag) (te : TE) : TE := fun σ H Q => te σ H fun x H1 => ∃ O d w, Trk O H1 ∧ Rt K O H1 x d ∧ revV d = some w ∧ ∀ z H', NewV K O H1 H' w z → Q z H'
open PyProof.Rows in
theorem pe_revA {e : Expr} {te : TE} {k : Nat} {p1 p2 p3 pos : Pos} (he : PE X e te) : PE X (.Subscript e (.Slice none none (some (.UnaryOp .USub (.Constant (.int 1) k p1) p2)) p3) pos) (tRevA X.K te) := by
  refine ⟨fun pins s σ H Q I h => ?_⟩
  refine Subscript_ (thn (he.run pins s σ H _ I h) fun v s1 ⟨x, H1, I1, r1, q1⟩ => ?_)
  obtain ⟨O, d, w, tr, rx, ew, q⟩ := q1
  have hst : PO X (some (.UnaryOp .USub (.Constant (.int 1) k p1) p2)) (tPart (tUn (rU fun i => .int (-i)) (tC (.int 1)))) := po_some (pe_un un_neg pe_int)
  refine wpAny_Slice (thn (po_none.run pins s1 σ H1 (fun o H2 => o = none ∧ H2 = H1) I1 ⟨rfl, rfl⟩) fun vl s2 ⟨l, H2, I2, pl, el, e2⟩ => ?_)
  subst el e2
  refine thn (po_none.run pins s2 σ H2 (fun o H3 => o = none ∧ H3 = H2) I2 ⟨rfl, rfl⟩) fun vu s3 ⟨u, H3, I3, pu, eu, e3⟩ => ?_
  subst eu e3
  refine thn (hst.run pins s3 σ H3 (fun o H4 => o = some (-1) ∧ H4 = H3) I3 ⟨1, rfl, -1, rfl, rfl, rfl⟩) fun vs s4 ⟨o, H4, I4, ps, eo, e4⟩ => ?_
  subst eo e4
  have I5 : Inv X pins σ H4 { s4 with heap := s4.heap.push { cls := .type "slice", data := .fields #[vl, vu, vs] } } := I4.kept (t' := s4.toks) fun b ob q => Heap.get?_push_of_some _ q
  cases d <;> simp only [revV] at ew <;> first | (cases ew; done) | skip
  · cases ew
    obtain ⟨a, xs, rfl, ta, ra⟩ := rx.tup
    cases r1
    obtain ⟨its, r, ht, hz⟩ := I5.tuple ta.sq
    have hlen := r.length
    cases pl
    cases pu
    show wpAny (model X.prog X.w) X.A (subscriptTail e (.Slice none none (some (.UnaryOp .USub (.Constant (.int 1) k p1) p2)) p3) (.ref a) (.ref s4.heap.objs.size)) (EP X pins σ Q) X.xe { s4 with heap := s4.heap.push { cls := .type "slice", data := .fields #[.none, .none, vs] } }
    refine tail_any (ops := [.ref a, .ref s4.heap.objs.size]) ht.typeIs (PyProof.Rows.slot_tuple_getitem.lookup) ?_ (by with_unfolding_all rfl)
    refine getItem_tuple_rev ht (Heap.IsSliceOf.new _ .none .none vs) ps ?_ (by rw [List.size_toArray]; omega)
    exact ep_tup (us := its.reverse) (tk := s4.toks) I5 tr r.reverse (by rw [List.length_reverse]; exact hz) ra.reverse q
  · cases ew
    obtain ⟨a, xs, rfl, ta, ra⟩ := rx.lst
    cases r1
    obtain ⟨its, r, ht, hz⟩ := I5.list (.of ta)
    have hlen := r.length
    show wpAny (model X.prog X.w) X.A (subscriptTail e (.Slice none none (some (.UnaryOp .USub (.Constant (.int 1) k p1) p2)) p3) (.ref a) (.ref s4.heap.objs.size)) (EP X pins σ Q) X.xe { s4 with heap := s4.heap.push { cls := .type "slice", data := .fields #[vl, vu, vs] } }
    refine tail_any (ops := [.ref a, .ref s4.heap.objs.size]) ht.isList.typeIs (PySem.slot_list_getitem.lookup) ?_ (by with_unfolding_all rfl)
    refine wpAny_getItem_list_slice ht.isList (Heap.IsSliceOf.new _ vl vu vs) pl pu ps (by decide) ?_ (by rw [List.size_toArray]; omega)
    rw [PySem.W.krv_pick]
    refine ⟨.ref _, _, I5.laid (t' := s4.toks) (o := .lst xs.reverse) (fun b ob q => Heap.get?_push_of_some _ q) (Nat.le_refl _) ?_, rfl, q _ _ (new_lst (I5.hok.fresh (Nat.le_refl _)) ra.reverse)⟩
    exact ⟨by rw [List.length_reverse]; exact hz, _, 0, r.reverse, Heap.get?_push_size _ rfl⟩
end
section
variable {p : Pg} {cl : Cl} {lv : Nat} {cA : Nat → Value} {N : List Str} {sc : Scope} {fn : Str → Bool} {X : Cx} {W : WN}
theorem snd_rev {a : E} {t : Pt} (ha : PE X (fE N p a (t.c 0)) (TmE X.K W (evE p cl a))) : PE X (fE N p (.rev a) t) (TmE X.K W (evE p cl (.rev a))) :=
  PE_imp (pe_revA ha) fun σ H Q ht => tm_op1 (r := fun x H1 Q => ∃ O d w, Trk O H1 ∧ Rt X.K O H1 x d ∧ revV d = some w ∧ ∀ z H', NewV X.K O H1 H' w z → Q z H') (fun _ _ _ z => z) ht
/-! ## sorted(set(e)) -/
theorem snd_srtSet (h : XOk p cl lv cA N sc fn X W) {a : E} {t : Pt} (w : wfE N p sc fn (.ofR .sorted (.seq a)) t = true) (ha : PE X (fE N p a (t.c 2)) (TmE X.K W (evE p cl a))) : PE X (fE N p (.ofR .sorted (.seq a)) t) (TmE X.K W (evE p cl (.ofR .sorted (.seq a)))) := by
  simp only [wfE, Bool.and_eq_true] at w
  have hu : X.A.units + 65 < cLine := by
    have := h.units
    omega
  have h1 : PE X (.Call (.Name "set" (t.c 1).p) [fE N p a (t.c 2)] [] (t.c 3).p) (tCB (rSet X.K X.prog X.w) (tCons (TmE X.K W (evE p cl a)) tNil)) :=
    pe_callTy (cr_set h.calm hu) (gl_of h w.1.2) (h.g.bis .set rfl) (by decide +kernel) (pa_cons ha pa_nil (star_cons _ _ [] _)) (by decide) (by decide) (star_cons _ _ _ _) (by rfl)
  refine PE_imp (pe_callB (cr_srt h.calm hu) (gl_of h w.1.1) (h.g.bis .sorted rfl) (by decide +kernel) (pa_cons h1 pa_nil rfl) (by decide) (by decide) rfl (by rfl)) fun σ H Q ht => ?_
  exact tm_op1 (r := fun x H Q => rSet X.K X.prog X.w [x] H fun z H2 => rSrt X.K X.prog X.w [z] H2 Q) (fun x H Q q => ss_ok q) (by simpa only [evE] using ht)
end
end Lw
set_option linter.all false
set_option Elab.async false
set_option maxRecDepth 100000
set_option maxHeartbeats 1000000
namespace Lw
open PySem PySem.Spec L2
section
variable {p : Pg} {cl : Cl} {lv : Nat} {cA : Nat → Value} {N : List Str}
/-- an expression, as a value and as a test -/
def SndE (p : Pg) (cl : Cl) (N : List Str) (X : Cx) (W : WN) (e : E) (t : Pt) : Prop := PE X (fE N p e t) (TmE X.K W (evE p cl e)) ∧ (tstE e = true → PT X (fE N p e t) (TmT p cl X.K W e))
def SndL (p : Pg) (cl : Cl) (N : List Str) (X : Cx) (W : WN) (es : List E) (t : Pt) (i : Nat) : Prop := PA X (fEs N p es t i) (TmL X.K W (evEs p cl es)) ∧ (es ≠ [] → ∀ pos,
  PE X (.BoolOp .And (fEs N p es t i) pos) (TmE X.K W (evAnd p cl es)) ∧ PE X (.BoolOp .Or (fEs N p es t i) pos) (TmE X.K W (evOr p cl es)) ∧
    (tstEs es = true → PW X (.BoolOp .And (fEs N p es t i) pos) (TmB X.K W fun env => truR (evAnd p cl es env)) ∧ PW X (.BoolOp .Or (fEs N p es t i) pos) (TmB X.K W fun env => truR (evOr p cl es env))))
theorem snd_of {X : Cx} {W : WN} {e : E} {t : Pt} (ha : PE X (fE N p e t) (TmE X.K W (evE p cl e))) (he : ∀ whole, isTrue (fE N p e t) X.env whole = (do let v ← whole; standAt (fE N p e t).pos; holding [v] (truthy v))) : SndE p cl N X W e t := ⟨ha, fun _ => snt_any ha he⟩
mutual
theorem sndE : ∀ (e : E) {sc : Scope} {fn : Str → Bool} {X : Cx} {W : WN} {t : Pt}, XOk p cl lv cA N sc fn X W → wfE N p sc fn e t = true → SndE p cl N X W e t
  | .var i, _, _, _, _, _, h, w => snd_of (snd_var h w) fun _ => rfl
  | .int i, _, _, _, _, _, h, w => snd_of (PE_imp pe_int (tm_c fun _ _ => .int i)) fun _ => rfl
  | .bl b, _, _, _, _, _, h, w => snd_of (PE_imp pe_bl (tm_c fun _ _ => .bl b)) fun _ => rfl
  | .non, _, _, _, _, _, h, w => snd_of (PE_imp pe_non (tm_c fun _ _ => .non)) fun _ => rfl
  | .str x, _, _, _, _, _, h, w => snd_of (PE_imp pe_str (tm_c fun _ _ => .str x)) fun _ => rfl
  | .glob c, _, _, _, _, _, h, w => snd_of (snd_glob h w) fun _ => rfl
  | .tup es, _, _, _, _, _, h, w => snd_of (snd_tup (sndEs es h (by simpa only [wfE] using w)).1) fun _ => rfl
  | .lst es, _, _, _, _, _, h, w => snd_of (snd_lst (sndEs es h (by simpa only [wfE] using w)).1) fun _ => rfl
  | .bin o a b, _, _, _, _, _, h, w => by
    simp only [wfE, Bool.and_eq_true] at w
    exact snd_of (snd_bin (sndE a h w.1).1 (sndE b h w.2).1) fun _ => rfl
  | .neg a, _, _, _, _, _, h, w => by
    simp only [wfE] at w
    exact snd_of (snd_neg (sndE a h w).1) fun _ => rfl
  | .not a, _, _, _, _, _, h, w => by
    simp only [wfE] at w
    exact ⟨snd_not (sndE a h w).1, fun q => snt_not ((sndE a h w).2 (by simpa only [tstE] using q))⟩
  | .and es, _, _, _, _, t, h, w => by
    simp only [wfE, Bool.and_eq_true, Bool.not_eq_true', List.isEmpty_eq_false_iff] at w
    have := (sndEs es h w.1).2 w.2 t.p
    exact ⟨by simp only [evE]; exact this.1, fun q => by
      simp only [TmT, evE]; exact (this.2.2 (by simpa only [tstE] using q)).1.pt⟩
  | .or es, _, _, _, _, t, h, w => by
    simp only [wfE, Bool.and_eq_true, Bool.not_eq_true', List.isEmpty_eq_false_iff] at w
    have := (sndEs es h w.1).2 w.2 t.p
    exact ⟨by simp only [evE]; exact this.2.1, fun q => by
      simp only [TmT, evE]; exact (this.2.2 (by simpa only [tstE] using q)).2.pt⟩
  | .ife c a b, _, _, _, _, _, h, w => by
    simp only [wfE, Bool.and_eq_true] at w
    exact ⟨snd_ife ((sndE c h w.1.1.1).2 w.1.1.2) (sndE a h w.1.2).1 (sndE b h w.2).1, fun q => by simp [tstE] at q⟩
  | .cmp o a b, _, _, _, _, _, h, w => by
    simp only [wfE, Bool.and_eq_true] at w
    exact ⟨snd_cmp h (sndE a h w.1).1 (sndE b h w.2).1, fun _ => snt_cmp h (sndE a h w.1).1 (sndE b h w.2).1⟩
  | .chn o o' a b c, _, _, _, _, _, h, w => by
    simp only [wfE, Bool.and_eq_true] at w
    exact ⟨snd_chn h (sndE a h w.1.1).1 (sndE b h w.1.2).1 (sndE c h w.2).1, fun _ => snt_chn h (sndE a h w.1.1).1 (sndE b h w.1.2).1 (sndE c h w.2).1⟩
  | .isN a, _, _, _, _, _, h, w => by
    simp only [wfE] at w
    exact ⟨snd_isN (sndE a h w).1, fun _ => snt_isN (sndE a h w).1⟩
  | .notN a, _, _, _, _, _, h, w => by
    simp only [wfE] at w
    exact ⟨snd_notN (sndE a h w).1, fun _ => snt_notN (sndE a h w).1⟩
  | .idx a i, _, _, _, _, _, h, w => by
    simp only [wfE, Bool.and_eq_true] at w
    exact snd_of (snd_idx (sndE a h w.1).1 (sndE i h w.2).1) fun _ => rfl
  | .sl a lo hi, _, _, _, _, _, h, w => by
    simp only [wfE, Bool.and_eq_true] at w
    exact snd_of (snd_sl (sndE a h w.1.1).1 (sndO lo h w.1.2) (sndO hi h w.2)) fun _ => rfl
  | .rev a, _, _, _, _, _, h, w => by
    simp only [wfE] at w
    exact snd_of (snd_rev (sndE a h w).1) fun _ => rfl
  | .call f es, _, _, _, _, _, h, w => by
    have w' := w
    simp only [wfE, Bool.and_eq_true] at w'
    exact snd_of (snd_call h w (sndEs es h w'.2).1) fun _ => rfl
  | .bi b es, _, _, _, _, _, h, w => by
    have w' := w
    simp only [wfE, Bool.and_eq_true] at w'
    exact snd_of (snd_bi h w (sndEs es h w'.1.1.2).1) fun _ => rfl
  | .isi a T, _, _, _, _, _, h, w => by
    have w' := w
    simp only [wfE, Bool.and_eq_true] at w'
    exact snd_of (snd_isi h w (sndE a h w'.2).1) fun _ => rfl
  | .isx _ _, _, _, _, _, _, h, w => by simp [wfE] at w
  | .meth m o es, _, _, _, _, _, h, w => by
    have w' := w
    simp only [wfE, Bool.and_eq_true] at w'
    exact snd_of (snd_meth h w (sndE o h w'.1.2).1 (sndEs es h w'.2).1) fun _ => rfl
  | .pop i, _, _, _, _, _, h, w => snd_of (snd_pop h w) fun _ => rfl
  | .app i e, _, _, _, _, _, h, w => by
    have w' := w
    simp only [wfE, Bool.and_eq_true] at w'
    exact snd_of (snd_app h w (sndE e h w'.2).1) fun _ => rfl
  | .rvs i, _, _, _, _, _, h, w => snd_of (snd_rvs h w) fun _ => rfl
  | .lc elt tg it cond own, _, _, _, _, t, h, w => by
    have w' := w
    simp only [wfE, Bool.and_eq_true] at w'
    exact snd_of (snd_lc h w (sndI it h w'.1.1.1.1.2.1 w'.1.1.1.1.2.2) (fun hY => sndC cond hY w'.1.2) (fun hY => (sndE elt hY w'.2).1)) fun _ => rfl
  | .lc2 elt tg it tg2 it2 cond own own2, _, _, _, _, t, h, w => by
    have w' := w
    simp only [wfE, Bool.and_eq_true] at w'
    obtain ⟨⟨⟨⟨⟨⟨⟨⟨⟨w1, w2, w2'⟩, w3⟩, w4⟩, w5, w5'⟩, w6⟩, w7⟩, w8⟩, w9⟩, w10⟩ := w'
    exact snd_of (snd_lc2 h w (sndI it h w2 w2') (fun hY => sndI it2 hY w5 w5') (fun hY => sndC cond hY w9) (fun hY => (sndE elt hY w10).1)) fun _ => rfl
  | .sc .., _, _, _, _, _, h, w => by simp [wfE] at w
  | .ofR .sorted (.seq a), _, _, _, _, t, h, w => by
    have w' := w
    simp only [wfE, Bool.and_eq_true] at w'
    exact snd_of (snd_srtSet h w (sndE a h w'.2).1) fun _ => rfl
  | .ofR .sorted (.rng _), _, _, _, _, _, h, w => by simp [wfE] at w
  | .ofR .sorted (.zip _ _), _, _, _, _, _, h, w => by simp [wfE] at w
  | .ofR .sorted (.enum _), _, _, _, _, _, h, w => by simp [wfE] at w
  | .ofR .gcd _, _, _, _, _, _, h, w => by simp [wfE] at w
  | .ofR .len _, _, _, _, _, _, h, w => by simp [wfE] at w
  | .ofR .int _, _, _, _, _, _, h, w => by simp [wfE] at w
  | .ofR .abs _, _, _, _, _, _, h, w => by simp [wfE] at w
  | .ofR .min _, _, _, _, _, _, h, w => by simp [wfE] at w
  | .ofR .max _, _, _, _, _, _, h, w => by simp [wfE] at w
  | .ofR .sum _, _, _, _, _, _, h, w => by simp [wfE] at w
  | .ofR .tuple _, _, _, _, _, _, h, w => by simp [wfE] at w
  | .ofR .list _, _, _, _, _, _, h, w => by simp [wfE] at w
  | .ofR .any _, _, _, _, _, _, h, w => by simp [wfE] at w
  | .ofR .all _, _, _, _, _, _, h, w => by simp [wfE] at w
  | .ofR .set _, _, _, _, _, _, h, w => by simp [wfE] at w
  | .ofR .str _, _, _, _, _, _, h, w => by simp [wfE] at w
  | .ofR .bool _, _, _, _, _, _, h, w => by simp [wfE] at w
theorem sndEs : ∀ (es : List E) {sc : Scope} {fn : Str → Bool} {X : Cx} {W : WN} {t : Pt} {i : Nat}, XOk p cl lv cA N sc fn X W → wfEs N p sc fn es t i = true → SndL p cl N X W es t i
  | [], _, _, _, _, _, _, h, w => ⟨sna_nil, fun q => absurd rfl q⟩
  | e :: es, _, _, _, _, t, i, h, w => by
    simp only [wfEs, Bool.and_eq_true] at w
    have h1 := sndE e h w.1
    have h2 := sndEs es h w.2
    refine ⟨sna_cons h1.1 h2.1, fun _ pos => ?_⟩
    cases es with
    | nil =>
      refine ⟨snd_and1 h1.1, snd_or1 h1.1, fun q => ?_⟩
      simp only [tstEs, Bool.and_eq_true] at q
      exact ⟨snt_and1 (h1.2 q.1), snt_or1 (h1.2 q.1)⟩
    | cons e2 es =>
      obtain ⟨g1, g2, g3⟩ := h2.2 (by simp) pos
      refine ⟨snd_and2 h1.1 g1, snd_or2 h1.1 g2, fun q => ?_⟩
      simp only [tstEs, Bool.and_eq_true] at q
      obtain ⟨k1, k2⟩ := g3 (by simp only [tstEs, Bool.and_eq_true]; exact q.2)
      exact ⟨snt_and2 (h1.2 q.1) k1, snt_or2 (h1.2 q.1) k2⟩
theorem sndO : ∀ (o : Option E) {sc : Scope} {fn : Str → Bool} {X : Cx} {W : WN} {t : Pt}, XOk p cl lv cA N sc fn X W → wfO N p sc fn o t = true → PO X (fO N p o t) (TmO X.K W (evO p cl o))
  | none, _, _, _, _, _, h, w => po_no
  | some e, _, _, _, _, _, h, w => by
    simp only [wfO] at w
    exact po_so (sndE e h w).1
theorem sndC : ∀ (o : Option E) {sc : Scope} {fn : Str → Bool} {X : Cx} {W : WN} {t : Pt}, XOk p cl lv cA N sc fn X W → wfC N p sc fn o t = true → ∀ c, o = some c → PT X (fE N p c t) (TmT p cl X.K W c)
  | none, _, _, _, _, _, h, w => fun c q => nomatch q
  | some e, _, _, _, _, _, h, w => fun c q => by
    simp only [wfC, Bool.and_eq_true] at w
    cases q
    exact (sndE e h w.1).2 w.2
theorem sndI : ∀ (it : It) {sc : Scope} {fn : Str → Bool} {X : Cx} {W : WN} {t t' : Pt} {g : Tg}, XOk p cl lv cA N sc fn X W → wfI N p sc fn it t = true → zipG it g = true → PI X (fT N g t') (fI N p it t) (TmI X.K W g (evI p cl it))
  | .seq e, _, _, _, _, _, _, _, h, w, _ => by
    simp only [wfI] at w
    exact sni_seq (sndE e h w).1
  | .rng es, _, _, _, _, _, _, _, h, w, _ => by
    have w' := w
    simp only [wfI, Bool.and_eq_true] at w'
    exact sni_rng h w (sndEs es h w'.2).1
  | .zip a b, _, _, _, _, _, _, .tup ns, h, w, _ => by
    have w' := w
    simp only [wfI, Bool.and_eq_true] at w'
    exact sni_zip h w (sna_cons (sndE a h w'.1.2).1 (sna_cons (sndE b h w'.2).1 sna_nil))
  | .zip _ _, _, _, _, _, _, _, .nm _, _, _, z => by simp [zipG] at z
  | .enum _, _, _, _, _, _, _, _, h, w, _ => by simp [wfI] at w
end
end
end Lw
set_option linter.all false
set_option Elab.async false
set_option maxRecDepth 100000
set_option maxHeartbeats 1000000
namespace Lw
open PySem PySem.Spec L2

/-! ## statements: text, places -/
mutual
def fS (N : List Str) (p : Pg) : S → Pt → Stmt
  | .expr e, t => .Expr (fE N p e (t.c 0)) t.p
  | .asg g e, t => .Assign [fT N g (t.c 0)] (fE N p e (t.c 1)) t.p
  | .asgP ns es, t => .Assign [.Tuple (fNs N ns (t.c 0) 0) (t.c 0).k (t.c 0).p] (.Tuple (fEs N p es (t.c 1) 0) (t.c 1).k (t.c 1).p) t.p
  | .aug i o e, t => .AugAssign (.Name (nmN N i) (t.c 0).p) (opOf o) (fE N p e (t.c 1)) t.p
  | .setI i k e, t => .Assign [.Subscript (.Name (nmN N i) (t.c 0).p) (fE N p k (t.c 1)) (t.c 2).p] (fE N p e (t.c 3)) t.p
  | .augI i k o e, t => .AugAssign (.Subscript (.Name (nmN N i) (t.c 0).p) (fE N p k (t.c 1)) (t.c 2).p) (opOf o) (fE N p e (t.c 3)) t.p
  | .ife c a b, t => .If (fE N p c (t.c 0)) (fSs N p a (t.c 1) 0) (fSs N p b (t.c 2) 0) t.p
  | .for g it b, t => .For (fT N g (t.c 0)) (fI N p it (t.c 1)) (fSs N p b (t.c 2) 0) [] t.p
  | .while c b, t => .While (fE N p c (t.c 0)) (fSs N p b (t.c 1) 0) [] t.p
  | .ret e, t => .Return (some (fE N p e (t.c 0))) t.p
  | .retN, t => .Return none t.p
  | .raise c m, t => .Raise (some (.Call (.Name (p.XN.getD c "__debug__") (t.c 0).p) [.Constant (.str m) (t.c 1).k (t.c 1).p] [] (t.c 2).p)) none t.p
  | .tryAs b c i h, t => .Try (fSs N p b (t.c 0) 0) [.ExceptHandler (some (.Name (p.XN.getD c "__debug__") (t.c 1).p)) (some (nmN N i)) (fSs N p h (t.c 2) 0) (t.c 3).p] [] [] t.p
  | .tryO b c h, t => .Try (fSs N p b (t.c 0) 0) [.ExceptHandler (some (.Name (p.XN.getD c "__debug__") (t.c 1).p)) none (fSs N p h (t.c 2) 0) (t.c 3).p] [] [] t.p
  | .pass, t => .Pass t.p
  | .brk, t => .Break t.p
  | .cont, t => .Continue t.p
def fSs (N : List Str) (p : Pg) : List S → Pt → Nat → List Stmt
  | [], _, _ => []
  | s :: ss, t, i => fS N p s (t.c i) :: fSs N p ss t (i + 1)
end

/-! ## readings -/
section
variable {K : PySem.W.Frag} {W : WN} {B : Base} {O O' O1 O2 : OS} {σ : SS} {H H' H1 H2 : Hp} {env e1 : Env}
theorem Kept.trans (a : Kept O H O1 H1) (b : Kept O1 H1 O2 H2) : Kept O H O2 H2 := by
  have n1 : ∀ x o, ¬ O x → H x = some o → ¬ O1 x := fun x o n h z => (a.own x z).elim n fun e => by rw [e] at h; cases h
  refine ⟨fun x o n h => b.keep x o (n1 x o n h) (a.keep x o n h), fun x h => ?_⟩
  by_cases q : O x
  · exact .inl q
  · cases e : H x with
    | none => exact .inr rfl
    | some o =>
      rcases b.own x h with z | z
      · exact absurd z (n1 x o q e)
      · rw [a.keep x o q e] at z; cases z
def PostS (K : PySem.W.Frag) (W : WN) (B : Base) (O : OS) (H : Hp) (r : R Flow) (D : Ends) : Prop := match r with
  | .ok f e' => ∀ O' σ' H', Kept O H O' H' → FrameOk K B O' σ' H' e' → (match f with
      | .nxt => D.nx σ' H'
      | .brk => D.bk σ' H'
      | .cont => D.ct σ' H'
      | .ret v => ∀ x, ValOk K B O' σ' H' e' v x → D.rt x H')
  | .exc c e' => ∀ O' σ' H', Kept O H O' H' → FrameOk K B O' σ' H' e' → W c σ' H'
  | .bad => False
def TmS (K : PySem.W.Frag) (W : WN) (f : Env → R Flow) : TS := fun D σ H => ∃ B O env, FrameOk K B O σ H env ∧ PostS K W B O H (f env) D
theorem PostS.kept {r : R Flow} {D : Ends} (k : Kept O H O1 H1) (h : PostS K W B O H r D) : PostS K W B O1 H1 r D := by
  cases r with
  | bad => exact h
  | exc c e => exact fun O' σ' H' k2 F => h O' σ' H' (k.trans k2) F
  | ok f e => exact fun O' σ' H' k2 F => h O' σ' H' (k.trans k2) F
/-- what is known behind the expression of a statement -/
def MidS {α β : Type} (K : PySem.W.Frag) (W : WN) (B : Base) (O : OS) (σ : SS) (H : Hp) (env : Env) (r : R α) (g : α → Env → R Flow) (D : Ends) (ok1 : OS → Hp → Env → α → β → Prop) (b : β) (H1 : Hp) : Prop :=
  ∃ a e1 O1, r = .ok a e1 ∧ Step σ env e1 O H O1 H1 ∧ FrameOk K B O1 σ H1 e1 ∧ ok1 O1 H1 e1 a b ∧ PostS K W B O1 H1 (g a e1) D
theorem PostS.bind {α β : Type} {r : R α} {g : α → Env → R Flow} {D : Ends} {ok1 : OS → Hp → Env → α → β → Prop} (F : FrameOk K B O σ H env) (h : PostS K W B O H (r.bind g) D) : Post K W B O σ H env r ok1 (MidS K W B O σ H env r g D ok1) := by
  cases r with
  | bad => exact h
  | exc c e' => exact fun O' H' s F' => h O' σ H' (s.kept F) F'
  | ok a e' => exact fun b O1 H1 s F' k => ⟨a, e', O1, rfl, s, F', k, PostS.kept (s.kept F) h⟩
/-- behind a statement: the next -/
theorem PostS.seq {r : R Flow} {g : Env → R Flow} {D : Ends} (h : PostS K W B O H (r.bind fun f e => match f with
    | .nxt => g e
    | f => .ok f e) D) : PostS K W B O H r { D with nx := TmS K W g D } := by
  cases r with
  | bad => exact h
  | exc c e' => exact h
  | ok f e' =>
    cases f with
    | nxt => exact fun O' σ' H' k F => ⟨B, O', e', F, PostS.kept k h⟩
    | brk => exact h
    | cont => exact h
    | ret v => exact h
end

section
variable {p : Pg} {cl : Cl} {lv : Nat} {cA : Nat → Value} {N : List Str} {sc : Scope} {fn : Str → Bool} {X : Cx} {W : WN}
def SndS (p : Pg) (cl : Cl) (N : List Str) (X : Cx) (W : WN) (s : S) (t : Pt) : Prop := PS X (fS N p s t) (TmS X.K W (evS p cl s))
def SndSs (p : Pg) (cl : Cl) (N : List Str) (X : Cx) (W : WN) (s : List S) (t : Pt) (i : Nat) : Prop := PSs X (fSs N p s t i) (TmS X.K W (evSs p cl s))
theorem sns_nil {t : Pt} {i : Nat} : SndSs p cl N X W [] t i := PSs_imp pss_nil fun D σ H ⟨B, O, env, F, hp⟩ => hp O σ H .refl F
theorem sns_cons {s : S} {ss : List S} {t : Pt} {i : Nat} (h1 : SndS p cl N X W s (t.c i)) (h2 : SndSs p cl N X W ss t (i + 1)) : SndSs p cl N X W (s :: ss) t i := by
  refine PSs_imp (pss_cons h1 h2) ?_
  rintro D σ H ⟨B, O, env, F, hp⟩
  simp only [evSs] at hp
  exact ⟨B, O, env, F, PostS.seq hp⟩
theorem sns_pass {t : Pt} : SndS p cl N X W .pass t := PS_imp ps_pass fun D σ H ⟨B, O, env, F, hp⟩ => hp O σ H .refl F
theorem sns_brk {t : Pt} : SndS p cl N X W .brk t := PS_imp ps_break fun D σ H ⟨B, O, env, F, hp⟩ => hp O σ H .refl F
theorem sns_cont {t : Pt} : SndS p cl N X W .cont t := PS_imp ps_continue fun D σ H ⟨B, O, env, F, hp⟩ => hp O σ H .refl F
theorem sns_retN {t : Pt} : SndS p cl N X W .retN t := PS_imp ps_retN fun D σ H ⟨B, O, env, F, hp⟩ => hp O σ H .refl F .non ⟨.non, trivial⟩
theorem sns_ret {e : E} {t : Pt} (he : PE X (fE N p e (t.c 0)) (TmE X.K W (evE p cl e))) : SndS p cl N X W (.ret e) t := by
  refine PS_imp (ps_ret he) ?_
  rintro D σ H ⟨B, O, env, F, hp⟩
  simp only [evS] at hp
  refine ⟨B, O, env, F, Post.mono (PostS.bind (ok1 := okV X.K B σ) F hp) ?_⟩
  rintro x H1 ⟨v, e1, O1, _, s1, F1, k1, hp2⟩
  exact hp2 O1 σ H1 .refl F1 x k1
def isLc : E → Bool
  | .lc .. => true
  | .lc2 .. => true
  | .sc .. => true
  | _ => false
theorem sw_no {e : E} {t : Pt} {g : Option Expr} {l : Nat} {env : PySem.Env} (h : isLc e = false) : swapsWith (fE N p e t) g l env = pure false := by
  cases e with
  | ofR b it => cases it <;> rfl
  | _ => first | rfl | simp [isLc] at h
theorem sns_expr {e : E} {t : Pt} (w : isLc e = false) (he : PE X (fE N p e (t.c 0)) (TmE X.K W (evE p cl e))) : SndS p cl N X W (.expr e) t := by
  refine PS_imp (ps_expr he (sw_no w)) ?_
  rintro D σ H ⟨B, O, env, F, hp⟩
  simp only [evS] at hp
  refine ⟨B, O, env, F, Post.mono (PostS.bind (ok1 := okV X.K B σ) F hp) ?_⟩
  rintro x H1 ⟨v, e1, O1, _, s1, F1, k1, hp2⟩
  exact hp2 O1 σ H1 .refl F1
theorem sns_ife {c : E} {a b : List S} {t : Pt} (hc : PT X (fE N p c (t.c 0)) (TmT p cl X.K W c)) (ha : SndSs p cl N X W a (t.c 1) 0) (hb : SndSs p cl N X W b (t.c 2) 0) : SndS p cl N X W (.ife c a b) t := by
  refine PS_imp (ps_if hc ha hb) ?_
  rintro D σ H ⟨B, O, env, F, hp⟩
  simp only [evS] at hp
  refine ⟨B, O, env, F, Post.mono (PostS.bind (ok1 := okE) F hp) ?_⟩
  rintro k H1 ⟨k', e1, O1, _, s1, F1, ek, hp2⟩
  cases ek
  cases k with
  | true => exact ⟨B, O1, e1, F1, hp2⟩
  | false => exact ⟨B, O1, e1, F1, hp2⟩
end
end Lw
set_option linter.all false
set_option Elab.async false
set_option maxRecDepth 100000
set_option maxHeartbeats 1000000
namespace Lw
open PySem PySem.Spec L2

/-! ## x op= y -/
section
open PyProof PyProof.Rows
variable {prog : Program} {w : World} {A : Around} {E : Value → Shared → Prop} {s : Shared}
theorem noI_tuple_add : typeLookup (.type "tuple") (dunderI "add") = pure none := by rw [typeLookup_type, builtinLookup_eq_fast]; kernel_rfl
theorem icat_tup {t b : Addr} {vs ws : List Value} {Q : Value → Shared → Prop} (ht : IsTup s.heap t vs.toArray) (hb : IsTup s.heap b ws.toArray) (h0 : vs = [] → Q (.ref b) s)
    (h1 : vs ≠ [] → ws = [] → Q (.ref t) s) (h2 : vs ≠ [] → ws ≠ [] → Q (.ref s.heap.objs.size) { s with heap := s.heap.push { cls := .type "tuple", data := .seq (vs ++ ws).toArray } })
    (hsz : vs.length + ws.length ≤ sizeLine) : wpAny (model prog w) A (inplaceOp .Add (.ref t) (.ref b)) Q E s := by
  obtain ⟨⟨cls, dd, data, sl⟩, ho, hc, n, hd⟩ := id ht
  obtain ⟨⟨cls2, dd2, data2, sl2⟩, ho2, hc2, n2, hd2⟩ := id hb
  simp only at hc hd hc2 hd2
  subst hc hd hc2 hd2
  have e : vs.toArray ++ ws.toArray = (vs ++ ws).toArray := by simp
  refine PyProof.Rows.inplaceOp_concat ⟨_, ho, rfl⟩ ⟨_, ho2, rfl⟩ noI_tuple_add noFill_tuple_add seq_tuple_add ?_
  by_cases hv : vs = []
  · exact call_meets PySem.F.slot_tuple_add ⟨_, ho, rfl⟩ PySem.F.entry_tuple_add (PySem.F.args_tuple_add_2 _ _) (tuple_addW0 t b vs.toArray ws.toArray n n2 dd dd2 sl sl2 (by simp [hv])) ⟨ho, ho2, h0 hv⟩
  · by_cases hw : ws = []
    · exact call_meets PySem.F.slot_tuple_add ⟨_, ho, rfl⟩ PySem.F.entry_tuple_add (PySem.F.args_tuple_add_2 _ _) (tuple_addW1 t b vs.toArray ws.toArray n n2 dd dd2 sl sl2 (by simpa using hv) (by simp [hw])) ⟨ho, ho2, h1 hv hw⟩
    · refine call_meets PySem.F.slot_tuple_add ⟨_, ho, rfl⟩ PySem.F.entry_tuple_add (PySem.F.args_tuple_add_2 _ _) (tuple_addW2 t b vs.toArray ws.toArray n n2 dd dd2 sl sl2 (by simpa using hv) (by simpa using hw) (by rw [List.size_toArray, List.size_toArray]; exact hsz)) ⟨ho, ho2, ?_⟩
      rw [e]
      exact h2 hv hw
end
def AugR (X : Cx) (o : BOp) : TIp := fun x y H Q => ∃ O a b w, Trk O H ∧ Rt X.K O H x a ∧ Rt X.K O H y b ∧ augV o a b = some w ∧ ∀ z H', NewV X.K O H H' (.sh w) z → Q z H'
section
variable {X : Cx}
theorem aug_ok : ∀ o : BOp, PIp X (opOf o) (AugR X o) := by
  intro o pins s σ H x y v u Q I rx ry h
  obtain ⟨O, a, b, w, t, ra, rb, e, q⟩ := h
  cases o <;> cases a <;> cases b <;> simp only [augV] at e <;> first | cases e | skip
  · have e1 := ra.int; have e2 := rb.int
    subst e1; subst e2
    exact iop_add pins s σ H _ _ v u Q I rx ry ⟨_, _, rfl, rfl, q _ _ (new_sh (.int _))⟩
  · have e1 := ra.str; have e2 := rb.str
    subst e1; subst e2
    split at e
    · rename_i hz
      cases e
      exact iop_add_str pins s σ H _ _ v u Q I rx ry ⟨_, _, rfl, rfl, (by rw [sizeLine_eq]; exact hz), q _ _ (new_sh (.str _))⟩
    · cases e
  · rename_i xs ys
    cases e0 : catD xs ys with
    | none => rw [e0] at e; cases e
    | some zs =>
      rw [e0] at e; cases e
      obtain ⟨rfl, hz⟩ := cat_ok e0
      obtain ⟨a, vs, rfl, ta, ra⟩ := ra.tup
      obtain ⟨b, ws, rfl, tb, rb⟩ := rb.tup
      cases rx
      cases ry
      obtain ⟨its, r1, p1, _⟩ := I.tuple ta.sq
      obtain ⟨its2, r2, p2, _⟩ := I.tuple tb.sq
      have l1 := ra.length
      have l2 := rb.length
      refine icat_tup p1 p2 (fun z => ?_) (fun _ z => ?_) (fun _ _ => ?_) (by rw [← r1.length, ← r2.length, l1, l2]; exact hz)
      · subst z
        have e : vs = [] := by cases r1; rfl
        subst e
        have e : xs = [] := by cases ra; rfl
        subst e
        exact ⟨.ref b, H, I, rfl, q _ _ (new_sh (.tup tb rb))⟩
      · subst z
        have e : ws = [] := by cases r2; rfl
        subst e
        have e : ys = [] := by cases rb; rfl
        subst e
        rw [List.append_nil] at q
        exact ⟨.ref a, H, I, rfl, q _ _ (new_sh (.tup ta ra))⟩
      · exact ep_tup (us := its ++ its2) I t (r1.append r2) (by rw [List.length_append, l1, l2]; exact hz) (ra.append rb) q s.toks
  · have e1 := ra.int; have e2 := rb.int
    subst e1; subst e2
    exact iop_sub pins s σ H _ _ v u Q I rx ry ⟨_, _, rfl, rfl, q _ _ (new_sh (.int _))⟩
  · have e1 := ra.int; have e2 := rb.int
    subst e1; subst e2
    split at e
    · rename_i hm
      cases e
      obtain ⟨t1, rfl⟩ := rx
      obtain ⟨t2, rfl⟩ := ry
      exact PyProof.Rows.imul_int ⟨.int _, H, I.tok _, ⟨_, rfl⟩, q _ _ (new_sh (.int _))⟩ (mulOk_ok hm)
    · cases e
  · have e1 := ra.int; have e2 := rb.int
    subst e1; subst e2
    split at e
    · rename_i hm
      cases e
      obtain ⟨t1, rfl⟩ := rx
      obtain ⟨t2, rfl⟩ := ry
      exact PyProof.Rows.ifloordiv_int (by omega) (by rw [Int.fdiv_eq_ediv_of_nonneg _ (by omega)]; exact ⟨.int _, H, I.tok _, ⟨_, rfl⟩, q _ _ (new_sh (.int _))⟩) (.inl (PyProof.noPylong_of_log2 (log_lt hm.2)))
    · cases e
  · have e1 := ra.int; have e2 := rb.int
    subst e1; subst e2
    split at e
    · rename_i hm
      cases e
      exact iop_mod pins s σ H _ _ v u Q I rx ry ⟨_, _, rfl, rfl, hm, q _ _ (new_sh (.int _))⟩
    · cases e
end

/-! ## storing a new list -/
section
variable {K : PySem.W.Frag} {W : WN} {B : Base} {O O' O1 O2 : OS} {σ : SS} {H H' H1 H2 : Hp} {env e1 : Env}
theorem FrameOk.setFr (F : FrameOk K B O σ H env) {i : Nat} {a : Addr} {vs : List V} {xs : List D} (oa : O a) (ha : H a = some (.lst vs)) (r : RpL K O H vs xs) (hb : B.H a = none) (nm : ¬ Mine σ env a) : FrameOk K B O (σ.set i (some (.ref a))) H (env.set i (.own false xs)) := by
  refine ⟨by simp [F.len], fun j => ?_, fun j k l m ys zs b h1 h2 h3 h4 => ?_, F.bo, F.bh, F.bw, F.bl, F.bt, F.ot⟩
  · rw [Env.at_set]
    split
    · rename_i hn
      obtain ⟨rfl, hl⟩ := hn
      exact ⟨a, vs, List.getElem?_set_self (by rw [F.len]; exact hl), oa, ha, r, hb⟩
    · rename_i hn
      have hs := F.slot j
      have key : ∀ w, σ[j]? = some w → env.at j ≠ .no → (σ.set i (some (V.ref a)))[j]? = some w := fun w h n => by
        have hj := Env.lt_of n
        rw [List.getElem?_set_ne (fun z => hn ⟨z, by rw [z]; exact hj⟩)]
        exact h
      cases q : env.at j with
      | no => trivial
      | sh d =>
        rw [q] at hs
        obtain ⟨v, g1, g2⟩ := hs
        exact ⟨v, key _ g1 (by rw [q]; exact fun z => nomatch z), g2⟩
      | own l ys =>
        rw [q] at hs
        obtain ⟨b, ws, g1, g2⟩ := hs
        exact ⟨b, ws, key _ g1 (by rw [q]; exact fun z => nomatch z), g2⟩
  · rw [Env.at_set] at h1 h2
    split at h1
    · rename_i c1
      obtain ⟨rfl, hl⟩ := c1
      rw [List.getElem?_set_self (by rw [F.len]; exact hl)] at h3
      cases h3
      split at h2
      · rename_i c2
        exact c2.1
      · rename_i c2
        rw [List.getElem?_set_ne (fun z => c2 ⟨z, hl⟩)] at h4
        exact absurd ⟨k, m, zs, h2, h4⟩ nm
    · rename_i c1
      have hj := Env.lt_of (env := env) (i := j) (by rw [h1]; exact fun z => nomatch z)
      rw [List.getElem?_set_ne (fun z => c1 ⟨z, by rw [z]; exact hj⟩)] at h3
      split at h2
      · rename_i c2
        obtain ⟨rfl, hl⟩ := c2
        rw [List.getElem?_set_self (by rw [F.len]; exact hl)] at h4
        cases h4
        exact absurd ⟨j, l, ys, h1, h3⟩ nm
      · rename_i c2
        have hk := Env.lt_of (env := env) (i := k) (by rw [h2]; exact fun z => nomatch z)
        rw [List.getElem?_set_ne (fun z => c2 ⟨z, by rw [z]; exact hk⟩)] at h4
        exact F.inj j k l m ys zs b h1 h2 h3 h4
/-- what is known behind the expression of a statement; new addresses are told from the statement's start on -/
def MidN {α β : Type} (K : PySem.W.Frag) (W : WN) (B : Base) (O : OS) (σ : SS) (H : Hp) (env : Env) (r : R α) (g : α → Env → R Flow) (D : Ends) (ok1 : OS → Hp → Env → α → β → Prop) (b : β) (H1 : Hp) : Prop :=
  ∃ a e1 O1, r = .ok a e1 ∧ Step σ env e1 O H O1 H1 ∧ FrameOk K (B.now H) O1 σ H1 e1 ∧ ok1 O1 H1 e1 a b ∧ PostS K W B O H (g a e1) D
theorem PostS.bindN {α β : Type} {r : R α} {g : α → Env → R Flow} {D : Ends} {ok1 : OS → Hp → Env → α → β → Prop} (F : FrameOk K B O σ H env) (h : PostS K W B O H (r.bind g) D) : Post K W (B.now H) O σ H env r ok1 (MidN K W B O σ H env r g D ok1) := by
  cases r with
  | bad => exact h
  | exc c e' => exact fun O' H' s F' => h O' σ H' (s.kept F) (F.unnow F')
  | ok a e' => exact fun b O1 H1 s F' k => ⟨a, e', O1, rfl, s, F', k, h⟩
/-- a value is stored -/
theorem asg_fin (F : FrameOk K B O σ H env) (s1 : Step σ env e1 O H O1 H1) (F1 : FrameOk K (B.now H) O1 σ H1 e1) {g : Tg} {v : Val} {x : V} {D : Ends} (k1 : ValOk K (B.now H) O1 σ H1 e1 v x) (hp : PostS K W B O H (match bindV g v e1 with
    | some e => .ok .nxt e
    | none => .bad) D) : gD K g x σ H1 D.nx := by
  have gen : (∀ e2, bindV g v e1 = some e2 → ∃ d e, shV v e1 = some (d, e) ∧ bindD g d e = some e2) → gD K g x σ H1 D.nx := fun hh => by
    cases eb : bindV g v e1 with
    | none => rw [eb] at hp; exact hp.elim
    | some e2 =>
      rw [eb] at hp
      obtain ⟨d, e, h1, h2⟩ := hh e2 eb
      obtain ⟨O2, s2, F2, r2⟩ := sh_ok F1 k1.1 h1
      exact bind_ok2 F2 (.inl r2) h2 fun σ' F' _ => hp O2 σ' H1 ((s1.kept F).trans (s2.kept (F.unnow F1))) (F.unnow F')
  have gen2 : (∀ xs, v ≠ .fr xs) ∨ (∃ ns, g = .tup ns) → gD K g x σ H1 D.nx := fun hh => gen fun e2 eb => by
    have key : (match shV v e1 with
      | some (d, env) => bindD g d env
      | none => none) = some e2 := by
      rw [← eb]
      cases g with
      | nm i => cases v with
        | fr xs =>
          rcases hh with hh | ⟨ns, hh⟩
          · exact absurd rfl (hh xs)
          · cases hh
        | _ => rfl
      | tup ns => cases v <;> rfl
    cases es : shV v e1 with
    | none => rw [es] at key; cases key
    | some pr => rw [es] at key; exact ⟨pr.1, pr.2, rfl, key⟩
  cases g with
  | tup ns => exact gen2 (.inr ⟨ns, rfl⟩)
  | nm i =>
    cases v with
    | sh d => exact gen2 (.inl fun xs z => nomatch z)
    | bor j => exact gen2 (.inl fun xs z => nomatch z)
    | fr xs =>
      simp only [bindV] at hp
      split at hp
      · rename_i e2 eb
        split at eb
        · cases eb
          obtain ⟨_, a, vs, rfl, ha, r, ⟨hb, hl⟩, F2, nO⟩ := k1
          have hl : H a = none := hl
          refine hp (fun b => O1 b ∨ b = a) _ H1 ⟨(s1.kept F).keep, fun b h => ?_⟩ (F.unnow (F2.setFr (.inr rfl) ha r hb fun m => nO (F1.mine m)))
          rcases h with h | h
          · exact .inl (s1.own b h)
          · exact .inr (by rw [h]; exact hl)
        · cases eb
      · exact hp.elim
end

section
variable {p : Pg} {cl : Cl} {lv : Nat} {cA : Nat → Value} {N : List Str} {sc : Scope} {fn : Str → Bool} {X : Cx} {W : WN}
theorem tmE_asg {g : Tg} {f : Env → R Val} {K : PySem.W.Frag} {D : Ends} {σ : SS} {H : Hp} (h : TmS K W (fun env => asgR g (f env)) D σ H) : TmE K W f σ H fun x H1 => gD K g x σ H1 D.nx := by
  obtain ⟨B, O, env, F, hp⟩ := h
  refine ⟨B.now H, O, env, F.now, Post.mono (PostS.bindN (ok1 := okV K (B.now H) σ) F hp) ?_⟩
  rintro x H1 ⟨v, e1, O1, _, s1, F1, k1, hp2⟩
  exact asg_fin F s1 F1 k1 hp2
/-! which stores are turned about -/
def swN (sc : Scope) (ts vs : List Expr) : Option (Option (List Str)) :=
  if !(ts.length == 2 || ts.length == 3) || vs.length != ts.length then some none
  else if vs.any (fun | .Starred .. => true | _ => false) then some none
  else
    let line := (ts.head?.map (·.pos.line)).getD 0
    let names := ts.filterMap fun
      | .Name id pos => if sc.names.lookup id == some .local && pos.line == line then some id else none
      | _ => none
    if names.length != ts.length || names.eraseDups.length != names.length then some none
    else if vs.all (foldedForSure 8) then some none
    else if vs.all (constantsAlone 8) then none
    else some (some names)
theorem sw_stores {env : PySem.Env} {ts vs : List Expr} {k k2 : Nat} {p1 p2 : Pos} {r : Option (List Str)} (hk : env.scope.kind = .function) (h : swN env.scope ts vs = some r) : swappedStores [.Tuple ts k p1] (.Tuple vs k2 p2) env = pure r := by
  have hb : env.blockKind = .function := by unfold PySem.Env.blockKind; rw [hk]; rfl
  have hz : (ScopeKind.function != ScopeKind.function) = false := rfl
  unfold swN at h
  unfold swappedStores
  simp only [hb]
  rw [hz, Bool.or_false]
  split at h
  · rename_i c
    cases h
    exact if_pos c
  · rename_i c
    refine (if_neg c).trans ?_
    split at h
    · rename_i c
      cases h
      exact if_pos c
    · rename_i c
      refine (if_neg c).trans ?_
      dsimp only at h
      split at h
      · rename_i c
        cases h
        exact if_pos c
      · rename_i c
        refine (if_neg c).trans ?_
        split at h
        · rename_i c
          cases h
          exact if_pos c
        · rename_i c
          refine (if_neg c).trans ?_
          split at h
          · cases h
          · rename_i c
            refine Eq.trans ?_ (congrArg pure (Option.some.inj h))
            simp only [if_neg c]
            rfl
end
end Lw
set_option linter.all false
set_option Elab.async false
set_option maxRecDepth 100000
set_option maxHeartbeats 1000000
namespace Lw
open PySem PySem.Spec L2
section
variable {p : Pg} {cl : Cl} {lv : Nat} {cA : Nat → Value} {N : List Str} {sc : Scope} {fn : Str → Bool} {X : Cx} {W : WN}
theorem srcOf_held {v : Val} {e : Env} {s : Src} (h : srcOf v e = some s) : s.held e = true := by
  cases v with
  | sh d =>
    simp only [srcOf] at h
    cases e1 : elsD d with
    | none => rw [e1] at h; cases h
    | some xs => rw [e1] at h; cases h; rfl
  | fr xs => cases h; rfl
  | bor i =>
    simp only [srcOf] at h
    cases q : e.at i with
    | no => rw [q] at h; cases h
    | sh d =>
      rw [q] at h
      dsimp only at h
      cases e1 : elsD d with
      | none => rw [e1] at h; cases h
      | some xs => rw [e1] at h; cases h; rfl
    | own l xs =>
      rw [q] at h
      cases h
      simp [Src.held, q]
theorem evI_held {it : It} {env e : Env} {s : Src} (h : evI p cl it env = .ok s e) : s.held e = true := by
  cases it with
  | seq a =>
    simp only [evI] at h
    obtain ⟨v, e1, _, h⟩ := bind_inv h
    obtain ⟨h2, h3⟩ := of_ok h
    rw [← h3]
    exact srcOf_held h2
  | rng es =>
    simp only [evI] at h
    obtain ⟨v, e1, _, h⟩ := bind_inv h
    obtain ⟨h2, h3⟩ := of_ok h
    cases e2 : (rdAll v e1).bind rngD with
    | none => rw [e2] at h2; cases h2
    | some xs => rw [e2] at h2; cases h2; rfl
  | zip a b =>
    simp only [evI] at h
    obtain ⟨v, e1, _, h⟩ := bind_inv h
    obtain ⟨w, e2, _, h⟩ := bind_inv h
    split at h
    · cases h; rfl
    · cases h
  | enum a =>
    simp only [evI] at h
    obtain ⟨v, e1, _, h⟩ := bind_inv h
    split at h
    · cases h; rfl
    · cases h
/-- the turns of a for -/
theorem for_loop {K : PySem.W.Frag} {B : Base} {σ0 : SS} {J : L2.It} {s : Src} {P : OS → Hp → Prop} {g : Tg} {body : Env → R Flow} {D : Ends} {O : OS} {σ : SS} {H : Hp} {env : Env} (hW : Walks K B σ0 J s P g) (hl : ∀ i l, s.lock = some (i, l) → l = true) (hP : P O H) (F : FrameOk K B O σ H env)
    (hp : PostS K W B O H (forL s.held (fun d e => match bindD g d e with
      | some e => body e
      | none => .bad) s.xs env) D) :
    ∃ Wv : Nat → Nat → St → Hp → Prop, (∃ m, Wv 0 m σ H) ∧ ∀ i m σ H, Wv i m σ H →
      (J.stop i H ∧ D.nx σ H) ∨ (J.go i H ∧ ∃ N : St → Hp → Prop, (∀ σ' H', N σ' H' → ∃ m', m' < m ∧ Wv (i + 1) m' σ' H') ∧ ∀ x H', J.yld i H x H' → gD K g x σ H' fun σ2 H2 => TmS K W body { D with nx := N, ct := N, bk := D.nx } σ2 H2) := by
  generalize hst : (fun d e => match bindD g d e with
      | some e => body e
      | none => R.bad) = step at hp
  have hst' : ∀ d e, step d e = match bindD g d e with
      | some e => body e
      | none => R.bad := fun d e => by rw [← hst]
  refine ⟨fun i m σ H => m = s.xs.length - i ∧ i ≤ s.xs.length ∧ ∃ O env, FrameOk K B O σ H env ∧ P O H ∧ PostS K W B O H (forL s.held step (s.xs.drop i) env) D, ⟨s.xs.length, rfl, Nat.zero_le _, O, env, F, hP, hp⟩, ?_⟩
  rintro i m σ H ⟨rfl, hi, O, env, F, hP, hp⟩
  by_cases hlt : i < s.xs.length
  · have hd : s.xs[i]? = some s.xs[i] := List.getElem?_eq_getElem hlt
    rw [List.drop_eq_getElem_cons hlt] at hp
    generalize s.xs[i] = d at hd hp
    simp only [forL] at hp
    split at hp
    · rename_i hh
      obtain ⟨w1, _⟩ := hW.walk O H σ env hP F (fun i l q => .inl (hl i l q)) hh i
      obtain ⟨go, yl⟩ := w1 d hd
      refine .inr ⟨go, fun σ' H' => ∃ O env, FrameOk K B O σ' H' env ∧ P O H' ∧ PostS K W B O H' (forL s.held step (s.xs.drop (i + 1)) env) D, fun σ' H' z => ⟨s.xs.length - (i + 1), by omega, rfl, hlt, z⟩, fun x H' hy => ?_⟩
      obtain ⟨gr, rx⟩ := yl x H' hy
      have kk : Kept O H O H' := gr.kept fun _ _ h _ => h
      replace F := F.grow gr
      replace hP := hW.stable _ _ _ _ kk hP
      replace hp := PostS.kept kk hp
      rw [hst'] at hp
      cases eb : bindD g d env with
      | none => rw [eb] at hp; exact hp.elim
      | some e2 =>
        rw [eb] at hp
        dsimp only at hp
        refine bind_ok2 F rx eb fun σ2 F2 _ => ⟨B, O, e2, F2, ?_⟩
        cases er : body e2 with
        | bad => rw [er] at hp; exact hp.elim
        | exc c e3 => rw [er] at hp; exact hp
        | ok f e3 =>
          rw [er] at hp
          cases f with
          | nxt => exact fun O3 σ3 H3 k F3 => ⟨O3, e3, F3, hW.stable _ _ _ _ k hP, PostS.kept k hp⟩
          | cont => exact fun O3 σ3 H3 k F3 => ⟨O3, e3, F3, hW.stable _ _ _ _ k hP, PostS.kept k hp⟩
          | brk => exact hp
          | ret v => exact hp
    · exact hp.elim
  · have e : i = s.xs.length := by omega
    subst e
    rw [List.drop_length] at hp
    simp only [forL] at hp
    split at hp
    · rename_i hh
      obtain ⟨_, w2⟩ := hW.walk O H σ env hP F (fun i l q => .inl (hl i l q)) hh s.xs.length
      exact .inl ⟨w2 (Nat.le_refl _), hp O σ H .refl F⟩
    · exact hp.elim
theorem sns_for (h : XOk p cl lv cA N sc fn X W) (po : PassesOwn (model X.prog X.w) X.A X.env X.xe) {g : Tg} {it : It} {b : List S} {t : Pt} (w : wfG N sc fn g = true) (hi : PI X (fT N g (t.c 0)) (fI N p it (t.c 1)) (TmI X.K W g (evI p cl it)))
    (hb : SndSs p cl N X W b (t.c 2) 0) : SndS p cl N X W (.for g it b) t := by
  refine PS_imp (ps_for po h.calm hi (png h w) hb (fold_it it (t.c 1) X.env)) ?_
  rintro D σ H ⟨B, O, env, F, hp⟩
  simp only [evS] at hp
  refine ⟨B, O, env, F, Post.mono (PostS.bind (ok1 := fun O' H' _ s J => ∃ P, P O' H' ∧ Walks X.K B σ J s P g) F hp) ?_⟩
  rintro J H1 ⟨s, e1, O1, ev, s1, F1, ⟨P, hP, hW⟩, hp2⟩
  have hh := evI_held ev
  obtain ⟨xs, lk⟩ := s
  have plain : (∀ i l, lk = some (i, l) → l = true) → keepS ⟨xs, lk⟩ e1 = (⟨xs, lk⟩, e1) := fun q => by
    cases lk with
    | none => rfl
    | some il =>
      obtain ⟨i, l⟩ := il
      have := q i l rfl
      subst this
      rfl
  by_cases hl : ∃ i, lk = some (i, false)
  · obtain ⟨i, rfl⟩ := hl
    obtain ⟨a, rfl, hσ⟩ := hW.lk i false rfl
    have q : e1.at i = .own false xs := by
      simp only [Src.held] at hh
      split at hh
      · rename_i m ys q
        simp only [Bool.and_eq_true, beq_iff_eq, decide_eq_true_eq] at hh
        rw [q, hh.1, hh.2]
      · cases hh
    obtain ⟨O2, s2, F2, r2⟩ := sh_ok (v := .bor i) (x := .ref a) (d := .lst xs) F1 hσ (by simp only [shV, q]; rfl)
    exact for_loop (W := W) (s := ⟨xs, none⟩) (σ0 := σ) walk_lst (fun _ _ z => nomatch z) r2 F2 (PostS.kept (s2.kept F1) hp2)
  · have hl' : ∀ i l, lk = some (i, l) → l = true := fun i l e => by
      cases l with
      | true => rfl
      | false => exact absurd ⟨i, e⟩ hl
    have hp2 : PostS X.K W B O1 H1 (forR g (keepS ⟨xs, lk⟩ e1) fun e => evSs p cl b e) D := hp2
    rw [plain hl'] at hp2
    exact for_loop hW hl' hP F1 hp2
theorem sns_while (h : XOk p cl lv cA N sc fn X W) (po : PassesOwn (model X.prog X.w) X.A X.env X.xe) {c : E} {b : List S} {t : Pt} (hc : PT X (fE N p c (t.c 0)) (TmT p cl X.K W c)) (hb : SndSs p cl N X W b (t.c 1) 0) : SndS p cl N X W (.while c b) t := by
  refine PS_imp (ps_while po hc hb) ?_
  rintro D σ H ⟨B, O, env, F, hp⟩
  simp only [evS] at hp
  generalize hcd : (fun e => truR (evE p cl c e)) = cond at hp
  generalize hbd : (fun e => evSs p cl b e) = body at hp
  obtain ⟨n0, r0, hn0, hp0⟩ : ∃ n r, whileN cond body n env = some r ∧ PostS X.K W B O H r D := by
    unfold whileR at hp
    split at hp
    · rename_i hx
      exact ⟨_, _, Classical.choose_spec (Classical.choose_spec hx), hp⟩
    · exact hp.elim
  refine ⟨fun m σ H => ∃ O e r, FrameOk X.K B O σ H e ∧ whileN cond body m e = some r ∧ PostS X.K W B O H r D, ⟨n0, O, env, r0, F, hn0, hp0⟩, ?_⟩
  rintro m σ H ⟨O, e, r, F, hn, hp⟩
  cases m with
  | zero => cases hn
  | succ m =>
    simp only [whileN] at hn
    refine ⟨B, O, e, F, ?_⟩
    show Post X.K W B O σ H e (truR (evE p cl c e)) okE _
    have ec : truR (evE p cl c e) = cond e := by rw [← hcd]
    rw [ec]
    cases er : cond e with
    | bad => rw [er] at hn; cases hn; exact hp
    | exc k e' =>
      rw [er] at hn; cases hn
      exact fun O' H' s F' => hp O' σ H' (s.kept F) F'
    | ok k e' =>
      rw [er] at hn
      intro k' O' H' s F' ek
      cases ek
      cases k with
      | false =>
        cases hn
        rw [if_neg (by simp)]
        exact hp O' σ H' (s.kept F) F'
      | true =>
        rw [if_pos rfl]
        refine ⟨fun σ2 H2 => ∃ O e r, FrameOk X.K B O σ2 H2 e ∧ whileN cond body m e = some r ∧ PostS X.K W B O H2 r D, fun σ2 H2 z => ⟨m, Nat.lt_succ_self m, z⟩, B, O', e', F', ?_⟩
        show PostS X.K W B O' H' (evSs p cl b e') _
        have eb : evSs p cl b e' = body e' := by rw [← hbd]
        rw [eb]
        dsimp only at hn
        have hp' := PostS.kept (s.kept F) hp
        cases eq : body e' with
        | bad => rw [eq] at hn; cases hn; exact hp
        | exc k2 e3 => rw [eq] at hn; cases hn; exact hp'
        | ok f e3 =>
          rw [eq] at hn
          cases f with
          | nxt => exact fun O3 σ3 H3 k3 F3 => ⟨O3, e3, r, F3, hn, PostS.kept k3 hp'⟩
          | cont => exact fun O3 σ3 H3 k3 F3 => ⟨O3, e3, r, F3, hn, PostS.kept k3 hp'⟩
          | brk => cases hn; exact hp'
          | ret v => cases hn; exact hp'
end
end Lw
set_option linter.all false
set_option Elab.async false
set_option maxRecDepth 100000
set_option maxHeartbeats 1000000
namespace Lw
open PySem PySem.Spec L2
section
variable {p : Pg} {cl : Cl} {lv : Nat} {cA : Nat → Value} {N : List Str} {sc : Scope} {fn : Str → Bool} {X : Cx} {W : WN}
theorem gn_eq {K : PySem.W.Frag} {i : Nat} {x : V} {σ : SS} {H : Hp} {Q : St → Hp → Prop} : gName i x σ H Q = gD K (.nm i) x σ H Q := rfl
/-- name = value -/
theorem sns_set (h : XOk p cl lv cA N sc fn X W) {i : Nat} {e : E} {t : Pt} (w : wfS N sc fn i = true) (hl : isLc e = false) (he : PE X (fE N p e (t.c 1)) (TmE X.K W (evE p cl e))) : SndS p cl N X W (.asg (.nm i) e) t := by
  obtain ⟨l1, l2, l3⟩ := loc_of h w
  refine PS_imp (ps_set (pos' := (t.c 0).p) (pos := t.p) (by rw [h.names]; exact h.nd) l1 l2 he (sw_no hl) l3) ?_
  intro D σ H ht
  exact tmE_asg (g := .nm i) (by
    obtain ⟨B, O, env, F, hp⟩ := ht
    simp only [evS] at hp
    exact ⟨B, O, env, F, hp⟩)
/-- name = [..] -/
theorem sns_setLc (h : XOk p cl lv cA N sc fn X W) (hk : sc.kind = .function) {i : Nat} {elt : E} {tg : Tg} {it : It} {cond : Option E} {own : List Nat} {t : Pt} (w : wfS N sc fn i = true) (we : wfE N p sc fn (.lc elt tg it cond own) (t.c 1) = true) : SndS p cl N X W (.asg (.nm i) (.lc elt tg it cond own)) t := by
  obtain ⟨l1, l2, l3⟩ := loc_of h w
  have hN : X.N.Nodup := by rw [h.names]; exact h.nd
  have he := (sndE (.lc elt tg it cond own) h we).1
  have ha : ∀ D σ H, TmS X.K W (evS p cl (.asg (.nm i) (.lc elt tg it cond own))) D σ H → TmE X.K W (evE p cl (.lc elt tg it cond own)) σ H fun x H1 => gD X.K (.nm i) x σ H1 D.nx := fun D σ H ht => tmE_asg (g := .nm i) (by
    obtain ⟨B, O, env, F, hp⟩ := ht
    simp only [evS] at hp
    exact ⟨B, O, env, F, hp⟩)
  cases hb : (X.env.blockKind == .function && X.env.kindOf (nmN N i) == some .local && (t.c 0).p.line == (t.c 1).p.line && !((t.c 1).sc.names.any fun (n, k) => n == nmN N i && (k == .local || k == .cell))) with
  | false =>
    have hs : swapsWith (fE N p (.lc elt tg it cond own) (t.c 1)) (some (.Name (nmN N i) (t.c 0).p)) t.p.line X.env = pure false := by
      rw [← hb]; rfl
    exact PS_imp (ps_set (pos' := (t.c 0).p) (pos := t.p) hN l1 l2 he hs l3) ha
  | true =>
    have hs : swapsWith (fE N p (.lc elt tg it cond own) (t.c 1)) (some (.Name (nmN N i) (t.c 0).p)) t.p.line X.env = pure true := by
      rw [← hb]; rfl
    have hyl : X.env.scope.names.lookup (nmN N i) = some .local := by
      simp only [Bool.and_eq_true] at hb
      have h2 := hb.1.1.2
      have h3 : (X.env.scope.names.lookup (nmN N i) == some .local) = true := h2
      rcases l2 with q | q
      · exact q
      · rw [q] at h3; cases h3
    have w' := we
    simp only [wfE, Bool.and_eq_true] at w'
    obtain ⟨⟨⟨⟨⟨w1, w2⟩, w3⟩, w4⟩, w5⟩, w6⟩ := w'
    have hin : inTg own tg := by
      cases tg with
      | nm i => exact List.contains_iff_mem.mp w4
      | tup ns => exact fun n hn => List.contains_iff_mem.mp (List.all_eq_true.mp w4 n hn)
    have hbk : BlkOk X.N X.env.scope (t.c 1).sc (ownL N own) := by
      rw [h.names, h.sc]
      exact blkOk_by w1
    have := ps_setLc (i := i) (py := (t.c 0).p) (spos := t.p) (pos := (t.c 1).p) (wi := TmI X.K W tg (evI p cl it)) (g := gD X.K tg) (tt := ttC X.K (evC p cl cond)) (te := TmE X.K W0 (evE p cl elt)) h.calm hN l1 hyl hs (sndI (t' := (t.c 1).c 1) it h w2.1 w2.2) hbk (fun s H C c fp => png (h.blk s H (t.c 1).sc C c fp) w3)
      (fun s H C c fp => pts_c (sndC cond (h.blk s H (t.c 1).sc C c fp) w5)) (fun s H C c fp => (sndE elt (h.blk s H (t.c 1).sc C c fp) w6).1) (fold_it it ((t.c 1).c 2) X.env)
    rw [own_ix] at this
    exact PS_imp this fun D σ H ht => tm_lc hin (by
      have := ha D σ H ht
      simp only [evE] at this
      exact this)
/-- name = [.. for .. for ..] -/
theorem sns_setLc2 (h : XOk p cl lv cA N sc fn X W) (hk : sc.kind = .function) {i : Nat} {elt : E} {tg tg2 : Tg} {it it2 : It} {cond : Option E} {own own2 : List Nat} {t : Pt} (w : wfS N sc fn i = true) (we : wfE N p sc fn (.lc2 elt tg it tg2 it2 cond own own2) (t.c 1) = true) : SndS p cl N X W (.asg (.nm i) (.lc2 elt tg it tg2 it2 cond own own2)) t := by
  obtain ⟨l1, l2, l3⟩ := loc_of h w
  have hN : X.N.Nodup := by rw [h.names]; exact h.nd
  have he := (sndE (.lc2 elt tg it tg2 it2 cond own own2) h we).1
  have ha : ∀ D σ H, TmS X.K W (evS p cl (.asg (.nm i) (.lc2 elt tg it tg2 it2 cond own own2))) D σ H → TmE X.K W (evE p cl (.lc2 elt tg it tg2 it2 cond own own2)) σ H fun x H1 => gD X.K (.nm i) x σ H1 D.nx := fun D σ H ht => tmE_asg (g := .nm i) (by
    obtain ⟨B, O, env, F, hp⟩ := ht
    simp only [evS] at hp
    exact ⟨B, O, env, F, hp⟩)
  cases hb : (X.env.blockKind == .function && X.env.kindOf (nmN N i) == some .local && (t.c 0).p.line == (t.c 1).p.line && !((t.c 1).sc.names.any fun (n, k) => n == nmN N i && (k == .local || k == .cell))) with
  | false =>
    have hs : swapsWith (fE N p (.lc2 elt tg it tg2 it2 cond own own2) (t.c 1)) (some (.Name (nmN N i) (t.c 0).p)) t.p.line X.env = pure false := by
      rw [← hb]; rfl
    exact PS_imp (ps_set (pos' := (t.c 0).p) (pos := t.p) hN l1 l2 he hs l3) ha
  | true =>
    have hs : swapsWith (fE N p (.lc2 elt tg it tg2 it2 cond own own2) (t.c 1)) (some (.Name (nmN N i) (t.c 0).p)) t.p.line X.env = pure true := by
      rw [← hb]; rfl
    have hyl : X.env.scope.names.lookup (nmN N i) = some .local := by
      simp only [Bool.and_eq_true] at hb
      have h2 := hb.1.1.2
      have h3 : (X.env.scope.names.lookup (nmN N i) == some .local) = true := h2
      rcases l2 with q | q
      · exact q
      · rw [q] at h3; cases h3
    have w' := we
    simp only [wfE, Bool.and_eq_true] at w'
    obtain ⟨⟨⟨⟨⟨⟨⟨⟨⟨w1, w2, w2'⟩, w3⟩, w4⟩, w5, w5'⟩, w6⟩, w7⟩, w8⟩, w9⟩, w10⟩ := w'
    have hbk : BlkOk X.N X.env.scope (t.c 1).sc (ownL N own) := by
      rw [h.names, h.sc]
      exact blkOk_by w1
    have hv : ∀ i ∈ own2, i ∈ (ownL N own).map (·.2) := fun i hi => by
      rw [own_ix]
      exact List.contains_iff_mem.mp (List.all_eq_true.mp w8 i hi)
    have := ps_setLc2 (i := i) (vs1 := own2) (py := (t.c 0).p) (spos := t.p) (pos := (t.c 1).p) (wi := TmI X.K W tg (evI p cl it)) (g := gD X.K tg) (tt := tYes) (wi1 := TmI X.K W0 tg2 (evI p cl it2)) (g1 := gD X.K tg2) (tt1 := ttC X.K (evC p cl cond)) (te := TmE X.K W0 (evE p cl elt)) h.calm hN l1 hyl hs (sndI (t' := (t.c 1).c 1) it h w2 w2') hbk hv
      (fun s H C c fp => png (h.blk s H (t.c 1).sc C c fp) w3) (fun s H C c fp => pts_nil) (fun s H C c fp => sndI (t' := (t.c 1).c 3) it2 (h.blk s H (t.c 1).sc C c fp) w5 w5') (fun s H C c fp => png (h.blk s H (t.c 1).sc C c fp) w6)
      (fun s H C c fp => pts_c (sndC cond (h.blk s H (t.c 1).sc C c fp) w9)) (fun s H C c fp => (sndE elt (h.blk s H (t.c 1).sc C c fp) w10).1) (fold_it it ((t.c 1).c 2) X.env) (fun env => fold_it it2 ((t.c 1).c 4) env)
    rw [own_ix] at this
    exact PS_imp this fun D σ H ht => tm_lc2 (inTg_of w4) (inTg_of w7) (by
      have := ha D σ H ht
      simp only [evE] at this
      exact this)
theorem swSole {e : E} {t : Pt} {ts : List Expr} {k l : Nat} {q : Pos} {env : PySem.Env} : swapsWithSole [.Tuple ts k q] (fE N p e t) l env = pure false := by
  cases e with
  | ofR b it => cases it <;> rfl
  | _ => rfl
/-- a, b = value -/
theorem sns_unp (h : XOk p cl lv cA N sc fn X W) (hk : sc.kind = .function) {ns : List Nat} {e : E} {t : Pt} (w : wfG N sc fn (.tup ns) = true) (hw : ∀ es, e = .tup es → swN sc (fNs N ns (t.c 0) 0) (fEs N p es (t.c 1) 0) = some none) (he : PE X (fE N p e (t.c 1)) (TmE X.K W (evE p cl e))) :
    SndS p cl N X W (.asg (.tup ns) e) t := by
  have hst : swappedStores [fT N (.tup ns) (t.c 0)] (fE N p e (t.c 1)) X.env = pure none := by
    cases e with
    | tup es => exact sw_stores (by rw [h.sc]; exact hk) (by rw [h.sc]; exact hw es rfl)
    | ofR b it => cases it <;> rfl
    | _ => rfl
  refine PS_imp (ps_asg (pos := t.p) he (png h w) swSole hst) fun D σ H ht => tmE_asg (g := .tup ns) (by
    obtain ⟨B, O, env, F, hp⟩ := ht
    simp only [evS] at hp
    exact ⟨B, O, env, F, hp⟩)
theorem tmL_par {K : PySem.W.Frag} {ns : List Nat} {f : Env → R (List Val)} {D : Ends} {σ : SS} {H : Hp} (h : TmS K W (fun env => asgPR ns (f env)) D σ H) : TmL K W f σ H fun vs H1 => vs.length = ns.length ∧ D.nx (setV σ ns vs) H1 := by
  obtain ⟨B, O, env, F, hp⟩ := h
  refine ⟨B, O, env, F, Post.mono (PostS.bind (ok1 := okL K σ) F hp) ?_⟩
  rintro xs H1 ⟨vs, e1, O1, _, s1, F1, pv, hp2⟩
  dsimp only at hp2
  cases es : shAll vs e1 with
  | none => rw [es] at hp2; exact hp2.elim
  | some pr =>
    obtain ⟨ds, e2⟩ := pr
    rw [es] at hp2
    obtain ⟨O2, s2, F2, r2⟩ := shAll_ok F1 pv es
    dsimp only at hp2
    split at hp2
    · rename_i hc
      exact ⟨by rw [r2.length]; exact hc.1, hp2 O2 _ H1 (s2.kept F1) (F2.setVs r2)⟩
    · exact hp2.elim
def locN (N : List Str) (sc : Scope) (i : Nat) : Bool := decide (i < N.length) && (match sc.names.lookup (nmN N i) with
  | some .local => true
  | _ => false)
theorem loc_n (h : XOk p cl lv cA N sc fn X W) {i : Nat} (w : locN N sc i = true) : X.N[i]? = some (nmN N i) ∧ X.env.scope.names.lookup (nmN N i) = some .local := by
  unfold locN at w
  simp only [Bool.and_eq_true, decide_eq_true_eq] at w
  refine ⟨by rw [h.names]; exact nmN_get w.1, ?_⟩
  have w2 := w.2
  rw [h.sc]
  split at w2
  · assumption
  · cases w2
def parB (N : List Str) (p : Pg) (sc : Scope) (ns : List Nat) (es : List E) (t : Pt) : Bool := noDup ns && ns.all (locN N sc) && decide (es.length = ns.length) && (decide (ns.length = 2) || decide (ns.length = 3)) && decide (swN sc (fNs N ns (t.c 0) 0) (fEs N p es (t.c 1) 0) = some (some (ns.map (nmN N))))
/-- a, b = x, y -/
theorem sns_par (h : XOk p cl lv cA N sc fn X W) (hk : sc.kind = .function) {ns : List Nat} {es : List E} {t : Pt} (w : parB N p sc ns es t = true) (ha : PA X (fEs N p es (t.c 1) 0) (TmL X.K W (evEs p cl es))) : SndS p cl N X W (.asgP ns es) t := by
  unfold parB at w
  simp only [Bool.and_eq_true, Bool.or_eq_true, decide_eq_true_eq] at w
  obtain ⟨⟨⟨⟨w1, w2⟩, w3⟩, w4⟩, w5⟩ := w
  have hN : X.N.Nodup := by rw [h.names]; exact h.nd
  have hm : ∀ D σ H, TmS X.K W (evS p cl (.asgP ns es)) D σ H → TmL X.K W (evEs p cl es) σ H fun vs H1 => vs.length = ns.length ∧ D.nx (setV σ ns vs) H1 := fun D σ H ht => tmL_par (by
    obtain ⟨B, O, env, F, hp⟩ := ht
    simp only [evS] at hp
    exact ⟨B, O, env, F, hp⟩)
  have hst := sw_stores (k := (t.c 0).k) (k2 := (t.c 1).k) (p1 := (t.c 0).p) (p2 := (t.c 1).p) (by rw [h.sc]; exact hk) (by rw [h.sc]; exact w5)
  have mono : ∀ {f : Env → R (List Val)} {σ : SS} {H : Hp} {Q Q' : List V → Hp → Prop}, (∀ b H', Q b H' → Q' b H') → TmL X.K W f σ H Q → TmL X.K W f σ H Q' := fun i ⟨B, O, env, F, hp⟩ => ⟨B, O, env, F, hp.mono i⟩
  rcases ns with _ | ⟨i, _ | ⟨j, _ | ⟨l, _ | ⟨m, ns⟩⟩⟩⟩
  · simp at w4
  · simp at w4
  · rcases es with _ | ⟨a, _ | ⟨b, _ | ⟨c, es⟩⟩⟩ <;> simp at w3
    simp only [noDup, List.all_cons, Bool.and_eq_true, List.contains_cons, List.contains_nil, Bool.or_false, Bool.not_eq_true', beq_eq_false_iff_ne] at w1 w2
    obtain ⟨i1, i2⟩ := loc_n h w2.1
    obtain ⟨j1, j2⟩ := loc_n h w2.2.1
    refine PS_imp (ps_par (pos := t.p) h.calm hN i1 j1 w1.1 i2 j2 ha hst rfl) fun D σ H ht => mono ?_ (hm D σ H ht)
    rintro vs H1 ⟨hl, q⟩
    rcases vs with _ | ⟨v, _ | ⟨u, _ | ⟨x, vs⟩⟩⟩ <;> simp at hl
    exact ⟨v, u, rfl, q⟩
  · rcases es with _ | ⟨a, _ | ⟨b, _ | ⟨c, _ | ⟨d, es⟩⟩⟩⟩ <;> simp at w3
    simp only [noDup, List.all_cons, Bool.and_eq_true, List.contains_cons, List.contains_nil, Bool.or_false, Bool.not_eq_true', beq_eq_false_iff_ne, Bool.or_eq_false_iff] at w1 w2
    obtain ⟨i1, i2⟩ := loc_n h w2.1
    obtain ⟨j1, j2⟩ := loc_n h w2.2.1
    obtain ⟨l1, l2⟩ := loc_n h w2.2.2.1
    refine PS_imp (ps_par3 (pos := t.p) h.calm hN i1 j1 l1 w1.1.1 w1.1.2 w1.2.1 i2 j2 l2 ha hst rfl) fun D σ H ht => mono ?_ (hm D σ H ht)
    rintro vs H1 ⟨hl, q⟩
    rcases vs with _ | ⟨v, _ | ⟨u, _ | ⟨x, _ | ⟨y, vs⟩⟩⟩⟩ <;> simp at hl
    exact ⟨v, u, x, rfl, q⟩
  · simp at w4
end
end Lw
set_option linter.all false
set_option Elab.async false
set_option maxRecDepth 100000
set_option maxHeartbeats 1000000
namespace Lw
open PySem PySem.Spec L2
def AugX (X : Cx) (o : BOp) : TIp := fun x y H Q => AugR X o x y H Q ∨ (o = .add ∧ rExt2 x y H Q)
theorem augx_ok {X : Cx} (o : BOp) : PIp X (opOf o) (AugX X o) := by
  intro pins s σ H x y v u Q I rx ry h
  rcases h with h | ⟨rfl, h⟩
  · exact aug_ok o pins s σ H x y v u Q I rx ry h
  · exact iop_ext pins s σ H x y v u Q I rx ry h
section
variable {p : Pg} {cl : Cl} {lv : Nat} {cA : Nat → Value} {N : List Str} {sc : Scope} {fn : Str → Bool} {X : Cx} {W : WN}
theorem set_same {α : Type} {σ : List α} {i : Nat} {v : α} (h : σ[i]? = some v) : σ.set i v = σ := by
  apply List.ext_getElem?
  intro j
  by_cases e : i = j
  · subst e
    rw [List.getElem?_set_self (by
      by_cases hl : i < σ.length
      · exact hl
      · rw [List.getElem?_eq_none (by omega)] at h; cases h), h]
  · rw [List.getElem?_set_ne e]
theorem sns_aug (h : XOk p cl lv cA N sc fn X W) {i : Nat} {o : BOp} {e : E} {t : Pt} (w : wfS N sc fn i = true) (he : PE X (fE N p e (t.c 1)) (TmE X.K W (evE p cl e))) : SndS p cl N X W (.aug i o e) t := by
  obtain ⟨l1, l2, l3⟩ := loc_of h w
  refine PS_imp (ps_aug (pos' := (t.c 0).p) (pos := t.p) (by rw [h.names]; exact h.nd) l1 l2 he (augx_ok o) l3) ?_
  rintro D σ H ⟨B, O, env, F, hp⟩
  simp only [evS, augR'] at hp
  have hs := F.slot i
  cases q : env.at i with
  | no => rw [q] at hp; exact hp.elim
  | sh d =>
    rw [q] at hp hs
    obtain ⟨x, g1, g2⟩ := hs
    refine ⟨x, g1, B, O, env, F, Post.mono (PostS.bind (ok1 := okV X.K B σ) F hp) ?_⟩
    rintro y H1 ⟨v, e1, O1, _, s1, F1, k1, hp2⟩
    dsimp only at hp2
    cases eb : rdV v e1 with
    | none => rw [eb] at hp2; exact hp2.elim
    | some b =>
      rw [eb] at hp2
      dsimp only [Option.bind_some] at hp2
      cases ew : augV o d b with
      | none => rw [ew] at hp2; exact hp2.elim
      | some c =>
        rw [ew] at hp2
        dsimp only at hp2
        split at hp2
        · refine .inl ⟨O1, d, b, c, F1.trk, .sh (g2.kept (s1.kept F)), rd_ok F1 k1.1 eb, ew, fun z H' n => ?_⟩
          obtain ⟨s2, F2, k2⟩ := new_ok F1 n
          exact hp2 O1 _ H' (s2.kept F1) (F2.setSh k2.1)
        · exact hp2.elim
  | own l xs =>
    rw [q] at hp hs
    obtain ⟨a, vs, g1, g2, g3, g4, g5⟩ := hs
    dsimp only at hp
    split at hp
    · rename_i ho
      refine ⟨.ref a, g1, B, O, env, F, Post.mono (PostS.bind (ok1 := okV X.K B σ) F hp) ?_⟩
      rintro y H1 ⟨v, e1, O1, _, s1, F1, k1, hp2⟩
      dsimp only at hp2
      split at hp2
      · rename_i ys l' xs' eb ea
        split at hp2
        · rename_i hz
          obtain ⟨a', vs', j1, j2, j3, j4⟩ := slot_own F1 ea
          rw [g1] at j1; cases j1
          obtain ⟨b, ws, rfl, m1, m2⟩ := (rd_ok F1 k1.1 eb).lst
          obtain ⟨s2, F2⟩ := set_own F1 ea g1 j3 (j4.append m2)
          refine .inr ⟨ho, a, b, vs', ws, rfl, rfl, j3, m1, by rw [j4.length, m2.length, sizeLine_eq]; exact hz, ?_⟩
          show D.nx (List.set σ i (some (.ref a))) _
          rw [set_same g1]
          exact hp2 O1 σ _ (s2.kept F1) F2
        · exact hp2.elim
      · exact hp2.elim
    · exact hp.elim
theorem setIR_ok {K : PySem.W.Frag} {B : Base} {O : OS} {σ : SS} {H : Hp} {env : Env} {D : Ends} (F : FrameOk K B O σ H env) {i : Nat} {k d : Lw.D} {x o ix : V} (ho : σ[i]? = some (some o)) (ri : Rt K O H ix k) (rx : Rp K O H x d) (hp : PostS K W B O H (setIR i k d env) D) : rSetL o ix x H fun H4 => D.nx σ H4 := by
  unfold setIR at hp
  split at hp
  · rename_i l xs j ea
    split at hp
    · rename_i n hn
      obtain ⟨a, vs, j1, j2, j3, j4⟩ := slot_own F ea
      rw [ho] at j1; cases j1
      have := ri.int
      subst this
      obtain ⟨s2, F2⟩ := set_own F ea ho j3 (j4.set rx n)
      exact ⟨a, vs, j, n, rfl, rfl, j3, by rw [← ixP_eq, j4.length]; exact hn, hp O σ _ (s2.kept F) F2⟩
    · exact hp.elim
  · exact hp.elim
/-- name[k] = value -/
theorem sns_setI (h : XOk p cl lv cA N sc fn X W) {i : Nat} {k e : E} {t : Pt} (w : wfV N sc i = true) (hk : PE X (fE N p k (t.c 1)) (TmE X.K W (evE p cl k))) (he : PE X (fE N p e (t.c 3)) (TmE X.K W (evE p cl e))) : SndS p cl N X W (.setI i k e) t := by
  have hs : swapsWithSole [.Subscript (.Name (nmN N i) (t.c 0).p) (fE N p k (t.c 1)) (t.c 2).p] (fE N p e (t.c 3)) t.p.line X.env = pure false := by
    cases e with
    | ofR b it => cases it <;> rfl
    | _ => rfl
  have hw : swappedStores [.Subscript (.Name (nmN N i) (t.c 0).p) (fE N p k (t.c 1)) (t.c 2).p] (fE N p e (t.c 3)) X.env = pure none := by
    cases e with
    | ofR b it => cases it <;> rfl
    | _ => rfl
  refine PS_imp (ps_asg (pos := t.p) he (pg_sub (pos := (t.c 2).p) (pe_v (pos := (t.c 0).p) h w) hk set_list (fun v => by
    cases k with
    | ofR b it => cases it <;> rfl
    | _ => rfl)) hs hw) ?_
  rintro D σ H ⟨B, O, env, F, hp⟩
  simp only [evS] at hp
  refine ⟨B, O, env, F, Post.mono (PostS.bind (ok1 := okV X.K B σ) F hp) ?_⟩
  rintro x H1 ⟨v, e1, O1, _, s1, F1, k1, hp2⟩
  dsimp only at hp2
  cases es : shV v e1 with
  | none => rw [es] at hp2; exact hp2.elim
  | some pr =>
    obtain ⟨d, e2⟩ := pr
    rw [es] at hp2
    dsimp only at hp2
    obtain ⟨O2, s2, F2, r2⟩ := sh_ok F1 k1.1 es
    split at hp2
    · rename_i l xs ea
      obtain ⟨a, vs, j1, _⟩ := slot_own F2 ea
      refine ⟨.ref a, j1, B, O2, e2, F2, Post.mono (PostS.bind (ok1 := okV X.K B σ) F2 (PostS.kept (s2.kept F1) hp2)) ?_⟩
      rintro ix H2 ⟨u, e3, O3, _, s3, F3, k3, hp3⟩
      dsimp only at hp3
      cases eb : rdV u e3 with
      | none => rw [eb] at hp3; exact hp3.elim
      | some b =>
        rw [eb] at hp3
        exact setIR_ok F3 j1 (rd_ok F3 k3.1 eb) (r2.kept (s3.kept F2)) hp3
    · exact hp2.elim
theorem get_listW {X : Cx} : PGet X (rIxL X.K) := by
  intro pins s σ H x y v u Q I rx ry h
  obtain ⟨p, xs, i, z, rfl, rfl, hq, he, q⟩ := h
  cases rx
  obtain ⟨t, rfl⟩ := ry
  obtain ⟨its, r, pl, hz⟩ := I.list hq
  obtain ⟨j, h1, h2, h3, h4, h5⟩ := atI_get he
  obtain ⟨w, ew, rw'⟩ := r.get h2
  have hl := r.length
  have hn := line63
  have fin : EP X pins σ Q w s := ⟨z, H, I, rw', q⟩
  by_cases h0 : 0 ≤ i
  · have hj : i.toNat = j := by
      rw [seqIndex_of h0 h5] at h1
      exact Option.some.inj h1
    exact wpAny_getItem_list pl.isList h0 (by omega) (by rw [hj]; simpa using ew) fin
  · have hj : (i + (its.toArray.size : Int)).toNat = j := by
      rw [seqIndex_neg (by omega) h4] at h1
      rw [List.size_toArray, ← hl]
      exact Option.some.inj h1
    exact wpAny_getItem_list_neg pl.isList (by omega) (by rw [List.size_toArray] <;> omega) (by omega) (by rw [hj]; simpa using ew) fin
/-- name[k] op= value -/
theorem sns_augI (h : XOk p cl lv cA N sc fn X W) {i : Nat} {o : BOp} {k e : E} {t : Pt} (w : wfV N sc i = true) (hk : PE X (fE N p k (t.c 1)) (TmE X.K W (evE p cl k))) (he : PE X (fE N p e (t.c 3)) (TmE X.K W (evE p cl e))) : SndS p cl N X W (.augI i k o e) t := by
  refine PS_imp (ps_augS (pos := t.p) (tpos := (t.c 2).p) (pe_v (pos := (t.c 0).p) h w) hk get_listW he (aug_ok o) set_list (fun ov iv new => by
    cases k with
    | ofR b it => cases it <;> rfl
    | _ => rfl)) ?_
  rintro D σ H ⟨B, O, env, F, hp⟩
  simp only [evS] at hp
  split at hp
  · rename_i l xs q
    obtain ⟨a, vs, g1, g2, g3, g4⟩ := slot_own F q
    refine ⟨.ref a, g1, B, O, env, F, Post.mono (PostS.bind (ok1 := okV X.K B σ) F hp) ?_⟩
    rintro ix H1 ⟨u, e1, O1, _, s1, F1, k1, hp2⟩
    dsimp only at hp2
    split at hp2
    · rename_i l1 ys q1
      obtain ⟨a', vs', j1, j2, j3, j4⟩ := slot_own F1 q1
      rw [g1] at j1; cases j1
      split at hp2
      · rename_i j d ej
        cases eu : rdV u e1 with
        | none => rw [eu] at ej; cases ej
        | some jj =>
          rw [eu] at ej
          simp only [Option.bind_some] at ej
          cases ed : idxV (.lst ys) jj with
          | none => rw [ed] at ej; cases ej
          | some dd =>
            rw [ed] at ej
            cases ej
            obtain ⟨n, rfl⟩ : ∃ n, j = .int n := by
              cases j <;> simp only [idxV] at ed <;> first | cases ed | exact ⟨_, rfl⟩
            simp only [idxV] at ed
            have ri := rd_ok F1 k1.1 eu
            have := ri.int
            subst this
            obtain ⟨v, m1, m2⟩ := ix_get j4 ed
            refine ⟨a, vs', n, v, rfl, rfl, .of j3, m1, B, O1, e1, F1, Post.mono (PostS.bind (ok1 := okV X.K B σ) F1 hp2) ?_⟩
            rintro y H2 ⟨u2, e2, O2, _, s2, F2, k2, hp3⟩
            dsimp only at hp3
            cases eb : rdV u2 e2 with
            | none => rw [eb] at hp3; exact hp3.elim
            | some b =>
              rw [eb] at hp3
              simp only [Option.bind_some] at hp3
              cases ew : augV o d b with
              | none => rw [ew] at hp3; exact hp3.elim
              | some z =>
                rw [ew] at hp3
                refine ⟨O2, d, b, z, F2.trk, .sh (m2.kept (s2.kept F1)), rd_ok F2 k2.1 eb, ew, fun x5 H5 n5 => ?_⟩
                obtain ⟨s5, F5, k5⟩ := new_ok F2 n5
                exact setIR_ok F5 g1 (.sh (.int n)) k5.1 (PostS.kept (s5.kept F2) hp3)
      · exact hp2.elim
    · exact hp2.elim
  · exact hp.elim
end
end Lw
set_option linter.all false
set_option Elab.async false
set_option maxRecDepth 100000
set_option maxHeartbeats 1000000
namespace Lw
open PySem PySem.Spec L2
/-! ## an except suite -/
mutual
def wfX (N : List Str) (p : Pg) (sc : Scope) (i : Nat) : E → Pt → Bool
  | .isx j c, _ => decide (j = i) && wfV N sc i && glB sc "isinstance" && glB sc (p.XN.getD c "__debug__") && nmB (p.XN.getD c "__debug__")
  | .bl _, _ => true
  | .non, _ => true
  | .var j, _ => wfV N sc j
  | .not e, t => wfX N p sc i e (t.c 0)
  | .and es, t => wfXs N p sc i es t 0 && !es.isEmpty
  | .or es, t => wfXs N p sc i es t 0 && !es.isEmpty
  | _, _ => false
def wfXs (N : List Str) (p : Pg) (sc : Scope) (i : Nat) : List E → Pt → Nat → Bool
  | [], _, _ => true
  | e :: es, t, k => wfX N p sc i e (t.c k) && wfXs N p sc i es t (k + 1)
end
def wfH (N : List Str) (p : Pg) (sc : Scope) (fn : Str → Bool) (i : Nat) : List S → Pt → Nat → Bool
  | [.ret e], t, k => wfX N p sc i e ((t.c k).c 0)
  | .asg (.nm j) e :: ss, t, k => wfS N sc fn j && decide (j ≠ i) && wfX N p sc i e ((t.c k).c 1) && wfH N p sc fn i ss t (k + 1)
  | _, _, _ => false
/-- what is known of the suite's place -/
structure SuOk (p : Pg) (lv : Nat) (cA : Nat → Value) (N : List Str) (sc : Scope) (fn : Str → Bool) (Y : Cx) (cls : Value) (a : Addr) : Prop where
  names : Y.N = N
  nd : N.Nodup
  sc : Y.env.scope = sc
  fn : ∀ x, fn x = true → Y.fn x = true
  isi : Y.mg "isinstance" = none
  cal : CallR Y (.builtin "isinstance") fun xs H Q => ∃ (c : V) (cv : Value) (b : Bool), xs = [.ref a, c] ∧ (∀ u, RelV c u → u = cv) ∧ PySem.W.kitOne Y.K cls cv = some b ∧ Q (.bl b) H
  cl : ∀ c, c < p.XN.length → ∃ v, (∀ u, RelV v u → u = cA c) ∧ ∀ pos, Gl Y (p.XN.getD c "__debug__") → ((p.XN.getD c "__debug__") == ("__debug__" : Str)) = false → p.XN.getD c "__debug__" ≠ "__name__" → PE Y (.Name (p.XN.getD c "__debug__") pos) (tC v)
  kit : ∀ c' c, cls = cA c' → c' < p.xu → c < p.XN.length → PySem.W.kitOne Y.K cls (cA c) = some (p.sub c' c)
/-- the reading of a suite's expression; slot i holds the exception at a (none: no slot) -/
def TX (p : Pg) (cA : Nat → Value) (K : PySem.W.Frag) (cls : Value) (a : Addr) (n i : Nat) (f : Nat → Env → Option D) : TE := fun σ H Q => ∃ c' B O env, cls = cA c' ∧ c' < p.xu ∧ FrameOk K B O σ H env ∧ (i < n → σ[i]? = some (some (.ref a))) ∧ ∃ d, f c' env = some d ∧ ∀ v, Rp K O H v d → Q v H
section
variable {p : Pg} {lv : Nat} {cA : Nat → Value} {N : List Str} {sc : Scope} {fn : Str → Bool} {Y : Cx} {cls : Value} {a : Addr} {i : Nat}
theorem SuOk.gl (h : SuOk p lv cA N sc fn Y cls a) {x : Str} (w : glB sc x = true) : Gl Y x := by
  show Y.env.kindOf x = _
  unfold glB at w
  show Y.env.scope.names.lookup x = _
  rw [h.sc]
  split at w
  · assumption
  · cases w
theorem SuOk.pv (h : SuOk p lv cA N sc fn Y cls a) {j : Nat} {pos : Pos} (w : wfV N sc j = true) : PE Y (.Name (nmN N j) pos) (tVar j) := by
  unfold wfV at w
  simp only [Bool.and_eq_true, decide_eq_true_eq] at w
  obtain ⟨d1, d2, _⟩ := nm_of w.2
  exact pe_var (by rw [h.names]; exact nmN_get w.1.1) (by rw [h.sc]; exact vis_of w.1.2) d1 d2
theorem wfV_lt (w : wfV N sc i = true) : i < N.length := by
  unfold wfV at w
  simp only [Bool.and_eq_true, decide_eq_true_eq] at w
  exact w.1.1
theorem evXa_cc {c' : Nat} {e e2 : E} {es : List E} {env : Env} : evXa p c' (e :: e2 :: es) env = match evX p c' e env with
    | some (.bl true) => evXa p c' (e2 :: es) env
    | some (.bl false) => some (.bl false)
    | _ => none := by rw [evXa.eq_def]; rfl
theorem evXo_cc {c' : Nat} {e e2 : E} {es : List E} {env : Env} : evXo p c' (e :: e2 :: es) env = match evX p c' e env with
    | some (.bl true) => some (.bl true)
    | some (.bl false) => evXo p c' (e2 :: es) env
    | _ => none := by rw [evXo.eq_def]; rfl
mutual
theorem snx (h : SuOk p lv cA N sc fn Y cls a) : ∀ (e : E) (t : Pt), wfX N p sc i e t = true → PE Y (fE N p e t) (TX p cA Y.K cls a N.length i fun c' => evX p c' e)
  | .bl b, t, w => PE_imp pe_bl fun σ H Q ⟨c', B, O, env, e1, e2, F, hi, d, hd, q⟩ => by
    simp only [evX] at hd; cases hd
    exact q _ (.bl b)
  | .non, t, w => PE_imp pe_non fun σ H Q ⟨c', B, O, env, e1, e2, F, hi, d, hd, q⟩ => by
    simp only [evX] at hd; cases hd
    exact q _ .non
  | .var j, t, w => PE_imp (h.pv (by simpa only [wfX] using w)) fun σ H Q ⟨c', B, O, env, e1, e2, F, hi, d, hd, q⟩ => by
    simp only [evX] at hd
    have hs := F.slot j
    cases e : env.at j with
    | no => rw [e] at hd; cases hd
    | own _ _ => rw [e] at hd; cases hd
    | sh d' =>
      rw [e] at hd hs
      cases hd
      obtain ⟨v, g1, g2⟩ := hs
      exact ⟨v, g1, q v g2⟩
  | .isx j c, t, w => by
    simp only [wfX, Bool.and_eq_true, decide_eq_true_eq] at w
    obtain ⟨⟨⟨⟨rfl, w2⟩, w3⟩, w4⟩, w5⟩ := w
    obtain ⟨d1, d2, d3⟩ := nm_of w5
    by_cases hc : c < p.XN.length
    · obtain ⟨v, hv, pe⟩ := h.cl c hc
      refine PE_imp (pe_callB h.cal (h.gl w3) h.isi (by decide +kernel) (pa_cons (h.pv w2) (pa_cons (pe (t.c 2).p (h.gl w4) d1 d3) pa_nil) (by rfl)) (by decide) (by decide) (by rfl) (by rfl)) fun σ H Q ⟨c', B, O, env, e1, e2, F, hi, d, hd, q⟩ => ?_
      simp only [evX, if_pos hc] at hd
      cases hd
      exact ⟨_, hi (wfV_lt w2), v, cA c, p.sub c' c, rfl, hv, h.kit c' c e1 e2 hc, q _ (.bl _)⟩
    · exact ⟨fun pins s σ H Q I ⟨c', B, O, env, e1, e2, F, hi, d, hd, q⟩ => by simp only [evX, if_neg hc] at hd; cases hd⟩
  | .not e, t, w => PE_imp (pe_not (snx h e (t.c 0) (by simpa only [wfX] using w))) fun σ H Q ⟨c', B, O, env, e1, e2, F, hi, d, hd, q⟩ => by
    simp only [evX] at hd
    split at hd
    · rename_i b hb
      cases hd
      refine ⟨c', B, O, env, e1, e2, F, hi, _, hb, fun v r => ?_⟩
      cases r
      exact ⟨b, rfl, q _ (.bl _)⟩
    · cases hd
  | .and es, t, w => by
    simp only [wfX, Bool.and_eq_true, Bool.not_eq_true', List.isEmpty_eq_false_iff] at w
    exact PE_imp (snxs h es t 0 w.1 w.2 t.p).1 fun σ H Q hh => by simp only [evX] at hh; exact hh
  | .or es, t, w => by
    simp only [wfX, Bool.and_eq_true, Bool.not_eq_true', List.isEmpty_eq_false_iff] at w
    exact PE_imp (snxs h es t 0 w.1 w.2 t.p).2 fun σ H Q hh => by simp only [evX] at hh; exact hh
  | .int _, _, w => by simp [wfX] at w
  | .str _, _, w => by simp [wfX] at w
  | .glob _, _, w => by simp [wfX] at w
  | .tup _, _, w => by simp [wfX] at w
  | .lst _, _, w => by simp [wfX] at w
  | .bin _ _ _, _, w => by simp [wfX] at w
  | .neg _, _, w => by simp [wfX] at w
  | .ife _ _ _, _, w => by simp [wfX] at w
  | .cmp _ _ _, _, w => by simp [wfX] at w
  | .chn _ _ _ _ _, _, w => by simp [wfX] at w
  | .isN _, _, w => by simp [wfX] at w
  | .notN _, _, w => by simp [wfX] at w
  | .idx _ _, _, w => by simp [wfX] at w
  | .sl _ _ _, _, w => by simp [wfX] at w
  | .rev _, _, w => by simp [wfX] at w
  | .call _ _, _, w => by simp [wfX] at w
  | .bi _ _, _, w => by simp [wfX] at w
  | .isi _ _, _, w => by simp [wfX] at w
  | .meth _ _ _, _, w => by simp [wfX] at w
  | .pop _, _, w => by simp [wfX] at w
  | .app _ _, _, w => by simp [wfX] at w
  | .rvs _, _, w => by simp [wfX] at w
  | .lc _ _ _ _ _, _, w => by simp [wfX] at w
  | .lc2 _ _ _ _ _ _ _ _, _, w => by simp [wfX] at w
  | .sc _ _ _ _ _, _, w => by simp [wfX] at w
  | .ofR _ _, _, w => by simp [wfX] at w
theorem snxs (h : SuOk p lv cA N sc fn Y cls a) : ∀ (es : List E) (t : Pt) (k : Nat), wfXs N p sc i es t k = true → es ≠ [] → ∀ pos : Pos, PE Y (.BoolOp .And (fEs N p es t k) pos) (TX p cA Y.K cls a N.length i fun c' => evXa p c' es) ∧ PE Y (.BoolOp .Or (fEs N p es t k) pos) (TX p cA Y.K cls a N.length i fun c' => evXo p c' es)
  | [], _, _, _, n, _ => absurd rfl n
  | [e], t, k, w, _, pos => by
    simp only [wfXs, Bool.and_true] at w
    have := snx h e (t.c k) w
    exact ⟨PE_imp (pe_one this) fun σ H Q hh => by simpa only [evXa, List.isEmpty_nil, if_true] using hh, PE_imp (pe_one this) fun σ H Q hh => by simpa only [evXo, List.isEmpty_nil, if_true] using hh⟩
  | e :: e2 :: es, t, k, w, _, pos => by
    have w' : wfX N p sc i e (t.c k) = true ∧ wfXs N p sc i (e2 :: es) t (k + 1) = true := by
      rw [wfXs] at w
      simpa only [Bool.and_eq_true] using w
    have h1 := snx h e (t.c k) w'.1
    obtain ⟨h2, h3⟩ := snxs h (e2 :: es) t (k + 1) w'.2 (by simp) pos
    refine ⟨PE_imp (pe_and h1 h2) ?_, PE_imp (pe_or h1 h3) ?_⟩
    · rintro σ H Q ⟨c', B, O, env, e1, e2', F, hi, d, hd, q⟩
      dsimp only at hd
      rw [evXa_cc] at hd
      split at hd
      · rename_i hb
        refine ⟨c', B, O, env, e1, e2', F, hi, _, hb, fun v r => ?_⟩
        cases r
        exact ⟨true, rfl, by rw [if_pos rfl]; exact ⟨c', B, O, env, e1, e2', F, hi, d, hd, q⟩⟩
      · rename_i hb
        cases hd
        refine ⟨c', B, O, env, e1, e2', F, hi, _, hb, fun v r => ?_⟩
        cases r
        exact ⟨false, rfl, by rw [if_neg (by simp)]; exact q _ (.bl _)⟩
      · cases hd
    · rintro σ H Q ⟨c', B, O, env, e1, e2', F, hi, d, hd, q⟩
      dsimp only at hd
      rw [evXo_cc] at hd
      split at hd
      · rename_i hb
        cases hd
        refine ⟨c', B, O, env, e1, e2', F, hi, _, hb, fun v r => ?_⟩
        cases r
        exact ⟨true, rfl, by rw [if_pos rfl]; exact q _ (.bl _)⟩
      · rename_i hb
        refine ⟨c', B, O, env, e1, e2', F, hi, _, hb, fun v r => ?_⟩
        cases r
        exact ⟨false, rfl, by rw [if_neg (by simp)]; exact ⟨c', B, O, env, e1, e2', F, hi, d, hd, q⟩⟩
      · cases hd
end
/-- the reading of a suite -/
def TH (p : Pg) (cA : Nat → Value) (K : PySem.W.Frag) (cls : Value) (a : Addr) (n i : Nat) (h : List S) : TS := fun D σ H => ∃ c' B O env, cls = cA c' ∧ c' < p.xu ∧ FrameOk K B O σ H env ∧ (i < n → σ[i]? = some (some (.ref a))) ∧ ∃ d e2, evH p c' h env = some (d, e2) ∧ ∀ σ' v, FrameOk K B O σ' H e2 → Rp K O H v d → D.rt v H
theorem snh (h : SuOk p lv cA N sc fn Y cls a) (hk : Y.env.scope = sc) : ∀ (ss : List S) (t : Pt) (k : Nat), wfH N p sc fn i ss t k = true → PSs Y (fSs N p ss t k) (TH p cA Y.K cls a N.length i ss)
  | [.ret e], t, k, w => by
    simp only [wfH] at w
    refine PSs_imp (pss_one (ps_ret (snx h e ((t.c k).c 0) w))) fun D σ H ⟨c', B, O, env, e1, e2, F, hi, d, en, hd, q⟩ => ?_
    simp only [evH] at hd
    cases hx : evX p c' e env with
    | none => rw [hx] at hd; cases hd
    | some d' =>
      rw [hx] at hd
      cases hd
      exact ⟨c', B, O, env, e1, e2, F, hi, d, hx, fun v r => q σ v F r⟩
  | .asg (.nm j) e :: ss, t, k, w => by
    simp only [wfH, Bool.and_eq_true, decide_eq_true_eq] at w
    obtain ⟨⟨⟨w1, w2⟩, w3⟩, w4⟩ := w
    have l : Y.N[j]? = some (nmN N j) ∧ Loc Y.env.scope (nmN N j) ∧ (Y.fn (nmN N j) = true ∨ Y.env.scope.names.lookup (nmN N j) = some .local) := by
      unfold wfS at w1
      simp only [Bool.and_eq_true, decide_eq_true_eq] at w1
      refine ⟨by rw [h.names]; exact nmN_get w1.1, ?_, ?_⟩
      · have w2 := w1.2
        rw [h.sc]
        split at w2
        · exact .inl (by assumption)
        · exact .inr (by assumption)
        · cases w2
      · have w2 := w1.2
        rw [h.sc]
        split at w2
        · exact .inr (by assumption)
        · exact .inl (h.fn _ w2)
        · cases w2
    have sw : swapsWith (fE N p e ((t.c k).c 1)) (some (.Name (nmN N j) ((t.c k).c 0).p)) (t.c k).p.line Y.env = pure false := by
      cases e <;> first | rfl | (simp [wfX] at w3)
    refine PSs_imp (pss_cons (ps_set (pos' := ((t.c k).c 0).p) (pos := (t.c k).p) (by rw [h.names]; exact h.nd) l.1 l.2.1 (snx h e ((t.c k).c 1) w3) sw l.2.2) (snh h hk ss t (k + 1) w4)) fun D σ H ⟨c', B, O, env, e1, e2, F, hi, d, en, hd, q⟩ => ?_
    simp only [evH] at hd
    split at hd
    · cases hx : evX p c' e env with
      | none => rw [hx] at hd; cases hd
      | some d' =>
        rw [hx] at hd
        exact ⟨c', B, O, env, e1, e2, F, hi, d', hx, fun v r => ⟨c', B, O, env.set j (.sh d'), e1, e2, F.setSh r, fun z => by rw [List.getElem?_set_ne w2]; exact hi z, d, en, hd, q⟩⟩
    · cases hd
  | [], _, _, w => by simp [wfH] at w
  | .ret _ :: _ :: _, _, _, w => by simp [wfH] at w
  | .asg (.tup _) _ :: _, _, _, w => by simp [wfH] at w
  | .expr _ :: _, _, _, w => by simp [wfH] at w
  | .asgP _ _ :: _, _, _, w => by simp [wfH] at w
  | .aug _ _ _ :: _, _, _, w => by simp [wfH] at w
  | .setI _ _ _ :: _, _, _, w => by simp [wfH] at w
  | .augI _ _ _ _ :: _, _, _, w => by simp [wfH] at w
  | .ife _ _ _ :: _, _, _, w => by simp [wfH] at w
  | .for _ _ _ :: _, _, _, w => by simp [wfH] at w
  | .while _ _ :: _, _, _, w => by simp [wfH] at w
  | .retN :: _, _, _, w => by simp [wfH] at w
  | .raise _ _ :: _, _, _, w => by simp [wfH] at w
  | .tryAs _ _ _ _ :: _, _, _, w => by simp [wfH] at w
  | .tryO _ _ _ :: _, _, _, w => by simp [wfH] at w
  | .pass :: _, _, _, w => by simp [wfH] at w
  | .brk :: _, _, _, w => by simp [wfH] at w
  | .cont :: _, _, _, w => by simp [wfH] at w
end

/-! ## try, raise -/
section
variable {p : Pg} {cl : Cl} {lv : Nat} {cA : Nat → Value} {N : List Str} {sc : Scope} {fn : Str → Bool} {X : Cx} {W : WN}
theorem XOk.tr (h : XOk p cl lv cA N sc fn X W) {W1 : WX} {pn : List (Addr × Obj)} {xe : Value → Shared → Prop} (tk : Takes (X.tr pn xe) W1) : XOk p cl lv cA N sc fn (X.tr pn xe) (fun c σ H => W1 (cA c) none σ H) where
  g := h.g
  names := h.names
  nd := h.nd
  sc := h.sc
  calm := h.calm
  fn := h.fn
  room := h.room
  tk := tk.imp fun c d σ H ⟨c', e1, e2, q⟩ => by subst e1; subst e2; exact q
theorem suite_ok (h : XOk p cl lv cA N sc fn X W) {i : Nat} {hd : List S} {t : Pt} {k : Nat} (w : wfH N p sc fn i hd t k = true) {a : Addr} {oe : Obj} {cls : Value} {d : Option Addr} {pn : List (Addr × Obj)} (hz : Zc cls d oe) (hf : ∃ vs, oe.data = .fields vs) :
    PSs (X.suite a ((a, oe) :: pn)) (fSs N p hd t k) (fun D σ H => d = none ∧ TH p cA X.K cls a N.length i hd D σ H) := by
  by_cases hx : d = none ∧ ∃ c0, c0 < p.xu ∧ c0 < p.XN.length ∧ cls = cA c0
  · obtain ⟨rfl, c0, h1, h2, rfl⟩ := hx
    rcases h.g.exn c0 h2 with ⟨_, C, eC, xo⟩ | ⟨z, _⟩
    · have su : SuOk p lv cA N sc fn (X.suite a ((a, oe) :: pn)) (cA c0) a := {
        names := h.names
        nd := h.nd
        sc := h.sc
        fn := h.fn
        isi := h.g.isi
        cal := by
          rw [eC] at hz ⊢
          exact call_isE xo.ec hz hf
        cl := fun c hc => by
          rcases h.g.exn c hc with ⟨_, C, e, y⟩ | ⟨_, m, T, b, e⟩
          · exact ⟨.ref C, fun u r => by rw [e]; exact r, fun pos g d1 _ => pe_glob g y.m rfl d1⟩
          · exact ⟨.ty T, fun u r => by rw [e]; exact r, fun pos g d1 d3 => pe_bltn g m b rfl d3 d1⟩
        kit := fun c' c e1 e2 e3 => by rw [e1]; exact (h.g.xsub c' c e2 e3).1 }
      exact PSs_imp (snh su h.sc hd t k w) fun D σ H hh => hh.2
    · omega
  · refine ⟨fun pins s σ H D I hh => absurd ?_ hx⟩
    obtain ⟨e, c', B, O, env, e1, e2, _⟩ := hh
    by_cases hl : c' < p.XN.length
    · exact ⟨e, c', e2, hl, e1⟩
    · exact ⟨e, c', e2, by have := h.g.xle; omega, e1⟩
theorem try_body {K : PySem.W.Frag} {B : Base} {O : OS} {H : Hp} {c : Nat} {hd : List S} {r : R Flow} {slot : Env → Option Env} {D : Ends} (hp : PostS K W B O H (hdR p c hd r slot) D) {W' : WN}
    (hw : ∀ c' e, c' < p.xu → c < p.XN.length → ∀ O' σ' H', Kept O H O' H' → FrameOk K B O' σ' H' e → PostS K W B O H (if p.sub c' c then (match (slot e).bind fun e => evH p c' hd e with
      | some (d, e2) => .ok (.ret (.sh d)) e2
      | none => .bad) else .exc c' e) D → W' c' σ' H') : PostS K W' B O H r D := by
  cases r with
  | bad => exact hp
  | ok f e => exact hp
  | exc c' e =>
    intro O' σ' H' k F
    simp only [hdR] at hp
    split at hp
    · rename_i hc
      exact hw c' e hc.1 hc.2 O' σ' H' k F hp
    · exact hp.elim
theorem sns_tryAs (h : XOk p cl lv cA N sc fn X W) (hst : X.stack = X.env :: X.outer ∧ X.env.frame = some X.env.locals) {b : List S} {c i : Nat} {hd : List S} {t : Pt} (hcu : c < p.xu) (hcl : c < p.XN.length) (hg : glB sc (p.XN.getD c "__debug__") = true) (hn : nmB (p.XN.getD c "__debug__") = true)
    (hi : i < N.length) (hln : sc.names.lookup (nmN N i) = some .local) (w : wfH N p sc fn i hd (t.c 2) 0 = true)
    (hb : ∀ (W1 : WX) (pn : List (Addr × Obj)) (xe : Value → Shared → Prop), Takes (X.tr pn xe) W1 → PassesOwn (model X.prog X.w) X.A X.env xe → SndSs p cl N (X.tr pn xe) (fun c σ H => W1 (cA c) none σ H) b (t.c 0) 0) : SndS p cl N X W (.tryAs b c i hd) t := by
  obtain ⟨d1, _, d3⟩ := nm_of hn
  have nm : Names X (p.XN.getD c "__debug__") (cA c) := by
    rcases h.g.exn c hcl with ⟨_, C, e, y⟩ | ⟨z, _⟩
    · exact ⟨gl_of h hg, d1, .inl (by rw [e]; exact y.m)⟩
    · omega
  cases hd with
  | nil => simp [wfH] at w
  | cons s ss =>
    refine PS_imp (ps_try_as (i := i) (tb := fun W1 => TmS X.K (fun c σ H => W1 (cA c) none σ H) (evSs p cl b)) (ts := fun a cls d D σ H => d = none ∧ TH p cA X.K cls a N.length i (s :: ss) D σ H) (Wout := wX cA W) hst.1 hst.2 (by rw [h.names]; exact h.nd) (by rw [h.names]; exact nmN_get hi) (by show X.env.scope.names.lookup _ = _; rw [h.sc]; exact hln) nm h.tk hb (fun a oe cls d pn hz hf => suite_ok h w hz hf)) ?_
    rintro D σ H ⟨B, O, env, F, hp⟩
    simp only [evS] at hp
    refine ⟨B, O, env, F, try_body hp fun c' e h1 h2 O' σ' H' k F' hq => ?_⟩
    refine ⟨p.sub c' c, (h.g.xsub c' c h1 h2).2 hcu, fun hs a ha => ⟨rfl, ?_⟩, fun hs => ⟨c', rfl, rfl, ?_⟩⟩
    · rw [if_pos hs] at hq
      by_cases hm : e.mayV i = true ∧ i < e.length
      · rw [if_pos hm] at hq
        simp only [Option.bind_some] at hq
        cases ev : evH p c' (s :: ss) (e.set i .no) with
        | none => rw [ev] at hq; exact hq.elim
        | some q =>
          obtain ⟨d, e2⟩ := q
          rw [ev] at hq
          have il : i < σ'.length := by have := F'.len; omega
          exact ⟨c', B, O', _, rfl, h1, F'.setNo i (some (.ref a)), fun _ => by rw [List.getElem?_set_self il], d, e2, ev, fun σ2 v F2 r => hq O' σ2 H' k F2 v ⟨r, trivial⟩⟩
      · rw [if_neg hm] at hq
        exact hq.elim
    · rw [if_neg (by rw [hs]; simp)] at hq
      exact hq O' σ' H' k F'
theorem sns_tryO (h : XOk p cl lv cA N sc fn X W) (hst : X.stack = X.env :: X.outer ∧ X.env.frame = some X.env.locals) {b : List S} {c : Nat} {hd : List S} {t : Pt} (hcu : c < p.xu) (hcl : c < p.XN.length) (hg : glB sc (p.XN.getD c "__debug__") = true) (hn : nmB (p.XN.getD c "__debug__") = true)
    (w : wfH N p sc fn N.length hd (t.c 2) 0 = true)
    (hb : ∀ (W1 : WX) (pn : List (Addr × Obj)) (xe : Value → Shared → Prop), Takes (X.tr pn xe) W1 → PassesOwn (model X.prog X.w) X.A X.env xe → SndSs p cl N (X.tr pn xe) (fun c σ H => W1 (cA c) none σ H) b (t.c 0) 0) : SndS p cl N X W (.tryO b c hd) t := by
  obtain ⟨d1, _, d3⟩ := nm_of hn
  have nm : Names X (p.XN.getD c "__debug__") (cA c) := by
    rcases h.g.exn c hcl with ⟨_, C, e, y⟩ | ⟨z, _⟩
    · exact ⟨gl_of h hg, d1, .inl (by rw [e]; exact y.m)⟩
    · omega
  cases hd with
  | nil => simp [wfH] at w
  | cons s ss =>
    refine PS_imp (ps_try_only (tb := fun W1 => TmS X.K (fun c σ H => W1 (cA c) none σ H) (evSs p cl b)) (ts := fun a cls d D σ H => d = none ∧ TH p cA X.K cls a N.length N.length (s :: ss) D σ H) (Wout := wX cA W) hst.1 hst.2 nm h.tk hb (fun a oe cls d pn hz hf => suite_ok h w hz hf)) ?_
    rintro D σ H ⟨B, O, env, F, hp⟩
    simp only [evS] at hp
    refine ⟨B, O, env, F, try_body hp fun c' e h1 h2 O' σ' H' k F' hq => ?_⟩
    refine ⟨p.sub c' c, (h.g.xsub c' c h1 h2).2 hcu, fun hs a ha => ⟨rfl, ?_⟩, fun hs => ⟨c', rfl, rfl, ?_⟩⟩
    · rw [if_pos hs] at hq
      simp only [Option.bind_some] at hq
      cases ev : evH p c' (s :: ss) e with
      | none => rw [ev] at hq; exact hq.elim
      | some q =>
        obtain ⟨d, e2⟩ := q
        rw [ev] at hq
        exact ⟨c', B, O', _, rfl, h1, F', fun z => absurd z (Nat.lt_irrefl _), d, e2, ev, fun σ2 v F2 r => hq O' σ2 H' k F2 v ⟨r, trivial⟩⟩
    · rw [if_neg (by rw [hs]; simp)] at hq
      exact hq O' σ' H' k F'
theorem sns_raise (h : XOk p cl lv cA N sc fn X W) {c : Nat} {m : Str} {t : Pt} (hcu : c < p.xu) (hcl : c < p.XN.length) (hg : glB sc (p.XN.getD c "__debug__") = true) (hn : nmB (p.XN.getD c "__debug__") = true) : SndS p cl N X W (.raise c m) t := by
  obtain ⟨d1, _, d3⟩ := nm_of hn
  rcases h.g.exn c hcl with ⟨_, C, e, y⟩ | ⟨z, _⟩
  · obtain ⟨B0, n0, i0, b0, ef, eq⟩ := y.ex
    refine PS_imp (ps_raise h.calm h.tk (pmk_own ef eq y.m y.kp (raises_own y.sb y.ty) (gl_of h hg) d1)) ?_
    rintro D σ H ⟨B, O, env, F, hp⟩
    simp only [evS] at hp
    exact ⟨c, e.symm, rfl, hp O σ H .refl F⟩
  · omega
end
end Lw
set_option linter.all false
set_option Elab.async false
set_option maxRecDepth 100000
set_option maxHeartbeats 1000000
namespace Lw
open PySem PySem.Spec L2
def stoB (N : List Str) (p : Pg) (sc : Scope) (ns : List Nat) (t : Pt) : E → Bool
  | .tup es => decide (swN sc (fNs N ns (t.c 0) 0) (fEs N p es (t.c 1) 0) = some none)
  | _ => true
def exB (p : Pg) (sc : Scope) (c : Nat) : Bool := decide (c < p.xu) && decide (c < p.XN.length) && glB sc (p.XN.getD c "__debug__") && nmB (p.XN.getD c "__debug__")
def locB (sc : Scope) (x : Str) : Bool := match sc.names.lookup x with
  | some .local => true
  | _ => false
theorem locB_of {sc : Scope} {x : Str} (h : locB sc x = true) : sc.names.lookup x = some .local := by
  unfold locB at h
  split at h
  · assumption
  · cases h
mutual
def wfSt (N : List Str) (p : Pg) (sc : Scope) (fn : Str → Bool) : S → Pt → Bool
  | .expr e, t => !isLc e && wfE N p sc fn e (t.c 0)
  | .asg (.nm i) e, t => wfS N sc fn i && wfE N p sc fn e (t.c 1)
  | .asg (.tup ns) e, t => wfG N sc fn (.tup ns) && wfE N p sc fn e (t.c 1) && stoB N p sc ns t e
  | .asgP ns es, t => parB N p sc ns es t && wfEs N p sc fn es (t.c 1) 0
  | .aug i _ e, t => wfS N sc fn i && wfE N p sc fn e (t.c 1)
  | .setI i k e, t => wfV N sc i && wfE N p sc fn k (t.c 1) && wfE N p sc fn e (t.c 3)
  | .augI i k _ e, t => wfV N sc i && wfE N p sc fn k (t.c 1) && wfE N p sc fn e (t.c 3)
  | .ife c a b, t => wfE N p sc fn c (t.c 0) && tstE c && wfSs N p sc fn a (t.c 1) 0 && wfSs N p sc fn b (t.c 2) 0
  | .for g it b, t => wfG N sc fn g && (wfI N p sc fn it (t.c 1) && zipG it g) && wfSs N p sc fn b (t.c 2) 0
  | .while c b, t => wfE N p sc fn c (t.c 0) && tstE c && wfSs N p sc fn b (t.c 1) 0
  | .ret e, t => wfE N p sc fn e (t.c 0)
  | .retN, _ => true
  | .raise c _, _ => exB p sc c
  | .tryAs b c i h, t => exB p sc c && decide (i < N.length) && locB sc (nmN N i) && wfH N p sc fn i h (t.c 2) 0 && wfSs N p sc fn b (t.c 0) 0
  | .tryO b c h, t => exB p sc c && wfH N p sc fn N.length h (t.c 2) 0 && wfSs N p sc fn b (t.c 0) 0
  | .pass, _ => true
  | .brk, _ => true
  | .cont, _ => true
def wfSs (N : List Str) (p : Pg) (sc : Scope) (fn : Str → Bool) : List S → Pt → Nat → Bool
  | [], _, _ => true
  | s :: ss, t, i => wfSt N p sc fn s (t.c i) && wfSs N p sc fn ss t (i + 1)
end
section
variable {p : Pg} {cl : Cl} {lv : Nat} {cA : Nat → Value} {N : List Str} {sc : Scope} {fn : Str → Bool} {X : Cx} {W : WN}
theorem not_lc {e : E} {t : Pt} (w : wfE N p sc fn e t = true) : isLc e = false ∨ (∃ a b c d f, e = .lc a b c d f) ∨ ∃ a b c d f g i j, e = .lc2 a b c d f g i j := by
  cases e <;> first | exact .inl rfl | (rename_i it; cases it <;> exact .inl rfl) | exact .inr (.inl ⟨_, _, _, _, _, rfl⟩) | exact .inr (.inr ⟨_, _, _, _, _, _, _, _, rfl⟩) | simp [wfE] at w
mutual
theorem sndS (hk : sc.kind = .function) : ∀ (s : S) {X : Cx} {W : WN} (t : Pt), XOk p cl lv cA N sc fn X W → PassesOwn (model X.prog X.w) X.A X.env X.xe → (X.stack = X.env :: X.outer ∧ X.env.frame = some X.env.locals) → wfSt N p sc fn s t = true → SndS p cl N X W s t
  | .expr e, _, _, t, h, po, hst, w => by
    simp only [wfSt, Bool.and_eq_true, Bool.not_eq_true'] at w
    exact sns_expr w.1 (sndE e h w.2).1
  | .asg (.nm i) e, _, _, t, h, po, hst, w => by
    simp only [wfSt, Bool.and_eq_true] at w
    rcases not_lc w.2 with q | ⟨a, b, c, d, f, rfl⟩ | ⟨a, b, c, d, f, g, i', j, rfl⟩
    · exact sns_set h w.1 q (sndE e h w.2).1
    · exact sns_setLc h hk w.1 w.2
    · exact sns_setLc2 h hk w.1 w.2
  | .asg (.tup ns) e, _, _, t, h, po, hst, w => by
    simp only [wfSt, Bool.and_eq_true] at w
    refine sns_unp h hk w.1.1 (fun es q => ?_) (sndE e h w.1.2).1
    subst q
    have := w.2
    simp only [stoB, decide_eq_true_eq] at this
    exact this
  | .asgP ns es, _, _, t, h, po, hst, w => by
    simp only [wfSt, Bool.and_eq_true] at w
    exact sns_par h hk w.1 (sndEs es h w.2).1
  | .aug i o e, _, _, t, h, po, hst, w => by
    simp only [wfSt, Bool.and_eq_true] at w
    exact sns_aug h w.1 (sndE e h w.2).1
  | .setI i k e, _, _, t, h, po, hst, w => by
    simp only [wfSt, Bool.and_eq_true] at w
    exact sns_setI h w.1.1 (sndE k h w.1.2).1 (sndE e h w.2).1
  | .augI i k o e, _, _, t, h, po, hst, w => by
    simp only [wfSt, Bool.and_eq_true] at w
    exact sns_augI h w.1.1 (sndE k h w.1.2).1 (sndE e h w.2).1
  | .ife c a b, _, _, t, h, po, hst, w => by
    simp only [wfSt, Bool.and_eq_true] at w
    exact sns_ife ((sndE c h w.1.1.1).2 w.1.1.2) (sndSs hk a (t.c 1) 0 h po hst w.1.2) (sndSs hk b (t.c 2) 0 h po hst w.2)
  | .for g it b, _, _, t, h, po, hst, w => by
    simp only [wfSt, Bool.and_eq_true] at w
    exact sns_for h po w.1.1 (sndI it h w.1.2.1 w.1.2.2) (sndSs hk b (t.c 2) 0 h po hst w.2)
  | .while c b, _, _, t, h, po, hst, w => by
    simp only [wfSt, Bool.and_eq_true] at w
    exact sns_while h po ((sndE c h w.1.1).2 w.1.2) (sndSs hk b (t.c 1) 0 h po hst w.2)
  | .ret e, _, _, t, h, po, hst, w => by
    simp only [wfSt] at w
    exact sns_ret (sndE e h w).1
  | .retN, _, _, _, h, po, hst, _ => sns_retN
  | .raise c m, _, _, t, h, po, hst, w => by
    simp only [wfSt, exB, Bool.and_eq_true, decide_eq_true_eq] at w
    exact sns_raise h w.1.1.1 w.1.1.2 w.1.2 w.2
  | .tryAs b c i hd, _, _, t, h, po, hst, w => by
    simp only [wfSt, exB, Bool.and_eq_true, decide_eq_true_eq] at w
    obtain ⟨⟨⟨⟨⟨⟨⟨w1, w2⟩, w3⟩, w4⟩, w5⟩, w6⟩, w7⟩, w8⟩ := w
    exact sns_tryAs h hst w1 w2 w3 w4 w5 (locB_of w6) w7 fun W1 pn xe tk po' => sndSs hk b (t.c 0) 0 (h.tr tk) po' hst w8
  | .tryO b c hd, _, _, t, h, po, hst, w => by
    simp only [wfSt, exB, Bool.and_eq_true, decide_eq_true_eq] at w
    obtain ⟨⟨⟨⟨⟨w1, w2⟩, w3⟩, w4⟩, w7⟩, w8⟩ := w
    exact sns_tryO h hst w1 w2 w3 w4 w7 fun W1 pn xe tk po' => sndSs hk b (t.c 0) 0 (h.tr tk) po' hst w8
  | .pass, _, _, _, h, po, hst, _ => sns_pass
  | .brk, _, _, _, h, po, hst, _ => sns_brk
  | .cont, _, _, _, h, po, hst, _ => sns_cont
theorem sndSs (hk : sc.kind = .function) : ∀ (ss : List S) {X : Cx} {W : WN} (t : Pt) (i : Nat), XOk p cl lv cA N sc fn X W → PassesOwn (model X.prog X.w) X.A X.env X.xe → (X.stack = X.env :: X.outer ∧ X.env.frame = some X.env.locals) → wfSs N p sc fn ss t i = true → SndSs p cl N X W ss t i
  | [], _, _, _, _, h, po, hst, _ => sns_nil
  | s :: ss, _, _, t, i, h, po, hst, w => by
    simp only [wfSs, Bool.and_eq_true] at w
    exact sns_cons (sndS hk s (t.c i) h po hst w.1) (sndSs hk ss t (i + 1) h po hst w.2)
end
end
end Lw
set_option linter.all false
set_option Elab.async false
set_option maxRecDepth 100000
set_option maxHeartbeats 1000000
namespace Lw
open PySem PySem.Spec L2

/-! ## a def's entry and end -/
theorem lentA_at : ∀ {vs : List V} {as : List Arg} {i : Nat} {a : Addr}, lentA vs as i = some a → vs[i]? = some (.ref a) ∧ ∃ xs, as[i]? = some (.loan xs)
  | [], _, _, _, h => by simp [lentA] at h
  | v :: vs, [], i, _, h => by cases v <;> simp [lentA] at h
  | v :: vs, g :: as, 0, a, h => by
    cases v <;> cases g <;> simp only [lentA] at h <;> first | cases h | skip
    exact ⟨rfl, _, rfl⟩
  | v :: vs, g :: as, i + 1, a, h => by
    rw [lentA_succ] at h
    obtain ⟨h1, h2⟩ := lentA_at h
    exact ⟨by simpa using h1, by simpa using h2⟩
theorem at_lentA : ∀ {vs : List V} {as : List Arg} {i : Nat} {a : Addr} {xs : List D}, vs[i]? = some (.ref a) → as[i]? = some (.loan xs) → lentA vs as i = some a
  | [], _, _, _, _, h, _ => by simp at h
  | v :: vs, [], i, _, _, _, h => by simp at h
  | v :: vs, g :: as, 0, a, _, h, h2 => by
    simp at h h2; subst h; subst h2; rfl
  | v :: vs, g :: as, i + 1, a, _, h, h2 => by
    rw [lentA_succ]
    exact at_lentA (by simpa using h) (by simpa using h2)
theorem paired_at {α β : Type} {R : α → β → Prop} : ∀ {as : List α} {bs : List β} {i : Nat} {b : β}, Paired R as bs → bs[i]? = some b → ∃ a, as[i]? = some a ∧ R a b
  | _, _, i, _, .nil, h => by simp at h
  | _, _, 0, _, .cons h t, e => by simp at e; subst e; exact ⟨_, rfl, h⟩
  | _, _, i + 1, _, .cons h t, e => by
    obtain ⟨a, h1, h2⟩ := paired_at (i := i) t (by simpa using e)
    exact ⟨a, by simpa using h1, h2⟩
theorem Env.at_eq (env : Env) (i : Nat) : env.at i = (env[i]?).getD .no := by
  induction env generalizing i with
  | nil => simp [Env.at]
  | cons s r ih => cases i with
    | zero => simp [Env.at]
    | succ i => simp [Env.at, ih]
/-- what stands in a slot at the entry -/
theorem entry_at {as : List Arg} {m i : Nat} {s : Slot} (h : Env.at (as.map argS ++ List.replicate m .no) i = s) (n : s ≠ .no) : ∃ g, as[i]? = some g ∧ s = argS g := by
  rw [Env.at_eq] at h
  by_cases hi : i < as.length
  · rw [List.getElem?_append_left (by simpa using hi), List.getElem?_map, List.getElem?_eq_getElem hi] at h
    exact ⟨as[i], List.getElem?_eq_getElem hi, h.symm⟩
  · rw [List.getElem?_append_right (by simpa using hi), List.getElem?_replicate] at h
    split at h <;> exact absurd h.symm n
theorem start_at {N : List Str} {vs : List V} {i : Nat} {v : V} (h : vs[i]? = some v) : (L2.start N vs)[i]? = some (some v) := by
  unfold L2.start
  have hi : i < vs.length := (List.getElem?_eq_some_iff.mp h).1
  rw [List.getElem?_append_left (by simpa using hi), List.getElem?_map, h]; rfl
abbrev entryB (H : Hp) (O : OS) (vs : List V) (as : List Arg) : Base := ⟨H, O, lentA vs as, H⟩
theorem entry_frame {K : PySem.W.Frag} {O : OS} {H : Hp} {N : List Str} {vs : List V} {as : List Arg} {n : Nat} (tr : Trk O H) (pa : Paired (ArgOk K O H) vs as)
    (inj : ∀ i j a, lentA vs as i = some a → lentA vs as j = some a → i = j) (hn : n = N.length) (hl : as.length ≤ n) : FrameOk K (entryB H O vs as) O (L2.start N vs) H (as.map argS ++ List.replicate (n - as.length) .no) := by
  have len := pa.length
  refine ⟨?_, fun i => ?_, fun i j l m xs ys a h1 h2 h3 h4 => ?_, fun _ h => h, fun _ _ h _ => h, tr, fun i a h => ?_, fun a h => h.elim id id, tr⟩
  · unfold L2.start
    simp only [List.length_append, List.length_map, List.length_replicate]
    omega
  · cases q : Env.at (as.map argS ++ List.replicate (n - as.length) .no) i with
    | no => trivial
    | sh d =>
      obtain ⟨g, h1, h2⟩ := entry_at q (by intro z; cases z)
      cases g with
      | loan xs => cases h2
      | sh d' =>
        cases h2
        obtain ⟨v, h3, h4⟩ := paired_at pa h1
        exact ⟨v, start_at h3, h4⟩
    | own l xs =>
      obtain ⟨g, h1, h2⟩ := entry_at q (by intro z; cases z)
      cases g with
      | sh d' => cases h2
      | loan ys =>
        cases h2
        obtain ⟨v, h3, b, ws, rfl, h4, h5, h6⟩ := paired_at pa h1
        exact ⟨b, ws, start_at h3, h4, h5, h6, at_lentA h3 h1⟩
  · obtain ⟨g1, a1, b1⟩ := entry_at h1 (by intro z; cases z)
    obtain ⟨g2, a2, b2⟩ := entry_at h2 (by intro z; cases z)
    cases g1 with
    | sh d' => cases b1
    | loan x1 =>
      cases g2 with
      | sh d' => cases b2
      | loan x2 =>
        obtain ⟨v1, c1, _⟩ := paired_at pa a1
        obtain ⟨v2, c2, _⟩ := paired_at pa a2
        have d1 := start_at (N := N) c1
        have d2 := start_at (N := N) c2
        rw [h3] at d1; rw [h4] at d2
        cases d1; cases d2
        exact inj i j a (at_lentA c1 a1) (at_lentA c2 a2)
  · obtain ⟨h1, xs, h2⟩ := lentA_at h
    obtain ⟨v, h3, b, ws, e, h4, _⟩ := paired_at pa h2
    rw [h1] at h3; cases h3; cases e
    exact h4
/-- the lent lists at the end -/
theorem outs_frame {K : PySem.W.Frag} {O O' O2 : OS} {H H' : Hp} {lent : Nat → Option Addr} {σ : SS} (hO : ∀ a, O2 a → O' a) : ∀ {vs : List V} {as : List Arg} {e : Env} (k : Nat), Paired (ArgOk K O H) vs as → keptB as e = true →
    (∀ i, lent (i + k) = lentA vs as i) → (∀ i l xs, e.at i = .own l xs → ∃ a ws, H' a = some (.lst ws) ∧ RpL K O' H' ws xs ∧ (l = true → lent (i + k) = some a)) → OutsOk K O2 H' vs as (outsOf as.length e)
  | _, _, e, k, .nil, _, _, _ => by cases e <;> trivial
  | _, _, [], k, @Paired.cons _ _ _ v g vs as h t, kb, hl, _ => by cases g <;> simp [keptB] at kb
  | _, _, s :: r, k, @Paired.cons _ _ _ v g vs as h t, kb, hl, hs => by
    have rec_ : keptB as r = true → OutsOk K O2 H' vs as (outsOf as.length r) := fun kb' => outs_frame (lent := lent) (σ := σ) hO (k + 1) t kb' (fun i => by rw [show i + (k + 1) = (i + 1) + k by omega, hl, lentA_succ]) fun i l xs q => by
      obtain ⟨a, ws, h1, h2, h3⟩ := hs (i + 1) l xs q
      exact ⟨a, ws, h1, h2, fun z => by rw [show i + (k + 1) = (i + 1) + k by omega]; exact h3 z⟩
    cases g with
    | sh d =>
      have kb' : keptB as r = true := by cases s <;> simpa [keptB] using kb
      have := rec_ kb'
      cases s with
      | no => exact ⟨trivial, this⟩
      | sh d => exact ⟨trivial, this⟩
      | own l xs => cases l <;> exact ⟨trivial, this⟩
    | loan ys =>
      cases s with
      | no => simp [keptB] at kb
      | sh d => simp [keptB] at kb
      | own l xs =>
        cases l with
        | false => simp [keptB] at kb
        | true =>
          have kb' : keptB as r = true := by simpa [keptB] using kb
          obtain ⟨b, ws, rfl, _⟩ := h
          obtain ⟨a, ws', h1, h2, h3⟩ := hs 0 true xs rfl
          have e0 := h3 rfl
          rw [hl 0] at e0
          have eb : b = a := by simpa [lentA] using e0
          subst eb
          exact ⟨⟨_, ws', xs, rfl, rfl, h1, h2.kept ⟨fun _ _ _ h => h, fun a h => .inl (hO a h)⟩⟩, rec_ kb'⟩
section
variable {P : Program} {w : World} {K : PySem.W.Frag} {mg : Str → Option Value} {base : Heap} {p : Pg} {cA : Nat → Value}
theorem fr_outs {O O' O2 : OS} {H H' : Hp} {σ' : SS} {e : Env} {vs : List V} {as : List Arg} (F : FrameOk K (entryB H O vs as) O' σ' H' e) (pa : Paired (ArgOk K O H) vs as) (kb : keptB as e = true) (hO : ∀ a, O2 a → O' a) : OutsOk K O2 H' vs as (outsOf as.length e) :=
  outs_frame (lent := lentA vs as) (σ := σ') hO 0 pa kb (fun _ => rfl) fun i l xs q => by
    have hs := F.slot i
    rw [q] at hs
    obtain ⟨a, ws, g1, g2, g3, g4, g5⟩ := hs
    refine ⟨a, ws, g3, g4, fun z => ?_⟩
    subst z
    exact g5
/-- THE BODY: what the interpreter gives is what is promised -/
theorem body_post {O : OS} {H : Hp} {vs : List V} {as : List Arg} {cl : Cl} {d : FD} {Q : VK} {E : XK} (pa : Paired (ArgOk K O H) vs as) (hq : match runB p cl d as with
    | .ok v os => ∀ x H', Unlent H H' vs as → (match v with
        | .sh d => OutsOk K O H' vs as os ∧ Rp K O H' x d
        | .fr xs => ∃ a ws, x = .ref a ∧ H a = none ∧ H' a = some (.lst ws) ∧ OutsOk K (fun b => O b ∨ b = a) H' vs as os ∧ RpL K (fun b => O b ∨ b = a) H' ws xs
        | .bor _ => False) → Q x H'
    | .exc c os => ∀ H', Unlent H H' vs as → OutsOk K O H' vs as os → E (cA c) none H'
    | .bad => False) : (as.length = d.ps ∧ d.ps ≤ d.n) ∧ PostS K (fun c _ H' => E (cA c) none H') (entryB H O vs as) O H (evSs p cl d.body (as.map argS ++ List.replicate (d.n - as.length) .no)) { nx := fun _ H' => Q .non H', rt := Q } := by
  unfold runB at hq
  by_cases hl : as.length = d.ps ∧ d.ps ≤ d.n
  · rw [if_pos hl] at hq
    refine ⟨hl, ?_⟩
    rw [hl.1]
    have ul : ∀ {O' : OS} {σ' : SS} {H' : Hp} {e : Env}, FrameOk K (entryB H O vs as) O' σ' H' e → Unlent H H' vs as := fun F a o h n => F.bh a o h n
    have dn : ∀ {O' : OS} {σ' : SS} {H' : Hp} {e : Env} {x : V} {y : D}, FrameOk K (entryB H O vs as) O' σ' H' e → Rp K O' H' x y → Rp K O H' x y := fun F r => r.kept ⟨fun _ _ _ h => h, fun a h => .inl (F.bo a h)⟩
    generalize evSs p cl d.body (as.map argS ++ List.replicate (d.n - d.ps) .no) = r at hq ⊢
    cases r with
    | bad => exact hq
    | exc c e =>
      simp only [backR] at hq
      intro O' σ' H' k F
      split at hq
      · rename_i c' os q
        split at q
        · cases q
        · cases q
      · rename_i c' os q
        split at q
        · rename_i kb
          cases q
          exact hq H' (ul F) (fr_outs F pa kb F.bo)
        · cases q
      · exact hq.elim
    | ok f e =>
      intro O' σ' H' k F
      cases f with
      | brk => exact hq.elim
      | cont => exact hq.elim
      | nxt =>
        simp only [backR] at hq
        split at hq
        · rename_i v os q
          split at q
          · rename_i kb
            cases q
            exact hq .non H' (ul F) ⟨fr_outs F pa kb F.bo, .non⟩
          · cases q
        · rename_i c' os q
          split at q <;> cases q
        · exact hq.elim
      | ret v0 =>
        intro x k0
        simp only [backR] at hq
        split at hq
        · rename_i v os q
          split at q
          · rename_i kb
            split at q
            · rename_i w1 hw
              cases q
              refine hq x H' (ul F) ?_
              cases v0 with
              | sh y =>
                cases hw
                exact ⟨fr_outs F pa kb F.bo, dn F k0.1⟩
              | fr xs =>
                cases hw
                obtain ⟨a, ws, rfl, h1, h2, h3, F2, h4⟩ := k0.2
                refine ⟨a, ws, rfl, h3.1, h1, fr_outs F2 pa kb fun b hb => hb.elim (fun z => .inl (F.bo b z)) .inr, h2.kept ⟨fun _ _ _ h => h, fun b hb => .inl (hb.elim (fun z => .inl (F.bo b z)) .inr)⟩⟩
              | bor i =>
                have hx : σ'[i]? = some (some x) := k0.1
                have hs := F.slot i
                simp only [retV] at hw
                split at hw
                · rename_i xs q
                  cases hw
                  rw [q] at hs
                  obtain ⟨a, ws, g1, g2, g3, g4, g5⟩ := hs
                  rw [hx] at g1; cases g1
                  have g5' : H a = none := g5
                  have hO : ∀ b, (O b ∨ b = a) → O' b := fun b hb => hb.elim (F.bo b) fun z => by rw [z]; exact g2
                  exact ⟨a, ws, rfl, g5', g3, fr_outs F pa kb hO, g4.kept ⟨fun _ _ _ h => h, fun b hb => .inl (hO b hb)⟩⟩
                · rename_i y q
                  cases hw
                  rw [q] at hs
                  obtain ⟨u, g1, g2⟩ := hs
                  rw [hx] at g1; cases g1
                  exact ⟨fr_outs F pa kb F.bo, dn F g2⟩
                · cases hw
            · cases q
          · cases q
        · rename_i c' os q
          split at q
          · split at q <;> cases q
          · cases q
        · exact hq.elim
  · rw [if_neg hl] at hq
    exact hq.elim

/-! ## a def keeps its promise -/
structure TxOk (K : PySem.W.Frag) (mg : Str → Option Value) (p : Pg) (f : Nat) (x qual : Str) (st : Stmt) (fa : Addr) (fd : FuncData) (N ps : List Str) (t : Pt) (d : FD) : Prop where
  mg : mg (p.G.getD f "__debug__") = some (.ref fa)
  bd : Binds K fd ps []
  fn : Fun K x qual st fa fd
  sc : FnScope N ps (defScope st)
  fd : p.fd[f]? = some d
  n : d.n = N.length
  ps : d.ps = ps.length
  wf : wfSs N p (defScope st) (cellF (defScope st)) d.body t 0 = true
  tx : fSs N p d.body t 0 = defBody st
theorem fn_ok {f n : Nat} {x qual : Str} {st : Stmt} {fa : Addr} {fd : FuncData} {N ps : List Str} {t : Pt} {d : FD} (G : GOk P w K mg base p (run p n) n cA) (T : TxOk K mg p f x qual st fa fd N ps t d) :
    FnOk P w K mg base (L2.CX P w) (n + 1) fa fd ps (SpF K cA ps.length (run p (n + 1)) f) := by
  refine T.fn.okX T.sc (fun vs H Q E h => h.1) fun cdv A outer s H vs Q E hr hsp => ?_
  obtain ⟨hl, O, as, tr, pa, inj, hq⟩ := hsp
  have e1 : run p (n + 1) f as = runB p (run p n) d as := by
    simp only [run, T.fd]
  rw [e1] at hq
  obtain ⟨hl2, hp⟩ := body_post (E := E) (Q := Q) pa hq
  have h : XOk p (run p n) n cA N (defScope st) (cellF (defScope st)) (cxOf (L2.CX P w) P w K mg base N qual (defScope st) fa cdv A outer s H E) (fun c _ H' => E (cA c) none H') := {
    g := G
    names := rfl
    nd := T.sc.nd
    sc := rfl
    calm := rfl
    fn := fun _ _ => rfl
    room := hr
    tk := Takes.imp (takes_of (E := E) rfl rfl rfl rfl) fun c d σ H ⟨c', e1, e2, h⟩ => by subst e1; subst e2; exact h }
  have po : PassesOwn (model P w) (A.deeper (PyProof.Rows.envOfC qual (defScope st) s.heap.objs.size fa cdv)) (PyProof.Rows.envOfC qual (defScope st) s.heap.objs.size fa cdv) (cxOf (L2.CX P w) P w K mg base N qual (defScope st) fa cdv A outer s H E).xe :=
    passes_of (X := cxOf (L2.CX P w) P w K mg base N qual (defScope st) fa cdv A outer s H E) rfl
  have S := sndSs T.sc.kind d.body t 0 h po ⟨rfl, rfl⟩ T.wf
  unfold SndSs at S
  rw [T.tx] at S
  refine ⟨_, S, entryB H O vs as, O, _, entry_frame tr pa inj T.n (by have := T.n; omega), hp⟩
/-- all defs, by the depth of their calls -/
theorem all_ok (hf : ∀ f, f < p.G.length → ∃ x qual st fa fd N ps t d, TxOk K mg p f x qual st fa fd N ps t d) (hb : ∀ b : BI, isG b = false → mg (biN b) = none) (hg : p.gcd = true → mg "gcd" = some (.builtin "math.gcd")) (ht : ∀ b : TY, mg (tyN b) = none) (hi : mg "isinstance" = none) (hr : mg "range" = none) (hz : mg "zip" = none)
    (hx : ∀ c, c < p.XN.length → (c < p.xu ∧ ∃ C, cA c = .ref C ∧ ExnOk K mg (p.XN.getD c "__debug__") C) ∨ (p.xu ≤ c ∧ mg (p.XN.getD c "__debug__") = none ∧ ∃ T, bootBuiltins (p.XN.getD c "__debug__") = some (.type T) ∧ cA c = .type T)) (hxl : p.xu ≤ p.XN.length)
    (hxs : ∀ c' c, c' < p.xu → c < p.XN.length → PySem.W.kitOne K (cA c') (cA c) = some (p.sub c' c) ∧ (c < p.xu → PySem.W.exmOne K (cA c') (cA c) = some (p.sub c' c)))
    (hc : ∀ c d, c < p.C.length → p.cv[c]? = some d → ∃ u v, mg (p.C.getD c "__debug__") = some u ∧ RelV v u ∧ ∀ O H, Rp K O H v d) : ∀ n, GOk P w K mg base p (run p n) n cA
  | 0 => ⟨fun f hlt => by
      obtain ⟨x, qual, st, fa, fd, N, ps, t, d, T⟩ := hf f hlt
      refine ⟨fa, fd, ps, T.mg, T.fn.kp, T.bd, ⟨fun vs H Q E h => h.1, fun A outer s H args us vs Q E _ _ _ _ h => ?_⟩, fun as h => absurd rfl h⟩
      obtain ⟨_, O, as, _, _, _, z⟩ := h
      exact z.elim, hb, hg, ht, hi, hr, hz, hx, hxl, hxs, hc⟩
  | n + 1 => ⟨fun f hlt => by
      obtain ⟨x, qual, st, fa, fd, N, ps, t, d, T⟩ := hf f hlt
      refine ⟨fa, fd, ps, T.mg, T.fn.kp, T.bd, fn_ok (all_ok hf hb hg ht hi hr hz hx hxl hxs hc n) T, fun as h => ?_⟩
      have e1 : run p (n + 1) f as = runB p (run p n) d as := by simp only [run, T.fd]
      rw [e1] at h
      unfold runB at h
      split at h
      · rename_i hl
        rw [hl.1, T.ps]
      · exact absurd rfl h, hb, hg, ht, hi, hr, hz, hx, hxl, hxs, hc⟩
end
end Lw
set_option linter.all false
set_option Elab.async false
set_option maxRecDepth 100000
set_option maxHeartbeats 1000000
namespace Lw
open PySem PySem.Spec L2

/-! ## the places of a text -/
abbrev lf (p : Pos) : Pt := .node p 0 default []
def pX (e : Expr) : Pt := match e with
  | .Constant _ k p => .node p k default []
  | .Tuple _ k p => .node p k default []
  | e => .node e.pos 0 default []
def pT (g : Tg) (e : Expr) : Pt := match g, e with
  | .tup _, .Tuple xs k p => .node p k default (xs.map pX)
  | _, e => pX e
mutual
def pE : E → Expr → Pt
  | .tup es, .Tuple xs k p => .node p k default (pEs es xs)
  | .lst es, .List xs p => .node p 0 default (pEs es xs)
  | .bin _ a b, .BinOp l _ r p => .node p 0 default [pE a l, pE b r]
  | .neg a, .UnaryOp _ x p => .node p 0 default [pE a x]
  | .not a, .UnaryOp _ x p => .node p 0 default [pE a x]
  | .and es, .BoolOp _ xs p => .node p 0 default (pEs es xs)
  | .or es, .BoolOp _ xs p => .node p 0 default (pEs es xs)
  | .ife c a b, .IfExp x y z p => .node p 0 default [pE c x, pE a y, pE b z]
  | .cmp _ a b, .Compare x _ [y] p => .node p 0 default [pE a x, pE b y]
  | .chn _ _ a b c, .Compare x _ [y, z] p => .node p 0 default [pE a x, pE b y, pE c z]
  | .isN a, .Compare x _ [y] p => .node p 0 default [pE a x, pX y]
  | .notN a, .Compare x _ [y] p => .node p 0 default [pE a x, pX y]
  | .idx a i, .Subscript x y p => .node p 0 default [pE a x, pE i y]
  | .sl a lo hi, .Subscript x (.Slice l h _ q) p => .node p 0 default [pE a x, pO lo l, pO hi h, lf q]
  | .rev a, .Subscript x (.Slice _ _ (some (.UnaryOp _ y q2)) q3) p => .node p 0 default [pE a x, pX y, lf q2, lf q3]
  | .call _ es, .Call g xs _ p => .node p 0 default (pX g :: pEs es xs)
  | .bi _ es, .Call g xs _ p => .node p 0 default (pX g :: pEs es xs)
  | .isi a _, .Call g [x, y] _ p => .node p 0 default [pX g, pE a x, pX y]
  | .isx _ _, .Call g [x, y] _ p => .node p 0 default [pX g, pX x, pX y]
  | .meth _ o es, .Call (.Attribute x _ q) xs _ p => .node p 0 default (pE o x :: lf q :: pEs es xs)
  | .pop _, .Call (.Attribute x _ q) _ _ p => .node p 0 default [pX x, lf q]
  | .app _ e, .Call (.Attribute x _ q) [y] _ p => .node p 0 default [pX x, lf q, pE e y]
  | .rvs _, .Call (.Attribute x _ q) _ _ p => .node p 0 default [pX x, lf q]
  | .lc elt tg it cond _, .ListComp x [⟨t, i, cs, _⟩] sc p => .node p 0 sc [pE elt x, pT tg t, pI it i, pC cond cs]
  | .lc2 elt tg it tg2 it2 cond _ _, .ListComp x [⟨t, i, _, _⟩, ⟨t2, i2, cs, _⟩] sc p => .node p 0 sc [pE elt x, pT tg t, pI it i, pT tg2 t2, pI it2 i2, pC cond cs]
  | .ofR _ (.seq a), .Call g [.Call f [x] _ q] _ p => .node p 0 default [pX g, pX f, pE a x, lf q]
  | _, e => pX e
def pEs : List E → List Expr → List Pt
  | e :: es, x :: xs => pE e x :: pEs es xs
  | _, _ => []
def pO : Option E → Option Expr → Pt
  | some e, some x => pE e x
  | _, _ => default
def pC : Option E → List Expr → Pt
  | some e, [x] => pE e x
  | _, _ => default
def pI : It → Expr → Pt
  | .seq e, x => pE e x
  | .rng es, .Call g xs _ p => .node p 0 default (pX g :: pEs es xs)
  | .zip a b, .Call g [x, y] _ p => .node p 0 default [pX g, pE a x, pE b y]
  | .enum a, .Call g [x] _ p => .node p 0 default [pX g, pE a x]
  | _, e => pX e
end
mutual
def pS : S → Stmt → Pt
  | .expr e, .Expr x p => .node p 0 default [pE e x]
  | .asg g e, .Assign [t] x p => .node p 0 default [pT g t, pE e x]
  | .asgP ns es, .Assign [t] (.Tuple xs k q) p => .node p 0 default [pT (.tup ns) t, .node q k default (pEs es xs)]
  | .aug _ _ e, .AugAssign x _ y p => .node p 0 default [pX x, pE e y]
  | .setI _ k e, .Assign [.Subscript x y q] z p => .node p 0 default [pX x, pE k y, lf q, pE e z]
  | .augI _ k _ e, .AugAssign (.Subscript x y q) _ z p => .node p 0 default [pX x, pE k y, lf q, pE e z]
  | .ife c a b, .If x y z p => .node p 0 default [pE c x, .node default 0 default (pSs a y), .node default 0 default (pSs b z)]
  | .for g it b, .For t x y _ p => .node p 0 default [pT g t, pI it x, .node default 0 default (pSs b y)]
  | .while c b, .While x y _ p => .node p 0 default [pE c x, .node default 0 default (pSs b y)]
  | .ret e, .Return (some x) p => .node p 0 default [pE e x]
  | .retN, .Return _ p => lf p
  | .raise _ _, .Raise (some (.Call x [y] _ q)) _ p => .node p 0 default [pX x, pX y, lf q]
  | .tryAs b _ _ h, .Try y [.ExceptHandler (some x) _ z q] _ _ p => .node p 0 default [.node default 0 default (pSs b y), pX x, .node default 0 default (pSs h z), lf q]
  | .tryO b _ h, .Try y [.ExceptHandler (some x) _ z q] _ _ p => .node p 0 default [.node default 0 default (pSs b y), pX x, .node default 0 default (pSs h z), lf q]
  | .pass, .Pass p => lf p
  | .brk, .Break p => lf p
  | .cont, .Continue p => lf p
  | _, _ => default
def pSs : List S → List Stmt → List Pt
  | s :: ss, x :: xs => pS s x :: pSs ss xs
  | _, _ => []
end
abbrev pB (b : List S) (x : List Stmt) : Pt := .node default 0 default (pSs b x)
/-- what the text of a def must be -/
structure StOk (p : Pg) (f : Nat) (x qual : Str) (st : Stmt) (N ps : List Str) (d : FD) : Prop where
  gx : p.G.getD f "__debug__" = x
  sc : FnScope N ps (defScope st)
  fd : p.fd[f]? = some d
  n : d.n = N.length
  np : d.ps = ps.length
  wf : wfSs N p (defScope st) (cellF (defScope st)) d.body (pB d.body (defBody st)) 0 = true
  tx : fSs N p d.body (pB d.body (defBody st)) 0 = defBody st
  bn : ∀ (kV doc pm : Value) (an : Option Addr) (cdv ct : Value) (us : List Value), us.length = ps.length → bindArgs (PySem.W.fnOf x qual (defArgs st) (defBody st) (defScope st) .none kV doc pm an cdv ct) ⟨us, []⟩ = pure (ps.zip us)
section
variable {K : PySem.W.Frag} {h : Heap} {mg : Str → Option Value} {p : Pg} {f : Nat} {x qual : Str} {st : Stmt} {N ps : List Str} {d : FD} {fa : Addr} {oc : Value} {od an : Option Addr} {osl : Array (Option Value)} {kV doc pm cdv ct : Value}
theorem StOk.txk (T : StOk p f x qual st N ps d) (X : K.In h) (G : h.Ns mainGlobals mg)
    (a : PySem.W.nsIn K mainGlobals x = some (some (.ref fa))) (l : K.lookup fa = some ⟨oc, od, .func (PySem.W.fnOf x qual (defArgs st) (defBody st) (defScope st) .none kV doc pm an cdv ct), osl⟩)
    (c : PySem.W.codeIn K cdv qual = true) (k : PySem.W.keepIn K (.ref fa) = true) : TxOk K mg p f x qual st fa (PySem.W.fnOf x qual (defArgs st) (defBody st) (defScope st) .none kV doc pm an cdv ct) N ps (pB d.body (defBody st)) d where
  mg := by rw [T.gx]; exact PySem.W.mg_of X G a
  bd := (fun_mk l c k).binds T.bn
  fn := fun_mk l c k
  sc := T.sc
  fd := T.fd
  n := T.n
  ps := T.np
  wf := T.wf
  tx := T.tx
theorem StOk.tx_ok (T : StOk p f x qual st N ps d) (X : K.In h) (G : h.Ns mainGlobals mg)
    (a : PySem.W.nsIn K mainGlobals x = some (some (.ref fa))) (l : K.lookup fa = some ⟨oc, od, .func (PySem.W.fnOf x qual (defArgs st) (defBody st) (defScope st) .none kV doc pm an cdv ct), osl⟩)
    (c : PySem.W.codeIn K cdv qual = true) (k : PySem.W.keepIn K (.ref fa) = true) : ∃ x qual st fa fd N ps t d, TxOk K mg p f x qual st fa fd N ps t d :=
  ⟨x, qual, st, fa, _, N, ps, _, d, T.txk X G a l c k⟩
end
/-- a constant of the text: a tuple of ints -/
theorem cst_ints {K : PySem.W.Frag} {a : Addr} {n : Nat} {sl : Array (Option Value)} {its : Array Value} {ns : List Int} (l : K.lookup a = some ⟨.type "tuple", none, .seq its n, sl⟩) (h : Vals (ns.map V.int) its.toList) (hz : ns.length ≤ 1000) {O : OS} {H : Hp} : Rp K O H (.ref a) (.tup (ns.map D.int)) := by
  have hl := h.length
  refine .tup (vs := ns.map V.int) (.inr ⟨_, its, n, l, rfl, rfl, rfl, ?_, h⟩) ?_
  · rw [sizeLine_eq]
    have e : its.toList.length = its.size := Array.length_toList
    rw [List.length_map] at hl
    omega
  · induction ns with
    | nil => exact .nil
    | cons x xs ih =>
      clear ih l h hl hz
      induction (x :: xs) with
      | nil => exact .nil
      | cons y ys ih => exact .cons (.int y) ih
/-! ## the law -/
theorem rpl_ints {K : PySem.W.Frag} {O : OS} {H : Hp} : ∀ ns : List Int, RpL K O H (ns.map V.int) (ns.map D.int)
  | [] => .nil
  | _ :: ns => .cons (.int _) (rpl_ints ns)
theorem law_sp {cA : Nat → Value} {cl : Cl} {f : Nat} {n : Nat} (h : ∀ ns : List Int, ns.length ≤ n → ∃ os, cl f [.sh (.ro (ns.map D.int))] = .ok (.sh (.bl true)) os) (K : PySem.W.Frag) (H : Hp) (a : Addr) (ns : List Int) (hl : ns.length ≤ n) (ho : Only H) (hs : SqL K H a (ns.map V.int)) :
    SpF K cA 1 cl f [.ref a] H (fun v _ => v = .bl true) fun _ _ _ => False := by
  obtain ⟨os, e⟩ := h ns hl
  refine ⟨rfl, fun _ => False, [.sh (.ro (ns.map D.int))], fun _ z => z.elim, .cons (show Rp K _ H _ _ from .ro (vs := ns.map V.int) ?_ (rpl_ints ns)) .nil, fun i j b z _ => ?_, ?_⟩
  · rcases hs with (hs | ⟨o, hs⟩) | hs
    · rcases ho a with z | ⟨o, xs, z⟩ <;> rw [hs] at z <;> cases z
    · exact .inl ⟨fun z => z, o, hs⟩
    · exact .inr hs
  · cases i with
    | zero => cases z
    | succ i => rw [lentA_succ] at z; simp [lentA] at z
  · rw [e]
    rintro x H' _ ⟨_, r⟩
    cases r
    rfl
/-! the classes of exceptions -/
theorem kit_self {K : PySem.W.Frag} {a : Addr} : PySem.W.kitOne K (.ref a) (.ref a) = some true := by
  unfold PySem.W.kitOne
  exact if_pos (beq_self_eq_true _)
theorem kit_own {K : PySem.W.Frag} {a b : Addr} {k : Bool} (hb : PySem.W.hasDictIn K b = true) (ht : PySem.W.typeIn K (.ref b) = some (.type "type")) (hs : PySem.W.subIn K (.ref a) (.ref b) = some k) (hne : (Value.ref a == Value.ref b) = false) : PySem.W.kitOne K (.ref a) (.ref b) = some k := by
  unfold PySem.W.kitOne
  rw [if_neg (by rw [hne]; simp)]
  obtain ⟨cd, hc, _⟩ := PySem.W.any_some hb
  have e2 : ((PySem.W.clsIn K b).isSome && PySem.W.typeIn K (.ref b) == some (.type "type")) = true := by rw [hc, ht] <;> rfl
  unfold PySem.W.kitCls
  show (if ((PySem.W.clsIn K b).isSome && PySem.W.typeIn K (.ref b) == some (.type "type")) = true then PySem.W.subIn K (.ref a) (.ref b) else none) = some k
  rw [if_pos e2]
  exact hs
theorem kit_bi {K : PySem.W.Frag} {a : Addr} {T : String} {k : Bool} (m : PySem.W.kitMeta T = true) (hs : PySem.W.subIn K (.ref a) (.type T) = some k) : PySem.W.kitOne K (.ref a) (.type T) = some k := by
  unfold PySem.W.kitOne
  rw [if_neg (by intro z; cases z)]
  unfold PySem.W.kitCls
  show (if PySem.W.kitMeta T = true then PySem.W.subIn K (.ref a) (.type T) else none) = some k
  rw [if_pos m]
  exact hs
/-- a law's promise, whatever the classes are -/
def SpL (K : PySem.W.Frag) (n : Nat) (cl : Cl) (f : Nat) : Sp := fun vs H Q E => ∀ cA, SpF K cA n cl f vs H Q E
theorem fn_spL {P : Program} {w : World} {K : PySem.W.Frag} {mg : Str → Option Value} {base : Heap} {CX : CXT} {k : Nat} {fa : Addr} {fd : FuncData} {ps : List Str} {cA : Nat → Value} {n : Nat} {cl : Cl} {f : Nat} (F : FnOk P w K mg base CX k fa fd ps (SpF K cA n cl f)) : FnOk P w K mg base CX k fa fd ps (SpL K n cl f) :=
  ⟨fun vs H Q E h => F.len vs H Q E (h cA), fun A outer s H args us vs Q E a b c d h => F.run A outer s H args us vs Q E a b c d (h cA)⟩
theorem no_exc {P : Program} {w : World} {H : Hp} {s s' : Shared} {e : Value} (h : L2.CX P w [] H s (fun _ _ _ => False) e s') : False := by
  obtain ⟨_, _, _, _, _, _, _, _, _, _, _, _, z⟩ := h
  exact z
end Lw
set_option maxRecDepth 100000
namespace Lw
open PySem PySem.Spec L2
/-! step_between(one, other): 0 one 1 other -/
def b_step_between : List S := [
  .ret (.tup [(.bin .sub (.idx (.var 1) (.int 0)) (.idx (.var 0) (.int 0))), (.bin .sub (.idx (.var 1) (.int 1)) (.idx (.var 0) (.int 1)))])]
/-! twist(one, other): 0 one 1 other -/
def b_twist : List S := [
  .ret (.bin .sub (.bin .mul (.idx (.var 0) (.int 0)) (.idx (.var 1) (.int 1))) (.bin .mul (.idx (.var 0) (.int 1)) (.idx (.var 1) (.int 0))))]
/-! divisor_of(vector): 0 vector -/
def b_divisor_of : List S := [
  .ret (.bi .gcd [(.idx (.var 0) (.int 0)), (.idx (.var 0) (.int 1))])]
/-! turn_of(a, b, c): 0 a 1 b 2 c -/
def b_turn_of : List S := [
  .ret (.call 1 [(.call 0 [(.var 0), (.var 1)]), (.call 0 [(.var 0), (.var 2)])])]
/-! doubled(a, b, c): 0 a 1 b 2 c -/
def b_doubled : List S := [
  .ret (.bi .abs [(.call 3 [(.var 0), (.var 1), (.var 2)])])]
/-! turns_around(a, b, c, p): 0 a 1 b 2 c 3 p -/
def b_turns_around : List S := [
  .ret (.tup [(.call 3 [(.var 0), (.var 1), (.var 3)]), (.call 3 [(.var 1), (.var 2), (.var 3)]), (.call 3 [(.var 2), (.var 0), (.var 3)])])]
/-! is_in_box_of_three(a, b, c, p): 0 a 1 b 2 c 3 p 4 across -/
def b_is_in_box_of_three : List S := [
  .asg (.nm 4) (.chn .le .le (.bi .min [(.idx (.var 0) (.int 0)), (.idx (.var 1) (.int 0)), (.idx (.var 2) (.int 0))]) (.idx (.var 3) (.int 0)) (.bi .max [(.idx (.var 0) (.int 0)), (.idx (.var 1) (.int 0)), (.idx (.var 2) (.int 0))])),
  .ret (.and [(.var 4), (.chn .le .le (.bi .min [(.idx (.var 0) (.int 1)), (.idx (.var 1) (.int 1)), (.idx (.var 2) (.int 1))]) (.idx (.var 3) (.int 1)) (.bi .max [(.idx (.var 0) (.int 1)), (.idx (.var 1) (.int 1)), (.idx (.var 2) (.int 1))]))])]
/-! is_in_triangle(a, b, c, p): 0 a 1 b 2 c 3 p 4 turns -/
def b_is_in_triangle : List S := [
  .asg (.nm 4) (.call 5 [(.var 0), (.var 1), (.var 2), (.var 3)]),
  .ife (.and [(.cmp .lt (.bi .min [(.var 4)]) (.int 0)), (.cmp .gt (.bi .max [(.var 4)]) (.int 0))]) [
    .ret (.bl false)] [],
  .ret (.call 6 [(.var 0), (.var 1), (.var 2), (.var 3)])]
/-! is_strictly_in(a, b, c, p): 0 a 1 b 2 c 3 p 4 turns -/
def b_is_strictly_in : List S := [
  .asg (.nm 4) (.call 5 [(.var 0), (.var 1), (.var 2), (.var 3)]),
  .ret (.or [(.cmp .gt (.bi .min [(.var 4)]) (.int 0)), (.cmp .lt (.bi .max [(.var 4)]) (.int 0))])]
/-! is_empty_triangle(a, b, c): 0 a 1 b 2 c -/
def b_is_empty_triangle : List S := [
  .ret (.cmp .eq (.call 4 [(.var 0), (.var 1), (.var 2)]) (.int 1))]
/-! divisors_around(a, b, c): 0 a 1 b 2 c 3 one 4 other -/
def b_divisors_around : List S := [
  .ret (.bi .sum [(.lc (.call 2 [(.call 0 [(.var 3), (.var 4)])]) (.tup [3, 4]) (.seq (.tup [(.tup [(.var 0), (.var 1)]), (.tup [(.var 1), (.var 2)]), (.tup [(.var 2), (.var 0)])])) none [3, 4])])]
/-! box_of_three(a, b, c): 0 a 1 b 2 c 3 xs 4 ys 5 x 6 y -/
def b_box_of_three : List S := [
  .asg (.nm 3) (.bi .sorted [(.lst [(.idx (.var 0) (.int 0)), (.idx (.var 1) (.int 0)), (.idx (.var 2) (.int 0))])]),
  .asg (.nm 4) (.bi .sorted [(.lst [(.idx (.var 0) (.int 1)), (.idx (.var 1) (.int 1)), (.idx (.var 2) (.int 1))])]),
  .ret (.lc2 (.tup [(.var 5), (.var 6)]) (.nm 5) (.rng [(.idx (.var 3) (.int 0)), (.bin .add (.idx (.var 3) (.int 2)) (.int 1))]) (.nm 6) (.rng [(.idx (.var 4) (.int 0)), (.bin .add (.idx (.var 4) (.int 2)) (.int 1))]) none [5, 6] [6])]
/-! triangle_points(a, b, c): 0 a 1 b 2 c 3 p -/
def b_triangle_points : List S := [
  .ret (.bi .tuple [(.lc (.var 3) (.nm 3) (.seq (.call 11 [(.var 0), (.var 1), (.var 2)])) (some (.call 7 [(.var 0), (.var 1), (.var 2), (.var 3)])) [3])])]
/-! inner_points(a, b, c): 0 a 1 b 2 c 3 p -/
def b_inner_points : List S := [
  .ret (.bi .tuple [(.lc (.var 3) (.nm 3) (.seq (.call 11 [(.var 0), (.var 1), (.var 2)])) (some (.call 8 [(.var 0), (.var 1), (.var 2), (.var 3)])) [3])])]
/-! other_points(a, b, c): 0 a 1 b 2 c 3 p -/
def b_other_points : List S := [
  .ret (.bi .tuple [(.lc (.var 3) (.nm 3) (.seq (.call 12 [(.var 0), (.var 1), (.var 2)])) (some (.cmp .notIn (.var 3) (.tup [(.var 0), (.var 1), (.var 2)]))) [3])])]
/-! count_inner(a, b, c): 0 a 1 b 2 c 3 area -/
def b_count_inner : List S := [
  .asg (.nm 3) (.call 4 [(.var 0), (.var 1), (.var 2)]),
  .ife (.cmp .eq (.var 3) (.int 0)) [
    .ret (.int 0)] [],
  .ret (.bin .fdiv (.bin .add (.bin .sub (.var 3) (.call 10 [(.var 0), (.var 1), (.var 2)])) (.int 2)) (.int 2))]
/-! _law_draws(script, many): 0 script 1 many 2 cells 3 cell 4 rest 5 draws 6 k 7 at 8 once -/
def b__law_draws : List S := [
  .asg (.nm 2) (.lc (.bi .int [(.var 3)]) (.nm 3) (.seq (.var 0)) none [3]),
  .ife (.cmp .eq (.bi .len [(.var 2)]) (.int 0)) [
    .expr (.app 2 (.int 0))] [],
  .asg (.nm 4) (.bi .list [(.var 2)]),
  .asg (.nm 5) (.lst []),
  .for (.nm 6) (.rng [(.var 1)]) [
    .asg (.nm 7) (.bin .mod (.var 6) (.bi .len [(.var 2)])),
    .ife (.and [(.cmp .ge (.idx (.var 2) (.var 7)) (.bin .pow (.int 10) (.int 18))), (.cmp .gt (.idx (.var 4) (.var 7)) (.int 0))]) [
      .expr (.app 5 (.bin .mod (.bi .int [(.idx (.var 4) (.var 7))]) (.int 1000))),
      .setI 4 (.var 7) (.bin .fdiv (.idx (.var 4) (.var 7)) (.int 1000))] [
      .asg (.nm 8) (.bin .mod (.bi .int [(.bin .add (.bin .add (.bin .mul (.idx (.var 2) (.var 7)) (.int 48271)) (.bin .mul (.var 6) (.int 69621))) (.int 11))]) (.int 2147483647)),
      .expr (.app 5 (.bin .mod (.bi .int [(.bin .add (.bin .add (.bin .mul (.var 8) (.var 8)) (.bin .mul (.int 3) (.var 8))) (.var 6))]) (.int 1000003)))]],
  .expr (.rvs 5),
  .ret (.var 5)]
/-! _law_take(draws, many): 0 draws 1 many -/
def b__law_take : List S := [
  .ife (.cmp .eq (.bi .len [(.var 0)]) (.int 0)) [
    .ret (.int 0)] [],
  .ret (.bin .mod (.bi .int [(.pop 0)]) (.var 1))]
/-! _law_same(actual, due): 0 actual 1 due 2 k -/
def b__law_same : List S := [
  .ife (.isi (.var 1) .bool) [
    .ret (.and [(.isi (.var 0) .bool), (.cmp .eq (.var 0) (.var 1))])] [],
  .ife (.isi (.var 1) .int) [
    .ret (.and [(.isi (.var 0) .int), (.not (.isi (.var 0) .bool)), (.cmp .eq (.var 0) (.var 1))])] [],
  .ife (.isi (.var 1) .str) [
    .ret (.and [(.isi (.var 0) .str), (.cmp .eq (.var 0) (.var 1))])] [],
  .ife (.isN (.var 1)) [
    .ret (.isN (.var 0))] [],
  .ife (.or [(.not (.isi (.var 0) .tuple)), (.cmp .ne (.bi .len [(.var 0)]) (.bi .len [(.var 1)]))]) [
    .ret (.bl false)] [],
  .for (.nm 2) (.rng [(.bi .len [(.var 1)])]) [
    .ife (.not (.call 18 [(.idx (.var 0) (.var 2)), (.idx (.var 1) (.var 2))])) [
      .ret (.bl false)] []],
  .ret (.bl true)]
/-! _law_cell(script): 0 script 1 cell -/
def b__law_cell : List S := [
  .ife (.cmp .eq (.bi .len [(.var 0)]) (.int 0)) [
    .ret (.int 0)] [],
  .asg (.nm 1) (.bi .int [(.idx (.var 0) (.int 0))]),
  .ret (.bin .mul (.bin .mod (.bi .int [(.bi .abs [(.var 1)])]) (.bin .pow (.int 10) (.int 30))) (.idx (.lst [(.int 1), (.neg (.int 1))]) (.bi .int [(.cmp .lt (.var 1) (.int 0))])))]
/-! _law_gcd(one, other): 0 one 1 other 2 k -/
def b__law_gcd : List S := [
  .asgP [0, 1] [(.bi .abs [(.var 0)]), (.bi .abs [(.var 1)])],
  .for (.nm 2) (.rng [(.int 400)]) [
    .ife (.cmp .gt (.var 1) (.int 0)) [
      .asgP [0, 1] [(.var 1), (.bin .mod (.bi .int [(.var 0)]) (.var 1))]] []],
  .ret (.var 0)]
/-! _law_area(a, b, c): 0 a 1 b 2 c -/
def b__law_area : List S := [
  .ret (.bin .sub (.bin .mul (.bin .sub (.idx (.var 1) (.int 0)) (.idx (.var 0) (.int 0))) (.bin .sub (.idx (.var 2) (.int 1)) (.idx (.var 0) (.int 1)))) (.bin .mul (.bin .sub (.idx (.var 1) (.int 1)) (.idx (.var 0) (.int 1))) (.bin .sub (.idx (.var 2) (.int 0)) (.idx (.var 0) (.int 0)))))]
/-! _law_box(points): 0 points 1 columns 2 rows 3 p 4 found 5 x 6 y -/
def b__law_box : List S := [
  .ife (.cmp .eq (.bi .len [(.var 0)]) (.int 0)) [
    .ret (.lst [])] [],
  .asgP [1, 2] [(.lc (.idx (.var 3) (.int 0)) (.nm 3) (.seq (.var 0)) none [3]), (.lc (.idx (.var 3) (.int 1)) (.nm 3) (.seq (.var 0)) none [3])],
  .asg (.nm 4) (.lst []),
  .for (.nm 5) (.rng [(.bi .min [(.var 1)]), (.bin .add (.bi .max [(.var 1)]) (.int 1))]) [
    .asg (.nm 4) (.bin .add (.var 4) (.lc (.tup [(.var 5), (.var 6)]) (.nm 6) (.rng [(.bi .min [(.var 2)]), (.bin .add (.bi .max [(.var 2)]) (.int 1))]) none [6]))],
  .ret (.var 4)]
/-! _law_vector(draws, many): 0 draws 1 many -/
def b__law_vector : List S := [
  .ret (.tup [(.bin .sub (.call 17 [(.var 0), (.bin .add (.bin .mul (.int 2) (.var 1)) (.int 1))]) (.var 1)), (.bin .sub (.call 17 [(.var 0), (.bin .add (.bin .mul (.int 2) (.var 1)) (.int 1))]) (.var 1))])]
/-! _law_corner_points(draws): 0 draws 1 a 2 b 3 c 4 pick -/
def b__law_corner_points : List S := [
  .asgP [1, 2, 3] [(.call 23 [(.var 0), (.int 5)]), (.call 23 [(.var 0), (.int 5)]), (.call 23 [(.var 0), (.int 5)])],
  .asg (.nm 4) (.call 17 [(.var 0), (.int 5)]),
  .ife (.cmp .eq (.var 4) (.int 0)) [
    .ret (.idx (.lst [(.tup [(.var 1), (.var 1), (.var 2)]), (.tup [(.var 1), (.var 2), (.var 1)]), (.tup [(.var 2), (.var 1), (.var 1)]), (.tup [(.var 1), (.var 1), (.var 1)])]) (.call 17 [(.var 0), (.int 4)]))] [],
  .ife (.cmp .eq (.var 4) (.int 1)) [
    .ret (.tup [(.var 1), (.tup [(.bin .fdiv (.bin .add (.idx (.var 1) (.int 0)) (.idx (.var 2) (.int 0))) (.int 2)), (.bin .fdiv (.bin .add (.idx (.var 1) (.int 1)) (.idx (.var 2) (.int 1))) (.int 2))]), (.tup [(.bin .sub (.bin .mul (.int 2) (.bin .fdiv (.bin .add (.idx (.var 1) (.int 0)) (.idx (.var 2) (.int 0))) (.int 2))) (.idx (.var 1) (.int 0))), (.bin .sub (.bin .mul (.int 2) (.bin .fdiv (.bin .add (.idx (.var 1) (.int 1)) (.idx (.var 2) (.int 1))) (.int 2))) (.idx (.var 1) (.int 1)))])])] [],
  .ife (.cmp .eq (.var 4) (.int 2)) [
    .ret (.tup [(.var 1), (.tup [(.bin .add (.idx (.var 1) (.int 0)) (.int 1)), (.idx (.var 1) (.int 1))]), (.tup [(.idx (.var 3) (.int 0)), (.bin .sub (.bin .add (.idx (.var 1) (.int 1)) (.int 1)) (.bin .mul (.int 2) (.call 17 [(.var 0), (.int 2)])))])])] [],
  .ret (.tup [(.var 1), (.var 2), (.var 3)])]
/-! _law_lines_part(a, b, c, p): 0 a 1 b 2 c 3 p 4 one 5 other 6 third 7 side 8 own -/
def b__law_lines_part : List S := [
  .for (.tup [4, 5, 6]) (.seq (.tup [(.tup [(.var 0), (.var 1), (.var 2)]), (.tup [(.var 1), (.var 2), (.var 0)]), (.tup [(.var 2), (.var 0), (.var 1)])])) [
    .asgP [7, 8] [(.call 21 [(.var 4), (.var 5), (.var 6)]), (.call 21 [(.var 4), (.var 5), (.var 3)])],
    .ife (.or [(.cmp .lt (.bin .mul (.var 7) (.var 8)) (.int 0)), (.and [(.cmp .eq (.var 7) (.int 0)), (.cmp .ne (.var 8) (.int 0))])]) [
      .ret (.bl false)] []],
  .ret (.bl true)]
/-! _law_all_in(a, b, c): 0 a 1 b 2 c 3 found 4 p 5 sides 6 inner 7 q -/
def b__law_all_in : List S := [
  .asg (.nm 3) (.lc (.var 4) (.nm 4) (.seq (.call 22 [(.lst [(.var 0), (.var 1), (.var 2)])])) (some (.call 25 [(.var 0), (.var 1), (.var 2), (.var 4)])) [4]),
  .asg (.nm 5) (.tup [(.tup [(.var 0), (.var 1)]), (.tup [(.var 1), (.var 2)]), (.tup [(.var 2), (.var 0)])]),
  .asg (.nm 6) (.lc (.var 4) (.nm 4) (.seq (.var 3)) (some (.cmp .eq (.bi .len [(.lc (.var 7) (.nm 7) (.seq (.var 5)) (some (.cmp .eq (.call 21 [(.idx (.var 7) (.int 0)), (.idx (.var 7) (.int 1)), (.var 4)]) (.int 0))) [7])]) (.int 0))) [4]),
  .ret (.tup [(.bi .tuple [(.var 3)]), (.bi .tuple [(.var 6)])])]
/-! _law_are_told(a, b, c): 0 a 1 b 2 c 3 every 4 inner 5 others 6 p 7 area 8 around 9 q -/
def b__law_are_told : List S := [
  .asg (.tup [3, 4]) (.call 26 [(.var 0), (.var 1), (.var 2)]),
  .asg (.nm 5) (.bi .tuple [(.lc (.var 6) (.nm 6) (.seq (.var 3)) (some (.cmp .notIn (.var 6) (.tup [(.var 0), (.var 1), (.var 2)]))) [6])]),
  .ife (.not (.call 18 [(.tup [(.call 12 [(.var 0), (.var 1), (.var 2)]), (.call 13 [(.var 0), (.var 1), (.var 2)]), (.call 14 [(.var 0), (.var 1), (.var 2)])]), (.tup [(.var 3), (.var 4), (.var 5)])])) [
    .ret (.bl false)] [],
  .ife (.not (.call 18 [(.tup [(.call 12 [(.var 2), (.var 0), (.var 1)]), (.call 15 [(.var 1), (.var 0), (.var 2)]), (.call 15 [(.var 0), (.var 1), (.var 2)])]), (.tup [(.var 3), (.bi .len [(.var 4)]), (.bi .len [(.var 4)])])])) [
    .ret (.bl false)] [],
  .asg (.nm 7) (.bi .abs [(.call 21 [(.var 0), (.var 1), (.var 2)])]),
  .ife (.not (.call 18 [(.tup [(.call 4 [(.var 0), (.var 1), (.var 2)]), (.call 9 [(.var 0), (.var 1), (.var 2)])]), (.tup [(.var 7), (.cmp .eq (.var 7) (.int 1))])])) [
    .ret (.bl false)] [],
  .ife (.cmp .eq (.var 7) (.int 0)) [
    .ret (.cmp .eq (.bi .len [(.var 4)]) (.int 0))] [],
  .asg (.nm 8) (.bi .sum [(.lc (.call 20 [(.bin .sub (.idx (.var 6) (.int 0)) (.idx (.var 9) (.int 0))), (.bin .sub (.idx (.var 6) (.int 1)) (.idx (.var 9) (.int 1)))]) (.tup [6, 9]) (.seq (.tup [(.tup [(.var 0), (.var 1)]), (.tup [(.var 1), (.var 2)]), (.tup [(.var 2), (.var 0)])])) none [6, 9])]),
  .ife (.or [(.cmp .ne (.call 10 [(.var 0), (.var 1), (.var 2)]) (.var 8)), (.cmp .ne (.bin .add (.bin .mul (.int 2) (.bi .len [(.var 4)])) (.var 8)) (.bin .add (.var 7) (.int 2)))]) [
    .ret (.bl false)] [],
  .ret (.and [(.cmp .eq (.cmp .eq (.bi .len [(.var 5)]) (.int 0)) (.cmp .eq (.var 7) (.int 1))), (.cmp .eq (.bi .len [(.var 3)]) (.bin .add (.bi .len [(.var 4)]) (.var 8)))])]
/-! law(script): 0 script 1 draws 2 cell 3 turn 4 a 5 b 6 c 7 step 8 by 9 great 10 due 11 told -/
def b_law : List S := [
  .asg (.nm 1) (.call 16 [(.var 0), (.int 80)]),
  .asg (.nm 2) (.call 19 [(.var 0)]),
  .for (.nm 3) (.rng [(.int 5)]) [
    .asg (.tup [4, 5, 6]) (.call 24 [(.var 1)]),
    .ife (.not (.call 27 [(.var 4), (.var 5), (.var 6)])) [
      .ret (.bl false)] [],
    .asg (.nm 7) (.call 23 [(.var 1), (.int 4)]),
    .asg (.nm 8) (.bin .add (.bi .abs [(.var 2)]) (.int 2)),
    .asg (.nm 9) (.lst [(.tup [(.var 2), (.idx (.var 7) (.int 0))]), (.tup [(.bin .add (.var 2) (.var 8)), (.bin .add (.idx (.var 7) (.int 0)) (.bin .mul (.var 8) (.idx (.var 7) (.int 1))))]), (.tup [(.var 2), (.bin .add (.idx (.var 7) (.int 0)) (.bin .mul (.int 2) (.var 8)))])]),
    .asg (.nm 10) (.bin .fdiv (.bin .add (.bin .sub (.bin .mul (.bin .mul (.int 2) (.var 8)) (.var 8)) (.bin .mul (.int 4) (.var 8))) (.int 2)) (.int 2)),
    .ife (.not (.call 18 [(.tup [(.call 15 [(.idx (.var 9) (.int 0)), (.idx (.var 9) (.int 1)), (.idx (.var 9) (.int 2))]), (.call 15 [(.idx (.var 9) (.int 2)), (.idx (.var 9) (.int 0)), (.idx (.var 9) (.int 1))])]), (.tup [(.var 10), (.var 10)])])) [
      .ret (.bl false)] []],
  .asg (.nm 11) (.tup [(.call 12 [(.tup [(.int 0), (.int 0)]), (.tup [(.int 2), (.int 1)]), (.tup [(.int 1), (.int 3)])]), (.call 13 [(.tup [(.int 0), (.int 0)]), (.tup [(.int 2), (.int 1)]), (.tup [(.int 1), (.int 3)])]), (.call 14 [(.tup [(.int 0), (.int 0)]), (.tup [(.int 2), (.int 0)]), (.tup [(.int 0), (.int 2)])])]),
  .ife (.not (.call 18 [(.var 11), (.tup [(.tup [(.tup [(.int 0), (.int 0)]), (.tup [(.int 1), (.int 1)]), (.tup [(.int 1), (.int 2)]), (.tup [(.int 1), (.int 3)]), (.tup [(.int 2), (.int 1)])]), (.tup [(.tup [(.int 1), (.int 1)]), (.tup [(.int 1), (.int 2)])]), (.tup [(.tup [(.int 0), (.int 1)]), (.tup [(.int 1), (.int 0)]), (.tup [(.int 1), (.int 1)])])])])) [
    .ret (.bl false)] [],
  .ret (.call 18 [(.tup [(.call 12 [(.tup [(.int 2), (.int 2)]), (.tup [(.int 2), (.int 2)]), (.tup [(.int 2), (.int 2)])]), (.call 14 [(.tup [(.int 0), (.int 0)]), (.tup [(.int 3), (.int 3)]), (.tup [(.int 1), (.int 1)])]), (.call 13 [(.tup [(.int 0), (.int 0)]), (.tup [(.int 3), (.int 3)]), (.tup [(.int 1), (.int 1)])])]), (.tup [(.tup [(.tup [(.int 2), (.int 2)])]), (.tup [(.tup [(.int 2), (.int 2)])]), (.tup [])])])]
def c__law_draws_0 : S := .asg (.nm 2) (.lc (.bi .int [(.var 3)]) (.nm 3) (.seq (.var 0)) none [3])
def c__law_draws_1 : S := .ife (.cmp .eq (.bi .len [(.var 2)]) (.int 0)) [
    .expr (.app 2 (.int 0))] []
def c__law_draws_2 : S := .asg (.nm 4) (.bi .list [(.var 2)])
def c__law_draws_3 : S := .asg (.nm 5) (.lst [])
def c__law_draws_4b : List S := [
    .asg (.nm 7) (.bin .mod (.var 6) (.bi .len [(.var 2)])),
    .ife (.and [(.cmp .ge (.idx (.var 2) (.var 7)) (.bin .pow (.int 10) (.int 18))), (.cmp .gt (.idx (.var 4) (.var 7)) (.int 0))]) [
      .expr (.app 5 (.bin .mod (.bi .int [(.idx (.var 4) (.var 7))]) (.int 1000))),
      .setI 4 (.var 7) (.bin .fdiv (.idx (.var 4) (.var 7)) (.int 1000))] [
      .asg (.nm 8) (.bin .mod (.bi .int [(.bin .add (.bin .add (.bin .mul (.idx (.var 2) (.var 7)) (.int 48271)) (.bin .mul (.var 6) (.int 69621))) (.int 11))]) (.int 2147483647)),
      .expr (.app 5 (.bin .mod (.bi .int [(.bin .add (.bin .add (.bin .mul (.var 8) (.var 8)) (.bin .mul (.int 3) (.var 8))) (.var 6))]) (.int 1000003)))]]
def c__law_draws_4 : S := .for (.nm 6) (.rng [(.var 1)]) c__law_draws_4b
def c__law_draws_5 : S := .expr (.rvs 5)
def c__law_draws_6 : S := .ret (.var 5)
theorem s__law_draws : b__law_draws = [c__law_draws_0, c__law_draws_1, c__law_draws_2, c__law_draws_3, c__law_draws_4, c__law_draws_5, c__law_draws_6] := rfl
def c__law_same_0 : S := .ife (.isi (.var 1) .bool) [
    .ret (.and [(.isi (.var 0) .bool), (.cmp .eq (.var 0) (.var 1))])] []
def c__law_same_1 : S := .ife (.isi (.var 1) .int) [
    .ret (.and [(.isi (.var 0) .int), (.not (.isi (.var 0) .bool)), (.cmp .eq (.var 0) (.var 1))])] []
def c__law_same_2 : S := .ife (.isi (.var 1) .str) [
    .ret (.and [(.isi (.var 0) .str), (.cmp .eq (.var 0) (.var 1))])] []
def c__law_same_3 : S := .ife (.isN (.var 1)) [
    .ret (.isN (.var 0))] []
def c__law_same_4 : S := .ife (.or [(.not (.isi (.var 0) .tuple)), (.cmp .ne (.bi .len [(.var 0)]) (.bi .len [(.var 1)]))]) [
    .ret (.bl false)] []
def c__law_same_5b : List S := [
    .ife (.not (.call 18 [(.idx (.var 0) (.var 2)), (.idx (.var 1) (.var 2))])) [
      .ret (.bl false)] []]
def c__law_same_5 : S := .for (.nm 2) (.rng [(.bi .len [(.var 1)])]) c__law_same_5b
def c__law_same_6 : S := .ret (.bl true)
theorem s__law_same : b__law_same = [c__law_same_0, c__law_same_1, c__law_same_2, c__law_same_3, c__law_same_4, c__law_same_5, c__law_same_6] := rfl
def c__law_box_0 : S := .ife (.cmp .eq (.bi .len [(.var 0)]) (.int 0)) [
    .ret (.lst [])] []
def c__law_box_1 : S := .asgP [1, 2] [(.lc (.idx (.var 3) (.int 0)) (.nm 3) (.seq (.var 0)) none [3]), (.lc (.idx (.var 3) (.int 1)) (.nm 3) (.seq (.var 0)) none [3])]
def c__law_box_2 : S := .asg (.nm 4) (.lst [])
def c__law_box_3b : List S := [
    .asg (.nm 4) (.bin .add (.var 4) (.lc (.tup [(.var 5), (.var 6)]) (.nm 6) (.rng [(.bi .min [(.var 2)]), (.bin .add (.bi .max [(.var 2)]) (.int 1))]) none [6]))]
def c__law_box_3 : S := .for (.nm 5) (.rng [(.bi .min [(.var 1)]), (.bin .add (.bi .max [(.var 1)]) (.int 1))]) c__law_box_3b
def c__law_box_4 : S := .ret (.var 4)
theorem s__law_box : b__law_box = [c__law_box_0, c__law_box_1, c__law_box_2, c__law_box_3, c__law_box_4] := rfl
def c__law_corner_points_0 : S := .asgP [1, 2, 3] [(.call 23 [(.var 0), (.int 5)]), (.call 23 [(.var 0), (.int 5)]), (.call 23 [(.var 0), (.int 5)])]
def c__law_corner_points_1 : S := .asg (.nm 4) (.call 17 [(.var 0), (.int 5)])
def c__law_corner_points_2 : S := .ife (.cmp .eq (.var 4) (.int 0)) [
    .ret (.idx (.lst [(.tup [(.var 1), (.var 1), (.var 2)]), (.tup [(.var 1), (.var 2), (.var 1)]), (.tup [(.var 2), (.var 1), (.var 1)]), (.tup [(.var 1), (.var 1), (.var 1)])]) (.call 17 [(.var 0), (.int 4)]))] []
def c__law_corner_points_3 : S := .ife (.cmp .eq (.var 4) (.int 1)) [
    .ret (.tup [(.var 1), (.tup [(.bin .fdiv (.bin .add (.idx (.var 1) (.int 0)) (.idx (.var 2) (.int 0))) (.int 2)), (.bin .fdiv (.bin .add (.idx (.var 1) (.int 1)) (.idx (.var 2) (.int 1))) (.int 2))]), (.tup [(.bin .sub (.bin .mul (.int 2) (.bin .fdiv (.bin .add (.idx (.var 1) (.int 0)) (.idx (.var 2) (.int 0))) (.int 2))) (.idx (.var 1) (.int 0))), (.bin .sub (.bin .mul (.int 2) (.bin .fdiv (.bin .add (.idx (.var 1) (.int 1)) (.idx (.var 2) (.int 1))) (.int 2))) (.idx (.var 1) (.int 1)))])])] []
def c__law_corner_points_4 : S := .ife (.cmp .eq (.var 4) (.int 2)) [
    .ret (.tup [(.var 1), (.tup [(.bin .add (.idx (.var 1) (.int 0)) (.int 1)), (.idx (.var 1) (.int 1))]), (.tup [(.idx (.var 3) (.int 0)), (.bin .sub (.bin .add (.idx (.var 1) (.int 1)) (.int 1)) (.bin .mul (.int 2) (.call 17 [(.var 0), (.int 2)])))])])] []
def c__law_corner_points_5 : S := .ret (.tup [(.var 1), (.var 2), (.var 3)])
theorem s__law_corner_points : b__law_corner_points = [c__law_corner_points_0, c__law_corner_points_1, c__law_corner_points_2, c__law_corner_points_3, c__law_corner_points_4, c__law_corner_points_5] := rfl
def c__law_all_in_0 : S := .asg (.nm 3) (.lc (.var 4) (.nm 4) (.seq (.call 22 [(.lst [(.var 0), (.var 1), (.var 2)])])) (some (.call 25 [(.var 0), (.var 1), (.var 2), (.var 4)])) [4])
def c__law_all_in_1 : S := .asg (.nm 5) (.tup [(.tup [(.var 0), (.var 1)]), (.tup [(.var 1), (.var 2)]), (.tup [(.var 2), (.var 0)])])
def c__law_all_in_2 : S := .asg (.nm 6) (.lc (.var 4) (.nm 4) (.seq (.var 3)) (some (.cmp .eq (.bi .len [(.lc (.var 7) (.nm 7) (.seq (.var 5)) (some (.cmp .eq (.call 21 [(.idx (.var 7) (.int 0)), (.idx (.var 7) (.int 1)), (.var 4)]) (.int 0))) [7])]) (.int 0))) [4])
def c__law_all_in_3 : S := .ret (.tup [(.bi .tuple [(.var 3)]), (.bi .tuple [(.var 6)])])
theorem s__law_all_in : b__law_all_in = [c__law_all_in_0, c__law_all_in_1, c__law_all_in_2, c__law_all_in_3] := rfl
def c__law_are_told_0 : S := .asg (.tup [3, 4]) (.call 26 [(.var 0), (.var 1), (.var 2)])
def c__law_are_told_1 : S := .asg (.nm 5) (.bi .tuple [(.lc (.var 6) (.nm 6) (.seq (.var 3)) (some (.cmp .notIn (.var 6) (.tup [(.var 0), (.var 1), (.var 2)]))) [6])])
def c__law_are_told_2 : S := .ife (.not (.call 18 [(.tup [(.call 12 [(.var 0), (.var 1), (.var 2)]), (.call 13 [(.var 0), (.var 1), (.var 2)]), (.call 14 [(.var 0), (.var 1), (.var 2)])]), (.tup [(.var 3), (.var 4), (.var 5)])])) [
    .ret (.bl false)] []
def c__law_are_told_3 : S := .ife (.not (.call 18 [(.tup [(.call 12 [(.var 2), (.var 0), (.var 1)]), (.call 15 [(.var 1), (.var 0), (.var 2)]), (.call 15 [(.var 0), (.var 1), (.var 2)])]), (.tup [(.var 3), (.bi .len [(.var 4)]), (.bi .len [(.var 4)])])])) [
    .ret (.bl false)] []
def c__law_are_told_4 : S := .asg (.nm 7) (.bi .abs [(.call 21 [(.var 0), (.var 1), (.var 2)])])
def c__law_are_told_5 : S := .ife (.not (.call 18 [(.tup [(.call 4 [(.var 0), (.var 1), (.var 2)]), (.call 9 [(.var 0), (.var 1), (.var 2)])]), (.tup [(.var 7), (.cmp .eq (.var 7) (.int 1))])])) [
    .ret (.bl false)] []
def c__law_are_told_6 : S := .ife (.cmp .eq (.var 7) (.int 0)) [
    .ret (.cmp .eq (.bi .len [(.var 4)]) (.int 0))] []
def c__law_are_told_7 : S := .asg (.nm 8) (.bi .sum [(.lc (.call 20 [(.bin .sub (.idx (.var 6) (.int 0)) (.idx (.var 9) (.int 0))), (.bin .sub (.idx (.var 6) (.int 1)) (.idx (.var 9) (.int 1)))]) (.tup [6, 9]) (.seq (.tup [(.tup [(.var 0), (.var 1)]), (.tup [(.var 1), (.var 2)]), (.tup [(.var 2), (.var 0)])])) none [6, 9])])
def c__law_are_told_8 : S := .ife (.or [(.cmp .ne (.call 10 [(.var 0), (.var 1), (.var 2)]) (.var 8)), (.cmp .ne (.bin .add (.bin .mul (.int 2) (.bi .len [(.var 4)])) (.var 8)) (.bin .add (.var 7) (.int 2)))]) [
    .ret (.bl false)] []
def c__law_are_told_9 : S := .ret (.and [(.cmp .eq (.cmp .eq (.bi .len [(.var 5)]) (.int 0)) (.cmp .eq (.var 7) (.int 1))), (.cmp .eq (.bi .len [(.var 3)]) (.bin .add (.bi .len [(.var 4)]) (.var 8)))])
theorem s__law_are_told : b__law_are_told = [c__law_are_told_0, c__law_are_told_1, c__law_are_told_2, c__law_are_told_3, c__law_are_told_4, c__law_are_told_5, c__law_are_told_6, c__law_are_told_7, c__law_are_told_8, c__law_are_told_9] := rfl
def c_law_0 : S := .asg (.nm 1) (.call 16 [(.var 0), (.int 80)])
def c_law_1 : S := .asg (.nm 2) (.call 19 [(.var 0)])
def c_law_2b_0 : S := .asg (.tup [4, 5, 6]) (.call 24 [(.var 1)])
def c_law_2b_1 : S := .ife (.not (.call 27 [(.var 4), (.var 5), (.var 6)])) [
    .ret (.bl false)] []
def c_law_2b_2 : S := .asg (.nm 7) (.call 23 [(.var 1), (.int 4)])
def c_law_2b_3 : S := .asg (.nm 8) (.bin .add (.bi .abs [(.var 2)]) (.int 2))
def c_law_2b_4 : S := .asg (.nm 9) (.lst [(.tup [(.var 2), (.idx (.var 7) (.int 0))]), (.tup [(.bin .add (.var 2) (.var 8)), (.bin .add (.idx (.var 7) (.int 0)) (.bin .mul (.var 8) (.idx (.var 7) (.int 1))))]), (.tup [(.var 2), (.bin .add (.idx (.var 7) (.int 0)) (.bin .mul (.int 2) (.var 8)))])])
def c_law_2b_5 : S := .asg (.nm 10) (.bin .fdiv (.bin .add (.bin .sub (.bin .mul (.bin .mul (.int 2) (.var 8)) (.var 8)) (.bin .mul (.int 4) (.var 8))) (.int 2)) (.int 2))
def c_law_2b_6 : S := .ife (.not (.call 18 [(.tup [(.call 15 [(.idx (.var 9) (.int 0)), (.idx (.var 9) (.int 1)), (.idx (.var 9) (.int 2))]), (.call 15 [(.idx (.var 9) (.int 2)), (.idx (.var 9) (.int 0)), (.idx (.var 9) (.int 1))])]), (.tup [(.var 10), (.var 10)])])) [
    .ret (.bl false)] []
def c_law_2b : List S := [c_law_2b_0, c_law_2b_1, c_law_2b_2, c_law_2b_3, c_law_2b_4, c_law_2b_5, c_law_2b_6]
def c_law_2 : S := .for (.nm 3) (.rng [(.int 5)]) c_law_2b
def c_law_3 : S := .asg (.nm 11) (.tup [(.call 12 [(.tup [(.int 0), (.int 0)]), (.tup [(.int 2), (.int 1)]), (.tup [(.int 1), (.int 3)])]), (.call 13 [(.tup [(.int 0), (.int 0)]), (.tup [(.int 2), (.int 1)]), (.tup [(.int 1), (.int 3)])]), (.call 14 [(.tup [(.int 0), (.int 0)]), (.tup [(.int 2), (.int 0)]), (.tup [(.int 0), (.int 2)])])])
def c_law_4 : S := .ife (.not (.call 18 [(.var 11), (.tup [(.tup [(.tup [(.int 0), (.int 0)]), (.tup [(.int 1), (.int 1)]), (.tup [(.int 1), (.int 2)]), (.tup [(.int 1), (.int 3)]), (.tup [(.int 2), (.int 1)])]), (.tup [(.tup [(.int 1), (.int 1)]), (.tup [(.int 1), (.int 2)])]), (.tup [(.tup [(.int 0), (.int 1)]), (.tup [(.int 1), (.int 0)]), (.tup [(.int 1), (.int 1)])])])])) [
    .ret (.bl false)] []
def c_law_5 : S := .ret (.call 18 [(.tup [(.call 12 [(.tup [(.int 2), (.int 2)]), (.tup [(.int 2), (.int 2)]), (.tup [(.int 2), (.int 2)])]), (.call 14 [(.tup [(.int 0), (.int 0)]), (.tup [(.int 3), (.int 3)]), (.tup [(.int 1), (.int 1)])]), (.call 13 [(.tup [(.int 0), (.int 0)]), (.tup [(.int 3), (.int 3)]), (.tup [(.int 1), (.int 1)])])]), (.tup [(.tup [(.tup [(.int 2), (.int 2)])]), (.tup [(.tup [(.int 2), (.int 2)])]), (.tup [])])])
theorem s_law : b_law = [c_law_0, c_law_1, c_law_2, c_law_3, c_law_4, c_law_5] := rfl
def pg : Pg where
  G := [("step_between" : Str), ("twist" : Str), ("divisor_of" : Str), ("turn_of" : Str), ("doubled" : Str), ("turns_around" : Str), ("is_in_box_of_three" : Str), ("is_in_triangle" : Str), ("is_strictly_in" : Str), ("is_empty_triangle" : Str), ("divisors_around" : Str), ("box_of_three" : Str), ("triangle_points" : Str), ("inner_points" : Str), ("other_points" : Str), ("count_inner" : Str), ("_law_draws" : Str), ("_law_take" : Str), ("_law_same" : Str), ("_law_cell" : Str), ("_law_gcd" : Str), ("_law_area" : Str), ("_law_box" : Str), ("_law_vector" : Str), ("_law_corner_points" : Str), ("_law_lines_part" : Str), ("_law_all_in" : Str), ("_law_are_told" : Str), ("law" : Str)]
  fd := [⟨2, 2, b_step_between⟩, ⟨2, 2, b_twist⟩, ⟨1, 1, b_divisor_of⟩, ⟨3, 3, b_turn_of⟩, ⟨3, 3, b_doubled⟩, ⟨4, 4, b_turns_around⟩, ⟨5, 4, b_is_in_box_of_three⟩, ⟨5, 4, b_is_in_triangle⟩, ⟨5, 4, b_is_strictly_in⟩, ⟨3, 3, b_is_empty_triangle⟩, ⟨5, 3, b_divisors_around⟩, ⟨7, 3, b_box_of_three⟩, ⟨4, 3, b_triangle_points⟩, ⟨4, 3, b_inner_points⟩, ⟨4, 3, b_other_points⟩, ⟨4, 3, b_count_inner⟩, ⟨9, 2, b__law_draws⟩, ⟨2, 2, b__law_take⟩, ⟨3, 2, b__law_same⟩, ⟨2, 1, b__law_cell⟩, ⟨3, 2, b__law_gcd⟩, ⟨3, 3, b__law_area⟩, ⟨7, 1, b__law_box⟩, ⟨2, 2, b__law_vector⟩, ⟨5, 1, b__law_corner_points⟩, ⟨9, 4, b__law_lines_part⟩, ⟨8, 3, b__law_all_in⟩, ⟨10, 3, b__law_are_told⟩, ⟨12, 1, b_law⟩]
  C := []
  cv := []
  gcd := true
  XN := []
  xu := 0
  sub := fun _ _ => false
end Lw
set_option maxRecDepth 100000
namespace Lw
open PySem PySem.Spec L2
def topS (i : Nat) : Stmt := PySem.Challenge.pw_roundshapes_k23_points_of_triangles.main.body.getD i (.Pass ⟨0, 0, 0, 0⟩)
theorem st_step_between : StOk pg 0 "step_between" "step_between" (topS 2) ["one", "other"] ["one", "other"] ⟨2, 2, b_step_between⟩ := ⟨rfl, ⟨rfl, rfl, rfl, by decide +kernel, rfl, by decide +kernel, by decide +kernel⟩, rfl, rfl, rfl, by decide +kernel, rfl, fun _ _ _ _ _ _ us hl => match us, hl with | [_, _], _ => rfl⟩
theorem st_twist : StOk pg 1 "twist" "twist" (topS 3) ["one", "other"] ["one", "other"] ⟨2, 2, b_twist⟩ := ⟨rfl, ⟨rfl, rfl, rfl, by decide +kernel, rfl, by decide +kernel, by decide +kernel⟩, rfl, rfl, rfl, by decide +kernel, rfl, fun _ _ _ _ _ _ us hl => match us, hl with | [_, _], _ => rfl⟩
theorem st_divisor_of : StOk pg 2 "divisor_of" "divisor_of" (topS 4) ["vector"] ["vector"] ⟨1, 1, b_divisor_of⟩ := ⟨rfl, ⟨rfl, rfl, rfl, by decide +kernel, rfl, by decide +kernel, by decide +kernel⟩, rfl, rfl, rfl, by decide +kernel, rfl, fun _ _ _ _ _ _ us hl => match us, hl with | [_], _ => rfl⟩
theorem st_turn_of : StOk pg 3 "turn_of" "turn_of" (topS 6) ["a", "b", "c"] ["a", "b", "c"] ⟨3, 3, b_turn_of⟩ := ⟨rfl, ⟨rfl, rfl, rfl, by decide +kernel, rfl, by decide +kernel, by decide +kernel⟩, rfl, rfl, rfl, by decide +kernel, rfl, fun _ _ _ _ _ _ us hl => match us, hl with | [_, _, _], _ => rfl⟩
theorem st_doubled : StOk pg 4 "doubled" "doubled" (topS 7) ["a", "b", "c"] ["a", "b", "c"] ⟨3, 3, b_doubled⟩ := ⟨rfl, ⟨rfl, rfl, rfl, by decide +kernel, rfl, by decide +kernel, by decide +kernel⟩, rfl, rfl, rfl, by decide +kernel, rfl, fun _ _ _ _ _ _ us hl => match us, hl with | [_, _, _], _ => rfl⟩
theorem st_turns_around : StOk pg 5 "turns_around" "turns_around" (topS 8) ["a", "b", "c", "p"] ["a", "b", "c", "p"] ⟨4, 4, b_turns_around⟩ := ⟨rfl, ⟨rfl, rfl, rfl, by decide +kernel, rfl, by decide +kernel, by decide +kernel⟩, rfl, rfl, rfl, by decide +kernel, rfl, fun _ _ _ _ _ _ us hl => match us, hl with | [_, _, _, _], _ => rfl⟩
theorem st_is_in_box_of_three : StOk pg 6 "is_in_box_of_three" "is_in_box_of_three" (topS 9) ["a", "b", "c", "p", "across"] ["a", "b", "c", "p"] ⟨5, 4, b_is_in_box_of_three⟩ := ⟨rfl, ⟨rfl, rfl, rfl, by decide +kernel, rfl, by decide +kernel, by decide +kernel⟩, rfl, rfl, rfl, by decide +kernel, rfl, fun _ _ _ _ _ _ us hl => match us, hl with | [_, _, _, _], _ => rfl⟩
theorem st_is_in_triangle : StOk pg 7 "is_in_triangle" "is_in_triangle" (topS 10) ["a", "b", "c", "p", "turns"] ["a", "b", "c", "p"] ⟨5, 4, b_is_in_triangle⟩ := ⟨rfl, ⟨rfl, rfl, rfl, by decide +kernel, rfl, by decide +kernel, by decide +kernel⟩, rfl, rfl, rfl, by decide +kernel, rfl, fun _ _ _ _ _ _ us hl => match us, hl with | [_, _, _, _], _ => rfl⟩
theorem st_is_strictly_in : StOk pg 8 "is_strictly_in" "is_strictly_in" (topS 11) ["a", "b", "c", "p", "turns"] ["a", "b", "c", "p"] ⟨5, 4, b_is_strictly_in⟩ := ⟨rfl, ⟨rfl, rfl, rfl, by decide +kernel, rfl, by decide +kernel, by decide +kernel⟩, rfl, rfl, rfl, by decide +kernel, rfl, fun _ _ _ _ _ _ us hl => match us, hl with | [_, _, _, _], _ => rfl⟩
theorem st_is_empty_triangle : StOk pg 9 "is_empty_triangle" "is_empty_triangle" (topS 12) ["a", "b", "c"] ["a", "b", "c"] ⟨3, 3, b_is_empty_triangle⟩ := ⟨rfl, ⟨rfl, rfl, rfl, by decide +kernel, rfl, by decide +kernel, by decide +kernel⟩, rfl, rfl, rfl, by decide +kernel, rfl, fun _ _ _ _ _ _ us hl => match us, hl with | [_, _, _], _ => rfl⟩
theorem st_divisors_around : StOk pg 10 "divisors_around" "divisors_around" (topS 13) ["a", "b", "c", "one", "other"] ["a", "b", "c"] ⟨5, 3, b_divisors_around⟩ := ⟨rfl, ⟨rfl, rfl, rfl, by decide +kernel, rfl, by decide +kernel, by decide +kernel⟩, rfl, rfl, rfl, by decide +kernel, rfl, fun _ _ _ _ _ _ us hl => match us, hl with | [_, _, _], _ => rfl⟩
theorem st_box_of_three : StOk pg 11 "box_of_three" "box_of_three" (topS 14) ["a", "b", "c", "xs", "ys", "x", "y"] ["a", "b", "c"] ⟨7, 3, b_box_of_three⟩ := ⟨rfl, ⟨rfl, rfl, rfl, by decide +kernel, rfl, by decide +kernel, by decide +kernel⟩, rfl, rfl, rfl, by decide +kernel, rfl, fun _ _ _ _ _ _ us hl => match us, hl with | [_, _, _], _ => rfl⟩
theorem st_triangle_points : StOk pg 12 "triangle_points" "triangle_points" (topS 15) ["a", "b", "c", "p"] ["a", "b", "c"] ⟨4, 3, b_triangle_points⟩ := ⟨rfl, ⟨rfl, rfl, rfl, by decide +kernel, rfl, by decide +kernel, by decide +kernel⟩, rfl, rfl, rfl, by decide +kernel, rfl, fun _ _ _ _ _ _ us hl => match us, hl with | [_, _, _], _ => rfl⟩
theorem st_inner_points : StOk pg 13 "inner_points" "inner_points" (topS 16) ["a", "b", "c", "p"] ["a", "b", "c"] ⟨4, 3, b_inner_points⟩ := ⟨rfl, ⟨rfl, rfl, rfl, by decide +kernel, rfl, by decide +kernel, by decide +kernel⟩, rfl, rfl, rfl, by decide +kernel, rfl, fun _ _ _ _ _ _ us hl => match us, hl with | [_, _, _], _ => rfl⟩
theorem st_other_points : StOk pg 14 "other_points" "other_points" (topS 17) ["a", "b", "c", "p"] ["a", "b", "c"] ⟨4, 3, b_other_points⟩ := ⟨rfl, ⟨rfl, rfl, rfl, by decide +kernel, rfl, by decide +kernel, by decide +kernel⟩, rfl, rfl, rfl, by decide +kernel, rfl, fun _ _ _ _ _ _ us hl => match us, hl with | [_, _, _], _ => rfl⟩
theorem st_count_inner : StOk pg 15 "count_inner" "count_inner" (topS 18) ["a", "b", "c", "area"] ["a", "b", "c"] ⟨4, 3, b_count_inner⟩ := ⟨rfl, ⟨rfl, rfl, rfl, by decide +kernel, rfl, by decide +kernel, by decide +kernel⟩, rfl, rfl, rfl, by decide +kernel, rfl, fun _ _ _ _ _ _ us hl => match us, hl with | [_, _, _], _ => rfl⟩
theorem st__law_draws : StOk pg 16 "_law_draws" "_law_draws" (topS 20) ["script", "many", "cells", "cell", "rest", "draws", "k", "at", "once"] ["script", "many"] ⟨9, 2, b__law_draws⟩ := ⟨rfl, ⟨rfl, rfl, rfl, by decide +kernel, rfl, by decide +kernel, by decide +kernel⟩, rfl, rfl, rfl, by decide +kernel, rfl, fun _ _ _ _ _ _ us hl => match us, hl with | [_, _], _ => rfl⟩
theorem st__law_take : StOk pg 17 "_law_take" "_law_take" (topS 21) ["draws", "many"] ["draws", "many"] ⟨2, 2, b__law_take⟩ := ⟨rfl, ⟨rfl, rfl, rfl, by decide +kernel, rfl, by decide +kernel, by decide +kernel⟩, rfl, rfl, rfl, by decide +kernel, rfl, fun _ _ _ _ _ _ us hl => match us, hl with | [_, _], _ => rfl⟩
theorem st__law_same : StOk pg 18 "_law_same" "_law_same" (topS 22) ["actual", "due", "k"] ["actual", "due"] ⟨3, 2, b__law_same⟩ := ⟨rfl, ⟨rfl, rfl, rfl, by decide +kernel, rfl, by decide +kernel, by decide +kernel⟩, rfl, rfl, rfl, by decide +kernel, rfl, fun _ _ _ _ _ _ us hl => match us, hl with | [_, _], _ => rfl⟩
theorem st__law_cell : StOk pg 19 "_law_cell" "_law_cell" (topS 23) ["script", "cell"] ["script"] ⟨2, 1, b__law_cell⟩ := ⟨rfl, ⟨rfl, rfl, rfl, by decide +kernel, rfl, by decide +kernel, by decide +kernel⟩, rfl, rfl, rfl, by decide +kernel, rfl, fun _ _ _ _ _ _ us hl => match us, hl with | [_], _ => rfl⟩
theorem st__law_gcd : StOk pg 20 "_law_gcd" "_law_gcd" (topS 24) ["one", "other", "k"] ["one", "other"] ⟨3, 2, b__law_gcd⟩ := ⟨rfl, ⟨rfl, rfl, rfl, by decide +kernel, rfl, by decide +kernel, by decide +kernel⟩, rfl, rfl, rfl, by decide +kernel, rfl, fun _ _ _ _ _ _ us hl => match us, hl with | [_, _], _ => rfl⟩
theorem st__law_area : StOk pg 21 "_law_area" "_law_area" (topS 25) ["a", "b", "c"] ["a", "b", "c"] ⟨3, 3, b__law_area⟩ := ⟨rfl, ⟨rfl, rfl, rfl, by decide +kernel, rfl, by decide +kernel, by decide +kernel⟩, rfl, rfl, rfl, by decide +kernel, rfl, fun _ _ _ _ _ _ us hl => match us, hl with | [_, _, _], _ => rfl⟩
theorem st__law_box : StOk pg 22 "_law_box" "_law_box" (topS 26) ["points", "columns", "rows", "p", "found", "x", "y"] ["points"] ⟨7, 1, b__law_box⟩ := ⟨rfl, ⟨rfl, rfl, rfl, by decide +kernel, rfl, by decide +kernel, by decide +kernel⟩, rfl, rfl, rfl, by decide +kernel, rfl, fun _ _ _ _ _ _ us hl => match us, hl with | [_], _ => rfl⟩
theorem st__law_vector : StOk pg 23 "_law_vector" "_law_vector" (topS 27) ["draws", "many"] ["draws", "many"] ⟨2, 2, b__law_vector⟩ := ⟨rfl, ⟨rfl, rfl, rfl, by decide +kernel, rfl, by decide +kernel, by decide +kernel⟩, rfl, rfl, rfl, by decide +kernel, rfl, fun _ _ _ _ _ _ us hl => match us, hl with | [_, _], _ => rfl⟩
theorem st__law_corner_points : StOk pg 24 "_law_corner_points" "_law_corner_points" (topS 28) ["draws", "a", "b", "c", "pick"] ["draws"] ⟨5, 1, b__law_corner_points⟩ := ⟨rfl, ⟨rfl, rfl, rfl, by decide +kernel, rfl, by decide +kernel, by decide +kernel⟩, rfl, rfl, rfl, by decide +kernel, rfl, fun _ _ _ _ _ _ us hl => match us, hl with | [_], _ => rfl⟩
theorem st__law_lines_part : StOk pg 25 "_law_lines_part" "_law_lines_part" (topS 29) ["a", "b", "c", "p", "one", "other", "third", "side", "own"] ["a", "b", "c", "p"] ⟨9, 4, b__law_lines_part⟩ := ⟨rfl, ⟨rfl, rfl, rfl, by decide +kernel, rfl, by decide +kernel, by decide +kernel⟩, rfl, rfl, rfl, by decide +kernel, rfl, fun _ _ _ _ _ _ us hl => match us, hl with | [_, _, _, _], _ => rfl⟩
theorem st__law_all_in : StOk pg 26 "_law_all_in" "_law_all_in" (topS 30) ["a", "b", "c", "found", "p", "sides", "inner", "q"] ["a", "b", "c"] ⟨8, 3, b__law_all_in⟩ := ⟨rfl, ⟨rfl, rfl, rfl, by decide +kernel, rfl, by decide +kernel, by decide +kernel⟩, rfl, rfl, rfl, by decide +kernel, rfl, fun _ _ _ _ _ _ us hl => match us, hl with | [_, _, _], _ => rfl⟩
theorem st__law_are_told : StOk pg 27 "_law_are_told" "_law_are_told" (topS 31) ["a", "b", "c", "every", "inner", "others", "p", "area", "around", "q"] ["a", "b", "c"] ⟨10, 3, b__law_are_told⟩ := ⟨rfl, ⟨rfl, rfl, rfl, by decide +kernel, rfl, by decide +kernel, by decide +kernel⟩, rfl, rfl, rfl, by decide +kernel, rfl, fun _ _ _ _ _ _ us hl => match us, hl with | [_, _, _], _ => rfl⟩
theorem st_law : StOk pg 28 "law" "law" (topS 32) ["script", "draws", "cell", "turn", "a", "b", "c", "step", "by", "great", "due", "told"] ["script"] ⟨12, 1, b_law⟩ := ⟨rfl, ⟨rfl, rfl, rfl, by decide +kernel, rfl, by decide +kernel, by decide +kernel⟩, rfl, rfl, rfl, by decide +kernel, rfl, fun _ _ _ _ _ _ us hl => match us, hl with | [_], _ => rfl⟩
end Lw
set_option linter.all false
set_option Elab.async false
set_option maxRecDepth 100000
namespace Lw
open PySem

/-! # what holds behind a run -/
inductive wp {α : Type} (r : R α) (Q : α → Env → Prop) : Prop
  | mk (a : α) (e : Env) (h : r = .ok a e) (q : Q a e)
inductive rt (c : CR) (Q : Val → List (Option (List D)) → Prop) : Prop
  | mk (v : Val) (os : List (Option (List D))) (h : c = .ok v os) (q : Q v os)
section
variable {α β : Type} {r : R α} {Q Q' : α → Env → Prop} {p : Pg} {cl : Cl} {env : Env}
@[simp] theorem wp_ok {a : α} {e : Env} : wp (.ok a e) Q = Q a e := propext ⟨fun ⟨_, _, h, q⟩ => by cases h; exact q, fun q => ⟨_, _, rfl, q⟩⟩
theorem wp.inv {a : α} {e : Env} (h : wp (.ok a e) Q) : Q a e := by rw [wp_ok] at h; exact h
theorem wp.in {a : α} {e : Env} (h : Q a e) : wp (.ok a e) Q := ⟨_, _, rfl, h⟩
@[simp] theorem wp_bad : wp (.bad : R α) Q = False := propext ⟨fun ⟨_, _, h, q⟩ => (nomatch h), False.elim⟩
@[simp] theorem wp_exc {c : Nat} {e : Env} : wp (.exc c e : R α) Q = False := propext ⟨fun ⟨_, _, h, q⟩ => (nomatch h), False.elim⟩
@[simp] theorem rt_ok {v : Val} {os : List (Option (List D))} {Q : Val → List (Option (List D)) → Prop} : rt (.ok v os) Q = Q v os := propext ⟨fun ⟨_, _, h, q⟩ => by cases h; exact q, fun q => ⟨_, _, rfl, q⟩⟩
@[simp] theorem rt_bad {Q : Val → List (Option (List D)) → Prop} : rt .bad Q = False := propext ⟨fun ⟨_, _, h, q⟩ => (nomatch h), False.elim⟩
@[simp] theorem rt_exc {c : Nat} {os : List (Option (List D))} {Q : Val → List (Option (List D)) → Prop} : rt (.exc c os) Q = False := propext ⟨fun ⟨_, _, h, q⟩ => (nomatch h), False.elim⟩
theorem wp_bind {g : α → Env → R β} {Q : β → Env → Prop} : wp (r.bind g) Q = wp r fun a e => wp (g a e) Q := by cases r <;> simp [R.bind]
theorem wp_of {o : Option α} {e : Env} : wp (R.of o e) Q = ∃ a, o = some a ∧ Q a e := by
  cases o with
  | none => simp [R.of]
  | some a => simp [R.of]
theorem wp_mono (h : wp r Q) (i : ∀ a e, Q a e → Q' a e) : wp r Q' := by
  obtain ⟨a, e, h, q⟩ := h
  exact ⟨a, e, h, i _ _ q⟩
theorem rt_mono {c : CR} {Q Q' : Val → List (Option (List D)) → Prop} (h : rt c Q) (i : ∀ a e, Q a e → Q' a e) : rt c Q' := by
  obtain ⟨a, e, h, q⟩ := h
  exact ⟨a, e, h, i _ _ q⟩
theorem wp_iteB {c : Prop} [Decidable c] : wp (if c then r else .bad) Q = (c ∧ wp r Q) := by
  by_cases h : c <;> simp [h]

/-! ## expressions -/
theorem xE_var {i : Nat} {Q : Val → Env → Prop} : wp (evE p cl (.var i) env) Q = (match env.at i with
    | .sh d => Q (.sh d) env
    | .own _ _ => Q (.bor i) env
    | .no => False) := by
  simp only [evE]
  cases env.at i <;> simp
theorem xE_int {i : Int} {Q : Val → Env → Prop} : wp (evE p cl (.int i) env) Q = Q (.sh (.int i)) env := by simp only [evE, wp_ok]
theorem xE_bl {i : Bool} {Q : Val → Env → Prop} : wp (evE p cl (.bl i) env) Q = Q (.sh (.bl i)) env := by simp only [evE, wp_ok]
theorem xE_non {Q : Val → Env → Prop} : wp (evE p cl .non env) Q = Q (.sh .non) env := by simp only [evE, wp_ok]
theorem xE_str {x : Str} {Q : Val → Env → Prop} : wp (evE p cl (.str x) env) Q = Q (.sh (.str x)) env := by simp only [evE, wp_ok]
theorem xE_glob {c : Nat} {Q : Val → Env → Prop} : wp (evE p cl (.glob c) env) Q = ∃ d, p.cv[c]? = some d ∧ Q (.sh d) env := by
  simp only [evE, wp_of, Option.map_eq_some_iff]
  exact propext ⟨fun ⟨_, ⟨d, h, e⟩, q⟩ => ⟨d, h, e ▸ q⟩, fun ⟨d, h, q⟩ => ⟨_, ⟨d, h, rfl⟩, q⟩⟩
theorem wp_keepAll {x : R (List Val)} {f : List D → Option Val} {Q : Val → Env → Prop} : wp (keepAll x f) Q = wp x fun vs e => ∃ pr, shAll vs e = some pr ∧ ∃ v, f pr.1 = some v ∧ Q v pr.2 := by
  unfold keepAll
  rw [wp_bind]
  congr 1
  funext vs e
  cases shAll vs e with
  | none => simp
  | some pr => obtain ⟨ds, e'⟩ := pr; simp [wp_of]
theorem xE_tup {es : List E} {Q : Val → Env → Prop} : wp (evE p cl (.tup es) env) Q = wp (evEs p cl es env) fun vs e => ∃ ds e', shAll vs e = some (ds, e') ∧ (ds.length ≤ 16777216 ∧ Q (.sh (.tup ds)) e') := by
  simp only [evE, wp_keepAll, tupV, Option.ite_none_right_eq_some, Option.some.injEq]
  congr 1; funext vs e
  exact propext ⟨fun ⟨pr, h, v, ⟨h1, h2⟩, q⟩ => ⟨pr.1, pr.2, h, h1, h2 ▸ q⟩, fun ⟨d, e', h, h1, q⟩ => ⟨(d, e'), h, _, ⟨h1, rfl⟩, q⟩⟩
theorem xE_lst {es : List E} {Q : Val → Env → Prop} : wp (evE p cl (.lst es) env) Q = wp (evEs p cl es env) fun vs e => ∃ ds e', shAll vs e = some (ds, e') ∧ (ds.length ≤ 16777216 ∧ Q (.fr ds) e') := by
  simp only [evE, wp_keepAll, lstV, Option.ite_none_right_eq_some, Option.some.injEq]
  congr 1; funext vs e
  exact propext ⟨fun ⟨pr, h, v, ⟨h1, h2⟩, q⟩ => ⟨pr.1, pr.2, h, h1, h2 ▸ q⟩, fun ⟨d, e', h, h1, q⟩ => ⟨(d, e'), h, _, ⟨h1, rfl⟩, q⟩⟩
theorem wp_op1 {x : R Val} {f : D → Option Val} {Q : Val → Env → Prop} : wp (op1 x f) Q = wp x fun v e => ∃ d, rdV v e = some d ∧ ∃ w, f d = some w ∧ Q w e := by
  unfold op1
  rw [wp_bind]
  congr 1; funext v e
  cases rdV v e <;> simp [wp_of]
theorem wp_op2 {x : R Val} {y : Env → R Val} {f : D → D → Option Val} {Q : Val → Env → Prop} : wp (op2 x y f) Q = wp x fun v e1 => wp (y e1) fun w e2 => ∃ a, rdV v e2 = some a ∧ ∃ b, rdV w e2 = some b ∧ ∃ z, f a b = some z ∧ Q z e2 := by
  unfold op2
  rw [wp_bind]
  congr 1; funext v e
  rw [wp_bind]
  congr 1; funext w e2
  cases rdV v e2 <;> cases rdV w e2 <;> simp [wp_of]
theorem wp_opN {x : R (List Val)} {f : List D → Option Val} {Q : Val → Env → Prop} : wp (opN x f) Q = wp x fun v e => ∃ d, rdAll v e = some d ∧ ∃ w, f d = some w ∧ Q w e := by
  unfold opN
  rw [wp_bind]
  congr 1; funext v e
  cases rdAll v e <;> simp [wp_of]
theorem wp_tru {x : R Val} {Q : Bool → Env → Prop} : wp (truR x) Q = wp x fun v e => ∃ d, rdV v e = some d ∧ ∃ k, truD d = some k ∧ Q k e := by
  unfold truR
  rw [wp_bind]
  congr 1; funext v e
  cases rdV v e <;> simp [wp_of]
theorem xE_bin {o : BOp} {a b : E} {Q : Val → Env → Prop} : wp (evE p cl (.bin o a b) env) Q = wp (evE p cl a env) fun v e1 => wp (evE p cl b e1) fun w e2 => ∃ a, rdV v e2 = some a ∧ ∃ b, rdV w e2 = some b ∧ ∃ z, binV o a b = some z ∧ Q z e2 := by
  simp only [evE, wp_op2]
theorem xE_neg {a : E} {Q : Val → Env → Prop} : wp (evE p cl (.neg a) env) Q = wp (evE p cl a env) fun v e => ∃ i, rdV v e = some (.int i) ∧ Q (.sh (.int (-i))) e := by
  simp only [evE, wp_op1]
  congr 1; funext v e
  refine propext ⟨fun ⟨d, h, w, h2, q⟩ => ?_, fun ⟨i, h, q⟩ => ⟨_, h, _, rfl, q⟩⟩
  cases d <;> simp only [intD, Option.map_none, Option.map_some] at h2 <;> cases h2
  exact ⟨_, h, q⟩
theorem xE_not {a : E} {Q : Val → Env → Prop} : wp (evE p cl (.not a) env) Q = wp (evE p cl a env) fun v e => ∃ d, rdV v e = some d ∧ ∃ k, truD d = some k ∧ Q (.sh (.bl (!k))) e := by
  simp only [evE, wp_op1]
  congr 1; funext v e
  refine propext ⟨fun ⟨d, h, w, h2, q⟩ => ?_, fun ⟨i, h, k, h2, q⟩ => ⟨_, h, _, by rw [h2]; rfl, q⟩⟩
  cases h3 : truD d with
  | none => rw [h3] at h2; cases h2
  | some k => rw [h3] at h2; cases h2; exact ⟨d, h, k, h3, q⟩
theorem xE_cmp {o : COp} {a b : E} {Q : Val → Env → Prop} : wp (evE p cl (.cmp o a b) env) Q = wp (evE p cl a env) fun v e1 => wp (evE p cl b e1) fun w e2 => ∃ a, rdV v e2 = some a ∧ ∃ b, rdV w e2 = some b ∧ ∃ k, cmpV o a b = some k ∧ Q (.sh (.bl k)) e2 := by
  simp only [evE, wp_op2]
  congr 1; funext v e; congr 1; funext w e2
  refine propext ⟨fun ⟨a, h1, b, h2, z, h3, q⟩ => ?_, fun ⟨a, h1, b, h2, z, h3, q⟩ => ⟨a, h1, b, h2, _, by rw [h3]; rfl, q⟩⟩
  cases h4 : cmpV o a b with
  | none => rw [h4] at h3; cases h3
  | some k => rw [h4] at h3; cases h3; exact ⟨a, h1, b, h2, k, h4, q⟩
theorem xE_isN {a : E} {Q : Val → Env → Prop} : wp (evE p cl (.isN a) env) Q = wp (evE p cl a env) fun v e => ∃ d, rdV v e = some d ∧ Q (.sh (.bl (match d with | .non => true | _ => false))) e := by
  simp only [evE, wp_op1]
  congr 1; funext v e
  refine propext ⟨fun ⟨d, h, w, h2, q⟩ => ⟨d, h, ?_⟩, fun ⟨d, h, q⟩ => ⟨d, h, ?_⟩⟩
  · cases d <;> cases h2 <;> exact q
  · cases d <;> exact ⟨_, rfl, q⟩
theorem xE_notN {a : E} {Q : Val → Env → Prop} : wp (evE p cl (.notN a) env) Q = wp (evE p cl a env) fun v e => ∃ d, rdV v e = some d ∧ Q (.sh (.bl (match d with | .non => false | _ => true))) e := by
  simp only [evE, wp_op1]
  congr 1; funext v e
  refine propext ⟨fun ⟨d, h, w, h2, q⟩ => ⟨d, h, ?_⟩, fun ⟨d, h, q⟩ => ⟨d, h, ?_⟩⟩
  · cases d <;> cases h2 <;> exact q
  · cases d <;> exact ⟨_, rfl, q⟩
theorem xE_idx {a b : E} {Q : Val → Env → Prop} : wp (evE p cl (.idx a b) env) Q = wp (evE p cl a env) fun v e1 => wp (evE p cl b e1) fun w e2 => ∃ a, rdV v e2 = some a ∧ ∃ b, rdV w e2 = some b ∧ ∃ d, idxV a b = some d ∧ Q (.sh d) e2 := by
  simp only [evE, wp_op2]
  congr 1; funext v e; congr 1; funext w e2
  refine propext ⟨fun ⟨a, h1, b, h2, z, h3, q⟩ => ?_, fun ⟨a, h1, b, h2, z, h3, q⟩ => ⟨a, h1, b, h2, _, by rw [h3]; rfl, q⟩⟩
  cases h4 : idxV a b with
  | none => rw [h4] at h3; cases h3
  | some k => rw [h4] at h3; cases h3; exact ⟨a, h1, b, h2, k, h4, q⟩
theorem xO_none {Q : Option Int → Env → Prop} : wp (evO p cl none env) Q = Q none env := by simp only [evO, wp_ok]
theorem xO_some {a : E} {Q : Option Int → Env → Prop} : wp (evO p cl (some a) env) Q = wp (evE p cl a env) fun v e => ∃ i, rdV v e = some (.int i) ∧ Q (some i) e := by
  simp only [evO, wp_bind, asInt]
  congr 1; funext v e
  cases h : rdV v e with
  | none => simp [R.of]
  | some d => cases d <;> simp [R.of, intD]
theorem xE_sl {a : E} {lo hi : Option E} {Q : Val → Env → Prop} : wp (evE p cl (.sl a lo hi) env) Q = wp (evE p cl a env) fun v e1 => wp (evO p cl lo e1) fun l e2 => wp (evO p cl hi e2) fun h e3 => ∃ x, rdV v e3 = some x ∧ ∃ z, slV x l h = some z ∧ Q z e3 := by
  simp only [evE, wp_bind]
  congr 1; funext v e; congr 1; funext l e2; congr 1; funext h e3
  cases rdV v e3 <;> simp [wp_of]
theorem xE_rev {a : E} {Q : Val → Env → Prop} : wp (evE p cl (.rev a) env) Q = wp (evE p cl a env) fun v e => ∃ d, rdV v e = some d ∧ ∃ w, revV d = some w ∧ Q w e := by
  simp only [evE, wp_op1]
theorem xE_bi {b : BI} {es : List E} {Q : Val → Env → Prop} : wp (evE p cl (.bi b es) env) Q = wp (evEs p cl es env) fun vs e => ∃ ds, rdAll vs e = some ds ∧ ∃ w, biV b ds = some w ∧ Q w e := by
  simp only [evE, wp_opN]
theorem xE_isi {a : E} {t : TY} {Q : Val → Env → Prop} : wp (evE p cl (.isi a t) env) Q = wp (evE p cl a env) fun v e => ∃ d, rdV v e = some d ∧ ∃ k, isiD t d = some k ∧ Q (.sh (.bl k)) e := by
  simp only [evE, wp_op1]
  congr 1; funext v e
  refine propext ⟨fun ⟨d, h, w, h2, q⟩ => ?_, fun ⟨i, h, k, h2, q⟩ => ⟨_, h, _, by rw [h2]; rfl, q⟩⟩
  cases h3 : isiD t d with
  | none => rw [h3] at h2; cases h2
  | some k => rw [h3] at h2; cases h2; exact ⟨d, h, k, h3, q⟩
theorem xE_ife {c a b : E} {Q : Val → Env → Prop} : wp (evE p cl (.ife c a b) env) Q = wp (evE p cl c env) fun v e => ∃ d, rdV v e = some d ∧ ∃ k, truD d = some k ∧ if k = true then wp (evE p cl a e) Q else wp (evE p cl b e) Q := by
  simp only [evE, wp_bind, wp_tru]
  congr 1; funext v e
  refine propext ⟨fun ⟨d, h, k, h2, q⟩ => ⟨d, h, k, h2, ?_⟩, fun ⟨d, h, k, h2, q⟩ => ⟨d, h, k, h2, ?_⟩⟩ <;> cases k <;> exact q
theorem xE_chn {o o' : COp} {a b c : E} {Q : Val → Env → Prop} : wp (evE p cl (.chn o o' a b c) env) Q = wp (evE p cl a env) fun va e1 => wp (evE p cl b e1) fun vb e2 => ∃ x, rdV va e2 = some x ∧ ∃ y, rdV vb e2 = some y ∧ ∃ k, cmpV o x y = some k ∧ if k = true then wp (evE p cl c e2) (fun vc e3 => ∃ y', rdV vb e3 = some y' ∧ ∃ z, rdV vc e3 = some z ∧ ∃ k', cmpV o' y' z = some k' ∧ Q (.sh (.bl k')) e3) else Q (.sh (.bl false)) e2 := by
  simp only [evE, wp_bind]
  congr 1; funext va e1; congr 1; funext vb e2
  cases h1 : rdV va e2 with
  | none => simp
  | some x =>
    cases h2 : rdV vb e2 with
    | none => simp
    | some y =>
      cases h3 : cmpV o x y with
      | none => simp [h3]
      | some k =>
        cases k with
        | false => simp [h3]
        | true =>
          simp only [Option.bind_some, h3, Option.some.injEq, exists_eq_left', wp_bind, if_true]
          congr 1; funext vc e3
          cases h4 : rdV vb e3 with
          | none => simp [R.of]
          | some y' =>
            cases h5 : rdV vc e3 with
            | none => simp [R.of]
            | some z =>
              cases h6 : cmpV o' y' z with
              | none => simp [R.of, blV, h6]
              | some v => cases v <;> simp [R.of, blV, h6]
theorem xEs_nil {Q : List Val → Env → Prop} : wp (evEs p cl [] env) Q = Q [] env := by simp only [evEs, wp_ok]
theorem xEs_cons {e : E} {es : List E} {Q : List Val → Env → Prop} : wp (evEs p cl (e :: es) env) Q = wp (evE p cl e env) fun v e1 => wp (evEs p cl es e1) fun vs e2 => Q (v :: vs) e2 := by
  simp only [evEs, wp_bind, wp_ok]
theorem xE_call {f : Nat} {es : List E} {Q : Val → Env → Prop} : wp (evE p cl (.call f es) env) Q = wp (evEs p cl es env) fun vs e => ∃ as, argAll vs e = some as ∧ noDup (lentTo vs e) = true ∧ rt (cl f as) fun v os => Q v (backV vs os e) := by
  simp only [evE, callR, wp_bind]
  congr 1; funext vs e
  cases h : argAll vs e with
  | none => simp
  | some as =>
    by_cases h2 : noDup (lentTo vs e) = true
    · simp only [h2, if_true, Option.some.injEq, exists_eq_left', true_and]
      cases cl f as <;> simp
    · simp [h2]
theorem xE_meth {m : MT} {o : E} {es : List E} {Q : Val → Env → Prop} : wp (evE p cl (.meth m o es) env) Q = wp (evE p cl o env) fun v e1 => ∃ d1, rdV v e1 = some d1 ∧ sameK d1 d1 = true ∧ wp (evEs p cl es e1) fun vs e2 => ∃ d, rdV v e2 = some d ∧ sameK d1 d = true ∧ ∃ ds, rdAll vs e2 = some ds ∧ ∃ w, methV m d ds = some w ∧ Q w e2 := by
  simp only [evE, wp_bind]
  congr 1; funext v e1
  cases h : rdV v e1 with
  | none => simp [methR]
  | some d1 =>
    simp only [methR, Option.some.injEq, exists_eq_left']
    by_cases h1 : sameK d1 d1 = true
    · simp only [h1, if_true, true_and, wp_bind]
      congr 1; funext vs e2
      cases h2 : rdV v e2 with
      | none => simp [R.of]
      | some d =>
        simp only [Option.bind_some, Option.some.injEq, exists_eq_left']
        by_cases h3 : sameK d1 d = true
        · simp only [h3, if_true, true_and]
          cases rdAll vs e2 <;> simp [wp_of]
        · simp [h3, R.of]
    · simp [h1]
theorem xE_pop {i : Nat} {Q : Val → Env → Prop} : wp (evE p cl (.pop i) env) Q = (match env.at i with
    | .own l xs => ∃ y, xs.getLast? = some y ∧ Q (.sh y) (env.set i (.own l xs.dropLast))
    | _ => False) := by
  simp only [evE, popR]
  cases env.at i with
  | no => simp
  | sh d => simp
  | own l xs => cases h : xs.getLast? <;> simp [h]
theorem xE_app {i : Nat} {e : E} {Q : Val → Env → Prop} : wp (evE p cl (.app i e) env) Q = (match env.at i with
    | .own _ _ => wp (evE p cl e env) fun v e1 => ∃ d e2, shV v e1 = some (d, e2) ∧ (match Env.at e2 i with
      | .own l xs => xs.length < 16777216 ∧ Q (.sh .non) (List.set e2 i (.own l (xs ++ [d])))
      | _ => False)
    | _ => False) := by
  simp only [evE, appR]
  cases env.at i with
  | no => simp
  | sh d => simp
  | own l xs =>
    simp only [wp_bind]
    congr 1; funext v e1
    cases h : shV v e1 with
    | none => simp
    | some pr =>
      obtain ⟨d, e⟩ := pr
      refine Eq.trans ?_ (propext ⟨fun q => ⟨d, e, rfl, q⟩, fun ⟨d', e', h1, q⟩ => by cases h1; exact q⟩)
      dsimp only
      cases h2 : Env.at e i with
      | no => simp
      | sh d => simp
      | own l ys => simp only [wp_iteB, wp_ok]
theorem xE_rvs {i : Nat} {Q : Val → Env → Prop} : wp (evE p cl (.rvs i) env) Q = (match env.at i with
    | .own l xs => Q (.sh .non) (env.set i (.own l xs.reverse))
    | _ => False) := by
  simp only [evE, rvsR]
  cases env.at i <;> simp
theorem xE_and_one {e : E} {Q : Val → Env → Prop} : wp (evE p cl (.and [e]) env) Q = wp (evE p cl e env) Q := by
  simp only [evE, evAnd, wp_bind, List.isEmpty_nil, andK, if_true, wp_ok]
theorem xE_and_cons {e e2 : E} {es : List E} {Q : Val → Env → Prop} : wp (evE p cl (.and (e :: e2 :: es)) env) Q = wp (evE p cl e env) fun v e1 => ∃ d, rdV v e1 = some d ∧ ∃ k, truD d = some k ∧ if k = true then wp (evE p cl (.and (e2 :: es)) e1) Q else Q v e1 := by
  simp only [evE]
  rw [evAnd, wp_bind]
  congr 1; funext v e1
  simp only [andK, List.isEmpty_cons, Bool.false_eq_true, if_false]
  cases h : rdV v e1 with
  | none => simp
  | some d =>
    cases h2 : truD d with
    | none => simp [h2]
    | some k => cases k <;> simp [h2]
theorem xE_or_one {e : E} {Q : Val → Env → Prop} : wp (evE p cl (.or [e]) env) Q = wp (evE p cl e env) Q := by
  simp only [evE, evOr, wp_bind, List.isEmpty_nil, orK, if_true, wp_ok]
theorem xE_or_cons {e e2 : E} {es : List E} {Q : Val → Env → Prop} : wp (evE p cl (.or (e :: e2 :: es)) env) Q = wp (evE p cl e env) fun v e1 => ∃ d, rdV v e1 = some d ∧ ∃ k, truD d = some k ∧ if k = true then Q v e1 else wp (evE p cl (.or (e2 :: es)) e1) Q := by
  simp only [evE]
  rw [evOr, wp_bind]
  congr 1; funext v e1
  simp only [orK, List.isEmpty_cons, Bool.false_eq_true, if_false]
  cases h : rdV v e1 with
  | none => simp
  | some d =>
    cases h2 : truD d with
    | none => simp [h2]
    | some k => cases k <;> simp [h2]
theorem xI_seq {e : E} {Q : Src → Env → Prop} : wp (evI p cl (.seq e) env) Q = wp (evE p cl e env) fun v e1 => ∃ s, srcOf v e1 = some s ∧ Q s e1 := by
  simp only [evI, wp_bind, wp_of]
theorem xI_rng {es : List E} {Q : Src → Env → Prop} : wp (evI p cl (.rng es) env) Q = wp (evEs p cl es env) fun vs e1 => ∃ ds, rdAll vs e1 = some ds ∧ ∃ xs, rngD ds = some xs ∧ Q ⟨xs, none⟩ e1 := by
  simp only [evI, wp_bind]
  congr 1; funext vs e
  cases rdAll vs e with
  | none => simp [R.of]
  | some ds => cases h : rngD ds <;> simp [R.of, h]

/-! ## statements -/
theorem xS_expr {e : E} {Q : Flow → Env → Prop} : wp (evS p cl (.expr e) env) Q = wp (evE p cl e env) fun _ e => Q .nxt e := by
  simp only [evS, wp_bind, wp_ok]
theorem xS_asg {t : Tg} {e : E} {Q : Flow → Env → Prop} : wp (evS p cl (.asg t e) env) Q = wp (evE p cl e env) fun v e => ∃ e2, bindV t v e = some e2 ∧ Q .nxt e2 := by
  simp only [evS, asgR, wp_bind]
  congr 1; funext v e
  cases bindV t v e <;> simp
theorem xS_asgP {ns : List Nat} {es : List E} {Q : Flow → Env → Prop} : wp (evS p cl (.asgP ns es) env) Q = wp (evEs p cl es env) fun vs e => ∃ ds e2, shAll vs e = some (ds, e2) ∧ (ds.length = ns.length ∧ ns.all (Env.mayV e2) = true) ∧ Q .nxt (setD e2 ns ds) := by
  simp only [evS, asgPR, wp_bind]
  congr 1; funext vs e
  cases shAll vs e with
  | none => simp
  | some pr =>
    obtain ⟨ds, e⟩ := pr
    refine Eq.trans ?_ (propext ⟨fun q => ⟨ds, e, rfl, q⟩, fun ⟨d', e', h1, q⟩ => by cases h1; exact q⟩)
    simp only [wp_iteB, wp_ok]
theorem xS_aug {i : Nat} {o : BOp} {y : E} {Q : Flow → Env → Prop} : wp (evS p cl (.aug i o y) env) Q = (match env.at i with
    | .sh d => wp (evE p cl y env) fun v e => ∃ b, rdV v e = some b ∧ ∃ w, augV o d b = some w ∧ e.mayV i = true ∧ Q .nxt (e.set i (.sh w))
    | .own _ _ => o = .add ∧ wp (evE p cl y env) fun v e => ∃ ys, rdV v e = some (.lst ys) ∧ (match e.at i with
      | .own l xs => xs.length + ys.length ≤ 16777216 ∧ Q .nxt (e.set i (.own l (xs ++ ys)))
      | _ => False)
    | .no => False) := by
  simp only [evS, augR']
  cases env.at i with
  | no => simp
  | sh d =>
    simp only [wp_bind]
    congr 1; funext v e
    cases rdV v e with
    | none => simp
    | some b => cases h : augV o d b <;> simp [h, wp_iteB]
  | own l xs =>
    simp only [wp_iteB, wp_bind]
    congr 1
    congr 1; funext v e
    cases rdV v e with
    | none => simp
    | some b =>
      cases e.at i with
      | no => cases b <;> simp
      | sh d => cases b <;> simp
      | own l ys => cases b <;> simp [wp_iteB]
theorem xS_ife {c : E} {a b : List S} {Q : Flow → Env → Prop} : wp (evS p cl (.ife c a b) env) Q = wp (evE p cl c env) fun v e => ∃ d, rdV v e = some d ∧ ∃ k, truD d = some k ∧ if k = true then wp (evSs p cl a e) Q else wp (evSs p cl b e) Q := by
  simp only [evS, wp_bind, wp_tru]
  congr 1; funext v e
  refine propext ⟨fun ⟨d, h, k, h2, q⟩ => ⟨d, h, k, h2, ?_⟩, fun ⟨d, h, k, h2, q⟩ => ⟨d, h, k, h2, ?_⟩⟩ <;> cases k <;> exact q
theorem xS_ret {e : E} {Q : Flow → Env → Prop} : wp (evS p cl (.ret e) env) Q = wp (evE p cl e env) fun v e => Q (.ret v) e := by
  simp only [evS, wp_bind, wp_ok]
theorem xS_retN {Q : Flow → Env → Prop} : wp (evS p cl .retN env) Q = Q (.ret (.sh .non)) env := by simp only [evS, wp_ok]
theorem xS_pass {Q : Flow → Env → Prop} : wp (evS p cl .pass env) Q = Q .nxt env := by simp only [evS, wp_ok]
theorem xS_brk {Q : Flow → Env → Prop} : wp (evS p cl .brk env) Q = Q .brk env := by simp only [evS, wp_ok]
theorem xS_cont {Q : Flow → Env → Prop} : wp (evS p cl .cont env) Q = Q .cont env := by simp only [evS, wp_ok]
theorem wp_setIR {i : Nat} {k d : D} {Q : Flow → Env → Prop} : wp (setIR i k d env) Q = (match env.at i with
    | .own l xs => ∃ j, k = .int j ∧ ∃ n, ixP xs.length j = some n ∧ Q .nxt (env.set i (.own l (xs.set n d)))
    | _ => False) := by
  unfold setIR
  cases env.at i with
  | no => cases k <;> simp
  | sh d => cases k <;> simp
  | own l xs =>
    cases k <;> try simp
    rename_i j
    cases h : ixP xs.length j <;> simp [h]
theorem xS_setI {i : Nat} {k e : E} {Q : Flow → Env → Prop} : wp (evS p cl (.setI i k e) env) Q = wp (evE p cl e env) fun v e1 => ∃ d e2, shV v e1 = some (d, e2) ∧ (match Env.at e2 i with
    | .own _ _ => wp (evE p cl k e2) fun w e3 => ∃ j, rdV w e3 = some (.int j) ∧ (match e3.at i with
      | .own l xs => ∃ n, ixP xs.length j = some n ∧ Q .nxt (e3.set i (.own l (xs.set n d)))
      | _ => False)
    | _ => False) := by
  simp only [evS, wp_bind]
  congr 1; funext v e1
  cases shV v e1 with
  | none => simp
  | some pr =>
    obtain ⟨d, e2⟩ := pr
    refine Eq.trans ?_ (propext ⟨fun q => ⟨d, e2, rfl, q⟩, fun ⟨d', e', h1, q⟩ => by cases h1; exact q⟩)
    dsimp only
    cases e2.at i with
    | no => simp
    | sh d => simp
    | own l xs =>
      simp only [wp_bind]
      congr 1; funext w e3
      cases rdV w e3 with
      | none => simp
      | some j =>
        simp only [wp_setIR]
        cases e3.at i with
        | no => simp
        | sh d => simp
        | own l xs =>
          cases j <;> simp
theorem xS_augI {i : Nat} {o : BOp} {k e : E} {Q : Flow → Env → Prop} : wp (evS p cl (.augI i k o e) env) Q = (match env.at i with
    | .own _ _ => wp (evE p cl k env) fun w e1 => (match e1.at i with
      | .own _ xs => ∃ j, rdV w e1 = some (.int j) ∧ ∃ d, ixL xs j = some d ∧ wp (evE p cl e e1) fun v e2 => ∃ b, rdV v e2 = some b ∧ ∃ z, augV o d b = some z ∧ (match e2.at i with
        | .own l xs => ∃ n, ixP xs.length j = some n ∧ Q .nxt (e2.set i (.own l (xs.set n z)))
        | _ => False)
      | _ => False)
    | _ => False) := by
  simp only [evS]
  cases env.at i with
  | no => simp
  | sh d => simp
  | own l xs =>
    simp only [wp_bind]
    congr 1; funext w e1
    cases e1.at i with
    | no => simp
    | sh d => simp
    | own l xs =>
      dsimp only
      cases rdV w e1 with
      | none => simp
      | some j =>
        cases j <;> simp only [Option.bind_some, idxV, Option.map_none, wp_bad, Option.some.injEq, reduceCtorEq, false_and, exists_false, D.int.injEq, exists_eq_left']
        rename_i n
        cases h : ixL xs n with
        | none => simp
        | some d =>
          simp only [Option.map_some, wp_bind, Option.some.injEq, exists_eq_left']
          congr 1; funext v e2
          cases rdV v e2 with
          | none => simp
          | some b =>
            simp only [Option.bind_some, Option.some.injEq, exists_eq_left']
            cases augV o d b with
            | none => simp
            | some z =>
              simp only [wp_setIR, Option.some.injEq, exists_eq_left']
              cases e2.at i <;> simp
theorem xSs_nil {Q : Flow → Env → Prop} : wp (evSs p cl [] env) Q = Q .nxt env := by simp only [evSs, wp_ok]
theorem wp_seq {s : S} {ss : List S} {Q : Flow → Env → Prop} (M : Env → Prop) (h : wp (evS p cl s env) fun f e => f = .nxt ∧ M e) (h2 : ∀ e, M e → wp (evSs p cl ss e) Q) : wp (evSs p cl (s :: ss) env) Q := by
  rw [evSs, wp_bind]
  refine wp_mono h fun f e ⟨h1, h3⟩ => ?_
  subst h1
  exact h2 e h3
theorem xSs_cons {s : S} {ss : List S} {Q : Flow → Env → Prop} : wp (evSs p cl (s :: ss) env) Q = wp (evS p cl s env) fun f e => match f with
    | .nxt => wp (evSs p cl ss e) Q
    | f => Q f e := by
  rw [evSs, wp_bind]
  congr 1; funext f e
  cases f <;> simp

/-! ## loops -/
/-- a for by its invariant: k turns done -/
theorem wp_forL {ok : Env → Bool} {step : D → Env → R Flow} {ds : List D} {env : Env} {Q : Flow → Env → Prop} (I : Nat → Env → Prop) (h0 : I 0 env) (hok : ∀ k e, k ≤ ds.length → I k e → ok e = true)
    (hs : ∀ k d e, ds[k]? = some d → I k e → wp (step d e) fun f e' => match f with
      | .nxt => I (k + 1) e'
      | .cont => I (k + 1) e'
      | .brk => Q .nxt e'
      | .ret v => Q (.ret v) e') (hend : ∀ e, I ds.length e → Q .nxt e) : wp (forL ok step ds env) Q := by
  induction ds generalizing I env with
  | nil =>
    rw [forL, if_pos (hok 0 env (Nat.le_refl _) h0)]
    exact wp.in (hend env h0)
  | cons d ds ih =>
    rw [forL, if_pos (hok 0 env (Nat.zero_le _) h0), wp_bind]
    refine wp_mono (hs 0 d env rfl h0) fun f e q => ?_
    have go : I 1 e → wp (forL ok step ds e) Q := fun q => ih (fun k => I (k + 1)) q (fun k e hk h => hok (k + 1) e (by simpa using hk) h) (fun k d e hd h => hs (k + 1) d e (by simpa using hd) h) fun e h => hend e (by simpa using h)
    cases f with
    | nxt => exact go q
    | cont => exact go q
    | brk => exact wp.in q
    | ret v => exact wp.in q
theorem xS_for {t : Tg} {it : It} {b : List S} {Q : Flow → Env → Prop} : wp (evS p cl (.for t it b) env) Q = wp (evI p cl it env) fun s e => wp (forL (keepS s e).1.held (fun d e => match bindD t d e with
    | some e => evSs p cl b e
    | none => .bad) (keepS s e).1.xs (keepS s e).2) Q := by
  simp only [evS, wp_bind, forR] <;> rfl
theorem keepS_none {xs : List D} {e : Env} : keepS ⟨xs, none⟩ e = (⟨xs, none⟩, e) := rfl
theorem keepS_own {xs : List D} {e : Env} {i : Nat} : keepS ⟨xs, some (i, false)⟩ e = (⟨xs, none⟩, e.set i (.sh (.lst xs))) := rfl
theorem keepS_loan {xs : List D} {e : Env} {i : Nat} : keepS ⟨xs, some (i, true)⟩ e = (⟨xs, some (i, true)⟩, e) := rfl
theorem held_none {xs : List D} {e : Env} : Src.held ⟨xs, none⟩ e = true := rfl
theorem wp_step {t : Tg} {d : D} {b : Env → R Flow} {Q : Flow → Env → Prop} : wp (match bindD t d env with
    | some e => b e
    | none => .bad) Q = ∃ e, bindD t d env = some e ∧ wp (b e) Q := by
  cases bindD t d env <;> simp
/-- a while by an invariant with a measure -/
theorem wp_while {c : E} {b : List S} {Q : Flow → Env → Prop} (I : Nat → Env → Prop) {m : Nat} (h0 : I m env)
    (hs : ∀ m e, I m e → wp (truR (evE p cl c e)) fun k e1 => if k = true then wp (evSs p cl b e1) (fun f e2 => match f with
      | .nxt => ∃ m', m' < m ∧ I m' e2
      | .cont => ∃ m', m' < m ∧ I m' e2
      | .brk => Q .nxt e2
      | .ret v => Q (.ret v) e2) else Q .nxt e1) : wp (evS p cl (.while c b) env) Q := by
  have key : ∀ m env, I m env → ∃ n r, whileN (fun e => truR (evE p cl c e)) (fun e => evSs p cl b e) n env = some r ∧ wp r Q := by
    intro m
    induction m using Nat.strongRecOn with
    | ind m ih =>
      intro env h
      have := hs m env h
      cases hc : truR (evE p cl c env) with
      | bad => rw [hc] at this; simp at this
      | exc c e => rw [hc] at this; simp at this
      | ok k e1 =>
        rw [hc] at this
        cases k with
        | false =>
          refine ⟨1, .ok .nxt e1, ?_, wp.in this.inv⟩
          simp [whileN, hc]
        | true =>
          simp only [wp_ok, if_true] at this
          cases hb : evSs p cl b e1 with
          | bad => rw [hb] at this; simp at this
          | exc c e => rw [hb] at this; simp at this
          | ok f e2 =>
            rw [hb] at this
            replace this := this.inv
            cases f with
            | nxt =>
              obtain ⟨m', hm, hi⟩ := this
              obtain ⟨n, r, h1, h2⟩ := ih m' hm e2 hi
              exact ⟨n + 1, r, by simp [whileN, hc, hb, h1], h2⟩
            | cont =>
              obtain ⟨m', hm, hi⟩ := this
              obtain ⟨n, r, h1, h2⟩ := ih m' hm e2 hi
              exact ⟨n + 1, r, by simp [whileN, hc, hb, h1], h2⟩
            | brk => exact ⟨1, .ok .nxt e2, by simp [whileN, hc, hb], wp.in this⟩
            | ret v => exact ⟨1, .ok (.ret v) e2, by simp [whileN, hc, hb], wp.in this⟩
  have mono : ∀ n env r, whileN (fun e => truR (evE p cl c e)) (fun e => evSs p cl b e) n env = some r → ∀ k, whileN (fun e => truR (evE p cl c e)) (fun e => evSs p cl b e) (n + k) env = some r := by
    intro n
    induction n with
    | zero => intro env r h; cases h
    | succ n ih =>
      intro env r h k
      rw [show n + 1 + k = (n + k) + 1 by omega]
      simp only [whileN] at h ⊢
      cases hc : truR (evE p cl c env) with
      | bad => rw [hc] at h; exact h
      | exc c e => rw [hc] at h; exact h
      | ok k' e1 =>
        rw [hc] at h
        cases k' with
        | false => exact h
        | true =>
          dsimp only at h ⊢
          cases hb : evSs p cl b e1 with
          | bad => rw [hb] at h; exact h
          | exc c e => rw [hb] at h; exact h
          | ok f e2 =>
            rw [hb] at h
            cases f with
            | nxt => exact ih _ _ h k
            | cont => exact ih _ _ h k
            | brk => exact h
            | ret v => exact h
  obtain ⟨n, r, h1, h2⟩ := key m env h0
  simp only [evS, whileR]
  have ex : ∃ n r, whileN (fun e => truR (evE p cl c e)) (fun e => evSs p cl b e) n env = some r := ⟨n, r, h1⟩
  rw [dif_pos ex]
  have e1 := Classical.choose_spec (Classical.choose_spec ex)
  have e2 := mono _ _ _ h1 (Classical.choose ex)
  have e3 := mono _ _ _ e1 n
  rw [Nat.add_comm] at e3
  rw [e2] at e3
  cases e3
  exact h2
/-! comprehensions -/
theorem compL_eq {ok : Env → Bool} {turn : D → Env → R (Option D)} {g : D → Option D} {env : Env} (hok : ok env = true) : ∀ {ds acc : List D}, (∀ d ∈ ds, turn d env = .ok (g d) env) → acc.length + ds.length ≤ 16777216 → compL ok turn ds env acc = .ok (acc ++ ds.filterMap g) env
  | [], acc, _, _ => by simp [compL, hok]
  | d :: ds, acc, h, hl => by
    simp only [compL, hok, if_true]
    rw [h d List.mem_cons_self]
    simp only [List.length_cons] at hl
    cases e : g d with
    | none =>
      dsimp only
      rw [compL_eq hok (fun x hx => h x (List.mem_cons_of_mem _ hx)) (by omega), List.filterMap_cons, e]
    | some y =>
      dsimp only
      rw [if_pos (by omega), compL_eq hok (fun x hx => h x (List.mem_cons_of_mem _ hx)) (by simp; omega), List.filterMap_cons, e]
      simp
theorem xE_lc {elt : E} {tg : Tg} {it : It} {cond : Option E} {own : List Nat} {Q : Val → Env → Prop} : wp (evE p cl (.lc elt tg it cond own) env) Q = wp (evI p cl it env) fun s e => wp (compL s.held (turnC own tg (evC p cl cond) (evE p cl elt)) s.xs e []) fun ds e => Q (.fr ds) e := by
  simp only [evE, lcR, wp_bind, wp_ok]
/-- a comprehension that changes nothing -/
theorem wp_compL {ok : Env → Bool} {turn : D → Env → R (Option D)} {ds : List D} {env : Env} (g : D → Option D) {Q : List D → Env → Prop} (hok : ok env = true) (h : ∀ d ∈ ds, turn d env = .ok (g d) env) (hl : ds.length ≤ 16777216) (hq : Q (ds.filterMap g) env) : wp (compL ok turn ds env []) Q := by
  rw [compL_eq hok h (by simpa using hl)]
  simpa using hq
/-- .. by its invariant -/
theorem wp_compI {ok : Env → Bool} {turn : D → Env → R (Option D)} {ds : List D} {env : Env} {Q : List D → Env → Prop} (I : Nat → List D → Env → Prop) (h0 : I 0 [] env) (hok : ∀ k acc e, k ≤ ds.length → I k acc e → ok e = true) (hl : ds.length ≤ 16777216)
    (hs : ∀ k d acc e, ds[k]? = some d → acc.length ≤ k → I k acc e → wp (turn d e) fun o e' => match o with
      | some y => I (k + 1) (acc ++ [y]) e'
      | none => I (k + 1) acc e') (hend : ∀ acc e, acc.length ≤ ds.length → I ds.length acc e → Q acc e) : wp (compL ok turn ds env []) Q := by
  have key : ∀ (k : Nat) (rest : List D) (acc : List D) (e : Env), ds.drop k = rest → k ≤ ds.length → acc.length ≤ k → I k acc e → wp (compL ok turn rest e acc) Q := by
    intro k rest
    induction rest generalizing k with
    | nil =>
      intro acc e hd hk ha hi
      have : k = ds.length := by
        have := congrArg List.length hd
        rw [List.length_drop] at this
        simp at this
        omega
      subst this
      simp only [compL, hok _ _ _ hk hi, if_true]
      exact wp.in (hend _ _ ha hi)
    | cons d rest ih =>
      intro acc e hd hk ha hi
      have hk2 : k < ds.length := by
        have := congrArg List.length hd
        rw [List.length_drop] at this
        simp at this
        omega
      have hget : ds[k]? = some d := by
        have := congrArg (fun l => l[0]?) hd
        simpa using this
      have hdrop : ds.drop (k + 1) = rest := by
        have := congrArg (List.drop 1) hd
        simpa [Nat.add_comm] using this
      simp only [compL, hok _ _ _ hk hi, if_true]
      have := hs k d acc e hget ha hi
      cases ht : turn d e with
      | bad => rw [ht] at this; simp at this
      | exc c e => rw [ht] at this; simp at this
      | ok o e' =>
        rw [ht] at this
        replace this := this.inv
        cases o with
        | none => exact ih (k + 1) acc e' hdrop hk2 (by omega) this
        | some y =>
          dsimp only
          rw [if_pos (by omega)]
          exact ih (k + 1) _ e' hdrop hk2 (by simp; omega) this
  exact key 0 ds [] env rfl (Nat.zero_le _) (Nat.le_refl _) h0
theorem xp_turnC {own : List Nat} {tg : Tg} {cond : Option E} {elt : E} {d : D} {Q : Option D → Env → Prop} : wp (turnC own tg (evC p cl cond) (evE p cl elt) d env) Q = ∃ e1, bindD tg d (wipeE own env) = some e1 ∧ (match cond with
    | none => wp (evE p cl elt e1) fun v e3 => ∃ y e4, shV v e3 = some (y, e4) ∧ Q (some y) (restE own env e4)
    | some c => wp (evE p cl c e1) fun v e2 => ∃ d, rdV v e2 = some d ∧ ∃ k, truD d = some k ∧ if k = true then wp (evE p cl elt e2) (fun v e3 => ∃ y e4, shV v e3 = some (y, e4) ∧ Q (some y) (restE own env e4)) else Q none (restE own env e2)) := by
  unfold turnC
  have go : ∀ e2, wp ((evE p cl elt e2).bind fun v e3 => match shV v e3 with
      | some (y, e4) => R.ok (some y) (restE own env e4)
      | none => .bad) Q ↔ wp (evE p cl elt e2) fun v e3 => ∃ y e4, shV v e3 = some (y, e4) ∧ Q (some y) (restE own env e4) := fun e2 => by
    rw [wp_bind]
    refine iff_of_eq ?_
    congr 1; funext v e3
    cases shV v e3 with
    | none => simp
    | some pr => obtain ⟨y, e4⟩ := pr; exact propext ⟨fun q => ⟨y, e4, rfl, q.inv⟩, fun ⟨_, _, h1, q⟩ => by cases h1; exact wp.in q⟩
  cases bindD tg d (wipeE own env) with
  | none => simp
  | some e1 =>
    simp only [Option.some.injEq, exists_eq_left']
    cases cond with
    | none => simp only [evC]; exact propext (go e1)
    | some c =>
      simp only [evC, wp_bind, wp_tru]
      congr 1; funext v e2
      refine propext ⟨fun ⟨d, h, k, h2, q⟩ => ⟨d, h, k, h2, ?_⟩, fun ⟨d, h, k, h2, q⟩ => ⟨d, h, k, h2, ?_⟩⟩
      · cases k with
        | false => exact q.inv
        | true => simp only [if_true] at q ⊢; exact (go _).mp q
      · cases k with
        | false => exact wp.in q
        | true => simp only [if_true] at q ⊢; exact (go _).mpr q
/-- a turn that leaves the environment as it was -/
theorem turn_eq {r : R (Option D)} {o : Option D} {e : Env} (h : wp r fun a e' => a = o ∧ e' = e) : r = .ok o e := by
  obtain ⟨a, e', h, rfl, rfl⟩ := h
  exact h

/-! ## calls -/
theorem rt_run {n f : Nat} {as : List Arg} {d : FD} {Q : Val → List (Option (List D)) → Prop} (hd : p.fd[f]? = some d) (hl : as.length = d.ps ∧ d.ps ≤ d.n) (h : wp (evSs p (run p n) d.body (as.map argS ++ List.replicate (d.n - d.ps) .no)) fun f e => keptB as e = true ∧ match f with
      | .ret v => ∃ w, retV v e = some w ∧ Q w (outsOf as.length e)
      | .nxt => Q (.sh .non) (outsOf as.length e)
      | _ => False) : rt (run p (n + 1) f as) Q := by
  simp only [run, hd, runB]
  rw [if_pos hl]
  cases hr : evSs p (run p n) d.body (as.map argS ++ List.replicate (d.n - d.ps) .no) with
  | bad => rw [hr] at h; simp at h
  | exc c e => rw [hr] at h; simp at h
  | ok f e =>
    rw [hr] at h
    obtain ⟨h1, h2⟩ := h.inv
    cases f with
    | nxt => simp only [backR, h1, if_true, rt_ok]; exact h2
    | brk => exact h2.elim
    | cont => exact h2.elim
    | ret v =>
      obtain ⟨w, h3, h4⟩ := h2
      simp only [backR, h1, if_true, h3, rt_ok]
      exact h4
theorem rt_eq {c : CR} {v : Val} {os : List (Option (List D))} (h : rt c fun a b => a = v ∧ b = os) : c = .ok v os := by
  obtain ⟨a, b, h, rfl, rfl⟩ := h
  exact h
theorem rt_ex {c : CR} {Q : Val → List (Option (List D)) → Prop} (h : rt c Q) : ∃ v os, c = .ok v os ∧ Q v os := by
  obtain ⟨a, b, h, q⟩ := h
  exact ⟨a, b, h, q⟩
end

/-! # the same, what follows handed on -/
section
variable {α β : Type} {p : Pg} {cl : Cl} {env e : Env}
def kO (o : Option α) (Q : α → Prop) : Prop := ∃ a, o = some a ∧ Q a
def kAt (e : Env) (i : Nat) (Q : Slot → Prop) : Prop := Q (e.at i)
def kSet (e : Env) (i : Nat) (s : Slot) (Q : Env → Prop) : Prop := Q (e.set i s)
def kRd (v : Val) (e : Env) (Q : D → Prop) : Prop := ∃ d, rdV v e = some d ∧ Q d
def kSh (v : Val) (e : Env) (Q : D → Env → Prop) : Prop := ∃ d e', shV v e = some (d, e') ∧ Q d e'
def kRds (vs : List Val) (e : Env) (Q : List D → Prop) : Prop := ∃ ds, rdAll vs e = some ds ∧ Q ds
def kShs (vs : List Val) (e : Env) (Q : List D → Env → Prop) : Prop := ∃ ds e', shAll vs e = some (ds, e') ∧ Q ds e'
def kArg (v : Val) (e : Env) (Q : Arg → Prop) : Prop := ∃ a, argV v e = some a ∧ Q a
def kArgs (vs : List Val) (e : Env) (Q : List Arg → Prop) : Prop := ∃ a, argAll vs e = some a ∧ Q a
def kInt (d : D) (Q : Int → Prop) : Prop := ∃ i, d = .int i ∧ Q i
def kLst (d : D) (Q : List D → Prop) : Prop := ∃ i, d = .lst i ∧ Q i
def kOwn (s : Slot) (Q : Bool → List D → Prop) : Prop := match s with
  | .own l xs => Q l xs
  | _ => False
def kBind (t : Tg) (v : Val) (e : Env) (Q : Env → Prop) : Prop := ∃ e2, bindV t v e = some e2 ∧ Q e2
def kBack (vs : List Val) (os : List (Option (List D))) (e : Env) (Q : Env → Prop) : Prop := Q (backV vs os e)
abbrev kIf (k : Bool) (a b : Prop) : Prop := if k = true then a else b
def kFlow (f : Flow) (a : Prop) (Q : Flow → Prop) : Prop := match f with
  | .nxt => a
  | f => Q f
@[simp ↓] theorem kO_some {a : α} {Q : α → Prop} : kO (some a) Q = Q a := by simp [kO]
@[simp ↓] theorem kO_none {Q : α → Prop} : kO none Q = False := by simp [kO]
theorem kO_of {o : Option α} {a : α} (h : o = some a) {Q : α → Prop} : kO o Q = Q a := by rw [h]; simp [kO]
theorem rt_of {c : CR} {v : Val} {os : List (Option (List D))} (h : c = .ok v os) {Q : Val → List (Option (List D)) → Prop} : rt c Q = Q v os := by rw [h]; exact rt_ok
@[simp ↓] theorem kO_ite {c : Prop} [Decidable c] {a : α} {Q : α → Prop} : kO (if c then some a else none) Q = (c ∧ Q a) := by
  by_cases h : c <;> simp [h, kO]
@[simp ↓] theorem kO_map {o : Option α} {f : α → β} {Q : β → Prop} : kO (o.map f) Q = kO o fun a => Q (f a) := by cases o <;> simp [kO]
@[simp ↓] theorem kO_bind {o : Option α} {f : α → Option β} {Q : β → Prop} : kO (o.bind f) Q = kO o fun a => kO (f a) Q := by cases o <;> simp [kO]
@[simp ↓] theorem kAt_0 {s : Slot} {r : Env} {Q : Slot → Prop} : kAt (s :: r) 0 Q = Q s := rfl
@[simp ↓] theorem kAt_s {s : Slot} {r : Env} {n : Nat} {Q : Slot → Prop} : kAt (s :: r) (n + 1) Q = kAt r n Q := rfl
@[simp ↓] theorem kSet_0 {s x : Slot} {r : Env} {Q : Env → Prop} : kSet (s :: r) 0 x Q = Q (x :: r) := rfl
@[simp ↓] theorem kSet_s {s x : Slot} {r : Env} {n : Nat} {Q : Env → Prop} : kSet (s :: r) (n + 1) x Q = kSet r n x fun r' => Q (s :: r') := rfl
@[simp ↓] theorem kRd_sh {d : D} {Q : D → Prop} : kRd (.sh d) e Q = Q d := by simp [kRd, rdV]
@[simp ↓] theorem kRd_fr {d : List D} {Q : D → Prop} : kRd (.fr d) e Q = Q (.lst d) := by simp [kRd, rdV]
@[simp ↓] theorem kRd_bor {i : Nat} {Q : D → Prop} : kRd (.bor i) e Q = kAt e i fun s => match s with
    | .own _ xs => Q (.lst xs)
    | .sh d => Q d
    | .no => False := by
  simp only [kRd, rdV, kAt]
  cases e.at i <;> simp
@[simp ↓] theorem kSh_sh {d : D} {Q : D → Env → Prop} : kSh (.sh d) e Q = Q d e := by
  refine propext ⟨fun ⟨_, _, h, q⟩ => ?_, fun q => ⟨_, _, rfl, q⟩⟩
  cases h; exact q
@[simp ↓] theorem kSh_fr {d : List D} {Q : D → Env → Prop} : kSh (.fr d) e Q = Q (.lst d) e := by
  refine propext ⟨fun ⟨_, _, h, q⟩ => ?_, fun q => ⟨_, _, rfl, q⟩⟩
  cases h; exact q
@[simp ↓] theorem kSh_bor {i : Nat} {Q : D → Env → Prop} : kSh (.bor i) e Q = kAt e i fun s => match s with
    | .own false xs => kSet e i (.sh (.lst xs)) fun e' => Q (.lst xs) e'
    | .sh d => Q d e
    | _ => False := by
  simp only [kSh, shV, kAt, kSet]
  cases h : e.at i with
  | no => simp
  | sh d => exact propext ⟨fun ⟨_, _, h, q⟩ => by cases h; exact q, fun q => ⟨_, _, rfl, q⟩⟩
  | own l xs =>
    cases l with
    | true => simp
    | false => exact propext ⟨fun ⟨_, _, h, q⟩ => by cases h; exact q, fun q => ⟨_, _, rfl, q⟩⟩
@[simp ↓] theorem kRds_nil {Q : List D → Prop} : kRds [] e Q = Q [] := by simp [kRds, rdAll]
@[simp ↓] theorem kRds_cons {v : Val} {vs : List Val} {Q : List D → Prop} : kRds (v :: vs) e Q = kRd v e fun d => kRds vs e fun ds => Q (d :: ds) := by
  simp only [kRds, kRd, rdAll]
  cases rdV v e with
  | none => simp
  | some d => cases rdAll vs e <;> simp
@[simp ↓] theorem kShs_nil {Q : List D → Env → Prop} : kShs [] e Q = Q [] e := by
  refine propext ⟨fun ⟨_, _, h, q⟩ => ?_, fun q => ⟨_, _, rfl, q⟩⟩
  cases h; exact q
@[simp ↓] theorem kShs_cons {v : Val} {vs : List Val} {Q : List D → Env → Prop} : kShs (v :: vs) e Q = kSh v e fun d e1 => kShs vs e1 fun ds e2 => Q (d :: ds) e2 := by
  simp only [kShs, kSh, shAll]
  cases h : shV v e with
  | none => simp
  | some pr =>
    obtain ⟨d, e1⟩ := pr
    refine propext ⟨fun ⟨ds, e2, h1, q⟩ => ⟨d, e1, rfl, ?_⟩, fun ⟨d', e', h1, ds, e2, h2, q⟩ => ?_⟩
    · dsimp only at h1
      cases h2 : shAll vs e1 with
      | none => rw [h2] at h1; cases h1
      | some r =>
        obtain ⟨x, y⟩ := r
        rw [h2] at h1; cases h1
        exact ⟨x, _, rfl, q⟩
    · cases h1
      exact ⟨_, _, by dsimp only; rw [h2], q⟩
@[simp ↓] theorem kArg_sh {d : D} {Q : Arg → Prop} : kArg (.sh d) e Q = Q (.sh d) := by simp [kArg, argV]
@[simp ↓] theorem kArg_fr {d : List D} {Q : Arg → Prop} : kArg (.fr d) e Q = Q (.sh (.lst d)) := by simp [kArg, argV]
@[simp ↓] theorem kArg_bor {i : Nat} {Q : Arg → Prop} : kArg (.bor i) e Q = kAt e i fun s => match s with
    | .own _ xs => Q (.loan xs)
    | .sh d => Q (.sh d)
    | .no => False := by
  simp only [kArg, argV, kAt]
  cases e.at i <;> simp
@[simp ↓] theorem kArgs_nil {Q : List Arg → Prop} : kArgs [] e Q = Q [] := by simp [kArgs, argAll]
@[simp ↓] theorem kArgs_cons {v : Val} {vs : List Val} {Q : List Arg → Prop} : kArgs (v :: vs) e Q = kArg v e fun d => kArgs vs e fun ds => Q (d :: ds) := by
  simp only [kArgs, kArg, argAll]
  cases argV v e with
  | none => simp
  | some d => cases argAll vs e <;> simp
@[simp ↓] theorem kInt_int {i : Int} {Q : Int → Prop} : kInt (.int i) Q = Q i := by simp [kInt]
@[simp ↓] theorem kLst_lst {i : List D} {Q : List D → Prop} : kLst (.lst i) Q = Q i := by simp [kLst]
@[simp ↓] theorem kOwn_own {l : Bool} {i : List D} {Q : Bool → List D → Prop} : kOwn (.own l i) Q = Q l i := rfl
@[simp ↓] theorem kOwn_sh {d : D} {Q : Bool → List D → Prop} : kOwn (.sh d) Q = False := rfl
@[simp ↓] theorem kOwn_no {Q : Bool → List D → Prop} : kOwn .no Q = False := rfl
@[simp ↓] theorem kFlow_n {a : Prop} {Q : Flow → Prop} : kFlow .nxt a Q = a := rfl
@[simp ↓] theorem kFlow_b {a : Prop} {Q : Flow → Prop} : kFlow .brk a Q = Q .brk := rfl
@[simp ↓] theorem kFlow_c {a : Prop} {Q : Flow → Prop} : kFlow .cont a Q = Q .cont := rfl
@[simp ↓] theorem kFlow_r {v : Val} {a : Prop} {Q : Flow → Prop} : kFlow (.ret v) a Q = Q (.ret v) := rfl
/-- a slot that may be stored anew -/
def Slot.may : Slot → Bool
  | .own true _ => false
  | _ => true
@[simp] theorem may_no : Slot.may .no = true := rfl
@[simp] theorem may_sh {d : D} : Slot.may (.sh d) = true := rfl
@[simp] theorem may_own {xs : List D} : Slot.may (.own false xs) = true := rfl
theorem mayV_eq {e : Env} {i : Nat} : Env.mayV e i = (e.at i).may := by
  unfold Env.mayV
  cases e.at i with
  | own l xs => cases l <;> rfl
  | _ => rfl
@[simp ↓] theorem kBind_fr {i : Nat} {xs : List D} {Q : Env → Prop} : kBind (.nm i) (.fr xs) e Q = kAt e i fun s => (s.may = true ∧ kSet e i (.own false xs) Q) := by
  simp only [kBind, bindV, kAt, kSet, mayV_eq]
  by_cases h : (e.at i).may = true <;> simp [h]
@[simp ↓] theorem kBind_nm {i : Nat} {d : D} {Q : Env → Prop} : kBind (.nm i) (.sh d) e Q = kAt e i fun s => (s.may = true ∧ kSet e i (.sh d) Q) := by
  simp only [kBind, bindV, shV, bindD, kAt, kSet, mayV_eq]
  by_cases h : (e.at i).may = true <;> simp [h]
def kBindD (t : Tg) (d : D) (e : Env) (Q : Env → Prop) : Prop := ∃ e2, bindD t d e = some e2 ∧ Q e2
@[simp ↓] theorem kBindD_nm {i : Nat} {d : D} {Q : Env → Prop} : kBindD (.nm i) d e Q = kAt e i fun s => (s.may = true ∧ kSet e i (.sh d) Q) := by
  simp only [kBindD, bindD, kAt, kSet, mayV_eq]
  by_cases h : (e.at i).may = true <;> simp [h]
def kMay (ns : List Nat) (e : Env) (Q : Prop) : Prop := ns.all e.mayV = true ∧ Q
@[simp ↓] theorem kMay_nil {Q : Prop} : kMay [] e Q = Q := by simp [kMay]
@[simp ↓] theorem kMay_cons {n : Nat} {ns : List Nat} {Q : Prop} : kMay (n :: ns) e Q = kAt e n fun s => s.may = true ∧ kMay ns e Q := by
  simp only [kMay, List.all_cons, Bool.and_eq_true, kAt, mayV_eq, and_assoc]
def kSetD (e : Env) (ns : List Nat) (ds : List D) (Q : Env → Prop) : Prop := Q (setD e ns ds)
@[simp ↓] theorem kSetD_nil {ds : List D} {Q : Env → Prop} : kSetD e [] ds Q = Q e := by cases ds <;> rfl
@[simp ↓] theorem kSetD_cons {n : Nat} {ns : List Nat} {d : D} {ds : List D} {Q : Env → Prop} : kSetD e (n :: ns) (d :: ds) Q = kSet e n (.sh d) fun e => kSetD e ns ds Q := rfl
@[simp ↓] theorem kBindD_tup {ns : List Nat} {ds : List D} {Q : Env → Prop} : kBindD (.tup ns) (.tup ds) e Q = (ds.length = ns.length ∧ kMay ns e (kSetD e ns ds Q)) := by
  simp only [kBindD, bindD, kMay, kSetD]
  by_cases h : ds.length = ns.length ∧ ns.all e.mayV = true
  · simp [h]
  · rw [if_neg h]
    exact propext ⟨fun ⟨_, hh, _⟩ => (nomatch hh), fun ⟨a, b, _⟩ => (h ⟨a, b⟩).elim⟩
@[simp ↓] theorem kBind_tup {ns : List Nat} {d : D} {Q : Env → Prop} : kBind (.tup ns) (.sh d) e Q = kBindD (.tup ns) d e Q := by
  simp only [kBind, bindV, shV, kBindD]
@[simp ↓] theorem kBind_bor {t : Tg} {i : Nat} {Q : Env → Prop} : kBind t (.bor i) e Q = kSh (.bor i) e fun d e => kBindD t d e Q := by
  have : bindV t (.bor i) e = match shV (.bor i) e with
    | some (d, env) => bindD t d env
    | none => none := by cases t <;> rfl
  simp only [kBind, this, kSh, kBindD]
  cases shV (.bor i) e with
  | none => simp
  | some pr =>
    obtain ⟨d, e1⟩ := pr
    exact propext ⟨fun ⟨e2, h, q⟩ => ⟨d, e1, rfl, e2, h, q⟩, fun ⟨_, _, h1, e2, h, q⟩ => by cases h1; exact ⟨e2, h, q⟩⟩
@[simp ↓] theorem kBack_nil {os : List (Option (List D))} {Q : Env → Prop} : kBack [] os e Q = Q e := by cases os <;> rfl
@[simp ↓] theorem kBack_sh {d : D} {vs : List Val} {o : Option (List D)} {os : List (Option (List D))} {Q : Env → Prop} : kBack (.sh d :: vs) (o :: os) e Q = kBack vs os e Q := rfl
@[simp ↓] theorem kBack_fr {d : List D} {vs : List Val} {o : Option (List D)} {os : List (Option (List D))} {Q : Env → Prop} : kBack (.fr d :: vs) (o :: os) e Q = kBack vs os e Q := rfl
@[simp ↓] theorem kBack_no {i : Nat} {vs : List Val} {os : List (Option (List D))} {Q : Env → Prop} : kBack (.bor i :: vs) (none :: os) e Q = kBack vs os e Q := by
  simp only [kBack, backV]
  cases e.at i <;> rfl
@[simp ↓] theorem kBack_bor {i : Nat} {vs : List Val} {xs : List D} {os : List (Option (List D))} {Q : Env → Prop} : kBack (.bor i :: vs) (some xs :: os) e Q = kAt e i fun s => match s with
    | .own l _ => kSet e i (.own l xs) fun e => kBack vs os e Q
    | _ => kBack vs os e Q := by
  simp only [kBack, backV, kAt, kSet]
  cases e.at i <;> rfl
def kNd (vs : List Val) (e : Env) (Q : Prop) : Prop := noDup (lentTo vs e) = true ∧ Q

/-! expressions -/
@[simp ↓] theorem wE_var {i : Nat} {Q : Val → Env → Prop} : wp (evE p cl (.var i) env) Q = kAt env i fun s => match s with
    | .sh d => Q (.sh d) env
    | .own _ _ => Q (.bor i) env
    | .no => False := by
  rw [xE_var]; rfl
@[simp ↓] theorem wE_int {i : Int} {Q : Val → Env → Prop} : wp (evE p cl (.int i) env) Q = Q (.sh (.int i)) env := xE_int
@[simp ↓] theorem wE_bl {i : Bool} {Q : Val → Env → Prop} : wp (evE p cl (.bl i) env) Q = Q (.sh (.bl i)) env := xE_bl
@[simp ↓] theorem wE_non {Q : Val → Env → Prop} : wp (evE p cl .non env) Q = Q (.sh .non) env := xE_non
@[simp ↓] theorem wE_str {x : Str} {Q : Val → Env → Prop} : wp (evE p cl (.str x) env) Q = Q (.sh (.str x)) env := xE_str
@[simp ↓] theorem wE_glob {c : Nat} {Q : Val → Env → Prop} : wp (evE p cl (.glob c) env) Q = kO p.cv[c]? fun d => Q (.sh d) env := xE_glob
@[simp ↓] theorem wE_tup {es : List E} {Q : Val → Env → Prop} : wp (evE p cl (.tup es) env) Q = wp (evEs p cl es env) fun vs e => kShs vs e fun ds e => ds.length ≤ 16777216 ∧ Q (.sh (.tup ds)) e := xE_tup
@[simp ↓] theorem wE_lst {es : List E} {Q : Val → Env → Prop} : wp (evE p cl (.lst es) env) Q = wp (evEs p cl es env) fun vs e => kShs vs e fun ds e => ds.length ≤ 16777216 ∧ Q (.fr ds) e := xE_lst
@[simp ↓] theorem wE_bin {o : BOp} {a b : E} {Q : Val → Env → Prop} : wp (evE p cl (.bin o a b) env) Q = wp (evE p cl a env) fun v e1 => wp (evE p cl b e1) fun w e2 => kRd v e2 fun a => kRd w e2 fun b => kO (binV o a b) fun z => Q z e2 := xE_bin
theorem rd_int {v : Val} {e : Env} {Q : Int → Prop} : (∃ i, rdV v e = some (.int i) ∧ Q i) = kRd v e fun d => kInt d Q := by
  unfold kRd kInt
  exact propext ⟨fun ⟨i, h, q⟩ => ⟨_, h, i, rfl, q⟩, fun ⟨d, h, i, h2, q⟩ => ⟨i, h2 ▸ h, q⟩⟩
@[simp ↓] theorem wE_neg {a : E} {Q : Val → Env → Prop} : wp (evE p cl (.neg a) env) Q = wp (evE p cl a env) fun v e => kRd v e fun d => kInt d fun i => Q (.sh (.int (-i))) e := by
  rw [xE_neg]; simp only [rd_int]
@[simp ↓] theorem wE_not {a : E} {Q : Val → Env → Prop} : wp (evE p cl (.not a) env) Q = wp (evE p cl a env) fun v e => kRd v e fun d => kO (truD d) fun k => Q (.sh (.bl (!k))) e := xE_not
@[simp ↓] theorem wE_cmp {o : COp} {a b : E} {Q : Val → Env → Prop} : wp (evE p cl (.cmp o a b) env) Q = wp (evE p cl a env) fun v e1 => wp (evE p cl b e1) fun w e2 => kRd v e2 fun a => kRd w e2 fun b => kO (cmpV o a b) fun k => Q (.sh (.bl k)) e2 := xE_cmp
def isNon : D → Bool
  | .non => true
  | _ => false
@[simp ↓] theorem wE_isN {a : E} {Q : Val → Env → Prop} : wp (evE p cl (.isN a) env) Q = wp (evE p cl a env) fun v e => kRd v e fun d => Q (.sh (.bl (isNon d))) e := by
  rw [xE_isN]
  rfl
@[simp ↓] theorem wE_notN {a : E} {Q : Val → Env → Prop} : wp (evE p cl (.notN a) env) Q = wp (evE p cl a env) fun v e => kRd v e fun d => Q (.sh (.bl (!isNon d))) e := by
  rw [xE_notN]
  congr 1; funext v e
  unfold kRd
  congr 1; funext d; congr 2
  cases d <;> rfl
@[simp ↓] theorem wE_idx {a b : E} {Q : Val → Env → Prop} : wp (evE p cl (.idx a b) env) Q = wp (evE p cl a env) fun v e1 => wp (evE p cl b e1) fun w e2 => kRd v e2 fun a => kRd w e2 fun b => kO (idxV a b) fun d => Q (.sh d) e2 := xE_idx
@[simp ↓] theorem wO_none {Q : Option Int → Env → Prop} : wp (evO p cl none env) Q = Q none env := xO_none
@[simp ↓] theorem wO_some {a : E} {Q : Option Int → Env → Prop} : wp (evO p cl (some a) env) Q = wp (evE p cl a env) fun v e => kRd v e fun d => kInt d fun i => Q (some i) e := by
  rw [xO_some]; simp only [rd_int]
@[simp ↓] theorem wE_sl {a : E} {lo hi : Option E} {Q : Val → Env → Prop} : wp (evE p cl (.sl a lo hi) env) Q = wp (evE p cl a env) fun v e1 => wp (evO p cl lo e1) fun l e2 => wp (evO p cl hi e2) fun h e3 => kRd v e3 fun x => kO (slV x l h) fun z => Q z e3 := xE_sl
@[simp ↓] theorem wE_rev {a : E} {Q : Val → Env → Prop} : wp (evE p cl (.rev a) env) Q = wp (evE p cl a env) fun v e => kRd v e fun d => kO (revV d) fun w => Q w e := xE_rev
@[simp ↓] theorem wE_bi {b : BI} {es : List E} {Q : Val → Env → Prop} : wp (evE p cl (.bi b es) env) Q = wp (evEs p cl es env) fun vs e => kRds vs e fun ds => kO (biV b ds) fun w => Q w e := xE_bi
@[simp ↓] theorem wE_isi {a : E} {t : TY} {Q : Val → Env → Prop} : wp (evE p cl (.isi a t) env) Q = wp (evE p cl a env) fun v e => kRd v e fun d => kO (isiD t d) fun k => Q (.sh (.bl k)) e := xE_isi
@[simp ↓] theorem wE_ife {c a b : E} {Q : Val → Env → Prop} : wp (evE p cl (.ife c a b) env) Q = wp (evE p cl c env) fun v e => kRd v e fun d => kO (truD d) fun k => (if k = true then wp (evE p cl a e) Q else wp (evE p cl b e) Q) := xE_ife
@[simp ↓] theorem wE_chn {o o' : COp} {a b c : E} {Q : Val → Env → Prop} : wp (evE p cl (.chn o o' a b c) env) Q = wp (evE p cl a env) fun va e1 => wp (evE p cl b e1) fun vb e2 => kRd va e2 fun x => kRd vb e2 fun y => kO (cmpV o x y) fun k => (if k = true then (wp (evE p cl c e2) fun vc e3 => kRd vb e3 fun y' => kRd vc e3 fun z => kO (cmpV o' y' z) fun k' => Q (.sh (.bl k')) e3) else Q (.sh (.bl false)) e2) := xE_chn
@[simp ↓] theorem wEs_nil {Q : List Val → Env → Prop} : wp (evEs p cl [] env) Q = Q [] env := xEs_nil
@[simp ↓] theorem wEs_cons {e : E} {es : List E} {Q : List Val → Env → Prop} : wp (evEs p cl (e :: es) env) Q = wp (evE p cl e env) fun v e1 => wp (evEs p cl es e1) fun vs e2 => Q (v :: vs) e2 := xEs_cons
@[simp ↓] theorem wE_call {f : Nat} {es : List E} {Q : Val → Env → Prop} : wp (evE p cl (.call f es) env) Q = wp (evEs p cl es env) fun vs e => kArgs vs e fun as => kNd vs e (rt (cl f as) fun v os => kBack vs os e fun e => Q v e) := xE_call
@[simp ↓] theorem wE_meth {m : MT} {o : E} {es : List E} {Q : Val → Env → Prop} : wp (evE p cl (.meth m o es) env) Q = wp (evE p cl o env) fun v e1 => kRd v e1 fun d1 => sameK d1 d1 = true ∧ wp (evEs p cl es e1) fun vs e2 => kRd v e2 fun d => sameK d1 d = true ∧ kRds vs e2 fun ds => kO (methV m d ds) fun w => Q w e2 := xE_meth
@[simp ↓] theorem wE_pop {i : Nat} {Q : Val → Env → Prop} : wp (evE p cl (.pop i) env) Q = kAt env i fun s => kOwn s fun l xs => kO xs.getLast? fun y => kSet env i (.own l xs.dropLast) fun e => Q (.sh y) e := by
  rw [xE_pop]; unfold kAt kOwn kO kSet
  cases env.at i <;> rfl
@[simp ↓] theorem wE_app {i : Nat} {e : E} {Q : Val → Env → Prop} : wp (evE p cl (.app i e) env) Q = kAt env i fun s => kOwn s fun _ _ => wp (evE p cl e env) fun v e1 => kSh v e1 fun d e2 => kAt e2 i fun s => kOwn s fun l xs => xs.length < 16777216 ∧ kSet e2 i (.own l (xs ++ [d])) fun e => Q (.sh .non) e := by
  rw [xE_app]; unfold kAt kOwn kSh kSet
  cases env.at i <;> rfl
@[simp ↓] theorem wE_rvs {i : Nat} {Q : Val → Env → Prop} : wp (evE p cl (.rvs i) env) Q = kAt env i fun s => kOwn s fun l xs => kSet env i (.own l xs.reverse) fun e => Q (.sh .non) e := by
  rw [xE_rvs]; unfold kAt kOwn kSet
  cases env.at i <;> rfl
@[simp ↓] theorem wE_and_one {e : E} {Q : Val → Env → Prop} : wp (evE p cl (.and [e]) env) Q = wp (evE p cl e env) Q := xE_and_one
@[simp ↓] theorem wE_and_cons {e e2 : E} {es : List E} {Q : Val → Env → Prop} : wp (evE p cl (.and (e :: e2 :: es)) env) Q = wp (evE p cl e env) fun v e1 => kRd v e1 fun d => kO (truD d) fun k => (if k = true then wp (evE p cl (.and (e2 :: es)) e1) Q else Q v e1) := xE_and_cons
@[simp ↓] theorem wE_or_one {e : E} {Q : Val → Env → Prop} : wp (evE p cl (.or [e]) env) Q = wp (evE p cl e env) Q := xE_or_one
@[simp ↓] theorem wE_or_cons {e e2 : E} {es : List E} {Q : Val → Env → Prop} : wp (evE p cl (.or (e :: e2 :: es)) env) Q = wp (evE p cl e env) fun v e1 => kRd v e1 fun d => kO (truD d) fun k => (if k = true then Q v e1 else wp (evE p cl (.or (e2 :: es)) e1) Q) := xE_or_cons
def kSrc (v : Val) (e : Env) (Q : Src → Prop) : Prop := ∃ s, srcOf v e = some s ∧ Q s
@[simp ↓] theorem kSrc_sh {d : D} {Q : Src → Prop} : kSrc (.sh d) e Q = kO (elsD d) fun xs => Q ⟨xs, none⟩ := by
  unfold kSrc kO
  have : srcOf (.sh d) e = (elsD d).map fun xs => ⟨xs, none⟩ := rfl
  rw [this]
  cases elsD d <;> simp
@[simp ↓] theorem kSrc_fr {d : List D} {Q : Src → Prop} : kSrc (.fr d) e Q = Q ⟨d, none⟩ := by simp [kSrc, srcOf]
@[simp ↓] theorem kSrc_bor {i : Nat} {Q : Src → Prop} : kSrc (.bor i) e Q = kAt e i fun s => match s with
    | .own l xs => Q ⟨xs, some (i, l)⟩
    | .sh d => kO (elsD d) fun xs => Q ⟨xs, none⟩
    | .no => False := by
  unfold kSrc kAt kO
  have : srcOf (.bor i) e = match e.at i with
    | .own l xs => some ⟨xs, some (i, l)⟩
    | .sh d => (elsD d).map fun xs => ⟨xs, none⟩
    | .no => none := rfl
  rw [this]
  cases e.at i with
  | no => simp
  | sh d =>
    dsimp only
    cases elsD d <;> simp
  | own l xs => simp
@[simp ↓] theorem wI_seq {e : E} {Q : Src → Env → Prop} : wp (evI p cl (.seq e) env) Q = wp (evE p cl e env) fun v e1 => kSrc v e1 fun s => Q s e1 := xI_seq
@[simp ↓] theorem wI_rng {es : List E} {Q : Src → Env → Prop} : wp (evI p cl (.rng es) env) Q = wp (evEs p cl es env) fun vs e1 => kRds vs e1 fun ds => kO (rngD ds) fun xs => Q ⟨xs, none⟩ e1 := xI_rng
/-! statements -/
@[simp ↓] theorem wS_expr {e : E} {Q : Flow → Env → Prop} : wp (evS p cl (.expr e) env) Q = wp (evE p cl e env) fun _ e => Q .nxt e := xS_expr
@[simp ↓] theorem wS_asg {t : Tg} {e : E} {Q : Flow → Env → Prop} : wp (evS p cl (.asg t e) env) Q = wp (evE p cl e env) fun v e => kBind t v e fun e => Q .nxt e := xS_asg
@[simp ↓] theorem wS_asgP {ns : List Nat} {es : List E} {Q : Flow → Env → Prop} : wp (evS p cl (.asgP ns es) env) Q = wp (evEs p cl es env) fun vs e => kShs vs e fun ds e => ds.length = ns.length ∧ kMay ns e (kSetD e ns ds fun e => Q .nxt e) := by
  rw [xS_asgP]
  simp only [kShs, kMay, kSetD, and_assoc]
@[simp ↓] theorem wS_aug {i : Nat} {o : BOp} {y : E} {Q : Flow → Env → Prop} : wp (evS p cl (.aug i o y) env) Q = kAt env i fun s => match s with
    | .sh d => wp (evE p cl y env) fun v e => kRd v e fun b => kO (augV o d b) fun w => kAt e i fun s => s.may = true ∧ kSet e i (.sh w) fun e => Q .nxt e
    | .own _ _ => o = .add ∧ wp (evE p cl y env) fun v e => kRd v e fun d => kLst d fun ys => kAt e i fun s => kOwn s fun l xs => xs.length + ys.length ≤ 16777216 ∧ kSet e i (.own l (xs ++ ys)) fun e => Q .nxt e
    | .no => False := by
  rw [xS_aug]
  unfold kAt
  cases env.at i with
  | no => rfl
  | sh d =>
    dsimp only
    simp only [kRd, kO, mayV_eq, kSet]
  | own l xs =>
    dsimp only
    congr 2; funext v e
    unfold kRd kLst kOwn kSet
    exact propext ⟨fun ⟨ys, h, q⟩ => ⟨_, h, ys, rfl, by cases h2 : e.at i <;> rw [h2] at q <;> exact q⟩, fun ⟨d, h, ys, h2, q⟩ => ⟨ys, h2 ▸ h, by cases h2 : e.at i <;> rw [h2] at q <;> exact q⟩⟩
@[simp ↓] theorem wS_ife {c : E} {a b : List S} {Q : Flow → Env → Prop} : wp (evS p cl (.ife c a b) env) Q = wp (evE p cl c env) fun v e => kRd v e fun d => kO (truD d) fun k => (if k = true then wp (evSs p cl a e) Q else wp (evSs p cl b e) Q) := xS_ife
@[simp ↓] theorem wS_ret {e : E} {Q : Flow → Env → Prop} : wp (evS p cl (.ret e) env) Q = wp (evE p cl e env) fun v e => Q (.ret v) e := xS_ret
@[simp ↓] theorem wS_retN {Q : Flow → Env → Prop} : wp (evS p cl .retN env) Q = Q (.ret (.sh .non)) env := xS_retN
@[simp ↓] theorem wS_pass {Q : Flow → Env → Prop} : wp (evS p cl .pass env) Q = Q .nxt env := xS_pass
@[simp ↓] theorem wS_brk {Q : Flow → Env → Prop} : wp (evS p cl .brk env) Q = Q .brk env := xS_brk
@[simp ↓] theorem wS_cont {Q : Flow → Env → Prop} : wp (evS p cl .cont env) Q = Q .cont env := xS_cont
@[simp ↓] theorem wS_setI {i : Nat} {k e : E} {Q : Flow → Env → Prop} : wp (evS p cl (.setI i k e) env) Q = wp (evE p cl e env) fun v e1 => kSh v e1 fun d e2 => kAt e2 i fun s => kOwn s fun _ _ => wp (evE p cl k e2) fun w e3 => kRd w e3 fun j => kInt j fun j => kAt e3 i fun s => kOwn s fun l xs => kO (ixP xs.length j) fun n => kSet e3 i (.own l (xs.set n d)) fun e => Q .nxt e := by
  rw [xS_setI]
  simp only [← rd_int]
  unfold kSh kAt kOwn kO kSet
  rfl
@[simp ↓] theorem wS_augI {i : Nat} {o : BOp} {k e : E} {Q : Flow → Env → Prop} : wp (evS p cl (.augI i k o e) env) Q = kAt env i fun s => kOwn s fun _ _ => wp (evE p cl k env) fun w e1 => kAt e1 i fun s => kOwn s fun _ xs => kRd w e1 fun j => kInt j fun j => kO (ixL xs j) fun d => wp (evE p cl e e1) fun v e2 => kRd v e2 fun b => kO (augV o d b) fun z => kAt e2 i fun s => kOwn s fun l xs => kO (ixP xs.length j) fun n => kSet e2 i (.own l (xs.set n z)) fun e => Q .nxt e := by
  rw [xS_augI]
  simp only [← rd_int]
  unfold kAt kOwn kO kSet kRd
  rfl
@[simp ↓] theorem wSs_nil {Q : Flow → Env → Prop} : wp (evSs p cl [] env) Q = Q .nxt env := xSs_nil
@[simp ↓] theorem wSs_cons {s : S} {ss : List S} {Q : Flow → Env → Prop} : wp (evSs p cl (s :: ss) env) Q = wp (evS p cl s env) fun f e => kFlow f (wp (evSs p cl ss e) Q) fun f => Q f e := by
  rw [xSs_cons]
  rfl
def kKeep (s : Src) (e : Env) (Q : Src → Env → Prop) : Prop := Q (keepS s e).1 (keepS s e).2
@[simp ↓] theorem kKeep_none {xs : List D} {Q : Src → Env → Prop} : kKeep ⟨xs, none⟩ e Q = Q ⟨xs, none⟩ e := rfl
@[simp ↓] theorem kKeep_own {xs : List D} {i : Nat} {Q : Src → Env → Prop} : kKeep ⟨xs, some (i, false)⟩ e Q = kSet e i (.sh (.lst xs)) fun e => Q ⟨xs, none⟩ e := rfl
@[simp ↓] theorem kKeep_loan {xs : List D} {i : Nat} {Q : Src → Env → Prop} : kKeep ⟨xs, some (i, true)⟩ e Q = Q ⟨xs, some (i, true)⟩ e := rfl
/-- a for's loop -/
noncomputable def loopR (p : Pg) (cl : Cl) (t : Tg) (b : List S) (s : Src) (e : Env) : R Flow := forL s.held (fun d e => match bindD t d e with
    | some e => evSs p cl b e
    | none => .bad) s.xs e
@[simp ↓] theorem wS_for {t : Tg} {it : It} {b : List S} {Q : Flow → Env → Prop} : wp (evS p cl (.for t it b) env) Q = wp (evI p cl it env) fun s e => kKeep s e fun s e => wp (loopR p cl t b s e) Q := xS_for
theorem wp_loop {t : Tg} {b : List S} {ds : List D} {Q : Flow → Env → Prop} (I : Nat → Env → Prop) (h0 : I 0 env)
    (hs : ∀ k d e, ds[k]? = some d → I k e → ∀ M : Flow → Env → Prop, (∀ e', I (k + 1) e' → M .nxt e') → (∀ e', I (k + 1) e' → M .cont e') → (∀ e', Q .nxt e' → M .brk e') → (∀ v e', Q (.ret v) e' → M (.ret v) e') → kBindD t d e fun e => wp (evSs p cl b e) M)
    (hend : ∀ e, I ds.length e → Q .nxt e) : wp (loopR p cl t b ⟨ds, none⟩ env) Q := by
  refine wp_forL I h0 (fun _ _ _ _ => rfl) (fun k d e hd hi => ?_) hend
  obtain ⟨e2, h1, h2⟩ := hs k d e hd hi (fun f e' => match f with
      | .nxt => I (k + 1) e'
      | .cont => I (k + 1) e'
      | .brk => Q .nxt e'
      | .ret v => Q (.ret v) e') (fun _ h => h) (fun _ h => h) (fun _ h => h) (fun _ _ h => h)
  rw [h1]
  exact h2
/-- a while, by an invariant with a measure -/
theorem wS_while {c : E} {b : List S} {Q : Flow → Env → Prop} (I : Nat → Env → Prop) {m : Nat} (h0 : I m env)
    (hs : ∀ m e, I m e → ∀ M : Flow → Env → Prop, (∀ m' e', m' < m → I m' e' → M .nxt e') → (∀ m' e', m' < m → I m' e' → M .cont e') → (∀ e', Q .nxt e' → M .brk e') → (∀ v e', Q (.ret v) e' → M (.ret v) e') →
      wp (evE p cl c e) fun v e => kRd v e fun d => kO (truD d) fun k => if k = true then wp (evSs p cl b e) M else Q .nxt e) : wp (evS p cl (.while c b) env) Q := by
  refine wp_while I h0 fun m e hi => ?_
  rw [wp_tru]
  refine wp_mono (hs m e hi (fun f e2 => match f with
      | .nxt => ∃ m', m' < m ∧ I m' e2
      | .cont => ∃ m', m' < m ∧ I m' e2
      | .brk => Q .nxt e2
      | .ret v => Q (.ret v) e2) (fun m' e' h1 h2 => ⟨m', h1, h2⟩) (fun m' e' h1 h2 => ⟨m', h1, h2⟩) (fun _ h => h) (fun _ _ h => h)) ?_
  rintro v e1 ⟨d, h1, k, h2, q⟩
  exact ⟨d, h1, k, h2, q⟩
/-- a comprehension's loop -/
noncomputable def compR (p : Pg) (cl : Cl) (own : List Nat) (t : Tg) (c : Option E) (elt : E) (s : Src) (e : Env) : R (List D) := compL s.held (turnC own t (evC p cl c) (evE p cl elt)) s.xs e []
@[simp ↓] theorem wE_lc {elt : E} {tg : Tg} {it : It} {cond : Option E} {own : List Nat} {Q : Val → Env → Prop} : wp (evE p cl (.lc elt tg it cond own) env) Q = wp (evI p cl it env) fun s e => wp (compR p cl own tg cond elt s e) fun ds e => Q (.fr ds) e := xE_lc
def kRest (own : List Nat) (e0 e : Env) (Q : Env → Prop) : Prop := Q (restE own e0 e)
def kWipe (own : List Nat) (e : Env) (Q : Env → Prop) : Prop := Q (wipeE own e)
@[simp ↓] theorem kWipe_nil {Q : Env → Prop} : kWipe [] e Q = Q e := rfl
@[simp ↓] theorem kWipe_cons {i : Nat} {is : List Nat} {Q : Env → Prop} : kWipe (i :: is) e Q = kWipe is e fun e => kSet e i .no Q := rfl
@[simp ↓] theorem kRest_nil {e0 : Env} {Q : Env → Prop} : kRest [] e0 e Q = Q e := rfl
@[simp ↓] theorem kRest_cons {e0 : Env} {i : Nat} {is : List Nat} {Q : Env → Prop} : kRest (i :: is) e0 e Q = kRest is e0 e fun e => kAt e0 i fun s => kSet e i s Q := rfl
/-- one turn -/
def kTurn (p : Pg) (cl : Cl) (own : List Nat) (t : Tg) (c : Option E) (elt : E) (d : D) (e0 : Env) (Q : Option D → Env → Prop) : Prop :=
  kWipe own e0 fun e => kBindD t d e fun e1 => match c with
    | none => wp (evE p cl elt e1) fun v e3 => kSh v e3 fun y e4 => kRest own e0 e4 fun e => Q (some y) e
    | some c => wp (evE p cl c e1) fun v e2 => kRd v e2 fun d => kO (truD d) fun k => if k = true then (wp (evE p cl elt e2) fun v e3 => kSh v e3 fun y e4 => kRest own e0 e4 fun e => Q (some y) e) else (kRest own e0 e2 fun e => Q none e)
theorem wp_turn {own : List Nat} {t : Tg} {c : Option E} {elt : E} {d : D} {Q : Option D → Env → Prop} : wp (turnC own t (evC p cl c) (evE p cl elt) d env) Q = kTurn p cl own t c elt d env Q := by
  rw [xp_turnC]
  unfold kTurn kWipe kBindD
  cases c <;> rfl
/-- a comprehension that leaves the environment as it was -/
theorem wp_comp {own : List Nat} {t : Tg} {c : Option E} {elt : E} {ds : List D} {Q : List D → Env → Prop} (g : D → Option D) (h : ∀ d ∈ ds, kTurn p cl own t c elt d env fun o e => o = g d ∧ e = env) (hl : ds.length ≤ 16777216) (hq : Q (ds.filterMap g) env) : wp (compR p cl own t c elt ⟨ds, none⟩ env) Q :=
  wp_compL g rfl (fun d hd => turn_eq (wp_turn ▸ h d hd)) hl hq
theorem wp_compJ {own : List Nat} {t : Tg} {c : Option E} {elt : E} {ds : List D} {Q : List D → Env → Prop} (I : Nat → List D → Env → Prop) (h0 : I 0 [] env) (hl : ds.length ≤ 16777216)
    (hs : ∀ k d acc e, ds[k]? = some d → acc.length ≤ k → I k acc e → ∀ M : Option D → Env → Prop, (∀ y e', I (k + 1) (acc ++ [y]) e' → M (some y) e') → (∀ e', I (k + 1) acc e' → M none e') → kTurn p cl own t c elt d e M)
    (hend : ∀ acc e, acc.length ≤ ds.length → I ds.length acc e → Q acc e) : wp (compR p cl own t c elt ⟨ds, none⟩ env) Q :=
  wp_compI I h0 (fun _ _ _ _ _ => rfl) hl (fun k d acc e hd ha hi => by
    rw [wp_turn]
    exact hs k d acc e hd ha hi (fun o e' => match o with
      | some y => I (k + 1) (acc ++ [y]) e'
      | none => I (k + 1) acc e') (fun _ _ h => h) (fun _ h => h)) hend
end
end Lw
set_option linter.all false
set_option Elab.async false
set_option maxRecDepth 100000
set_option maxHeartbeats 4000000
namespace Lw
open PySem

/-! # reading and storing, computed -/
@[simp ↓] theorem kNd_nil {e : Env} {Q : Prop} : kNd [] e Q = Q := by simp [kNd, lentTo, noDup]
def kNdA (as : List Arg) (vs : List Val) (e : Env) (Q : Prop) : Prop := kNd vs e Q
@[simp ↓] theorem kNd_sh {d : D} {vs : List Val} {e : Env} {Q : Prop} : kNd (.sh d :: vs) e Q = kNd vs e Q := rfl
@[simp ↓] theorem kNd_fr {d : List D} {vs : List Val} {e : Env} {Q : Prop} : kNd (.fr d :: vs) e Q = kNd vs e Q := rfl
theorem noDup_cons_iff {x : Nat} {xs : List Nat} : noDup (x :: xs) = true ↔ xs.contains x = false ∧ noDup xs = true := by simp [noDup]
@[simp ↓] theorem kNd_bor1 {i : Nat} {e : Env} {Q : Prop} : kNd [.bor i] e Q = Q := by
  simp only [kNd, lentTo]
  cases e.at i <;> simp [noDup]
@[simp ↓] theorem kNd_bor_sh {i : Nat} {d : D} {vs : List Val} {e : Env} {Q : Prop} : kNd (.bor i :: .sh d :: vs) e Q = kNd (.bor i :: vs) e Q := by
  simp only [kNd, lentTo]
@[simp ↓] theorem kNd_bor_fr {i : Nat} {d : List D} {vs : List Val} {e : Env} {Q : Prop} : kNd (.bor i :: .fr d :: vs) e Q = kNd (.bor i :: vs) e Q := by
  simp only [kNd, lentTo]
@[simp] theorem elsD_tup {xs : List D} : elsD (.tup xs) = some xs := rfl
@[simp] theorem elsD_lst {xs : List D} : elsD (.lst xs) = some xs := rfl
@[simp] theorem elsD_ro {xs : List D} : elsD (.ro xs) = some xs := rfl
@[simp] theorem retV_sh {d : D} {e : Env} : retV (.sh d) e = some (.sh d) := rfl
@[simp] theorem retV_fr {d : List D} {e : Env} : retV (.fr d) e = some (.fr d) := rfl
@[simp] theorem argS_sh {d : D} : argS (.sh d) = .sh d := rfl
@[simp] theorem argS_loan {d : List D} : argS (.loan d) = .own true d := rfl
/-- a def's end -/
def kEnd (as : List Arg) (Q : Val → List (Option (List D)) → Prop) (f : Flow) (e : Env) : Prop := keptB as e = true ∧ match f with
  | .ret v => ∃ w, retV v e = some w ∧ Q w (outsOf as.length e)
  | .nxt => Q (.sh .non) (outsOf as.length e)
  | _ => False
def kKept (as : List Arg) (e : Env) (os : List (Option (List D)) → List (Option (List D))) (Q : List (Option (List D)) → Prop) : Prop := keptB as e = true ∧ Q (os (outsOf as.length e))
@[simp ↓] theorem kKept_nil {e : Env} {os : List (Option (List D)) → List (Option (List D))} {Q : List (Option (List D)) → Prop} : kKept [] e os Q = Q (os []) := by
  cases e <;> simp [kKept, keptB, outsOf]
@[simp ↓] theorem kKept_sh {d d' : D} {as : List Arg} {r : Env} {os : List (Option (List D)) → List (Option (List D))} {Q : List (Option (List D)) → Prop} : kKept (.sh d :: as) (.sh d' :: r) os Q = kKept as r (fun l => os (none :: l)) Q := by
  simp only [kKept, keptB, List.length_cons, outsOf]
@[simp ↓] theorem kKept_shF {d : D} {xs : List D} {as : List Arg} {r : Env} {os : List (Option (List D)) → List (Option (List D))} {Q : List (Option (List D)) → Prop} : kKept (.sh d :: as) (.own false xs :: r) os Q = kKept as r (fun l => os (none :: l)) Q := by
  simp only [kKept, keptB, List.length_cons, outsOf]
@[simp ↓] theorem kKept_loan {d xs : List D} {as : List Arg} {r : Env} {os : List (Option (List D)) → List (Option (List D))} {Q : List (Option (List D)) → Prop} : kKept (.loan d :: as) (.own true xs :: r) os Q = kKept as r (fun l => os (some xs :: l)) Q := by
  simp only [kKept, keptB, List.length_cons, outsOf]
@[simp ↓] theorem kEnd_sh {as : List Arg} {Q : Val → List (Option (List D)) → Prop} {d : D} {e : Env} : kEnd as Q (.ret (.sh d)) e = kKept as e id (Q (.sh d)) := by simp [kEnd, kKept]
@[simp ↓] theorem kEnd_fr {as : List Arg} {Q : Val → List (Option (List D)) → Prop} {d : List D} {e : Env} : kEnd as Q (.ret (.fr d)) e = kKept as e id (Q (.fr d)) := by simp [kEnd, kKept]
@[simp ↓] theorem kEnd_nxt {as : List Arg} {Q : Val → List (Option (List D)) → Prop} {e : Env} : kEnd as Q .nxt e = kKept as e id (Q (.sh .non)) := by simp [kEnd, kKept]
@[simp ↓] theorem kEnd_bor {as : List Arg} {Q : Val → List (Option (List D)) → Prop} {i : Nat} {e : Env} : kEnd as Q (.ret (.bor i)) e = kAt e i fun s => match s with
    | .own false xs => kKept as e id (Q (.fr xs))
    | .sh d => kKept as e id (Q (.sh d))
    | _ => False := by
  simp only [kEnd, kKept, retV, kAt]
  cases e.at i with
  | no => simp
  | sh d => simp
  | own l xs => cases l <;> simp
theorem rt_def {p : Pg} {n f : Nat} {as : List Arg} {d : FD} {Q : Val → List (Option (List D)) → Prop} (hd : p.fd[f]? = some d) (hl : as.length = d.ps ∧ d.ps ≤ d.n) (h : wp (evSs p (run p n) d.body (as.map argS ++ List.replicate (d.n - d.ps) .no)) (kEnd as Q)) : rt (run p (n + 1) f as) Q := rt_run hd hl h

/-! # operations -/
section
variable {Q : Val → Prop} {i j : Int} {xs ys : List D} {x y : Str}
@[simp ↓] theorem add_int : kO (binV .add (.int i) (.int j)) Q = Q (.sh (.int (i + j))) := by simp [binV]
@[simp ↓] theorem sub_int : kO (binV .sub (.int i) (.int j)) Q = Q (.sh (.int (i - j))) := by simp [binV]
@[simp ↓] theorem add_tup : kO (binV .add (.tup xs) (.tup ys)) Q = (xs.length + ys.length ≤ 16777216 ∧ Q (.sh (.tup (xs ++ ys)))) := by simp only [binV, kO_map, catD, kO_ite]
@[simp ↓] theorem add_lst : kO (binV .add (.lst xs) (.lst ys)) Q = (xs.length + ys.length ≤ 16777216 ∧ Q (.fr (xs ++ ys))) := by simp only [binV, kO_map, catD, kO_ite]
@[simp ↓] theorem add_str : kO (binV .add (.str x) (.str y)) Q = (x.length + y.length ≤ 16777216 ∧ Q (.sh (.str (x ++ y)))) := by simp only [binV, kO_ite]
@[simp ↓] theorem mul_int : kO (binV .mul (.int i) (.int j)) Q = (mulOk i j ∧ Q (.sh (.int (i * j)))) := by simp only [binV, kO_ite]
@[simp ↓] theorem mul_tup : kO (binV .mul (.tup xs) (.int j)) Q = (((-1000 ≤ j ∧ j ≤ 1000) ∧ xs.length ≤ 1000) ∧ Q (.sh (.tup (repD xs j)))) := by simp only [binV, kO_ite]
@[simp ↓] theorem mul_lst : kO (binV .mul (.lst xs) (.int j)) Q = ((-(2 ^ 63) ≤ j ∧ j < 2 ^ 63 ∧ xs.length * j.toNat ≤ 16777216) ∧ Q (.fr (repD xs j))) := by simp only [binV, kO_ite]
@[simp ↓] theorem fdiv_int : kO (binV .fdiv (.int i) (.int j)) Q = ((j ≠ 0 ∧ j.natAbs < 2 ^ 4000) ∧ Q (.sh (.int (i.fdiv j)))) := by simp only [binV, kO_ite]
@[simp ↓] theorem mod_int : kO (binV .mod (.int i) (.int j)) Q = (j ≠ 0 ∧ Q (.sh (.int (i.fmod j)))) := by simp only [binV, kO_ite]
@[simp ↓] theorem pow_int : kO (binV .pow (.int i) (.int j)) Q = ((0 ≤ j ∧ j ≤ 1000000 ∧ i.natAbs < 2 ^ 64) ∧ Q (.sh (.int (i ^ j.toNat)))) := by simp only [binV, kO_ite]
@[simp ↓] theorem shl_int : kO (binV .shl (.int i) (.int j)) Q = ((0 ≤ j ∧ j ≤ 1000000 ∧ i.natAbs < 2 ^ 64) ∧ Q (.sh (.int (i * 2 ^ j.toNat)))) := by simp only [binV, kO_ite]
@[simp ↓] theorem shr_int : kO (binV .shr (.int i) (.int j)) Q = (0 ≤ j ∧ Q (.sh (.int (i / 2 ^ j.toNat)))) := by simp only [binV, kO_ite]
end
section
variable {Q : D → Prop} {i j : Int} {xs ys : List D} {x y : Str}
@[simp ↓] theorem aadd_int : kO (augV .add (.int i) (.int j)) Q = Q (.int (i + j)) := by simp [augV]
@[simp ↓] theorem asub_int : kO (augV .sub (.int i) (.int j)) Q = Q (.int (i - j)) := by simp [augV]
@[simp ↓] theorem aadd_tup : kO (augV .add (.tup xs) (.tup ys)) Q = (xs.length + ys.length ≤ 16777216 ∧ Q (.tup (xs ++ ys))) := by simp only [augV, kO_map, catD, kO_ite]
@[simp ↓] theorem amul_int : kO (augV .mul (.int i) (.int j)) Q = (mulOk i j ∧ Q (.int (i * j))) := by simp only [augV, kO_ite]
@[simp ↓] theorem afdiv_int : kO (augV .fdiv (.int i) (.int j)) Q = ((0 < j ∧ j.natAbs < 2 ^ 4000) ∧ Q (.int (i / j))) := by simp only [augV, kO_ite]
@[simp ↓] theorem amod_int : kO (augV .mod (.int i) (.int j)) Q = (0 < j ∧ Q (.int (i % j))) := by simp only [augV, kO_ite]
@[simp ↓] theorem idx_tup : kO (idxV (.tup xs) (.int i)) Q = kO (ixL xs i) Q := rfl
@[simp ↓] theorem idx_lst : kO (idxV (.lst xs) (.int i)) Q = kO (ixL xs i) Q := rfl
@[simp ↓] theorem idx_ro : kO (idxV (.ro xs) (.int i)) Q = kO (ixL xs i) Q := rfl
end
@[simp ↓] theorem sum_lst {xs : List D} {Q : Val → Prop} : kO (biV .sum [.lst xs]) Q = kO (intsOf xs) fun ns => Q (.sh (.int ns.sum)) := by simp only [biV, kO_map]
@[simp ↓] theorem sum_tup {xs : List D} {Q : Val → Prop} : kO (biV .sum [.tup xs]) Q = kO (intsOf xs) fun ns => Q (.sh (.int ns.sum)) := by simp only [biV, kO_map]
@[simp ↓] theorem max_lst {xs : List D} {Q : Val → Prop} : kO (biV .max [.lst xs]) Q = kO (maxL xs) fun d => Q (.sh d) := by simp only [biV, kO_map]
@[simp ↓] theorem min_lst {xs : List D} {Q : Val → Prop} : kO (biV .min [.lst xs]) Q = kO (minL xs) fun d => Q (.sh d) := by simp only [biV, kO_map]
@[simp ↓] theorem max_tup {xs : List D} {Q : Val → Prop} : kO (biV .max [.tup xs]) Q = kO (maxL xs) fun d => Q (.sh d) := by simp only [biV, kO_map]
@[simp ↓] theorem min_tup {xs : List D} {Q : Val → Prop} : kO (biV .min [.tup xs]) Q = kO (minL xs) fun d => Q (.sh d) := by simp only [biV, kO_map]
@[simp ↓] theorem sorted_lst {xs : List D} {Q : Val → Prop} : kO (biV .sorted [.lst xs]) Q = kO (sortL xs) fun d => Q (.fr d) := by simp only [biV, kO_map]
@[simp ↓] theorem sorted_tup {xs : List D} {Q : Val → Prop} : kO (biV .sorted [.tup xs]) Q = kO (sortL xs) fun d => Q (.fr d) := by simp only [biV, kO_map]
@[simp ↓] theorem gcd_int {i j : Int} {Q : Val → Prop} : kO (biV .gcd [.int i, .int j]) Q = Q (.sh (.int (Int.gcd i j))) := by simp [biV]
@[simp ↓] theorem any_lst {xs : List D} {Q : Val → Prop} : kO (biV .any [.lst xs]) Q = kO (blsOf xs) fun ns => Q (.sh (.bl (ns.any id))) := by simp only [biV, kO_map]
@[simp ↓] theorem all_lst {xs : List D} {Q : Val → Prop} : kO (biV .all [.lst xs]) Q = kO (blsOf xs) fun ns => Q (.sh (.bl (ns.all id))) := by simp only [biV, kO_map]
@[simp] theorem intsOf_map {ns : List Int} : intsOf (ns.map D.int) = some ns := by
  induction ns with
  | nil => rfl
  | cons n ns ih => simp [intsOf, ih]
@[simp] theorem blsOf_map {ns : List Bool} : blsOf (ns.map D.bl) = some ns := by
  induction ns with
  | nil => rfl
  | cons n ns ih => simp [blsOf, ih]
@[simp] theorem sameK_tup {xs ys : List D} : sameK (.tup xs) (.tup ys) = true := rfl
@[simp] theorem sameK_lst {xs ys : List D} : sameK (.lst xs) (.lst ys) = true := rfl
@[simp ↓] theorem rng_1 {n : Int} {Q : List D → Prop} : kO (rngD [.int n]) Q = ((-(2 ^ 62) ≤ n ∧ n < 2 ^ 62) ∧ Q (rangeL 0 n.toNat)) := by simp only [rngD, kO_ite]
@[simp ↓] theorem rng_2 {a b : Int} {Q : List D → Prop} : kO (rngD [.int a, .int b]) Q = ((-(2 ^ 62) ≤ a ∧ a < 2 ^ 62 ∧ -(2 ^ 62) ≤ b ∧ b < 2 ^ 62) ∧ Q (rangeL a (b - a).toNat)) := by simp only [rngD, kO_ite]

/-! # comparing -/
def okN (n : Nat) (d : D) : Bool := plainD d && decide (depD d ≤ n)
theorem plainDs_all : ∀ {xs : List D}, plainDs xs = xs.all plainD
  | [] => rfl
  | x :: xs => by simp [plainDs, plainDs_all (xs := xs)]
theorem depDs_le {n : Nat} : ∀ {xs : List D}, depDs xs ≤ n ↔ ∀ x ∈ xs, depD x ≤ n
  | [] => by simp [depDs]
  | x :: xs => by simp only [depDs, List.forall_mem_cons, ← depDs_le (xs := xs)]; omega
theorem okD_okN {d : D} : okD d = okN 60 d := rfl
@[simp] theorem okN_int {n : Nat} {i : Int} : okN n (.int i) = true := by simp [okN, plainD, depD]
@[simp] theorem okN_bl {n : Nat} {i : Bool} : okN n (.bl i) = true := by simp [okN, plainD, depD]
@[simp] theorem okN_non {n : Nat} : okN n .non = true := by simp [okN, plainD, depD]
theorem okN_all {n : Nat} {xs : List D} : (plainDs xs && decide (depDs xs ≤ n)) = xs.all (okN n) := by
  rw [plainDs_all, Bool.eq_iff_iff]
  simp only [Bool.and_eq_true, decide_eq_true_eq, depDs_le, List.all_eq_true, okN]
  exact ⟨fun ⟨h1, h2⟩ x hx => ⟨h1 x hx, h2 x hx⟩, fun h => ⟨fun x hx => (h x hx).1, fun x hx => (h x hx).2⟩⟩
@[simp] theorem okN_tup {n : Nat} {xs : List D} : okN (n + 1) (.tup xs) = xs.all (okN n) := by
  rw [← okN_all]
  simp only [okN, plainD, depD, Nat.add_le_add_iff_right]
@[simp] theorem okN_lst {n : Nat} {xs : List D} : okN (n + 1) (.lst xs) = xs.all (okN n) := by
  rw [← okN_all]
  simp only [okN, plainD, depD, Nat.add_le_add_iff_right]
section
variable {Q : Bool → Prop} {b : Bool} {i : Int} {xs : List D}
@[simp ↓] theorem truD_bl : kO (truD (.bl b)) Q = Q b := by simp [truD]
@[simp ↓] theorem truD_int : kO (truD (.int i)) Q = Q (i != 0) := by simp [truD]
@[simp ↓] theorem truD_non : kO (truD .non) Q = Q false := by simp [truD]
@[simp ↓] theorem truD_tup : kO (truD (.tup xs)) Q = Q (!xs.isEmpty) := by simp [truD]
@[simp ↓] theorem truD_lst : kO (truD (.lst xs)) Q = Q (!xs.isEmpty) := by simp [truD]
@[simp ↓] theorem isi_bool_non : kO (isiD .bool .non) Q = Q false := by simp [isiD]
@[simp ↓] theorem isi_bool_bl : kO (isiD .bool (.bl b)) Q = Q true := by simp [isiD]
@[simp ↓] theorem isi_bool_int : kO (isiD .bool (.int i)) Q = Q false := by simp [isiD]
@[simp ↓] theorem isi_bool_str {x : Str} : kO (isiD .bool (.str x)) Q = Q false := by simp [isiD]
@[simp ↓] theorem isi_bool_tup : kO (isiD .bool (.tup xs)) Q = Q false := by simp [isiD]
@[simp ↓] theorem isi_bool_lst : kO (isiD .bool (.lst xs)) Q = Q false := by simp [isiD]
@[simp ↓] theorem isi_int_non : kO (isiD .int .non) Q = Q false := by simp [isiD]
@[simp ↓] theorem isi_int_bl : kO (isiD .int (.bl b)) Q = Q true := by simp [isiD]
@[simp ↓] theorem isi_int_int : kO (isiD .int (.int i)) Q = Q true := by simp [isiD]
@[simp ↓] theorem isi_int_str {x : Str} : kO (isiD .int (.str x)) Q = Q false := by simp [isiD]
@[simp ↓] theorem isi_int_tup : kO (isiD .int (.tup xs)) Q = Q false := by simp [isiD]
@[simp ↓] theorem isi_int_lst : kO (isiD .int (.lst xs)) Q = Q false := by simp [isiD]
@[simp ↓] theorem isi_str_non : kO (isiD .str .non) Q = Q false := by simp [isiD]
@[simp ↓] theorem isi_str_bl : kO (isiD .str (.bl b)) Q = Q false := by simp [isiD]
@[simp ↓] theorem isi_str_int : kO (isiD .str (.int i)) Q = Q false := by simp [isiD]
@[simp ↓] theorem isi_str_str {x : Str} : kO (isiD .str (.str x)) Q = Q true := by simp [isiD]
@[simp ↓] theorem isi_str_tup : kO (isiD .str (.tup xs)) Q = Q false := by simp [isiD]
@[simp ↓] theorem isi_str_lst : kO (isiD .str (.lst xs)) Q = Q false := by simp [isiD]
@[simp ↓] theorem isi_tuple_non : kO (isiD .tuple .non) Q = Q false := by simp [isiD]
@[simp ↓] theorem isi_tuple_bl : kO (isiD .tuple (.bl b)) Q = Q false := by simp [isiD]
@[simp ↓] theorem isi_tuple_int : kO (isiD .tuple (.int i)) Q = Q false := by simp [isiD]
@[simp ↓] theorem isi_tuple_str {x : Str} : kO (isiD .tuple (.str x)) Q = Q false := by simp [isiD]
@[simp ↓] theorem isi_tuple_tup : kO (isiD .tuple (.tup xs)) Q = Q true := by simp [isiD]
@[simp ↓] theorem isi_tuple_lst : kO (isiD .tuple (.lst xs)) Q = Q false := by simp [isiD]
@[simp ↓] theorem isi_list_non : kO (isiD .list .non) Q = Q false := by simp [isiD]
@[simp ↓] theorem isi_list_bl : kO (isiD .list (.bl b)) Q = Q false := by simp [isiD]
@[simp ↓] theorem isi_list_int : kO (isiD .list (.int i)) Q = Q false := by simp [isiD]
@[simp ↓] theorem isi_list_str {x : Str} : kO (isiD .list (.str x)) Q = Q false := by simp [isiD]
@[simp ↓] theorem isi_list_tup : kO (isiD .list (.tup xs)) Q = Q false := by simp [isiD]
@[simp ↓] theorem isi_list_lst : kO (isiD .list (.lst xs)) Q = Q true := by simp [isiD]
@[simp] theorem isNon_non : isNon .non = true := rfl
@[simp] theorem isNon_bl : isNon (.bl b) = false := rfl
@[simp] theorem isNon_int : isNon (.int i) = false := rfl
@[simp] theorem isNon_str {x : Str} : isNon (.str x) = false := rfl
@[simp] theorem isNon_tup : isNon (.tup xs) = false := rfl
@[simp] theorem isNon_lst : isNon (.lst xs) = false := rfl
end
section
variable {Q : Val → Prop} {xs ys : List D} {i j : Int} {b : Bool} {lo hi : Option Int}
@[simp ↓] theorem len_tup : kO (biV .len [.tup xs]) Q = Q (.sh (.int xs.length)) := by simp [biV, slV, revV]
@[simp ↓] theorem len_lst : kO (biV .len [.lst xs]) Q = Q (.sh (.int xs.length)) := by simp [biV, slV, revV]
@[simp ↓] theorem len_ro : kO (biV .len [.ro xs]) Q = Q (.sh (.int xs.length)) := by simp [biV, slV, revV]
@[simp ↓] theorem int_int : kO (biV .int [.int i]) Q = Q (.sh (.int i)) := by simp [biV, slV, revV]
@[simp ↓] theorem int_bl : kO (biV .int [.bl b]) Q = Q (.sh (.int (if b = true then 1 else 0))) := by simp [biV, slV, revV]
@[simp ↓] theorem abs_int : kO (biV .abs [.int i]) Q = Q (.sh (.int i.natAbs)) := by simp [biV, slV, revV]
@[simp ↓] theorem min_int3 {k : Int} : kO (biV .min [.int i, .int j, .int k]) Q = Q (.sh (.int (min (min i j) k))) := by simp [biV, slV, revV]
@[simp ↓] theorem max_int3 {k : Int} : kO (biV .max [.int i, .int j, .int k]) Q = Q (.sh (.int (max (max i j) k))) := by simp [biV, slV, revV]
@[simp ↓] theorem min_int : kO (biV .min [.int i, .int j]) Q = Q (.sh (.int (min i j))) := by simp [biV, slV, revV]
@[simp ↓] theorem max_int : kO (biV .max [.int i, .int j]) Q = Q (.sh (.int (max i j))) := by simp [biV, slV, revV]
@[simp ↓] theorem tuple_lst : kO (biV .tuple [.lst xs]) Q = Q (.sh (.tup xs)) := by simp [biV, slV, revV]
@[simp ↓] theorem tuple_tup : kO (biV .tuple [.tup xs]) Q = Q (.sh (.tup xs)) := by simp [biV, slV, revV]
@[simp ↓] theorem list_lst : kO (biV .list [.lst xs]) Q = Q (.fr xs) := by simp [biV, slV, revV]
@[simp ↓] theorem list_tup : kO (biV .list [.tup xs]) Q = Q (.fr xs) := by simp [biV, slV, revV]
@[simp ↓] theorem sl_tup : kO (slV (.tup xs) lo hi) Q = Q (.sh (.tup (cutL xs lo hi))) := by simp [biV, slV, revV]
@[simp ↓] theorem sl_lst : kO (slV (.lst xs) lo hi) Q = Q (.fr (cutL xs lo hi)) := by simp [biV, slV, revV]
@[simp ↓] theorem rev_tup : kO (revV (.tup xs)) Q = Q (.sh (.tup xs.reverse)) := by simp [biV, slV, revV]
@[simp ↓] theorem rev_lst : kO (revV (.lst xs)) Q = Q (.fr xs.reverse) := by simp [biV, slV, revV]
@[simp ↓] theorem count_tup {d : D} : kO (methV .count (.tup xs) [d]) Q = ((okN 60 (.tup xs) = true ∧ okN 60 d = true) ∧ Q (.sh (.int (xs.countP fun y => eqD y d : Nat)))) := by simp only [methV, kO_ite, okD_okN, Bool.and_eq_true]
@[simp ↓] theorem count_lst {d : D} : kO (methV .count (.lst xs) [d]) Q = ((okN 60 (.lst xs) = true ∧ okN 60 d = true) ∧ Q (.sh (.int (xs.countP fun y => eqD y d : Nat)))) := by simp only [methV, kO_ite, okD_okN, Bool.and_eq_true]
@[simp ↓] theorem index_tup {d : D} : kO (methV .index (.tup xs) [d]) Q = ((okN 60 (.tup xs) = true ∧ okN 60 d = true) ∧ kO (xs.findIdx? fun y => eqD y d) fun j => Q (.sh (.int j))) := by
  simp only [methV, okD_okN, Bool.and_eq_true]
  by_cases h : okN 60 (.tup xs) = true ∧ okN 60 d = true
  · simp only [h, and_self, if_true, kO_map, true_and]
    cases List.findIdx? (fun y => eqD y d) xs <;> simp [kO]
  · simp only [h, if_false, kO_none, false_and]
@[simp ↓] theorem index_lst {d : D} : kO (methV .index (.lst xs) [d]) Q = ((okN 60 (.lst xs) = true ∧ okN 60 d = true) ∧ kO (xs.findIdx? fun y => eqD y d) fun j => Q (.sh (.int j))) := by
  simp only [methV, okD_okN, Bool.and_eq_true]
  by_cases h : okN 60 (.lst xs) = true ∧ okN 60 d = true
  · simp only [h, and_self, if_true, kO_map, true_and]
    cases List.findIdx? (fun y => eqD y d) xs <;> simp [kO]
  · simp only [h, if_false, kO_none, false_and]
end
section
variable {Q : Bool → Prop} {a b : D} {ys : List D} {i j : Int}
theorem cmp_eq0 : kO (cmpV .eq a b) Q = ((okN 60 a = true ∧ okN 60 b = true) ∧ Q (eqD a b)) := by simp only [cmpV, kO_ite, okD_okN, Bool.and_eq_true]
theorem cmp_ne0 : kO (cmpV .ne a b) Q = ((okN 60 a = true ∧ okN 60 b = true) ∧ Q (!eqD a b)) := by simp only [cmpV, kO_ite, okD_okN, Bool.and_eq_true]
@[simp ↓ low] theorem cmp_eq : kO (cmpV .eq a b) Q = ((okN 60 a = true ∧ okN 60 b = true) ∧ Q (eqD a b)) := cmp_eq0
@[simp ↓ low] theorem cmp_ne : kO (cmpV .ne a b) Q = ((okN 60 a = true ∧ okN 60 b = true) ∧ Q (!eqD a b)) := cmp_ne0
@[simp ↓] theorem cmp_eqI : kO (cmpV .eq (.int i) (.int j)) Q = Q (decide (i = j)) := by rw [cmp_eq0]; simp [eqD]; rfl
@[simp ↓] theorem cmp_neI : kO (cmpV .ne (.int i) (.int j)) Q = Q (!decide (i = j)) := by rw [cmp_ne0]; simp [eqD]; rfl
@[simp ↓] theorem cmp_lt : kO (cmpV .lt (.int i) (.int j)) Q = Q (decide (i < j)) := by simp [cmpV]
@[simp ↓] theorem cmp_gt : kO (cmpV .gt (.int i) (.int j)) Q = Q (decide (j < i)) := by simp [cmpV]
@[simp ↓] theorem cmp_le : kO (cmpV .le (.int i) (.int j)) Q = Q (decide (i ≤ j)) := by simp [cmpV]
@[simp ↓] theorem cmp_ge : kO (cmpV .ge (.int i) (.int j)) Q = Q (decide (j ≤ i)) := by simp [cmpV]
@[simp ↓] theorem cmp_inT : kO (cmpV .isIn a (.tup ys)) Q = ((okN 60 a = true ∧ okN 60 (.tup ys) = true) ∧ Q (inD a ys)) := by simp only [cmpV, kO_ite, okD_okN, Bool.and_eq_true]
@[simp ↓] theorem cmp_inL : kO (cmpV .isIn a (.lst ys)) Q = ((okN 60 a = true ∧ okN 60 (.lst ys) = true) ∧ Q (inD a ys)) := by simp only [cmpV, kO_ite, okD_okN, Bool.and_eq_true]
@[simp ↓] theorem cmp_niT : kO (cmpV .notIn a (.tup ys)) Q = ((okN 60 a = true ∧ okN 60 (.tup ys) = true) ∧ Q (!inD a ys)) := by simp only [cmpV, kO_ite, okD_okN, Bool.and_eq_true]
@[simp ↓] theorem cmp_niL : kO (cmpV .notIn a (.lst ys)) Q = ((okN 60 a = true ∧ okN 60 (.lst ys) = true) ∧ Q (!inD a ys)) := by simp only [cmpV, kO_ite, okD_okN, Bool.and_eq_true]
end
@[simp] theorem eqD_int {a b : Int} : eqD (.int a) (.int b) = decide (a = b) := by simp only [eqD]; rfl
@[simp] theorem eqD_bl {a b : Bool} : eqD (.bl a) (.bl b) = decide (a = b) := by simp only [eqD]; rfl
@[simp] theorem eqD_tup {a b : List D} : eqD (.tup a) (.tup b) = eqDs a b := by simp only [eqD]
@[simp] theorem eqD_lst {a b : List D} : eqD (.lst a) (.lst b) = eqDs a b := by simp only [eqD]
@[simp] theorem eqDs_nil : eqDs [] [] = true := by simp only [eqDs]
@[simp] theorem eqDs_cons {a b : D} {as bs : List D} : eqDs (a :: as) (b :: bs) = (eqD a b && eqDs as bs) := by simp only [eqDs]
@[simp] theorem eqDs_nc {b : D} {bs : List D} : eqDs [] (b :: bs) = false := by simp only [eqDs]
@[simp] theorem eqDs_cn {b : D} {bs : List D} : eqDs (b :: bs) [] = false := by simp only [eqDs]
theorem eqDs_map {α : Type} [DecidableEq α] {f : α → D} (h : ∀ a b, eqD (f a) (f b) = decide (a = b)) : ∀ {as bs : List α}, eqDs (as.map f) (bs.map f) = decide (as = bs)
  | [], [] => by simp
  | [], _ :: _ => by simp
  | _ :: _, [] => by simp
  | a :: as, b :: bs => by
    simp only [List.map_cons, eqDs_cons, h, eqDs_map h, List.cons.injEq]
    by_cases h1 : a = b <;> by_cases h2 : as = bs <;> simp [h1, h2]
@[simp] theorem eqDs_ints {as bs : List Int} : eqDs (as.map .int) (bs.map .int) = decide (as = bs) := eqDs_map fun _ _ => eqD_int
theorem all_ints {n : Nat} {ns : List Int} : (ns.map D.int).all (okN n) = true := by simp
/-! # places -/
theorem ixL_map {α β : Type} {f : α → β} {xs : List α} {i : Int} : ixL (xs.map f) i = (ixL xs i).map f := by
  unfold ixL
  rw [List.length_map]
  cases ixP xs.length i with
  | none => rfl
  | some j => simp
theorem ixL_nat {α : Type} {xs : List α} {i : Nat} : ixL xs (i : Int) = xs[i]? := by
  unfold ixL ixP
  by_cases h : i < xs.length
  · rw [if_pos (by omega), if_pos (by omega)]; simp
  · rw [if_pos (by omega), if_neg (by omega)]; simp; omega
theorem ixL_last {α : Type} {xs : List α} : ixL xs (-1) = xs.getLast? := by
  unfold ixL ixP
  rw [if_neg (by omega), List.getLast?_eq_getElem?]
  by_cases h : 0 < xs.length
  · rw [if_pos (by omega)]
    simp only [Option.bind_some]
    congr 1
    omega
  · rw [if_neg (by omega)]
    have : xs = [] := List.eq_nil_of_length_eq_zero (by omega)
    subst this
    rfl
theorem rangeL_map {lo : Int} {n : Nat} : rangeL lo n = (List.range n).map fun k : Nat => D.int (lo + (k : Int)) := by
  apply List.ext_getElem?
  intro i
  have : ∀ (n : Nat) (lo : Int) (i : Nat), (rangeL lo n)[i]? = if i < n then some (D.int (lo + i)) else none := by
    intro n
    induction n with
    | zero => intro lo i; simp [rangeL]
    | succ n ih =>
      intro lo i
      cases i with
      | zero => simp [rangeL]
      | succ i =>
        simp only [rangeL, List.getElem?_cons_succ, ih]
        by_cases h : i < n
        · rw [if_pos h, if_pos (by omega)]
          congr 2
          omega
        · rw [if_neg h, if_neg (by omega)]
  rw [this, List.getElem?_map]
  by_cases h : i < n
  · rw [if_pos h, List.getElem?_range h]; rfl
  · rw [if_neg h, List.getElem?_eq_none (by simp; omega)]; rfl
theorem rangeL_nil {lo : Int} {n : Nat} (h : n = 0) : rangeL lo n = [] := by subst h; rfl
@[simp] theorem rangeL_len {lo : Int} {n : Nat} : (rangeL lo n).length = n := by rw [rangeL_map]; simp
theorem rangeL_at {lo : Int} {n i : Nat} {d : D} (h : (rangeL lo n)[i]? = some d) : i < n ∧ d = .int (lo + i) := by
  rw [rangeL_map, List.getElem?_map] at h
  by_cases hi : i < n
  · rw [List.getElem?_range hi] at h; cases h; exact ⟨hi, rfl⟩
  · rw [List.getElem?_eq_none (by simp; omega)] at h; cases h

/-! # the draws -/
abbrev dInts (ns : List Int) : List D := ns.map D.int
abbrev tInts (ns : List Int) : D := .tup (ns.map D.int)
def tk (ns : List Int) (m : Int) : Int := match ns.getLast? with
  | none => 0
  | some x => x.fmod m
theorem tk_range {ns : List Int} {m : Int} (h : 0 < m) : 0 ≤ tk ns m ∧ tk ns m < m := by
  unfold tk
  cases ns.getLast? with
  | none => exact ⟨Int.le_refl _, h⟩
  | some x => exact ⟨Int.fmod_nonneg_of_pos x h, Int.fmod_lt_of_pos x h⟩
def B_take : List S := [
  .ife (.cmp .eq (.bi .len [(.var 0)]) (.int 0)) [
    .ret (.int 0)] [],
  .ret (.bin .mod (.bi .int [(.pop 0)]) (.var 1))]
theorem take_run {p : Pg} {f : Nat} (hd : p.fd[f]? = some ⟨2, 2, B_take⟩) {ns : List Int} {m : Int} (hm : m ≠ 0) (n : Nat) : run p (n + 1) f [.loan (dInts ns), .sh (.int m)] = .ok (.sh (.int (tk ns m))) [some (dInts ns.dropLast), none] := by
  apply rt_eq
  refine rt_def hd ⟨rfl, by decide⟩ ?_
  simp [B_take]
  by_cases h : ns = []
  · subst h
    simp [tk]
  · have h1 : ns.length ≠ 0 := fun z => h (List.eq_nil_of_length_eq_zero z)
    obtain ⟨x, hx⟩ : ∃ x, ns.getLast? = some x := ⟨_, List.getLast?_eq_some_getLast h⟩
    simp [h, hm, tk, hx, List.map_dropLast]

/-! # the draws are made -/
theorem ixP_nat {n i : Nat} (h : i < n) : ixP n (i : Int) = some i := by
  unfold ixP
  rw [if_pos (by omega), if_pos (by omega)]
  rfl
theorem mul_r {i j : Int} (h : j.natAbs < 2 ^ 64) : mulOk i j := .inl (.inr h)
theorem mul_l {i j : Int} (h : i.natAbs < 2 ^ 64) : mulOk i j := .inl (.inl h)
def B_turn : List S := [
    .asg (.nm 7) (.bin .mod (.var 6) (.bi .len [(.var 2)])),
    .ife (.and [(.cmp .ge (.idx (.var 2) (.var 7)) (.bin .pow (.int 10) (.int 18))), (.cmp .gt (.idx (.var 4) (.var 7)) (.int 0))]) [
      .expr (.app 5 (.bin .mod (.bi .int [(.idx (.var 4) (.var 7))]) (.int 1000))),
      .setI 4 (.var 7) (.bin .fdiv (.idx (.var 4) (.var 7)) (.int 1000))] [
      .asg (.nm 8) (.bin .mod (.bi .int [(.bin .add (.bin .add (.bin .mul (.idx (.var 2) (.var 7)) (.int 48271)) (.bin .mul (.var 6) (.int 69621))) (.int 11))]) (.int 2147483647)),
      .expr (.app 5 (.bin .mod (.bi .int [(.bin .add (.bin .add (.bin .mul (.var 8) (.var 8)) (.bin .mul (.int 3) (.var 8))) (.var 6))]) (.int 1000003)))]]
def B_draws : List S := [
  .asg (.nm 2) (.lc (.bi .int [(.var 3)]) (.nm 3) (.seq (.var 0)) none [3]),
  .ife (.cmp .eq (.bi .len [(.var 2)]) (.int 0)) [
    .expr (.app 2 (.int 0))] [],
  .asg (.nm 4) (.bi .list [(.var 2)]),
  .asg (.nm 5) (.lst []),
  .for (.nm 6) (.rng [(.var 1)]) B_turn,
  .expr (.rvs 5),
  .ret (.var 5)]
theorem draws_turn {p : Pg} {cl : Cl} {a b : D} {cs rs ds : List Int} {k : Nat} {s7 s8 : Slot} (hc : cs ≠ []) (hr : rs.length = cs.length) (hk : ds.length < 16777216) (h7 : s7.may = true) (h8 : s8.may = true) (M : Flow → Env → Prop)
    (hM : ∀ (z : Int) (rs' : List Int) (s7 s8 : Slot), rs'.length = cs.length → s7.may = true → s8.may = true → M .nxt [.sh a, .sh b, .own false (dInts cs), .no, .own false (dInts rs'), .own false (dInts (ds ++ [z])), .sh (.int k), s7, s8]) :
    wp (evSs p cl B_turn [.sh a, .sh b, .own false (dInts cs), .no, .own false (dInts rs), .own false (dInts ds), .sh (.int k), s7, s8]) M := by
  have h0 : cs.length ≠ 0 := fun z => hc (List.eq_nil_of_length_eq_zero z)
  have hat : (k : Int).fmod cs.length = ((k % cs.length : Nat) : Int) := by
    rw [Int.fmod_eq_emod_of_nonneg _ (by omega)]; simp
  have hlt : k % cs.length < cs.length := Nat.mod_lt _ (by omega)
  obtain ⟨c, ec⟩ : ∃ c, cs[k % cs.length]? = some c := ⟨_, List.getElem?_eq_getElem hlt⟩
  obtain ⟨r, er⟩ : ∃ r, rs[k % cs.length]? = some r := ⟨_, List.getElem?_eq_getElem (by omega)⟩
  have e0 : (k : Int) % cs.length = ((k % cs.length : Nat) : Int) := by simp
  have e1 : ixL (dInts cs) ((k : Int) % cs.length) = some (.int c) := by rw [e0, ixL_nat, List.getElem?_map, ec]; rfl
  have e2 : ixL (dInts rs) ((k : Int) % cs.length) = some (.int r) := by rw [e0, ixL_nat, List.getElem?_map, er]; rfl
  have e3 : ixP rs.length ((k : Int) % cs.length) = some (k % cs.length) := by rw [e0, ixP_nat (by omega)]
  have e4 : ∀ x : Int, (x.fmod 2147483647).natAbs < 2 ^ 64 := fun x => by
    have h1 := Int.fmod_nonneg_of_pos x (show (0 : Int) < 2147483647 by omega)
    have h2 := Int.fmod_lt_of_pos x (show (0 : Int) < 2147483647 by omega)
    omega
  have app : ∀ z, dInts ds ++ [.int z] = dInts (ds ++ [z]) := fun z => by simp
  simp [B_turn, hc, hat, h7, e1, e2]
  by_cases c1 : 1000000000000000000 ≤ c
  · by_cases c2 : 0 < r
    · simp [c1, c2, e2, e3, hk]
      rw [← List.map_set]
      have := hM (r.fmod 1000) (rs.set (k % cs.length) (r.fdiv 1000)) (.sh (.int ((k : Int) % cs.length))) s8 (by simp [hr]) rfl h8
      rw [← app] at this
      exact ⟨by omega, this⟩
    · simp [c1, c2, e1, hk, h8]
      refine ⟨mul_r (by omega), mul_r (by omega), mul_r (e4 _), mul_r (e4 _), ?_⟩
      rw [app]
      exact hM _ rs _ _ hr rfl rfl
  · simp [c1, e1, hk, h8]
    refine ⟨mul_r (by omega), mul_r (by omega), mul_r (e4 _), mul_r (e4 _), ?_⟩
    rw [app]
    exact hM _ rs _ _ hr rfl rfl
theorem draws_run {p : Pg} {f : Nat} (hd : p.fd[f]? = some ⟨9, 2, B_draws⟩) {ns : List Int} {m : Nat} (hl : ns.length ≤ 1000) (hm : m ≤ 1000000) (n : Nat) : ∃ ds, run p (n + 1) f [.sh (.ro (dInts ns)), .sh (.int m)] = .ok (.fr (dInts ds)) [none, none] := by
  have : rt (run p (n + 1) f [.sh (.ro (dInts ns)), .sh (.int m)]) fun v os => ∃ ds, v = .fr (dInts ds) ∧ os = [none, none] := by
    refine rt_def hd ⟨rfl, by decide⟩ ?_
    generalize hM : kEnd _ _ = M
    simp only [B_draws]
    refine wp_seq (fun e => e = [.sh (.ro (dInts ns)), .sh (.int m), .own false (dInts ns), .no, .no, .no, .no, .no, .no]) ?_ ?_
    · simp
      refine wp_comp (fun d => some d) (fun d hd => ?_) (by simp; omega) ?_
      · obtain ⟨x, hx, rfl⟩ := List.mem_map.mp hd
        simp [kTurn]
      simp
    rintro _ rfl
    refine wp_seq (fun e => ∃ cs : List Int, cs ≠ [] ∧ cs.length ≤ 1000 ∧ e = [.sh (.ro (dInts ns)), .sh (.int m), .own false (dInts cs), .no, .no, .no, .no, .no, .no]) ?_ ?_
    · simp
      by_cases h : ns = []
      · subst h
        simp
        exact ⟨[0], by simp⟩
      · simp [h]
        exact ⟨ns, h, hl, rfl⟩
    rintro _ ⟨cs, hc, hl, rfl⟩
    have h0 : cs.length ≠ 0 := fun z => hc (List.eq_nil_of_length_eq_zero z)
    simp
    refine ⟨by omega, ?_⟩
    refine wp_loop (fun k e => ∃ (rs ds : List Int) (s6 s7 s8 : Slot), rs.length = cs.length ∧ ds.length = k ∧ s6.may = true ∧ s7.may = true ∧ s8.may = true ∧ e = [.sh (.ro (dInts ns)), .sh (.int m), .own false (dInts cs), .no, .own false (dInts rs), .own false (dInts ds), s6, s7, s8]) ⟨cs, [], .no, .no, .no, rfl, rfl, rfl, rfl, rfl, rfl⟩ ?_ ?_
    · rintro k d e hd ⟨rs, ds, s6, s7, s8, hr, hds, h6, h7, h8, rfl⟩ M hn - - -
      obtain ⟨hk, rfl⟩ := rangeL_at hd
      simp [h6]
      exact draws_turn hc hr (by omega) h7 h8 _ fun z rs' s7 s8 h1 h2 h3 => hn _ ⟨rs', ds ++ [z], _, s7, s8, h1, by simp [hds], rfl, h2, h3, rfl⟩
    · rintro e ⟨rs, ds, s6, s7, s8, hr, hds, h6, h7, h8, rfl⟩
      subst hM
      simp
      exact ⟨ds.reverse, by simp⟩
  obtain ⟨v, os, h, ds, rfl, rfl⟩ := rt_ex this
  exact ⟨ds, h⟩
end Lw
set_option linter.all false
set_option Elab.async false
set_option maxRecDepth 100000
set_option maxHeartbeats 4000000
namespace Lw
open PySem

/-! # the order -/
theorem toPys_mapL : ∀ xs : List D, toPys xs = xs.map toPy
  | [] => rfl
  | x :: xs => by simp [toPys, toPys_mapL xs]
theorem toPys_ints (xs : List Int) : toPys (xs.map D.int) = xs.map PyData.int := by
  rw [toPys_mapL, List.map_map]; rfl
theorem ltD_int {a b : Int} : ltD (.int a) (.int b) = decide (a < b) := PySem.W.dataLt_int a b
theorem ltD_ints {a b : List Int} : ltD (tInts a) (tInts b) = decide (a < b) := by
  unfold ltD
  simp only [toPy]
  rw [toPys_ints, toPys_ints, PySem.W.dataLt_tuple]
  exact PySem.W.dataLt_ints a b
theorem ltD_pair {a b c d : Int} : ltD (.tup [.int a, .int b]) (.tup [.int c, .int d]) = decide (a < c ∨ (a = c ∧ b < d)) := PySem.W.dataLt_ii a b c d
theorem alkD_int {a b : Int} : alkD (.int a) (.int b) = true := by simp [alkD, toPy, PySem.W.alike]
theorem alkD_ints {a b : List Int} : alkD (tInts a) (tInts b) = true := by
  unfold alkD
  simp only [toPy]
  rw [toPys_ints, toPys_ints, PySem.W.alike]
  exact PySem.W.alike_ints a b
theorem okN_ints {a : List Int} {n : Nat} : okN (n + 1) (tInts a) = true := by rw [okN_tup]; simp
theorem okD_ints {a : List Int} : okD (tInts a) = true := okN_ints (n := 59)
theorem okD_int {a : Int} : okD (.int a) = true := okN_int (n := 60)
theorem ordV_ints {a b : List Int} {k : Bool} : ordV (tInts a) (tInts b) k = some k := by
  unfold ordV
  rw [okD_ints, okD_ints, alkD_ints]; rfl
section
variable {a b : List Int} {Q : Bool → Prop}
@[simp ↓] theorem cmp_ltT : kO (cmpV .lt (.tup (a.map .int)) (.tup (b.map .int))) Q = Q (decide (a < b)) := by
  rw [← ltD_ints]; exact kO_of ordV_ints
@[simp ↓] theorem cmp_gtT : kO (cmpV .gt (.tup (a.map .int)) (.tup (b.map .int))) Q = Q (decide (b < a)) := by
  rw [← ltD_ints]; exact kO_of ordV_ints
@[simp ↓] theorem cmp_leT : kO (cmpV .le (.tup (a.map .int)) (.tup (b.map .int))) Q = Q (!decide (b < a)) := by
  rw [← ltD_ints]; exact kO_of ordV_ints
@[simp ↓] theorem cmp_geT : kO (cmpV .ge (.tup (a.map .int)) (.tup (b.map .int))) Q = Q (!decide (a < b)) := by
  rw [← ltD_ints]; exact kO_of ordV_ints
end
theorem alkL_map {α : Type} {f : α → D} (h1 : ∀ a, okD (f a) = true) (h2 : ∀ a, nonD (f a) = false) (h3 : ∀ a b, alkD (f a) (f b) = true) (xs : List α) : alkL (xs.map f) = true := by
  unfold alkL
  rw [List.all_eq_true]
  intro x hx
  obtain ⟨a, _, rfl⟩ := List.mem_map.mp hx
  rw [h1, h2]
  simp [h3]
theorem fold_map {α : Type} {f : α → D} {g : D → D → Bool} {g' : α → α → Bool} (h : ∀ a b, g (f a) (f b) = g' a b) : ∀ (r : List α) (x : α), (r.map f).foldl (fun a y => if g a y then y else a) (f x) = f (r.foldl (fun a y => if g' a y then y else a) x)
  | [], _ => rfl
  | y :: r, x => by
    rw [List.map_cons, List.foldl_cons, List.foldl_cons, h]
    have : (if g' x y = true then f y else f x) = f (if g' x y = true then y else x) := by split <;> rfl
    rw [this, fold_map h r]
theorem alkL_ints (xs : List Int) : alkL (xs.map D.int) = true := alkL_map (fun _ => okD_int) (fun _ => rfl) (fun _ _ => alkD_int) xs
theorem alkL_words (xs : List (List Int)) : alkL (xs.map tInts) = true := alkL_map (fun _ => okD_ints) (fun _ => rfl) (fun _ _ => alkD_ints) xs
theorem max_fold (xs : List Int) (x : Int) : xs.foldl (fun a y => if decide (a < y) = true then y else a) x = xs.foldl max x := by
  congr 1
  funext a y
  by_cases h : a < y
  · simp [h]; omega
  · simp [h]; omega
theorem min_fold (xs : List Int) (x : Int) : xs.foldl (fun a y => if decide (y < a) = true then y else a) x = xs.foldl min x := by
  congr 1
  funext a y
  by_cases h : y < a
  · simp [h]; omega
  · simp [h]; omega
@[simp ↓] theorem maxL_ints {xs : List Int} {Q : D → Prop} : kO (maxL (xs.map .int)) Q = kO (maxI xs) fun m => Q (.int m) := by
  unfold maxL
  rw [if_pos (alkL_ints xs)]
  cases xs with
  | nil => simp [bestD, maxI, minI]
  | cons x r =>
    simp only [List.map_cons, bestD, kO_some, maxI]
    rw [fold_map (g' := fun a y => decide (a < y)) (fun _ _ => ltD_int), max_fold]
@[simp ↓] theorem minL_ints {xs : List Int} {Q : D → Prop} : kO (minL (xs.map .int)) Q = kO (minI xs) fun m => Q (.int m) := by
  unfold minL
  rw [if_pos (alkL_ints xs)]
  cases xs with
  | nil => simp [bestD, maxI, minI]
  | cons x r =>
    simp only [List.map_cons, bestD, kO_some, minI]
    rw [fold_map (g := fun a y => ltD y a) (g' := fun a y => decide (y < a)) (fun _ _ => ltD_int), min_fold]
def leastW (x : List Int) (r : List (List Int)) : List Int := r.foldl (fun a y => if decide (y < a) = true then y else a) x
@[simp ↓] theorem minL_words {x : List Int} {r : List (List Int)} {Q : D → Prop} : kO (minL ((x :: r).map tInts)) Q = Q (tInts (leastW x r)) := by
  unfold minL
  rw [if_pos (alkL_words _)]
  simp only [List.map_cons, bestD, kO_some]
  rw [fold_map (f := tInts) (g := fun a y => ltD y a) (g' := fun a y => decide (y < a)) (fun _ _ => ltD_ints)]
  rfl
theorem sortL_len {xs ys : List D} (h : sortL xs = some ys) : ys.length = xs.length := by
  unfold sortL at h
  split at h
  · cases h; rw [List.length_mergeSort]
  · cases h
/-- words, none of them empty, can be sorted -/
theorem sortL_words {xs : List (List Int)} (h : ∀ w ∈ xs, w ≠ []) : ∃ ys, sortL (xs.map tInts) = some ys := by
  unfold sortL
  have : (xs.map tInts).all netD = true := by
    rw [List.all_eq_true]
    intro x hx
    obtain ⟨w, hw, rfl⟩ := List.mem_map.mp hx
    cases w with
    | nil => exact absurd rfl (h _ hw)
    | cons a t => rfl
  rw [alkL_words, this]
  exact ⟨_, rfl⟩

@[simp] theorem eqD_str {a b : Str} : eqD (.str a) (.str b) = decide (a = b) := by simp only [eqD]; rfl
/-! # the comparison that laws make -/
mutual
def goodD : D → Bool
  | .non => true
  | .bl _ => true
  | .int _ => true
  | .str x => x.cps.all (· < 0x110000)
  | .tup xs => decide (xs.length ≤ 16777216) && goodDs xs
  | _ => false
def goodDs : List D → Bool
  | [] => true
  | x :: xs => goodD x && goodDs xs
end
mutual
def sameD : D → D → Bool
  | .non, .non => true
  | .bl a, .bl b => decide (a = b)
  | .int a, .int b => decide (a = b)
  | .str a, .str b => decide (a = b)
  | .tup xs, .tup ys => sameDs xs ys
  | _, _ => false
def sameDs : List D → List D → Bool
  | [], [] => true
  | x :: xs, y :: ys => sameD x y && sameDs xs ys
  | _, _ => false
end
@[simp] theorem good_non : goodD .non = true := by simp [goodD]
@[simp] theorem good_bl {b : Bool} : goodD (.bl b) = true := by simp [goodD]
@[simp] theorem good_int {b : Int} : goodD (.int b) = true := by simp [goodD]
@[simp] theorem good_tup {xs : List D} : goodD (.tup xs) = (decide (xs.length ≤ 16777216) && goodDs xs) := by simp [goodD]
@[simp] theorem goods_nil : goodDs [] = true := by simp [goodDs]
@[simp] theorem goods_cons {x : D} {xs : List D} : goodDs (x :: xs) = (goodD x && goodDs xs) := by simp [goodDs]
theorem goods_all : ∀ {xs : List D}, goodDs xs = xs.all goodD
  | [] => rfl
  | x :: xs => by simp [goods_all (xs := xs)]
theorem goods_map {α : Type} {f : α → D} (h : ∀ a, goodD (f a) = true) {xs : List α} : goodDs (xs.map f) = true := by
  rw [goods_all, List.all_map]
  simp [h]
@[simp] theorem goods_ints {xs : List Int} : goodDs (xs.map D.int) = true := goods_map fun _ => good_int
@[simp] theorem same_int {a b : Int} : sameD (.int a) (.int b) = decide (a = b) := by simp [sameD]
@[simp] theorem same_str {a b : Str} : sameD (.str a) (.str b) = decide (a = b) := by simp [sameD]
@[simp] theorem same_bl {a b : Bool} : sameD (.bl a) (.bl b) = decide (a = b) := by simp [sameD]
@[simp] theorem same_non : sameD .non .non = true := by simp [sameD]
@[simp] theorem same_tup {a b : List D} : sameD (.tup a) (.tup b) = sameDs a b := by simp [sameD]
@[simp] theorem sames_nil : sameDs [] [] = true := by simp [sameDs]
@[simp] theorem sames_cons {a b : D} {as bs : List D} : sameDs (a :: as) (b :: bs) = (sameD a b && sameDs as bs) := by simp [sameDs]
theorem sames_iff : ∀ {xs ys : List D}, sameDs xs ys = true ↔ xs.length = ys.length ∧ ∀ (i : Nat) (x y : D), xs[i]? = some x → ys[i]? = some y → sameD x y = true
  | [], [] => by simp
  | [], _ :: _ => by simp [sameDs]
  | _ :: _, [] => by simp [sameDs]
  | x :: xs, y :: ys => by
    rw [sames_cons, Bool.and_eq_true, sames_iff (xs := xs)]
    constructor
    · rintro ⟨h1, h2, h3⟩
      refine ⟨by simp [h2], fun i a b ha hb => ?_⟩
      cases i with
      | zero => simp at ha hb; subst ha; subst hb; exact h1
      | succ i => exact h3 i a b (by simpa using ha) (by simpa using hb)
    · rintro ⟨h1, h2⟩
      exact ⟨h2 0 x y rfl rfl, by simpa using h1, fun i a b ha hb => h2 (i + 1) a b (by simpa using ha) (by simpa using hb)⟩
mutual
theorem same_refl : ∀ {x : D}, goodD x = true → sameD x x = true
  | .non, _ => by simp
  | .bl _, _ => by simp
  | .int _, _ => by simp
  | .tup xs, h => by simp at h ⊢; exact sames_refl h.2
  | .str _, _ => by simp
  | .lst _, h => by simp [goodD] at h
  | .ro _, h => by simp [goodD] at h
  | .set _, h => by simp [goodD] at h
  | .exn _, h => by simp [goodD] at h
theorem sames_refl : ∀ {xs : List D}, goodDs xs = true → sameDs xs xs = true
  | [], _ => by simp
  | x :: xs, h => by
    simp at h ⊢
    exact ⟨same_refl h.1, sames_refl h.2⟩
end
theorem good_at {xs : List D} {i : Nat} {x : D} (h : goodDs xs = true) (e : xs[i]? = some x) : goodD x = true := by
  rw [goods_all, List.all_eq_true] at h
  exact h x (List.mem_of_getElem? e)
theorem dep_at {xs : List D} {i : Nat} {x : D} {n : Nat} (h : depDs xs ≤ n) (e : xs[i]? = some x) : depD x ≤ n := depDs_le.mp h x (List.mem_of_getElem? e)
def B_same (f : Nat) : List S := [
  .ife (.isi (.var 1) .bool) [
    .ret (.and [(.isi (.var 0) .bool), (.cmp .eq (.var 0) (.var 1))])] [],
  .ife (.isi (.var 1) .int) [
    .ret (.and [(.isi (.var 0) .int), (.not (.isi (.var 0) .bool)), (.cmp .eq (.var 0) (.var 1))])] [],
  .ife (.isi (.var 1) .str) [
    .ret (.and [(.isi (.var 0) .str), (.cmp .eq (.var 0) (.var 1))])] [],
  .ife (.isN (.var 1)) [
    .ret (.isN (.var 0))] [],
  .ife (.or [(.not (.isi (.var 0) .tuple)), (.cmp .ne (.bi .len [(.var 0)]) (.bi .len [(.var 1)]))]) [
    .ret (.bl false)] [],
  .for (.nm 2) (.rng [(.bi .len [(.var 1)])]) [
    .ife (.not (.call f [(.idx (.var 0) (.var 2)), (.idx (.var 1) (.var 2))])) [
      .ret (.bl false)] []],
  .ret (.bl true)]
@[simp] theorem sames_nc {y : D} {ys : List D} : sameDs [] (y :: ys) = false := by simp [sameDs]
theorem sames_len {xs ys : List D} (h : xs.length ≠ ys.length) : sameDs xs ys = false := by
  cases e : sameDs xs ys with
  | false => rfl
  | true => exact absurd (sames_iff.mp e).1 h
@[simp] theorem same_non_bl  {b : Bool} : sameD .non (.bl b) = false := rfl
@[simp] theorem same_non_int  {i : Int} : sameD .non (.int i) = false := rfl
@[simp] theorem same_non_tup  {xs : List D} : sameD .non (.tup xs) = false := rfl
@[simp] theorem same_bl_non {b : Bool}  : sameD (.bl b) .non = false := rfl
@[simp] theorem same_bl_int {b : Bool} {i : Int} : sameD (.bl b) (.int i) = false := rfl
@[simp] theorem same_bl_tup {b : Bool} {xs : List D} : sameD (.bl b) (.tup xs) = false := rfl
@[simp] theorem same_int_non {i : Int}  : sameD (.int i) .non = false := rfl
@[simp] theorem same_int_bl {i : Int} {b : Bool} : sameD (.int i) (.bl b) = false := rfl
@[simp] theorem same_int_tup {i : Int} {xs : List D} : sameD (.int i) (.tup xs) = false := rfl
@[simp] theorem same_tup_non {xs : List D}  : sameD (.tup xs) .non = false := rfl
@[simp] theorem same_tup_bl {xs : List D} {b : Bool} : sameD (.tup xs) (.bl b) = false := rfl
@[simp] theorem same_tup_int {xs : List D} {i : Int} : sameD (.tup xs) (.int i) = false := rfl
@[simp] theorem same_non_str {x : Str} : sameD .non (.str x) = false := rfl
@[simp] theorem same_bl_str {b : Bool} {x : Str} : sameD (.bl b) (.str x) = false := rfl
@[simp] theorem same_int_str {i : Int} {x : Str} : sameD (.int i) (.str x) = false := rfl
@[simp] theorem same_tup_str {xs : List D} {x : Str} : sameD (.tup xs) (.str x) = false := rfl
@[simp] theorem same_str_non {x : Str} : sameD (.str x) .non = false := rfl
@[simp] theorem same_str_bl {x : Str} {b : Bool} : sameD (.str x) (.bl b) = false := rfl
@[simp] theorem same_str_int {x : Str} {i : Int} : sameD (.str x) (.int i) = false := rfl
@[simp] theorem same_str_tup {x : Str} {xs : List D} : sameD (.str x) (.tup xs) = false := rfl
theorem good_str {x : Str} (h : goodD (.str x) = true) (n : Nat) : okN n (.str x) = true := by
  have d0 : depD (.str x) = 0 := by simp [depD]
  have p0 : plainD (.str x) = x.cps.all (· < 0x110000) := by simp only [plainD]
  rw [goodD] at h
  unfold okN
  rw [d0, p0, h]
  simp
@[simp] theorem good_lst {xs : List D} : goodD (.lst xs) = false := rfl
@[simp] theorem good_ro {xs : List D} : goodD (.ro xs) = false := rfl
@[simp] theorem good_set {xs : List D} : goodD (.set xs) = false := rfl
@[simp] theorem good_exn {c : Nat} : goodD (.exn c) = false := rfl
theorem same_run {p : Pg} {f : Nat} (hd : p.fd[f]? = some ⟨3, 2, B_same f⟩) : ∀ (n : Nat) {a d : D}, goodD a = true → goodD d = true → depD d ≤ n → run p (n + 1) f [.sh a, .sh d] = .ok (.sh (.bl (sameD a d))) [none, none] := by
  intro n
  induction n with
  | zero =>
    intro a d ga gd hdep
    apply rt_eq
    refine rt_def hd ⟨rfl, by simp⟩ ?_
    cases d with
    | non => cases a <;> simp [B_same] at ga ⊢
    | bl b => cases a <;> simp [B_same] at ga ⊢
    | int b => cases a <;> simp [B_same] at ga ⊢
    | str b =>
      cases a with
      | str c => simp [B_same, good_str ga, good_str gd]
      | _ => simp [B_same] at ga ⊢
    | tup ys => simp [depD] at hdep
    | _ => simp [goodD] at gd
  | succ n ih =>
    intro a d ga gd hdep
    apply rt_eq
    refine rt_def hd ⟨rfl, by simp⟩ ?_
    cases d with
    | non => cases a <;> simp [B_same] at ga ⊢
    | bl b => cases a <;> simp [B_same] at ga ⊢
    | int b => cases a <;> simp [B_same] at ga ⊢
    | str b =>
      cases a with
      | str c => simp [B_same, good_str ga, good_str gd]
      | _ => simp [B_same] at ga ⊢
    | tup ys =>
      cases a with
      | tup xs =>
        simp [depD] at hdep
        simp at ga gd
        by_cases hl : xs.length = ys.length
        · have hb : (ys.length : Int) < 4611686018427387904 := by omega
          have hb2 : (-4611686018427387904 : Int) ≤ ys.length := by omega
          simp [B_same, hl, hb, hb2]
          refine wp_loop (fun k e => (∃ s, s.may = true ∧ e = [.sh (.tup xs), .sh (.tup ys), s]) ∧ ∀ (i : Nat) (x y : D), i < k → xs[i]? = some x → ys[i]? = some y → sameD x y = true) ⟨⟨.no, rfl, rfl⟩, fun i x y h => absurd h (Nat.not_lt_zero _)⟩ ?_ ?_
          · rintro k d e hk ⟨⟨s, hs, rfl⟩, hsame⟩ M hn - - hr
            obtain ⟨hk, rfl⟩ := rangeL_at hk
            obtain ⟨x, hx⟩ : ∃ x, xs[k]? = some x := ⟨_, List.getElem?_eq_getElem (by omega)⟩
            obtain ⟨y, hy⟩ : ∃ y, ys[k]? = some y := ⟨_, List.getElem?_eq_getElem (by omega)⟩
            have e1 := ih (good_at ga.2 hx) (good_at gd.2 hy) (dep_at hdep hy)
            have hx' : ixL xs ((0 : Int) + (k : Int)) = some x := by rw [Int.zero_add, ixL_nat]; exact hx
            have hy' : ixL ys ((0 : Int) + (k : Int)) = some y := by rw [Int.zero_add, ixL_nat]; exact hy
            simp [hs, ↓kO_of hx', ↓kO_of hy', ↓rt_of e1]
            cases hb : sameD x y with
            | false =>
              simp
              refine hr _ _ ?_
              simp
              cases e : sameDs xs ys with
              | false => rfl
              | true => rw [(sames_iff.mp e).2 k x y hx hy] at hb; cases hb
            | true =>
              simp
              refine hn _ ⟨⟨_, rfl, rfl⟩, fun i x' y' hi h1 h2 => ?_⟩
              by_cases hik : i = k
              · subst hik
                rw [hx] at h1; rw [hy] at h2
                cases h1; cases h2
                exact hb
              · exact hsame i x' y' (by omega) h1 h2
          · rintro e ⟨⟨s, hs, rfl⟩, hsame⟩
            simp
            refine sames_iff.mpr ⟨hl, fun i x y h1 h2 => hsame i x y ?_ h1 h2⟩
            have := (List.getElem?_eq_some_iff.mp h2).1
            simpa using this
        · have hl2 : ¬ ((xs.length : Int) = ys.length) := by omega
          have hl3 : decide ((xs.length : Int) = ys.length) = false := decide_eq_false hl2
          simp [B_same, hl, hl3, sames_len hl]
      | _ => simp [B_same] at ga ⊢
    | _ => simp [goodD] at gd
@[simp] theorem dep_int {i : Int} : depD (.int i) = 0 := by simp [depD]
@[simp] theorem dep_bl {i : Bool} : depD (.bl i) = 0 := by simp [depD]
@[simp] theorem dep_non : depD .non = 0 := by simp [depD]
@[simp] theorem dep_tup {xs : List D} : depD (.tup xs) = depDs xs + 1 := by simp [depD]
@[simp] theorem deps_nil : depDs [] = 0 := by simp [depDs]
@[simp] theorem deps_cons {x : D} {xs : List D} : depDs (x :: xs) = max (depD x) (depDs xs) := by simp [depDs]
@[simp] theorem deps_ints {xs : List Int} : depDs (xs.map D.int) = 0 := Nat.le_zero.mp (depDs_le.mpr fun x hx => by
  obtain ⟨i, _, rfl⟩ := List.mem_map.mp hx
  simp)
theorem sames_map {α : Type} [DecidableEq α] {f : α → D} (h : ∀ a b, sameD (f a) (f b) = decide (a = b)) : ∀ {as bs : List α}, sameDs (as.map f) (bs.map f) = decide (as = bs)
  | [], [] => by simp
  | [], _ :: _ => by simp
  | _ :: _, [] => by simp [sameDs]
  | a :: as, b :: bs => by
    simp only [List.map_cons, sames_cons, h, sames_map h, List.cons.injEq]
    by_cases h1 : a = b <;> by_cases h2 : as = bs <;> simp [h1, h2]
@[simp] theorem sames_ints {as bs : List Int} : sameDs (as.map D.int) (bs.map D.int) = decide (as = bs) := sames_map fun _ _ => same_int
theorem same_rt {p : Pg} {f : Nat} (hd : p.fd[f]? = some ⟨3, 2, B_same f⟩) {a d : D} {n : Nat} {Q : Val → List (Option (List D)) → Prop} (ga : goodD a = true) (gd : goodD d = true) (hn : depD d ≤ 8) : rt (run p (n + 9) f [.sh a, .sh d]) Q = Q (.sh (.bl (sameD a d))) [none, none] :=
  rt_of (same_run hd (n + 8) ga gd (by omega))
/-- two alike -/
theorem same_rtT {p : Pg} {f : Nat} (hd : p.fd[f]? = some ⟨3, 2, B_same f⟩) {a d : D} (e : a = d) {n : Nat} {Q : Val → List (Option (List D)) → Prop} (gd : goodD d = true) (hn : depD d ≤ 8) : rt (run p (n + 9) f [.sh a, .sh d]) Q = Q (.sh (.bl true)) [none, none] := by
  subst e
  rw [same_rt hd gd gd hn, same_refl gd]
end Lw
set_option linter.all false
set_option Elab.async false
set_option maxRecDepth 100000
set_option maxHeartbeats 4000000
namespace Lw
open PySem

/-! # places, again -/
section
variable {α β : Type}
@[simp ↓] theorem kO_ixMap {f : α → β} {xs : List α} {i : Int} {Q : β → Prop} : kO (ixL (xs.map f) i) Q = kO (ixL xs i) fun x => Q (f x) := by rw [ixL_map, kO_map]
@[simp ↓] theorem kO_ix0 {x : α} {xs : List α} {Q : α → Prop} : kO (ixL (x :: xs) 0) Q = Q x := by
  have : ixL (x :: xs) 0 = some x := by rw [show (0 : Int) = ((0 : Nat) : Int) from rfl, ixL_nat]; rfl
  exact kO_of this
@[simp ↓] theorem kO_ixNat {xs : List α} {i : Nat} {Q : α → Prop} : kO (ixL xs (i : Int)) Q = kO xs[i]? Q := by rw [ixL_nat]
@[simp ↓] theorem kO_ixLast {xs : List α} {Q : α → Prop} : kO (ixL xs (-1)) Q = kO xs.getLast? Q := by rw [ixL_last]
@[simp ↓] theorem kO_getMap {f : α → β} {xs : List α} {i : Nat} {Q : β → Prop} : kO (xs.map f)[i]? Q = kO xs[i]? fun x => Q (f x) := by rw [List.getElem?_map, kO_map]
@[simp ↓] theorem kO_lastMap {f : α → β} {xs : List α} {Q : β → Prop} : kO (xs.map f).getLast? Q = kO xs.getLast? fun x => Q (f x) := by rw [List.getLast?_map, kO_map]
@[simp ↓] theorem kO_lastApp {xs : List α} {x : α} {Q : α → Prop} : kO (xs ++ [x]).getLast? Q = Q x := by simp
@[simp ↓] theorem kO_ixPLast {n : Nat} {Q : Nat → Prop} : kO (ixP n (-1)) Q = (0 < n ∧ Q (n - 1)) := by
  unfold ixP
  rw [if_neg (by omega)]
  by_cases h : 0 < n
  · rw [if_pos (by omega), kO_some]
    simp only [h, true_and]
    congr 1
    omega
  · rw [if_neg (by omega), kO_none]
    simp [h]
@[simp ↓] theorem kO_ixPNat {n i : Nat} {Q : Nat → Prop} : kO (ixP n (i : Int)) Q = (i < n ∧ Q i) := by
  unfold ixP
  by_cases h : i < n
  · rw [if_pos (by omega), if_pos (by omega), kO_some]
    simp [h]
  · rw [if_pos (by omega), if_neg (by omega), kO_none]
    simp [h]
theorem ixP_neg {n k : Nat} (h : k < n) : ixP n (-(k + 1 : Int)) = some (n - 1 - k) := by
  unfold ixP
  rw [if_neg (by omega), if_pos (by omega)]
  congr 1
  omega
theorem rangeL0_at {n i : Nat} {d : D} (h : (rangeL 0 n)[i]? = some d) : i < n ∧ d = .int (i : Int) := by
  have := rangeL_at h
  rw [Int.zero_add] at this
  exact this
theorem map_at {f : α → β} {xs : List α} {i : Nat} {d : β} (h : (xs.map f)[i]? = some d) : ∃ x, xs[i]? = some x ∧ d = f x := by
  rw [List.getElem?_map] at h
  cases e : xs[i]? with
  | none => rw [e] at h; cases h
  | some x => rw [e] at h; cases h; exact ⟨x, rfl, rfl⟩
@[simp ↓] theorem kO_intsOf {ns : List Int} {Q : List Int → Prop} : kO (intsOf (ns.map D.int)) Q = Q ns := kO_of intsOf_map
@[simp ↓] theorem kO_blsOf {ns : List Bool} {Q : List Bool → Prop} : kO (blsOf (ns.map D.bl)) Q = Q ns := kO_of blsOf_map
theorem take_succ {xs : List α} {i : Nat} {x : α} (h : xs[i]? = some x) : xs.take (i + 1) = xs.take i ++ [x] := by
  rw [List.take_add_one, h]; rfl
end
/-- slices -/
theorem cut_map {α β : Type} {f : α → β} {xs : List α} {lo hi : Option Int} : cutL (xs.map f) lo hi = (cutL xs lo hi).map f := by
  unfold cutL
  rw [List.length_map, List.map_take, List.map_drop]
theorem clip_none {n d : Nat} : clipP n d none = d := rfl
theorem clip_nat {n d k : Nat} : clipP n d (some (k : Int)) = min k n := by
  show (if (k : Int) < 0 then ((k : Int) + n).toNat else min (k : Int).toNat n) = _
  rw [if_neg (by omega), Int.toNat_natCast]
theorem clip_m1 {n d : Nat} : clipP n d (some (-1)) = n - 1 := by
  show (if (-1 : Int) < 0 then ((-1 : Int) + n).toNat else min (-1 : Int).toNat n) = _
  rw [if_pos (by omega)]
  omega
theorem cut_take {α : Type} {xs : List α} {k : Nat} : cutL xs none (some (k : Int)) = xs.take k := by
  unfold cutL
  rw [clip_none, clip_nat, List.drop_zero, Nat.sub_zero]
  rcases Nat.le_total k xs.length with h | h
  · rw [Nat.min_eq_left h]
  · rw [Nat.min_eq_right h, List.take_of_length_le (Nat.le_refl _), List.take_of_length_le h]
theorem cut_drop {α : Type} {xs : List α} {k : Nat} : cutL xs (some (k : Int)) none = xs.drop k := by
  unfold cutL
  rw [clip_none, clip_nat]
  rcases Nat.le_total k xs.length with h | h
  · rw [Nat.min_eq_left h]
    exact List.take_of_length_le (by simp)
  · rw [Nat.min_eq_right h, List.drop_eq_nil_of_le h, List.drop_eq_nil_of_le (Nat.le_refl _)]; simp
theorem cut_mid {α : Type} {xs : List α} {i j : Nat} (h : i ≤ xs.length) : cutL xs (some (i : Int)) (some (j : Int)) = (xs.drop i).take (j - i) := by
  unfold cutL
  rw [clip_nat, clip_nat, Nat.min_eq_left h]
  rcases Nat.le_total j xs.length with h2 | h2
  · rw [Nat.min_eq_left h2]
  · rw [Nat.min_eq_right h2, List.take_of_length_le (by simp), List.take_of_length_le (by simp; omega)]
theorem cut_init {α : Type} {xs : List α} : cutL xs none (some (-1)) = xs.dropLast := by
  unfold cutL
  rw [clip_none, clip_m1, List.dropLast_eq_take, List.drop_zero, Nat.sub_zero]
theorem countP_ints {w : List Int} {x : Int} : (dInts w).countP (fun y => eqD y (.int x)) = w.count x := by
  rw [List.countP_map, List.count]
  exact List.countP_congr fun a _ => by simp
theorem repD_nat {α : Type} {x : α} {k : Nat} : repD [x] (k : Int) = List.replicate k x := by
  unfold repD
  rw [Int.toNat_natCast]
  induction k with
  | zero => rfl
  | succ k ih => rw [List.replicate_succ, List.flatten_cons, ih, List.replicate_succ]; rfl
@[simp ↓] theorem kO_intsCut {ns : List Int} {lo hi : Option Int} {Q : List Int → Prop} : kO (intsOf (cutL (ns.map D.int) lo hi)) Q = Q (cutL ns lo hi) := by
  rw [cut_map]
  exact kO_of intsOf_map
theorem len_cut {α : Type} {xs : List α} {lo hi : Option Int} : (cutL xs lo hi).length ≤ xs.length := by
  unfold cutL
  simp
  omega
theorem filterMap_if {α β : Type} {xs : List α} {c : α → Bool} {f : α → β} : (xs.filterMap fun x => if c x = true then some (f x) else none) = (xs.filter c).map f := by
  induction xs with
  | nil => rfl
  | cons x xs ih => by_cases h : c x = true <;> simp [h, ih]
theorem filterMap_some {α β : Type} {xs : List α} {f : α → β} : (xs.filterMap fun x => some (f x)) = xs.map f := by
  induction xs with
  | nil => rfl
  | cons x xs ih => simp [ih]
@[simp ↓ high] theorem count_tints {w : List Int} {x : Int} {Q : Val → Prop} : kO (methV .count (.tup (w.map D.int)) [.int x]) Q = Q (.sh (.int (w.count x))) := by
  rw [count_tup]
  have : okN 60 (.tup (w.map D.int)) = true := by
    rw [show (60 : Nat) = 59 + 1 from rfl, okN_tup]; simp
  rw [← countP_ints]
  simp [this]
@[simp ↓ high] theorem count_tcut {w : List Int} {x : Int} {lo hi : Option Int} {Q : Val → Prop} : kO (methV .count (.tup (cutL (w.map D.int) lo hi)) [.int x]) Q = Q (.sh (.int ((cutL w lo hi).count x))) := by
  rw [cut_map, count_tints]
@[simp ↓ high] theorem count_lints {w : List Int} {x : Int} {Q : Val → Prop} : kO (methV .count (.lst (w.map D.int)) [.int x]) Q = Q (.sh (.int (w.count x))) := by
  rw [count_lst]
  have : okN 60 (.lst (w.map D.int)) = true := by
    rw [show (60 : Nat) = 59 + 1 from rfl, okN_lst]; simp
  rw [← countP_ints]
  simp [this]
@[simp ↓] theorem kO_intsCons {x : Int} {xs : List D} {Q : List Int → Prop} : kO (intsOf (.int x :: xs)) Q = kO (intsOf xs) fun ns => Q (x :: ns) := by
  simp only [intsOf, kO_map]
@[simp ↓] theorem kO_intsTake {xs : List Int} {k : Nat} {Q : List Int → Prop} : kO (intsOf ((xs.map D.int).take k)) Q = Q (xs.take k) := by
  rw [← List.map_take]; exact kO_of intsOf_map
@[simp ↓] theorem kO_intsDrop {xs : List Int} {k : Nat} {Q : List Int → Prop} : kO (intsOf ((xs.map D.int).drop k)) Q = Q (xs.drop k) := by
  rw [← List.map_drop]; exact kO_of intsOf_map
/-! # comprehensions over what is known -/
theorem compM_eq {α : Type} {f : α → D} {ok : Env → Bool} {turn : D → Env → R (Option D)} {g : α → Option D} {env : Env} (hok : ok env = true) : ∀ {xs : List α} {acc : List D}, (∀ x ∈ xs, turn (f x) env = .ok (g x) env) → acc.length + xs.length ≤ 16777216 → compL ok turn (xs.map f) env acc = .ok (acc ++ xs.filterMap g) env
  | [], acc, _, _ => by simp [compL, hok]
  | d :: ds, acc, h, hl => by
    simp only [List.map_cons, compL, hok, if_true]
    rw [h d List.mem_cons_self]
    simp only [List.length_cons] at hl
    cases e : g d with
    | none =>
      dsimp only
      rw [compM_eq hok (fun x hx => h x (List.mem_cons_of_mem _ hx)) (by omega), List.filterMap_cons, e]
    | some y =>
      dsimp only
      rw [if_pos (by omega), compM_eq hok (fun x hx => h x (List.mem_cons_of_mem _ hx)) (by simp; omega), List.filterMap_cons, e]
      simp
theorem wp_compM {α : Type} {f : α → D} {p : Pg} {cl : Cl} {env : Env} {own : List Nat} {t : Tg} {c : Option E} {elt : E} {xs : List α} {Q : List D → Env → Prop} (g : α → Option D) (h : ∀ x ∈ xs, ∀ M : Option D → Env → Prop, M (g x) env → kTurn p cl own t c elt (f x) env M) (hl : xs.length ≤ 16777216) (hq : Q (xs.filterMap g) env) : wp (compR p cl own t c elt ⟨xs.map f, none⟩ env) Q := by
  have := compM_eq (f := f) (ok := Src.held ⟨xs.map f, none⟩) (turn := turnC own t (evC p cl c) (evE p cl elt)) (g := g) (env := env) rfl (xs := xs) (acc := []) (fun x hx => turn_eq (wp_turn ▸ h x hx _ ⟨rfl, rfl⟩)) (by simpa using hl)
  unfold compR
  rw [this]
  exact wp.in (by simpa using hq)
theorem wp_compR {p : Pg} {cl : Cl} {env : Env} {own : List Nat} {t : Tg} {c : Option E} {elt : E} {lo : Int} {n : Nat} {Q : List D → Env → Prop} (g : Nat → Option D) (h : ∀ k, k < n → ∀ M : Option D → Env → Prop, M (g k) env → kTurn p cl own t c elt (.int (lo + (k : Int))) env M) (hl : n ≤ 16777216) (hq : Q ((List.range n).filterMap g) env) : wp (compR p cl own t c elt ⟨rangeL lo n, none⟩ env) Q := by
  rw [rangeL_map]
  exact wp_compM g (fun x hx => h x (List.mem_range.mp hx)) (by simpa using hl) hq
theorem wp_compR0 {p : Pg} {cl : Cl} {env : Env} {own : List Nat} {t : Tg} {c : Option E} {elt : E} {n : Nat} {Q : List D → Env → Prop} (g : Nat → Option D) (h : ∀ k, k < n → ∀ M : Option D → Env → Prop, M (g k) env → kTurn p cl own t c elt (.int (k : Int)) env M) (hl : n ≤ 16777216) (hq : Q ((List.range n).filterMap g) env) : wp (compR p cl own t c elt ⟨rangeL 0 n, none⟩ env) Q :=
  wp_compR g (fun k hk M hM => by rw [Int.zero_add]; exact h k hk M hM) hl hq
theorem wp_compML {α : Type} {f : α → D} {p : Pg} {cl : Cl} {env : Env} {own : List Nat} {t : Tg} {c : Option E} {elt : E} {xs : List α} {i : Nat} {l : Bool} {Q : List D → Env → Prop} (g : α → Option D) (hi : env.at i = .own l (xs.map f)) (h : ∀ x ∈ xs, ∀ M : Option D → Env → Prop, M (g x) env → kTurn p cl own t c elt (f x) env M) (hl : xs.length ≤ 16777216) (hq : Q (xs.filterMap g) env) : wp (compR p cl own t c elt ⟨xs.map f, some (i, l)⟩ env) Q := by
  have := compM_eq (f := f) (ok := Src.held ⟨xs.map f, some (i, l)⟩) (turn := turnC own t (evC p cl c) (evE p cl elt)) (g := g) (env := env) (by simp [Src.held, hi]) (xs := xs) (acc := []) (fun x hx => turn_eq (wp_turn ▸ h x hx _ ⟨rfl, rfl⟩)) (by simpa using hl)
  unfold compR
  rw [this]
  exact wp.in (by simpa using hq)
/-- a pair of ints -/
abbrev pD (q : Int × Int) : D := .tup [.int q.1, .int q.2]
/-! # greatest common divisors -/
def eu : Nat → Nat → Nat → Nat
  | 0, a, _ => a
  | k + 1, a, b => if 0 < b then eu k b (a % b) else eu k a b
theorem eu_zero : ∀ (k a : Nat), eu k a 0 = a
  | 0, _ => rfl
  | k + 1, a => by rw [eu, if_neg (Nat.lt_irrefl 0), eu_zero k a]
theorem gcd_swap {a b : Nat} : Nat.gcd b (a % b) = Nat.gcd a b := by
  rw [Nat.gcd_comm a b, Nat.gcd_rec b a, Nat.gcd_comm]
theorem eu_gcd : ∀ (j k a b : Nat), b < 2 ^ j → 2 * j + 1 ≤ k → eu k a b = Nat.gcd a b
  | 0, k, a, b, hb, hk => by
    have : b = 0 := by simpa using hb
    subst this
    rw [eu_zero, Nat.gcd_zero_right]
  | j + 1, k, a, b, hb, hk => by
    obtain ⟨k, rfl⟩ : ∃ k', k = k' + 2 := ⟨k - 2, by omega⟩
    by_cases h : 0 < b
    · rw [eu, if_pos h]
      by_cases h2 : 0 < a % b
      · rw [eu, if_pos h2, eu_gcd j k (a % b) (b % (a % b)) ?_ (by omega), gcd_swap, gcd_swap]
        have h3 := Nat.mod_lt a h
        have h4 := Nat.mod_lt b h2
        have h5 := Nat.mod_add_div b (a % b)
        have h6 : 1 ≤ b / (a % b) := Nat.div_pos (Nat.le_of_lt h3) h2
        have h7 : a % b ≤ (a % b) * (b / (a % b)) := Nat.le_mul_of_pos_right _ h6
        rw [Nat.pow_succ] at hb
        omega
      · have h3 : a % b = 0 := by omega
        rw [h3, eu_zero, Nat.gcd_comm, Nat.gcd_rec, h3, Nat.gcd_zero_left]
    · have : b = 0 := by omega
      subst this
      rw [eu_zero, Nat.gcd_zero_right]
def B_gcd : List S := [
  .asgP [0, 1] [(.bi .abs [(.var 0)]), (.bi .abs [(.var 1)])],
  .for (.nm 2) (.rng [(.int 400)]) [
    .ife (.cmp .gt (.var 1) (.int 0)) [
      .asgP [0, 1] [(.var 1), (.bin .mod (.bi .int [(.var 0)]) (.var 1))]] []],
  .ret (.var 0)]
theorem gcd_run {p : Pg} {f : Nat} (hd : p.fd[f]? = some ⟨3, 2, B_gcd⟩) {a b : Int} (hb : b.natAbs < 2 ^ 190) (n : Nat) : run p (n + 1) f [.sh (.int a), .sh (.int b)] = .ok (.sh (.int (Int.gcd a b))) [none, none] := by
  apply rt_eq
  refine rt_def hd ⟨rfl, by decide⟩ ?_
  simp [B_gcd]
  refine wp_loop (fun k e => ∃ (s : Slot) (x y : Nat), s.may = true ∧ eu (400 - k) x y = Nat.gcd a.natAbs b.natAbs ∧ e = [.sh (.int x), .sh (.int y), s]) ⟨.no, a.natAbs, b.natAbs, rfl, eu_gcd 190 _ _ _ hb (by decide), by simp⟩ ?_ ?_
  · rintro k d e hk ⟨s, x, y, hs, he, rfl⟩ M hn - - -
    obtain ⟨hk2, rfl⟩ := rangeL0_at hk
    have e4 : 400 - k = (400 - (k + 1)) + 1 := by omega
    rw [e4, eu] at he
    simp [hs]
    by_cases h : 0 < y
    · rw [if_pos h] at he
      have hy : ¬ y = 0 := by omega
      simp [h, hy]
      refine hn _ ⟨.sh (.int k), y, x % y, rfl, he, ?_⟩
      rw [Int.fmod_eq_emod_of_nonneg _ (by omega)]
      simp
    · rw [if_neg h] at he
      have hy : y = 0 := by omega
      simp [h, hy]
      subst hy
      exact hn _ ⟨.sh (.int k), x, 0, rfl, he, rfl⟩
  · rintro e ⟨s, x, y, hs, he, rfl⟩
    simp [eu] at he
    simp [he, Int.gcd]
theorem small4000 {i : Int} (h : i.natAbs < 2 ^ 64) : i.natAbs < 2 ^ 4000 := Nat.lt_of_lt_of_le h (Nat.pow_le_pow_right (by decide) (by decide))
end Lw
set_option linter.all false
set_option Elab.async false
set_option maxRecDepth 100000
set_option maxHeartbeats 4000000
namespace Lw
open PySem
section
variable {α : Type} {a b c d e : α} {xs : List α} {Q : α → Prop}
theorem ixL_lit {xs : List α} {k : Nat} {x : α} (h : xs[k]? = some x) : ixL xs ((k : Nat) : Int) = some x := by rw [ixL_nat]; exact h
@[simp ↓] theorem kO_ix1 : kO (ixL (a :: b :: xs) 1) Q = Q b := kO_of (ixL_lit (k := 1) rfl)
@[simp ↓] theorem kO_ix2 : kO (ixL (a :: b :: c :: xs) 2) Q = Q c := kO_of (ixL_lit (k := 2) rfl)
@[simp ↓] theorem kO_ix3 : kO (ixL (a :: b :: c :: d :: xs) 3) Q = Q d := kO_of (ixL_lit (k := 3) rfl)
end
@[simp ↓] theorem kO_intsNil {Q : List Int → Prop} : kO (intsOf []) Q = Q [] := by simp [intsOf]
theorem wSs_app {p : Pg} {cl : Cl} {Q : Flow → Env → Prop} : ∀ {a b : List S} {env : Env}, wp (evSs p cl (a ++ b) env) Q = wp (evSs p cl a env) fun f e => kFlow f (wp (evSs p cl b e) Q) fun f => Q f e
  | [], b, env => by rw [List.nil_append, wSs_nil]; rfl
  | s :: a, b, env => by
    rw [List.cons_append, wSs_cons, wSs_cons]
    congr 1; funext f e
    cases f with
    | nxt => show wp (evSs p cl (a ++ b) e) Q = wp (evSs p cl a e) _; exact wSs_app
    | brk => rfl
    | cont => rfl
    | ret v => rfl
theorem take_nat {p : Pg} {f : Nat} (hd : p.fd[f]? = some ⟨2, 2, B_take⟩) (N : Nat) (hN : 0 < N) (ds : List Int) (m : Int) (hm : 0 < m) : ∃ v : Nat, (v : Int) < m ∧ run p N f [.loan (dInts ds), .sh (.int m)] = .ok (.sh (.int v)) [some (dInts ds.dropLast), none] := by
  obtain ⟨n, rfl⟩ : ∃ n, N = n + 1 := ⟨N - 1, by omega⟩
  have h := tk_range (ns := ds) (m := m) hm
  refine ⟨(tk ds m).toNat, by omega, ?_⟩
  rw [take_run hd (by omega), show (((tk ds m).toNat : Nat) : Int) = tk ds m by omega]
/-- pairs in order -/
abbrev qI (a b : Int) : D := .tup [.int a, .int b]
section
variable {a b c d : Int} {Q : Bool → Prop}
theorem ordV_pair {k : Bool} : ordV (qI a b) (qI c d) k = some k := ordV_ints (a := [a, b]) (b := [c, d])
@[simp ↓ high] theorem cmp_ltP : kO (cmpV .lt (qI a b) (qI c d)) Q = Q (decide (a < c ∨ (a = c ∧ b < d))) := by
  rw [← ltD_pair]; exact kO_of ordV_pair
@[simp ↓ high] theorem cmp_gtP : kO (cmpV .gt (qI a b) (qI c d)) Q = Q (decide (c < a ∨ (c = a ∧ d < b))) := by
  rw [← ltD_pair]; exact kO_of ordV_pair
@[simp ↓ high] theorem cmp_leP : kO (cmpV .le (qI a b) (qI c d)) Q = Q (decide (a < c ∨ (a = c ∧ b ≤ d))) := by
  have h : (!ltD (qI c d) (qI a b)) = decide (a < c ∨ (a = c ∧ b ≤ d)) := by
    rw [ltD_pair, ← decide_not]
    exact decide_eq_decide.mpr (by omega)
  rw [← h]; exact kO_of ordV_pair
@[simp ↓ high] theorem cmp_geP : kO (cmpV .ge (qI a b) (qI c d)) Q = Q (decide (c < a ∨ (c = a ∧ d ≤ b))) := by
  have h : (!ltD (qI a b) (qI c d)) = decide (c < a ∨ (c = a ∧ d ≤ b)) := by
    rw [ltD_pair, ← decide_not]
    exact decide_eq_decide.mpr (by omega)
  rw [← h]; exact kO_of ordV_pair
end
@[simp ↓] theorem maxL_pair {a b : Int} {Q : D → Prop} : kO (maxL [.int a, .int b]) Q = Q (.int (max a b)) := by
  rw [show [D.int a, D.int b] = [a, b].map D.int from rfl, maxL_ints]
  simp [maxI]
@[simp ↓] theorem minL_pair {a b : Int} {Q : D → Prop} : kO (minL [.int a, .int b]) Q = Q (.int (min a b)) := by
  rw [show [D.int a, D.int b] = [a, b].map D.int from rfl, minL_ints]
  simp [minI]
end Lw
set_option linter.all false
set_option Elab.async false
set_option maxRecDepth 100000
set_option maxHeartbeats 4000000
namespace Lw
open PySem
section
variable {p : Pg} {cl : Cl} {env : Env}
def kZip (v w : Val) (Q : Src → Prop) : Prop := match v, w with
  | .sh (.tup xs), .sh (.tup ys) => Q ⟨zipD xs ys, none⟩
  | _, _ => False
def kEnum (s : Src) (Q : Src → Prop) : Prop := match s with
  | ⟨xs, none⟩ => Q ⟨enumD 0 xs, none⟩
  | _ => False
@[simp ↓] theorem kZip_tup {xs ys : List D} {Q : Src → Prop} : kZip (.sh (.tup xs)) (.sh (.tup ys)) Q = Q ⟨zipD xs ys, none⟩ := rfl
@[simp ↓] theorem kEnum_none {xs : List D} {Q : Src → Prop} : kEnum ⟨xs, none⟩ Q = Q ⟨enumD 0 xs, none⟩ := rfl
@[simp ↓] theorem wI_zip {a b : E} {Q : Src → Env → Prop} : wp (evI p cl (.zip a b) env) Q = wp (evE p cl a env) fun v e1 => wp (evE p cl b e1) fun w e2 => kZip v w fun u => Q u e2 := by
  simp only [evI, wp_bind]
  congr 1; funext v e1; congr 1; funext w e2
  unfold kZip
  cases v with
  | sh d => cases w with
    | sh d2 => cases d <;> cases d2 <;> simp
    | fr _ => cases d <;> simp
    | bor _ => cases d <;> simp
  | fr _ => simp
  | bor _ => simp
@[simp ↓] theorem wE_ofR {b : BI} {a : E} {Q : Val → Env → Prop} : wp (evE p cl (.ofR b (.seq a)) env) Q = wp (evE p cl a env) fun v e => kRd v e fun d => kO (ofV b d) fun w => Q w e := by
  simp only [evE, wp_op1, kRd, kO]
@[simp ↓] theorem wI_enum {a : E} {Q : Src → Env → Prop} : wp (evI p cl (.enum a) env) Q = wp (evE p cl a env) fun v e1 => kSrc v e1 fun s => kEnum s fun u => Q u e1 := by
  simp only [evI, wp_bind]
  congr 1; funext v e1
  unfold kSrc kEnum
  cases h1 : srcOf v e1 with
  | none => simp
  | some s => obtain ⟨xs, l⟩ := s; cases l <;> simp
end
theorem zipD_ints {xs ys : List Int} : zipD (dInts xs) (dInts ys) = (xs.zip ys).map fun q => D.tup [.int q.1, .int q.2] := by
  unfold zipD
  rw [List.zip_map, List.map_map]
  rfl
/-- numbers -/
abbrev dN (ns : List Nat) : List D := ns.map fun n : Nat => D.int (n : Int)
abbrev tN (ns : List Nat) : D := .tup (ns.map fun n : Nat => D.int (n : Int))
theorem dN_ints (ns : List Nat) : dN ns = dInts (ns.map fun n : Nat => (n : Int)) := by simp [dN, dInts]
@[simp] theorem goods_N {xs : List Nat} : goodDs (xs.map fun n : Nat => D.int (n : Int)) = true := goods_map fun _ => good_int
@[simp] theorem deps_N {xs : List Nat} : depDs (xs.map fun n : Nat => D.int (n : Int)) = 0 := Nat.le_zero.mp (depDs_le.mpr fun x hx => by
  obtain ⟨n, _, rfl⟩ := List.mem_map.mp hx
  simp)
@[simp] theorem sames_N {as bs : List Nat} : sameDs (as.map fun n : Nat => D.int (n : Int)) (bs.map fun n : Nat => D.int (n : Int)) = decide (as = bs) := sames_map fun a b => by simp; omega
@[simp] theorem eqDs_N {as bs : List Nat} : eqDs (as.map fun n : Nat => D.int (n : Int)) (bs.map fun n : Nat => D.int (n : Int)) = decide (as = bs) := eqDs_map fun a b => by simp; omega
/-! ascending lists are told by their members -/
theorem asc_ext {α : Type} {lt : α → α → Prop} (irr : ∀ a, ¬ lt a a) (tr : ∀ a b c, lt a b → lt b c → lt a c) : ∀ {as bs : List α}, as.Pairwise lt → bs.Pairwise lt → (∀ x, x ∈ as ↔ x ∈ bs) → as = bs
  | [], [], _, _, _ => rfl
  | [], b :: bs, _, _, h => absurd ((h b).mpr List.mem_cons_self) (by simp)
  | a :: as, [], _, _, h => absurd ((h a).mp List.mem_cons_self) (by simp)
  | a :: as, b :: bs, pa, pb, h => by
    rw [List.pairwise_cons] at pa pb
    have e : a = b := by
      rcases List.mem_cons.mp ((h a).mp List.mem_cons_self) with e | m1
      · exact e
      · rcases List.mem_cons.mp ((h b).mpr List.mem_cons_self) with e | m2
        · exact e.symm
        · exact absurd (tr _ _ _ (pa.1 b m2) (pb.1 a m1)) (irr a)
    subst e
    rw [asc_ext irr tr pa.2 pb.2 fun x => ?_]
    constructor
    · intro hx
      rcases List.mem_cons.mp ((h x).mp (List.mem_cons_of_mem _ hx)) with e | m
      · exact absurd (e ▸ pa.1 x hx) (irr a)
      · exact m
    · intro hx
      rcases List.mem_cons.mp ((h x).mpr (List.mem_cons_of_mem _ hx)) with e | m
      · exact absurd (e ▸ pb.1 x hx) (irr a)
      · exact m
theorem asc_extN {as bs : List Nat} (ha : as.Pairwise (· < ·)) (hb : bs.Pairwise (· < ·)) (h : ∀ x, x ∈ as ↔ x ∈ bs) : as = bs :=
  asc_ext (fun a => Nat.lt_irrefl a) (fun _ _ _ => Nat.lt_trans) ha hb h
theorem asc_range {n : Nat} : (List.range n).Pairwise (· < ·) := List.pairwise_lt_range
theorem asc_fm {n : Nat} {c : Nat → Bool} {d : Nat} : ((List.range n).filterMap fun k => if c k = true then some (d + k) else none).Pairwise (· < ·) := by
  rw [List.pairwise_filterMap]
  refine asc_range.imp fun {a b} h x hx y hy => ?_
  split at hx <;> split at hy <;> cases hx <;> cases hy
  omega
theorem mem_fm {n : Nat} {c : Nat → Bool} {d x : Nat} : x ∈ ((List.range n).filterMap fun k => if c k = true then some (d + k) else none) ↔ d ≤ x ∧ x < d + n ∧ c (x - d) = true := by
  rw [List.mem_filterMap]
  constructor
  · rintro ⟨k, hk, h⟩
    have := List.mem_range.mp hk
    split at h
    · cases h; exact ⟨by omega, by omega, by rw [Nat.add_sub_cancel_left]; assumption⟩
    · cases h
  · rintro ⟨h1, h2, h3⟩
    exact ⟨x - d, List.mem_range.mpr (by omega), by rw [if_pos h3, Nat.add_sub_cancel' h1]⟩
theorem fold_maxN (xs : List Nat) (x : Nat) : (xs.map fun n : Nat => (n : Int)).foldl max (x : Int) = ((xs.foldl max x : Nat) : Int) := by
  induction xs generalizing x with
  | nil => rfl
  | cons y r ih => rw [List.map_cons, List.foldl_cons, List.foldl_cons, ← ih]; congr 1; omega
theorem fold_minN (xs : List Nat) (x : Nat) : (xs.map fun n : Nat => (n : Int)).foldl min (x : Int) = ((xs.foldl min x : Nat) : Int) := by
  induction xs generalizing x with
  | nil => rfl
  | cons y r ih => rw [List.map_cons, List.foldl_cons, List.foldl_cons, ← ih]; congr 1; omega
theorem maxL_N {x : Nat} {xs : List Nat} {Q : D → Prop} : kO (maxL (.int (x : Int) :: xs.map fun n : Nat => D.int (n : Int))) Q = Q (.int ((xs.foldl max x : Nat) : Int)) := by
  rw [show (D.int (x : Int) :: xs.map fun n : Nat => D.int (n : Int)) = ((x :: xs).map fun n : Nat => (n : Int)).map D.int by simp, maxL_ints]
  simp [maxI, fold_maxN]
theorem minL_N {x : Nat} {xs : List Nat} {Q : D → Prop} : kO (minL (.int (x : Int) :: xs.map fun n : Nat => D.int (n : Int))) Q = Q (.int ((xs.foldl min x : Nat) : Int)) := by
  rw [show (D.int (x : Int) :: xs.map fun n : Nat => D.int (n : Int)) = ((x :: xs).map fun n : Nat => (n : Int)).map D.int by simp, minL_ints]
  simp [minI, fold_minN]
theorem foldl_max_ge : ∀ (xs : List Nat) (a : Nat), a ≤ xs.foldl max a ∧ (∀ x ∈ xs, x ≤ xs.foldl max a) ∧ (xs.foldl max a = a ∨ xs.foldl max a ∈ xs)
  | [], a => ⟨Nat.le_refl _, by simp, .inl rfl⟩
  | x :: xs, a => by
    obtain ⟨h1, h2, h3⟩ := foldl_max_ge xs (max a x)
    rw [List.foldl_cons]
    refine ⟨by omega, fun y hy => ?_, ?_⟩
    · rcases List.mem_cons.mp hy with rfl | hy
      · omega
      · exact h2 y hy
    · rcases h3 with h3 | h3
      · rw [h3]
        rcases Nat.le_total a x with h | h
        · exact .inr (by rw [Nat.max_eq_right h]; exact List.mem_cons_self)
        · exact .inl (by rw [Nat.max_eq_left h])
      · exact .inr (List.mem_cons_of_mem _ h3)
theorem maxL_is {xs : List Nat} {m : Nat} {Q : D → Prop} (hm : m ∈ xs) (h : ∀ x ∈ xs, x ≤ m) : kO (maxL (xs.map fun n : Nat => D.int (n : Int))) Q = Q (.int (m : Int)) := by
  cases xs with
  | nil => simp at hm
  | cons x xs =>
    rw [List.map_cons, maxL_N]
    obtain ⟨h1, h2, h3⟩ := foldl_max_ge xs x
    have : xs.foldl max x = m := by
      apply Nat.le_antisymm
      · rcases h3 with h3 | h3
        · rw [h3]; exact h x List.mem_cons_self
        · exact h _ (List.mem_cons_of_mem _ h3)
      · rcases List.mem_cons.mp hm with rfl | hm
        · exact h1
        · exact h2 m hm
    rw [this]
theorem asc_min {x : Nat} {xs : List Nat} (h : (x :: xs).Pairwise (· < ·)) : xs.foldl min x = x := by
  replace h := (List.pairwise_cons.mp h).1
  induction xs with
  | nil => rfl
  | cons y r ih =>
    rw [List.foldl_cons, Nat.min_eq_left (Nat.le_of_lt (h y List.mem_cons_self))]
    exact ih fun z hz => h z (List.mem_cons_of_mem _ hz)
theorem inD_N {p : Int} {xs : List Nat} : inD (.int p) (xs.map fun n : Nat => D.int (n : Int)) = xs.any fun n => decide ((n : Int) = p) := by
  unfold inD
  rw [List.any_map]
  congr 1
theorem inD_ints {p : Int} {xs : List Int} : inD (.int p) (xs.map D.int) = xs.any fun n => decide (n = p) := by
  unfold inD
  rw [List.any_map]
  congr 1
theorem cut_takeI {α : Type} {xs : List α} {k : Int} (h : 0 ≤ k) : cutL xs none (some k) = xs.take k.toNat := by
  obtain ⟨n, rfl⟩ := Int.eq_ofNat_of_zero_le h
  exact cut_take
theorem cut_dropI {α : Type} {xs : List α} {k : Int} (h : 0 ≤ k) : cutL xs (some k) none = xs.drop k.toNat := by
  obtain ⟨n, rfl⟩ := Int.eq_ofNat_of_zero_le h
  exact cut_drop
theorem ixI {α : Type} {xs : List α} {k : Int} (h : 0 ≤ k) {Q : α → Prop} : kO (ixL xs k) Q = kO xs[k.toNat]? Q := by
  obtain ⟨n, rfl⟩ := Int.eq_ofNat_of_zero_le h
  exact kO_ixNat
theorem repD_get {α : Type} {q : List α} : ∀ {c i : Nat}, i < c * q.length → (repD q (c : Int))[i]? = q[i % q.length]?
  | 0, i, h => by simp at h
  | c + 1, i, h => by
    have e : repD q ((c + 1 : Nat) : Int) = q ++ repD q (c : Int) := by
      unfold repD
      rw [Int.toNat_natCast, Int.toNat_natCast, List.replicate_succ, List.flatten_cons]
    rw [e]
    rw [Nat.add_mul, Nat.one_mul] at h
    by_cases hi : i < q.length
    · rw [List.getElem?_append_left hi, Nat.mod_eq_of_lt hi]
    · rw [List.getElem?_append_right (by omega), repD_get (by omega), ← Nat.mod_eq_sub_mod (by omega)]
theorem fmodN {a b : Nat} : (a : Int).fmod (b : Int) = ((a % b : Nat) : Int) := by
  rw [Int.fmod_eq_emod_of_nonneg _ (by omega)]; omega
end Lw
set_option linter.all false
set_option Elab.async false
set_option maxRecDepth 100000
set_option maxHeartbeats 4000000
namespace Lw
open PySem
/-! # points: their order, sorted rows of them -/
def lexLt (p q : Int × Int) : Prop := p.1 < q.1 ∨ (p.1 = q.1 ∧ p.2 < q.2)
instance (a b : Int × Int) : Decidable (lexLt a b) := by unfold lexLt; exact inferInstance
theorem lexLt_irr (p : Int × Int) : ¬ lexLt p p := by unfold lexLt; omega
theorem lexLt_tr (p q r : Int × Int) (h : lexLt p q) (g : lexLt q r) : lexLt p r := by unfold lexLt at *; omega
abbrev Asc (ps : List (Int × Int)) : Prop := ps.Pairwise lexLt
theorem Asc.nodup {ps : List (Int × Int)} (h : Asc ps) : ps.Nodup := List.Pairwise.imp (S := (· ≠ ·)) (fun {a b} h e => lexLt_irr a (by rw [← e] at h; exact h)) h
theorem asc_eq {as bs : List (Int × Int)} (h : Asc as) (g : Asc bs) (e : ∀ p, p ∈ as ↔ p ∈ bs) : as = bs := asc_ext lexLt_irr lexLt_tr h g e
theorem pD_ints (ps : List (Int × Int)) : ps.map pD = (ps.map fun p => [p.1, p.2]).map tInts := by
  rw [List.map_map]
  rfl
theorem ltW2 {a b c d : Int} : ltW [a, b] [c, d] = decide (lexLt (a, b) (c, d)) := by
  have : [a, b] < [c, d] ↔ lexLt (a, b) (c, d) := by
    unfold lexLt
    rw [List.cons_lt_cons_iff, List.cons_lt_cons_iff]
    simp
  unfold ltW
  exact decide_eq_decide.mpr this
theorem dle_pair (a b : Int × Int) : PySem.W.dataLe false toPy (pD a) (pD b) = !ltW [b.1, b.2] [a.1, a.2] := by
  have e : ∀ p : Int × Int, toPy (pD p) = encW [p.1, p.2] := fun p => by
    show toPy (.tup [.int p.1, .int p.2]) = _
    simp only [toPy, toPys]
    rfl
  rw [PySem.W.dataLe_eq]
  show (!PySem.W.dataLt (toPy (pD b)) (toPy (pD a))) = _
  rw [e, e, encW_lt]
theorem sortL_pairs (ps : List (Int × Int)) : ∃ qs : List (Int × Int), sortL (ps.map pD) = some (qs.map pD) ∧ qs.Perm ps ∧ qs.Pairwise fun a b => ¬ lexLt b a := by
  let r : Int × Int → Int × Int → Bool := fun a b => !ltW [b.1, b.2] [a.1, a.2]
  have hr : ∀ a b, r a b = true ↔ ¬ lexLt b a := fun a b => by
    show (!ltW [b.1, b.2] [a.1, a.2]) = true ↔ _
    rw [ltW2]
    simp
  refine ⟨ps.mergeSort r, ?_, List.mergeSort_perm _ _, ?_⟩
  · unfold sortL
    have h1 : alkL (ps.map pD) = true := by rw [pD_ints]; exact alkL_words _
    have h2 : (ps.map pD).all netD = true := by
      rw [List.all_map, List.all_eq_true]
      intro p _
      rfl
    rw [h1, h2]
    simp only [Bool.true_or, Bool.and_self, if_true]
    rw [List.map_mergeSort (s := PySem.W.dataLe false toPy)]
    intro a _ b _
    exact (dle_pair a b).symm
  · have := List.pairwise_mergeSort (le := r) (fun a b c h g => by
      rw [hr] at *
      unfold lexLt at *
      omega) (fun a b => by
      rw [Bool.or_eq_true, hr, hr]
      unfold lexLt
      omega) ps
    exact this.imp fun h => (hr _ _).mp h
theorem sortL_asc {ps : List (Int × Int)} (h : ps.Nodup) : ∃ qs : List (Int × Int), sortL (ps.map pD) = some (qs.map pD) ∧ qs.Perm ps ∧ Asc qs := by
  obtain ⟨qs, e, pm, pw⟩ := sortL_pairs ps
  refine ⟨qs, e, pm, ?_⟩
  have nd : qs.Nodup := pm.symm.nodup h
  exact (pw.and nd).imp fun {a b} ⟨h1, h2⟩ => by
    unfold lexLt at *
    have : ¬ (a.1 = b.1 ∧ a.2 = b.2) := fun z => h2 (Prod.ext z.1 z.2)
    omega
/-! ## sorted(set(..)) -/
theorem usL_ints {ns : List Int} (h : ns.length < 64) : usL (ns.map .int) = some ((us ltI ns).map .int) := by
  unfold usL
  have e : intsOf (ns.map D.int) = some ns := by
    clear h
    induction ns with
    | nil => rfl
    | cons x r ih => rw [List.map_cons, intsOf, ih]; rfl
  rw [e]
  simp [h]
theorem mem_usI {ns : List Int} {y : Int} : y ∈ us ltI ns ↔ y ∈ ns := mem_us ltI_tri
theorem asc_usI (ns : List Int) : (us ltI ns).Pairwise (· < ·) := (asc_us ltI_tr ltI_tri ns).imp fun h => by simpa [ltI] using h
theorem usL_pairs {ps : List (Int × Int)} (h : ps.length < 64) : ∃ qs : List (Int × Int), usL (ps.map pD) = some (qs.map pD) ∧ Asc qs ∧ ∀ p, p ∈ qs ↔ p ∈ ps := by
  cases ps with
  | nil => exact ⟨[], rfl, .nil, fun _ => Iff.rfl⟩
  | cons a r =>
    have e1 : intsOf ((a :: r).map pD) = none := rfl
    have e2 : ∀ l : List (Int × Int), wordsOf (l.map pD) = some (l.map fun p => [p.1, p.2]) := fun l => by
      induction l with
      | nil => rfl
      | cons p l ih =>
        show (match intsOf [.int p.1, .int p.2], wordsOf (l.map pD) with
          | some w, some ws => some (w :: ws)
          | _, _ => none) = _
        rw [ih]
        rfl
    generalize a :: r = ps at *
    have hw : ∀ w ∈ us ltW (ps.map fun p => [p.1, p.2]), ∃ p ∈ ps, w = [p.1, p.2] := fun w hw => by
      rw [mem_us ltW_tri] at hw
      obtain ⟨p, hp, rfl⟩ := List.mem_map.mp hw
      exact ⟨p, hp, rfl⟩
    have as := asc_us ltW_tr ltW_tri (ps.map fun p => [p.1, p.2])
    refine ⟨(us ltW (ps.map fun p => [p.1, p.2])).map fun w => (w.getD 0 0, w.getD 1 0), ?_, ?_, ?_⟩
    · unfold usL
      rw [e1, e2]
      have h1 : ((ps.map fun p => [p.1, p.2]).all fun w => !w.isEmpty) = true := by
        rw [List.all_map, List.all_eq_true]
        intro p _
        rfl
      have h2 : (ps.map fun p => [p.1, p.2]).length < 64 := by rw [List.length_map]; exact h
      dsimp only
      rw [if_pos ⟨h2, h1⟩, List.map_map]
      congr 1
      apply List.map_congr_left
      intro w hw'
      obtain ⟨p, _, rfl⟩ := hw w hw'
      rfl
    · rw [Asc, List.pairwise_map]
      refine List.Pairwise.imp_of_mem (fun {w v} h1 h2 h => ?_) as
      obtain ⟨p, _, rfl⟩ := hw w h1
      obtain ⟨q, _, rfl⟩ := hw v h2
      rw [ltW2] at h
      simpa using h
    · intro p
      constructor
      · intro hp
        obtain ⟨w, h1, rfl⟩ := List.mem_map.mp hp
        obtain ⟨q, h2, rfl⟩ := hw w h1
        exact h2
      · intro hp
        exact List.mem_map.mpr ⟨[p.1, p.2], (mem_us ltW_tri).mpr (List.mem_map.mpr ⟨p, hp, rfl⟩), rfl⟩
@[simp ↓] theorem ofV_lst {xs : List D} {Q : Val → Prop} : kO (ofV .sorted (.lst xs)) Q = kO (usL xs) fun d => Q (.fr d) := by simp only [ofV, kO_map]
@[simp ↓] theorem ofV_tup {xs : List D} {Q : Val → Prop} : kO (ofV .sorted (.tup xs)) Q = kO (usL xs) fun d => Q (.fr d) := by simp only [ofV, kO_map]
/-! ## least, greatest -/
theorem foldmin_le : ∀ (r : List Int) (x : Int), r.foldl min x ≤ x ∧ (∀ y ∈ r, r.foldl min x ≤ y) ∧ (r.foldl min x = x ∨ r.foldl min x ∈ r)
  | [], x => ⟨Int.le_refl _, fun _ h => (nomatch h), .inl rfl⟩
  | y :: r, x => by
    obtain ⟨h1, h2, h3⟩ := foldmin_le r (min x y)
    rw [List.foldl_cons]
    refine ⟨by omega, fun z hz => ?_, ?_⟩
    · rcases List.mem_cons.mp hz with rfl | hz
      · omega
      · exact h2 z hz
    · rcases h3 with h | h
      · rcases Int.le_total x y with h' | h'
        · left; rw [h]; omega
        · right; rw [h]; simp; left; omega
      · exact .inr (List.mem_cons_of_mem _ h)
theorem foldmax_le : ∀ (r : List Int) (x : Int), x ≤ r.foldl max x ∧ (∀ y ∈ r, y ≤ r.foldl max x) ∧ (r.foldl max x = x ∨ r.foldl max x ∈ r)
  | [], x => ⟨Int.le_refl _, fun _ h => (nomatch h), .inl rfl⟩
  | y :: r, x => by
    obtain ⟨h1, h2, h3⟩ := foldmax_le r (max x y)
    rw [List.foldl_cons]
    refine ⟨by omega, fun z hz => ?_, ?_⟩
    · rcases List.mem_cons.mp hz with rfl | hz
      · omega
      · exact h2 z hz
    · rcases h3 with h | h
      · rcases Int.le_total y x with h' | h'
        · left; rw [h]; omega
        · right; rw [h]; simp; left; omega
      · exact .inr (List.mem_cons_of_mem _ h)
theorem minI_is {ns : List Int} (h : ns ≠ []) : ∃ m, minI ns = some m ∧ m ∈ ns ∧ ∀ x ∈ ns, m ≤ x := by
  cases ns with
  | nil => exact absurd rfl h
  | cons x r =>
    obtain ⟨h1, h2, h3⟩ := foldmin_le r x
    refine ⟨_, rfl, ?_, fun y hy => ?_⟩
    · rcases h3 with h | h
      · rw [h]; exact List.mem_cons_self
      · exact List.mem_cons_of_mem _ h
    · rcases List.mem_cons.mp hy with rfl | hy
      · exact h1
      · exact h2 y hy
theorem maxI_is {ns : List Int} (h : ns ≠ []) : ∃ m, maxI ns = some m ∧ m ∈ ns ∧ ∀ x ∈ ns, x ≤ m := by
  cases ns with
  | nil => exact absurd rfl h
  | cons x r =>
    obtain ⟨h1, h2, h3⟩ := foldmax_le r x
    refine ⟨_, rfl, ?_, fun y hy => ?_⟩
    · rcases h3 with h | h
      · rw [h]; exact List.mem_cons_self
      · exact List.mem_cons_of_mem _ h
    · rcases List.mem_cons.mp hy with rfl | hy
      · exact h1
      · exact h2 y hy
@[simp ↓] theorem maxL_three {a b c : Int} {Q : D → Prop} : kO (maxL [.int a, .int b, .int c]) Q = Q (.int (max a (max b c))) := by
  have := @maxL_ints [a, b, c] Q
  exact this.trans (by rw [show maxI [a, b, c] = some (max (max a b) c) from rfl, kO_some, show max (max a b) c = max a (max b c) by omega])
@[simp ↓] theorem minL_three {a b c : Int} {Q : D → Prop} : kO (minL [.int a, .int b, .int c]) Q = Q (.int (min a (min b c))) := by
  have := @minL_ints [a, b, c] Q
  exact this.trans (by rw [show minI [a, b, c] = some (min (min a b) c) from rfl, kO_some, show min (min a b) c = min a (min b c) by omega])
theorem inD_pts {p : Int × Int} {ps : List (Int × Int)} : inD (pD p) (ps.map pD) = decide (p ∈ ps) := by
  induction ps with
  | nil => simp [inD]
  | cons q r ih =>
    unfold inD at ih ⊢
    rw [List.map_cons, List.any_cons, ih]
    obtain ⟨x, y⟩ := p
    obtain ⟨u, v⟩ := q
    rw [Bool.eq_iff_iff]
    simp
    constructor
    · rintro (⟨h1, h2⟩ | h)
      · exact .inl ⟨h1.symm, h2.symm⟩
      · exact .inr h
    · rintro (⟨h1, h2⟩ | h)
      · exact .inl ⟨h1.symm, h2.symm⟩
      · exact .inr h
end Lw
namespace Lw
open PySem
/-- a loop over a list that is lent -/
theorem wp_loopO {p : Pg} {cl : Cl} {env : Env} {t : Tg} {b : List S} {ds : List D} {i : Nat} {l : Bool} {Q : Flow → Env → Prop} (I : Nat → Env → Prop) (h0 : I 0 env) (ha : ∀ k e, k ≤ ds.length → I k e → e.at i = .own l ds)
    (hs : ∀ k d e, ds[k]? = some d → I k e → ∀ M : Flow → Env → Prop, (∀ e', I (k + 1) e' → M .nxt e') → (∀ e', I (k + 1) e' → M .cont e') → (∀ e', Q .nxt e' → M .brk e') → (∀ v e', Q (.ret v) e' → M (.ret v) e') → kBindD t d e fun e => wp (evSs p cl b e) M)
    (hend : ∀ e, I ds.length e → Q .nxt e) : wp (loopR p cl t b ⟨ds, some (i, l)⟩ env) Q := by
  refine wp_forL I h0 (fun k e h hi => by simp [Src.held, ha k e h hi]) (fun k d e hd hi => ?_) hend
  obtain ⟨e2, h1, h2⟩ := hs k d e hd hi (fun f e' => match f with
      | .nxt => I (k + 1) e'
      | .cont => I (k + 1) e'
      | .brk => Q .nxt e'
      | .ret v => Q (.ret v) e') (fun _ h => h) (fun _ h => h) (fun _ h => h) (fun _ _ h => h)
  rw [h1]
  exact h2
end Lw
namespace Lw
open PySem
/-! # a row that is given as a tuple, as a list, or lent -/
def Isl (s : Slot) (lk : Option (Nat × Bool)) (xs : List D) : Prop := (s = .sh (.lst xs) ∧ lk = none) ∨ (s = .sh (.tup xs) ∧ lk = none) ∨ (s = .own true xs ∧ lk = some (0, true))
section
variable {p : Pg} {cl : Cl} {s : Slot} {lk : Option (Nat × Bool)} {xs : List D} {env : Env}
theorem Isl.src (h : Isl s lk xs) {Q : Src → Env → Prop} : wp (evI p cl (.seq (.var 0)) (s :: env)) Q = Q ⟨xs, lk⟩ (s :: env) := by
  rcases h with ⟨rfl, rfl⟩ | ⟨rfl, rfl⟩ | ⟨rfl, rfl⟩ <;> simp
theorem Isl.keep (h : Isl s lk xs) {e : Env} {Q : Src → Env → Prop} : kKeep ⟨xs, lk⟩ e Q = Q ⟨xs, lk⟩ e := by
  rcases h with ⟨rfl, rfl⟩ | ⟨rfl, rfl⟩ | ⟨rfl, rfl⟩ <;> simp
theorem Isl.loop (h : Isl s lk xs) {t : Tg} {b : List S} {e0 : Env} {Q : Flow → Env → Prop} (I : Nat → Env → Prop) (h0 : I 0 e0) (ha : ∀ k e, I k e → ∃ r, e = s :: r)
    (hs : ∀ k d e, xs[k]? = some d → I k e → ∀ M : Flow → Env → Prop, (∀ e', I (k + 1) e' → M .nxt e') → (∀ e', I (k + 1) e' → M .cont e') → (∀ e', Q .nxt e' → M .brk e') → (∀ v e', Q (.ret v) e' → M (.ret v) e') → kBindD t d e fun e => wp (evSs p cl b e) M)
    (hend : ∀ e, I xs.length e → Q .nxt e) : wp (loopR p cl t b ⟨xs, lk⟩ e0) Q := by
  rcases h with ⟨rfl, rfl⟩ | ⟨rfl, rfl⟩ | ⟨rfl, rfl⟩
  · exact wp_loop I h0 hs hend
  · exact wp_loop I h0 hs hend
  · exact wp_loopO I h0 (fun k e _ hi => by obtain ⟨r, rfl⟩ := ha k e hi; rfl) hs hend
theorem Isl.comp {α : Type} {f : α → D} {ys : List α} (h : Isl s lk (ys.map f)) {own : List Nat} {t : Tg} {c : Option E} {elt : E} {Q : List D → Env → Prop} (g : α → Option D) (hg : ∀ x ∈ ys, ∀ M : Option D → Env → Prop, M (g x) (s :: env) → kTurn p cl own t c elt (f x) (s :: env) M) (hl : ys.length ≤ 16777216) (hq : Q (ys.filterMap g) (s :: env)) : wp (compR p cl own t c elt ⟨ys.map f, lk⟩ (s :: env)) Q := by
  rcases h with ⟨rfl, rfl⟩ | ⟨rfl, rfl⟩ | ⟨rfl, rfl⟩
  · exact wp_compM g hg hl hq
  · exact wp_compM g hg hl hq
  · exact wp_compML g rfl hg hl hq
end
end Lw
set_option linter.all false
set_option Elab.async false
set_option maxRecDepth 100000
set_option maxHeartbeats 4000000
namespace Lw
open PySem
section
variable {α : Type} {a b c d e f g h : α} {xs : List α} {Q : α → Prop}
@[simp ↓] theorem kO_ix4 : kO (ixL (a :: b :: c :: d :: e :: xs) 4) Q = Q e := kO_of (ixL_lit (k := 4) rfl)
@[simp ↓] theorem kO_ix5 : kO (ixL (a :: b :: c :: d :: e :: f :: xs) 5) Q = Q f := kO_of (ixL_lit (k := 5) rfl)
@[simp ↓] theorem kO_ix6 : kO (ixL (a :: b :: c :: d :: e :: f :: g :: xs) 6) Q = Q g := kO_of (ixL_lit (k := 6) rfl)
@[simp ↓] theorem kO_ix7 : kO (ixL (a :: b :: c :: d :: e :: f :: g :: h :: xs) 7) Q = Q h := kO_of (ixL_lit (k := 7) rfl)
end
/-! # a row that stands in a slot: as it was made, or kept -/
def Rw (s : Slot) (xs : List D) : Prop := s = .own false xs ∨ s = .sh (.lst xs) ∨ s = .sh (.tup xs)
def shd : Slot → Slot
  | .own false xs => .sh (.lst xs)
  | s => s
section
variable {s : Slot} {xs : List D} {p : Pg} {cl : Cl} {env : Env} {i : Nat}
theorem Rw.own : Rw (.own false xs) xs := .inl rfl
theorem Rw.lst : Rw (.sh (.lst xs)) xs := .inr (.inl rfl)
theorem Rw.tup : Rw (.sh (.tup xs)) xs := .inr (.inr rfl)
theorem Rw.shd (h : Rw s xs) : Rw (shd s) xs := by
  rcases h with rfl | rfl | rfl
  · exact .lst
  · exact .lst
  · exact .tup
theorem Rw.may (h : Rw s xs) : s.may = true := by
  rcases h with rfl | rfl | rfl <;> rfl
theorem Rw.mayS (h : Rw s xs) : (Lw.shd s).may = true := h.shd.may
theorem if_not_and {P Q : Prop} [Decidable P] [Decidable Q] {α : Sort _} {a b : α} : (if ¬ P ∨ ¬ Q then a else b) = if P ∧ Q then b else a := by
  by_cases h1 : P <;> by_cases h2 : Q <;> simp [h1, h2]
theorem wp_is {α : Type} {r : R α} {a : α} {e : Env} (h : wp r fun v e' => v = a ∧ e' = e) (M : α → Env → Prop) : wp r M = M a e := by
  obtain ⟨v, e', rfl, rfl, rfl⟩ := h
  rw [wp_ok]
theorem lc_row {α : Type} {f : α → D} {ys : List α} (h : Rw s (ys.map f)) (hs : env.at i = s) {own : List Nat} {t : Tg} {c : Option E} {elt : E} {Q : Val → Env → Prop} (g : α → Option D) (hg : ∀ x ∈ ys, ∀ M : Option D → Env → Prop, M (g x) env → kTurn p cl own t c elt (f x) env M) (hl : ys.length ≤ 16777216) (hq : Q (.fr (ys.filterMap g)) env) : wp (evE p cl (.lc elt t (.seq (.var i)) c own) env) Q := by
  subst hs
  rw [wE_lc, wI_seq, xE_var]
  rcases h with e | e | e
  · simp only [e]
    rw [kSrc_bor]
    unfold kAt
    simp only [e]
    exact wp_compML g e hg hl hq
  · simp only [e]
    rw [kSrc_sh]
    simp
    exact wp_compM g hg hl hq
  · simp only [e]
    rw [kSrc_sh]
    simp
    exact wp_compM g hg hl hq
theorem set_at {env : Env} {i : Nat} {s : Slot} (h : env.at i = s) (h0 : s ≠ .no) : env.set i s = env := by
  induction env generalizing i with
  | nil => rfl
  | cons a r ih =>
    cases i with
    | zero => subst h; rfl
    | succ i =>
      show a :: List.set r i s = a :: r
      rw [ih h]
theorem for_row (h : Rw s xs) (hs : env.at i = s) {t : Tg} {b : List S} {Q : Flow → Env → Prop} (hq : wp (loopR p cl t b ⟨xs, none⟩ (env.set i (Lw.shd s))) Q) : wp (evS p cl (.for t (.seq (.var i)) b) env) Q := by
  subst hs
  rw [wS_for, wI_seq, xE_var]
  rcases h with e | e | e
  · simp only [e] at hq ⊢
    rw [kSrc_bor]
    unfold kAt
    simp only [e]
    exact hq
  · simp only [e] at hq ⊢
    rw [kSrc_sh]
    simp
    have : env.set i (Lw.shd (.sh (.lst xs))) = env := set_at e (by simp [Lw.shd])
    rw [this] at hq
    exact hq
  · simp only [e] at hq ⊢
    rw [kSrc_sh]
    simp
    have : env.set i (Lw.shd (.sh (.tup xs))) = env := set_at e (by simp [Lw.shd])
    rw [this] at hq
    exact hq
end
end Lw
namespace Lw
open PySem
/-! # the least point of a row, the place of a point -/
theorem minL_pts {ps : List (Int × Int)} (h : ps ≠ []) : ∃ m, minL (ps.map pD) = some (pD m) ∧ m ∈ ps ∧ ∀ q ∈ ps, ¬ lexLt q m := by
  have h1 : alkL (ps.map pD) = true := by rw [pD_ints]; exact alkL_words _
  unfold minL
  rw [if_pos h1]
  cases ps with
  | nil => exact absurd rfl h
  | cons a r =>
    show ∃ m, some ((r.map pD).foldl (fun a y => if ltD y a then y else a) (pD a)) = some (pD m) ∧ _
    clear h h1
    have key : ∀ (r : List (Int × Int)) (a : Int × Int), ∃ m, (r.map pD).foldl (fun a y => if ltD y a then y else a) (pD a) = pD m ∧ m ∈ a :: r ∧ ∀ q ∈ a :: r, ¬ lexLt q m := by
      intro r
      induction r with
      | nil => intro a; exact ⟨a, rfl, by simp, fun q hq => by rw [List.mem_singleton.mp hq]; exact lexLt_irr a⟩
      | cons b r ih =>
        intro a
        have e : ltD (pD b) (pD a) = decide (lexLt b a) := by
          have := @ltD_pair b.1 b.2 a.1 a.2
          exact this
        rw [List.map_cons, List.foldl_cons, e]
        by_cases c : lexLt b a
        · obtain ⟨m, e1, m1, m2⟩ := ih b
          rw [if_pos (by simpa using c)]
          refine ⟨m, e1, List.mem_cons_of_mem _ m1, fun q hq => ?_⟩
          rcases List.mem_cons.mp hq with rfl | hq
          · intro g
            exact m2 b (by simp) (lexLt_tr _ _ _ c g)
          · exact m2 q hq
        · obtain ⟨m, e1, m1, m2⟩ := ih a
          rw [if_neg (by simpa using c)]
          refine ⟨m, e1, ?_, fun q hq => ?_⟩
          · rcases List.mem_cons.mp m1 with rfl | m1
            · simp
            · exact List.mem_cons_of_mem _ (List.mem_cons_of_mem _ m1)
          · rcases List.mem_cons.mp hq with rfl | hq
            · exact m2 q (by simp)
            · rcases List.mem_cons.mp hq with rfl | hq
              · intro g
                have ma := m2 a (by simp)
                unfold lexLt at *
                omega
              · exact m2 q (List.mem_cons_of_mem _ hq)
    obtain ⟨m, e, h1, h2⟩ := key r a
    exact ⟨m, by rw [e], h1, h2⟩
theorem eqD_pt {a b : Int × Int} : eqD (pD a) (pD b) = decide (a = b) := by
  rw [Bool.eq_iff_iff]
  obtain ⟨x, y⟩ := a
  obtain ⟨u, v⟩ := b
  simp [pD]
theorem index_pts {ps : List (Int × Int)} {m : Int × Int} {i : Nat} (nd : ps.Nodup) (h : ps[i]? = some m) : (ps.map pD).findIdx? (fun y => eqD y (pD m)) = some i := by
  have hi := (List.getElem?_eq_some_iff.mp h).1
  have hm := (List.getElem?_eq_some_iff.mp h).2
  rw [List.findIdx?_eq_some_iff_getElem]
  refine ⟨by simpa using hi, ?_, fun j hj => ?_⟩
  · rw [List.getElem_map, eqD_pt, hm]; simp
  · rw [List.getElem_map, eqD_pt]
    simp only [decide_eq_true_eq]
    intro e
    rw [← hm] at e
    exact absurd e (List.pairwise_iff_getElem.mp nd j i (by omega) hi hj)
end Lw
namespace Lw
open PySem
theorem eqDs_pts {as bs : List (Int × Int)} : eqDs (as.map pD) (bs.map pD) = decide (as = bs) := eqDs_map fun a b => by
  rw [Bool.eq_iff_iff]
  obtain ⟨x, y⟩ := a
  obtain ⟨u, v⟩ := b
  simp [pD]
theorem good_pts {as : List (Int × Int)} : goodDs (as.map pD) = true := goods_map fun a => by simp [pD]
theorem dep_pts {as : List (Int × Int)} : depDs (as.map pD) ≤ 1 := depDs_le.mpr fun x hx => by
  obtain ⟨n, _, rfl⟩ := List.mem_map.mp hx
  show depD (.tup [.int n.1, .int n.2]) ≤ 1
  simp [depD, depDs]
theorem okN_pts {as : List (Int × Int)} {n : Nat} : okN (n + 2) (.tup (as.map pD)) = true := by
  rw [okN_tup, List.all_map, List.all_eq_true]
  intro p _
  simp [pD, okN_tup]
theorem sames_pts {as bs : List (Int × Int)} : sameDs (as.map pD) (bs.map pD) = decide (as = bs) := sames_map fun a b => by
  rw [Bool.eq_iff_iff]
  obtain ⟨x, y⟩ := a
  obtain ⟨u, v⟩ := b
  simp [pD]
end Lw
namespace Lw
open PySem
theorem sortL_self {S : List (Int × Int)} (h : Asc S) : sortL (S.map pD) = some (S.map pD) := by
  obtain ⟨qs, e, pm, as⟩ := sortL_asc h.nodup
  rw [e, asc_eq as h fun p => pm.mem_iff]
end Lw
set_option linter.all false
set_option Elab.async false
set_option maxRecDepth 100000
set_option maxHeartbeats 4000000
namespace Lw
/-! # points, turns, which points are between the chords of a shape -/
abbrev P2 := Int × Int
/-- the turn -/
def ar (a b c : P2) : Int := (b.1 - a.1) * (c.2 - a.2) - (b.2 - a.2) * (c.1 - a.1)
theorem ar_rot (a b c : P2) : ar b c a = ar a b c := by unfold ar; grind
theorem ar_rot2 (a b c : P2) : ar c a b = ar a b c := by unfold ar; grind
theorem ar_swap (a b c : P2) : ar b a c = - ar a b c := by unfold ar; grind
theorem ar_rev (a b c : P2) : ar c b a = - ar a b c := by unfold ar; grind
theorem ar_end (a b c : P2) : ar a c b = - ar a b c := by unfold ar; grind
theorem ar_aab (a b : P2) : ar a a b = 0 := by unfold ar; grind
theorem ar_aba (a b : P2) : ar a b a = 0 := by unfold ar; grind
theorem ar_abb (a b : P2) : ar a b b = 0 := by unfold ar; grind
theorem ar_sum (a b c p : P2) : ar a b p + ar b c p + ar c a p = ar a b c := by unfold ar; grind
theorem bary_x (a b c p : P2) : (p.1 - b.1) * ar c a p + (p.1 - c.1) * ar a b p + (p.1 - a.1) * ar b c p = 0 := by unfold ar; grind
theorem bary_y (a b c p : P2) : (p.2 - b.2) * ar c a p + (p.2 - c.2) * ar a b p + (p.2 - a.2) * ar b c p = 0 := by unfold ar; grind
/-- a point above or below a chord -/
theorem ar_mix (u v p : P2) : ar u v p = (v.1 - p.1) * (p.2 - u.2) + (p.1 - u.1) * (p.2 - v.2) := by unfold ar; grind
theorem ar_at {u v p : P2} (h : p.1 = v.1) : ar u v p = (v.1 - u.1) * (p.2 - v.2) := by unfold ar; rw [h]; grind
theorem ar_at1 {u v p : P2} (h : p.1 = u.1) : ar u v p = (v.1 - u.1) * (p.2 - u.2) := by unfold ar; rw [h]; grind
theorem pos_ge {k z : Int} (h : 0 < k) : 0 ≤ k * z ↔ 0 ≤ z := ⟨fun g => Int.nonneg_of_mul_nonneg_right g h, fun g => Int.mul_nonneg (by omega) g⟩
theorem pos_le {k z : Int} (h : 0 < k) : k * z ≤ 0 ↔ z ≤ 0 := by
  have := @pos_ge k (-z) h
  rw [Int.mul_neg] at this
  omega
/-- above some chord of S, or on it -/
def abv (S : List P2) (p : P2) : Prop := (∃ u ∈ S, u.1 = p.1 ∧ u.2 ≤ p.2) ∨ ∃ u ∈ S, ∃ v ∈ S, u.1 < p.1 ∧ p.1 < v.1 ∧ 0 ≤ ar u v p
def blw (S : List P2) (p : P2) : Prop := (∃ u ∈ S, u.1 = p.1 ∧ p.2 ≤ u.2) ∨ ∃ u ∈ S, ∃ v ∈ S, u.1 < p.1 ∧ p.1 < v.1 ∧ ar u v p ≤ 0
theorem abv_y {S : List P2} {p : P2} (h : abv S p) : ∃ u ∈ S, u.2 ≤ p.2 := by
  rcases h with ⟨u, hu, _, h⟩ | ⟨u, hu, v, hv, h1, h2, h3⟩
  · exact ⟨u, hu, h⟩
  · rw [ar_mix] at h3
    by_cases g : u.2 ≤ p.2
    · exact ⟨u, hu, g⟩
    · by_cases g2 : v.2 ≤ p.2
      · exact ⟨v, hv, g2⟩
      · exfalso
        have e1 : (v.1 - p.1) * (p.2 - u.2) < 0 := Int.mul_neg_of_pos_of_neg (by omega) (by omega)
        have e2 : (p.1 - u.1) * (p.2 - v.2) < 0 := Int.mul_neg_of_pos_of_neg (by omega) (by omega)
        omega
theorem blw_y {S : List P2} {p : P2} (h : blw S p) : ∃ u ∈ S, p.2 ≤ u.2 := by
  rcases h with ⟨u, hu, _, h⟩ | ⟨u, hu, v, hv, h1, h2, h3⟩
  · exact ⟨u, hu, h⟩
  · rw [ar_mix] at h3
    by_cases g : p.2 ≤ u.2
    · exact ⟨u, hu, g⟩
    · by_cases g2 : p.2 ≤ v.2
      · exact ⟨v, hv, g2⟩
      · exfalso
        have e1 : 0 < (v.1 - p.1) * (p.2 - u.2) := Int.mul_pos (by omega) (by omega)
        have e2 : 0 < (p.1 - u.1) * (p.2 - v.2) := Int.mul_pos (by omega) (by omega)
        omega
theorem abv_x {S : List P2} {p : P2} (h : abv S p) : (∃ u ∈ S, u.1 ≤ p.1) ∧ ∃ u ∈ S, p.1 ≤ u.1 := by
  rcases h with ⟨u, hu, e, h⟩ | ⟨u, hu, v, hv, h1, h2, h3⟩
  · exact ⟨⟨u, hu, by omega⟩, u, hu, by omega⟩
  · exact ⟨⟨u, hu, by omega⟩, v, hv, by omega⟩
/-- in a triangle, by turns -/
def sgn3 (t1 t2 t3 : Int) : Prop := (0 ≤ t1 ∧ 0 ≤ t2 ∧ 0 ≤ t3) ∨ (t1 ≤ 0 ∧ t2 ≤ 0 ∧ t3 ≤ 0)
def inTP (a b c p : P2) : Prop := sgn3 (ar a b p) (ar b c p) (ar c a p) ∧ ((a.1 ≤ p.1 ∨ b.1 ≤ p.1 ∨ c.1 ≤ p.1) ∧ (p.1 ≤ a.1 ∨ p.1 ≤ b.1 ∨ p.1 ≤ c.1)) ∧ (a.2 ≤ p.2 ∨ b.2 ≤ p.2 ∨ c.2 ≤ p.2) ∧ (p.2 ≤ a.2 ∨ p.2 ≤ b.2 ∨ p.2 ≤ c.2)
theorem or_rot {P Q R : Prop} : (Q ∨ R ∨ P) ↔ (P ∨ Q ∨ R) := ⟨fun h => by rcases h with h | h | h <;> simp [h], fun h => by rcases h with h | h | h <;> simp [h]⟩
theorem or_swp {P Q R : Prop} : (Q ∨ P ∨ R) ↔ (P ∨ Q ∨ R) := ⟨fun h => by rcases h with h | h | h <;> simp [h], fun h => by rcases h with h | h | h <;> simp [h]⟩
theorem inTP_rot {a b c p : P2} : inTP b c a p ↔ inTP a b c p := by
  unfold inTP
  refine and_congr ?_ (and_congr (and_congr or_rot or_rot) (and_congr or_rot or_rot))
  unfold sgn3
  exact or_congr ⟨fun ⟨x, y, z⟩ => ⟨z, x, y⟩, fun ⟨x, y, z⟩ => ⟨y, z, x⟩⟩ ⟨fun ⟨x, y, z⟩ => ⟨z, x, y⟩, fun ⟨x, y, z⟩ => ⟨y, z, x⟩⟩
theorem inTP_swap {a b c p : P2} : inTP b a c p ↔ inTP a b c p := by
  unfold inTP
  refine and_congr ?_ (and_congr (and_congr or_swp or_swp) (and_congr or_swp or_swp))
  have e1 := ar_swap a b p
  have e2 := ar_swap c a p
  have e3 := ar_swap b c p
  unfold sgn3
  rw [e1, e2, e3]
  constructor
  · rintro (⟨x, y, z⟩ | ⟨x, y, z⟩)
    · exact .inr ⟨by omega, by omega, by omega⟩
    · exact .inl ⟨by omega, by omega, by omega⟩
  · rintro (⟨x, y, z⟩ | ⟨x, y, z⟩)
    · exact .inr ⟨by omega, by omega, by omega⟩
    · exact .inl ⟨by omega, by omega, by omega⟩
theorem abv_perm {S T : List P2} {p : P2} (h : ∀ u, u ∈ S → u ∈ T) (g : abv S p) : abv T p := by
  rcases g with ⟨u, hu, g⟩ | ⟨u, hu, v, hv, g⟩
  · exact .inl ⟨u, h u hu, g⟩
  · exact .inr ⟨u, h u hu, v, h v hv, g⟩
theorem blw_perm {S T : List P2} {p : P2} (h : ∀ u, u ∈ S → u ∈ T) (g : blw S p) : blw T p := by
  rcases g with ⟨u, hu, g⟩ | ⟨u, hu, v, hv, g⟩
  · exact .inl ⟨u, h u hu, g⟩
  · exact .inr ⟨u, h u hu, v, h v hv, g⟩
theorem sgn_ge {k z : Int} (h : 0 < k) : (0 ≤ z → 0 ≤ k * z) ∧ (z ≤ 0 → k * z ≤ 0) := ⟨(pos_ge h).mpr, (pos_le h).mpr⟩
theorem abv3 {a b c p : P2} (h : abv [a, b, c] p) : (a.1 = p.1 ∧ a.2 ≤ p.2) ∨ (b.1 = p.1 ∧ b.2 ≤ p.2) ∨ (c.1 = p.1 ∧ c.2 ≤ p.2) ∨ (a.1 < p.1 ∧ p.1 < b.1 ∧ 0 ≤ ar a b p) ∨ (b.1 < p.1 ∧ p.1 < c.1 ∧ 0 ≤ ar b c p) ∨ (c.1 < p.1 ∧ p.1 < a.1 ∧ 0 ≤ ar c a p) ∨
    (b.1 < p.1 ∧ p.1 < a.1 ∧ ar a b p ≤ 0) ∨ (c.1 < p.1 ∧ p.1 < b.1 ∧ ar b c p ≤ 0) ∨ (a.1 < p.1 ∧ p.1 < c.1 ∧ ar c a p ≤ 0) := by
  have h1 := ar_swap a b p
  have h2 := ar_swap b c p
  have h3 := ar_swap c a p
  rcases h with ⟨u, hu, h, g⟩ | ⟨u, hu, v, hv, h, g, k⟩
  · simp only [List.mem_cons, List.not_mem_nil, or_false] at hu
    rcases hu with rfl | rfl | rfl
    · exact .inl ⟨h, g⟩
    · exact .inr (.inl ⟨h, g⟩)
    · exact .inr (.inr (.inl ⟨h, g⟩))
  · simp only [List.mem_cons, List.not_mem_nil, or_false] at hu hv
    rcases hu with rfl | rfl | rfl <;> rcases hv with rfl | rfl | rfl
    · omega
    · exact .inr (.inr (.inr (.inl ⟨h, g, k⟩)))
    · exact .inr (.inr (.inr (.inr (.inr (.inr (.inr (.inr ⟨h, g, by omega⟩)))))))
    · exact .inr (.inr (.inr (.inr (.inr (.inr (.inl ⟨h, g, by omega⟩))))))
    · omega
    · exact .inr (.inr (.inr (.inr (.inl ⟨h, g, k⟩))))
    · exact .inr (.inr (.inr (.inr (.inr (.inl ⟨h, g, k⟩)))))
    · exact .inr (.inr (.inr (.inr (.inr (.inr (.inr (.inl ⟨h, g, by omega⟩)))))))
    · omega
theorem blw3 {a b c p : P2} (h : blw [a, b, c] p) : (a.1 = p.1 ∧ p.2 ≤ a.2) ∨ (b.1 = p.1 ∧ p.2 ≤ b.2) ∨ (c.1 = p.1 ∧ p.2 ≤ c.2) ∨ (a.1 < p.1 ∧ p.1 < b.1 ∧ ar a b p ≤ 0) ∨ (b.1 < p.1 ∧ p.1 < c.1 ∧ ar b c p ≤ 0) ∨ (c.1 < p.1 ∧ p.1 < a.1 ∧ ar c a p ≤ 0) ∨
    (b.1 < p.1 ∧ p.1 < a.1 ∧ 0 ≤ ar a b p) ∨ (c.1 < p.1 ∧ p.1 < b.1 ∧ 0 ≤ ar b c p) ∨ (a.1 < p.1 ∧ p.1 < c.1 ∧ 0 ≤ ar c a p) := by
  have h1 := ar_swap a b p
  have h2 := ar_swap b c p
  have h3 := ar_swap c a p
  rcases h with ⟨u, hu, h, g⟩ | ⟨u, hu, v, hv, h, g, k⟩
  · simp only [List.mem_cons, List.not_mem_nil, or_false] at hu
    rcases hu with rfl | rfl | rfl
    · exact .inl ⟨h, g⟩
    · exact .inr (.inl ⟨h, g⟩)
    · exact .inr (.inr (.inl ⟨h, g⟩))
  · simp only [List.mem_cons, List.not_mem_nil, or_false] at hu hv
    rcases hu with rfl | rfl | rfl <;> rcases hv with rfl | rfl | rfl
    · omega
    · exact .inr (.inr (.inr (.inl ⟨h, g, k⟩)))
    · exact .inr (.inr (.inr (.inr (.inr (.inr (.inr (.inr ⟨h, g, by omega⟩)))))))
    · exact .inr (.inr (.inr (.inr (.inr (.inr (.inl ⟨h, g, by omega⟩))))))
    · omega
    · exact .inr (.inr (.inr (.inr (.inl ⟨h, g, k⟩))))
    · exact .inr (.inr (.inr (.inr (.inr (.inl ⟨h, g, k⟩)))))
    · exact .inr (.inr (.inr (.inr (.inr (.inr (.inr (.inl ⟨h, g, by omega⟩)))))))
    · omega
/-- the walls of a triangle whose corners stand in order: what is between the chords, by what is asked of turns -/
theorem tri_sgn {a b c p : P2} (h1 : a.1 ≤ b.1) (h2 : b.1 ≤ c.1) (ha : abv [a, b, c] p) (hb : blw [a, b, c] p) : sgn3 (ar a b p) (ar b c p) (ar c a p) := by
  have ha := abv3 ha
  have hb := blw3 hb
  have bx := bary_x a b c p
  unfold sgn3
  by_cases ca : p.1 = a.1
  · by_cases cb : p.1 = b.1
    · have t1 : ar a b p = 0 := by rw [ar_at cb]; rw [show b.1 - a.1 = 0 by omega]; simp
      by_cases cc : p.1 = c.1
      · have t2 : ar b c p = 0 := by rw [ar_at cc]; rw [show c.1 - b.1 = 0 by omega]; simp
        have t3 : ar c a p = 0 := by rw [ar_at ca]; rw [show a.1 - c.1 = 0 by omega]; simp
        left; exact ⟨by omega, by omega, by omega⟩
      · have t2 := @ar_at1 b c p cb
        have t3 := ar_swap a c p
        rw [@ar_at1 a c p ca] at t3
        have k1 := @sgn_ge (c.1 - a.1) (p.2 - a.2) (by omega)
        have k2 := @sgn_ge (c.1 - b.1) (p.2 - b.2) (by omega)
        have ha' : a.2 ≤ p.2 ∨ b.2 ≤ p.2 := by clear hb k1 k2 t1 t2 t3 bx; rcases ha with h | h | h | h | h | h | h | h | h <;> omega
        have hb' : p.2 ≤ a.2 ∨ p.2 ≤ b.2 := by clear ha k1 k2 t1 t2 t3 bx; rcases hb with h | h | h | h | h | h | h | h | h <;> omega
        clear ha hb bx
        by_cases q1 : a.2 ≤ p.2
        · by_cases q2 : p.2 ≤ b.2
          · have := k1.1 (by omega); have := k2.2 (by omega); right; exact ⟨by omega, by omega, by omega⟩
          · have q3 : p.2 - a.2 = 0 := by omega
            have := k2.1 (by omega); rw [q3] at t3; simp at t3; left; exact ⟨by omega, by omega, by omega⟩
        · have := k1.2 (by omega); have := k2.1 (by omega); left; exact ⟨by omega, by omega, by omega⟩
    · have t1 := @ar_at1 a b p ca
      have t3 := ar_swap a c p
      rw [@ar_at1 a c p ca] at t3
      have ha' : a.2 ≤ p.2 := by clear hb t1 t3 bx; rcases ha with h | h | h | h | h | h | h | h | h <;> omega
      have hb' : p.2 ≤ a.2 := by clear ha t1 t3 bx; rcases hb with h | h | h | h | h | h | h | h | h <;> omega
      have e : p.2 - a.2 = 0 := by omega
      rw [e] at t1 t3
      simp at t1 t3
      clear ha hb bx
      by_cases q : 0 ≤ ar b c p
      · left; exact ⟨by omega, by omega, by omega⟩
      · right; exact ⟨by omega, by omega, by omega⟩
  · by_cases cc : p.1 = c.1
    · have t3 := ar_swap a c p
      rw [@ar_at a c p cc] at t3
      by_cases cb : p.1 = b.1
      · have t2 : ar b c p = 0 := by rw [ar_at1 cb]; rw [show c.1 - b.1 = 0 by omega]; simp
        have t1 := @ar_at a b p cb
        have ha' : c.2 ≤ p.2 ∨ b.2 ≤ p.2 := by clear hb t1 t2 t3 bx; rcases ha with h | h | h | h | h | h | h | h | h <;> omega
        have hb' : p.2 ≤ c.2 ∨ p.2 ≤ b.2 := by clear ha t1 t2 t3 bx; rcases hb with h | h | h | h | h | h | h | h | h <;> omega
        clear ha hb bx
        have hac : a.1 < c.1 := by
          rcases Int.lt_or_le a.1 c.1 with h | h
          · exact h
          · omega
        have k1 := @sgn_ge (c.1 - a.1) (p.2 - c.2) (by omega)
        have k2 := @sgn_ge (b.1 - a.1) (p.2 - b.2) (by omega)
        by_cases q1 : c.2 ≤ p.2
        · by_cases q2 : p.2 ≤ b.2
          · have := k1.1 (by omega); have := k2.2 (by omega); right; exact ⟨by omega, by omega, by omega⟩
          · have q3 : p.2 - c.2 = 0 := by omega
            have := k2.1 (by omega); rw [q3] at t3; simp at t3; left; exact ⟨by omega, by omega, by omega⟩
        · have := k1.2 (by omega); have := k2.1 (by omega); left; exact ⟨by omega, by omega, by omega⟩
      · have t2 := @ar_at b c p cc
        have ha' : c.2 ≤ p.2 := by clear hb t2 t3 bx; rcases ha with h | h | h | h | h | h | h | h | h <;> omega
        have hb' : p.2 ≤ c.2 := by clear ha t2 t3 bx; rcases hb with h | h | h | h | h | h | h | h | h <;> omega
        have e : p.2 - c.2 = 0 := by omega
        rw [e] at t2 t3
        simp at t2 t3
        clear ha hb bx
        by_cases q : 0 ≤ ar a b p
        · left; exact ⟨by omega, by omega, by omega⟩
        · right; exact ⟨by omega, by omega, by omega⟩
    · have hx : a.1 < p.1 ∧ p.1 < c.1 := by clear hb bx; rcases ha with h | h | h | h | h | h | h | h | h <;> omega
      by_cases cb : p.1 = b.1
      · have t1 := @ar_at a b p cb
        have t2 := @ar_at1 b c p cb
        have ha' : b.2 ≤ p.2 ∨ ar c a p ≤ 0 := by clear hb t1 t2 bx; rcases ha with h | h | h | h | h | h | h | h | h <;> omega
        have hb' : p.2 ≤ b.2 ∨ 0 ≤ ar c a p := by clear ha t1 t2 bx; rcases hb with h | h | h | h | h | h | h | h | h <;> omega
        clear ha hb bx
        have k1 := @sgn_ge (c.1 - b.1) (p.2 - b.2) (by omega)
        have k2 := @sgn_ge (b.1 - a.1) (p.2 - b.2) (by omega)
        by_cases q1 : b.2 ≤ p.2
        · by_cases q2 : 0 ≤ ar c a p
          · have := k1.1 (by omega); have := k2.1 (by omega); left; exact ⟨by omega, by omega, by omega⟩
          · have q3 : p.2 - b.2 = 0 := by omega
            rw [q3] at t1 t2; simp at t1 t2; right; exact ⟨by omega, by omega, by omega⟩
        · have := k1.2 (by omega); have := k2.2 (by omega); right; exact ⟨by omega, by omega, by omega⟩
      · by_cases cd : p.1 < b.1
        · have ha' : 0 ≤ ar a b p ∨ ar c a p ≤ 0 := by clear hb bx; rcases ha with h | h | h | h | h | h | h | h | h <;> omega
          have hb' : ar a b p ≤ 0 ∨ 0 ≤ ar c a p := by clear ha bx; rcases hb with h | h | h | h | h | h | h | h | h <;> omega
          clear ha hb
          have bx' : (p.1 - a.1) * ar b c p = (b.1 - p.1) * ar c a p + (c.1 - p.1) * ar a b p := by grind
          clear bx
          have g1 := @pos_ge (p.1 - a.1) (ar b c p) (by omega)
          have g2 := @pos_le (p.1 - a.1) (ar b c p) (by omega)
          have k1 := @sgn_ge (b.1 - p.1) (ar c a p) (by omega)
          have k2 := @sgn_ge (c.1 - p.1) (ar a b p) (by omega)
          by_cases q1 : 0 ≤ ar a b p
          · by_cases q2 : 0 ≤ ar c a p
            · have := k1.1 q2; have := k2.1 q1; left; exact ⟨by omega, g1.mp (by omega), by omega⟩
            · have q3 : ar a b p = 0 := by omega
              have := k1.2 (by omega); rw [q3] at bx'; simp at bx'; right; exact ⟨by omega, g2.mp (by omega), by omega⟩
          · have := k2.2 (by omega); have := k1.2 (by omega); right; exact ⟨by omega, g2.mp (by omega), by omega⟩
        · have ha' : 0 ≤ ar b c p ∨ ar c a p ≤ 0 := by clear hb bx; rcases ha with h | h | h | h | h | h | h | h | h <;> omega
          have hb' : ar b c p ≤ 0 ∨ 0 ≤ ar c a p := by clear ha bx; rcases hb with h | h | h | h | h | h | h | h | h <;> omega
          clear ha hb
          have bx' : (c.1 - p.1) * ar a b p = (p.1 - b.1) * ar c a p + (p.1 - a.1) * ar b c p := by grind
          clear bx
          have g1 := @pos_ge (c.1 - p.1) (ar a b p) (by omega)
          have g2 := @pos_le (c.1 - p.1) (ar a b p) (by omega)
          have k1 := @sgn_ge (p.1 - b.1) (ar c a p) (by omega)
          have k2 := @sgn_ge (p.1 - a.1) (ar b c p) (by omega)
          by_cases q1 : 0 ≤ ar b c p
          · by_cases q2 : 0 ≤ ar c a p
            · have := k1.1 q2; have := k2.1 q1; left; exact ⟨g1.mp (by omega), by omega, by omega⟩
            · have q3 : ar b c p = 0 := by omega
              have := k1.2 (by omega); rw [q3] at bx'; simp at bx'; right; exact ⟨g2.mp (by omega), by omega, by omega⟩
          · have := k2.2 (by omega); have := k1.2 (by omega); right; exact ⟨g2.mp (by omega), by omega, by omega⟩
theorem tri_sorted {a b c p : P2} (h1 : a.1 ≤ b.1) (h2 : b.1 ≤ c.1) : inTP a b c p ↔ abv [a, b, c] p ∧ blw [a, b, c] p := by
  constructor
  · rintro ⟨s, ⟨x1, x2⟩, y1, y2⟩
    have va : a ∈ [a, b, c] := by simp
    have vb : b ∈ [a, b, c] := by simp
    have vc : c ∈ [a, b, c] := by simp
    have sw := ar_swap a c p
    unfold sgn3 at s
    by_cases ca : p.1 = a.1
    · by_cases cb : p.1 = b.1
      · by_cases cc : p.1 = c.1
        · constructor
          · rcases y1 with h | h | h
            · exact .inl ⟨a, va, by omega, h⟩
            · exact .inl ⟨b, vb, by omega, h⟩
            · exact .inl ⟨c, vc, by omega, h⟩
          · rcases y2 with h | h | h
            · exact .inl ⟨a, va, by omega, h⟩
            · exact .inl ⟨b, vb, by omega, h⟩
            · exact .inl ⟨c, vc, by omega, h⟩
        · have t2 := @ar_at1 b c p cb
          rw [@ar_at1 a c p ca] at sw
          have g1 := @pos_ge (c.1 - a.1) (p.2 - a.2) (by omega)
          have g2 := @pos_le (c.1 - a.1) (p.2 - a.2) (by omega)
          have g3 := @pos_ge (c.1 - b.1) (p.2 - b.2) (by omega)
          have g4 := @pos_le (c.1 - b.1) (p.2 - b.2) (by omega)
          rcases s with ⟨s1, s2, s3⟩ | ⟨s1, s2, s3⟩
          · have := g3.mp (by omega); have := g2.mp (by omega)
            exact ⟨.inl ⟨b, vb, by omega, by omega⟩, .inl ⟨a, va, by omega, by omega⟩⟩
          · have := g4.mp (by omega); have := g1.mp (by omega)
            exact ⟨.inl ⟨a, va, by omega, by omega⟩, .inl ⟨b, vb, by omega, by omega⟩⟩
      · have hab : a.1 < b.1 := by omega
        have t1 := @ar_at1 a b p ca
        rw [@ar_at1 a c p ca] at sw
        have g1 := @pos_ge (c.1 - a.1) (p.2 - a.2) (by omega)
        have g2 := @pos_le (c.1 - a.1) (p.2 - a.2) (by omega)
        have g3 := @pos_ge (b.1 - a.1) (p.2 - a.2) (by omega)
        have g4 := @pos_le (b.1 - a.1) (p.2 - a.2) (by omega)
        have e : p.2 = a.2 := by
          rcases s with ⟨s1, s2, s3⟩ | ⟨s1, s2, s3⟩
          · have := g3.mp (by omega); have := g2.mp (by omega); omega
          · have := g4.mp (by omega); have := g1.mp (by omega); omega
        exact ⟨.inl ⟨a, va, by omega, by omega⟩, .inl ⟨a, va, by omega, by omega⟩⟩
    · have hac : a.1 < p.1 ∧ p.1 ≤ c.1 := by omega
      by_cases cc : p.1 = c.1
      · rw [@ar_at a c p cc] at sw
        have g1 := @pos_ge (c.1 - a.1) (p.2 - c.2) (by omega)
        have g2 := @pos_le (c.1 - a.1) (p.2 - c.2) (by omega)
        by_cases cb : p.1 = b.1
        · have t1 := @ar_at a b p cb
          have g3 := @pos_ge (b.1 - a.1) (p.2 - b.2) (by omega)
          have g4 := @pos_le (b.1 - a.1) (p.2 - b.2) (by omega)
          rcases s with ⟨s1, s2, s3⟩ | ⟨s1, s2, s3⟩
          · have := g3.mp (by omega); have := g2.mp (by omega)
            exact ⟨.inl ⟨b, vb, by omega, by omega⟩, .inl ⟨c, vc, by omega, by omega⟩⟩
          · have := g4.mp (by omega); have := g1.mp (by omega)
            exact ⟨.inl ⟨c, vc, by omega, by omega⟩, .inl ⟨b, vb, by omega, by omega⟩⟩
        · have t2 := @ar_at b c p cc
          have g3 := @pos_ge (c.1 - b.1) (p.2 - c.2) (by omega)
          have g4 := @pos_le (c.1 - b.1) (p.2 - c.2) (by omega)
          have e : p.2 = c.2 := by
            rcases s with ⟨s1, s2, s3⟩ | ⟨s1, s2, s3⟩
            · have := g3.mp (by omega); have := g2.mp (by omega); omega
            · have := g4.mp (by omega); have := g1.mp (by omega); omega
          exact ⟨.inl ⟨c, vc, by omega, by omega⟩, .inl ⟨c, vc, by omega, by omega⟩⟩
      · have hc : p.1 < c.1 := by omega
        by_cases cb : p.1 = b.1
        · have t1 := @ar_at a b p cb
          have g3 := @pos_ge (b.1 - a.1) (p.2 - b.2) (by omega)
          have g4 := @pos_le (b.1 - a.1) (p.2 - b.2) (by omega)
          rcases s with ⟨s1, s2, s3⟩ | ⟨s1, s2, s3⟩
          · have := g3.mp (by omega)
            exact ⟨.inl ⟨b, vb, by omega, by omega⟩, .inr ⟨a, va, c, vc, hac.1, hc, by omega⟩⟩
          · have := g4.mp (by omega)
            exact ⟨.inr ⟨a, va, c, vc, hac.1, hc, by omega⟩, .inl ⟨b, vb, by omega, by omega⟩⟩
        · by_cases cd : p.1 < b.1
          · rcases s with ⟨s1, s2, s3⟩ | ⟨s1, s2, s3⟩
            · exact ⟨.inr ⟨a, va, b, vb, hac.1, cd, s1⟩, .inr ⟨a, va, c, vc, hac.1, hc, by omega⟩⟩
            · exact ⟨.inr ⟨a, va, c, vc, hac.1, hc, by omega⟩, .inr ⟨a, va, b, vb, hac.1, cd, s1⟩⟩
          · have cd' : b.1 < p.1 := by omega
            rcases s with ⟨s1, s2, s3⟩ | ⟨s1, s2, s3⟩
            · exact ⟨.inr ⟨b, vb, c, vc, cd', hc, s2⟩, .inr ⟨a, va, c, vc, hac.1, hc, by omega⟩⟩
            · exact ⟨.inr ⟨a, va, c, vc, hac.1, hc, by omega⟩, .inr ⟨b, vb, c, vc, cd', hc, s2⟩⟩
  · rintro ⟨ha, hb⟩
    have hx := abv_x ha
    have hy1 := abv_y ha
    have hy2 := blw_y hb
    simp only [List.mem_cons, List.not_mem_nil, or_false, exists_eq_or_imp, exists_eq_left] at hx hy1 hy2
    exact ⟨tri_sgn h1 h2 ha hb, hx, hy1, hy2⟩
/-- a point is in a triangle by turns if it is between its chords -/
theorem tri_rows {a b c p : P2} : inTP a b c p ↔ abv [a, b, c] p ∧ blw [a, b, c] p := by
  have pm : ∀ {S T : List P2}, (∀ u, u ∈ S ↔ u ∈ T) → ((abv S p ∧ blw S p) ↔ abv T p ∧ blw T p) := fun h =>
    ⟨fun g => ⟨abv_perm (fun u => (h u).mp) g.1, blw_perm (fun u => (h u).mp) g.2⟩, fun g => ⟨abv_perm (fun u => (h u).mpr) g.1, blw_perm (fun u => (h u).mpr) g.2⟩⟩
  have m1 : ∀ {x y z : P2} (u : P2), u ∈ [y, z, x] ↔ u ∈ [x, y, z] := fun u => by simp only [List.mem_cons, List.not_mem_nil, or_false]; grind
  have m2 : ∀ {x y z : P2} (u : P2), u ∈ [y, x, z] ↔ u ∈ [x, y, z] := fun u => by simp only [List.mem_cons, List.not_mem_nil, or_false]; grind
  rcases Int.le_total a.1 b.1 with h1 | h1
  · rcases Int.le_total b.1 c.1 with h2 | h2
    · exact tri_sorted h1 h2
    · rcases Int.le_total a.1 c.1 with h3 | h3
      · -- a c b
        rw [← inTP_rot (a := a) (b := b), ← inTP_rot, ← inTP_swap, tri_sorted h3 h2, pm m2, pm m1, pm m1]
      · -- c a b
        rw [← inTP_rot (a := a) (b := b), ← inTP_rot, tri_sorted h3 h1, pm m1, pm m1]
  · rcases Int.le_total a.1 c.1 with h2 | h2
    · -- b a c
      rw [← inTP_swap, tri_sorted h1 h2, pm m2]
    · rcases Int.le_total b.1 c.1 with h3 | h3
      · -- b c a
        rw [← inTP_rot, tri_sorted h3 h2, pm m1]
      · -- c b a
        rw [← inTP_rot (a := a) (b := b), ← inTP_swap, tri_sorted h3 h1, pm m2, pm m1]
def inB3 (a b c p : P2) : Bool := (decide (min a.1 (min b.1 c.1) ≤ p.1) && decide (p.1 ≤ max a.1 (max b.1 c.1))) && (decide (min a.2 (min b.2 c.2) ≤ p.2) && decide (p.2 ≤ max a.2 (max b.2 c.2)))

def inT (a b c p : P2) : Bool := if min (ar a b p) (min (ar b c p) (ar c a p)) < 0 ∧ 0 < max (ar a b p) (max (ar b c p) (ar c a p)) then false else inB3 a b c p

theorem inT_iff {a b c p : P2} : inT a b c p = true ↔ inTP a b c p := by
  unfold inT inTP sgn3 inB3
  have e : ¬ (min (ar a b p) (min (ar b c p) (ar c a p)) < 0 ∧ 0 < max (ar a b p) (max (ar b c p) (ar c a p))) ↔ ((0 ≤ ar a b p ∧ 0 ≤ ar b c p ∧ 0 ≤ ar c a p) ∨ (ar a b p ≤ 0 ∧ ar b c p ≤ 0 ∧ ar c a p ≤ 0)) := by
    generalize ar a b p = x
    generalize ar b c p = y
    generalize ar c a p = z
    omega
  have m1 : ∀ x y z w : Int, min x (min y z) ≤ w ↔ (x ≤ w ∨ y ≤ w ∨ z ≤ w) := by omega
  have m2 : ∀ x y z w : Int, w ≤ max x (max y z) ↔ (w ≤ x ∨ w ≤ y ∨ w ≤ z) := by omega
  by_cases h : min (ar a b p) (min (ar b c p) (ar c a p)) < 0 ∧ 0 < max (ar a b p) (max (ar b c p) (ar c a p))
  · rw [if_pos h]
    exact ⟨fun g => (nomatch g), fun g => absurd h (e.mpr g.1)⟩
  · rw [if_neg h]
    simp only [Bool.and_eq_true, decide_eq_true_eq, m1, m2]
    exact ⟨fun g => ⟨e.mp h, g⟩, fun g => g.2⟩
def inS (a b c p : P2) : Bool := decide (0 < min (ar a b p) (min (ar b c p) (ar c a p))) || decide (max (ar a b p) (max (ar b c p) (ar c a p)) < 0)

/-- strictly in a triangle: in it, on no side -/
theorem inS_iff {a b c p : P2} : inS c a b p = true ↔ inTP a b c p ∧ ar a b p ≠ 0 ∧ ar b c p ≠ 0 ∧ ar c a p ≠ 0 := by
  have e : inS c a b p = true ↔ (0 < ar a b p ∧ 0 < ar b c p ∧ 0 < ar c a p) ∨ (ar a b p < 0 ∧ ar b c p < 0 ∧ ar c a p < 0) := by
    unfold inS
    rw [Bool.or_eq_true, decide_eq_true_eq, decide_eq_true_eq]
    generalize ar a b p = x
    generalize ar b c p = y
    generalize ar c a p = z
    omega
  rw [e]
  constructor
  · intro h
    refine ⟨⟨?_, ?_⟩, by omega, by omega, by omega⟩
    · unfold sgn3
      rcases h with ⟨x, y, z⟩ | ⟨x, y, z⟩
      · exact .inl ⟨by omega, by omega, by omega⟩
      · exact .inr ⟨by omega, by omega, by omega⟩
    · have bx := bary_x a b c p
      have by' := bary_y a b c p
      have key : ∀ {f g k x y z : Int}, (0 < x ∧ 0 < y ∧ 0 < z) ∨ (x < 0 ∧ y < 0 ∧ z < 0) → g * z + k * x + f * y = 0 → (0 ≤ f ∨ 0 ≤ g ∨ 0 ≤ k) ∧ (f ≤ 0 ∨ g ≤ 0 ∨ k ≤ 0) := fun {f g k x y z} h e => by
        have np : ∀ {u v : Int}, 0 < u → 0 < v → 0 < u * v := fun h1 h2 => Int.mul_pos h1 h2
        have pn : ∀ {u v : Int}, 0 < u → v < 0 → u * v < 0 := fun h1 h2 => Int.mul_neg_of_pos_of_neg h1 h2
        have nn : ∀ {u v : Int}, u < 0 → 0 < v → u * v < 0 := fun h1 h2 => Int.mul_neg_of_neg_of_pos h1 h2
        have nn2 : ∀ {u v : Int}, u < 0 → v < 0 → 0 < u * v := fun h1 h2 => Int.mul_pos_of_neg_of_neg h1 h2
        constructor
        · by_cases hf : 0 ≤ f
          · exact .inl hf
          · by_cases hg : 0 ≤ g
            · exact .inr (.inl hg)
            · by_cases hk : 0 ≤ k
              · exact .inr (.inr hk)
              · exfalso
                rcases h with ⟨h1, h2, h3⟩ | ⟨h1, h2, h3⟩
                · have := @nn g z (by omega) h3; have := @nn k x (by omega) h1; have := @nn f y (by omega) h2; omega
                · have := @nn2 g z (by omega) h3; have := @nn2 k x (by omega) h1; have := @nn2 f y (by omega) h2; omega
        · by_cases hf : f ≤ 0
          · exact .inl hf
          · by_cases hg : g ≤ 0
            · exact .inr (.inl hg)
            · by_cases hk : k ≤ 0
              · exact .inr (.inr hk)
              · exfalso
                rcases h with ⟨h1, h2, h3⟩ | ⟨h1, h2, h3⟩
                · have := @np g z (by omega) h3; have := @np k x (by omega) h1; have := @np f y (by omega) h2; omega
                · have := @pn g z (by omega) h3; have := @pn k x (by omega) h1; have := @pn f y (by omega) h2; omega
      obtain ⟨k1, k2⟩ := key h bx
      obtain ⟨k3, k4⟩ := key h by'
      refine ⟨⟨?_, ?_⟩, ?_, ?_⟩
      · rcases k1 with h | h | h
        · exact .inl (by omega)
        · exact .inr (.inl (by omega))
        · exact .inr (.inr (by omega))
      · rcases k2 with h | h | h
        · exact .inl (by omega)
        · exact .inr (.inl (by omega))
        · exact .inr (.inr (by omega))
      · rcases k3 with h | h | h
        · exact .inl (by omega)
        · exact .inr (.inl (by omega))
        · exact .inr (.inr (by omega))
      · rcases k4 with h | h | h
        · exact .inl (by omega)
        · exact .inr (.inl (by omega))
        · exact .inr (.inr (by omega))
  · rintro ⟨⟨s, _⟩, h1, h2, h3⟩
    unfold sgn3 at s
    rcases s with ⟨x, y, z⟩ | ⟨x, y, z⟩
    · exact .inl ⟨by omega, by omega, by omega⟩
    · exact .inr ⟨by omega, by omega, by omega⟩

/-- the first three points that are on no line, when points ascend -/
def fst3 : List P2 → Option (P2 × P2 × P2)
  | a :: b :: r => (r.find? fun p => decide (ar a b p ≠ 0)).map fun p => (a, b, p)
  | _ => none
end Lw
set_option linter.all false
set_option Elab.async false
set_option maxRecDepth 100000
set_option maxHeartbeats 4000000
namespace Lw
/-! # the chords over a column -/
def chG (x : Int) (p q : P2) : Option (Int × Int) := if p.1 < x ∧ x < q.1 then some (p.2 - Int.fdiv (-((q.2 - p.2) * (x - p.1))) (q.1 - p.1), p.2 + Int.fdiv ((q.2 - p.2) * (x - p.1)) (q.1 - p.1)) else none
def chV (x : Int) (p : P2) : Option (Int × Int) := if p.1 = x then some (p.2, p.2) else none
def chs (S : List P2) (x : Int) : List (Int × Int) := S.filterMap (chV x) ++ S.flatMap fun p => S.filterMap (chG x p)
theorem fdiv_le {u w z : Int} (h : 0 < w) : z ≤ Int.fdiv u w ↔ z * w ≤ u := by
  rw [Int.fdiv_eq_ediv_of_nonneg _ (by omega), Int.le_ediv_iff_mul_le h]
theorem chG_low {x : Int} {p q : P2} {y : Int} {e : Int × Int} (h : chG x p q = some e) : (e.1 ≤ y ↔ 0 ≤ ar p q (x, y)) ∧ (y ≤ e.2 ↔ ar p q (x, y) ≤ 0) := by
  unfold chG at h
  split at h
  · rename_i hx
    cases h
    dsimp only
    have w : 0 < q.1 - p.1 := by omega
    have k1 := @fdiv_le (-((q.2 - p.2) * (x - p.1))) (q.1 - p.1) (p.2 - y) w
    have k2 := @fdiv_le ((q.2 - p.2) * (x - p.1)) (q.1 - p.1) (y - p.2) w
    have e1 : ar p q (x, y) = (y - p.2) * (q.1 - p.1) - (q.2 - p.2) * (x - p.1) := by unfold ar; grind
    have e2 : (p.2 - y) * (q.1 - p.1) = - ((y - p.2) * (q.1 - p.1)) := by grind
    omega
  · cases h
theorem mem_chs {S : List P2} {x : Int} {e : Int × Int} : e ∈ chs S x ↔ (∃ p ∈ S, chV x p = some e) ∨ ∃ p ∈ S, ∃ q ∈ S, chG x p q = some e := by
  unfold chs
  rw [List.mem_append, List.mem_filterMap, List.mem_flatMap]
  simp only [List.mem_filterMap]
theorem chs_abv {S : List P2} {x y : Int} : (∃ e ∈ chs S x, e.1 ≤ y) ↔ abv S (x, y) := by
  constructor
  · rintro ⟨e, he, h⟩
    rcases mem_chs.mp he with ⟨p, hp, g⟩ | ⟨p, hp, q, hq, g⟩
    · unfold chV at g
      split at g
      · cases g; exact .inl ⟨p, hp, by assumption, h⟩
      · cases g
    · have := (chG_low (y := y) g).1.mp h
      unfold chG at g
      split at g
      · rename_i hx; exact .inr ⟨p, hp, q, hq, hx.1, hx.2, this⟩
      · cases g
  · rintro (⟨p, hp, h, g⟩ | ⟨p, hp, q, hq, h1, h2, h3⟩)
    · exact ⟨(p.2, p.2), mem_chs.mpr (.inl ⟨p, hp, by unfold chV; exact if_pos h⟩), g⟩
    · have e : chG x p q = some (p.2 - Int.fdiv (-((q.2 - p.2) * (x - p.1))) (q.1 - p.1), p.2 + Int.fdiv ((q.2 - p.2) * (x - p.1)) (q.1 - p.1)) := by unfold chG; exact if_pos ⟨h1, h2⟩
      exact ⟨_, mem_chs.mpr (.inr ⟨p, hp, q, hq, e⟩), (chG_low e).1.mpr h3⟩
theorem chs_blw {S : List P2} {x y : Int} : (∃ e ∈ chs S x, y ≤ e.2) ↔ blw S (x, y) := by
  constructor
  · rintro ⟨e, he, h⟩
    rcases mem_chs.mp he with ⟨p, hp, g⟩ | ⟨p, hp, q, hq, g⟩
    · unfold chV at g
      split at g
      · cases g; exact .inl ⟨p, hp, by assumption, h⟩
      · cases g
    · have := (chG_low (y := y) g).2.mp h
      unfold chG at g
      split at g
      · rename_i hx; exact .inr ⟨p, hp, q, hq, hx.1, hx.2, this⟩
      · cases g
  · rintro (⟨p, hp, h, g⟩ | ⟨p, hp, q, hq, h1, h2, h3⟩)
    · exact ⟨(p.2, p.2), mem_chs.mpr (.inl ⟨p, hp, by unfold chV; exact if_pos h⟩), g⟩
    · have e : chG x p q = some (p.2 - Int.fdiv (-((q.2 - p.2) * (x - p.1))) (q.1 - p.1), p.2 + Int.fdiv ((q.2 - p.2) * (x - p.1)) (q.1 - p.1)) := by unfold chG; exact if_pos ⟨h1, h2⟩
      exact ⟨_, mem_chs.mpr (.inr ⟨p, hp, q, hq, e⟩), (chG_low e).2.mpr h3⟩
theorem chs_ne {S : List P2} {x : Int} {u v : P2} (hu : u ∈ S) (hv : v ∈ S) (h1 : u.1 ≤ x) (h2 : x ≤ v.1) : chs S x ≠ [] := by
  intro e
  have key : ∀ e, e ∉ chs S x := by rw [e]; simp
  by_cases q1 : u.1 = x
  · exact key (u.2, u.2) (mem_chs.mpr (.inl ⟨u, hu, by unfold chV; exact if_pos q1⟩))
  · by_cases q2 : v.1 = x
    · exact key (v.2, v.2) (mem_chs.mpr (.inl ⟨v, hv, by unfold chV; exact if_pos q2⟩))
    · exact key _ (mem_chs.mpr (.inr ⟨u, hu, v, hv, by unfold chG; exact if_pos ⟨by omega, by omega⟩⟩))
/-- chords stay within the height of the shape -/
theorem chs_in {S : List P2} {x lo hi : Int} (h : ∀ p ∈ S, lo ≤ p.2 ∧ p.2 ≤ hi) {e : Int × Int} (he : e ∈ chs S x) : (lo ≤ e.1 ∧ e.1 ≤ hi) ∧ (lo ≤ e.2 ∧ e.2 ≤ hi) := by
  rcases mem_chs.mp he with ⟨p, hp, g⟩ | ⟨p, hp, q, hq, g⟩
  · unfold chV at g
    split at g
    · cases g; exact ⟨h p hp, h p hp⟩
    · cases g
  · have hp' := h p hp
    have hq' := h q hq
    have k := fun y => @chG_low x p q y e g
    unfold chG at g
    split at g
    · rename_i hx
      have mn : ∀ {a b : Int}, 0 < a → 0 < b → 0 < a * b := fun h1 h2 => Int.mul_pos h1 h2
      have a1 : ar p q (x, lo - 1) < 0 := by
        rw [ar_mix]
        have n1 : (q.1 - x) * (lo - 1 - p.2) < 0 := Int.mul_neg_of_pos_of_neg (by omega) (by omega)
        have n2 : (x - p.1) * (lo - 1 - q.2) < 0 := Int.mul_neg_of_pos_of_neg (by omega) (by omega)
        show (q.1 - x) * (lo - 1 - p.2) + (x - p.1) * (lo - 1 - q.2) < 0
        omega
      have a2 : 0 < ar p q (x, hi + 1) := by
        rw [ar_mix]
        have n1 : 0 < (q.1 - x) * (hi + 1 - p.2) := Int.mul_pos (by omega) (by omega)
        have n2 : 0 < (x - p.1) * (hi + 1 - q.2) := Int.mul_pos (by omega) (by omega)
        show 0 < (q.1 - x) * (hi + 1 - p.2) + (x - p.1) * (hi + 1 - q.2)
        omega
      have a3 : ar p q (x, lo) ≤ 0 := by
        rw [ar_mix]
        have n1 : (q.1 - x) * (lo - p.2) ≤ 0 := Int.mul_nonpos_of_nonneg_of_nonpos (by omega) (by omega)
        have n2 : (x - p.1) * (lo - q.2) ≤ 0 := Int.mul_nonpos_of_nonneg_of_nonpos (by omega) (by omega)
        show (q.1 - x) * (lo - p.2) + (x - p.1) * (lo - q.2) ≤ 0
        omega
      have a4 : 0 ≤ ar p q (x, hi) := by
        rw [ar_mix]
        have n1 : 0 ≤ (q.1 - x) * (hi - p.2) := Int.mul_nonneg (by omega) (by omega)
        have n2 : 0 ≤ (x - p.1) * (hi - q.2) := Int.mul_nonneg (by omega) (by omega)
        show 0 ≤ (q.1 - x) * (hi - p.2) + (x - p.1) * (hi - q.2)
        omega
      have b1 := (k (lo - 1)).1
      have b2 := (k (hi + 1)).2
      have b3 := (k lo).2.mpr a3
      have b4 := (k hi).1.mpr a4
      refine ⟨⟨?_, b4⟩, b3, ?_⟩
      · rcases Int.lt_or_le e.1 lo with h | h
        · have := b1.mp (by omega); omega
        · exact h
      · rcases Int.lt_or_le hi e.2 with h | h
        · have := b2.mp (by omega); omega
        · exact h
    · cases g
/-- the least chord end and the greatest -/
structure Chord (S : List P2) (x lo hi : Int) : Prop where
  low : minI ((chs S x).map (·.1)) = some lo
  high : maxI ((chs S x).map (·.2)) = some hi
theorem Chord.abv {S : List P2} {x lo hi y : Int} (h : Chord S x lo hi) : lo ≤ y ↔ abv S (x, y) := by
  rw [← chs_abv]
  have hne : (chs S x).map (·.1) ≠ [] := by intro e; have := h.low; rw [e] at this; cases this
  obtain ⟨m, e, hm, hl⟩ := minI_is hne
  rw [h.low] at e
  cases e
  constructor
  · intro g
    obtain ⟨p, hp, e⟩ := List.mem_map.mp hm
    exact ⟨p, hp, by omega⟩
  · rintro ⟨p, hp, g⟩
    have := hl p.1 (List.mem_map.mpr ⟨p, hp, rfl⟩)
    omega
theorem Chord.blw {S : List P2} {x lo hi y : Int} (h : Chord S x lo hi) : y ≤ hi ↔ blw S (x, y) := by
  rw [← chs_blw]
  have hne : (chs S x).map (·.2) ≠ [] := by intro e; have := h.high; rw [e] at this; cases this
  obtain ⟨m, e, hm, hl⟩ := maxI_is hne
  rw [h.high] at e
  cases e
  constructor
  · intro g
    obtain ⟨p, hp, e⟩ := List.mem_map.mp hm
    exact ⟨p, hp, by omega⟩
  · rintro ⟨p, hp, g⟩
    have := hl p.2 (List.mem_map.mpr ⟨p, hp, rfl⟩)
    omega
theorem chord_is {S : List P2} {x : Int} (h : chs S x ≠ []) : ∃ lo hi, Chord S x lo hi := by
  obtain ⟨m, e, _⟩ := minI_is (ns := (chs S x).map (·.1)) (by simpa using h)
  obtain ⟨m', e', _⟩ := maxI_is (ns := (chs S x).map (·.2)) (by simpa using h)
  exact ⟨m, m', e, e'⟩
theorem Chord.range {S : List P2} {x lo hi b t : Int} (c : Chord S x lo hi) (h : ∀ p ∈ S, b ≤ p.2 ∧ p.2 ≤ t) : (b ≤ lo ∧ lo ≤ t) ∧ (b ≤ hi ∧ hi ≤ t) := by
  have n1 : (chs S x).map (·.1) ≠ [] := by intro e; have := c.low; rw [e] at this; cases this
  obtain ⟨m, e, hm, _⟩ := minI_is n1
  rw [c.low] at e
  cases e
  have n2 : (chs S x).map (·.2) ≠ [] := by intro e; have := c.high; rw [e] at this; cases this
  obtain ⟨m', e', hm', _⟩ := maxI_is n2
  rw [c.high] at e'
  cases e'
  obtain ⟨p, hp, e⟩ := List.mem_map.mp hm
  obtain ⟨q, hq, e'⟩ := List.mem_map.mp hm'
  have a := chs_in h hp
  have b := chs_in h hq
  omega
end Lw
namespace Lw
/-! # the outmost points of each column -/
structure OutOk (S es : List P2) : Prop where
  sub : ∀ e ∈ es, e ∈ S
  low : ∀ u ∈ S, ∃ e ∈ es, e.1 = u.1 ∧ e.2 ≤ u.2
  high : ∀ u ∈ S, ∃ e ∈ es, e.1 = u.1 ∧ u.2 ≤ e.2
  asc : es.Pairwise fun a b => a.1 ≤ b.1
  len : es.length ≤ 2 * S.length
theorem OutOk.abv {S es : List P2} (h : OutOk S es) {p : P2} : abv es p ↔ abv S p := by
  constructor
  · exact abv_perm h.sub
  · rintro (⟨u, hu, e, g⟩ | ⟨u, hu, v, hv, h1, h2, h3⟩)
    · obtain ⟨e', he, k1, k2⟩ := h.low u hu
      exact .inl ⟨e', he, by omega, by omega⟩
    · obtain ⟨u', hu', k1, k2⟩ := h.low u hu
      obtain ⟨v', hv', k3, k4⟩ := h.low v hv
      refine .inr ⟨u', hu', v', hv', by omega, by omega, ?_⟩
      rw [ar_mix] at h3 ⊢
      have n1 : (v.1 - p.1) * (p.2 - u.2) ≤ (v'.1 - p.1) * (p.2 - u'.2) := by rw [k3]; exact Int.mul_le_mul_of_nonneg_left (by omega) (by omega)
      have n2 : (p.1 - u.1) * (p.2 - v.2) ≤ (p.1 - u'.1) * (p.2 - v'.2) := by rw [k1]; exact Int.mul_le_mul_of_nonneg_left (by omega) (by omega)
      omega
theorem OutOk.blw {S es : List P2} (h : OutOk S es) {p : P2} : blw es p ↔ blw S p := by
  constructor
  · exact blw_perm h.sub
  · rintro (⟨u, hu, e, g⟩ | ⟨u, hu, v, hv, h1, h2, h3⟩)
    · obtain ⟨e', he, k1, k2⟩ := h.high u hu
      exact .inl ⟨e', he, by omega, by omega⟩
    · obtain ⟨u', hu', k1, k2⟩ := h.high u hu
      obtain ⟨v', hv', k3, k4⟩ := h.high v hv
      refine .inr ⟨u', hu', v', hv', by omega, by omega, ?_⟩
      rw [ar_mix] at h3 ⊢
      have n1 : (v'.1 - p.1) * (p.2 - u'.2) ≤ (v.1 - p.1) * (p.2 - u.2) := by rw [k3]; exact Int.mul_le_mul_of_nonneg_left (by omega) (by omega)
      have n2 : (p.1 - u'.1) * (p.2 - v'.2) ≤ (p.1 - u.1) * (p.2 - v.2) := by rw [k1]; exact Int.mul_le_mul_of_nonneg_left (by omega) (by omega)
      omega
/-- what rounding finds: each point between the chords, in order -/
structure RndOk (S rs : List P2) : Prop where
  asc : Asc rs
  mem : ∀ p, p ∈ rs ↔ abv S p ∧ blw S p
def colL (x lo : Int) (m : Nat) : List P2 := (List.range m).map fun j : Nat => (x, lo + (j : Int))
theorem mem_colL {x lo : Int} {m : Nat} {p : P2} : p ∈ colL x lo m ↔ p.1 = x ∧ lo ≤ p.2 ∧ p.2 < lo + m := by
  unfold colL
  rw [List.mem_map]
  constructor
  · rintro ⟨j, hj, rfl⟩
    have := List.mem_range.mp hj
    exact ⟨rfl, by dsimp only; omega, by dsimp only; omega⟩
  · rintro ⟨h1, h2, h3⟩
    refine ⟨(p.2 - lo).toNat, List.mem_range.mpr (by omega), Prod.ext h1.symm ?_⟩
    dsimp only
    omega
theorem colL_asc (x lo : Int) (m : Nat) : Asc (colL x lo m) := by
  unfold colL Asc
  rw [List.pairwise_map]
  exact List.pairwise_lt_range.imp fun h => .inr ⟨rfl, by dsimp only; omega⟩
end Lw
namespace Lw
theorem filterMap_col {x : Int} : ∀ S : List P2, S.filterMap (fun p : P2 => if p.1 = x then some (D.int p.2) else none) = ((S.filter fun p => decide (p.1 = x)).map (·.2)).map D.int
  | [] => rfl
  | q :: r => by
    by_cases h : q.1 = x
    · rw [List.filterMap_cons, List.filter_cons, if_pos h, if_pos (by simpa using h), filterMap_col r]
      rfl
    · rw [List.filterMap_cons, List.filter_cons, if_neg h, if_neg (by simpa using h), filterMap_col r]
end Lw
set_option linter.all false
set_option Elab.async false
set_option maxRecDepth 100000
set_option maxHeartbeats 4000000
namespace Lw
/-! # the hull, by lines that part -/
/-- a grid point of the hull -/
def hul (S : List P2) (p : P2) : Prop := abv S p ∧ blw S p
/-- a line strictly parts a point from all of S -/
def sep (S : List P2) (p : P2) : Prop := ∃ a b : Int, ∀ q ∈ S, 0 < a * (q.1 - p.1) + b * (q.2 - p.2)
theorem exists_top {α : Type} {r : α → α → Prop} {ok : α → Prop} (tot : ∀ a b, ok a → ok b → r a b ∨ r b a) (tr : ∀ a b c, ok a → ok b → ok c → r a b → r b c → r a c) : ∀ {L : List α}, L ≠ [] → (∀ x ∈ L, ok x) → ∃ m ∈ L, ∀ x ∈ L, r m x
  | [], h, _ => absurd rfl h
  | [a], _, ho => ⟨a, by simp, fun x hx => by rw [List.mem_singleton.mp hx]; exact (tot a a (ho a (by simp)) (ho a (by simp))).elim id id⟩
  | a :: b :: l, _, ho => by
    obtain ⟨m, hm, h⟩ := exists_top tot tr (L := b :: l) (by simp) (fun x hx => ho x (List.mem_cons_of_mem _ hx))
    have oa := ho a (by simp)
    have om := ho m (List.mem_cons_of_mem _ hm)
    rcases tot a m oa om with g | g
    · refine ⟨a, by simp, fun x hx => ?_⟩
      rcases List.mem_cons.mp hx with rfl | hx
      · exact (tot x x oa oa).elim id id
      · exact tr a m x oa om (ho x (List.mem_cons_of_mem _ hx)) g (h x hx)
    · refine ⟨m, List.mem_cons_of_mem _ hm, fun x hx => ?_⟩
      rcases List.mem_cons.mp hx with rfl | hx
      · exact g
      · exact h x hx
theorem le_all (S : List P2) (f : P2 → Int) : ∃ M : Int, 0 ≤ M ∧ ∀ q ∈ S, f q ≤ M := by
  induction S with
  | nil => exact ⟨0, Int.le_refl _, fun q h => nomatch h⟩
  | cons a l ih =>
    obtain ⟨M, h0, h⟩ := ih
    refine ⟨max M (f a), by omega, fun q hq => ?_⟩
    rcases List.mem_cons.mp hq with rfl | hq
    · omega
    · have := h q hq; omega
theorem frac_tr {hu du hw dw hx dx : Int} (h1 : 0 < du) (h2 : 0 < dw) (h3 : 0 < dx) (g1 : hw * du ≤ hu * dw) (g2 : hx * dw ≤ hw * dx) : hx * du ≤ hu * dx := by
  have k1 : hx * dw * du ≤ hw * dx * du := Int.mul_le_mul_of_nonneg_right g2 (by omega)
  have k2 : hw * du * dx ≤ hu * dw * dx := Int.mul_le_mul_of_nonneg_right g1 (by omega)
  have k3 : dw * (hx * du) ≤ dw * (hu * dx) := by grind
  exact Int.le_of_mul_le_mul_left k3 h2
theorem part_left {S : List P2} {p : P2} (h : ¬ abv S p) : ∃ a b : Int, 0 < b ∧ (∀ q ∈ S, q.1 < p.1 → 0 ≤ a * (q.1 - p.1) + b * (q.2 - p.2)) ∧ ∀ q ∈ S, p.1 ≤ q.1 → 0 < a * (q.1 - p.1) + b * (q.2 - p.2) := by
  have hc : ∀ u ∈ S, u.1 = p.1 → p.2 < u.2 := fun u hu e => by
    rcases Int.lt_or_le p.2 u.2 with g | g
    · exact g
    · exact absurd (.inl ⟨u, hu, e, g⟩) h
  have hk : ∀ u ∈ S, ∀ v ∈ S, u.1 < p.1 → p.1 < v.1 → ar u v p < 0 := fun u hu v hv e1 e2 => by
    rcases Int.lt_or_le (ar u v p) 0 with g | g
    · exact g
    · exact absurd (.inr ⟨u, hu, v, hv, e1, e2, g⟩) h
  by_cases hl : ∃ u ∈ S, u.1 < p.1
  · obtain ⟨u0, hu0, e0⟩ := hl
    have hne : (S.filter fun q => decide (q.1 < p.1)) ≠ [] := fun e => by
      have : u0 ∈ S.filter fun q => decide (q.1 < p.1) := List.mem_filter.mpr ⟨hu0, by simpa using e0⟩
      rw [e] at this; cases this
    obtain ⟨u, hu, hm⟩ := exists_top (r := fun u w : P2 => (p.2 - w.2) * (p.1 - u.1) ≤ (p.2 - u.2) * (p.1 - w.1)) (ok := fun u : P2 => u.1 < p.1) (fun a b _ _ => by omega) (fun a b c h1 h2 h3 g1 g2 => frac_tr (by omega) (by omega) (by omega) g1 g2) hne (fun x hx => by simpa using (List.mem_filter.mp hx).2)
    have hu1 := (List.mem_filter.mp hu).1
    have hu2 : u.1 < p.1 := by simpa using (List.mem_filter.mp hu).2
    have d : 0 < p.1 - u.1 := by omega
    refine ⟨-(p.2 - u.2), p.1 - u.1, d, fun q hq hx => ?_, fun q hq hx => ?_⟩
    · have := hm q (List.mem_filter.mpr ⟨hq, by simpa using hx⟩)
      grind
    · rcases Int.lt_or_eq_of_le hx with g | g
      · have := hk u hu1 q hq hu2 g
        unfold ar at this
        grind
      · have k := hc q hq g.symm
        have : 0 < (p.1 - u.1) * (q.2 - p.2) := Int.mul_pos d (by omega)
        rw [show q.1 - p.1 = 0 by omega]
        simp
        omega
  · obtain ⟨M, h0, hM⟩ := le_all S fun q => p.2 - q.2
    refine ⟨M + 1, 1, by decide, fun q hq hx => absurd ⟨q, hq, hx⟩ hl, fun q hq hx => ?_⟩
    rcases Int.lt_or_eq_of_le hx with g | g
    · have k := hM q hq
      have : (M + 1) * 1 ≤ (M + 1) * (q.1 - p.1) := Int.mul_le_mul_of_nonneg_left (by omega) (by omega)
      omega
    · have k := hc q hq g.symm
      rw [show q.1 - p.1 = 0 by omega]
      simp
      omega
theorem abv_flip {S : List P2} {p : P2} : abv (S.map fun q => (-q.1, q.2)) (-p.1, p.2) ↔ abv S p := by
  have e : ∀ u v p : P2, ar (-u.1, u.2) (-v.1, v.2) (-p.1, p.2) = ar v u p := fun u v p => by unfold ar; grind
  constructor
  · rintro (⟨u, hu, h1, h2⟩ | ⟨u, hu, v, hv, h1, h2, h3⟩)
    · obtain ⟨w, hw, rfl⟩ := List.mem_map.mp hu
      exact .inl ⟨w, hw, by dsimp only at h1; omega, h2⟩
    · obtain ⟨w, hw, rfl⟩ := List.mem_map.mp hu
      obtain ⟨z, hz, rfl⟩ := List.mem_map.mp hv
      rw [e] at h3
      dsimp only at h1 h2
      exact .inr ⟨z, hz, w, hw, by omega, by omega, h3⟩
  · rintro (⟨u, hu, h1, h2⟩ | ⟨u, hu, v, hv, h1, h2, h3⟩)
    · exact .inl ⟨_, List.mem_map.mpr ⟨u, hu, rfl⟩, by dsimp only; omega, h2⟩
    · refine .inr ⟨_, List.mem_map.mpr ⟨v, hv, rfl⟩, _, List.mem_map.mpr ⟨u, hu, rfl⟩, by dsimp only; omega, by dsimp only; omega, ?_⟩
      rw [e]; exact h3
theorem blw_flip {S : List P2} {p : P2} : abv (S.map fun q => (q.1, -q.2)) (p.1, -p.2) ↔ blw S p := by
  have e : ∀ u v p : P2, ar (u.1, -u.2) (v.1, -v.2) (p.1, -p.2) = - ar u v p := fun u v p => by unfold ar; grind
  constructor
  · rintro (⟨u, hu, h1, h2⟩ | ⟨u, hu, v, hv, h1, h2, h3⟩)
    · obtain ⟨w, hw, rfl⟩ := List.mem_map.mp hu
      exact .inl ⟨w, hw, h1, by dsimp only at h2; omega⟩
    · obtain ⟨w, hw, rfl⟩ := List.mem_map.mp hu
      obtain ⟨z, hz, rfl⟩ := List.mem_map.mp hv
      rw [e] at h3
      exact .inr ⟨w, hw, z, hz, h1, h2, by omega⟩
  · rintro (⟨u, hu, h1, h2⟩ | ⟨u, hu, v, hv, h1, h2, h3⟩)
    · exact .inl ⟨_, List.mem_map.mpr ⟨u, hu, rfl⟩, h1, by dsimp only; omega⟩
    · refine .inr ⟨_, List.mem_map.mpr ⟨u, hu, rfl⟩, _, List.mem_map.mpr ⟨v, hv, rfl⟩, h1, h2, ?_⟩
      rw [e]; omega
theorem sep_abv {S : List P2} {p : P2} (h : ¬ abv S p) : sep S p := by
  obtain ⟨a, b, hb, h1, h2⟩ := part_left h
  obtain ⟨c, d, hd, h3, h4⟩ := part_left (S := S.map fun q => (-q.1, q.2)) (p := (-p.1, p.2)) (fun g => h (abv_flip.mp g))
  refine ⟨a - c, b + d, fun q hq => ?_⟩
  have k3 := h3 _ (List.mem_map.mpr ⟨q, hq, rfl⟩)
  have k4 := h4 _ (List.mem_map.mpr ⟨q, hq, rfl⟩)
  dsimp only at k3 k4
  have e : (a - c) * (q.1 - p.1) + (b + d) * (q.2 - p.2) = (a * (q.1 - p.1) + b * (q.2 - p.2)) + (c * (-q.1 - -p.1) + d * (q.2 - p.2)) := by grind
  rw [e]
  rcases Int.lt_or_le q.1 p.1 with g | g
  · have := h1 q hq g
    have := k4 (by omega)
    omega
  · have := h2 q hq g
    rcases Int.lt_or_eq_of_le g with g2 | g2
    · have := k3 (by omega)
      omega
    · have := k4 (by omega)
      omega
theorem hul_sep {S : List P2} {p : P2} : hul S p ↔ ¬ sep S p := by
  constructor
  · rintro ⟨ha, hb⟩ ⟨a, b, h⟩
    have n1 : b < 0 := by
      rcases ha with ⟨u, hu, e, g⟩ | ⟨u, hu, v, hv, e1, e2, g⟩
      · have k := h u hu
        rw [e] at k
        simp at k
        rcases Int.lt_or_le b 0 with z | z
        · exact z
        · have := Int.mul_nonpos_of_nonneg_of_nonpos z (show u.2 - p.2 ≤ 0 by omega)
          omega
      · have k1 : 0 < (v.1 - p.1) * (a * (u.1 - p.1) + b * (u.2 - p.2)) := Int.mul_pos (by omega) (h u hu)
        have k2 : 0 < (p.1 - u.1) * (a * (v.1 - p.1) + b * (v.2 - p.2)) := Int.mul_pos (by omega) (h v hv)
        have e : b * ar u v p = -((v.1 - p.1) * (a * (u.1 - p.1) + b * (u.2 - p.2)) + (p.1 - u.1) * (a * (v.1 - p.1) + b * (v.2 - p.2))) := by unfold ar; grind
        rcases Int.lt_or_le b 0 with z | z
        · exact z
        · have := Int.mul_nonneg z g
          omega
    have n2 : 0 < b := by
      rcases hb with ⟨u, hu, e, g⟩ | ⟨u, hu, v, hv, e1, e2, g⟩
      · have k := h u hu
        rw [e] at k
        simp at k
        rcases Int.lt_or_le 0 b with z | z
        · exact z
        · have := Int.mul_nonneg_of_nonpos_of_nonpos z (show p.2 - u.2 ≤ 0 by omega)
          have e : b * (p.2 - u.2) = -(b * (u.2 - p.2)) := by grind
          exact absurd (Int.mul_nonpos_of_nonpos_of_nonneg z (show 0 ≤ u.2 - p.2 by omega)) (by omega)
      · have k1 : 0 < (v.1 - p.1) * (a * (u.1 - p.1) + b * (u.2 - p.2)) := Int.mul_pos (by omega) (h u hu)
        have k2 : 0 < (p.1 - u.1) * (a * (v.1 - p.1) + b * (v.2 - p.2)) := Int.mul_pos (by omega) (h v hv)
        have e : b * ar u v p = -((v.1 - p.1) * (a * (u.1 - p.1) + b * (u.2 - p.2)) + (p.1 - u.1) * (a * (v.1 - p.1) + b * (v.2 - p.2))) := by unfold ar; grind
        rcases Int.lt_or_le 0 b with z | z
        · exact z
        · have := Int.mul_nonneg_of_nonpos_of_nonpos z g
          omega
    omega
  · intro h
    refine ⟨Classical.byContradiction fun g => h (sep_abv g), Classical.byContradiction fun g => h ?_⟩
    obtain ⟨a, b, k⟩ := sep_abv (S := S.map fun q => (q.1, -q.2)) (p := (p.1, -p.2)) (fun z => g (blw_flip.mp z))
    refine ⟨a, -b, fun q hq => ?_⟩
    have := k _ (List.mem_map.mpr ⟨q, hq, rfl⟩)
    dsimp only at this
    grind
/-! ## what follows -/
theorem hul_self {S : List P2} {p : P2} (h : p ∈ S) : hul S p := ⟨.inl ⟨p, h, rfl, Int.le_refl _⟩, .inl ⟨p, h, rfl, Int.le_refl _⟩⟩
theorem hul_mono {S T : List P2} {p : P2} (h : ∀ q ∈ S, q ∈ T) (g : hul S p) : hul T p := ⟨abv_perm h g.1, blw_perm h g.2⟩
theorem hul_nil {p : P2} : ¬ hul [] p := fun ⟨h, _⟩ => by rcases h with ⟨u, hu, _⟩ | ⟨u, hu, _⟩ <;> cases hu
theorem hul_box {S : List P2} {p : P2} (h : hul S p) {a b c d : Int} (hb : ∀ p ∈ S, (a ≤ p.1 ∧ p.1 ≤ b) ∧ (c ≤ p.2 ∧ p.2 ≤ d)) : (a ≤ p.1 ∧ p.1 ≤ b) ∧ (c ≤ p.2 ∧ p.2 ≤ d) := by
  obtain ⟨⟨u, hu, g1⟩, v, hv, g2⟩ := abv_x h.1
  obtain ⟨w, hw, g3⟩ := abv_y h.1
  obtain ⟨z, hz, g4⟩ := blw_y h.2
  have := hb u hu
  have := hb v hv
  have := hb w hw
  have := hb z hz
  omega
/-- points of the hull add nothing -/
theorem hul_hul {S T : List P2} {p : P2} (h : ∀ q ∈ T, hul S q) (g : hul T p) : hul S p := by
  rw [hul_sep] at g ⊢
  rintro ⟨a, b, k⟩
  refine g ⟨a, b, fun t ht => ?_⟩
  have ht := h t ht
  rw [hul_sep] at ht
  have : ∃ q ∈ S, a * (q.1 - t.1) + b * (q.2 - t.2) ≤ 0 := Classical.byContradiction fun n => ht ⟨a, b, fun q hq => by
    rcases Int.lt_or_le 0 (a * (q.1 - t.1) + b * (q.2 - t.2)) with z | z
    · exact z
    · exact absurd ⟨q, hq, z⟩ n⟩
  obtain ⟨q, hq, z⟩ := this
  have := k q hq
  grind
def sw (p : P2) : P2 := (p.2, p.1)
theorem hul_sw {S : List P2} {p : P2} : hul (S.map sw) (sw p) ↔ hul S p := by
  rw [hul_sep, hul_sep]
  refine not_congr ⟨fun ⟨a, b, h⟩ => ⟨b, a, fun q hq => ?_⟩, fun ⟨a, b, h⟩ => ⟨b, a, fun q hq => ?_⟩⟩
  · have := h _ (List.mem_map.mpr ⟨q, hq, rfl⟩)
    unfold sw at this
    dsimp only at this
    omega
  · obtain ⟨w, hw, rfl⟩ := List.mem_map.mp hq
    have := h w hw
    unfold sw
    dsimp only
    omega
/-- how many points are in a box -/
theorem box_count {S : List P2} (nd : S.Nodup) {a c : Int} {w h : Nat} (hb : ∀ p ∈ S, (a ≤ p.1 ∧ p.1 < a + w) ∧ (c ≤ p.2 ∧ p.2 < c + h)) : S.length ≤ w * h := by
  have key : ∀ p ∈ S, (p.1 - a).toNat < w ∧ (p.2 - c).toNat < h := fun p hp => by have := hb p hp; omega
  have nd2 : (S.map fun p => h * (p.1 - a).toNat + (p.2 - c).toNat).Nodup := by
    rw [List.Nodup, List.pairwise_map]
    refine List.Pairwise.imp_of_mem (fun {p q} hp hq hne e => hne ?_) nd
    have kp := key p hp
    have kq := key q hq
    have bp := hb p hp
    have bq := hb q hq
    have h1 : (h * (p.1 - a).toNat + (p.2 - c).toNat) / h = (p.1 - a).toNat := by rw [Nat.mul_add_div (by omega), Nat.div_eq_of_lt kp.2, Nat.add_zero]
    have h2 : (h * (q.1 - a).toNat + (q.2 - c).toNat) / h = (q.1 - a).toNat := by rw [Nat.mul_add_div (by omega), Nat.div_eq_of_lt kq.2, Nat.add_zero]
    have e1 : (p.1 - a).toNat = (q.1 - a).toNat := by rw [← h1, e, h2]
    rw [e1] at e
    exact Prod.ext (by omega) (by omega)
  have := List.Nodup.length_le_of_subset (l₂ := List.range (w * h)) nd2 (fun x hx => by
    obtain ⟨p, hp, rfl⟩ := List.mem_map.mp hx
    obtain ⟨k1, k2⟩ := key p hp
    rw [List.mem_range]
    have : h * ((p.1 - a).toNat + 1) ≤ h * w := Nat.mul_le_mul_left _ (by omega)
    rw [Nat.mul_add] at this
    rw [Nat.mul_comm w h]
    omega)
  simpa using this
end Lw
set_option linter.all false
set_option Elab.async false
set_option maxRecDepth 100000
set_option maxHeartbeats 4000000
namespace Lw
/-! # corners, full shapes -/
/-- a corner: a line parts it from all others -/
def Xt (S : List P2) (e : P2) : Prop := e ∈ S ∧ ∃ a b : Int, ∀ q ∈ S, q ≠ e → 0 < a * (q.1 - e.1) + b * (q.2 - e.2)
/-- all grid points of its hull are there -/
def Full (S : List P2) : Prop := ∀ p, hul S p → p ∈ S
theorem Full.iff {S : List P2} (h : Full S) (p : P2) : hul S p ↔ p ∈ S := ⟨h p, hul_self⟩
theorem Full.drop {S : List P2} {e : P2} (h : Full S) (x : Xt S e) : Full (S.filter fun q => decide (q ≠ e)) := fun p hp => by
  have h1 : p ∈ S := h p (hul_mono (fun q hq => (List.mem_filter.mp hq).1) hp)
  refine List.mem_filter.mpr ⟨h1, ?_⟩
  simp only [decide_eq_true_eq]
  rintro rfl
  rw [hul_sep] at hp
  obtain ⟨_, a, b, k⟩ := x
  exact hp ⟨a, b, fun q hq => k q (List.mem_filter.mp hq).1 (by simpa using (List.mem_filter.mp hq).2)⟩
theorem Full.congr {S T : List P2} (h : Full S) (e : ∀ p, p ∈ T ↔ p ∈ S) : Full T := fun p hp => (e p).mpr (h p (hul_mono (fun q hq => (e q).mp hq) hp))
theorem Full.nil : Full [] := fun p h => absurd h hul_nil
/-- common points of full shapes -/
theorem Full.inter {S T : List P2} (h : Full S) (g : Full T) : Full (S.filter fun q => decide (q ∈ T)) := fun p hp => by
  refine List.mem_filter.mpr ⟨h p (hul_mono (fun q hq => (List.mem_filter.mp hq).1) hp), ?_⟩
  simp only [decide_eq_true_eq]
  exact g p (hul_mono (fun q hq => by simpa using (List.mem_filter.mp hq).2) hp)
def dst (h q : P2) : Int := ((q.1 - h.1).natAbs : Int) + ((q.2 - h.2).natAbs : Int)
theorem abs_le_all (S : List P2) (f : P2 → Int) : ∃ M : Int, 0 < M ∧ ∀ q ∈ S, -M < f q ∧ f q < M := by
  obtain ⟨A, a0, ha⟩ := le_all S f
  obtain ⟨B, b0, hb⟩ := le_all S fun q => - f q
  exact ⟨A + B + 1, by omega, fun q hq => by have := ha q hq; have := hb q hq; omega⟩
theorem natAbs_scale {k m x y : Int} (hk : 0 < k) (hm : 0 < m) (h : x * k = y * m) : (x.natAbs : Int) * k = (y.natAbs : Int) * m := by
  have h1 : (x * k).natAbs = (y * m).natAbs := by rw [h]
  rw [Int.natAbs_mul, Int.natAbs_mul] at h1
  have e1 : (k.natAbs : Int) = k := by omega
  have e2 : (m.natAbs : Int) = m := by omega
  rw [← e1, ← e2]
  exact_mod_cast h1
/-- from corner to corner -/
theorem Xt.next {es : List P2} {h q : P2} (hh : Xt es h) (hq : q ∈ es) (hne : q ≠ h) (hs : ∀ r ∈ es, ar h q r ≤ 0) (hf : ∀ r ∈ es, r ≠ h → (∀ r' ∈ es, ar h r r' ≤ 0) → dst h r ≤ dst h q) : Xt es q := by
  obtain ⟨mh, a, b, k⟩ := hh
  refine ⟨hq, ?_⟩
  obtain ⟨M, m0, hM⟩ := abs_le_all es fun r => a * (r.1 - q.1) + b * (r.2 - q.2)
  refine ⟨M * (q.2 - h.2) - a, -(M * (q.1 - h.1)) - b, fun r hr hrq => ?_⟩
  have e : (M * (q.2 - h.2) - a) * (r.1 - q.1) + (-(M * (q.1 - h.1)) - b) * (r.2 - q.2) = M * (- ar h q r) - (a * (r.1 - q.1) + b * (r.2 - q.2)) := by unfold ar; grind
  rw [e]
  have kM := hM r hr
  have s1 := hs r hr
  have kq := k q hq hne
  rcases Int.lt_or_eq_of_le s1 with g | g
  · have : M * 1 ≤ M * (- ar h q r) := Int.mul_le_mul_of_nonneg_left (by omega) (by omega)
    omega
  · rw [g]
    simp
    show a * (r.1 - q.1) + b * (r.2 - q.2) < 0
    by_cases c : r = h
    · subst c
      have : a * (r.1 - q.1) + b * (r.2 - q.2) = -(a * (q.1 - r.1) + b * (q.2 - r.2)) := by grind
      omega
    · have kr := k r hr c
      -- r - h is a multiple of q - h
      have z : (q.1 - h.1) * (r.2 - h.2) = (q.2 - h.2) * (r.1 - h.1) := by unfold ar at g; omega
      have x1 : (r.1 - h.1) * (a * (q.1 - h.1) + b * (q.2 - h.2)) = (q.1 - h.1) * (a * (r.1 - h.1) + b * (r.2 - h.2)) := by grind
      have x2 : (r.2 - h.2) * (a * (q.1 - h.1) + b * (q.2 - h.2)) = (q.2 - h.2) * (a * (r.1 - h.1) + b * (r.2 - h.2)) := by grind
      have fr := hf r hr c fun r' hr' => by
        have s' := hs r' hr'
        have e2 : ar h r r' * (a * (q.1 - h.1) + b * (q.2 - h.2)) = (a * (r.1 - h.1) + b * (r.2 - h.2)) * ar h q r' := by
          unfold ar
          have : ((r.1 - h.1) * (r'.2 - h.2) - (r.2 - h.2) * (r'.1 - h.1)) * (a * (q.1 - h.1) + b * (q.2 - h.2)) = ((r.1 - h.1) * (a * (q.1 - h.1) + b * (q.2 - h.2))) * (r'.2 - h.2) - ((r.2 - h.2) * (a * (q.1 - h.1) + b * (q.2 - h.2))) * (r'.1 - h.1) := by grind
          rw [this, x1, x2]
          grind
        rcases Int.lt_or_le 0 (ar h r r') with w | w
        · have := Int.mul_pos w kq
          have := Int.mul_nonpos_of_nonneg_of_nonpos (Int.le_of_lt kr) s'
          omega
        · exact w
      have n1 := natAbs_scale kq kr x1
      have n2 := natAbs_scale kq kr x2
      have d1 : dst h r * (a * (q.1 - h.1) + b * (q.2 - h.2)) = dst h q * (a * (r.1 - h.1) + b * (r.2 - h.2)) := by
        unfold dst
        rw [Int.add_mul, Int.add_mul, n1, n2]
      have dq : 0 < dst h q := by
        unfold dst
        have : q.1 ≠ h.1 ∨ q.2 ≠ h.2 := by
          by_cases c1 : q.1 = h.1
          · by_cases c2 : q.2 = h.2
            · exact absurd (Prod.ext c1 c2) hne
            · exact .inr c2
          · exact .inl c1
        omega
      have e3 : a * (r.1 - q.1) + b * (r.2 - q.2) = (a * (r.1 - h.1) + b * (r.2 - h.2)) - (a * (q.1 - h.1) + b * (q.2 - h.2)) := by grind
      rw [e3]
      generalize a * (q.1 - h.1) + b * (q.2 - h.2) = fu at *
      generalize a * (r.1 - h.1) + b * (r.2 - h.2) = fv at *
      have le : fv ≤ fu := by
        have : dst h r * fu ≤ dst h q * fu := Int.mul_le_mul_of_nonneg_right fr (by omega)
        rw [d1] at this
        exact Int.le_of_mul_le_mul_left this dq
      rcases Int.lt_or_eq_of_le le with w | w
      · omega
      · exfalso
        rw [w] at x1 x2
        have y1 := Int.eq_of_mul_eq_mul_right (by omega) x1
        have y2 := Int.eq_of_mul_eq_mul_right (by omega) x2
        exact hrq (Prod.ext (by omega) (by omega))
/-- the upmost of the leftmost is a corner -/
theorem Xt.first {es : List P2} {e : P2} (he : e ∈ es) (h1 : ∀ q ∈ es, e.1 ≤ q.1) (h2 : ∀ q ∈ es, q.1 = e.1 → q.2 ≤ e.2) : Xt es e := by
  obtain ⟨M, m0, hM⟩ := abs_le_all es fun r => r.2 - e.2
  refine ⟨he, M, -1, fun q hq hne => ?_⟩
  have k := hM q hq
  rcases Int.lt_or_eq_of_le (h1 q hq) with g | g
  · have : M * 1 ≤ M * (q.1 - e.1) := Int.mul_le_mul_of_nonneg_left (by omega) (by omega)
    omega
  · have := h2 q hq g.symm
    have n : q.2 ≠ e.2 := fun c => hne (Prod.ext g.symm c)
    rw [show q.1 - e.1 = 0 by omega]
    simp
    omega
theorem xt_of_ends {S es : List P2} (sub : ∀ e ∈ es, e ∈ S) (low : ∀ u ∈ S, ∃ e ∈ es, e.2 = u.2 ∧ e.1 ≤ u.1) (high : ∀ u ∈ S, ∃ e ∈ es, e.2 = u.2 ∧ u.1 ≤ e.1) {e : P2} (x : Xt es e) : Xt S e := by
  obtain ⟨he, a, b, k⟩ := x
  refine ⟨sub e he, a, b, fun u hu hne => ?_⟩
  obtain ⟨f, hf, f1, f2⟩ := low u hu
  obtain ⟨g, hg, g1, g2⟩ := high u hu
  have kf : f = e ∨ 0 < a * (f.1 - e.1) + b * (f.2 - e.2) := by
    by_cases c : f = e
    · exact .inl c
    · exact .inr (k f hf c)
  have kg : g = e ∨ 0 < a * (g.1 - e.1) + b * (g.2 - e.2) := by
    by_cases c : g = e
    · exact .inl c
    · exact .inr (k g hg c)
  rw [f1] at kf
  rw [g1] at kg
  have mono : ∀ x y : Int, x ≤ y → 0 ≤ a → a * (x - e.1) ≤ a * (y - e.1) := fun x y h1 h2 => Int.mul_le_mul_of_nonneg_left (by omega) h2
  have anti : ∀ x y : Int, x ≤ y → a ≤ 0 → a * (y - e.1) ≤ a * (x - e.1) := fun x y h1 h2 => Int.mul_le_mul_of_nonpos_left h2 (by omega)
  rcases kf with rfl | kf
  · rcases kg with rfl | kg
    · exact absurd (Prod.ext (by omega) f1.symm) hne
    · have e2 : u.2 - f.2 = 0 := by omega
      rw [e2] at kg ⊢
      simp at kg ⊢
      have p1 : f.1 < u.1 := by
        rcases Int.lt_or_eq_of_le f2 with z | z
        · exact z
        · exact absurd (Prod.ext z.symm f1.symm) hne
      have pa : 0 < a := by
        rcases Int.lt_or_le 0 a with z | z
        · exact z
        · have := Int.mul_nonpos_of_nonpos_of_nonneg z (show 0 ≤ g.1 - f.1 by omega)
          omega
      exact Int.mul_pos pa (by omega)
  · rcases kg with rfl | kg
    · have e2 : u.2 - g.2 = 0 := by omega
      rw [e2] at kf ⊢
      simp at kf ⊢
      have p1 : u.1 < g.1 := by
        rcases Int.lt_or_eq_of_le g2 with z | z
        · exact z
        · exact absurd (Prod.ext z g1.symm) hne
      have pa : a < 0 := by
        rcases Int.lt_or_le a 0 with z | z
        · exact z
        · have := Int.mul_nonpos_of_nonneg_of_nonpos z (show f.1 - g.1 ≤ 0 by omega)
          omega
      exact Int.mul_pos_of_neg_of_neg pa (by omega)
    · rcases Int.le_total 0 a with z | z
      · have := mono f.1 u.1 f2 z; omega
      · have := anti u.1 g.1 g2 z; omega
theorem xt_sw {S : List P2} {e : P2} : Xt (S.map sw) (sw e) ↔ Xt S e := by
  have inj : ∀ p q : P2, sw p = sw q → p = q := fun p q h => Prod.ext (congrArg Prod.snd h) (congrArg Prod.fst h)
  constructor
  · rintro ⟨h, a, b, k⟩
    obtain ⟨q, hq, e1⟩ := List.mem_map.mp h
    have := inj _ _ e1
    subst this
    refine ⟨hq, b, a, fun s hs hn => ?_⟩
    have := k (sw s) (List.mem_map.mpr ⟨s, hs, rfl⟩) (fun z => hn (inj _ _ z))
    unfold sw at this
    dsimp only at this
    omega
  · rintro ⟨h, a, b, k⟩
    refine ⟨List.mem_map.mpr ⟨e, h, rfl⟩, b, a, fun s hs hn => ?_⟩
    obtain ⟨q, hq, rfl⟩ := List.mem_map.mp hs
    have := k q hq (fun z => hn (by rw [z]))
    unfold sw
    dsimp only
    omega
theorem xt_hul {S : List P2} {p : P2} (hp : p ∈ S) : Xt S p ↔ ¬ hul (S.filter fun q => decide (q ≠ p)) p := by
  rw [hul_sep, Classical.not_not]
  constructor
  · rintro ⟨_, a, b, k⟩
    exact ⟨a, b, fun q hq => k q (List.mem_filter.mp hq).1 (by simpa using (List.mem_filter.mp hq).2)⟩
  · rintro ⟨a, b, k⟩
    exact ⟨hp, a, b, fun q hq hn => k q (List.mem_filter.mpr ⟨hq, by simpa using hn⟩)⟩
theorem OutOk.xt {S es : List P2} (h : OutOk S es) {e : P2} (x : Xt es e) : Xt S e := by
  rw [← xt_sw] at x ⊢
  refine xt_of_ends (fun e he => ?_) (fun u hu => ?_) (fun u hu => ?_) x
  · obtain ⟨q, hq, rfl⟩ := List.mem_map.mp he
    exact List.mem_map.mpr ⟨q, h.sub q hq, rfl⟩
  · obtain ⟨q, hq, rfl⟩ := List.mem_map.mp hu
    obtain ⟨f, hf, f1, f2⟩ := h.low q hq
    exact ⟨sw f, List.mem_map.mpr ⟨f, hf, rfl⟩, f1, f2⟩
  · obtain ⟨q, hq, rfl⟩ := List.mem_map.mp hu
    obtain ⟨f, hf, f1, f2⟩ := h.high q hq
    exact ⟨sw f, List.mem_map.mpr ⟨f, hf, rfl⟩, f1, f2⟩
theorem OutOk.hul {S es : List P2} (h : OutOk S es) {p : P2} : hul es p ↔ hul S p := and_congr h.abv h.blw
/-- a corner is an outmost point that the others do not hold -/
theorem OutOk.tip {S es : List P2} (h : OutOk S es) {p : P2} : Xt S p ↔ p ∈ es ∧ ¬ Lw.hul (es.filter fun q => decide (q ≠ p)) p := by
  constructor
  · intro x
    have n := (xt_hul x.1).mp x
    have sub : ∀ q ∈ es.filter (fun q => decide (q ≠ p)), q ∈ S.filter fun q => decide (q ≠ p) := fun q hq => List.mem_filter.mpr ⟨h.sub q (List.mem_filter.mp hq).1, (List.mem_filter.mp hq).2⟩
    refine ⟨Classical.byContradiction fun c => n ?_, fun g => n (hul_mono sub g)⟩
    refine hul_mono (S := es) (fun q hq => List.mem_filter.mpr ⟨h.sub q hq, ?_⟩) (h.hul.mpr (hul_self x.1))
    simp only [decide_eq_true_eq]
    rintro rfl
    exact c hq
  · rintro ⟨h1, h2⟩
    exact h.xt ((xt_hul h1).mpr h2)
end Lw
set_option linter.all false
set_option Elab.async false
set_option maxRecDepth 100000
set_option maxHeartbeats 4000000
namespace Lw
/-! # directions -/
abbrev vec (p q : P2) : P2 := (q.1 - p.1, q.2 - p.2)
def tw (u v : P2) : Int := u.1 * v.2 - u.2 * v.1
def dt (u v : P2) : Int := u.1 * v.1 + u.2 * v.2
/-- the least vector this way -/
def pvec (v : P2) : P2 := if Int.gcd v.1 v.2 = 0 then v else (v.1.fdiv (Int.gcd v.1 v.2), v.2.fdiv (Int.gcd v.1 v.2))
def Prime (d : P2) : Prop := Int.gcd d.1 d.2 = 1
instance (d : P2) : Decidable (Prime d) := by unfold Prime; exact inferInstance
theorem gcd_zero {v : P2} : Int.gcd v.1 v.2 = 0 ↔ v = (0, 0) := by
  rw [Int.gcd_eq_zero_iff]
  exact ⟨fun h => Prod.ext h.1 h.2, fun h => by rw [h]; exact ⟨rfl, rfl⟩⟩
theorem cop_dvd {s t x : Int} (h : Int.gcd s t = 1) (hd : s ∣ t * x) : s ∣ x := by
  rw [← Int.natAbs_dvd_natAbs] at hd ⊢
  rw [Int.natAbs_mul] at hd
  exact Nat.Coprime.dvd_of_dvd_mul_left h hd
/-- the points on the line through a vector -/
theorem on_line {s t x y : Int} (h : Int.gcd s t = 1) (e : s * y = t * x) : ∃ k : Int, x = k * s ∧ y = k * t := by
  by_cases hs : s = 0
  · subst hs
    rw [Int.gcd_zero_left] at h
    rw [Int.zero_mul] at e
    have ht : t = 1 ∨ t = -1 := by omega
    rcases ht with rfl | rfl
    · exact ⟨y, by omega, by omega⟩
    · exact ⟨-y, by omega, by omega⟩
  · obtain ⟨k, hk⟩ := cop_dvd h ⟨y, e.symm⟩
    refine ⟨k, by rw [hk, Int.mul_comm], ?_⟩
    rw [hk] at e
    have : s * y = s * (t * k) := by rw [e, ← Int.mul_assoc, ← Int.mul_assoc, Int.mul_comm t s]
    rw [Int.eq_of_mul_eq_mul_left hs this, Int.mul_comm]
theorem pvec_is {v : P2} (h : v ≠ (0, 0)) : Prime (pvec v) ∧ 0 < (Int.gcd v.1 v.2 : Int) ∧ v.1 = (Int.gcd v.1 v.2 : Int) * (pvec v).1 ∧ v.2 = (Int.gcd v.1 v.2 : Int) * (pvec v).2 := by
  have hg : Int.gcd v.1 v.2 ≠ 0 := fun z => h (gcd_zero.mp z)
  have e : pvec v = (v.1 / (Int.gcd v.1 v.2 : Int), v.2 / (Int.gcd v.1 v.2 : Int)) := by
    unfold pvec
    rw [if_neg hg, Int.fdiv_eq_ediv_of_nonneg _ (by omega), Int.fdiv_eq_ediv_of_nonneg _ (by omega)]
  rw [e]
  exact ⟨Int.gcd_ediv_gcd_ediv_gcd (by omega), by omega, by rw [Int.mul_comm]; exact (Int.ediv_mul_cancel (Int.gcd_dvd_left v.1 v.2)).symm, by rw [Int.mul_comm]; exact (Int.ediv_mul_cancel (Int.gcd_dvd_right v.1 v.2)).symm⟩
theorem Prime.ne {d : P2} (h : Prime d) : d ≠ (0, 0) := fun e => by
  unfold Prime at h
  rw [e] at h
  exact absurd h (by decide)
theorem dt_pos {d : P2} (h : d ≠ (0, 0)) : 0 < dt d d := by
  unfold dt
  have h1 : 0 ≤ d.1 * d.1 := by
    rcases Int.le_total 0 d.1 with z | z
    · exact Int.mul_nonneg z z
    · exact Int.mul_nonneg_of_nonpos_of_nonpos z z
  have h2 : 0 ≤ d.2 * d.2 := by
    rcases Int.le_total 0 d.2 with z | z
    · exact Int.mul_nonneg z z
    · exact Int.mul_nonneg_of_nonpos_of_nonpos z z
  have h3 : d.1 * d.1 = 0 → d.1 = 0 := fun z => by rcases Int.mul_eq_zero.mp z with w | w <;> exact w
  have h4 : d.2 * d.2 = 0 → d.2 = 0 := fun z => by rcases Int.mul_eq_zero.mp z with w | w <;> exact w
  rcases Int.lt_or_eq_of_le h1 with z | z
  · omega
  · rcases Int.lt_or_eq_of_le h2 with w | w
    · omega
    · exact absurd (Prod.ext (h3 z.symm) (h4 w.symm)) h
/-- which vectors go a prime way -/
theorem way_iff {d v : P2} (hd : Prime d) (hv : v ≠ (0, 0)) : pvec v = d ↔ tw d v = 0 ∧ 0 < dt d v := by
  obtain ⟨k1, k2, k3, k4⟩ := pvec_is hv
  have eg : (Int.gcd v.1 v.2 : Int) = (Int.gcd v.1 v.2 : Int) := rfl
  generalize hg : (Int.gcd v.1 v.2 : Int) = g at k2 k3 k4
  constructor
  · intro e
    rw [e] at k3 k4
    have hp := dt_pos hd.ne
    refine ⟨?_, ?_⟩
    · unfold tw; rw [k3, k4]; grind
    · have : dt d v = g * dt d d := by
        unfold dt
        rw [k3, k4]
        grind
      rw [this]
      exact Int.mul_pos k2 hp
  · rintro ⟨h1, h2⟩
    obtain ⟨k, x1, x2⟩ := on_line (x := v.1) (y := v.2) hd (by unfold tw at h1; omega)
    have e1 : dt d v = k * dt d d := by unfold dt; rw [x1, x2]; grind
    have hp := dt_pos hd.ne
    have kp : 0 < k := by
      rcases Int.lt_or_le 0 k with z | z
      · exact z
      · have := Int.mul_nonpos_of_nonpos_of_nonneg z (Int.le_of_lt hp)
        omega
    have ek : g = k := by
      rw [← hg, x1, x2, Int.gcd_mul_left]
      unfold Prime at hd
      rw [hd]
      omega
    subst ek
    rw [k3] at x1
    rw [k4] at x2
    exact Prod.ext (Int.eq_of_mul_eq_mul_left (by omega) x1) (Int.eq_of_mul_eq_mul_left (by omega) x2)
/-- q lies from the step d on, as seen from p -/
def lfr (p d q : P2) : Bool := if q = p then false else decide (0 < tw d (vec p q)) || (decide (tw d (vec p q) = 0) && decide (0 < dt d (vec p q)))
theorem lfr_iff {p d q : P2} : lfr p d q = true ↔ q ≠ p ∧ (0 < tw d (vec p q) ∨ (tw d (vec p q) = 0 ∧ 0 < dt d (vec p q))) := by
  unfold lfr
  by_cases h : q = p
  · simp [h]
  · rw [if_neg h]
    simp [h]
theorem vec_ne {p q : P2} (h : q ≠ p) : vec p q ≠ (0, 0) := fun e => h (Prod.ext (by have := congrArg Prod.fst e; dsimp only at this; omega) (by have := congrArg Prod.snd e; dsimp only at this; omega))
/-- a half turn of a full shape is full -/
theorem Full.half {S : List P2} (h : Full S) (p d : P2) : Full (S.filter (lfr p d)) := fun x hx => by
  have hS : x ∈ S := h x (hul_mono (fun q hq => (List.mem_filter.mp hq).1) hx)
  refine List.mem_filter.mpr ⟨hS, ?_⟩
  obtain ⟨M, m0, hM⟩ := abs_le_all S fun q => dt d (vec p q)
  have key : ∃ q ∈ S.filter (lfr p d), M * tw d (vec p q) + dt d (vec p q) ≤ M * tw d (vec p x) + dt d (vec p x) := by
    rw [hul_sep] at hx
    refine Classical.byContradiction fun n => hx ⟨d.1 - M * d.2, M * d.1 + d.2, fun q hq => ?_⟩
    have : ¬ (M * tw d (vec p q) + dt d (vec p q) ≤ M * tw d (vec p x) + dt d (vec p x)) := fun z => n ⟨q, hq, z⟩
    have e : (d.1 - M * d.2) * (q.1 - x.1) + (M * d.1 + d.2) * (q.2 - x.2) = (M * tw d (vec p q) + dt d (vec p q)) - (M * tw d (vec p x) + dt d (vec p x)) := by unfold tw dt vec; grind
    rw [e]
    omega
  have key2 : ∃ q ∈ S.filter (lfr p d), tw d (vec p q) ≤ tw d (vec p x) := by
    rw [hul_sep] at hx
    refine Classical.byContradiction fun n => hx ⟨- d.2, d.1, fun q hq => ?_⟩
    have : ¬ (tw d (vec p q) ≤ tw d (vec p x)) := fun z => n ⟨q, hq, z⟩
    have e : - d.2 * (q.1 - x.1) + d.1 * (q.2 - x.2) = tw d (vec p q) - tw d (vec p x) := by unfold tw vec; grind
    rw [e]
    omega
  obtain ⟨q, hq, k1⟩ := key
  obtain ⟨q', hq', k2⟩ := key2
  have l1 := lfr_iff.mp (List.mem_filter.mp hq).2
  have l2 := lfr_iff.mp (List.mem_filter.mp hq').2
  have bq := hM q (List.mem_filter.mp hq).1
  have t2 : 0 ≤ tw d (vec p x) := by omega
  have pq : 0 < M * tw d (vec p q) + dt d (vec p q) := by
    rcases l1.2 with z | ⟨z, w⟩
    · have : M * 1 ≤ M * tw d (vec p q) := Int.mul_le_mul_of_nonneg_left (by omega) (by omega)
      omega
    · rw [z]; omega
  have px : 0 < tw d (vec p x) ∨ (tw d (vec p x) = 0 ∧ 0 < dt d (vec p x)) := by
    rcases Int.lt_or_eq_of_le t2 with z | z
    · exact .inl z
    · rw [← z] at k1
      exact .inr ⟨z.symm, by omega⟩
  refine lfr_iff.mpr ⟨?_, px⟩
  rintro rfl
  unfold tw dt vec at px
  simp at px
/-- the first or the second half of the turn -/
def half1 (d : P2) : Bool := decide (0 < d.2) || (decide (d.2 = 0) && decide (0 < d.1))
def ahd (d e : P2) : Bool := if half1 d ≠ half1 e then half1 d else decide (0 < tw d e)
theorem half1_iff {d : P2} : half1 d = true ↔ 0 < d.2 ∨ (d.2 = 0 ∧ 0 < d.1) := by unfold half1; simp
theorem half1_not {d : P2} : half1 d = false ↔ ¬ (0 < d.2 ∨ (d.2 = 0 ∧ 0 < d.1)) := by rw [← half1_iff]; simp
theorem ahd_irr (d : P2) : ¬ ahd d d = true := by
  unfold ahd
  rw [if_neg (by simp)]
  unfold tw
  simp
  rw [Int.mul_comm]
  omega
theorem tw_tr1 {d e f : P2} (h1 : 0 < tw d e) (h2 : 0 < tw e f) (hd : half1 d = true) (he : half1 e = true) (hf : half1 f = true) : 0 < tw d f := by
  rw [half1_iff] at hd he hf
  have id : tw d f * e.2 = tw d e * f.2 + tw e f * d.2 := by unfold tw; grind
  have e2 : 0 < e.2 := by
    rcases he with z | ⟨z, w⟩
    · exact z
    · exfalso
      unfold tw at h1
      rw [z] at h1
      have := Int.mul_nonneg (show 0 ≤ d.2 by omega) (Int.le_of_lt w)
      omega
  have n1 := Int.mul_nonneg (Int.le_of_lt h1) (show 0 ≤ f.2 by omega)
  have n2 := Int.mul_nonneg (Int.le_of_lt h2) (show 0 ≤ d.2 by omega)
  have pos : 0 < tw d f * e.2 := by
    rw [id]
    rcases hf with z | ⟨z, w⟩
    · have := Int.mul_pos h1 z; omega
    · rcases hd with z' | ⟨z', w'⟩
      · have := Int.mul_pos h2 z'; omega
      · exfalso
        unfold tw at h2
        rw [z] at h2
        have := Int.mul_pos e2 w
        omega
  rcases Int.lt_or_le 0 (tw d f) with z | z
  · exact z
  · have := Int.mul_nonpos_of_nonpos_of_nonneg z (Int.le_of_lt e2)
    omega
theorem tw_nz {d e : P2} (h : 0 < tw d e) : d ≠ (0, 0) ∧ e ≠ (0, 0) := ⟨fun z => by rw [z] at h; unfold tw at h; simp at h, fun z => by rw [z] at h; unfold tw at h; simp at h⟩
theorem half1_neg {d : P2} (h : half1 d = false) (h0 : d ≠ (0, 0)) : half1 (-d.1, -d.2) = true := by
  rw [half1_not] at h
  rw [half1_iff]
  dsimp only
  by_cases z : d.2 = 0
  · have : d.1 ≠ 0 := fun w => h0 (Prod.ext w z)
    omega
  · omega
theorem tw_tr {d e f : P2} (h1 : 0 < tw d e) (h2 : 0 < tw e f) (hd : half1 d = half1 e) (he : half1 e = half1 f) : 0 < tw d f := by
  cases h : half1 f with
  | true => exact tw_tr1 h1 h2 (by rw [hd, he, h]) (by rw [he, h]) h
  | false =>
    have n : ∀ u v : P2, tw (-u.1, -u.2) (-v.1, -v.2) = tw u v := fun u v => by unfold tw; grind
    obtain ⟨a, b⟩ := tw_nz h1
    obtain ⟨_, c⟩ := tw_nz h2
    rw [← n] at h1 h2 ⊢
    exact tw_tr1 h1 h2 (half1_neg (by rw [hd, he, h]) a) (half1_neg (by rw [he, h]) b) (half1_neg h c)
theorem ahd_iff {d e : P2} : ahd d e = true ↔ (half1 d = true ∧ half1 e = false) ∨ (half1 d = half1 e ∧ 0 < tw d e) := by
  unfold ahd
  cases h1 : half1 d <;> cases h2 : half1 e <;> simp
theorem ahd_tr (d e f : P2) (h1 : ahd d e = true) (h2 : ahd e f = true) : ahd d f = true := by
  rw [ahd_iff] at *
  rcases h1 with ⟨a, b⟩ | ⟨a, b⟩
  · rcases h2 with ⟨c, g⟩ | ⟨c, g⟩
    · rw [b] at c; cases c
    · exact .inl ⟨a, by rw [← c]; exact b⟩
  · rcases h2 with ⟨c, g⟩ | ⟨c, g⟩
    · exact .inl ⟨by rw [a]; exact c, g⟩
    · exact .inr ⟨by rw [a]; exact c, tw_tr b g a c⟩
theorem half_dt {d e : P2} (hd : Prime d) (he : e ≠ (0, 0)) (hh : half1 d = half1 e) (z : tw d e = 0) : 0 < dt d e := by
  obtain ⟨k, x1, x2⟩ := on_line (x := e.1) (y := e.2) hd (by unfold tw at z; omega)
  have e1 : dt d e = k * dt d d := by unfold dt; rw [x1, x2]; grind
  rw [e1]
  refine Int.mul_pos ?_ (dt_pos hd.ne)
  rcases Int.lt_or_le 0 k with w | w
  · exact w
  · exfalso
    have k0 : k ≠ 0 := by
      rintro rfl
      exact he (Prod.ext (by rw [x1]; simp) (by rw [x2]; simp))
    have neg : ∀ x : Int, 0 < x → k * x < 0 := fun x hx => Int.mul_neg_of_neg_of_pos (by omega) hx
    have pos : ∀ x : Int, x < 0 → 0 < k * x := fun x hx => Int.mul_pos_of_neg_of_neg (by omega) hx
    cases h1 : half1 d with
    | true =>
      rw [h1] at hh
      have g1 := half1_iff.mp h1
      have g2 := half1_iff.mp hh.symm
      rw [x1, x2] at g2
      rcases g1 with g | ⟨g, g'⟩
      · have := neg _ g; omega
      · rw [g] at g2
        have := neg _ g'
        simp at g2
        omega
    | false =>
      rw [h1] at hh
      have g1 := half1_not.mp h1
      have g2 := half1_not.mp hh.symm
      rw [x1, x2] at g2
      rcases Int.lt_or_eq_of_le (show d.2 ≤ 0 by omega) with g | g
      · have := pos _ g; omega
      · rw [g] at g2 g1
        have d1 : d.1 < 0 := by
          have : d.1 ≠ 0 := fun y => hd.ne (Prod.ext y g)
          omega
        have := pos _ d1
        simp at g2
        omega
/-- unlike prime directions stand in order -/
theorem ahd_tot {d e : P2} (hd : Prime d) (he : Prime e) (h : d ≠ e) : ahd d e = true ∨ ahd e d = true := by
  rw [ahd_iff, ahd_iff]
  have sw : tw e d = - tw d e := by unfold tw; grind
  cases h1 : half1 d <;> cases h2 : half1 e <;> simp
  · by_cases z : tw d e = 0
    · exfalso
      exact h (((way_iff hd he.ne).mpr ⟨z, half_dt hd he.ne (by rw [h1, h2]) z⟩).symm.trans ((way_iff he he.ne).mpr ⟨by unfold tw; rw [Int.mul_comm]; omega, dt_pos he.ne⟩))
    · omega
  · by_cases z : tw d e = 0
    · exfalso
      exact h (((way_iff hd he.ne).mpr ⟨z, half_dt hd he.ne (by rw [h1, h2]) z⟩).symm.trans ((way_iff he he.ne).mpr ⟨by unfold tw; rw [Int.mul_comm]; omega, dt_pos he.ne⟩))
    · omega
/-! ## in a triangle -/
/-- some three points hold it -/
theorem hul_three {S : List P2} {p : P2} (h : hul S p) : ∃ a ∈ S, ∃ b ∈ S, ∃ c ∈ S, inTP a b c p := by
  have mk : ∀ a ∈ S, ∀ b ∈ S, ∀ c ∈ S, abv [a, b, c] p → blw [a, b, c] p → ∃ a ∈ S, ∃ b ∈ S, ∃ c ∈ S, inTP a b c p := fun a ha b hb c hc h1 h2 => ⟨a, ha, b, hb, c, hc, tri_rows.mpr ⟨h1, h2⟩⟩
  obtain ⟨h1, h2⟩ := h
  rcases h1 with ⟨u, hu, e1, g1⟩ | ⟨u, hu, v, hv, e1, e2, g1⟩
  · rcases h2 with ⟨w, hw, f1, k1⟩ | ⟨w, hw, z, hz, f1, f2, k1⟩
    · exact mk u hu w hw w hw (.inl ⟨u, by simp, e1, g1⟩) (.inl ⟨w, by simp, f1, k1⟩)
    · exact mk u hu w hw z hz (.inl ⟨u, by simp, e1, g1⟩) (.inr ⟨w, by simp, z, by simp, f1, f2, k1⟩)
  · rcases h2 with ⟨w, hw, f1, k1⟩ | ⟨w, hw, z, hz, f1, f2, k1⟩
    · exact mk u hu v hv w hw (.inr ⟨u, by simp, v, by simp, e1, e2, g1⟩) (.inl ⟨w, by simp, f1, k1⟩)
    · rcases Int.le_total (ar w v p) 0 with y | y
      · exact mk u hu v hv w hw (.inr ⟨u, by simp, v, by simp, e1, e2, g1⟩) (.inr ⟨w, by simp, v, by simp, f1, e2, y⟩)
      · exact mk w hw v hv z hz (.inr ⟨w, by simp, v, by simp, f1, e2, y⟩) (.inr ⟨w, by simp, z, by simp, f1, f2, k1⟩)
theorem three_hul {S : List P2} {p a b c : P2} (ha : a ∈ S) (hb : b ∈ S) (hc : c ∈ S) (h : inTP a b c p) : hul S p := by
  refine hul_mono (S := [a, b, c]) (fun q hq => ?_) (tri_rows.mp h)
  simp at hq
  rcases hq with rfl | rfl | rfl <;> assumption
/-- the signs tell the box, unless all are 0 -/
theorem sgn_box {a b c p : P2} (h : sgn3 (ar a b p) (ar b c p) (ar c a p)) (h0 : ¬ (ar a b p = 0 ∧ ar b c p = 0 ∧ ar c a p = 0)) : inTP a b c p := by
  refine ⟨h, ?_⟩
  have bx := bary_x a b c p
  have by' := bary_y a b c p
  have key : ∀ {f g k x y z : Int}, ((0 ≤ x ∧ 0 ≤ y ∧ 0 ≤ z) ∨ (x ≤ 0 ∧ y ≤ 0 ∧ z ≤ 0)) → ¬ (x = 0 ∧ y = 0 ∧ z = 0) → g * z + k * x + f * y = 0 → (0 ≤ f ∨ 0 ≤ g ∨ 0 ≤ k) ∧ (f ≤ 0 ∨ g ≤ 0 ∨ k ≤ 0) := fun {f g k x y z} h n e => by
    have np : ∀ {u v : Int}, 0 < u → 0 ≤ v → 0 ≤ u * v ∧ (v ≠ 0 → 0 < u * v) := fun h1 h2 => ⟨Int.mul_nonneg (by omega) h2, fun h3 => Int.mul_pos h1 (by omega)⟩
    have pn : ∀ {u v : Int}, 0 < u → v ≤ 0 → u * v ≤ 0 ∧ (v ≠ 0 → u * v < 0) := fun h1 h2 => ⟨Int.mul_nonpos_of_nonneg_of_nonpos (by omega) h2, fun h3 => Int.mul_neg_of_pos_of_neg h1 (by omega)⟩
    have nn : ∀ {u v : Int}, u < 0 → 0 ≤ v → u * v ≤ 0 ∧ (v ≠ 0 → u * v < 0) := fun h1 h2 => ⟨Int.mul_nonpos_of_nonpos_of_nonneg (by omega) h2, fun h3 => Int.mul_neg_of_neg_of_pos h1 (by omega)⟩
    have nn2 : ∀ {u v : Int}, u < 0 → v ≤ 0 → 0 ≤ u * v ∧ (v ≠ 0 → 0 < u * v) := fun h1 h2 => ⟨Int.mul_nonneg_of_nonpos_of_nonpos (by omega) h2, fun h3 => Int.mul_pos_of_neg_of_neg h1 (by omega)⟩
    constructor
    · by_cases hf : 0 ≤ f
      · exact .inl hf
      · by_cases hg : 0 ≤ g
        · exact .inr (.inl hg)
        · by_cases hk : 0 ≤ k
          · exact .inr (.inr hk)
          · exfalso
            rcases h with ⟨h1, h2, h3⟩ | ⟨h1, h2, h3⟩
            · have a1 := @nn g z (by omega) h3; have a2 := @nn k x (by omega) h1; have a3 := @nn f y (by omega) h2
              by_cases x0 : x = 0
              · by_cases y0 : y = 0
                · have := a1.2 (fun z0 => n ⟨x0, y0, z0⟩); omega
                · have := a3.2 y0; omega
              · have := a2.2 x0; omega
            · have a1 := @nn2 g z (by omega) h3; have a2 := @nn2 k x (by omega) h1; have a3 := @nn2 f y (by omega) h2
              by_cases x0 : x = 0
              · by_cases y0 : y = 0
                · have := a1.2 (fun z0 => n ⟨x0, y0, z0⟩); omega
                · have := a3.2 y0; omega
              · have := a2.2 x0; omega
    · by_cases hf : f ≤ 0
      · exact .inl hf
      · by_cases hg : g ≤ 0
        · exact .inr (.inl hg)
        · by_cases hk : k ≤ 0
          · exact .inr (.inr hk)
          · exfalso
            rcases h with ⟨h1, h2, h3⟩ | ⟨h1, h2, h3⟩
            · have a1 := @np g z (by omega) h3; have a2 := @np k x (by omega) h1; have a3 := @np f y (by omega) h2
              by_cases x0 : x = 0
              · by_cases y0 : y = 0
                · have := a1.2 (fun z0 => n ⟨x0, y0, z0⟩); omega
                · have := a3.2 y0; omega
              · have := a2.2 x0; omega
            · have a1 := @pn g z (by omega) h3; have a2 := @pn k x (by omega) h1; have a3 := @pn f y (by omega) h2
              by_cases x0 : x = 0
              · by_cases y0 : y = 0
                · have := a1.2 (fun z0 => n ⟨x0, y0, z0⟩); omega
                · have := a3.2 y0; omega
              · have := a2.2 x0; omega
  obtain ⟨k1, k2⟩ := key h h0 bx
  obtain ⟨k3, k4⟩ := key h h0 by'
  refine ⟨⟨?_, ?_⟩, ?_, ?_⟩
  · rcases k1 with h | h | h
    · exact .inl (by omega)
    · exact .inr (.inl (by omega))
    · exact .inr (.inr (by omega))
  · rcases k2 with h | h | h
    · exact .inl (by omega)
    · exact .inr (.inl (by omega))
    · exact .inr (.inr (by omega))
  · rcases k3 with h | h | h
    · exact .inl (by omega)
    · exact .inr (.inl (by omega))
    · exact .inr (.inr (by omega))
  · rcases k4 with h | h | h
    · exact .inl (by omega)
    · exact .inr (.inl (by omega))
    · exact .inr (.inr (by omega))
/-! ## steps put in turn -/
def insT (st : List P2) (d : P2) : List P2 := if d ∈ st then st else (st.filter fun e => ahd e d) ++ [d] ++ st.filter fun e => decide (e ∉ st.filter fun e => ahd e d)
theorem insT_mem {st : List P2} {d e : P2} : e ∈ insT st d ↔ e ∈ st ∨ e = d := by
  unfold insT
  by_cases h : d ∈ st
  · rw [if_pos h]
    exact ⟨.inl, fun h2 => h2.elim id fun e1 => e1 ▸ h⟩
  · rw [if_neg h]
    simp only [List.mem_append, List.mem_filter, List.mem_singleton, decide_eq_true_eq]
    constructor
    · rintro ((⟨a, _⟩ | a) | ⟨a, _⟩)
      · exact .inl a
      · exact .inr a
      · exact .inl a
    · rintro (a | a)
      · by_cases c : ahd e d = true
        · exact .inl (.inl ⟨a, c⟩)
        · exact .inr ⟨a, fun z => c z.2⟩
      · exact .inl (.inr a)
theorem insT_len {st : List P2} {d : P2} : (insT st d).length ≤ 2 * st.length + 1 := by
  unfold insT
  split
  · omega
  · simp only [List.length_append, List.length_singleton]
    have h1 := List.length_filter_le (fun e => ahd e d) st
    have h2 := List.length_filter_le (fun e => decide (e ∉ st.filter fun e => ahd e d)) st
    omega
abbrev Trn (st : List P2) : Prop := st.Pairwise fun d e => ahd d e = true
theorem insT_trn {st : List P2} {d : P2} (h : Trn st) (hp : ∀ e ∈ st, Prime e) (hd : Prime d) : Trn (insT st d) := by
  unfold insT
  by_cases c : d ∈ st
  · rw [if_pos c]; exact h
  · rw [if_neg c]
    unfold Trn
    have beh : ∀ e ∈ st.filter (fun e => decide (e ∉ st.filter fun e => ahd e d)), e ∈ st ∧ ahd d e = true := fun e he => by
      rw [List.mem_filter, decide_eq_true_eq, List.mem_filter] at he
      refine ⟨he.1, ?_⟩
      rcases ahd_tot hd (hp e he.1) (fun z => c (z ▸ he.1)) with g | g
      · exact g
      · exact absurd ⟨he.1, g⟩ he.2
    have fr : ∀ e ∈ st.filter (fun e => ahd e d), ahd e d = true := fun e he => (List.mem_filter.mp he).2
    rw [List.pairwise_append, List.pairwise_append]
    refine ⟨⟨h.filter _, by simp, fun a ha b hb => by rw [List.mem_singleton.mp hb]; exact fr a ha⟩, h.filter _, fun a ha b hb => ?_⟩
    obtain ⟨_, hb2⟩ := beh b hb
    rcases List.mem_append.mp ha with ha | ha
    · exact ahd_tr _ _ _ (fr a ha) hb2
    · rw [List.mem_singleton.mp ha]; exact hb2
theorem Trn.nodup {st : List P2} (h : Trn st) : st.Nodup := List.Pairwise.imp (S := (· ≠ ·)) (fun {a b} h e => ahd_irr a (by rw [← e] at h; exact h)) h
theorem trn_eq {as bs : List P2} (h : Trn as) (g : Trn bs) (e : ∀ p, p ∈ as ↔ p ∈ bs) : as = bs := asc_ext ahd_irr ahd_tr h g e
/-- the steps from p to all others, in turn -/
structure StepsOk (S : List P2) (p : P2) (st : List P2) : Prop where
  trn : Trn st
  mem : ∀ d, d ∈ st ↔ ∃ q ∈ S, q ≠ p ∧ pvec (vec p q) = d
theorem StepsOk.prime {S : List P2} {p : P2} {st : List P2} (h : StepsOk S p st) {d : P2} (hd : d ∈ st) : Prime d := by
  obtain ⟨q, _, hq, rfl⟩ := (h.mem d).mp hd
  exact (pvec_is (vec_ne hq)).1
theorem StepsOk.len {S : List P2} {p : P2} {st : List P2} (h : StepsOk S p st) : st.length ≤ S.length := by
  have := List.Nodup.length_le_of_subset (l₁ := st) (l₂ := S.map fun q => pvec (vec p q)) h.trn.nodup (fun d hd => by
    obtain ⟨q, hq, _, e⟩ := (h.mem d).mp hd
    exact List.mem_map.mpr ⟨q, hq, e⟩)
  simpa using this
theorem StepsOk.nil (p : P2) : StepsOk [] p [] := ⟨.nil, fun d => by simp⟩
theorem StepsOk.push {S : List P2} {p q : P2} {st : List P2} (h : StepsOk S p st) (hq : q ≠ p) : StepsOk (S ++ [q]) p (insT st (pvec (vec p q))) := by
  refine ⟨insT_trn h.trn (fun e he => h.prime he) (pvec_is (vec_ne hq)).1, fun d => ?_⟩
  rw [insT_mem, h.mem]
  constructor
  · rintro (⟨x, hx, h1, h2⟩ | rfl)
    · exact ⟨x, List.mem_append_left _ hx, h1, h2⟩
    · exact ⟨q, by simp, hq, rfl⟩
  · rintro ⟨x, hx, h1, h2⟩
    rcases List.mem_append.mp hx with hx | hx
    · exact .inl ⟨x, hx, h1, h2⟩
    · rw [List.mem_singleton.mp hx] at h2; exact .inr h2.symm
theorem StepsOk.skip {S : List P2} {p : P2} {st : List P2} (h : StepsOk S p st) : StepsOk (S ++ [p]) p st := by
  refine ⟨h.trn, fun d => ?_⟩
  rw [h.mem]
  constructor
  · rintro ⟨x, hx, h1, h2⟩
    exact ⟨x, List.mem_append_left _ hx, h1, h2⟩
  · rintro ⟨x, hx, h1, h2⟩
    rcases List.mem_append.mp hx with hx | hx
    · exact ⟨x, hx, h1, h2⟩
    · exact absurd (List.mem_singleton.mp hx) h1
/-- a point beyond the hull: from some step on all points lie -/
theorem beside {S : List P2} {p : P2} (h0 : S ≠ []) (h : ¬ hul S p) : ∃ q ∈ S, q ≠ p ∧ ∀ r ∈ S, lfr p (pvec (vec p q)) r = true := by
  have hs : sep S p := Classical.byContradiction fun n => h (hul_sep.mpr n)
  obtain ⟨a, b, k⟩ := hs
  have nep : ∀ r ∈ S, r ≠ p := fun r hr e => by
    have := k r hr
    rw [e] at this
    simp at this
  obtain ⟨q, hq, hm⟩ := exists_top (r := fun u w : P2 => 0 ≤ tw (vec p u) (vec p w)) (ok := fun u => 0 < a * (u.1 - p.1) + b * (u.2 - p.2)) (fun u w _ _ => by
    have : tw (vec p w) (vec p u) = - tw (vec p u) (vec p w) := by unfold tw; grind
    omega) (fun u v w hu hv hw h1 h2 => by
    have e : (a * (v.1 - p.1) + b * (v.2 - p.2)) * tw (vec p u) (vec p w) = (a * (w.1 - p.1) + b * (w.2 - p.2)) * tw (vec p u) (vec p v) + (a * (u.1 - p.1) + b * (u.2 - p.2)) * tw (vec p v) (vec p w) := by unfold tw vec; grind
    have n1 := Int.mul_nonneg (Int.le_of_lt hw) h1
    have n2 := Int.mul_nonneg (Int.le_of_lt hu) h2
    rcases Int.lt_or_le (tw (vec p u) (vec p w)) 0 with z | z
    · have := Int.mul_neg_of_pos_of_neg hv z
      omega
    · exact z) h0 k
  refine ⟨q, hq, nep q hq, fun r hr => lfr_iff.mpr ⟨nep r hr, ?_⟩⟩
  obtain ⟨k1, k2, k3, k4⟩ := pvec_is (vec_ne (nep q hq))
  have t := hm r hr
  have fr := k r hr
  have fq := k q hq
  generalize (Int.gcd (vec p q).1 (vec p q).2 : Int) = g at *
  generalize pvec (vec p q) = d at *
  have e1 : tw (vec p q) (vec p r) = g * tw d (vec p r) := by unfold tw; rw [k3, k4]; grind
  rw [e1] at t
  have t2 : 0 ≤ tw d (vec p r) := (pos_ge k2).mp t
  rcases Int.lt_or_eq_of_le t2 with z | z
  · exact .inl z
  · refine .inr ⟨z.symm, ?_⟩
    obtain ⟨m, x1, x2⟩ := on_line (x := (vec p r).1) (y := (vec p r).2) k1 (by unfold tw at z; omega)
    have e2 : dt d (vec p r) = m * dt d d := by unfold dt; rw [x1, x2]; grind
    rw [e2]
    refine Int.mul_pos ?_ (dt_pos k1.ne)
    have fd : 0 < a * d.1 + b * d.2 := by
      have : a * (q.1 - p.1) + b * (q.2 - p.2) = g * (a * d.1 + b * d.2) := by
        have y1 : q.1 - p.1 = g * d.1 := k3
        have y2 : q.2 - p.2 = g * d.2 := k4
        rw [y1, y2]; grind
      rw [this] at fq
      rcases Int.lt_or_le 0 (a * d.1 + b * d.2) with w | w
      · exact w
      · have := Int.mul_nonpos_of_nonneg_of_nonpos (Int.le_of_lt k2) w
        omega
    have e3 : a * (r.1 - p.1) + b * (r.2 - p.2) = m * (a * d.1 + b * d.2) := by
      have y1 : r.1 - p.1 = m * d.1 := x1
      have y2 : r.2 - p.2 = m * d.2 := x2
      rw [y1, y2]; grind
    rw [e3] at fr
    rcases Int.lt_or_le 0 m with w | w
    · exact w
    · have := Int.mul_nonpos_of_nonpos_of_nonneg w (Int.le_of_lt fd)
      omega
end Lw
set_option linter.all false
set_option Elab.async false
set_option maxRecDepth 100000
set_option maxHeartbeats 4000000
namespace Lw
/-! # chains and rings -/
/-- ahead in the order of columns -/
def lp (v : P2) : Prop := 0 < v.1 ∨ (v.1 = 0 ∧ 0 < v.2)
theorem lp_vec {p q : P2} : lp (vec p q) ↔ lexLt p q := by unfold lp vec lexLt; dsimp only; omega
theorem tw_le {u v w : P2} (hu : lp u) (hv : lp v) (hw : lp w) (h1 : tw u v ≤ 0) (h2 : tw v w ≤ 0) : tw u w ≤ 0 := by
  unfold lp at *
  have id : tw u w * v.1 = tw u v * w.1 + tw v w * u.1 := by unfold tw; grind
  rcases hv with z | ⟨z, y⟩
  · have n1 := Int.mul_nonpos_of_nonpos_of_nonneg h1 (show 0 ≤ w.1 by omega)
    have n2 := Int.mul_nonpos_of_nonpos_of_nonneg h2 (show 0 ≤ u.1 by omega)
    rcases Int.lt_or_le 0 (tw u w) with k | k
    · have := Int.mul_pos k z; omega
    · exact k
  · unfold tw at h1 ⊢
    rw [z] at h1
    simp at h1
    have u1 : u.1 = 0 := by
      rcases Int.lt_or_le 0 u.1 with k | k
      · have := Int.mul_pos k y; omega
      · omega
    rw [u1]
    have := Int.mul_nonneg (show 0 ≤ u.2 by omega) (show 0 ≤ w.1 by omega)
    omega
theorem tw_lt1 {u v w : P2} (hu : lp u) (hv : lp v) (hw : lp w) (h1 : tw u v < 0) (h2 : tw v w ≤ 0) : tw u w < 0 := by
  have k := tw_le hu hv hw (Int.le_of_lt h1) h2
  rcases Int.lt_or_eq_of_le k with k | k
  · exact k
  · exfalso
    unfold lp at *
    have id : tw u w * v.1 = tw u v * w.1 + tw v w * u.1 := by unfold tw; grind
    rw [k, Int.zero_mul] at id
    rcases hv with z | ⟨z, y⟩
    · have n2 := Int.mul_nonpos_of_nonpos_of_nonneg h2 (show 0 ≤ u.1 by omega)
      rcases hw with y | ⟨y, x⟩
      · have := Int.mul_neg_of_neg_of_pos h1 y; omega
      · unfold tw at h2
        rw [y] at h2
        have := Int.mul_pos z x
        omega
    · unfold tw at h1
      rw [z] at h1
      have := Int.mul_nonneg (show 0 ≤ u.1 by omega) (Int.le_of_lt y)
      omega
theorem tw_lt2 {u v w : P2} (hu : lp u) (hv : lp v) (hw : lp w) (h1 : tw u v ≤ 0) (h2 : tw v w < 0) : tw u w < 0 := by
  have k := tw_le hu hv hw h1 (Int.le_of_lt h2)
  rcases Int.lt_or_eq_of_le k with k | k
  · exact k
  · exfalso
    unfold lp at *
    have id : tw u w * v.1 = tw u v * w.1 + tw v w * u.1 := by unfold tw; grind
    rw [k, Int.zero_mul] at id
    rcases hv with z | ⟨z, y⟩
    · have n2 := Int.mul_nonpos_of_nonpos_of_nonneg h1 (show 0 ≤ w.1 by omega)
      rcases hu with y | ⟨y, x⟩
      · have := Int.mul_neg_of_neg_of_pos h2 y; omega
      · -- u upright
        unfold tw at k h2
        rw [y] at k
        simp at k
        have w0 : w.1 = 0 := by rcases Int.mul_eq_zero.mp k with a | a <;> omega
        rw [w0] at h2
        have := Int.mul_pos z (show 0 < w.2 by omega)
        omega
    · unfold tw at h1 k
      rw [z] at h1
      simp at h1
      have u1 : u.1 = 0 := by
        rcases Int.lt_or_le 0 u.1 with k | k
        · have := Int.mul_pos k y; omega
        · omega
      rw [u1] at k
      simp at k
      have w0 : w.1 = 0 := by rcases Int.mul_eq_zero.mp k with a | a <;> omega
      unfold tw at h2
      rw [z, w0] at h2
      simp at h2
theorem ar_tw {a b c : P2} : ar a b c = tw (vec a b) (vec a c) := by unfold ar tw vec; grind
theorem ar_tw2 {a b c : P2} : ar a b c = tw (vec a b) (vec b c) := by unfold ar tw vec; grind
theorem tw_sw (u v : P2) : tw v u = - tw u v := by unfold tw; grind
/-! ## the chain -/
def popT (p : P2) : List P2 → List P2
  | b :: a :: r => if 0 ≤ ar a b p then popT p (a :: r) else b :: a :: r
  | st => st
def chn (st : List P2) : List P2 → List P2
  | [] => st
  | p :: ps => chn (p :: popT p st) ps
/-- consecutive pairs of a stack, later one first -/
def Bend : List P2 → Prop
  | c :: b :: a :: r => ar a b c < 0 ∧ Bend (b :: a :: r)
  | _ => True
def Right (Q : List P2) : List P2 → Prop
  | b :: a :: r => (∀ q ∈ Q, ar a b q ≤ 0) ∧ Right Q (a :: r)
  | _ => True
abbrev Desc (st : List P2) : Prop := st.Pairwise fun a b => lexLt b a
/-- the stack behind the points Q -/
structure ChOk (Q st : List P2) : Prop where
  sub : ∀ p ∈ st, p ∈ Q
  desc : Desc st
  bend : Bend st
  right : Right Q st
  bot : ∀ q ∈ Q, ∀ m ∈ st.getLast?, q = m ∨ lexLt m q
theorem Right.mono {Q Q' : List P2} (h : ∀ q ∈ Q', q ∈ Q) : ∀ {st : List P2}, Right Q st → Right Q' st
  | [], _ => trivial
  | [_], _ => trivial
  | b :: a :: r, ⟨h1, h2⟩ => ⟨fun q hq => h1 q (h q hq), Right.mono h h2⟩
/-- what stands right of the last edge stands right of all, if the chain bends -/
theorem right_new {p : P2} : ∀ {b a : P2} {r : List P2}, Desc (b :: a :: r) → lexLt b p → Bend (b :: a :: r) → ar a b p < 0 → Right [p] (b :: a :: r)
  | b, a, [], _, _, _, h => ⟨fun q hq => by rw [List.mem_singleton.mp hq]; omega, trivial⟩
  | b, a, z :: r, hd, hp, hb, h => by
    have d1 : lexLt a b := (List.pairwise_cons.mp hd).1 a (by simp)
    have hd2 := (List.pairwise_cons.mp hd).2
    have d2 : lexLt z a := (List.pairwise_cons.mp hd2).1 z (by simp)
    refine ⟨fun q hq => by rw [List.mem_singleton.mp hq]; omega, right_new hd2 (lexLt_tr _ _ _ d1 hp) hb.2 ?_⟩
    have h1 := hb.1
    rw [ar_tw2] at h1 h ⊢
    have e : tw (vec z a) (vec a p) = tw (vec z a) (vec a b) + tw (vec z a) (vec b p) := by unfold tw vec; grind
    have := tw_lt1 (lp_vec.mpr d2) (lp_vec.mpr d1) (lp_vec.mpr hp) h1 (Int.le_of_lt h)
    omega
theorem right_app {p : P2} {Q : List P2} : ∀ {st : List P2}, Right Q st → Right [p] st → Right (Q ++ [p]) st
  | [], _, _ => trivial
  | [_], _, _ => trivial
  | b :: a :: r, ⟨h1, h2⟩, ⟨g1, g2⟩ => ⟨fun q hq => by
      rcases List.mem_append.mp hq with hq | hq
      · exact h1 q hq
      · exact g1 q hq, right_app h2 g2⟩
/-- popping -/
theorem pop_ok {Q : List P2} {p : P2} (hQ : ∀ q ∈ Q, lexLt q p) : ∀ {r0 : List P2} {c : P2}, ChOk Q (c :: r0) → (∀ q ∈ Q, lexLt c q → ar c p q ≤ 0) →
    ∃ b r, popT p (c :: r0) = b :: r ∧ ChOk Q (b :: r) ∧ (∀ q ∈ Q, ar b p q ≤ 0) ∧ (∀ a r', r = a :: r' → ar a b p < 0) ∧ (c :: r0).getLast? = (b :: r).getLast?
  | [], c, ok, hc => by
    refine ⟨c, [], rfl, ok, fun q hq => ?_, fun a r' e => (nomatch e), rfl⟩
    rcases ok.bot q hq c (by simp) with rfl | h
    · rw [ar_aba]; omega
    · exact hc q hq h
  | b :: r, c, ok, hc => by
    have cQ := ok.sub c (by simp)
    have bQ := ok.sub b (by simp)
    have dc : lexLt b c := (List.pairwise_cons.mp ok.desc).1 b (by simp)
    have cp := hQ c cQ
    have rg := ok.right.1
    by_cases h : 0 ≤ ar b c p
    · have e : popT p (c :: b :: r) = popT p (b :: r) := by rw [popT, if_pos h]
      have ok2 : ChOk Q (b :: r) := ⟨fun x hx => ok.sub x (List.mem_cons_of_mem _ hx), (List.pairwise_cons.mp ok.desc).2, by
        have := ok.bend
        cases r with
        | nil => trivial
        | cons a r => exact this.2, ok.right.2, fun q hq m hm => ok.bot q hq m (by rw [List.getLast?_cons_cons]; exact hm)⟩
      obtain ⟨b', r', e2, k⟩ := pop_ok hQ ok2 fun q hq hlt => by
        have h1 := rg q hq
        rw [ar_tw] at h h1 ⊢
        have := tw_sw (vec b c) (vec b p)
        exact tw_le (lp_vec.mpr (hQ b bQ)) (lp_vec.mpr dc) (lp_vec.mpr hlt) (by omega) h1
      exact ⟨b', r', e.trans e2, k.1, k.2.1, k.2.2.1, by rw [List.getLast?_cons_cons]; exact k.2.2.2⟩
    · refine ⟨c, b :: r, by rw [popT, if_neg h], ok, fun q hq => ?_, fun a r' e => by cases e; omega, rfl⟩
      by_cases hlt : lexLt c q
      · exact hc q hq hlt
      · by_cases e : q = c
        · rw [e, ar_aba]; omega
        · have ql : lexLt q c := by
            unfold lexLt at *
            have : ¬ (q.1 = c.1 ∧ q.2 = c.2) := fun z => e (Prod.ext z.1 z.2)
            omega
          have h1 := rg q hq
          have h2 : ar b c p < 0 := by omega
          rw [ar_tw2] at h2
          have k1 : tw (vec q c) (vec b c) ≤ 0 := by
            have : tw (vec q c) (vec b c) = ar b c q := by unfold ar tw vec; grind
            omega
          have := tw_le (lp_vec.mpr ql) (lp_vec.mpr dc) (lp_vec.mpr cp) k1 (Int.le_of_lt h2)
          have e3 : ar c p q = tw (vec q c) (vec c p) := by unfold ar tw vec; grind
          omega
theorem push_ok {Q : List P2} {p : P2} (hQ : ∀ q ∈ Q, lexLt q p) {c : P2} {r0 : List P2} (ok : ChOk Q (c :: r0)) (hc : ∀ q ∈ Q, q = c ∨ lexLt q c) : ChOk (Q ++ [p]) (p :: popT p (c :: r0)) ∧ (p :: popT p (c :: r0)).getLast? = (c :: r0).getLast? := by
  obtain ⟨b, r, e, k1, k2, k3, k4⟩ := pop_ok hQ ok fun q hq hlt => by
    rcases hc q hq with rfl | h
    · exact absurd hlt (lexLt_irr _)
    · exact absurd (lexLt_tr _ _ _ hlt h) (lexLt_irr _)
  rw [e]
  have bp := hQ b (k1.sub b (by simp))
  refine ⟨⟨fun x hx => ?_, ?_, ?_, ?_, fun q hq m hm => ?_⟩, by rw [List.getLast?_cons_cons]; exact k4.symm⟩
  · rcases List.mem_cons.mp hx with rfl | hx
    · simp
    · exact List.mem_append_left _ (k1.sub x hx)
  · exact List.pairwise_cons.mpr ⟨fun x hx => hQ x (k1.sub x hx), k1.desc⟩
  · cases r with
    | nil => trivial
    | cons a r => exact ⟨k3 a r rfl, k1.bend⟩
  · refine ⟨fun q hq => ?_, right_app k1.right ?_⟩
    · rcases List.mem_append.mp hq with hq | hq
      · exact k2 q hq
      · rw [List.mem_singleton.mp hq, ar_abb]; omega
    · cases r with
      | nil => trivial
      | cons a r => exact right_new k1.desc bp k1.bend (k3 a r rfl)
  · rw [List.getLast?_cons_cons] at hm
    rcases List.mem_append.mp hq with hq | hq
    · exact k1.bot q hq m hm
    · rw [List.mem_singleton.mp hq]
      exact .inr (hQ m (k1.sub m (List.mem_of_getLast? hm)))
theorem chn_ok : ∀ {ps Q : List P2} {c : P2} {r0 : List P2}, ChOk Q (c :: r0) → (∀ q ∈ Q, q = c ∨ lexLt q c) → Asc (Q ++ ps) →
    ∃ d r, chn (c :: r0) ps = d :: r ∧ ChOk (Q ++ ps) (d :: r) ∧ (∀ q ∈ Q ++ ps, q = d ∨ lexLt q d) ∧ (d :: r).getLast? = (c :: r0).getLast?
  | [], Q, c, r0, ok, hc, _ => ⟨c, r0, rfl, by simpa using ok, by simpa using hc, rfl⟩
  | p :: ps, Q, c, r0, ok, hc, ha => by
    have hQ : ∀ q ∈ Q, lexLt q p := fun q hq => (List.pairwise_append.mp ha).2.2 q hq p (by simp)
    obtain ⟨k1, k2⟩ := push_ok hQ ok hc
    have ea : Q ++ p :: ps = (Q ++ [p]) ++ ps := by simp
    rw [ea] at ha ⊢
    obtain ⟨d, r, e1, e2, e3, e4⟩ := chn_ok (ps := ps) k1 (fun q hq => by
      rcases List.mem_append.mp hq with hq | hq
      · exact .inr (hQ q hq)
      · exact .inl (List.mem_singleton.mp hq)) ha
    exact ⟨d, r, e1, e2, e3, by rw [e4, k2]⟩
/-- the whole chain of points in order, first one first -/
def chain (S : List P2) : List P2 := (chn [] S).reverse
theorem chain_is {m : P2} {S : List P2} (ha : Asc (m :: S)) : ∃ st d r, st = d :: r ∧ chain (m :: S) = st.reverse ∧ ChOk (m :: S) st ∧ (∀ q ∈ m :: S, q = d ∨ lexLt q d) ∧ st.getLast? = some m := by
  have ok : ChOk [m] [m] := ⟨fun x hx => hx, by simp, trivial, trivial, fun q hq x hx => by simp at hx hq; left; rw [hq, hx]⟩
  obtain ⟨d, r, e1, e2, e3, e4⟩ := chn_ok (ps := S) ok (fun q hq => .inl (List.mem_singleton.mp hq)) ha
  exact ⟨d :: r, d, r, rfl, by unfold chain; rw [chn]; show (chn [m] S).reverse = _; rw [e1], e2, e3, by rw [e4]; rfl⟩

/-! ## consecutive pairs -/
def prs : List P2 → List (P2 × P2)
  | a :: b :: r => (a, b) :: prs (b :: r)
  | _ => []
theorem mem_prs {a b : P2} : ∀ {l : List P2}, (a, b) ∈ prs l ↔ ∃ x y, l = x ++ a :: b :: y
  | [] => by simp [prs]
  | [c] => by
    simp only [prs, List.not_mem_nil, false_iff]
    rintro ⟨x, y, h⟩
    cases x with
    | nil => simp at h
    | cons d x => simp at h
  | c :: d :: r => by
    rw [prs, List.mem_cons, mem_prs]
    constructor
    · rintro (h | ⟨x, y, h⟩)
      · cases h; exact ⟨[], r, rfl⟩
      · exact ⟨c :: x, y, by rw [h]; rfl⟩
    · rintro ⟨x, y, h⟩
      cases x with
      | nil =>
        simp at h
        obtain ⟨rfl, rfl, rfl⟩ := h
        exact .inl rfl
      | cons e x =>
        simp at h
        exact .inr ⟨x, y, h.2⟩
theorem mem_prs_rev {a b : P2} {l : List P2} : (a, b) ∈ prs l.reverse ↔ (b, a) ∈ prs l := by
  rw [mem_prs, mem_prs]
  constructor
  · rintro ⟨x, y, h⟩
    have := congrArg List.reverse h
    rw [List.reverse_reverse] at this
    exact ⟨y.reverse, x.reverse, by rw [this]; simp⟩
  · rintro ⟨x, y, h⟩
    exact ⟨y.reverse, x.reverse, by rw [h]; simp⟩
theorem prs_app {c : P2} {y : List P2} : ∀ {x : List P2}, prs (x ++ c :: y) = prs (x ++ [c]) ++ prs (c :: y)
  | [] => rfl
  | [a] => rfl
  | a :: b :: x => by
    show (a, b) :: prs (b :: x ++ c :: y) = ((a, b) :: prs (b :: x ++ [c])) ++ _
    rw [prs_app]
    rfl
theorem prs_map (f : P2 → P2) : ∀ l : List P2, prs (l.map f) = (prs l).map fun e => (f e.1, f e.2)
  | [] => rfl
  | [a] => rfl
  | a :: b :: r => by
    show (f a, f b) :: prs ((b :: r).map f) = _
    rw [prs_map f (b :: r)]
    rfl
theorem right_prs {Q : List P2} : ∀ {st : List P2}, Right Q st → ∀ a b, (b, a) ∈ prs st → ∀ q ∈ Q, ar a b q ≤ 0
  | [], _, a, b, h => by simp [prs] at h
  | [_], _, a, b, h => by simp [prs] at h
  | c :: d :: r, hr, a, b, h => by
    rw [prs, List.mem_cons] at h
    rcases h with h | h
    · cases h; exact hr.1
    · exact right_prs hr.2 a b h
theorem bend_at {u q v : P2} : ∀ {y x : List P2}, Bend (y ++ v :: q :: u :: x) → ar u q v < 0
  | [], x, h => h.1
  | [c], x, h => h.2.1
  | c :: d :: y, x, h => by
    refine bend_at (y := d :: y) (x := x) ?_
    cases y with
    | nil => exact h.2
    | cons e y => exact h.2
/-! ## a chain, first point first -/
structure ChainOk (S C : List P2) (m M : P2) : Prop where
  sub : ∀ p ∈ C, p ∈ S
  asc : Asc C
  head : C.head? = some m
  last : C.getLast? = some M
  edge : ∀ e ∈ prs C, ∀ q ∈ S, ar e.1 e.2 q ≤ 0
  bend : ∀ x u q v y, C = x ++ u :: q :: v :: y → ar u q v < 0
theorem chain_ok {S : List P2} {m M : P2} (ha : Asc S) (hm : S.head? = some m) (hM : S.getLast? = some M) : ChainOk S (chain S) m M := by
  cases S with
  | nil => cases hm
  | cons a S =>
    cases hm
    obtain ⟨st, d, r, e1, e2, ok, e3, e4⟩ := chain_is ha
    have hd : d = M := by
      have mm := List.mem_of_getLast? hM
      have dm : d ∈ m :: S := ok.sub d (by rw [e1]; simp)
      rcases e3 M mm with h | h
      · exact h.symm
      · exfalso
        obtain ⟨i, hi, hid⟩ := List.mem_iff_getElem.mp dm
        rw [List.getLast?_eq_getElem?] at hM
        obtain ⟨hl, hMe⟩ := List.getElem?_eq_some_iff.mp hM
        rcases Nat.lt_or_ge i ((m :: S).length - 1) with z | z
        · have := List.pairwise_iff_getElem.mp ha i _ hi hl z
          rw [hid, hMe] at this
          exact lexLt_irr _ (lexLt_tr _ _ _ this h)
        · have : i = (m :: S).length - 1 := by omega
          subst this
          rw [hid] at hMe
          rw [hMe] at h
          exact lexLt_irr _ h
    subst hd
    rw [e2]
    refine ⟨fun p hp => ok.sub p (List.mem_reverse.mp hp), ?_, by rw [List.head?_reverse]; exact e4, by rw [List.getLast?_reverse, e1]; rfl, fun e he q hq => ?_, fun x u q v y h => ?_⟩
    · unfold Asc
      rw [List.pairwise_reverse]
      exact ok.desc
    · obtain ⟨a, b⟩ := e
      exact right_prs ok.right a b (mem_prs_rev.mp he) q hq
    · have := congrArg List.reverse h
      rw [List.reverse_reverse] at this
      have hb := ok.bend
      rw [this] at hb
      refine bend_at (y := y.reverse) (x := x.reverse) ?_
      simpa using hb
def ng (p : P2) : P2 := (-p.1, -p.2)
theorem ar_ng (a b c : P2) : ar (ng a) (ng b) (ng c) = ar a b c := by unfold ar ng; grind
theorem ng_ng (a : P2) : ng (ng a) = a := by unfold ng; simp
theorem popT_ng (p : P2) : ∀ st : List P2, popT (ng p) (st.map ng) = (popT p st).map ng
  | [] => rfl
  | [_] => rfl
  | b :: a :: r => by
    show popT (ng p) (ng b :: ng a :: r.map ng) = _
    rw [popT, popT, ar_ng]
    split
    · exact popT_ng p (a :: r)
    · rfl
theorem chn_ng : ∀ (ps st : List P2), chn (st.map ng) (ps.map ng) = (chn st ps).map ng
  | [], st => rfl
  | p :: ps, st => by
    show chn (ng p :: popT (ng p) (st.map ng)) (ps.map ng) = _
    rw [popT_ng, ← List.map_cons, chn_ng ps]
    rfl
theorem chain_ng (S : List P2) : chain (S.map ng) = (chain S).map ng := by
  unfold chain
  rw [List.map_reverse, ← chn_ng S []]
  rfl
theorem lex_ng {a b : P2} : lexLt (ng a) (ng b) ↔ lexLt b a := by unfold lexLt ng; dsimp only; omega
/-- the lower chain -/
theorem chain_low {S : List P2} {m M : P2} (ha : Asc S) (hm : S.head? = some m) (hM : S.getLast? = some M) : ChainOk (S.map ng) (chain (S.reverse.map ng)) (ng M) (ng m) := by
  have a2 : Asc (S.reverse.map ng) := by
    unfold Asc
    rw [List.pairwise_map, List.pairwise_reverse]
    exact ha.imp fun h => lex_ng.mpr h
  have ok := chain_ok (m := ng M) (M := ng m) a2 (by rw [List.head?_map, List.head?_reverse, hM]; rfl) (by rw [List.getLast?_map, List.getLast?_reverse, hm]; rfl)
  have mem : ∀ p, p ∈ S.reverse.map ng ↔ p ∈ S.map ng := fun p => by simp
  exact ⟨fun p hp => (mem p).mp (ok.sub p hp), ok.asc, ok.head, ok.last, fun e he q hq => ok.edge e he q ((mem q).mpr hq), ok.bend⟩
/-! ## rings -/
def edg (R : List P2) : List (P2 × P2) := prs (R ++ R.take 1)
def ringOf (S : List P2) : List P2 := if S.length < 2 then S else (chain S).dropLast ++ (chain S.reverse).dropLast
structure RingOk (S R : List P2) : Prop where
  nodup : R.Nodup
  xt : ∀ p ∈ R, Xt S p
  edge : ∀ e ∈ edg R, ∀ q ∈ S, ar e.1 e.2 q ≤ 0
  head : R.head? = S.head?
  two : 2 ≤ S.length → 2 ≤ R.length
theorem xt_mid {S : List P2} {u q v : P2} (hq : q ∈ S) (h1 : ∀ s ∈ S, ar u q s ≤ 0) (h2 : ∀ s ∈ S, ar q v s ≤ 0) (h3 : ar u q v < 0) : Xt S q := by
  refine ⟨hq, v.2 - u.2, -(v.1 - u.1), fun s hs hne => ?_⟩
  have k1 := h1 s hs
  have k2 := h2 s hs
  have e : (v.2 - u.2) * (s.1 - q.1) + -(v.1 - u.1) * (s.2 - q.2) = - ar u q s - ar q v s := by unfold ar; grind
  rw [e]
  have n : ¬ (ar u q s = 0 ∧ ar q v s = 0) := fun ⟨z1, z2⟩ => by
    have i1 : (s.1 - q.1) * ar u q v = (v.1 - q.1) * ar u q s - (q.1 - u.1) * ar q v s := by unfold ar; grind
    have i2 : (s.2 - q.2) * ar u q v = (v.2 - q.2) * ar u q s - (q.2 - u.2) * ar q v s := by unfold ar; grind
    rw [z1, z2, Int.mul_zero, Int.mul_zero, Int.sub_zero] at i1 i2
    have j1 := Int.mul_eq_zero.mp i1
    have j2 := Int.mul_eq_zero.mp i2
    exact hne (Prod.ext (by omega) (by omega))
  omega
theorem xt_min {S : List P2} {m : P2} (hm : m ∈ S) (h : ∀ q ∈ S, q = m ∨ lexLt m q) : Xt S m := by
  obtain ⟨M, m0, hM⟩ := abs_le_all S fun r => r.2 - m.2
  refine ⟨hm, M, 1, fun q hq hne => ?_⟩
  have k := hM q hq
  rcases h q hq with rfl | h
  · exact absurd rfl hne
  · unfold lexLt at h
    rcases h with h | ⟨h1, h2⟩
    · have : M * 1 ≤ M * (q.1 - m.1) := Int.mul_le_mul_of_nonneg_left (by omega) (by omega)
      omega
    · rw [show q.1 - m.1 = 0 by omega]
      simp
      omega
theorem Xt.ng {S : List P2} {p : P2} (h : Xt (S.map Lw.ng) (Lw.ng p)) : Xt S p := by
  obtain ⟨h1, a, b, k⟩ := h
  obtain ⟨q, hq, e⟩ := List.mem_map.mp h1
  have e2 : q = p := by
    have := congrArg Lw.ng e
    rwa [ng_ng, ng_ng] at this
  subst e2
  refine ⟨hq, -a, -b, fun s hs hne => ?_⟩
  have := k (Lw.ng s) (List.mem_map.mpr ⟨s, hs, rfl⟩) (fun z => hne (by have := congrArg Lw.ng z; rwa [ng_ng, ng_ng] at this))
  unfold Lw.ng at this
  dsimp only at this
  grind
/-- what stands in the midst of a chain bends at the ends -/
theorem ChainOk.mid {S C : List P2} {m M u q v : P2} {x y : List P2} (h : ChainOk S C m M) (e : C = x ++ u :: q :: v :: y) : ar m q M < 0 ∧ Xt S q := by
  have eu : (u, q) ∈ prs C := mem_prs.mpr ⟨x, v :: y, e⟩
  have ev : (q, v) ∈ prs C := mem_prs.mpr ⟨x ++ [u], y, by rw [e]; simp⟩
  have hb := h.bend x u q v y e
  have mC : m ∈ C := List.mem_of_head? h.head
  have MC : M ∈ C := List.mem_of_getLast? h.last
  have hq : q ∈ S := h.sub q (by rw [e]; simp)
  have h1 := h.edge _ eu m (h.sub m mC)
  have h2 := h.edge _ ev M (h.sub M MC)
  dsimp only at h1 h2
  have asc := h.asc
  rw [e] at asc
  have uq : lexLt u q := by
    have := (List.pairwise_append.mp asc).2.1
    exact (List.pairwise_cons.mp this).1 q (by simp)
  have qv : lexLt q v := by
    have := (List.pairwise_append.mp asc).2.1
    exact (List.pairwise_cons.mp (List.pairwise_cons.mp this).2).1 v (by simp)
  have mq : lexLt m q := by
    have hd := h.head
    rw [e] at hd
    cases x with
    | nil => cases hd; exact uq
    | cons c x =>
      cases hd
      exact (List.pairwise_cons.mp asc).1 q (by simp)
  have qM : lexLt q M := by
    have hl := h.last
    rw [e] at hl
    have : (x ++ u :: q :: v :: y).getLast? = (v :: y).getLast? := by
      rw [show x ++ u :: q :: v :: y = (x ++ [u, q]) ++ v :: y by simp, List.getLast?_append]
      cases h : (v :: y).getLast? with
      | none => simp at h
      | some a => rfl
    rw [this] at hl
    have Mm := List.mem_of_getLast? hl
    have := (List.pairwise_cons.mp (List.pairwise_cons.mp (List.pairwise_append.mp asc).2.1).2).1
    exact this M Mm
  refine ⟨?_, xt_mid hq (h.edge _ eu) (h.edge _ ev) hb⟩
  have k1 : tw (vec m q) (vec u q) ≤ 0 := by
    have : tw (vec m q) (vec u q) = ar u q m := by unfold ar tw vec; grind
    omega
  have k2 : tw (vec u q) (vec q v) < 0 := by rw [← ar_tw2]; exact hb
  have k3 : tw (vec q v) (vec q M) ≤ 0 := by rw [← ar_tw]; exact h2
  rw [ar_tw2]
  exact tw_lt1 (lp_vec.mpr mq) (lp_vec.mpr qv) (lp_vec.mpr qM) (tw_lt2 (lp_vec.mpr mq) (lp_vec.mpr uq) (lp_vec.mpr qv) k1 k2) k3
theorem split_ends {m M : P2} (h : m ≠ M) : ∀ {l : List P2}, l.head? = some m → l.getLast? = some M → ∃ A, l = m :: A ++ [M]
  | [], h1, _ => by cases h1
  | [a], h1, h2 => by
    cases h1; cases h2
    exact absurd rfl h
  | a :: b :: r, h1, h2 => by
    cases h1
    rw [List.getLast?_cons_cons] at h2
    obtain ⟨A, e⟩ : ∃ A, b :: r = A ++ [M] := ⟨(b :: r).dropLast, by
      have := List.dropLast_concat_getLast (l := b :: r) (by simp)
      rw [List.getLast?_eq_some_getLast (by simp)] at h2
      cases h2
      exact this.symm⟩
    exact ⟨A, by rw [e]; rfl⟩
theorem mid_of {m M q : P2} {A : List P2} (h : q ∈ A) : ∃ x u v y, m :: A ++ [M] = x ++ u :: q :: v :: y := by
  obtain ⟨a1, a2, rfl⟩ := List.append_of_mem h
  obtain ⟨x, u, e1⟩ : ∃ x u, m :: a1 = x ++ [u] := ⟨(m :: a1).dropLast, (m :: a1).getLast (by simp), (List.dropLast_concat_getLast (by simp)).symm⟩
  obtain ⟨v, y, e2⟩ : ∃ v y, a2 ++ [M] = v :: y := by
    cases a2 with
    | nil => exact ⟨M, [], rfl⟩
    | cons c a2 => exact ⟨c, a2 ++ [M], rfl⟩
  refine ⟨x, u, v, y, ?_⟩
  rw [show m :: (a1 ++ q :: a2) ++ [M] = (m :: a1) ++ q :: (a2 ++ [M]) by simp, e1, e2]
  simp
theorem asc_least {S : List P2} {m : P2} (ha : Asc S) (hm : S.head? = some m) : ∀ q ∈ S, q = m ∨ lexLt m q := by
  cases S with
  | nil => cases hm
  | cons a S =>
    cases hm
    intro q hq
    rcases List.mem_cons.mp hq with h | h
    · exact .inl h
    · exact .inr ((List.pairwise_cons.mp ha).1 q h)
theorem asc_most {S : List P2} {M : P2} (ha : Asc S) (hM : S.getLast? = some M) : ∀ q ∈ S, q = M ∨ lexLt q M := by
  intro q hq
  have a2 : Asc (S.reverse.map ng) := by
    unfold Asc
    rw [List.pairwise_map, List.pairwise_reverse]
    exact ha.imp fun h => lex_ng.mpr h
  have := asc_least a2 (m := ng M) (by rw [List.head?_map, List.head?_reverse, hM]; rfl) (ng q) (List.mem_map.mpr ⟨q, by simpa using hq, rfl⟩)
  rcases this with h | h
  · left
    have := congrArg ng h
    rwa [ng_ng, ng_ng] at this
  · exact .inr (lex_ng.mp h)
theorem ring_ok {S : List P2} (ha : Asc S) : RingOk S (ringOf S) := by
  unfold ringOf
  by_cases h2 : S.length < 2
  · rw [if_pos h2]
    match S, h2 with
    | [], _ => exact ⟨.nil, fun p h => (nomatch h), fun e h => (nomatch h), rfl, id⟩
    | [a], _ =>
      refine ⟨by simp, fun p h => ?_, fun e he q hq => ?_, rfl, id⟩
      · rw [List.mem_singleton.mp h]
        exact ⟨by simp, 0, 0, fun q hq hn => absurd (List.mem_singleton.mp hq) hn⟩
      · simp [edg, prs] at he
        rw [he]
        dsimp only
        rw [ar_aab]; omega
    | _ :: _ :: _, h => simp at h; omega
  · rw [if_neg h2]
    obtain ⟨m, hm⟩ : ∃ m, S.head? = some m := by
      cases S with
      | nil => simp at h2
      | cons a S => exact ⟨a, rfl⟩
    obtain ⟨M, hM⟩ : ∃ M, S.getLast? = some M := ⟨_, List.getLast?_eq_some_getLast (by intro e; rw [e] at hm; cases hm)⟩
    have mS := List.mem_of_head? hm
    have MS := List.mem_of_getLast? hM
    have hne : m ≠ M := by
      rintro rfl
      match S, h2, hm, hM with
      | a :: b :: r, _, hm, hM =>
        cases hm
        rw [List.getLast?_cons_cons] at hM
        exact lexLt_irr _ ((List.pairwise_cons.mp ha).1 m (List.mem_of_getLast? hM))
      | [a], h2, _, _ => simp at h2
      | [], h2, _, _ => simp at h2
    have U := chain_ok ha hm hM
    have L := chain_low ha hm hM
    rw [chain_ng] at L
    have lh : (chain S.reverse).head? = some M := by
      have := L.head
      rw [List.head?_map, Option.map_eq_some_iff] at this
      obtain ⟨x, h1, h3⟩ := this
      have := congrArg ng h3
      rw [ng_ng, ng_ng] at this
      rw [h1, this]
    have ll : (chain S.reverse).getLast? = some m := by
      have := L.last
      rw [List.getLast?_map, Option.map_eq_some_iff] at this
      obtain ⟨x, h1, h3⟩ := this
      have := congrArg ng h3
      rw [ng_ng, ng_ng] at this
      rw [h1, this]
    obtain ⟨A, eA⟩ := split_ends hne U.head U.last
    obtain ⟨B, eB⟩ := split_ends (fun z => hne z.symm) lh ll
    have Le : ∀ e ∈ prs (chain S.reverse), ∀ q ∈ S, ar e.1 e.2 q ≤ 0 := fun e he q hq => by
      have := L.edge (ng e.1, ng e.2) (by rw [prs_map]; exact List.mem_map.mpr ⟨e, he, rfl⟩) (ng q) (List.mem_map.mpr ⟨q, hq, rfl⟩)
      dsimp only at this
      rwa [ar_ng] at this
    have aU := U.asc
    have aL := L.asc
    have Ue := U.edge
    have Um : ∀ q, q ∈ A → ar m q M < 0 ∧ Xt S q := fun q h => by
      obtain ⟨x, u, v, y, e⟩ := mid_of (m := m) (M := M) h
      exact U.mid (eA.trans e)
    have Lm : ∀ q, q ∈ B → ar M q m < 0 ∧ Xt S q := fun q h => by
      obtain ⟨x, u, v, y, e⟩ := mid_of (m := M) (M := m) h
      obtain ⟨h1, h3⟩ := L.mid (x := x.map ng) (u := ng u) (q := ng q) (v := ng v) (y := y.map ng) (by rw [eB, e]; simp)
      rw [ar_ng] at h1
      exact ⟨h1, h3.ng⟩
    rw [eA] at aU Ue
    rw [eB] at Le aL
    have nU := aU.nodup
    have nL : (M :: B ++ [m]).Nodup := (List.pairwise_map.mp aL.nodup).imp fun {a b} h e => h (by rw [e])
    have eR : (chain S).dropLast ++ (chain S.reverse).dropLast = (m :: A) ++ (M :: B) := by
      rw [eA, eB]
      rw [List.dropLast_concat, List.dropLast_concat]
    rw [eR]
    have xm : Xt S m := xt_min mS (asc_least ha hm)
    have xM : Xt S M := by
      refine Xt.ng (xt_min (List.mem_map.mpr ⟨M, MS, rfl⟩) fun q hq => ?_)
      obtain ⟨s, hs, rfl⟩ := List.mem_map.mp hq
      rcases asc_most ha hM s hs with rfl | h
      · exact .inl rfl
      · exact .inr (lex_ng.mpr h)
    refine ⟨?_, fun p hp => ?_, fun e he q hq => ?_, ?_, fun _ => by simp; omega⟩
    · rw [List.nodup_append]
      refine ⟨(List.nodup_append.mp nU).1, (List.nodup_append.mp nL).1, fun x hx y hy e => ?_⟩
      subst e
      have n1 : x ≠ M := (List.nodup_append.mp nU).2.2 x hx M (by simp)
      have n2 : x ≠ m := (List.nodup_append.mp nL).2.2 x hy m (by simp)
      have hA : x ∈ A := (List.mem_cons.mp hx).elim (fun z => absurd z n2) id
      have hB : x ∈ B := (List.mem_cons.mp hy).elim (fun z => absurd z n1) id
      have k1 := (Um x hA).1
      have k2 := (Lm x hB).1
      have := ar_rev m x M
      omega
    · rcases List.mem_append.mp hp with hp | hp
      · rcases List.mem_cons.mp hp with rfl | hp
        · exact xm
        · exact (Um p hp).2
      · rcases List.mem_cons.mp hp with rfl | hp
        · exact xM
        · exact (Lm p hp).2
    · unfold edg at he
      rw [show (m :: A ++ M :: B) ++ (m :: A ++ M :: B).take 1 = (m :: A) ++ M :: (B ++ [m]) by simp, prs_app] at he
      rcases List.mem_append.mp he with he | he
      · exact Ue e he q hq
      · exact Le e he q hq
    · rw [hm]; rfl

/-! ## what a ring tells -/
theorem lp_same {u v : P2} {a b : Int} (hu : lp u) (hv : lp v) (h : tw u v = 0) (g : 0 < a * u.1 + b * u.2) : 0 < a * v.1 + b * v.2 := by
  unfold lp tw at *
  rcases hu with z | ⟨z, y⟩
  · rcases hv with w | ⟨w, x⟩
    · have id : (a * v.1 + b * v.2) * u.1 = (a * u.1 + b * u.2) * v.1 := by grind
      have := Int.mul_pos g w
      rcases Int.lt_or_le 0 (a * v.1 + b * v.2) with k | k
      · exact k
      · have := Int.mul_nonpos_of_nonpos_of_nonneg k (Int.le_of_lt z)
        omega
    · exfalso
      rw [w] at h
      have := Int.mul_pos z x
      simp at h
      omega
  · rw [z] at h g
    simp at h g
    have w : v.1 = 0 := by rcases Int.mul_eq_zero.mp h with k | k <;> omega
    rw [w] at hv ⊢
    simp at hv ⊢
    have pb : 0 < b := by
      rcases Int.lt_or_le 0 b with k | k
      · exact k
      · have := Int.mul_nonpos_of_nonpos_of_nonneg k (Int.le_of_lt y)
        omega
    exact Int.mul_pos pb hv
/-- what stands between two points is no corner -/
theorem mid_not_xt {S : List P2} {a p b : P2} (ha : a ∈ S) (hb : b ∈ S) (h1 : lexLt a p) (h2 : lexLt p b) (h : ar a p b = 0) : ¬ Xt S p := by
  rintro ⟨_, x, y, k⟩
  have k1 := k a ha (fun e => lexLt_irr a (by rw [← e] at h1; exact h1))
  have k2 := k b hb (fun e => lexLt_irr b (by rw [← e] at h2; exact h2))
  have e : tw (vec p b) (vec a p) = 0 := by rw [ar_tw2] at h; have := tw_sw (vec a p) (vec p b); omega
  have := lp_same (a := x) (b := y) (lp_vec.mpr h2) (lp_vec.mpr h1) e k2
  unfold vec at this
  dsimp only at this
  have e3 : x * (p.1 - a.1) + y * (p.2 - a.2) = -(x * (a.1 - p.1) + y * (a.2 - p.2)) := by grind
  omega
theorem lex_tot {a b : P2} (h : a ≠ b) : lexLt a b ∨ lexLt b a := by
  unfold lexLt
  have : ¬ (a.1 = b.1 ∧ a.2 = b.2) := fun z => h (Prod.ext z.1 z.2)
  omega
/-- no three corners on a line -/
theorem xt_bend {S : List P2} {a b c : P2} (ha : Xt S a) (hb : Xt S b) (hc : Xt S c) (h1 : a ≠ b) (h2 : b ≠ c) (h3 : a ≠ c) : ar a b c ≠ 0 := by
  intro h
  have e1 := ar_rot a b c
  have e2 := ar_rot2 a b c
  have e3 := ar_swap a b c
  have e4 := ar_rev a b c
  have e5 := ar_end a b c
  rcases lex_tot h1 with x | x
  · rcases lex_tot h2 with y | y
    · exact mid_not_xt ha.1 hc.1 x y h hb
    · rcases lex_tot h3 with z | z
      · exact mid_not_xt ha.1 hb.1 z y (by omega) hc
      · exact mid_not_xt hc.1 hb.1 z x (by omega) ha
  · rcases lex_tot h3 with y | y
    · exact mid_not_xt hb.1 hc.1 x y (by omega) ha
    · rcases lex_tot h2 with z | z
      · exact mid_not_xt hb.1 ha.1 z y (by omega) hc
      · exact mid_not_xt hc.1 ha.1 z x (by omega) hb
theorem mem_edg {R : List P2} {e : P2 × P2} : e ∈ edg R ↔ ∃ k, R[k]? = some e.1 ∧ R[(k + 1) % R.length]? = some e.2 := by
  obtain ⟨a, b⟩ := e
  unfold edg
  rw [mem_prs]
  constructor
  · rintro ⟨x, y, h⟩
    have hl := congrArg List.length h
    have l1 : (R.take 1).length ≤ 1 := by rw [List.length_take]; omega
    simp only [List.length_append, List.length_cons] at hl
    have hx : x.length < R.length := by
      rcases R with _ | ⟨c, R⟩
      · simp at hl
      · simp at hl ⊢; omega
    have g1 : R[x.length]? = some a := by
      have : (R ++ R.take 1)[x.length]? = some a := by rw [h]; simp
      rwa [List.getElem?_append_left hx] at this
    have g2 : (R ++ R.take 1)[x.length + 1]? = some b := by rw [h]; simp
    refine ⟨x.length, g1, ?_⟩
    by_cases c : x.length + 1 < R.length
    · rw [Nat.mod_eq_of_lt c]
      rwa [List.getElem?_append_left c] at g2
    · have : x.length + 1 = R.length := by omega
      rw [this, Nat.mod_self]
      rw [List.getElem?_append_right (by omega), this, Nat.sub_self] at g2
      cases R with
      | nil => simp at hx
      | cons c R => exact g2
  · rintro ⟨k, h1, h2⟩
    dsimp only at h1 h2
    have hk := (List.getElem?_eq_some_iff.mp h1).1
    have g1 : (R ++ R.take 1)[k]? = some a := by rw [List.getElem?_append_left hk]; exact h1
    have g2 : (R ++ R.take 1)[k + 1]? = some b := by
      by_cases c : k + 1 < R.length
      · rw [List.getElem?_append_left c]
        rwa [Nat.mod_eq_of_lt c] at h2
      · have : k + 1 = R.length := by omega
        rw [this, Nat.mod_self] at h2
        rw [this, List.getElem?_append_right (Nat.le_refl _), Nat.sub_self]
        cases R with
        | nil => simp at hk
        | cons c R => exact h2
    generalize R ++ R.take 1 = T at *
    obtain ⟨t1, e1⟩ := List.getElem?_eq_some_iff.mp g1
    obtain ⟨t2, e2⟩ := List.getElem?_eq_some_iff.mp g2
    refine ⟨T.take k, T.drop (k + 2), ?_⟩
    rw [← e1, ← e2]
    rw [List.getElem_cons_drop t2, List.getElem_cons_drop t1, List.take_append_drop]
/-- what stands between two ways ahead -/
theorem cone {n r w : P2} {a b : Int} (h1 : tw n w ≤ 0) (h2 : 0 ≤ tw r w) (h3 : tw n r < 0) (f1 : 0 ≤ a * n.1 + b * n.2) (f2 : 0 ≤ a * r.1 + b * r.2) : 0 ≤ a * w.1 + b * w.2 := by
  have id : (a * w.1 + b * w.2) * tw n r = (a * n.1 + b * n.2) * (- tw r w) + (a * r.1 + b * r.2) * tw n w := by unfold tw; grind
  have n1 := Int.mul_nonpos_of_nonneg_of_nonpos f1 (show - tw r w ≤ 0 by omega)
  have n2 := Int.mul_nonpos_of_nonneg_of_nonpos f2 h1
  rcases Int.lt_or_le (a * w.1 + b * w.2) 0 with k | k
  · have := Int.mul_pos_of_neg_of_neg k h3
    omega
  · exact k
theorem nodup_at {α : Type} {l : List α} (h : l.Nodup) {i j : Nat} {hi : i < l.length} {hj : j < l.length} (e : l[i] = l[j]) : i = j := by
  rcases Nat.lt_trichotomy i j with c | c | c
  · exact absurd e (List.pairwise_iff_getElem.mp h i j hi hj c)
  · exact c
  · exact absurd e.symm (List.pairwise_iff_getElem.mp h j i hj hi c)
theorem RingOk.vertex {S R : List P2} (h : RingOk S R) (h3 : 3 ≤ R.length) {v : P2} (hv : v ∈ R) : ∃ r n, (v, n) ∈ edg R ∧ (r, v) ∈ edg R ∧ r ∈ R ∧ n ∈ R ∧ ar v n r < 0 := by
  obtain ⟨k, hk, e⟩ := List.mem_iff_getElem.mp hv
  have hv' : R[k]? = some v := by rw [List.getElem?_eq_getElem hk, e]
  have kn : (k + 1) % R.length < R.length := Nat.mod_lt _ (by omega)
  have kr : (k + (R.length - 1)) % R.length < R.length := Nat.mod_lt _ (by omega)
  have hn : R[(k + 1) % R.length]? = some (R[(k + 1) % R.length]'kn) := List.getElem?_eq_getElem _
  have hr : R[(k + (R.length - 1)) % R.length]? = some (R[(k + (R.length - 1)) % R.length]'kr) := List.getElem?_eq_getElem _
  have back : ((k + (R.length - 1)) % R.length + 1) % R.length = k := by
    rw [Nat.mod_add_mod, show k + (R.length - 1) + 1 = k + R.length by omega, Nat.add_mod_right, Nat.mod_eq_of_lt hk]
  have i1 : (k + 1) % R.length ≠ k := by
    by_cases c : k + 1 < R.length
    · rw [Nat.mod_eq_of_lt c]; omega
    · rw [show k + 1 = R.length by omega, Nat.mod_self]; omega
  have i2 : (k + (R.length - 1)) % R.length ≠ k := fun z => by rw [z] at back; exact i1 back
  have i3 : (k + 1) % R.length ≠ (k + (R.length - 1)) % R.length := by
    intro z
    by_cases c : k + 1 < R.length
    · rw [Nat.mod_eq_of_lt c] at z
      rw [← z] at back
      by_cases c2 : k + 1 + 1 < R.length
      · rw [Nat.mod_eq_of_lt c2] at back; omega
      · rw [show k + 1 + 1 = R.length by omega, Nat.mod_self] at back; omega
    · rw [show k + 1 = R.length by omega, Nat.mod_self] at z
      rw [← z, Nat.mod_eq_of_lt (by omega)] at back
      omega
  have inj : ∀ i j (hi : i < R.length) (hj : j < R.length), i ≠ j → R[i] ≠ R[j] := fun i j hi hj hne e => hne (nodup_at h.nodup e)
  have nn := inj _ _ kn hk i1
  have nr := inj _ _ kr hk i2
  have nq := inj _ _ kn kr i3
  rw [e] at nn nr
  have mn : R[(k + 1) % R.length]'kn ∈ R := List.getElem_mem _
  have mr : R[(k + (R.length - 1)) % R.length]'kr ∈ R := List.getElem_mem _
  generalize R[(k + 1) % R.length]'kn = n at *
  generalize R[(k + (R.length - 1)) % R.length]'kr = r at *
  have e1 : (v, n) ∈ edg R := mem_edg.mpr ⟨k, hv', hn⟩
  have e2 : (r, v) ∈ edg R := mem_edg.mpr ⟨_, hr, by rw [back]; exact hv'⟩
  refine ⟨r, n, e1, e2, mr, mn, ?_⟩
  have := h.edge _ e1 r (h.xt r mr).1
  have := xt_bend (h.xt v hv) (h.xt n mn) (h.xt r mr) (fun z => nn z.symm) nq (fun z => nr z.symm)
  dsimp only at *
  omega
theorem RingOk.cone {S R : List P2} (h : RingOk S R) (h3 : 3 ≤ R.length) {p : P2} (hp : ∀ e ∈ edg R, ar e.1 e.2 p ≤ 0) (a b : Int) : ∃ v ∈ R, 0 ≤ a * (p.1 - v.1) + b * (p.2 - v.2) := by
  obtain ⟨v, hv, hm⟩ := exists_top (r := fun u w : P2 => a * u.1 + b * u.2 ≤ a * w.1 + b * w.2) (ok := fun _ => True) (fun a b _ _ => by omega) (fun a b c _ _ _ g1 g2 => by omega) (L := R) (fun e => by rw [e] at h3; simp at h3) (fun _ _ => trivial)
  obtain ⟨r, n, e1, e2, mr, mn, hb⟩ := h.vertex h3 hv
  have k1 := hp _ e1
  have k2 := hp _ e2
  have g1 := hm n mn
  have g2 := hm r mr
  refine ⟨v, hv, ?_⟩
  have := Lw.cone (n := vec v n) (r := vec v r) (w := vec v p) (a := a) (b := b) (by rw [← ar_tw]; exact k1) (by
    have : tw (vec v r) (vec v p) = - ar r v p := by unfold ar tw vec; grind
    dsimp only at k2
    omega) (by rw [← ar_tw]; exact hb) (by unfold vec; dsimp only; grind) (by unfold vec; dsimp only; grind)
  exact this
theorem RingOk.edge_hul {S R : List P2} (h : RingOk S R) {p : P2} (hp : hul S p) : ∀ e ∈ edg R, ar e.1 e.2 p ≤ 0 := fun e he => by
  rw [hul_sep] at hp
  have : ∃ q ∈ S, (e.2.2 - e.1.2) * (q.1 - p.1) + -(e.2.1 - e.1.1) * (q.2 - p.2) ≤ 0 := Classical.byContradiction fun n => hp ⟨e.2.2 - e.1.2, -(e.2.1 - e.1.1), fun q hq => by
    rcases Int.lt_or_le 0 ((e.2.2 - e.1.2) * (q.1 - p.1) + -(e.2.1 - e.1.1) * (q.2 - p.2)) with z | z
    · exact z
    · exact absurd ⟨q, hq, z⟩ n⟩
  obtain ⟨q, hq, z⟩ := this
  have k := h.edge e he q hq
  have id : (e.2.2 - e.1.2) * (q.1 - p.1) + -(e.2.1 - e.1.1) * (q.2 - p.2) = ar e.1 e.2 p - ar e.1 e.2 q := by unfold ar; grind
  omega
/-- the hull, by the edges of its ring -/
theorem RingOk.hul {S R : List P2} (h : RingOk S R) (h3 : 3 ≤ R.length) {p : P2} : (∀ e ∈ edg R, ar e.1 e.2 p ≤ 0) ↔ hul S p := by
  refine ⟨fun hp => ?_, h.edge_hul⟩
  rw [hul_sep]
  rintro ⟨a, b, k⟩
  obtain ⟨v, hv, g⟩ := h.cone h3 hp a b
  have := k v (h.xt v hv).1
  grind
theorem RingOk.two_line {S : List P2} {m M : P2} (h : RingOk S [m, M]) {q : P2} (hq : q ∈ S) : ar m M q = 0 := by
  have k1 := h.edge (m, M) (by simp [edg, prs]) q hq
  have k2 := h.edge (M, m) (by simp [edg, prs]) q hq
  have := ar_swap m M q
  dsimp only at k1 k2
  omega
theorem RingOk.nil {S : List P2} (h : RingOk S []) : S = [] := by
  have := h.head
  cases S with
  | nil => rfl
  | cons a S => cases this
theorem RingOk.one {S : List P2} {a : P2} (h : RingOk S [a]) : S = [a] := by
  have h1 := h.head
  have h2 := h.two
  match S, h1, h2 with
  | [], h1, _ => cases h1
  | [b], h1, _ => cases h1; rfl
  | b :: c :: r, _, h2 => simp at h2
/-- all corners stand in the ring -/
theorem RingOk.all {S R : List P2} (h : RingOk S R) {p : P2} (hp : Xt S p) : p ∈ R := by
  match R, h with
  | [], h => rw [h.nil] at hp; exact hp.1
  | [a], h => rw [h.one] at hp; exact hp.1
  | [m, M], h =>
    by_cases c1 : p = m
    · rw [c1]; simp
    · by_cases c2 : p = M
      · rw [c2]; simp
      · have nd := h.nodup
        simp at nd
        exact absurd (h.two_line hp.1) (xt_bend (h.xt m (by simp)) (h.xt M (by simp)) hp nd (fun z => c2 z.symm) (fun z => c1 z.symm))
  | a :: b :: c :: R, h =>
    obtain ⟨_, x, y, k⟩ := hp
    obtain ⟨v, hv, g⟩ := h.cone (by simp) (fun e he => h.edge e he p (by assumption)) x y
    by_cases c1 : v = p
    · rw [← c1]; exact hv
    · have := k v (h.xt v hv).1 c1
      grind
theorem RingOk.mem {S R : List P2} (h : RingOk S R) {p : P2} : p ∈ R ↔ Xt S p := ⟨h.xt p, h.all⟩
/-- just one corner has all others to the right -/
theorem RingOk.next {S R : List P2} (h : RingOk S R) {v n p : P2} (he : (v, n) ∈ edg R) (hn : n ≠ v) (hp : Xt S p) (hne : p ≠ v) (hr : ar v p n ≤ 0) : p = n := by
  obtain ⟨k, h1, h2⟩ := mem_edg.mp he
  have mv := List.mem_of_getElem? h1
  have mn := List.mem_of_getElem? h2
  have k1 := h.edge _ he p hp.1
  dsimp only at k1 mv mn
  refine Classical.byContradiction fun c => ?_
  have := xt_bend (h.xt v mv) (h.xt n mn) hp (fun z => hn z.symm) (fun z => c z.symm) (fun z => hne z.symm)
  have := ar_end v n p
  omega
theorem RingOk.uniq {S R R' : List P2} (h : RingOk S R) (h' : RingOk S R') : R = R' := by
  have pm : R.Perm R' := (List.perm_ext_iff_of_nodup h.nodup h'.nodup).mpr fun p => by rw [h.mem, h'.mem]
  have hl := pm.length_eq
  have key : ∀ k, k < R.length → R[k]? = R'[k]? := by
    intro k
    induction k with
    | zero =>
      intro _
      have := h.head.trans h'.head.symm
      rwa [List.head?_eq_getElem?, List.head?_eq_getElem?] at this
    | succ k ih =>
      intro hk
      have ik := ih (by omega)
      have hv : R[k]? = some (R[k]'(by omega)) := List.getElem?_eq_getElem _
      have hn : R[k + 1]? = some (R[k + 1]'hk) := List.getElem?_eq_getElem _
      have hn' : R'[k + 1]? = some (R'[k + 1]'(by omega)) := List.getElem?_eq_getElem _
      have ne : ∀ T : List P2, T.Nodup → ∀ (h1 : k < T.length) (h2 : k + 1 < T.length), T[k + 1] ≠ T[k] := fun T nd h1 h2 e => by
        have := nodup_at nd e
        omega
      have n1 := ne R h.nodup (by omega) hk
      have n2 := ne R' h'.nodup (by omega) (by omega)
      have hv' : R'[k]? = some (R'[k]'(by omega)) := List.getElem?_eq_getElem _
      have ee : R[k]'(by omega) = R'[k]'(by omega) := by rw [hv, hv'] at ik; exact Option.some.inj ik
      rw [← ee] at hv' n2
      generalize R[k]'(by omega) = v at *
      generalize R[k + 1]'hk = n at *
      generalize R'[k + 1]'(by omega) = n' at *
      have e1 : (v, n) ∈ edg R := mem_edg.mpr ⟨k, hv, by rw [Nat.mod_eq_of_lt hk]; exact hn⟩
      have e2 : (v, n') ∈ edg R' := mem_edg.mpr ⟨k, hv', by rw [Nat.mod_eq_of_lt (by omega)]; exact hn'⟩
      have x1 := h'.xt n' (List.mem_of_getElem? hn')
      have x2 := h.xt n (List.mem_of_getElem? hn)
      rw [hn, hn', h.next e1 n1 x1 n2 (h'.edge _ e2 n x2.1)]
  refine List.ext_getElem? fun k => ?_
  by_cases c : k < R.length
  · exact key k c
  · rw [List.getElem?_eq_none (by omega), List.getElem?_eq_none (by omega)]
end Lw
namespace Lw
/-! ## segments -/
def inB2 (p a b : P2) : Bool := (decide (min a.1 b.1 ≤ p.1) && decide (p.1 ≤ max a.1 b.1)) && (decide (min a.2 b.2 ≤ p.2) && decide (p.2 ≤ max a.2 b.2))
def onSeg (p a b : P2) : Bool := if tw (vec a b) (vec a p) ≠ 0 then false else inB2 p a b
theorem onSeg_iff {p a b : P2} : onSeg p a b = true ↔ ar a b p = 0 ∧ (min a.1 b.1 ≤ p.1 ∧ p.1 ≤ max a.1 b.1) ∧ min a.2 b.2 ≤ p.2 ∧ p.2 ≤ max a.2 b.2 := by
  unfold onSeg inB2
  rw [← ar_tw]
  by_cases h : ar a b p = 0
  · simp [h]
  · simp [h]
theorem onSeg_one {p a : P2} : onSeg p a a = true ↔ p = a := by
  rw [onSeg_iff, ar_aab]
  constructor
  · rintro ⟨_, h1, h2⟩
    exact Prod.ext (by omega) (by omega)
  · rintro rfl
    omega
theorem hul_single {p a : P2} : hul [a] p ↔ p = a := by
  constructor
  · intro h
    have := hul_box h (a := a.1) (b := a.1) (c := a.2) (d := a.2) (fun q hq => by rw [List.mem_singleton.mp hq]; omega)
    exact Prod.ext (by omega) (by omega)
  · rintro rfl
    exact hul_self (by simp)
/-- on a segment whose ends stand in order -/
theorem onSeg_lex {p m M : P2} (h : lexLt m M) : onSeg p m M = true ↔ ar m M p = 0 ∧ (p = m ∨ lexLt m p) ∧ (p = M ∨ lexLt p M) := by
  rw [onSeg_iff]
  have key : ∀ x y : P2, x = y ↔ x.1 = y.1 ∧ x.2 = y.2 := fun x y => ⟨fun e => by rw [e]; exact ⟨rfl, rfl⟩, fun e => Prod.ext e.1 e.2⟩
  refine and_congr_right fun z => ?_
  have pp : ∀ a b : Int, 0 < a → 0 < b → 0 < a * b := fun a b h1 h2 => Int.mul_pos h1 h2
  have pn : ∀ a b : Int, 0 < a → b < 0 → a * b < 0 := fun a b h1 h2 => Int.mul_neg_of_pos_of_neg h1 h2
  unfold ar at z
  unfold lexLt at h ⊢
  rw [key p m, key p M]
  by_cases c : m.1 = M.1
  · rw [show M.1 - m.1 = 0 by omega] at z
    have d : 0 < M.2 - m.2 := by omega
    have p1 : p.1 - m.1 = 0 := by
      rw [Int.zero_mul, Int.zero_sub] at z
      rcases Int.mul_eq_zero.mp (show (M.2 - m.2) * (p.1 - m.1) = 0 by omega) with w | w <;> omega
    omega
  · have d : 0 < M.1 - m.1 := by omega
    constructor
    · rintro ⟨h1, h2⟩
      have a1 : p.1 = m.1 → p.2 = m.2 := fun e => by
        rw [show p.1 - m.1 = 0 by omega, Int.mul_zero, Int.sub_zero] at z
        rcases Int.mul_eq_zero.mp z with w | w <;> omega
      have a2 : p.1 = M.1 → p.2 = M.2 := fun e => by
        have : (M.1 - m.1) * (p.2 - M.2) = 0 := by rw [show p.1 - m.1 = M.1 - m.1 by omega] at z; grind
        rcases Int.mul_eq_zero.mp this with w | w <;> omega
      omega
    · rintro ⟨h1, h2⟩
      have b1 : m.1 ≤ p.1 ∧ p.1 ≤ M.1 := by omega
      refine ⟨by omega, ?_⟩
      have e1 : (M.1 - m.1) * (p.2 - m.2) = (M.2 - m.2) * (p.1 - m.1) := by omega
      have e2 : (M.1 - m.1) * (M.2 - p.2) = (M.2 - m.2) * (M.1 - p.1) := by grind
      rcases Int.le_total m.2 M.2 with s | s
      · have n1 := Int.mul_nonneg (show 0 ≤ M.2 - m.2 by omega) (show 0 ≤ p.1 - m.1 by omega)
        have n2 := Int.mul_nonneg (show 0 ≤ M.2 - m.2 by omega) (show 0 ≤ M.1 - p.1 by omega)
        rw [← e1] at n1
        rw [← e2] at n2
        have := (pos_ge d).mp n1
        have := (pos_ge d).mp n2
        omega
      · have n1 := Int.mul_nonpos_of_nonpos_of_nonneg (show M.2 - m.2 ≤ 0 by omega) (show 0 ≤ p.1 - m.1 by omega)
        have n2 := Int.mul_nonpos_of_nonpos_of_nonneg (show M.2 - m.2 ≤ 0 by omega) (show 0 ≤ M.1 - p.1 by omega)
        rw [← e1] at n1
        rw [← e2] at n2
        have := (pos_le d).mp n1
        have := (pos_le d).mp n2
        omega
/-- what stands between two points of S is in its hull -/
theorem mid_hul {S : List P2} {a p b : P2} (ha : a ∈ S) (hb : b ∈ S) (h1 : lexLt a p) (h2 : lexLt p b) (h : ar a p b = 0) : hul S p := by
  rw [hul_sep]
  rintro ⟨x, y, k⟩
  have k1 := k a ha
  have k2 := k b hb
  have e : tw (vec p b) (vec a p) = 0 := by rw [ar_tw2] at h; have := tw_sw (vec a p) (vec p b); omega
  have := lp_same (a := x) (b := y) (lp_vec.mpr h2) (lp_vec.mpr h1) e k2
  unfold vec at this
  dsimp only at this
  have e3 : x * (p.1 - a.1) + y * (p.2 - a.2) = -(x * (a.1 - p.1) + y * (a.2 - p.2)) := by grind
  omega
theorem xt_most {S : List P2} {M : P2} (hm : M ∈ S) (h : ∀ q ∈ S, q = M ∨ lexLt q M) : Xt S M := by
  refine Xt.ng (xt_min (List.mem_map.mpr ⟨M, hm, rfl⟩) fun q hq => ?_)
  obtain ⟨s, hs, rfl⟩ := List.mem_map.mp hq
  rcases h s hs with rfl | h
  · exact .inl rfl
  · exact .inr (lex_ng.mpr h)
theorem RingOk.two_lex {S : List P2} {m M : P2} (h : RingOk S [m, M]) (ha : Asc S) : lexLt m M ∧ ∀ q ∈ S, (q = m ∨ lexLt m q) ∧ (q = M ∨ lexLt q M) := by
  have hm : S.head? = some m := by rw [← h.head]; rfl
  have mm := (h.xt m (by simp)).1
  have mM := (h.xt M (by simp)).1
  have nd := h.nodup
  simp at nd
  have lo := asc_least ha hm
  obtain ⟨T, hT⟩ : ∃ T, S.getLast? = some T := ⟨_, List.getLast?_eq_some_getLast (by intro e; rw [e] at mm; cases mm)⟩
  have hi := asc_most ha hT
  have xT := h.all (xt_most (List.mem_of_getLast? hT) hi)
  have eT : T = M := by
    simp at xT
    rcases xT with rfl | rfl
    · exfalso
      rcases hi M mM with e | e
      · exact nd e.symm
      · rcases lo M mM with g | g
        · exact nd g.symm
        · exact lexLt_irr _ (lexLt_tr _ _ _ e g)
    · rfl
  subst eT
  refine ⟨?_, fun q hq => ⟨lo q hq, hi q hq⟩⟩
  rcases lo T mM with g | g
  · exact absurd g.symm nd
  · exact g
/-- in the hull, as a ring tells it -/
def inR (R : List P2) (p : P2) : Bool := match R with
  | [] => false
  | [a] => onSeg p a a
  | [a, b] => onSeg p a b
  | _ => (edg R).all fun e => decide (ar e.1 e.2 p ≤ 0)
theorem RingOk.inR {S R : List P2} (h : RingOk S R) (ha : Asc S) {p : P2} : Lw.inR R p = true ↔ Lw.hul S p := by
  match R, h with
  | [], h =>
    rw [h.nil]
    exact ⟨fun z => (nomatch z), fun z => absurd z hul_nil⟩
  | [a], h =>
    rw [h.one]
    show onSeg p a a = true ↔ _
    rw [onSeg_one, hul_single]
  | [m, M], h =>
    show onSeg p m M = true ↔ _
    obtain ⟨hl, hb⟩ := h.two_lex ha
    have mm := (h.xt m (by simp)).1
    have mM := (h.xt M (by simp)).1
    rw [onSeg_lex hl]
    constructor
    · rintro ⟨h1, h2, h3⟩
      rcases h2 with rfl | h2
      · exact hul_self mm
      · rcases h3 with rfl | h3
        · exact hul_self mM
        · exact mid_hul mm mM h2 h3 (by have := ar_end m p M; omega)
    · intro g
      have e1 := h.edge_hul g (m, M) (by simp [edg, prs])
      have e2 := h.edge_hul g (M, m) (by simp [edg, prs])
      have e3 := ar_swap m M p
      dsimp only at e1 e2
      have z : ar m M p = 0 := by omega
      refine (onSeg_lex hl).mp (onSeg_iff.mpr ⟨z, ?_⟩)
      have bx : ∀ q ∈ S, (min m.1 M.1 ≤ q.1 ∧ q.1 ≤ max m.1 M.1) ∧ (min m.2 M.2 ≤ q.2 ∧ q.2 ≤ max m.2 M.2) := fun q hq => (onSeg_iff.mp ((onSeg_lex hl).mpr ⟨h.two_line hq, hb q hq⟩)).2
      exact hul_box g bx
  | a :: b :: c :: R, h =>
    show ((edg (a :: b :: c :: R)).all fun e => decide (ar e.1 e.2 p ≤ 0)) = true ↔ _
    rw [List.all_eq_true, ← h.hul (by simp)]
    simp only [decide_eq_true_eq]
end Lw
namespace Lw
/-! ## rings carried -/
theorem popT_map {φ : P2 → P2} (h : ∀ a b c, 0 ≤ ar (φ a) (φ b) (φ c) ↔ 0 ≤ ar a b c) (p : P2) : ∀ st : List P2, popT (φ p) (st.map φ) = (popT p st).map φ
  | [] => rfl
  | [_] => rfl
  | b :: a :: r => by
    show popT (φ p) (φ b :: φ a :: r.map φ) = _
    rw [popT, popT]
    by_cases c : 0 ≤ ar a b p
    · rw [if_pos c, if_pos ((h a b p).mpr c)]
      exact popT_map h p (a :: r)
    · rw [if_neg c, if_neg (fun z => c ((h a b p).mp z))]
      rfl
theorem chn_map {φ : P2 → P2} (h : ∀ a b c, 0 ≤ ar (φ a) (φ b) (φ c) ↔ 0 ≤ ar a b c) : ∀ (ps st : List P2), chn (st.map φ) (ps.map φ) = (chn st ps).map φ
  | [], st => rfl
  | p :: ps, st => by
    show chn (φ p :: popT (φ p) (st.map φ)) (ps.map φ) = _
    rw [popT_map h, ← List.map_cons, chn_map h ps]
    rfl
theorem chain_map {φ : P2 → P2} (h : ∀ a b c, 0 ≤ ar (φ a) (φ b) (φ c) ↔ 0 ≤ ar a b c) (S : List P2) : chain (S.map φ) = (chain S).map φ := by
  unfold chain
  rw [List.map_reverse, ← chn_map h S []]
  rfl
/-- the ring of what is carried in order -/
theorem ring_map {φ : P2 → P2} (h : ∀ a b c, 0 ≤ ar (φ a) (φ b) (φ c) ↔ 0 ≤ ar a b c) (S : List P2) : ringOf (S.map φ) = (ringOf S).map φ := by
  unfold ringOf
  rw [List.length_map]
  split
  · rfl
  · rw [chain_map h, ← List.map_reverse, chain_map h, List.map_append, List.map_dropLast, List.map_dropLast]
theorem rot_get {α : Type} {l : List α} {i k : Nat} (hi : i < l.length) (hk : k < l.length) : (l.drop i ++ l.take i)[k]? = l[(k + i) % l.length]? := by
  by_cases c : k + i < l.length
  · rw [Nat.mod_eq_of_lt c, List.getElem?_append_left (by simp; omega), List.getElem?_drop, Nat.add_comm]
  · have : (k + i) % l.length = k + i - l.length := by
      rw [Nat.mod_eq_sub_mod (by omega), Nat.mod_eq_of_lt (by omega)]
    rw [this, List.getElem?_append_right (by simp; omega), List.getElem?_take]
    rw [if_pos (by simp; omega)]
    congr 1
    simp
    omega
theorem edg_rot {l : List P2} {i : Nat} (hi : i < l.length) {e : P2 × P2} (h : e ∈ edg (l.drop i ++ l.take i)) : e ∈ edg l := by
  have hl : (l.drop i ++ l.take i).length = l.length := by simp; omega
  obtain ⟨k, h1, h2⟩ := mem_edg.mp h
  have hk := (List.getElem?_eq_some_iff.mp h1).1
  rw [hl] at hk h2
  rw [rot_get hi hk] at h1
  rw [rot_get hi (Nat.mod_lt _ (by omega))] at h2
  refine mem_edg.mpr ⟨_, h1, ?_⟩
  rw [← h2, Nat.mod_add_mod, Nat.mod_add_mod]
  congr 1
  congr 1
  omega
def tn (p : P2) : P2 := (-p.2, p.1)
theorem ar_tn (a b c : P2) : ar (tn a) (tn b) (tn c) = ar a b c := by unfold ar tn; grind
theorem tn_inj {a b : P2} (h : tn a = tn b) : a = b := by
  have h1 := congrArg Prod.fst h
  have h2 := congrArg Prod.snd h
  unfold tn at h1 h2
  dsimp only at h1 h2
  exact Prod.ext h2 (by omega)
/-- the ring of what is turned -/
theorem ring_turn {S T : List P2} (hS : Asc S) (hT : Asc T) (hm : ∀ p, p ∈ T ↔ ∃ q ∈ S, tn q = p) {i : Nat} {m : P2} (hi : ((ringOf S).map tn)[i]? = some m) (hh : T.head? = some m) : ringOf T = ((ringOf S).map tn).drop i ++ ((ringOf S).map tn).take i := by
  have R := ring_ok hS
  refine (ring_ok hT).uniq ?_
  have hl := (List.getElem?_eq_some_iff.mp hi).1
  have nd : ((ringOf S).map tn).Nodup := by
    rw [List.Nodup, List.pairwise_map]
    exact R.nodup.imp fun h e => h (tn_inj e)
  have hlen : T.length = S.length := by
    have nS : (S.map tn).Nodup := by
      rw [List.Nodup, List.pairwise_map]
      exact hS.nodup.imp fun h e => h (tn_inj e)
    have := ((List.perm_ext_iff_of_nodup hT.nodup nS).mpr fun p => by rw [hm, List.mem_map]).length_eq
    simpa using this
  have pm : (((ringOf S).map tn).drop i ++ ((ringOf S).map tn).take i).Perm ((ringOf S).map tn) := by
    have := List.perm_append_comm (l₁ := ((ringOf S).map tn).drop i) (l₂ := ((ringOf S).map tn).take i)
    rwa [List.take_append_drop] at this
  refine ⟨pm.symm.nodup nd, fun p hp => ?_, fun e he q hq => ?_, ?_, fun h2 => ?_⟩
  · obtain ⟨q, hq, rfl⟩ := List.mem_map.mp (pm.mem_iff.mp hp)
    obtain ⟨qS, a, b, k⟩ := R.xt q hq
    refine ⟨(hm _).mpr ⟨q, qS, rfl⟩, -b, a, fun s hs hn => ?_⟩
    obtain ⟨r, hr, rfl⟩ := (hm s).mp hs
    have := k r hr (fun z => hn (by rw [z]))
    unfold tn
    dsimp only
    grind
  · have he2 := edg_rot hl he
    unfold edg at he2
    rw [← List.map_take, ← List.map_append, prs_map] at he2
    obtain ⟨e', he', rfl⟩ := List.mem_map.mp he2
    obtain ⟨r, hr, rfl⟩ := (hm q).mp hq
    have := R.edge e' he' r hr
    dsimp only
    rw [ar_tn]
    exact this
  · rw [hh, List.head?_append]
    have : (((ringOf S).map tn).drop i).head? = some m := by
      rw [List.head?_drop]; exact hi
    rw [this]
    rfl
  · rw [pm.length_eq, List.length_map]
    exact R.two (by omega)
end Lw
namespace Lw
/-- the edges, as they are told -/
def edgs (R : List P2) : List (P2 × P2) := if R.length < 2 then [] else edg R
theorem prs_get : ∀ (l : List P2) (k : Nat), (prs l)[k]? = match l[k]?, l[k + 1]? with
    | some a, some b => some (a, b)
    | _, _ => none
  | [], k => by simp [prs]
  | [a], k => by cases k <;> simp [prs]
  | a :: b :: r, 0 => rfl
  | a :: b :: r, k + 1 => by
    show (prs (b :: r))[k]? = _
    rw [prs_get (b :: r) k]
    rfl
theorem edg_get {R : List P2} {k : Nat} {a b : P2} (ha : R[k]? = some a) (hb : R[(k + 1) % R.length]? = some b) : (edg R)[k]? = some (a, b) := by
  have hk := (List.getElem?_eq_some_iff.mp ha).1
  unfold edg
  rw [prs_get, List.getElem?_append_left hk, ha]
  have : (R ++ R.take 1)[k + 1]? = some b := by
    by_cases c : k + 1 < R.length
    · rw [Nat.mod_eq_of_lt c] at hb
      rw [List.getElem?_append_left c, hb]
    · have e : k + 1 = R.length := by omega
      rw [e, Nat.mod_self] at hb
      rw [e, List.getElem?_append_right (Nat.le_refl _), Nat.sub_self]
      cases R with
      | nil => simp at hk
      | cons c R => exact hb
  rw [this]
theorem edg_len (R : List P2) : (edg R).length = R.length := by
  have : ∀ l : List P2, (prs l).length = l.length - 1 := by
    intro l
    induction l with
    | nil => rfl
    | cons a l ih =>
      cases l with
      | nil => rfl
      | cons b l => simp [prs, ih]
  unfold edg
  rw [this, List.length_append, List.length_take]
  cases R with
  | nil => rfl
  | cons a R => simp
theorem edg_range (R : List P2) : (List.range R.length).map (fun k => (R.getD k (0, 0), R.getD ((k + 1) % R.length) (0, 0))) = edg R := by
  refine List.ext_getElem? fun k => ?_
  by_cases c : k < R.length
  · have c2 : (k + 1) % R.length < R.length := Nat.mod_lt _ (by omega)
    rw [List.getElem?_map, List.getElem?_range c, edg_get (List.getElem?_eq_getElem c) (List.getElem?_eq_getElem c2)]
    simp [c, c2]
  · rw [List.getElem?_eq_none (by simp; omega), List.getElem?_eq_none (by rw [edg_len]; omega)]
end Lw
set_option linter.all false
set_option Elab.async false
set_option maxRecDepth 100000
set_option maxHeartbeats 4000000
namespace Lw
/-! # grid points counted -/
def sumN : Nat → (Nat → Int) → Int
  | 0, _ => 0
  | n + 1, f => sumN n f + f n
theorem sumN_congr {f g : Nat → Int} : ∀ {n : Nat}, (∀ i, i < n → f i = g i) → sumN n f = sumN n g
  | 0, _ => rfl
  | n + 1, h => by rw [sumN, sumN, sumN_congr (fun i hi => h i (by omega)), h n (by omega)]
theorem sumN_add {f g : Nat → Int} : ∀ {n : Nat}, sumN n (fun i => f i + g i) = sumN n f + sumN n g
  | 0 => rfl
  | n + 1 => by rw [sumN, sumN, sumN, sumN_add]; omega
theorem sumN_const {c : Int} : ∀ {n : Nat}, sumN n (fun _ => c) = n * c
  | 0 => by simp [sumN]
  | n + 1 => by rw [sumN, sumN_const]; grind
theorem sumN_neg {f : Nat → Int} : ∀ {n : Nat}, sumN n (fun i => - f i) = - sumN n f
  | 0 => rfl
  | n + 1 => by rw [sumN, sumN, sumN_neg]; omega
theorem sumN_split {f : Nat → Int} {a : Nat} : ∀ {b : Nat}, sumN (a + b) f = sumN a f + sumN b (fun i => f (a + i))
  | 0 => by simp [sumN]
  | b + 1 => by
    show sumN (a + b) f + f (a + b) = _
    rw [sumN_split, sumN]
    omega
theorem sumN_head {f : Nat → Int} {n : Nat} : sumN (n + 1) f = f 0 + sumN n (fun i => f (i + 1)) := by
  rw [Nat.add_comm, sumN_split]
  show sumN 1 f + _ = _
  rw [show sumN 1 f = f 0 by simp [sumN]]
  congr 1
  exact sumN_congr fun i _ => by rw [Nat.add_comm]
theorem sumN_rev {f : Nat → Int} : ∀ {n : Nat}, sumN n (fun i => f (n - 1 - i)) = sumN n f
  | 0 => rfl
  | n + 1 => by
    rw [sumN_head, sumN]
    have : sumN n (fun i => f (n + 1 - 1 - (i + 1))) = sumN n (fun i => f (n - 1 - i)) := sumN_congr fun i hi => by congr 1; omega
    rw [this, sumN_rev]
    simp
    omega
theorem sumN_dvd {k : Nat} (hk : 0 < k) : ∀ {g : Nat}, sumN (g * k) (fun i => if k ∣ i then 1 else 0) = g
  | 0 => by simp [sumN]
  | g + 1 => by
    rw [Nat.add_mul, Nat.one_mul, sumN_split, sumN_dvd hk]
    obtain ⟨j, rfl⟩ : ∃ j, k = j + 1 := ⟨k - 1, by omega⟩
    rw [sumN_head]
    rw [if_pos ⟨g, by rw [Nat.add_zero, Nat.mul_comm]⟩]
    have : sumN j (fun i => if j + 1 ∣ g * (j + 1) + (i + 1) then 1 else 0) = sumN j (fun _ => 0) := sumN_congr fun i hi => by
      rw [if_neg]
      intro h
      have := (Nat.dvd_add_right (Nat.dvd_mul_left (j + 1) g)).mp h
      have := Nat.le_of_dvd (by omega) this
      omega
    rw [this, sumN_const]
    simp
theorem neg_pair {x w : Int} (hw : 0 < w) : x / w + (-x) / w = if w ∣ x then 0 else -1 := by
  have e1 := Int.mul_ediv_add_emod x w
  have e2 := Int.mul_ediv_add_emod (-x) w
  have b1 := Int.emod_nonneg x (show w ≠ 0 by omega)
  have b2 := Int.emod_lt_of_pos x hw
  have c1 := Int.emod_nonneg (-x) (show w ≠ 0 by omega)
  have c2 := Int.emod_lt_of_pos (-x) hw
  have e3 : w * (x / w + (-x) / w) + (x % w + (-x) % w) = 0 := by rw [Int.mul_add]; omega
  by_cases h : w ∣ x
  · rw [if_pos h]
    have z := Int.emod_eq_zero_of_dvd h
    have z2 := Int.emod_eq_zero_of_dvd ((Int.dvd_neg).mpr h)
    rcases Int.mul_eq_zero.mp (show w * (x / w + (-x) / w) = 0 by omega) with k | k
    · omega
    · exact k
  · rw [if_neg h]
    have n1 : x % w ≠ 0 := fun z => h (Int.dvd_of_emod_eq_zero z)
    generalize x / w + (-x) / w = s at *
    have s1 : s < 0 := by
      rcases Int.lt_or_le s 0 with k | k
      · exact k
      · have := Int.mul_nonneg (Int.le_of_lt hw) k
        omega
    rcases Int.lt_or_le s (-1) with k | k
    · have : w * s ≤ w * (-2) := Int.mul_le_mul_of_nonneg_left (by omega) (by omega)
      omega
    · omega
/-- the points under a slope -/
theorem floor_sum {w : Nat} {h : Int} (hw : 0 < w) : 2 * sumN w (fun i => (h * (i : Int)) / (w : Int)) = ((w : Int) - 1) * h - w + (Int.gcd (w : Int) h : Int) := by
  obtain ⟨n, rfl⟩ : ∃ n, w = n + 1 := ⟨w - 1, by omega⟩
  generalize hW : ((n + 1 : Nat) : Int) = W
  have W0 : 0 < W := by omega
  have e0 : sumN (n + 1) (fun i => (h * (i : Int)) / W) = sumN n (fun i => (h * ((i + 1 : Nat) : Int)) / W) := by
    rw [sumN_head]; simp
  have e1 : sumN n (fun i => (h * ((i + 1 : Nat) : Int)) / W) = sumN n (fun i => (h * ((n - i : Nat) : Int)) / W) := by
    rw [← sumN_rev (f := fun i => (h * ((i + 1 : Nat) : Int)) / W)]
    exact sumN_congr fun i hi => by rw [show n - 1 - i + 1 = n - i by omega]
  have e2 : sumN n (fun i => (h * ((i + 1 : Nat) : Int)) / W + (h * ((n - i : Nat) : Int)) / W) = sumN n (fun i => h + (if W ∣ h * ((i + 1 : Nat) : Int) then 1 else 0) - 1) := sumN_congr fun i hi => by
    have ex : h * ((n - i : Nat) : Int) = h * W + -(h * ((i + 1 : Nat) : Int)) := by
      rw [show ((n - i : Nat) : Int) = W - ((i + 1 : Nat) : Int) by omega]
      grind
    rw [ex, Int.add_comm (h * W), Int.add_mul_ediv_right _ _ (by omega)]
    have := @neg_pair (h * ((i + 1 : Nat) : Int)) W W0
    split at this <;> simp_all <;> omega
  have e3 : sumN n (fun i => h + (if W ∣ h * ((i + 1 : Nat) : Int) then 1 else 0) - 1) = (n : Int) * h + (sumN (n + 1) (fun i => if W ∣ h * (i : Int) then 1 else 0) - 1) - n := by
    have : sumN n (fun i => h + (if W ∣ h * ((i + 1 : Nat) : Int) then 1 else 0) - 1) = sumN n (fun i => (h + -1) + (if W ∣ h * ((i + 1 : Nat) : Int) then 1 else 0)) := sumN_congr fun i hi => by omega
    rw [this, sumN_add, sumN_const]
    have e4 : sumN (n + 1) (fun i => if W ∣ h * (i : Int) then 1 else 0) = 1 + sumN n (fun i => if W ∣ h * ((i + 1 : Nat) : Int) then 1 else 0) := by
      rw [sumN_head]; simp
    rw [e4]
    grind
  have e5 : sumN (n + 1) (fun i => if W ∣ h * (i : Int) then 1 else 0) = (Int.gcd W h : Int) := by
    have g0 : 0 < Int.gcd W h := Nat.pos_of_ne_zero fun z => by rw [Int.gcd_eq_zero_iff] at z; omega
    obtain ⟨k, hk⟩ := Int.gcd_dvd_left W h
    have k0 : 0 < k := by
      rcases Int.lt_or_le 0 k with z | z
      · exact z
      · have := Int.mul_nonpos_of_nonneg_of_nonpos (show 0 ≤ (Int.gcd W h : Int) by omega) z
        omega
    obtain ⟨q, rfl⟩ := Int.eq_ofNat_of_zero_le (Int.le_of_lt k0)
    have en : n + 1 = Int.gcd W h * q := by
      have : ((n + 1 : Nat) : Int) = ((Int.gcd W h * q : Nat) : Int) := by rw [hW, Int.natCast_mul]; exact hk
      omega
    rw [en, ← sumN_dvd (k := q) (by omega) (g := Int.gcd W h)]
    refine sumN_congr fun i hi => ?_
    have : W ∣ h * (i : Int) ↔ q ∣ i := by
      obtain ⟨r, hr⟩ := Int.gcd_dvd_right W h
      have g1 : (0 : Int) < (Int.gcd W h : Int) := by omega
      have cop := Int.gcd_ediv_gcd_ediv_gcd (i := W) (j := h) g0
      have d1 : W / (Int.gcd W h : Int) = (q : Int) := Int.ediv_eq_of_eq_mul_right (by omega) hk
      have d2 : h / (Int.gcd W h : Int) = r := Int.ediv_eq_of_eq_mul_right (by omega) hr
      rw [d1, d2] at cop
      constructor
      · rintro ⟨c, hc⟩
        have e : (Int.gcd W h : Int) * (r * (i : Int)) = (Int.gcd W h : Int) * ((q : Int) * c) := by
          rw [← Int.mul_assoc, ← hr, hc, ← Int.mul_assoc, ← hk]
        have := cop_dvd cop ⟨c, Int.eq_of_mul_eq_mul_left (by omega) e⟩
        exact_mod_cast this
      · rintro ⟨c, rfl⟩
        refine ⟨r * c, ?_⟩
        rw [Int.natCast_mul]
        generalize (Int.gcd W h : Int) = g at *
        rw [hr, hk]
        grind
    simp only [this]
  have : 2 * sumN (n + 1) (fun i => (h * (i : Int)) / W) = sumN n (fun i => (h * ((i + 1 : Nat) : Int)) / W + (h * ((n - i : Nat) : Int)) / W) := by
    rw [sumN_add, ← e1, e0]; omega
  rw [this, e2, e3, e5]
  rw [show W - 1 = (n : Int) by omega]
  omega
/-! ## under a chain -/
/-- twice the area under an edge, and its steps -/
def shoe (e : P2 × P2) : Int := (e.2.1 - e.1.1) * (e.1.2 + e.2.2)
def gst (e : P2 × P2) : Int := (Int.gcd (e.2.1 - e.1.1) (e.2.2 - e.1.2) : Int)
def sumE (f : P2 × P2 → Int) : List (P2 × P2) → Int
  | [] => 0
  | e :: r => f e + sumE f r
theorem sumE_app {f : P2 × P2 → Int} : ∀ {a b : List (P2 × P2)}, sumE f (a ++ b) = sumE f a + sumE f b
  | [], b => by simp [sumE]
  | e :: a, b => by rw [List.cons_append, sumE, sumE, sumE_app]; omega
/-- the top over a column, if the shape is right of an edge -/
theorem blw_edge {S : List P2} {a b p : P2} (hS : ∀ q ∈ S, ar a b q ≤ 0) (h : a.1 < b.1) (hp : blw S p) : ar a b p ≤ 0 := by
  rcases hp with ⟨u, hu, e, g⟩ | ⟨u, hu, v, hv, e1, e2, g⟩
  · have k := hS u hu
    have : ar a b u - ar a b p = (b.1 - a.1) * (u.2 - p.2) := by unfold ar; rw [e]; grind
    have := Int.mul_nonneg (show 0 ≤ b.1 - a.1 by omega) (show 0 ≤ u.2 - p.2 by omega)
    omega
  · have k1 := Int.mul_nonpos_of_nonneg_of_nonpos (show 0 ≤ v.1 - p.1 by omega) (hS u hu)
    have k2 := Int.mul_nonpos_of_nonneg_of_nonpos (show 0 ≤ p.1 - u.1 by omega) (hS v hv)
    have k3 := Int.mul_nonpos_of_nonneg_of_nonpos (show 0 ≤ b.1 - a.1 by omega) g
    have id : (v.1 - u.1) * ar a b p = (v.1 - p.1) * ar a b u + (p.1 - u.1) * ar a b v + (b.1 - a.1) * ar u v p := by unfold ar; grind
    rcases Int.lt_or_le 0 (ar a b p) with z | z
    · have := Int.mul_pos (show 0 < v.1 - u.1 by omega) z
      omega
    · exact z
theorem edge_blw {S : List P2} {a b p : P2} (ha : a ∈ S) (hb : b ∈ S) (h1 : a.1 ≤ p.1) (h2 : p.1 < b.1) (hp : ar a b p ≤ 0) : blw S p := by
  rcases Int.lt_or_eq_of_le h1 with z | z
  · exact .inr ⟨a, ha, b, hb, z, h2, hp⟩
  · refine .inl ⟨a, ha, z, ?_⟩
    rw [@ar_at1 a b p z.symm] at hp
    have := (pos_le (show 0 < b.1 - a.1 by omega)).mp hp
    omega
theorem top_is {S : List P2} {a b : P2} (ha : a ∈ S) (hb : b ∈ S) (hS : ∀ q ∈ S, ar a b q ≤ 0) (h : a.1 < b.1) {x t : Int} (h1 : a.1 ≤ x) (h2 : x < b.1) (ht : ∀ y, y ≤ t ↔ blw S (x, y)) : t = a.2 + ((b.2 - a.2) * (x - a.1)) / (b.1 - a.1) := by
  have w : 0 < b.1 - a.1 := by omega
  have key : ∀ y, y ≤ t ↔ y ≤ a.2 + ((b.2 - a.2) * (x - a.1)) / (b.1 - a.1) := fun y => by
    rw [ht]
    have e : ar a b (x, y) = (b.1 - a.1) * (y - a.2) - (b.2 - a.2) * (x - a.1) := rfl
    have : y ≤ a.2 + ((b.2 - a.2) * (x - a.1)) / (b.1 - a.1) ↔ ar a b (x, y) ≤ 0 := by
      have := Int.le_ediv_iff_mul_le (a := y - a.2) (b := (b.2 - a.2) * (x - a.1)) w
      rw [Int.mul_comm (y - a.2)] at this
      rw [e]
      omega
    rw [this]
    exact ⟨blw_edge hS h, edge_blw ha hb h1 h2⟩
  have k1 := (key t).mp (Int.le_refl _)
  have k2 := (key (a.2 + ((b.2 - a.2) * (x - a.1)) / (b.1 - a.1))).mpr (Int.le_refl _)
  omega
theorem chain_sum {S : List P2} {M : P2} {top : Int → Int} : ∀ {C : List P2} {a : P2}, C.head? = some a → C.getLast? = some M → Asc C → (∀ p ∈ C, p ∈ S) → (∀ e ∈ prs C, ∀ q ∈ S, ar e.1 e.2 q ≤ 0) → (∀ x, a.1 ≤ x → x < M.1 → ∀ y, y ≤ top x ↔ blw S (x, y)) →
    2 * sumN (M.1 - a.1).toNat (fun i => top (a.1 + (i : Int))) = sumE shoe (prs C) + sumE gst (prs C) - (M.2 - a.2) - (M.1 - a.1)
  | [], a, h, _, _, _, _, _ => by cases h
  | [c], a, h1, h2, _, _, _, _ => by
    cases h1; cases h2
    simp [sumN, prs, sumE]
  | c :: b :: r, a, h1, h2, hA, hs, he, ht => by
    cases h1
    have lab : lexLt c b := (List.pairwise_cons.mp hA).1 b (by simp)
    have hA2 := (List.pairwise_cons.mp hA).2
    rw [List.getLast?_cons_cons] at h2
    have lbM : b = M ∨ lexLt b M := by
      have mM := List.mem_of_getLast? h2
      rcases List.mem_cons.mp mM with e | e
      · exact .inl e.symm
      · exact .inr ((List.pairwise_cons.mp hA2).1 M e)
    have bM : b.1 ≤ M.1 := by
      rcases lbM with e | e
      · rw [e]; exact Int.le_refl _
      · unfold lexLt at e; omega
    have cb : c.1 ≤ b.1 := by unfold lexLt at lab; omega
    have ih := chain_sum (C := b :: r) (a := b) (top := top) rfl h2 hA2 (fun p hp => hs p (List.mem_cons_of_mem _ hp)) (fun e h => he e (List.mem_cons_of_mem _ h)) (fun x hx1 hx2 => ht x (by omega) hx2)
    have e0 := he (c, b) (by simp [prs])
    dsimp only at e0
    show _ = shoe (c, b) + sumE shoe (prs (b :: r)) + (gst (c, b) + sumE gst (prs (b :: r))) - _ - _
    generalize sumE shoe (prs (b :: r)) = s1 at *
    generalize sumE gst (prs (b :: r)) = s2 at *
    rcases Int.lt_or_eq_of_le cb with z | z
    · obtain ⟨w, hw⟩ : ∃ w : Nat, b.1 - c.1 = (w : Int) := ⟨(b.1 - c.1).toNat, by omega⟩
      have en : (M.1 - c.1).toNat = w + (M.1 - b.1).toNat := by omega
      have f1 : sumN w (fun i => top (c.1 + (i : Int))) = sumN w (fun i => c.2 + ((b.2 - c.2) * (i : Int)) / (w : Int)) := sumN_congr fun i hi => by
        have := top_is (hs c (by simp)) (hs b (by simp)) e0 z (x := c.1 + i) (t := top (c.1 + i)) (by omega) (by omega) (ht _ (by omega) (by omega))
        rw [this, hw, show c.1 + (i : Int) - c.1 = (i : Int) by omega]
      have f2 : sumN (M.1 - b.1).toNat (fun i => top (c.1 + ((w + i : Nat) : Int))) = sumN (M.1 - b.1).toNat (fun i => top (b.1 + (i : Int))) := sumN_congr fun i hi => by
        rw [show c.1 + ((w + i : Nat) : Int) = b.1 + (i : Int) by omega]
      have fl := floor_sum (w := w) (h := b.2 - c.2) (by omega)
      rw [en, sumN_split, f1, f2, sumN_add, sumN_const]
      have g1 : gst (c, b) = (Int.gcd (w : Int) (b.2 - c.2) : Int) := by unfold gst; dsimp only; rw [hw]
      have g2 : shoe (c, b) = (w : Int) * (c.2 + b.2) := by unfold shoe; dsimp only; rw [hw]
      rw [g1, g2]
      have e5 : ((w : Int) - 1) * (b.2 - c.2) = (w : Int) * (c.2 + b.2) - 2 * ((w : Int) * c.2) - (b.2 - c.2) := by grind
      omega
    · have y : c.2 < b.2 := by unfold lexLt at lab; omega
      have g1 : gst (c, b) = b.2 - c.2 := by
        unfold gst
        dsimp only
        rw [show b.1 - c.1 = 0 by omega, Int.gcd_zero_left]
        omega
      have g2 : shoe (c, b) = 0 := by unfold shoe; dsimp only; rw [show b.1 - c.1 = 0 by omega]; simp
      rw [g1, g2, z]
      omega
/-- counting a shape column by column -/
theorem col_count {rs : List P2} (nd : rs.Nodup) {a : Int} {n : Nat} {lo hi : Int → Int} (hlh : ∀ x, lo x ≤ hi x + 1) (hm : ∀ p, p ∈ rs ↔ (a ≤ p.1 ∧ p.1 < a + n) ∧ lo p.1 ≤ p.2 ∧ p.2 ≤ hi p.1) : (rs.length : Int) = sumN n (fun i => hi (a + (i : Int)) - lo (a + (i : Int)) + 1) := by
  induction n generalizing rs with
  | zero =>
    have : rs = [] := by
      cases rs with
      | nil => rfl
      | cons p r =>
        have := (hm p).mp (by simp)
        omega
    rw [this]
    rfl
  | succ n ih =>
    have h1 := ih (rs := rs.filter fun p => decide (p.1 < a + n)) (nd.filter _) (fun p => by
      rw [List.mem_filter, hm, decide_eq_true_eq]
      omega)
    have pm : (rs.filter fun p => !decide (p.1 < a + n)).Perm (colL (a + n) (lo (a + n)) (hi (a + n) + 1 - lo (a + n)).toNat) := by
      refine (List.perm_ext_iff_of_nodup (nd.filter _) (colL_asc _ _ _).nodup).mpr fun p => ?_
      rw [List.mem_filter, hm, mem_colL]
      have := hlh (a + n)
      by_cases c : p.1 = a + n
      · rw [c]
        simp
        omega
      · simp
        omega
    have h2 := pm.length_eq
    have h3 : (rs.filter fun p => decide (p.1 < a + n)).length + (rs.filter fun p => !decide (p.1 < a + n)).length = rs.length := by
      have := List.length_eq_countP_add_countP (fun p : P2 => decide (p.1 < a + n)) (l := rs)
      rw [List.countP_eq_length_filter, List.countP_eq_length_filter] at this
      simp only [decide_not] at *
      simp at this ⊢
      omega
    have h4 : (colL (a + n) (lo (a + n)) (hi (a + n) + 1 - lo (a + n)).toNat).length = (hi (a + n) + 1 - lo (a + n)).toNat := by unfold colL; simp
    have := hlh (a + n)
    rw [sumN]
    omega
/-- twice the area within a ring; the steps along it -/
def area2 (R : List P2) : Int := sumE shoe (edg R)
def cnt (R : List P2) : Int := sumE gst (edg R)
theorem chs_gap {S : List P2} {x : Int} {e : Int × Int} (h : e ∈ chs S x) : e.1 ≤ e.2 + 1 := by
  rcases mem_chs.mp h with ⟨p, _, g⟩ | ⟨p, _, q, _, g⟩
  · unfold chV at g
    split at g
    · cases g; dsimp only; omega
    · cases g
  · have k := @chG_low x p q (e.2 + 1) e g
    omega
theorem Chord.gap {S : List P2} {x lo hi : Int} (h : Chord S x lo hi) : lo ≤ hi + 1 := by
  have n1 : (chs S x).map (·.1) ≠ [] := by intro e; have := h.low; rw [e] at this; cases this
  obtain ⟨m, e, hm, hl⟩ := minI_is n1
  rw [h.low] at e
  cases e
  have n2 : (chs S x).map (·.2) ≠ [] := by intro e; have := h.high; rw [e] at this; cases this
  obtain ⟨m', e', hm', hl'⟩ := maxI_is n2
  rw [h.high] at e'
  cases e'
  obtain ⟨q, hq, e⟩ := List.mem_map.mp hm
  have := hl' q.2 (List.mem_map.mpr ⟨q, hq, rfl⟩)
  have := chs_gap hq
  omega
theorem blw_ng {S : List P2} {p : P2} : blw (S.map ng) (ng p) ↔ abv S p := by
  constructor
  · rintro (⟨u, hu, h1, h2⟩ | ⟨u, hu, v, hv, h1, h2, h3⟩)
    · obtain ⟨w, hw, rfl⟩ := List.mem_map.mp hu
      unfold ng at h1 h2
      dsimp only at h1 h2
      exact .inl ⟨w, hw, by omega, by omega⟩
    · obtain ⟨w, hw, rfl⟩ := List.mem_map.mp hu
      obtain ⟨z, hz, rfl⟩ := List.mem_map.mp hv
      rw [ar_ng] at h3
      have := ar_swap w z p
      unfold ng at h1 h2
      dsimp only at h1 h2
      exact .inr ⟨z, hz, w, hw, by omega, by omega, by omega⟩
  · rintro (⟨u, hu, h1, h2⟩ | ⟨u, hu, v, hv, h1, h2, h3⟩)
    · exact .inl ⟨_, List.mem_map.mpr ⟨u, hu, rfl⟩, by unfold ng; dsimp only; omega, by unfold ng; dsimp only; omega⟩
    · refine .inr ⟨_, List.mem_map.mpr ⟨v, hv, rfl⟩, _, List.mem_map.mpr ⟨u, hu, rfl⟩, by unfold ng; dsimp only; omega, by unfold ng; dsimp only; omega, ?_⟩
      rw [ar_ng]
      have := ar_swap u v p
      omega
theorem sumE_ng (f : P2 × P2 → Int) (h : ∀ e : P2 × P2, f (ng e.1, ng e.2) = f e) : ∀ l : List (P2 × P2), sumE f (l.map fun e => (ng e.1, ng e.2)) = sumE f l
  | [] => rfl
  | e :: r => by rw [List.map_cons, sumE, sumE, h, sumE_ng f h r]
theorem edg_chains {S : List P2} (ha : Asc S) (h2 : ¬ S.length < 2) : edg (ringOf S) = prs (chain S) ++ prs (chain S.reverse) := by
  unfold ringOf
  rw [if_neg h2]
  obtain ⟨m, hm⟩ : ∃ m, S.head? = some m := by
    cases S with
    | nil => simp at h2
    | cons a S => exact ⟨a, rfl⟩
  obtain ⟨M, hM⟩ : ∃ M, S.getLast? = some M := ⟨_, List.getLast?_eq_some_getLast (by intro e; rw [e] at hm; cases hm)⟩
  have hne : m ≠ M := by
    rintro rfl
    match S, h2, hm, hM with
    | a :: b :: r, _, hm, hM =>
      cases hm
      rw [List.getLast?_cons_cons] at hM
      exact lexLt_irr _ ((List.pairwise_cons.mp ha).1 m (List.mem_of_getLast? hM))
    | [a], h2, _, _ => simp at h2
    | [], h2, _, _ => simp at h2
  have U := chain_ok ha hm hM
  have L := chain_low ha hm hM
  rw [chain_ng] at L
  have lh : (chain S.reverse).head? = some M := by
    have := L.head
    rw [List.head?_map, Option.map_eq_some_iff] at this
    obtain ⟨x, h1, h3⟩ := this
    have := congrArg ng h3
    rw [ng_ng, ng_ng] at this
    rw [h1, this]
  have ll : (chain S.reverse).getLast? = some m := by
    have := L.last
    rw [List.getLast?_map, Option.map_eq_some_iff] at this
    obtain ⟨x, h1, h3⟩ := this
    have := congrArg ng h3
    rw [ng_ng, ng_ng] at this
    rw [h1, this]
  obtain ⟨A, eA⟩ := split_ends hne U.head U.last
  obtain ⟨B, eB⟩ := split_ends (fun z => hne z.symm) lh ll
  rw [eA, eB, List.dropLast_concat, List.dropLast_concat]
  unfold edg
  rw [show (m :: A ++ M :: B) ++ (m :: A ++ M :: B).take 1 = (m :: A) ++ M :: (B ++ [m]) by simp, prs_app]
  rfl
/-- PICK: the grid points of a hull, by the area and the steps of its ring -/
theorem pick {S rs : List P2} (ha : Asc S) (h0 : S ≠ []) (nd : rs.Nodup) (hm : ∀ p, p ∈ rs ↔ hul S p) : 2 * (rs.length : Int) = area2 (ringOf S) + cnt (ringOf S) + 2 := by
  obtain ⟨m, hh⟩ : ∃ m, S.head? = some m := by
    obtain ⟨u, r, rfl⟩ := List.exists_cons_of_ne_nil h0
    exact ⟨u, rfl⟩
  obtain ⟨M, hM⟩ : ∃ M, S.getLast? = some M := ⟨_, List.getLast?_eq_some_getLast h0⟩
  have mS := List.mem_of_head? hh
  have MS := List.mem_of_getLast? hM
  have lo := asc_least ha hh
  have up := asc_most ha hM
  have xm : ∀ q ∈ S, m.1 ≤ q.1 ∧ q.1 ≤ M.1 ∧ (q.1 = m.1 → m.2 ≤ q.2) ∧ (q.1 = M.1 → q.2 ≤ M.2) := fun q hq => by
    have e1 := lo q hq
    have e2 := up q hq
    have i1 : ∀ a b : P2, a = b → a.1 = b.1 ∧ a.2 = b.2 := fun a b e => by rw [e]; exact ⟨rfl, rfl⟩
    unfold lexLt at e1 e2
    rcases e1 with e1 | e1
    · have := i1 _ _ e1
      rcases e2 with e2 | e2
      · have := i1 _ _ e2; omega
      · omega
    · rcases e2 with e2 | e2
      · have := i1 _ _ e2; omega
      · omega
  have mM := (xm M MS).1
  -- the ends of the columns
  have ch : ∀ x, m.1 ≤ x → x ≤ M.1 → ∃ p : Int × Int, Chord S x p.1 p.2 := fun x h1 h2 => by
    obtain ⟨l, h, c⟩ := chord_is (chs_ne (x := x) mS MS h1 h2)
    exact ⟨(l, h), c⟩
  obtain ⟨f, hf⟩ : ∃ f : Int → Int × Int, (∀ x, m.1 ≤ x → x ≤ M.1 → Chord S x (f x).1 (f x).2) ∧ ∀ x, (f x).1 ≤ (f x).2 + 1 := by
    refine ⟨fun x => if h : m.1 ≤ x ∧ x ≤ M.1 then (ch x h.1 h.2).choose else (0, 0), fun x h1 h2 => ?_, fun x => ?_⟩
    · dsimp only
      rw [dif_pos ⟨h1, h2⟩]
      exact (ch x h1 h2).choose_spec
    · dsimp only
      by_cases h : m.1 ≤ x ∧ x ≤ M.1
      · rw [dif_pos h]
        exact (ch x h.1 h.2).choose_spec.gap
      · rw [dif_neg h]
        decide
  obtain ⟨hc, hgap⟩ := hf
  obtain ⟨W, hW⟩ : ∃ W : Nat, M.1 - m.1 = (W : Int) := ⟨(M.1 - m.1).toNat, by omega⟩
  have cols := col_count nd (a := m.1) (n := W + 1) (lo := fun x => (f x).1) (hi := fun x => (f x).2) hgap (fun p => by
    rw [hm]
    constructor
    · intro h
      obtain ⟨⟨u, hu, g1⟩, v, hv, g2⟩ := abv_x h.1
      have := xm u hu
      have := xm v hv
      have c := hc p.1 (by omega) (by omega)
      exact ⟨by omega, c.abv.mpr h.1, c.blw.mpr h.2⟩
    · rintro ⟨⟨h1, h2⟩, h3, h4⟩
      have c := hc p.1 h1 (by omega)
      exact ⟨c.abv.mp h3, c.blw.mp h4⟩)
  have lastU : (f M.1).2 = M.2 := by
    have c := hc M.1 mM (Int.le_refl _)
    have key : ∀ y, y ≤ (f M.1).2 ↔ y ≤ M.2 := fun y => by
      rw [c.blw]
      constructor
      · rintro (⟨u, hu, e, g⟩ | ⟨u, hu, v, hv, _, e, _⟩)
        · have := (xm u hu).2.2.2 e
          dsimp only at g
          omega
        · have := (xm v hv).2.1
          dsimp only at e
          omega
      · intro g
        exact .inl ⟨M, MS, rfl, g⟩
    have := (key (f M.1).2).mp (Int.le_refl _)
    have := (key M.2).mpr (Int.le_refl _)
    omega
  have firstL : (f m.1).1 = m.2 := by
    have c := hc m.1 (Int.le_refl _) mM
    have key : ∀ y, (f m.1).1 ≤ y ↔ m.2 ≤ y := fun y => by
      rw [c.abv]
      constructor
      · rintro (⟨u, hu, e, g⟩ | ⟨u, hu, v, hv, e, _, _⟩)
        · have := (xm u hu).2.2.1 e
          dsimp only at g
          omega
        · have := (xm u hu).1
          dsimp only at e
          omega
      · intro g
        exact .inl ⟨m, mS, rfl, g⟩
    have := (key (f m.1).1).mp (Int.le_refl _)
    have := (key m.2).mpr (Int.le_refl _)
    omega
  have U := chain_ok ha hh hM
  have L := chain_low ha hh hM
  have sU := chain_sum (top := fun x => (f x).2) U.head U.last U.asc U.sub U.edge (fun x h1 h2 y => (hc x h1 (by omega)).blw)
  have sL := chain_sum (top := fun x => - (f (-x)).1) L.head L.last L.asc L.sub L.edge (fun x h1 h2 y => by
    have c := hc (-x) (by unfold ng at h2; dsimp only at h2; omega) (by unfold ng at h1; dsimp only at h1; omega)
    have e1 : ((x, y) : P2) = ng (-x, -y) := by unfold ng; simp
    rw [e1, blw_ng, ← c.abv]
    omega)
  rw [chain_ng, prs_map, sumE_ng shoe (fun e => by unfold shoe ng; dsimp only; grind), sumE_ng gst (fun e => by
    unfold gst ng
    dsimp only
    rw [show -e.2.1 - -e.1.1 = -(e.2.1 - e.1.1) by omega, show -e.2.2 - -e.1.2 = -(e.2.2 - e.1.2) by omega, Int.neg_gcd, Int.gcd_neg])] at sL
  unfold ng at sL
  dsimp only at sL
  rw [show (-m.1 - -M.1).toNat = W by omega] at sL
  rw [show (M.1 - m.1).toNat = W by omega] at sU
  have rv : sumN W (fun i => - (f (-(-M.1 + (i : Int)))).1) = - sumN W (fun i => (f (m.1 + 1 + (i : Int))).1) := by
    rw [sumN_neg, ← sumN_rev]
    congr 1
    refine sumN_congr fun i hi => ?_
    rw [show -(-M.1 + ((W - 1 - i : Nat) : Int)) = m.1 + 1 + (i : Int) by omega]
  rw [rv] at sL
  have split1 : sumN (W + 1) (fun i => (f (m.1 + (i : Int))).2) = sumN W (fun i => (f (m.1 + (i : Int))).2) + M.2 := by
    rw [sumN, show m.1 + (W : Int) = M.1 by omega, lastU]
  have split2 : sumN (W + 1) (fun i => (f (m.1 + (i : Int))).1) = m.2 + sumN W (fun i => (f (m.1 + 1 + (i : Int))).1) := by
    rw [sumN_head, show m.1 + ((0 : Nat) : Int) = m.1 by omega, firstL]
    congr 1
    refine sumN_congr fun i hi => ?_
    rw [show m.1 + ((i + 1 : Nat) : Int) = m.1 + 1 + (i : Int) by omega]
  have tot : sumN (W + 1) (fun i => (f (m.1 + (i : Int))).2 - (f (m.1 + (i : Int))).1 + 1) = sumN (W + 1) (fun i => (f (m.1 + (i : Int))).2) - sumN (W + 1) (fun i => (f (m.1 + (i : Int))).1) + (W + 1) := by
    have : sumN (W + 1) (fun i => (f (m.1 + (i : Int))).2 - (f (m.1 + (i : Int))).1 + 1) = sumN (W + 1) (fun i => (f (m.1 + (i : Int))).2 + (- (f (m.1 + (i : Int))).1 + 1)) := sumN_congr fun i hi => by omega
    rw [this, sumN_add, sumN_add, sumN_neg, sumN_const]
    omega
  rw [tot, split1, split2] at cols
  have fin : area2 (ringOf S) + cnt (ringOf S) = (sumE shoe (prs (chain S)) + sumE gst (prs (chain S))) + (sumE shoe (prs (chain S.reverse)) + sumE gst (prs (chain S.reverse))) := by
    by_cases h2 : S.length < 2
    · match S, h0, h2 with
      | [a], _, _ =>
        have c1 : chain [a] = [a] := rfl
        have c2 : chain [a].reverse = [a] := rfl
        have c3 : ringOf [a] = [a] := rfl
        rw [c1, c2, c3]
        simp [area2, cnt, edg, prs, sumE, shoe, gst]
      | _ :: _ :: _, _, h => simp at h; omega
    · unfold area2 cnt
      rw [edg_chains ha h2, sumE_app, sumE_app]
      omega
  omega
/-! ## the points on the rim -/
def segP (e : P2 × P2) (i : Nat) : P2 := (e.1.1 + (i : Int) * (pvec (vec e.1 e.2)).1, e.1.2 + (i : Int) * (pvec (vec e.1 e.2)).2)
def seg (e : P2 × P2) : List P2 := (List.range (Int.gcd (e.2.1 - e.1.1) (e.2.2 - e.1.2))).map (segP e)
structure SegAt (e : P2 × P2) (d : P2) (g : Int) : Prop where
  prime : Prime d
  pos : 0 < g
  x : e.2.1 - e.1.1 = g * d.1
  y : e.2.2 - e.1.2 = g * d.2
theorem seg_at {e : P2 × P2} (h : e.1 ≠ e.2) : SegAt e (pvec (vec e.1 e.2)) (Int.gcd (e.2.1 - e.1.1) (e.2.2 - e.1.2) : Int) := by
  obtain ⟨k1, k2, k3, k4⟩ := pvec_is (vec_ne (p := e.1) (q := e.2) (fun z => h z.symm))
  exact ⟨k1, k2, k3, k4⟩
theorem mem_seg {e : P2 × P2} {p : P2} : p ∈ seg e ↔ ∃ i : Nat, (i : Int) < (Int.gcd (e.2.1 - e.1.1) (e.2.2 - e.1.2) : Int) ∧ p = segP e i := by
  unfold seg
  rw [List.mem_map]
  constructor
  · rintro ⟨i, hi, rfl⟩
    have := List.mem_range.mp hi
    exact ⟨i, by omega, rfl⟩
  · rintro ⟨i, hi, rfl⟩
    exact ⟨i, List.mem_range.mpr (by omega), rfl⟩
theorem seg_nodup {e : P2 × P2} (h : e.1 ≠ e.2) : (seg e).Nodup := by
  have s := seg_at h
  unfold seg
  rw [List.Nodup, List.pairwise_map]
  refine List.nodup_range.imp fun {i j} hij e' => hij ?_
  unfold segP at e'
  have h1 := congrArg Prod.fst e'
  have h2 := congrArg Prod.snd e'
  dsimp only at h1 h2
  have hd := s.prime.ne
  generalize pvec (vec e.1 e.2) = d at *
  by_cases c : d.1 = 0
  · have c2 : d.2 ≠ 0 := fun z => hd (Prod.ext c z)
    have : (i : Int) * d.2 = (j : Int) * d.2 := by omega
    have := Int.eq_of_mul_eq_mul_right c2 this
    omega
  · have : (i : Int) * d.1 = (j : Int) * d.1 := by omega
    have := Int.eq_of_mul_eq_mul_right c this
    omega
theorem edg_fst (R : List P2) : (edg R).map (·.1) = R := by
  refine List.ext_getElem? fun k => ?_
  rw [List.getElem?_map]
  by_cases c : k < R.length
  · have c2 : (k + 1) % R.length < R.length := Nat.mod_lt _ (by omega)
    rw [edg_get (List.getElem?_eq_getElem c) (List.getElem?_eq_getElem c2), List.getElem?_eq_getElem c]
    rfl
  · rw [List.getElem?_eq_none (by rw [edg_len]; omega), List.getElem?_eq_none (by omega)]
    rfl
section
variable {S R : List P2} (h : RingOk S R) (h3 : 3 ≤ R.length)
include h h3
theorem RingOk.edge_in {e : P2 × P2} (he : e ∈ edg R) : e.1 ∈ R ∧ e.2 ∈ R ∧ e.1 ≠ e.2 := by
  obtain ⟨k, h1, h2⟩ := mem_edg.mp he
  refine ⟨List.mem_of_getElem? h1, List.mem_of_getElem? h2, fun z => ?_⟩
  obtain ⟨a1, a2⟩ := List.getElem?_eq_some_iff.mp h1
  obtain ⟨b1, b2⟩ := List.getElem?_eq_some_iff.mp h2
  have := nodup_at h.nodup (a2.trans (z.trans b2.symm))
  by_cases c : k + 1 < R.length
  · rw [Nat.mod_eq_of_lt c] at this; omega
  · rw [show k + 1 = R.length by omega, Nat.mod_self] at this; omega
theorem RingOk.seg_in {e : P2 × P2} (he : e ∈ edg R) {p : P2} (hp : p ∈ seg e) : Lw.hul S p ∧ ar e.1 e.2 p = 0 := by
  obtain ⟨m1, m2, ne⟩ := h.edge_in h3 he
  have s := seg_at ne
  obtain ⟨i, hi, rfl⟩ := mem_seg.mp hp
  have M1 := (h.xt _ m1).1
  have M2 := (h.xt _ m2).1
  unfold segP
  obtain ⟨_, g0, sx, sy⟩ := s
  generalize (Int.gcd (e.2.1 - e.1.1) (e.2.2 - e.1.2) : Int) = g at *
  generalize pvec (vec e.1 e.2) = d at *
  constructor
  · rw [hul_sep]
    rintro ⟨a, b, k⟩
    have k1 := k e.1 M1
    have k2 := k e.2 M2
    dsimp only at k1 k2
    have e1 : a * (e.1.1 - (e.1.1 + (i : Int) * d.1)) + b * (e.1.2 - (e.1.2 + (i : Int) * d.2)) = -((i : Int) * (a * d.1 + b * d.2)) := by grind
    have e2 : a * (e.2.1 - (e.1.1 + (i : Int) * d.1)) + b * (e.2.2 - (e.1.2 + (i : Int) * d.2)) = (g - (i : Int)) * (a * d.1 + b * d.2) := by
      rw [show e.2.1 - (e.1.1 + (i : Int) * d.1) = g * d.1 - (i : Int) * d.1 by omega, show e.2.2 - (e.1.2 + (i : Int) * d.2) = g * d.2 - (i : Int) * d.2 by omega]
      grind
    rw [e1] at k1
    rw [e2] at k2
    rcases Int.le_total 0 (a * d.1 + b * d.2) with z | z
    · have := Int.mul_nonneg (show 0 ≤ (i : Int) by omega) z; omega
    · have := Int.mul_nonpos_of_nonneg_of_nonpos (show 0 ≤ g - (i : Int) by omega) z; omega
  · unfold ar
    rw [sx, sy]
    dsimp only
    grind
/-- what of the hull lies on the line of an edge lies on the edge -/
theorem RingOk.on_edge {e : P2 × P2} (he : e ∈ edg R) {p : P2} (hp : Lw.hul S p) (z : ar e.1 e.2 p = 0) : p ∈ seg e ∨ p = e.2 := by
  obtain ⟨m1, m2, ne⟩ := h.edge_in h3 he
  have s := seg_at ne
  obtain ⟨M1, a, b, k1⟩ := h.xt _ m1
  obtain ⟨M2, a', b', k2⟩ := h.xt _ m2
  have f1 := k1 e.2 M2 (fun z => ne z.symm)
  have f2 := k2 e.1 M1 ne
  -- the hull lies behind both corners
  have g1 : 0 ≤ a * (p.1 - e.1.1) + b * (p.2 - e.1.2) := by
    rcases Int.lt_or_le (a * (p.1 - e.1.1) + b * (p.2 - e.1.2)) 0 with c | c
    · exfalso
      refine (hul_sep.mp hp) ⟨a, b, fun q hq => ?_⟩
      by_cases w : q = e.1
      · subst w; grind
      · have := k1 q hq w; grind
    · exact c
  have g2 : 0 ≤ a' * (p.1 - e.2.1) + b' * (p.2 - e.2.2) := by
    rcases Int.lt_or_le (a' * (p.1 - e.2.1) + b' * (p.2 - e.2.2)) 0 with c | c
    · exfalso
      refine (hul_sep.mp hp) ⟨a', b', fun q hq => ?_⟩
      by_cases w : q = e.2
      · subst w; grind
      · have := k2 q hq w; grind
    · exact c
  have seg' : ∀ i : Nat, (i : Int) < (Int.gcd (e.2.1 - e.1.1) (e.2.2 - e.1.2) : Int) → p = segP e i → p ∈ seg e := fun i hi hp => mem_seg.mpr ⟨i, hi, hp⟩
  unfold segP at seg'
  obtain ⟨hd, g0, sx, sy⟩ := s
  generalize (Int.gcd (e.2.1 - e.1.1) (e.2.2 - e.1.2) : Int) = g at *
  generalize pvec (vec e.1 e.2) = d at *
  have zz : d.1 * (p.2 - e.1.2) = d.2 * (p.1 - e.1.1) := by
    unfold ar at z
    rw [sx, sy] at z
    have : g * (d.1 * (p.2 - e.1.2)) = g * (d.2 * (p.1 - e.1.1)) := by grind
    exact Int.eq_of_mul_eq_mul_left (by omega) this
  obtain ⟨k, x1, x2⟩ := on_line hd zz
  have d1 : a * (e.2.1 - e.1.1) + b * (e.2.2 - e.1.2) = g * (a * d.1 + b * d.2) := by rw [sx, sy]; grind
  have d2 : a' * (e.1.1 - e.2.1) + b' * (e.1.2 - e.2.2) = -(g * (a' * d.1 + b' * d.2)) := by
    rw [show e.1.1 - e.2.1 = -(g * d.1) by omega, show e.1.2 - e.2.2 = -(g * d.2) by omega]; grind
  have d3 : a * (p.1 - e.1.1) + b * (p.2 - e.1.2) = k * (a * d.1 + b * d.2) := by rw [x1, x2]; grind
  have d4 : a' * (p.1 - e.2.1) + b' * (p.2 - e.2.2) = (k - g) * (a' * d.1 + b' * d.2) := by
    rw [show p.1 - e.2.1 = k * d.1 - g * d.1 by omega, show p.2 - e.2.2 = k * d.2 - g * d.2 by omega]; grind
  rw [d1] at f1
  rw [d2] at f2
  rw [d3] at g1
  rw [d4] at g2
  have p1 : 0 < a * d.1 + b * d.2 := by
    rcases Int.lt_or_le 0 (a * d.1 + b * d.2) with w | w
    · exact w
    · have := Int.mul_nonpos_of_nonneg_of_nonpos (Int.le_of_lt g0) w; omega
  have p2 : a' * d.1 + b' * d.2 < 0 := by
    rcases Int.lt_or_le (a' * d.1 + b' * d.2) 0 with w | w
    · exact w
    · have := Int.mul_nonneg (Int.le_of_lt g0) w; omega
  have k0 : 0 ≤ k := by
    rcases Int.lt_or_le k 0 with w | w
    · have := Int.mul_neg_of_neg_of_pos w p1; omega
    · exact w
  have kg : k ≤ g := by
    rcases Int.lt_or_le g k with w | w
    · have := Int.mul_neg_of_pos_of_neg (show 0 < k - g by omega) p2; omega
    · exact w
  obtain ⟨i, rfl⟩ := Int.eq_ofNat_of_zero_le k0
  rcases Int.lt_or_eq_of_le kg with w | w
  · exact .inl (seg' i w (Prod.ext (by show p.1 = e.1.1 + (i : Int) * d.1; omega) (by show p.2 = e.1.2 + (i : Int) * d.2; omega)))
  · right
    rw [w] at x1 x2
    exact Prod.ext (by omega) (by omega)
theorem RingOk.rim {p : P2} : p ∈ (edg R).flatMap seg ↔ Lw.hul S p ∧ ∃ e ∈ edg R, ar e.1 e.2 p = 0 := by
  rw [List.mem_flatMap]
  constructor
  · rintro ⟨e, he, hp⟩
    obtain ⟨a, b⟩ := h.seg_in h3 he hp
    exact ⟨a, e, he, b⟩
  · rintro ⟨hp, e, he, z⟩
    rcases h.on_edge h3 he hp z with c | rfl
    · exact ⟨e, he, c⟩
    · -- the next edge begins here
      obtain ⟨m1, m2, ne⟩ := h.edge_in h3 he
      obtain ⟨k, hk⟩ := List.mem_iff_getElem?.mp m2
      have kl := (List.getElem?_eq_some_iff.mp hk).1
      have c2 : (k + 1) % R.length < R.length := Nat.mod_lt _ (by omega)
      have e2 : (e.2, R[(k + 1) % R.length]) ∈ edg R := mem_edg.mpr ⟨k, hk, List.getElem?_eq_getElem c2⟩
      obtain ⟨_, _, ne2⟩ := h.edge_in h3 e2
      have s := seg_at ne2
      refine ⟨_, e2, mem_seg.mpr ⟨0, s.pos, ?_⟩⟩
      unfold segP
      simp
theorem RingOk.rim_nodup : ((edg R).flatMap seg).Nodup := by
  rw [List.Nodup, List.pairwise_flatMap]
  refine ⟨fun e he => seg_nodup (h.edge_in h3 he).2.2, ?_⟩
  have nd : ((edg R).map (·.1)).Nodup := by rw [edg_fst]; exact h.nodup
  refine List.Pairwise.imp_of_mem (fun {e e'} he he' hne x hx y hy hxy => ?_) (List.pairwise_map.mp nd)
  subst hxy
  obtain ⟨m1, m2, ne⟩ := h.edge_in h3 he
  obtain ⟨m1', m2', ne'⟩ := h.edge_in h3 he'
  have on1 := (h.seg_in h3 he hx).2
  have on2 := (h.seg_in h3 he' hy).2
  have e1 := h.edge e' he' _ (h.xt _ m1).1
  have e2 := h.edge e' he' _ (h.xt _ m2).1
  have e1' := h.edge e he _ (h.xt _ m1').1
  have e2' := h.edge e he _ (h.xt _ m2').1
  -- a start that stands within another edge
  have start : ∀ f f' : P2 × P2, f ∈ edg R → f' ∈ edg R → f.1 ≠ f'.1 → f.1 ∈ seg f' → False := fun f f' hf hf' hn hm => by
    obtain ⟨q1, q2, qn⟩ := h.edge_in h3 hf'
    have s := seg_at qn
    obtain ⟨j, hj, ej⟩ := mem_seg.mp hm
    obtain ⟨xS, a, b, k⟩ := h.xt _ (h.edge_in h3 hf).1
    have j0 : j ≠ 0 := by
      rintro rfl
      unfold segP at ej
      simp at ej
      exact hn ej
    have k1 := k f'.1 (h.xt _ q1).1 (fun z => hn z.symm)
    obtain ⟨hd, g0, sx, sy⟩ := s
    unfold segP at ej
    generalize (Int.gcd (f'.2.1 - f'.1.1) (f'.2.2 - f'.1.2) : Int) = g at *
    generalize pvec (vec f'.1 f'.2) = d at *
    have ex : f.1.1 = f'.1.1 + (j : Int) * d.1 := congrArg Prod.fst ej
    have ey : f.1.2 = f'.1.2 + (j : Int) * d.2 := congrArg Prod.snd ej
    have n2 : f'.2 ≠ f.1 := fun z => by
      have zx : f'.2.1 = f.1.1 := by rw [z]
      have zy : f'.2.2 = f.1.2 := by rw [z]
      have w1 : (g - j) * d.1 = 0 := by rw [Int.sub_mul]; omega
      have w2 : (g - j) * d.2 = 0 := by rw [Int.sub_mul]; omega
      have gj : g - (j : Int) ≠ 0 := by omega
      exact hd.ne (Prod.ext ((Int.mul_eq_zero.mp w1).resolve_left gj) ((Int.mul_eq_zero.mp w2).resolve_left gj))
    have k2 := k f'.2 (h.xt _ q2).1 n2
    have d1 : a * (f'.1.1 - f.1.1) + b * (f'.1.2 - f.1.2) = -((j : Int) * (a * d.1 + b * d.2)) := by
      rw [show f'.1.1 - f.1.1 = -((j : Int) * d.1) by omega, show f'.1.2 - f.1.2 = -((j : Int) * d.2) by omega]; grind
    have d2 : a * (f'.2.1 - f.1.1) + b * (f'.2.2 - f.1.2) = (g - (j : Int)) * (a * d.1 + b * d.2) := by
      rw [show f'.2.1 - f.1.1 = g * d.1 - (j : Int) * d.1 by omega, show f'.2.2 - f.1.2 = g * d.2 - (j : Int) * d.2 by omega]; grind
    rw [d1] at k1
    rw [d2] at k2
    rcases Int.le_total 0 (a * d.1 + b * d.2) with z | z
    · have := Int.mul_nonneg (show 0 ≤ (j : Int) by omega) z; omega
    · have := Int.mul_nonpos_of_nonneg_of_nonpos (show 0 ≤ g - (j : Int) by omega) z; omega
  obtain ⟨i, hi, ei⟩ := mem_seg.mp hx
  obtain ⟨j, hj, ej⟩ := mem_seg.mp hy
  by_cases i0 : i = 0
  · subst i0
    have : x = e.1 := by rw [ei]; unfold segP; simp
    rw [this] at hy
    exact start e e' he he' hne hy
  · by_cases j0 : j = 0
    · subst j0
      have : x = e'.1 := by rw [ej]; unfold segP; simp
      rw [this] at hx
      exact start e' e he' he (fun z => hne z.symm) hx
    · -- within both
      have s := seg_at ne
      obtain ⟨hd, g0, sx, sy⟩ := s
      unfold segP at ei
      generalize (Int.gcd (e.2.1 - e.1.1) (e.2.2 - e.1.2) : Int) = g at *
      generalize pvec (vec e.1 e.2) = d at *
      have ex : x.1 = e.1.1 + (i : Int) * d.1 := congrArg Prod.fst ei
      have ey : x.2 = e.1.2 + (i : Int) * d.2 := congrArg Prod.snd ei
      have id : g * ar e'.1 e'.2 x = (g - (i : Int)) * ar e'.1 e'.2 e.1 + (i : Int) * ar e'.1 e'.2 e.2 := by
        have a1 : e.2.1 = e.1.1 + g * d.1 := by omega
        have a2 : e.2.2 = e.1.2 + g * d.2 := by omega
        unfold ar
        rw [ex, ey, a1, a2]
        grind
      rw [on2, Int.mul_zero] at id
      have n1 := Int.mul_nonpos_of_nonneg_of_nonpos (show 0 ≤ g - (i : Int) by omega) e1
      have n2 := Int.mul_nonpos_of_nonneg_of_nonpos (show 0 ≤ (i : Int) by omega) e2
      have z1 : ar e'.1 e'.2 e.1 = 0 := (Int.mul_eq_zero.mp (show (g - (i : Int)) * ar e'.1 e'.2 e.1 = 0 by omega)).resolve_left (by omega)
      have z2 : ar e'.1 e'.2 e.2 = 0 := (Int.mul_eq_zero.mp (show (i : Int) * ar e'.1 e'.2 e.2 = 0 by omega)).resolve_left (by omega)
      have c1 : e.1 = e'.2 := Classical.byContradiction fun c => xt_bend (h.xt _ m1') (h.xt _ m2') (h.xt _ m1) ne' (fun z => c z.symm) (fun z => hne z.symm) z1
      have c2 : e.2 = e'.1 := Classical.byContradiction fun c => xt_bend (h.xt _ m1') (h.xt _ m2') (h.xt _ m2) ne' (fun z => ne (c1.trans z)) (fun z => c z.symm) z2
      -- there is a third corner
      obtain ⟨t, ht, t1, t2⟩ : ∃ t ∈ R, t ≠ e.1 ∧ t ≠ e.2 := by
        refine Classical.byContradiction fun n => ?_
        have := List.Nodup.length_le_of_subset (l₁ := R) (l₂ := [e.1, e.2]) h.nodup (fun t ht => by
          by_cases w1 : t = e.1
          · rw [w1]; simp
          · by_cases w2 : t = e.2
            · rw [w2]; simp
            · exact absurd ⟨t, ht, w1, w2⟩ n)
        simp at this
        omega
      have k1 := h.edge e he t (h.xt t ht).1
      have k2 := h.edge e' he' t (h.xt t ht).1
      rw [← c1, ← c2] at k2
      have := ar_swap e.1 e.2 t
      exact xt_bend (h.xt _ m1) (h.xt _ m2) (h.xt t ht) ne (fun z => t2 z.symm) (fun z => t1 z.symm) (by omega)
omit h h3 in
theorem sumE_len : ∀ E : List (P2 × P2), sumE gst E = ((E.flatMap seg).length : Int)
  | [] => rfl
  | e :: E => by
    rw [sumE, sumE_len E, List.flatMap_cons, List.length_append]
    unfold gst seg
    simp
/-- as many points on the rim as steps along it -/
theorem RingOk.rim_count {rs : List P2} (nd : rs.Nodup) (hm : ∀ p, p ∈ rs ↔ Lw.hul S p) : ((rs.filter fun p => (edg R).any fun e => decide (ar e.1 e.2 p = 0)).length : Int) = cnt R := by
  unfold cnt
  rw [sumE_len]
  have any : ∀ p, ((edg R).any fun e => decide (ar e.1 e.2 p = 0)) = true ↔ ∃ e ∈ edg R, ar e.1 e.2 p = 0 := fun p => by
    rw [List.any_eq_true]
    exact ⟨fun ⟨e, he, z⟩ => ⟨e, he, of_decide_eq_true z⟩, fun ⟨e, he, z⟩ => ⟨e, he, decide_eq_true z⟩⟩
  have pm : (rs.filter fun p => (edg R).any fun e => decide (ar e.1 e.2 p = 0)).Perm ((edg R).flatMap seg) := (List.perm_ext_iff_of_nodup (nd.filter _) (h.rim_nodup h3)).mpr fun p => by
    rw [List.mem_filter, hm, h.rim h3, any]
  rw [pm.length_eq]
end
end Lw
namespace Lw
/-! ## areas and counts as they are told: each point with the one ahead -/
theorem sumN_cyc {n : Nat} (F : Nat → Int) : sumN n (fun k => F ((k + 1) % n)) = sumN n F := by
  cases n with
  | zero => rfl
  | succ m =>
    rw [sumN_head (f := F), sumN]
    have : sumN m (fun k => F ((k + 1) % (m + 1))) = sumN m (fun k => F (k + 1)) := sumN_congr fun i hi => by rw [Nat.mod_eq_of_lt (by omega)]
    rw [this, Nat.mod_self]
    omega
theorem sumE_range {f : P2 × P2 → Int} {F : Nat → P2 × P2} : ∀ {n : Nat}, sumE f ((List.range n).map F) = sumN n (fun k => f (F k))
  | 0 => rfl
  | n + 1 => by
    rw [List.range_succ, List.map_append, sumE_app, sumE_range, sumN]
    simp [sumE]
theorem sum_range {F : Nat → Int} : ∀ {n : Nat}, ((List.range n).map F).sum = sumN n F
  | 0 => rfl
  | n + 1 => by rw [List.range_succ, List.map_append, List.sum_append, sum_range, sumN]; simp
def atR (R : List P2) (k : Nat) : P2 := R.getD k (0, 0)
/-- the place ahead -/
def prv (R : List P2) (k : Nat) : Nat := (k + (R.length - 1)) % R.length
def rArea (R : List P2) : Int := sumN R.length fun k => tw (atR R k) (atR R (prv R k))
def rCount (R : List P2) : Int := sumN R.length fun k => (Int.gcd ((atR R k).1 - (atR R (prv R k)).1) ((atR R k).2 - (atR R (prv R k)).2) : Int)
theorem prv_succ {R : List P2} {k : Nat} (h : k < R.length) : prv R ((k + 1) % R.length) = k := by
  unfold prv
  rw [Nat.mod_add_mod, show k + 1 + (R.length - 1) = k + R.length by omega, Nat.add_mod_right, Nat.mod_eq_of_lt h]
theorem rArea_eq (R : List P2) : rArea R = area2 R := by
  unfold rArea area2
  rw [← edg_range, sumE_range, ← sumN_cyc]
  have e : sumN R.length (fun k => shoe (R.getD k (0, 0), R.getD ((k + 1) % R.length) (0, 0))) = sumN R.length (fun k => tw (atR R ((k + 1) % R.length)) (atR R (prv R ((k + 1) % R.length))) + ((atR R ((k + 1) % R.length)).1 * (atR R ((k + 1) % R.length)).2 + - ((atR R k).1 * (atR R k).2))) := sumN_congr fun k hk => by
    rw [prv_succ hk]
    unfold shoe tw atR
    dsimp only
    grind
  rw [e, sumN_add, sumN_add, sumN_neg, sumN_cyc (fun k => (atR R k).1 * (atR R k).2)]
  omega
theorem rCount_eq (R : List P2) : rCount R = cnt R := by
  unfold rCount cnt
  rw [← edg_range, sumE_range, ← sumN_cyc]
  refine sumN_congr fun k hk => ?_
  rw [prv_succ hk]
  rfl
/-! ## shapes slid -/
def slide (c : Int) (p : P2) : P2 := (p.1 + c, p.2 + c * p.1 - 5 * c)
theorem slide_ar (c : Int) (p q r : P2) : ar (slide c p) (slide c q) (slide c r) = ar p q r := by unfold ar slide; grind
theorem slide_lex {c : Int} {p q : P2} (h : lexLt p q) : lexLt (slide c p) (slide c q) := by
  unfold lexLt slide at *
  dsimp only
  rcases h with h | ⟨h1, h2⟩
  · left; omega
  · right; rw [h1]; omega
theorem slide_inj {c : Int} {p q : P2} (h : slide c p = slide c q) : p = q := by
  have h1 := congrArg Prod.fst h
  have h2 := congrArg Prod.snd h
  unfold slide at h1 h2
  dsimp only at h1 h2
  have e1 : p.1 = q.1 := by omega
  rw [e1] at h2
  exact Prod.ext e1 (by omega)
theorem slide_sur (c : Int) (q : P2) : slide c (q.1 - c, q.2 - c * (q.1 - c) + 5 * c) = q := by
  unfold slide
  exact Prod.ext (by dsimp only; omega) (by dsimp only; omega)
theorem slide_hul {c : Int} {S : List P2} {p : P2} : hul (S.map (slide c)) (slide c p) ↔ hul S p := by
  rw [hul_sep, hul_sep]
  refine not_congr ⟨fun ⟨a, b, h⟩ => ⟨a + b * c, b, fun q hq => ?_⟩, fun ⟨a, b, h⟩ => ⟨a - b * c, b, fun q hq => ?_⟩⟩
  · have := h _ (List.mem_map.mpr ⟨q, hq, rfl⟩)
    unfold slide at this
    dsimp only at this
    grind
  · obtain ⟨w, hw, rfl⟩ := List.mem_map.mp hq
    have := h w hw
    unfold slide
    dsimp only
    grind
theorem slide_rs {c : Int} {S rs : List P2} (nd : rs.Nodup) (hm : ∀ p, p ∈ rs ↔ hul S p) : (rs.map (slide c)).Nodup ∧ ∀ p, p ∈ rs.map (slide c) ↔ hul (S.map (slide c)) p := by
  refine ⟨?_, fun p => ?_⟩
  · rw [List.Nodup, List.pairwise_map]
    exact nd.imp fun h e => h (slide_inj e)
  · rw [List.mem_map]
    constructor
    · rintro ⟨q, hq, rfl⟩
      exact slide_hul.mpr ((hm q).mp hq)
    · intro h
      rw [← slide_sur c p] at h
      exact ⟨_, (hm _).mpr (slide_hul.mp h), slide_sur c p⟩
/-! ## counts of hulls, flat or not -/
theorem RingOk.flat {S R : List P2} (h : RingOk S R) (h3 : R.length < 3) (h0 : S ≠ []) {p : P2} (hp : Lw.hul S p) : ∃ e ∈ edg R, ar e.1 e.2 p = 0 := by
  match R, h with
  | [], h => exact absurd h.nil h0
  | [a], h =>
    refine ⟨(a, a), by simp [edg, prs], ?_⟩
    exact ar_aab a p
  | [m, M], h =>
    have e1 := h.edge_hul hp (m, M) (by simp [edg, prs])
    have e2 := h.edge_hul hp (M, m) (by simp [edg, prs])
    have e3 := ar_swap m M p
    dsimp only at e1 e2
    exact ⟨(m, M), by simp [edg, prs], by dsimp only; omega⟩
  | _ :: _ :: _ :: _, _ => simp at h3; omega
/-- points of the hull, points on its rim -/
structure Cnts (S rs : List P2) : Prop where
  nodup : rs.Nodup
  mem : ∀ p, p ∈ rs ↔ hul S p
def onRim (R : List P2) (p : P2) : Bool := (edg R).any fun e => decide (ar e.1 e.2 p = 0)
theorem Cnts.all {S rs : List P2} (c : Cnts S rs) (ha : Asc S) (h0 : S ≠ []) : (area2 (ringOf S) + cnt (ringOf S)).fdiv 2 + 1 = (rs.length : Int) := by
  have := pick ha h0 c.nodup c.mem
  rw [Int.fdiv_eq_ediv_of_nonneg _ (by decide)]
  omega
theorem Cnts.rim {S rs : List P2} (c : Cnts S rs) (ha : Asc S) (h0 : S ≠ []) : ((rs.filter (onRim (ringOf S))).length : Int) = if (ringOf S).length < 3 then (rs.length : Int) else cnt (ringOf S) := by
  have R := ring_ok ha
  by_cases h3 : (ringOf S).length < 3
  · rw [if_pos h3]
    have : rs.filter (onRim (ringOf S)) = rs := by
      rw [List.filter_eq_self]
      intro p hp
      obtain ⟨e, he, z⟩ := R.flat h3 h0 ((c.mem p).mp hp)
      unfold onRim
      rw [List.any_eq_true]
      exact ⟨e, he, decide_eq_true z⟩
    rw [this]
  · rw [if_neg h3]
    exact R.rim_count (by omega) c.nodup c.mem
end Lw
set_option maxRecDepth 100000
set_option maxHeartbeats 4000000
namespace Lw
open PySem
/-! # words of 0 and 1 -/
def Bin (w : List Int) : Prop := ∀ x ∈ w, x = 0 ∨ x = 1
instance (w : List Int) : Decidable (Bin w) := by unfold Bin; infer_instance
theorem Bin.nil : Bin [] := fun x hx => by simp at hx
theorem Bin.tail {x : Int} {w : List Int} (h : Bin (x :: w)) : Bin w := fun y hy => h y (List.mem_cons_of_mem _ hy)
theorem Bin.head {x : Int} {w : List Int} (h : Bin (x :: w)) : x = 0 ∨ x = 1 := h x List.mem_cons_self
theorem Bin.cons {x : Int} {w : List Int} (h : x = 0 ∨ x = 1) (g : Bin w) : Bin (x :: w) := fun y hy => (List.mem_cons.mp hy).elim (fun e => e ▸ h) (g y)
theorem Bin.app {v w : List Int} (h : Bin v) (g : Bin w) : Bin (v ++ w) := fun x hx => (List.mem_append.mp hx).elim (h x) (g x)
theorem Bin.left {v w : List Int} (h : Bin (v ++ w)) : Bin v := fun x hx => h x (List.mem_append_left _ hx)
theorem Bin.right {v w : List Int} (h : Bin (v ++ w)) : Bin w := fun x hx => h x (List.mem_append_right _ hx)
theorem Bin.snoc {x : Int} {w : List Int} (g : Bin w) (h : x = 0 ∨ x = 1) : Bin (w ++ [x]) := g.app (.cons h .nil)
theorem Bin.take {w : List Int} (h : Bin w) (k : Nat) : Bin (w.take k) := fun x hx => h x (List.mem_of_mem_take hx)
theorem Bin.drop {w : List Int} (h : Bin w) (k : Nat) : Bin (w.drop k) := fun x hx => h x (List.mem_of_mem_drop hx)
theorem Bin.rep {q : List Int} (hb : Bin q) (k : Int) : Bin (repD q k) := by
  intro x hx
  unfold repD at hx
  obtain ⟨l, hl, hx⟩ := List.mem_flatten.mp hx
  rw [List.eq_of_mem_replicate hl] at hx
  exact hb x hx
theorem bin0 (k : Nat) : Bin (List.replicate k 0) := fun x hx => .inl (List.eq_of_mem_replicate hx)
theorem bin1 (k : Nat) : Bin (List.replicate k 1) := fun x hx => .inr (List.eq_of_mem_replicate hx)
theorem Bin.at {w : List Int} (h : Bin w) {i : Nat} {x : Int} (e : w[i]? = some x) : x = 0 ∨ x = 1 := h x (List.mem_of_getElem? e)
theorem rep_len {α : Type} {q : List α} (k : Nat) : (repD q (k : Int)).length = k * q.length := by
  unfold repD
  rw [Int.toNat_natCast]
  induction k with
  | zero => simp
  | succ k ih => rw [List.replicate_succ, List.flatten_cons, List.length_append, ih, Nat.add_mul]; omega
theorem rep_map {q : List Int} {i : Int} : repD (dInts q) i = dInts (repD q i) := by
  unfold repD
  simp only [dInts, List.map_flatten, List.map_replicate]

end Lw
set_option maxRecDepth 100000
set_option maxHeartbeats 4000000
namespace Lw
open PySem
/-! # the laws' own draws -/
theorem fd_draws : pg.fd[16]? = some ⟨9, 2, B_draws⟩ := rfl
theorem draws_at {ns : List Int} {m : Nat} (hl : ns.length ≤ 1000) (hm : m ≤ 1000000) {N : Nat} (hN : 1 ≤ N) : ∃ ds, run pg N 16 [.sh (.ro (dInts ns)), .sh (.int m)] = .ok (.fr (dInts ds)) [none, none] := by
  obtain ⟨n, rfl⟩ := Nat.exists_eq_add_of_le' hN
  exact draws_run fd_draws hl hm n
theorem fd_take : pg.fd[17]? = some ⟨2, 2, B_take⟩ := rfl
theorem take_at {N : Nat} (hN : 1 ≤ N) (ds : List Int) (m : Int) (hm : 0 < m) : ∃ v : Nat, (v : Int) < m ∧ run pg N 17 [.loan (dInts ds), .sh (.int m)] = .ok (.sh (.int v)) [some (dInts ds.dropLast), none] := take_nat fd_take N (by omega) ds m hm
theorem take_bit {N : Nat} (hN : 1 ≤ N) (ds : List Int) : ∃ v : Int, (v = 0 ∨ v = 1) ∧ run pg N 17 [.loan (dInts ds), .sh (.int 2)] = .ok (.sh (.int v)) [some (dInts ds.dropLast), none] := by
  obtain ⟨v, hv, t⟩ := take_at hN ds 2 (by decide)
  exact ⟨v, by omega, t⟩
theorem fd_same : pg.fd[18]? = some ⟨3, 2, B_same 18⟩ := rfl
theorem key : ∀ (N : Nat) (a d : D) (Q : Val → List (Option (List D)) → Prop), 9 ≤ N → goodD a = true → goodD d = true → depD d ≤ 8 → rt (run pg N 18 [.sh a, .sh d]) Q = Q (.sh (.bl (sameD a d))) [none, none] := fun N a d Q hN ga gd hn => by
  obtain ⟨n, rfl⟩ := Nat.exists_eq_add_of_le' hN
  exact same_rt fd_same ga gd hn
theorem keyT {N : Nat} (hN : 9 ≤ N) {a : D} (ga : goodD a = true) (hn : depD a ≤ 8) (Q : Val → List (Option (List D)) → Prop) : rt (run pg N 18 [.sh a, .sh a]) Q = Q (.sh (.bl true)) [none, none] := by
  rw [key N a a Q hN ga ga hn, same_refl ga]
theorem fd_gcd : pg.fd[20]? = some ⟨3, 2, B_gcd⟩ := rfl
theorem lgcd_run {a b : Int} (hb : b.natAbs < 2 ^ 190) {N : Nat} (hN : 1 ≤ N) : run pg N 20 [.sh (.int a), .sh (.int b)] = .ok (.sh (.int (Int.gcd a b))) [none, none] := by
  obtain ⟨n, rfl⟩ := Nat.exists_eq_add_of_le' hN
  exact gcd_run fd_gcd hb n
theorem lcell_run {ns : List Int} {N : Nat} (hN : 1 ≤ N) : ∃ c : Int, c.natAbs < 10 ^ 30 ∧ run pg N 19 [.sh (.ro (dInts ns))] = .ok (.sh (.int c)) [none] := by
  obtain ⟨n, rfl⟩ := Nat.exists_eq_add_of_le' hN
  have : rt (run pg (n + 1) 19 [.sh (.ro (dInts ns))]) fun v os => ∃ c : Int, c.natAbs < 10 ^ 30 ∧ v = .sh (.int c) ∧ os = [none] := by
    refine rt_def rfl ⟨rfl, by simp⟩ ?_
    cases ns with
    | nil =>
      simp [b__law_cell]
    | cons z t =>
      have hp : ((10 : Int) ^ (30 : Int).toNat) = 1000000000000000000000000000000 := by decide
      have h1 := Int.fmod_nonneg_of_pos (z.natAbs : Int) (b := 1000000000000000000000000000000) (by decide)
      have h2 := Int.fmod_lt_of_pos (z.natAbs : Int) (b := 1000000000000000000000000000000) (by decide)
      simp [b__law_cell]
      generalize (z.natAbs : Int).fmod 1000000000000000000000000000000 = f at *
      have h3 : ((t.length : Int) + 1 == 0) = false := by simp; omega
      by_cases hz : z < 0
      · have m1 : mulOk f (-1) := mul_r (by decide)
        simp [hz, m1]
        omega
      · have m1 : mulOk f 1 := mul_r (by decide)
        simp [hz, m1]
        omega
  obtain ⟨v, os, h, c, h1, rfl, rfl⟩ := rt_ex this
  exact ⟨c, h1, h⟩
end Lw
set_option maxRecDepth 100000
set_option maxHeartbeats 4000000
namespace Lw
open PySem
theorem big4 {i : Int} (h : i.natAbs < 2 ^ 200) : i.natAbs < 2 ^ 4000 := Nat.lt_of_lt_of_le h (Nat.pow_le_pow_right (by decide) (by decide))
theorem mulB {i j : Int} (h1 : i.natAbs < 2 ^ 200) (h2 : j.natAbs < 2 ^ 200) : mulOk i j := .inr ⟨big4 h1, big4 h2⟩
/-- a point whose numbers are not too great -/
def Sm (p : P2) : Prop := p.1.natAbs < 2 ^ 150 ∧ p.2.natAbs < 2 ^ 150
theorem Sm.m1 {a b c d : P2} (h1 : Sm a) (h2 : Sm b) (h3 : Sm c) (h4 : Sm d) : mulOk (b.1 - a.1) (d.2 - c.2) := by
  unfold Sm at *
  exact mulB (by omega) (by omega)
theorem Sm.m2 {a b c d : P2} (h1 : Sm a) (h2 : Sm b) (h3 : Sm c) (h4 : Sm d) : mulOk (b.2 - a.2) (d.1 - c.1) := by
  unfold Sm at *
  exact mulB (by omega) (by omega)
/-- sides of a triangle -/
def ppD (q : P2 × P2) : D := .tup [pD q.1, pD q.2]
theorem step_run {a b : P2} {N : Nat} (hN : 1 ≤ N) : run pg N 0 [.sh (pD a), .sh (pD b)] = .ok (.sh (pD (b.1 - a.1, b.2 - a.2))) [none, none] := by
  obtain ⟨n, rfl⟩ := Nat.exists_eq_add_of_le' hN
  apply rt_eq
  refine rt_def rfl ⟨rfl, by simp⟩ ?_
  simp [b_step_between]
theorem twist_run {a b : P2} (h1 : mulOk a.1 b.2) (h2 : mulOk a.2 b.1) {N : Nat} (hN : 1 ≤ N) : run pg N 1 [.sh (pD a), .sh (pD b)] = .ok (.sh (.int (a.1 * b.2 - a.2 * b.1))) [none, none] := by
  obtain ⟨n, rfl⟩ := Nat.exists_eq_add_of_le' hN
  apply rt_eq
  refine rt_def rfl ⟨rfl, by simp⟩ ?_
  simp [b_twist, h1, h2]
theorem div_run {a : P2} {N : Nat} (hN : 1 ≤ N) : run pg N 2 [.sh (pD a)] = .ok (.sh (.int (Int.gcd a.1 a.2))) [none] := by
  obtain ⟨n, rfl⟩ := Nat.exists_eq_add_of_le' hN
  apply rt_eq
  refine rt_def rfl ⟨rfl, by simp⟩ ?_
  simp [b_divisor_of]
theorem turn_run {a b c : P2} (ha : Sm a) (hb : Sm b) (hc : Sm c) {N : Nat} (hN : 2 ≤ N) : run pg N 3 [.sh (pD a), .sh (pD b), .sh (pD c)] = .ok (.sh (.int (ar a b c))) [none, none, none] := by
  obtain ⟨n, rfl⟩ := Nat.exists_eq_add_of_le' hN
  apply rt_eq
  refine rt_def rfl ⟨rfl, by simp⟩ ?_
  have t := @twist_run (b.1 - a.1, b.2 - a.2) (c.1 - a.1, c.2 - a.2) (Sm.m1 ha hb ha hc) (Sm.m2 ha hb ha hc) (n + 1) (by omega)
  simp [b_turn_of, ↓rt_of (@step_run a b (n + 1) (by omega)), ↓rt_of (@step_run a c (n + 1) (by omega)), ↓rt_of t, ar]
theorem dbl_run {a b c : P2} (ha : Sm a) (hb : Sm b) (hc : Sm c) {N : Nat} (hN : 3 ≤ N) : run pg N 4 [.sh (pD a), .sh (pD b), .sh (pD c)] = .ok (.sh (.int ((ar a b c).natAbs))) [none, none, none] := by
  obtain ⟨n, rfl⟩ := Nat.exists_eq_add_of_le' hN
  apply rt_eq
  refine rt_def rfl ⟨rfl, by simp⟩ ?_
  simp [b_doubled, ↓rt_of (turn_run ha hb hc (N := n + 2) (by omega))]
theorem around_run {a b c p : P2} (ha : Sm a) (hb : Sm b) (hc : Sm c) (hp : Sm p) {N : Nat} (hN : 3 ≤ N) : run pg N 5 [.sh (pD a), .sh (pD b), .sh (pD c), .sh (pD p)] = .ok (.sh (.tup [.int (ar a b p), .int (ar b c p), .int (ar c a p)])) [none, none, none, none] := by
  obtain ⟨n, rfl⟩ := Nat.exists_eq_add_of_le' hN
  apply rt_eq
  refine rt_def rfl ⟨rfl, by simp⟩ ?_
  simp [b_turns_around, ↓rt_of (turn_run ha hb hp (N := n + 2) (by omega)), ↓rt_of (turn_run hb hc hp (N := n + 2) (by omega)), ↓rt_of (turn_run hc ha hp (N := n + 2) (by omega))]
def chnX (i : Int) : E := .chn .le .le (.bi .min [(.idx (.var 0) (.int i)), (.idx (.var 1) (.int i)), (.idx (.var 2) (.int i))]) (.idx (.var 3) (.int i)) (.bi .max [(.idx (.var 0) (.int i)), (.idx (.var 1) (.int i)), (.idx (.var 2) (.int i))])
theorem chn_0 {a b c p : P2} {s : Slot} {cl : Cl} {Q : Val → Env → Prop} : wp (evE pg cl (chnX 0) [.sh (pD a), .sh (pD b), .sh (pD c), .sh (pD p), s]) Q = Q (.sh (.bl (decide (min a.1 (min b.1 c.1) ≤ p.1) && decide (p.1 ≤ max a.1 (max b.1 c.1))))) [.sh (pD a), .sh (pD b), .sh (pD c), .sh (pD p), s] := by
  simp [chnX]
  generalize min a.1 (min b.1 c.1) = x0
  generalize max a.1 (max b.1 c.1) = x1
  by_cases h1 : x0 ≤ p.1 <;> simp [h1]
theorem chn_1 {a b c p : P2} {s : Slot} {cl : Cl} {Q : Val → Env → Prop} : wp (evE pg cl (chnX 1) [.sh (pD a), .sh (pD b), .sh (pD c), .sh (pD p), s]) Q = Q (.sh (.bl (decide (min a.2 (min b.2 c.2) ≤ p.2) && decide (p.2 ≤ max a.2 (max b.2 c.2))))) [.sh (pD a), .sh (pD b), .sh (pD c), .sh (pD p), s] := by
  simp [chnX]
  generalize min a.2 (min b.2 c.2) = x0
  generalize max a.2 (max b.2 c.2) = x1
  by_cases h1 : x0 ≤ p.2 <;> simp [h1]
theorem inb3_run {a b c p : P2} {N : Nat} (hN : 1 ≤ N) : run pg N 6 [.sh (pD a), .sh (pD b), .sh (pD c), .sh (pD p)] = .ok (.sh (.bl (inB3 a b c p))) [none, none, none, none] := by
  obtain ⟨n, rfl⟩ := Nat.exists_eq_add_of_le' hN
  apply rt_eq
  refine rt_def rfl ⟨rfl, by simp⟩ ?_
  unfold inB3
  rw [show b_is_in_box_of_three = [.asg (.nm 4) (chnX 0), .ret (.and [(.var 4), chnX 1])] from rfl]
  generalize hk1 : (decide (min a.1 (min b.1 c.1) ≤ p.1) && decide (p.1 ≤ max a.1 (max b.1 c.1))) = k1
  generalize hk2 : (decide (min a.2 (min b.2 c.2) ≤ p.2) && decide (p.2 ≤ max a.2 (max b.2 c.2))) = k2
  have e1 := fun s cl Q => @chn_0 a b c p s cl Q
  have e2 := fun s cl Q => @chn_1 a b c p s cl Q
  rw [hk1] at e1
  rw [hk2] at e2
  cases k1 <;> simp [↓e1, ↓e2]
theorem intri_run {a b c p : P2} (ha : Sm a) (hb : Sm b) (hc : Sm c) (hp : Sm p) {N : Nat} (hN : 4 ≤ N) : run pg N 7 [.sh (pD a), .sh (pD b), .sh (pD c), .sh (pD p)] = .ok (.sh (.bl (inT a b c p))) [none, none, none, none] := by
  obtain ⟨n, rfl⟩ := Nat.exists_eq_add_of_le' hN
  apply rt_eq
  refine rt_def rfl ⟨rfl, by simp⟩ ?_
  unfold inT
  simp only [b_is_in_triangle]
  rw [wSs_cons]
  simp [-wSs_cons, ↓rt_of (around_run ha hb hc hp (N := n + 3) (by omega))]
  by_cases h1 : min (ar a b p) (min (ar b c p) (ar c a p)) < 0
  · by_cases h2 : 0 < max (ar a b p) (max (ar b c p) (ar c a p)) <;> simp [h1, h2, ↓rt_of (@inb3_run a b c p (n + 3) (by omega))]
  · simp [h1, ↓rt_of (@inb3_run a b c p (n + 3) (by omega))]
theorem strict_run {a b c p : P2} (ha : Sm a) (hb : Sm b) (hc : Sm c) (hp : Sm p) {N : Nat} (hN : 4 ≤ N) : run pg N 8 [.sh (pD a), .sh (pD b), .sh (pD c), .sh (pD p)] = .ok (.sh (.bl (inS a b c p))) [none, none, none, none] := by
  obtain ⟨n, rfl⟩ := Nat.exists_eq_add_of_le' hN
  apply rt_eq
  refine rt_def rfl ⟨rfl, by simp⟩ ?_
  unfold inS
  simp only [b_is_strictly_in]
  rw [wSs_cons]
  simp [-wSs_cons, ↓rt_of (around_run ha hb hc hp (N := n + 3) (by omega))]
  by_cases h1 : 0 < min (ar a b p) (min (ar b c p) (ar c a p))
  · simp [h1]
  · by_cases h2 : max (ar a b p) (max (ar b c p) (ar c a p)) < 0 <;> simp [h1, h2]
theorem empty_run {a b c : P2} (ha : Sm a) (hb : Sm b) (hc : Sm c) {N : Nat} (hN : 4 ≤ N) : run pg N 9 [.sh (pD a), .sh (pD b), .sh (pD c)] = .ok (.sh (.bl (decide (((ar a b c).natAbs : Int) = 1)))) [none, none, none] := by
  obtain ⟨n, rfl⟩ := Nat.exists_eq_add_of_le' hN
  apply rt_eq
  refine rt_def rfl ⟨rfl, by simp⟩ ?_
  simp [b_is_empty_triangle, ↓rt_of (dbl_run ha hb hc (N := n + 3) (by omega))]
def dvs (a b c : P2) : Int := (Int.gcd (b.1 - a.1) (b.2 - a.2) : Int) + (Int.gcd (c.1 - b.1) (c.2 - b.2) : Int) + (Int.gcd (a.1 - c.1) (a.2 - c.2) : Int)
theorem dvs_run {a b c : P2} {N : Nat} (hN : 2 ≤ N) : run pg N 10 [.sh (pD a), .sh (pD b), .sh (pD c)] = .ok (.sh (.int (dvs a b c))) [none, none, none] := by
  obtain ⟨n, rfl⟩ := Nat.exists_eq_add_of_le' hN
  apply rt_eq
  refine rt_def rfl ⟨rfl, by simp⟩ ?_
  simp [b_divisors_around]
  refine wp_compM (f := ppD) (xs := [(a, b), (b, c), (c, a)]) (fun q => some (.int (Int.gcd (q.2.1 - q.1.1) (q.2.2 - q.1.2)))) (fun q _ M hM => ?_) (by simp) ?_
  · simp [kTurn, ppD, ↓rt_of (@step_run q.1 q.2 (n + 1) (by omega)), ↓rt_of (@div_run (q.2.1 - q.1.1, q.2.2 - q.1.2) (n + 1) (by omega))]
    exact hM
  · simp [intsOf, dvs]
    omega
end Lw
set_option maxRecDepth 100000
set_option maxHeartbeats 4000000
namespace Lw
open PySem
theorem flt_len {α : Type} {xs : List α} {g : α → Option D} : (xs.filterMap g).length ≤ xs.length := List.length_filterMap_le g xs
/-- two walks, one in the other, over what is known -/
theorem wp_lc2 {α β : Type} {f : α → D} {f2 : α → β → D} {xs : List α} {ys : α → List β} (g : α → β → Option D) (mid : α → Env) {p : Pg} {cl : Cl} {env : Env} {own own2 : List Nat} {t t2 : Tg} {it it2 : It} {c : Option E} {elt : E} {Q : Val → Env → Prop}
    (hsrc : ∀ M : Src → Env → Prop, M ⟨xs.map f, none⟩ env → wp (evI p cl it env) M)
    (hb : ∀ x ∈ xs, ∀ M : Env → Prop, M (mid x) → kWipe own env fun e => kBindD t (f x) e M)
    (hs2 : ∀ x ∈ xs, ∀ M : Src → Env → Prop, M ⟨(ys x).map (f2 x), none⟩ (mid x) → wp (evI p cl it2 (mid x)) M)
    (ht : ∀ x ∈ xs, ∀ y ∈ ys x, ∀ M : Option D → Env → Prop, M (g x y) (mid x) → kTurn p cl own2 t2 c elt (f2 x y) (mid x) M)
    (hr : ∀ x ∈ xs, restE own env (mid x) = env)
    (hl : (xs.flatMap ys).length ≤ 16777216)
    (hq : Q (.fr (xs.flatMap fun x => (ys x).filterMap (g x))) env) : wp (evE p cl (.lc2 elt t it t2 it2 c own own2) env) Q := by
  have src {it : It} {s : Src} {env : Env} (h : ∀ M : Src → Env → Prop, M s env → wp (evI p cl it env) M) : evI p cl it env = .ok s env := by
    obtain ⟨a, e, h1, rfl, rfl⟩ := h (fun a e => a = s ∧ e = env) ⟨rfl, rfl⟩
    exact h1
  have e1 := src hsrc
  have key : comp2 (Src.held ⟨xs.map f, none⟩) (turn2 own own2 t t2 (evC p cl c) (evE p cl elt) (evI p cl it2)) (xs.map f) env [] = .ok ([] ++ xs.flatMap fun x => (ys x).filterMap (g x)) env := by
    have gen : ∀ (zs : List α) (acc : List D), (∀ x ∈ zs, x ∈ xs) → acc.length + (zs.flatMap ys).length ≤ 16777216 → comp2 (Src.held ⟨xs.map f, none⟩) (turn2 own own2 t t2 (evC p cl c) (evE p cl elt) (evI p cl it2)) (zs.map f) env acc = .ok (acc ++ zs.flatMap fun x => (ys x).filterMap (g x)) env := by
      intro zs
      induction zs with
      | nil => intro acc _ _; simp [comp2, Src.held]
      | cons x zs ih =>
        intro acc hz hl
        rw [List.flatMap_cons, List.length_append] at hl
        have hx := hz x List.mem_cons_self
        have hb1 : bindD t (f x) (wipeE own env) = some (mid x) := by
          obtain ⟨e, h1, rfl⟩ := hb x hx (fun e => e = mid x) rfl
          exact h1
        have hs1 := src (hs2 x hx)
        have ht1 := compM_eq (f := f2 x) (ok := Src.held ⟨(ys x).map (f2 x), none⟩) (turn := turnC own2 t2 (evC p cl c) (evE p cl elt)) (g := g x) (env := mid x) rfl (xs := ys x) (acc := acc) (fun y hy => turn_eq (wp_turn ▸ ht x hx y hy _ ⟨rfl, rfl⟩)) (by omega)
        have one : turn2 own own2 t t2 (evC p cl c) (evE p cl elt) (evI p cl it2) (f x) env acc = .ok (acc ++ (ys x).filterMap (g x)) env := by
          unfold turn2
          rw [hb1]
          dsimp only
          rw [hs1]
          dsimp only
          rw [ht1]
          dsimp only
          rw [hr x hx]
        have := @flt_len β (ys x) (g x)
        simp only [List.map_cons, comp2]
        rw [if_pos (show Src.held ⟨xs.map f, none⟩ env = true from rfl), one]
        dsimp only
        rw [ih _ (fun y hy => hz y (List.mem_cons_of_mem _ hy)) (by rw [List.length_append]; omega), List.flatMap_cons, List.append_assoc]
    exact gen xs [] (fun _ h => h) (by simpa using hl)
  simp only [evE, lc2R, wp_bind]
  rw [e1, wp_ok]
  dsimp only
  rw [key, wp_ok, wp_ok]
  simpa using hq

end Lw
set_option maxRecDepth 100000
set_option maxHeartbeats 4000000
namespace Lw
open PySem
theorem dle_int (a b : Int) : PySem.W.dataLe false toPy (.int a) (.int b) = decide (a ≤ b) := by
  rw [PySem.W.dataLe_eq]
  show (!PySem.W.dataLt (toPy (.int b)) (toPy (.int a))) = _
  have : PySem.W.dataLt (toPy (.int b)) (toPy (.int a)) = decide (b < a) := PySem.W.dataLt_int b a
  rw [this, Bool.eq_iff_iff]
  simp
theorem sortL_ints (ns : List Int) : ∃ qs : List Int, sortL (ns.map D.int) = some (qs.map D.int) ∧ qs.Perm ns ∧ qs.Pairwise (· ≤ ·) := by
  refine ⟨ns.mergeSort, ?_, List.mergeSort_perm _ _, ?_⟩
  · unfold sortL
    have h1 : alkL (ns.map D.int) = true := alkL_ints ns
    have h2 : ((ns.map D.int).all fun x => !tupD x) = true := by
      rw [List.all_map, List.all_eq_true]
      intro p _
      rfl
    rw [h1, h2]
    simp only [Bool.or_true, Bool.and_self, if_true]
    rw [List.map_mergeSort (s := PySem.W.dataLe false toPy)]
    intro a _ b _
    exact (dle_int a b).symm
  · have := List.pairwise_mergeSort (le := fun a b : Int => decide (a ≤ b)) (fun a b c h g => by simp at *; omega) (fun a b => by simp; omega) ns
    exact this.imp fun h => of_decide_eq_true h
theorem sort3 (a b c : Int) : ∃ m, sortL [.int a, .int b, .int c] = some [.int (min a (min b c)), .int m, .int (max a (max b c))] := by
  obtain ⟨qs, e, pm, pw⟩ := sortL_ints [a, b, c]
  have hl := pm.length_eq
  match qs, hl with
  | [u, v, w], _ =>
    have m1 := (pm.mem_iff (a := u)).mp (by simp)
    have m3 := (pm.mem_iff (a := w)).mp (by simp)
    have n1 := (pm.mem_iff (a := a)).mpr (by simp)
    have n2 := (pm.mem_iff (a := b)).mpr (by simp)
    have n3 := (pm.mem_iff (a := c)).mpr (by simp)
    simp at m1 m3 n1 n2 n3 pw
    refine ⟨v, ?_⟩
    have e1 : u = min a (min b c) := by omega
    have e2 : w = max a (max b c) := by omega
    rw [← e1, ← e2]
    exact e
/-- points of a block -/
def blk (x y : Int) (m n : Nat) : List P2 := (List.range m).flatMap fun i : Nat => (List.range n).map fun j : Nat => (x + (i : Int), y + (j : Int))
theorem blk_len {x y : Int} {n : Nat} : ∀ {m : Nat}, (blk x y m n).length = m * n := by
  intro m
  unfold blk
  rw [List.length_flatMap]
  simp [List.map_const', List.sum_replicate_nat]
theorem mem_blk {x y : Int} {m n : Nat} {p : P2} : p ∈ blk x y m n ↔ (x ≤ p.1 ∧ p.1 < x + m) ∧ y ≤ p.2 ∧ p.2 < y + n := by
  unfold blk
  rw [List.mem_flatMap]
  constructor
  · rintro ⟨i, hi, h⟩
    obtain ⟨j, hj, rfl⟩ := List.mem_map.mp h
    rw [List.mem_range] at hi hj
    dsimp only
    omega
  · rintro ⟨⟨h1, h2⟩, h3, h4⟩
    refine ⟨(p.1 - x).toNat, List.mem_range.mpr (by omega), List.mem_map.mpr ⟨(p.2 - y).toNat, List.mem_range.mpr (by omega), Prod.ext ?_ ?_⟩⟩
    · dsimp only; omega
    · dsimp only; omega
theorem blk_asc {x y : Int} {m n : Nat} : Asc (blk x y m n) := by
  unfold blk Asc
  rw [List.pairwise_flatMap]
  constructor
  · intro i _
    rw [List.pairwise_map]
    exact List.pairwise_lt_range.imp fun {a b} h => .inr ⟨rfl, by dsimp only; omega⟩
  · refine List.pairwise_lt_range.imp fun {a b} h p hp q hq => ?_
    obtain ⟨_, _, rfl⟩ := List.mem_map.mp hp
    obtain ⟨_, _, rfl⟩ := List.mem_map.mp hq
    left
    dsimp only
    omega
def bx3 (a b c : P2) : List P2 := blk (min a.1 (min b.1 c.1)) (min a.2 (min b.2 c.2)) (max a.1 (max b.1 c.1) + 1 - min a.1 (min b.1 c.1)).toNat (max a.2 (max b.2 c.2) + 1 - min a.2 (min b.2 c.2)).toNat
theorem mem_bx3 {a b c p : P2} : p ∈ bx3 a b c ↔ inB3 a b c p = true := by
  unfold bx3 inB3
  rw [mem_blk]
  simp only [Bool.and_eq_true, decide_eq_true_eq]
  omega
/-- a point of a small field -/
def Sz (p : P2) : Prop := (-1000 ≤ p.1 ∧ p.1 ≤ 1000) ∧ -1000 ≤ p.2 ∧ p.2 ≤ 1000
theorem Sz.sm {p : P2} (h : Sz p) : Sm p := by unfold Sz at h; unfold Sm; omega
theorem bx3_len {a b c : P2} (ha : Sz a) (hb : Sz b) (hc : Sz c) : (bx3 a b c).length ≤ 4004001 := by
  unfold Sz at *
  unfold bx3
  rw [blk_len]
  have k : ∀ x y : Nat, x ≤ 2001 → y ≤ 2001 → x * y ≤ 4004001 := fun x y h1 h2 => Nat.mul_le_mul h1 h2
  exact k _ _ (by omega) (by omega)
theorem bx3_sz {a b c p : P2} (ha : Sz a) (hb : Sz b) (hc : Sz c) (h : p ∈ bx3 a b c) : Sz p := by
  unfold bx3 at h
  rw [mem_blk] at h
  unfold Sz at *
  omega
theorem bx3_run {a b c : P2} (ha : Sz a) (hb : Sz b) (hc : Sz c) {N : Nat} (hN : 1 ≤ N) : run pg N 11 [.sh (pD a), .sh (pD b), .sh (pD c)] = .ok (.fr ((bx3 a b c).map pD)) [none, none, none] := by
  obtain ⟨n, rfl⟩ := Nat.exists_eq_add_of_le' hN
  have hl := bx3_len ha hb hc
  obtain ⟨mx, e1⟩ := sort3 a.1 b.1 c.1
  obtain ⟨my, e2⟩ := sort3 a.2 b.2 c.2
  have bx : (-1000 ≤ min a.1 (min b.1 c.1) ∧ max a.1 (max b.1 c.1) ≤ 1000 ∧ min a.1 (min b.1 c.1) ≤ max a.1 (max b.1 c.1)) ∧ -1000 ≤ min a.2 (min b.2 c.2) ∧ max a.2 (max b.2 c.2) ≤ 1000 ∧ min a.2 (min b.2 c.2) ≤ max a.2 (max b.2 c.2) := by
    unfold Sz at *
    omega
  unfold bx3 at hl ⊢
  generalize min a.1 (min b.1 c.1) = x0 at *
  generalize max a.1 (max b.1 c.1) = x1 at *
  generalize min a.2 (min b.2 c.2) = y0 at *
  generalize max a.2 (max b.2 c.2) = y1 at *
  apply rt_eq
  refine rt_def rfl ⟨rfl, by simp⟩ ?_
  generalize hM : kEnd _ _ = M
  show wp (evSs pg (run pg n) b_box_of_three [.sh (pD a), .sh (pD b), .sh (pD c), .no, .no, .no, .no]) M
  simp only [b_box_of_three]
  rw [wSs_cons]
  simp [-wSs_cons, ↓kO_of e1]
  rw [wSs_cons]
  simp [-wSs_cons, ↓kO_of e2]
  rw [wSs_cons, wS_ret]
  refine wp_lc2 (f := fun i : Nat => .int (x0 + (i : Int))) (f2 := fun _ (j : Nat) => .int (y0 + (j : Int))) (xs := List.range (x1 + 1 - x0).toNat) (ys := fun _ => List.range (y1 + 1 - y0).toNat) (fun i j => some (pD (x0 + (i : Int), y0 + (j : Int)))) (fun i : Nat => [.sh (pD a), .sh (pD b), .sh (pD c), .own false [.int x0, .int mx, .int x1], .own false [.int y0, .int my, .int y1], .sh (.int (x0 + (i : Int))), .no]) (fun M hM => ?_) (fun i _ M hM => ?_) (fun i _ M hM => ?_) (fun i _ j _ M hM => ?_) (fun i _ => rfl) ?_ ?_
  · rw [← rangeL_map] at hM
    simp
    exact ⟨by omega, hM⟩
  · simp
    exact hM
  · rw [← rangeL_map] at hM
    simp
    exact ⟨by omega, hM⟩
  · simp [kTurn]
    exact hM
  · unfold blk at hl
    rw [List.length_flatMap] at hl ⊢
    simp only [List.length_map] at hl
    exact Nat.le_trans hl (by decide)
  · have : ((List.range (x1 + 1 - x0).toNat).flatMap fun i : Nat => (List.range (y1 + 1 - y0).toNat).filterMap fun j : Nat => some (pD (x0 + (i : Int), y0 + (j : Int)))) = (blk x0 y0 (x1 + 1 - x0).toNat (y1 + 1 - y0).toNat).map pD := by
      unfold blk
      rw [List.map_flatMap]
      congr 1
      funext i
      rw [filterMap_some, List.map_map]
      rfl
    rw [this]
    subst hM
    simp
def tpts (a b c : P2) : List P2 := (bx3 a b c).filter (inT a b c)
theorem tpts_run {a b c : P2} (ha : Sz a) (hb : Sz b) (hc : Sz c) {N : Nat} (hN : 5 ≤ N) : run pg N 12 [.sh (pD a), .sh (pD b), .sh (pD c)] = .ok (.sh (.tup ((tpts a b c).map pD))) [none, none, none] := by
  obtain ⟨n, rfl⟩ := Nat.exists_eq_add_of_le' hN
  have hl := bx3_len ha hb hc
  have t := bx3_run ha hb hc (N := n + 4) (by omega)
  apply rt_eq
  refine rt_def rfl ⟨rfl, by simp⟩ ?_
  simp [b_triangle_points, ↓rt_of t]
  refine wp_compM (f := pD) (fun p => if inT a b c p = true then some (pD p) else none) (fun p hp M hM => ?_) (by omega) ?_
  · have u := intri_run ha.sm hb.sm hc.sm (bx3_sz ha hb hc hp).sm (N := n + 4) (by omega)
    cases h : inT a b c p with
    | true =>
      rw [h] at u
      rw [if_pos h] at hM
      simp [kTurn, ↓rt_of u]
      exact hM
    | false =>
      rw [h] at u
      rw [if_neg (by rw [h]; simp)] at hM
      simp [kTurn, ↓rt_of u]
      exact hM
  rw [filterMap_if]
  have := List.length_filter_le (inT a b c) (bx3 a b c)
  unfold tpts
  simp
def ipts (a b c : P2) : List P2 := (bx3 a b c).filter (inS a b c)
theorem ipts_run {a b c : P2} (ha : Sz a) (hb : Sz b) (hc : Sz c) {N : Nat} (hN : 5 ≤ N) : run pg N 13 [.sh (pD a), .sh (pD b), .sh (pD c)] = .ok (.sh (.tup ((ipts a b c).map pD))) [none, none, none] := by
  obtain ⟨n, rfl⟩ := Nat.exists_eq_add_of_le' hN
  have hl := bx3_len ha hb hc
  have t := bx3_run ha hb hc (N := n + 4) (by omega)
  apply rt_eq
  refine rt_def rfl ⟨rfl, by simp⟩ ?_
  simp [b_inner_points, ↓rt_of t]
  refine wp_compM (f := pD) (fun p => if inS a b c p = true then some (pD p) else none) (fun p hp M hM => ?_) (by omega) ?_
  · have u := strict_run ha.sm hb.sm hc.sm (bx3_sz ha hb hc hp).sm (N := n + 4) (by omega)
    cases h : inS a b c p with
    | true =>
      rw [h] at u
      rw [if_pos h] at hM
      simp [kTurn, ↓rt_of u]
      exact hM
    | false =>
      rw [h] at u
      rw [if_neg (by rw [h]; simp)] at hM
      simp [kTurn, ↓rt_of u]
      exact hM
  rw [filterMap_if]
  have := List.length_filter_le (inS a b c) (bx3 a b c)
  unfold ipts
  simp
def opts (a b c : P2) (rs : List P2) : List P2 := rs.filter fun p => decide (p ∉ [a, b, c])
theorem opts_run {a b c : P2} (ha : Sz a) (hb : Sz b) (hc : Sz c) {N : Nat} (hN : 6 ≤ N) : run pg N 14 [.sh (pD a), .sh (pD b), .sh (pD c)] = .ok (.sh (.tup ((opts a b c (tpts a b c)).map pD))) [none, none, none] := by
  obtain ⟨n, rfl⟩ := Nat.exists_eq_add_of_le' hN
  have hl := bx3_len ha hb hc
  have t := tpts_run ha hb hc (N := n + 5) (by omega)
  have hl2 : (tpts a b c).length ≤ 4004001 := Nat.le_trans (List.length_filter_le _ _) hl
  apply rt_eq
  refine rt_def rfl ⟨rfl, by simp⟩ ?_
  simp [b_other_points, ↓rt_of t]
  refine wp_compM (f := pD) (fun p => if (fun p => decide (p ∉ [a, b, c])) p = true then some (pD p) else none) (fun p hp M hM => ?_) (by omega) ?_
  · have e := @inD_pts p [a, b, c]
    simp only [List.map_cons, List.map_nil] at e
    by_cases h : p ∈ [a, b, c]
    · rw [decide_eq_true h] at e
      rw [if_neg (by rw [decide_eq_true_eq]; exact fun z => z h)] at hM
      simp [kTurn, e]
      exact hM
    · rw [decide_eq_false h] at e
      rw [if_pos (by rw [decide_eq_true_eq]; exact h)] at hM
      simp [kTurn, e]
      exact hM
  rw [filterMap_if]
  have := List.length_filter_le (fun p => decide (p ∉ [a, b, c])) (tpts a b c)
  unfold opts
  simp
def cinn (a b c : P2) : Int := if ar a b c = 0 then 0 else (((ar a b c).natAbs : Int) - dvs a b c + 2).fdiv 2
theorem cinn_run {a b c : P2} (ha : Sm a) (hb : Sm b) (hc : Sm c) {N : Nat} (hN : 4 ≤ N) : run pg N 15 [.sh (pD a), .sh (pD b), .sh (pD c)] = .ok (.sh (.int (cinn a b c))) [none, none, none] := by
  obtain ⟨n, rfl⟩ := Nat.exists_eq_add_of_le' hN
  have t := dbl_run ha hb hc (N := n + 3) (by omega)
  have u := dvs_run (a := a) (b := b) (c := c) (N := n + 3) (by omega)
  have b2 : (2 : Int).natAbs < 2 ^ 4000 := big4 (by decide)
  apply rt_eq
  refine rt_def rfl ⟨rfl, by simp⟩ ?_
  generalize hM : kEnd _ _ = M
  show wp (evSs pg (run pg (n + 3)) b_count_inner [.sh (pD a), .sh (pD b), .sh (pD c), .no]) M
  simp only [b_count_inner]
  rw [wSs_cons]
  simp [-wSs_cons, ↓rt_of t]
  rw [wSs_cons]
  unfold cinn at hM
  by_cases h : ar a b c = 0
  · rw [if_pos h] at hM
    subst hM
    simp [h]
  · rw [if_neg h] at hM
    subst hM
    simp [h, ↓rt_of u]
    exact b2

end Lw
set_option maxRecDepth 100000
set_option maxHeartbeats 4000000
namespace Lw
open PySem
def sd (a b c p : P2) : Bool := decide (ar a b p = 0) || (decide (ar b c p = 0) || decide (ar c a p = 0))
def TriF (a b c : P2) : Prop := ∀ rs : List P2, rs.Nodup → (∀ p, p ∈ rs ↔ inTP a b c p) → 2 * (rs.length : Int) = ((ar a b c).natAbs : Int) + dvs a b c + 2 ∧ ((rs.filter (sd a b c)).length : Int) = dvs a b c
theorem dvs_rot {a b c : P2} : dvs b c a = dvs a b c := by unfold dvs; omega
theorem gcd_opp {x y u v : Int} (h1 : u = -x) (h2 : v = -y) : Int.gcd u v = Int.gcd x y := by rw [h1, h2, Int.gcd_neg, Int.neg_gcd]
theorem dvs_swap {a b c : P2} : dvs b a c = dvs a b c := by
  unfold dvs
  rw [gcd_opp (x := b.1 - a.1) (y := b.2 - a.2) (u := a.1 - b.1) (v := a.2 - b.2) (by omega) (by omega), gcd_opp (x := a.1 - c.1) (y := a.2 - c.2) (u := c.1 - a.1) (v := c.2 - a.2) (by omega) (by omega), gcd_opp (x := c.1 - b.1) (y := c.2 - b.2) (u := b.1 - c.1) (v := b.2 - c.2) (by omega) (by omega)]
  omega
theorem TriF.rot {a b c : P2} (h : TriF b c a) : TriF a b c := fun rs nd hm => by
  have := h rs nd fun p => (hm p).trans inTP_rot.symm
  rw [ar_rot, dvs_rot] at this
  have e : sd b c a = sd a b c := by
    funext p
    unfold sd
    cases decide (ar b c p = 0) <;> cases decide (ar c a p = 0) <;> cases decide (ar a b p = 0) <;> rfl
  rw [e] at this
  exact this
theorem TriF.swap {a b c : P2} (h : TriF b a c) : TriF a b c := fun rs nd hm => by
  have := h rs nd fun p => (hm p).trans inTP_swap.symm
  rw [ar_swap, dvs_swap, Int.natAbs_neg] at this
  have e : sd b a c = sd a b c := by
    funext p
    have e1 := ar_swap a b p
    have e2 := ar_swap c a p
    have e3 := ar_swap b c p
    have d1 : decide (ar b a p = 0) = decide (ar a b p = 0) := decide_eq_decide.mpr (by omega)
    have d2 : decide (ar a c p = 0) = decide (ar c a p = 0) := decide_eq_decide.mpr (by omega)
    have d3 : decide (ar c b p = 0) = decide (ar b c p = 0) := decide_eq_decide.mpr (by omega)
    unfold sd
    rw [d1, d2, d3]
    cases decide (ar b c p = 0) <;> cases decide (ar c a p = 0) <;> cases decide (ar a b p = 0) <;> rfl
  rw [e] at this
  exact this
theorem tri_base {a b c : P2} (h : ar a b c < 0) (h1 : lexLt a b) (h2 : lexLt a c) : TriF a b c := fun rs nd hm => by
  have nb : b ≠ c := fun e => by rw [e] at h; have := ar_aab c a; have := ar_rot a c c; omega
  have n1 : a ≠ b := fun e => by rw [e] at h1; exact lexLt_irr _ h1
  have n2 : a ≠ c := fun e => by rw [e] at h2; exact lexLt_irr _ h2
  have ndT : [a, b, c].Nodup := by simp [n1, n2, nb]
  obtain ⟨S, _, pm, ha⟩ := sortL_asc ndT
  have mS : ∀ p, p ∈ S ↔ p = a ∨ p = b ∨ p = c := fun p => by rw [pm.mem_iff]; simp
  have h0 : S ≠ [] := fun e => by have := (mS a).mpr (.inl rfl); rw [e] at this; cases this
  obtain ⟨m, hh⟩ : ∃ m, S.head? = some m := by
    obtain ⟨u, r, rfl⟩ := List.exists_cons_of_ne_nil h0
    exact ⟨u, rfl⟩
  have em : m = a := by
    have k := asc_least ha hh a ((mS a).mpr (.inl rfl))
    rcases (mS m).mp (List.mem_of_head? hh) with e | e | e
    · exact e
    · subst e
      rcases k with k | k
      · exact k.symm
      · exact absurd (lexLt_tr _ _ _ k h1) (lexLt_irr _)
    · subst e
      rcases k with k | k
      · exact k.symm
      · exact absurd (lexLt_tr _ _ _ k h2) (lexLt_irr _)
  subst em
  have g1 := ar_rot m b c
  have g2 := ar_rot2 m b c
  have z1 := ar_aab m b
  have z2 := ar_aba m b
  have s1 : ∀ q ∈ S, ar m b q ≤ 0 := fun q hq => by
    rcases (mS q).mp hq with rfl | rfl | rfl
    · have := ar_aba q b; omega
    · have := ar_aab q m; have := ar_rot m q q; omega
    · omega
  have s2 : ∀ q ∈ S, ar b c q ≤ 0 := fun q hq => by
    rcases (mS q).mp hq with rfl | rfl | rfl
    · omega
    · have := ar_aba q c; omega
    · have := ar_aab q b; have := ar_rot b q q; omega
  have s3 : ∀ q ∈ S, ar c m q ≤ 0 := fun q hq => by
    rcases (mS q).mp hq with rfl | rfl | rfl
    · have := ar_aab q c; have := ar_rot c q q; omega
    · omega
    · have := ar_aba q m; omega
  have R : RingOk S [m, b, c] := ⟨ndT, fun p hp => by
    simp at hp
    rcases hp with rfl | rfl | rfl
    · exact xt_mid (u := c) (v := b) ((mS _).mpr (by simp)) s3 s1 (by omega)
    · exact xt_mid (u := m) (v := c) ((mS _).mpr (by simp)) s1 s2 (by omega)
    · exact xt_mid (u := b) (v := m) ((mS _).mpr (by simp)) s2 s3 (by omega), fun e he => by
    simp [edg, prs] at he
    rcases he with rfl | rfl | rfl
    · exact s1
    · exact s2
    · exact s3, by rw [hh]; rfl, fun _ => by simp⟩
  have eR := (ring_ok ha).uniq R
  have hm2 : ∀ p, p ∈ rs ↔ hul S p := fun p => by
    rw [hm, tri_rows]
    exact ⟨fun h => hul_mono (fun q hq => (mS q).mpr (by simpa using hq)) h, fun h => hul_mono (fun q hq => by simpa using (mS q).mp hq) h⟩
  have pk := pick ha h0 nd hm2
  have rc := R.rim_count (by simp) nd hm2
  rw [eR] at pk
  have ea : area2 [m, b, c] = - ar m b c := by
    simp [area2, edg, prs, sumE, shoe]
    unfold ar
    grind
  have ec : cnt [m, b, c] = dvs m b c := by
    simp [cnt, edg, prs, sumE, gst, dvs]
    omega
  rw [ea, ec] at pk
  rw [ec] at rc
  have es : (fun p => (edg [m, b, c]).any fun e => decide (ar e.1 e.2 p = 0)) = sd m b c := by
    funext p
    simp [edg, prs, sd]
  rw [es] at rc
  exact ⟨by omega, rc⟩
theorem tri_fact {a b c : P2} (h : ar a b c ≠ 0) : TriF a b c := by
  have low : ∀ a b c : P2, ar a b c ≠ 0 → lexLt a b → lexLt a c → TriF a b c := fun a b c h h1 h2 => by
    by_cases k : ar a b c < 0
    · exact tri_base k h1 h2
    · have e := ar_end a b c
      have t := tri_base (a := a) (b := c) (c := b) (by omega) h2 h1
      exact TriF.rot (TriF.rot (TriF.swap t))
  have nb : b ≠ c := fun e => by rw [e] at h; have := ar_aab c a; have := ar_rot a c c; omega
  have n1 : a ≠ b := fun e => by rw [e] at h; have := ar_aab b c; omega
  have n2 : a ≠ c := fun e => by rw [e] at h; have := ar_aba c b; omega
  have g1 := ar_rot a b c
  have g2 := ar_rot2 a b c
  rcases lex_tot n1 with x | x <;> rcases lex_tot n2 with y | y <;> rcases lex_tot nb with z | z
  · exact low a b c h x y
  · exact low a b c h x y
  · exact TriF.rot (TriF.rot (low c a b (by omega) y (lexLt_tr _ _ _ y x)))
  · exact TriF.rot (TriF.rot (low c a b (by omega) y z))
  · exact TriF.rot (low b c a (by omega) z x)
  · exact TriF.rot (low b c a (by omega) (lexLt_tr _ _ _ x y) x)
  · exact TriF.rot (low b c a (by omega) z x)
  · exact TriF.rot (TriF.rot (low c a b (by omega) y z))

end Lw
set_option maxRecDepth 100000
set_option maxHeartbeats 4000000
namespace Lw
open PySem
theorem larea_run {a b c : P2} (ha : Sm a) (hb : Sm b) (hc : Sm c) {N : Nat} (hN : 1 ≤ N) : run pg N 21 [.sh (pD a), .sh (pD b), .sh (pD c)] = .ok (.sh (.int (ar a b c))) [none, none, none] := by
  obtain ⟨n, rfl⟩ := Nat.exists_eq_add_of_le' hN
  apply rt_eq
  refine rt_def rfl ⟨rfl, by simp⟩ ?_
  simp [b__law_area, Sm.m1 ha hb ha hc, Sm.m2 ha hb ha hc, ar]
theorem vec_run {ds : List Int} {m : Int} (hm : 0 ≤ m ∧ m ≤ 1000) {N : Nat} (hN : 2 ≤ N) : ∃ (p : P2) (ds' : List Int), ((-m ≤ p.1 ∧ p.1 ≤ m) ∧ (-m ≤ p.2 ∧ p.2 ≤ m)) ∧ run pg N 23 [.loan (dInts ds), .sh (.int m)] = .ok (.sh (pD p)) [some (dInts ds'), none] := by
  obtain ⟨n, rfl⟩ := Nat.exists_eq_add_of_le' hN
  obtain ⟨v, hv, t1⟩ := take_at (N := n + 1) (by omega) ds (2 * m + 1) (by omega)
  obtain ⟨w, hw, t2⟩ := take_at (N := n + 1) (by omega) ds.dropLast (2 * m + 1) (by omega)
  refine ⟨(v - m, w - m), ds.dropLast.dropLast, ⟨⟨by dsimp only; omega, by dsimp only; omega⟩, by dsimp only; omega, by dsimp only; omega⟩, ?_⟩
  apply rt_eq
  refine rt_def rfl ⟨rfl, by simp⟩ ?_
  have m1 : mulOk 2 m := mul_l (by decide)
  simp [b__law_vector, m1, ↓rt_of t1, ↓rt_of t2]
end Lw
set_option maxRecDepth 100000
set_option maxHeartbeats 4000000
namespace Lw
open PySem
/-- points of a small shape -/
def Near (S : List P2) : Prop := S.length ≤ 100 ∧ ∀ p ∈ S, p.1.natAbs < 2 ^ 60 ∧ p.2.natAbs < 2 ^ 60
theorem kO_chV {x : Int} {p : P2} {Q : Option D → Prop} : (if p.1 = x then Q (some (pD (p.2, p.2))) else Q none) = Q ((chV x p).map pD) := by
  unfold chV
  split <;> rfl
end Lw
set_option maxRecDepth 100000
set_option maxHeartbeats 4000000
namespace Lw
open PySem
def Box (S : List P2) : Prop := S.length ≤ 50 ∧ ∀ p ∈ S, (-100 ≤ p.1 ∧ p.1 ≤ 100) ∧ (-100 ≤ p.2 ∧ p.2 ≤ 100)
end Lw
set_option maxRecDepth 100000
set_option maxHeartbeats 4000000
namespace Lw
open PySem
/-- a shape in order, of a box that is not great -/
def Okk (S : List P2) : Prop := Asc S ∧ S.length ≤ 50000 ∧ ∀ p ∈ S, (-1000 ≤ p.1 ∧ p.1 ≤ 1000) ∧ (-1000 ≤ p.2 ∧ p.2 ≤ 1000)
theorem Okk.nil : Okk [] := ⟨.nil, Nat.zero_le _, fun p h => nomatch h⟩
theorem Okk.filter {S : List P2} (h : Okk S) (f : P2 → Bool) : Okk (S.filter f) := ⟨h.1.filter f, Nat.le_trans (List.length_filter_le f S) h.2.1, fun p hp => h.2.2 p (List.mem_filter.mp hp).1⟩
/-- the points of the box of a shape -/
def BoxIn (S bs : List P2) : Prop := ∀ p, p ∈ bs ↔ ((∃ u ∈ S, u.1 ≤ p.1) ∧ ∃ u ∈ S, p.1 ≤ u.1) ∧ (∃ u ∈ S, u.2 ≤ p.2) ∧ ∃ u ∈ S, p.2 ≤ u.2
theorem BoxIn.nil : BoxIn [] [] := fun p => by simp
theorem BoxIn.in {S bs : List P2} (h : BoxIn S bs) {a b c d : Int} (hb : ∀ p ∈ S, (a ≤ p.1 ∧ p.1 ≤ b) ∧ (c ≤ p.2 ∧ p.2 ≤ d)) : ∀ p ∈ bs, (a ≤ p.1 ∧ p.1 ≤ b) ∧ (c ≤ p.2 ∧ p.2 ≤ d) := fun p hp => by
  obtain ⟨⟨⟨u, hu, g1⟩, v, hv, g2⟩, ⟨w, hw, g3⟩, z, hz, g4⟩ := (h p).mp hp
  have := hb u hu
  have := hb v hv
  have := hb w hw
  have := hb z hz
  omega
theorem box_body {S : List P2} (hS : Box S) (h1 : S ≠ []) {s0 : Slot} {lk : Option (Nat × Bool)} (h0 : Isl s0 lk (S.map pD)) {n : Nat} {Q : Flow → Env → Prop}
    (hQ : ∀ (bs : List P2) (r : Env), Okk bs → BoxIn S bs → Q (.ret (.bor 4)) ([s0, .sh (.lst (S.map fun p => .int p.1)), .sh (.lst (S.map fun p => .int p.2)), .no, .own false (bs.map pD)] ++ r)) : wp (evSs pg (run pg n) [c__law_box_1, c__law_box_2, c__law_box_3, c__law_box_4] [s0, .no, .no, .no, .no, .no, .no]) Q := by
  obtain ⟨x0, ex0, mx0, lx0⟩ := minI_is (ns := S.map (·.1)) (by simpa using h1)
  obtain ⟨x1, ex1, mx1, lx1⟩ := maxI_is (ns := S.map (·.1)) (by simpa using h1)
  obtain ⟨y0, ey0, my0, ly0⟩ := minI_is (ns := S.map (·.2)) (by simpa using h1)
  obtain ⟨y1, ey1, my1, ly1⟩ := maxI_is (ns := S.map (·.2)) (by simpa using h1)
  have bx0 : -100 ≤ x0 ∧ x0 ≤ 100 := by obtain ⟨u, hu, rfl⟩ := List.mem_map.mp mx0; have := hS.2 u hu; omega
  have bx1 : -100 ≤ x1 ∧ x1 ≤ 100 := by obtain ⟨u, hu, rfl⟩ := List.mem_map.mp mx1; have := hS.2 u hu; omega
  have by0 : -100 ≤ y0 ∧ y0 ≤ 100 := by obtain ⟨u, hu, rfl⟩ := List.mem_map.mp my0; have := hS.2 u hu; omega
  have by1 : -100 ≤ y1 ∧ y1 ≤ 100 := by obtain ⟨u, hu, rfl⟩ := List.mem_map.mp my1; have := hS.2 u hu; omega
  have lS := hS.1
  have bin : ∀ p : P2, ((x0 ≤ p.1 ∧ p.1 ≤ x1) ∧ (y0 ≤ p.2 ∧ p.2 ≤ y1)) ↔ ((∃ u ∈ S, u.1 ≤ p.1) ∧ ∃ u ∈ S, p.1 ≤ u.1) ∧ (∃ u ∈ S, u.2 ≤ p.2) ∧ ∃ u ∈ S, p.2 ≤ u.2 := fun p => by
    obtain ⟨a, ha, ea⟩ := List.mem_map.mp mx0
    obtain ⟨b, hb, eb⟩ := List.mem_map.mp mx1
    obtain ⟨c, hc, ec⟩ := List.mem_map.mp my0
    obtain ⟨d, hd, ed⟩ := List.mem_map.mp my1
    constructor
    · rintro ⟨⟨h1, h2⟩, h3, h4⟩
      exact ⟨⟨⟨a, ha, by omega⟩, b, hb, by omega⟩, ⟨c, hc, by omega⟩, d, hd, by omega⟩
    · rintro ⟨⟨⟨u, hu, g1⟩, v, hv, g2⟩, ⟨w, hw, g3⟩, z, hz, g4⟩
      have := lx0 _ (List.mem_map.mpr ⟨u, hu, rfl⟩)
      have := lx1 _ (List.mem_map.mpr ⟨v, hv, rfl⟩)
      have := ly0 _ (List.mem_map.mpr ⟨w, hw, rfl⟩)
      have := ly1 _ (List.mem_map.mpr ⟨z, hz, rfl⟩)
      omega
  have ec : (S.map fun p => D.int p.1) = (S.map (·.1)).map D.int := by rw [List.map_map]; rfl
  have er : (S.map fun p => D.int p.2) = (S.map (·.2)).map D.int := by rw [List.map_map]; rfl
  have second : wp (evS pg (run pg n) c__law_box_1 [s0, .no, .no, .no, .no, .no, .no]) fun f e => f = .nxt ∧ e = [s0, .sh (.lst (S.map fun p => D.int p.1)), .sh (.lst (S.map fun p => D.int p.2)), .no, .no, .no, .no] := by
    rcases h0 with ⟨rfl, rfl⟩ | ⟨rfl, rfl⟩ | ⟨rfl, rfl⟩
    · simp [c__law_box_1]
      refine wp_compM (f := pD) (fun p => some (.int p.1)) (fun p hp M hM => ?_) (by omega) ?_
      · simp [kTurn]
        exact hM
      simp
      refine wp_compM (f := pD) (fun p => some (.int p.2)) (fun p hp M hM => ?_) (by omega) ?_
      · simp [kTurn]
        exact hM
      simp [filterMap_some]
    · simp [c__law_box_1]
      refine wp_compM (f := pD) (fun p => some (.int p.1)) (fun p hp M hM => ?_) (by omega) ?_
      · simp [kTurn]
        exact hM
      simp
      refine wp_compM (f := pD) (fun p => some (.int p.2)) (fun p hp M hM => ?_) (by omega) ?_
      · simp [kTurn]
        exact hM
      simp [filterMap_some]
    · simp [c__law_box_1]
      refine wp_compML (f := pD) (fun p => some (.int p.1)) rfl (fun p hp M hM => ?_) (by omega) ?_
      · simp [kTurn]
        exact hM
      simp
      refine wp_compML (f := pD) (fun p => some (.int p.2)) rfl (fun p hp M hM => ?_) (by omega) ?_
      · simp [kTurn]
        exact hM
      simp [filterMap_some]
  rw [wSs_cons]
  refine wp_mono second ?_
  rintro _ _ ⟨rfl, rfl⟩
  rw [kFlow_n]
  simp only [ec, er] at hQ ⊢
  generalize S.map (·.1) = cs at *
  generalize S.map (·.2) = rs at *
  rw [wSs_cons]
  simp [-wSs_cons, c__law_box_2]
  rw [wSs_cons]
  simp [-wSs_cons, c__law_box_3, ↓kO_of ex0, ↓kO_of ex1]
  refine ⟨⟨by omega, by omega, by omega, by omega⟩, ?_⟩
  refine wp_loop (fun k e => ∃ (acc : List P2) (s5 : Slot), s5.may = true ∧ (Asc acc ∧ (∀ p, p ∈ acc ↔ (x0 ≤ p.1 ∧ p.1 < x0 + k) ∧ (y0 ≤ p.2 ∧ p.2 ≤ y1)) ∧ acc.length ≤ 201 * k) ∧ e = [s0, .sh (.lst (cs.map D.int)), .sh (.lst (rs.map D.int)), .no, .own false (acc.map pD), s5, .no]) ⟨[], .no, rfl, ⟨.nil, fun p => ⟨fun h => (nomatch h), fun h => by simp at h; omega⟩, Nat.zero_le _⟩, rfl⟩ ?_ ?_
  · rintro k d e hk ⟨acc, s5, h5, ⟨j1, j2, j3⟩, rfl⟩ M hn - - -
    obtain ⟨hk2, rfl⟩ := rangeL_at hk
    have post := hn [s0, .sh (.lst (cs.map D.int)), .sh (.lst (rs.map D.int)), .no, .own false ((acc ++ colL (x0 + k) y0 (y1 + 1 - y0).toNat).map pD), .sh (.int (x0 + k)), .no] ⟨_, _, rfl, ⟨by
      rw [Asc, List.pairwise_append]
      exact ⟨j1, colL_asc _ _ _, fun p hp q hq => .inl (by have := ((j2 p).mp hp).1; have := (mem_colL.mp hq).1; omega)⟩, fun p => by
      rw [List.mem_append, j2, mem_colL]
      omega, by
      rw [List.length_append]
      unfold colL
      rw [List.length_map, List.length_range]
      omega⟩, rfl⟩
    simp only [c__law_box_3b]
    rw [kBindD_nm]
    simp only [↓kAt_0, ↓kAt_s, ↓kSet_0, ↓kSet_s, h5, true_and]
    simp [↓kO_of ey0, ↓kO_of ey1]
    refine ⟨⟨by omega, by omega, by omega, by omega⟩, ?_⟩
    refine wp_compR (fun j => some (pD (x0 + k, y0 + j))) (fun j hj M hM => ?_) (by omega) ?_
    · simp [kTurn]
      exact hM
    simp [filterMap_some]
    refine ⟨by omega, ?_⟩
    unfold colL at post
    rw [List.map_append, List.map_map] at post
    exact post
  · rintro e ⟨acc, s5, h5, ⟨j1, j2, j3⟩, rfl⟩
    simp [c__law_box_4]
    simp at j3
    refine hQ acc _ ⟨j1, by omega, fun p hp => ?_⟩ fun p => ?_
    · have := (j2 p).mp hp
      simp at this
      omega
    · rw [j2, ← bin]
      simp
      omega
theorem box_nil {N : Nat} (hN : 1 ≤ N) : run pg N 22 [.sh (.tup [])] = .ok (.fr []) [none] := by
  obtain ⟨n, rfl⟩ := Nat.exists_eq_add_of_le' hN
  apply rt_eq
  refine rt_def rfl ⟨rfl, by simp⟩ ?_
  simp [s__law_box, c__law_box_0]
theorem box_in {S : List P2} (hS : Box S) {N : Nat} (hN : 1 ≤ N) : ∃ bs : List P2, (Okk bs ∧ BoxIn S bs) ∧ run pg N 22 [.sh (.tup (S.map pD))] = .ok (.fr (bs.map pD)) [none] := by
  by_cases h0 : S = []
  · subst h0
    exact ⟨[], ⟨.nil, .nil⟩, box_nil hN⟩
  obtain ⟨n, rfl⟩ := Nat.exists_eq_add_of_le' hN
  have : rt (run pg (n + 1) 22 [.sh (.tup (S.map pD))]) fun v os => ∃ bs : List P2, (Okk bs ∧ BoxIn S bs) ∧ v = .fr (bs.map pD) ∧ os = [none] := by
    refine rt_def rfl ⟨rfl, by simp⟩ ?_
    rw [s__law_box, wSs_cons]
    simp [-wSs_cons, c__law_box_0, h0]
    exact box_body hS h0 (.inr (.inl ⟨rfl, rfl⟩)) fun bs r h h' => by
      simp
      exact ⟨bs, ⟨h, h'⟩, rfl⟩
  obtain ⟨v, os, h, bs, h1, rfl, rfl⟩ := rt_ex this
  exact ⟨bs, h1, h⟩
theorem box_lst {S : List P2} (hS : Box S) (h0 : S ≠ []) {N : Nat} (hN : 1 ≤ N) : ∃ bs : List P2, (Okk bs ∧ BoxIn S bs) ∧ run pg N 22 [.sh (.lst (S.map pD))] = .ok (.fr (bs.map pD)) [none] := by
  obtain ⟨n, rfl⟩ := Nat.exists_eq_add_of_le' hN
  have : rt (run pg (n + 1) 22 [.sh (.lst (S.map pD))]) fun v os => ∃ bs : List P2, (Okk bs ∧ BoxIn S bs) ∧ v = .fr (bs.map pD) ∧ os = [none] := by
    refine rt_def rfl ⟨rfl, by simp⟩ ?_
    rw [s__law_box, wSs_cons]
    simp [-wSs_cons, c__law_box_0, h0]
    exact box_body hS h0 (.inl ⟨rfl, rfl⟩) fun bs r h h' => by
      simp
      exact ⟨bs, ⟨h, h'⟩, rfl⟩
  obtain ⟨v, os, h, bs, h1, rfl, rfl⟩ := rt_ex this
  exact ⟨bs, h1, h⟩
theorem box_tup {S : List P2} (hS : Box S) {N : Nat} (hN : 1 ≤ N) : ∃ bs : List P2, Okk bs ∧ run pg N 22 [.sh (.tup (S.map pD))] = .ok (.fr (bs.map pD)) [none] := by
  obtain ⟨bs, h, t⟩ := box_in hS hN
  exact ⟨bs, h.1, t⟩
theorem box_loan {S : List P2} (hS : Box S) (h0 : S ≠ []) {N : Nat} (hN : 1 ≤ N) : ∃ bs : List P2, Okk bs ∧ run pg N 22 [.loan (S.map pD)] = .ok (.fr (bs.map pD)) [some (S.map pD)] := by
  obtain ⟨n, rfl⟩ := Nat.exists_eq_add_of_le' hN
  have : rt (run pg (n + 1) 22 [.loan (S.map pD)]) fun v os => ∃ bs : List P2, Okk bs ∧ v = .fr (bs.map pD) ∧ os = [some (S.map pD)] := by
    refine rt_def rfl ⟨rfl, by simp⟩ ?_
    rw [s__law_box, wSs_cons]
    simp [-wSs_cons, c__law_box_0, h0]
    exact box_body hS h0 (.inr (.inr ⟨rfl, rfl⟩)) fun bs r h _ => by
      simp
      exact ⟨bs, h, rfl⟩
  obtain ⟨v, os, h, bs, h1, rfl, rfl⟩ := rt_ex this
  exact ⟨bs, h1, h⟩
end Lw
set_option linter.all false
set_option Elab.async false
set_option maxRecDepth 100000
set_option maxHeartbeats 4000000
namespace Lw
open PySem
theorem mem_tpts {a b c p : P2} : p ∈ tpts a b c ↔ inTP a b c p := by
  unfold tpts
  rw [List.mem_filter, mem_bx3, ← inT_iff]
  refine ⟨fun h => h.2, fun h => ⟨?_, h⟩⟩
  unfold inT at h
  split at h
  · cases h
  · exact h
theorem tpts_asc {a b c : P2} : Asc (tpts a b c) := List.Pairwise.filter _ blk_asc
theorem tpts_rot {a b c : P2} : tpts c a b = tpts a b c := asc_eq tpts_asc tpts_asc fun p => by rw [mem_tpts, mem_tpts, ← inTP_rot]
theorem ipts_eq {a b c : P2} : ipts a b c = (tpts a b c).filter fun p => !sd a b c p := by
  unfold ipts tpts
  rw [List.filter_filter]
  refine List.filter_congr fun p hp => ?_
  rw [Bool.eq_iff_iff, show (inS a b c p = true ↔ _) from inS_iff (a := b) (b := c) (c := a), inTP_rot, ← inT_iff]
  unfold sd
  rw [Bool.and_eq_true, Bool.not_eq_true', Bool.or_eq_false_iff, Bool.or_eq_false_iff, decide_eq_false_iff_not, decide_eq_false_iff_not, decide_eq_false_iff_not]
  constructor
  · rintro ⟨h, h1, h2, h3⟩
    exact ⟨⟨h3, h1, h2⟩, h⟩
  · rintro ⟨⟨h3, h1, h2⟩, h⟩
    exact ⟨h, h1, h2, h3⟩
theorem flt_part {α : Type} (q : α → Bool) : ∀ l : List α, (l.filter q).length + (l.filter fun x => !q x).length = l.length
  | [] => rfl
  | x :: l => by
    have := flt_part q l
    cases h : q x <;> simp [h] <;> omega
theorem ipts_flat {a b c : P2} (h : ar a b c = 0) : ipts a b c = [] := by
  unfold ipts
  rw [List.filter_eq_nil_iff]
  intro p _ k
  have := ar_sum a b c p
  unfold inS at k
  rw [Bool.or_eq_true, decide_eq_true_eq, decide_eq_true_eq] at k
  omega
structure TriC (a b c : P2) : Prop where
  twice : 2 * ((ipts a b c).length : Int) + dvs a b c = ((ar a b c).natAbs : Int) + 2
  all : ((tpts a b c).length : Int) = (ipts a b c).length + dvs a b c
  bare : ((opts a b c (tpts a b c)).length = 0) ↔ (ar a b c).natAbs = 1
theorem gcd_pos {x y : Int} (h : ¬ (x = 0 ∧ y = 0)) : 1 ≤ Int.gcd x y := by
  refine Nat.one_le_iff_ne_zero.mpr fun e => h ?_
  rw [Int.gcd_eq_zero_iff] at e
  exact e
theorem dvs_three {a b c : P2} (n1 : a ≠ b) (n2 : b ≠ c) (n3 : a ≠ c) : 3 ≤ dvs a b c := by
  have p : ∀ u v : P2, u ≠ v → 1 ≤ Int.gcd (v.1 - u.1) (v.2 - u.2) := fun u v n => gcd_pos fun e => n (Prod.ext (by omega) (by omega))
  have := p a b n1
  have := p b c n2
  have := p c a (fun e => n3 e.symm)
  unfold dvs
  omega
theorem tri_c {a b c : P2} (h : ar a b c ≠ 0) : TriC a b c := by
  obtain ⟨h1, h2⟩ := tri_fact h (tpts a b c) tpts_asc.nodup fun p => mem_tpts
  have h3 := flt_part (sd a b c) (tpts a b c)
  rw [← ipts_eq] at h3
  have nb : b ≠ c := fun e => by rw [e] at h; have := ar_aab c a; have := ar_rot a c c; omega
  have n1 : a ≠ b := fun e => by rw [e] at h; have := ar_aab b c; omega
  have n2 : a ≠ c := fun e => by rw [e] at h; have := ar_aba c b; omega
  have d3 := dvs_three n1 nb n2
  have h4 := flt_part (fun p => decide (p ∈ [a, b, c])) (tpts a b c)
  have eo : ((tpts a b c).filter fun p => !decide (p ∈ [a, b, c])) = opts a b c (tpts a b c) := by
    unfold opts
    refine List.filter_congr fun p _ => ?_
    rw [decide_not]
  rw [eo] at h4
  have e3 : ((tpts a b c).filter fun p => decide (p ∈ [a, b, c])).length = 3 := by
    have pm : ((tpts a b c).filter fun p => decide (p ∈ [a, b, c])).Perm [a, b, c] := (List.perm_ext_iff_of_nodup (List.Pairwise.filter _ tpts_asc.nodup) (by simp [n1, n2, nb])).mpr fun p => by
      rw [List.mem_filter, decide_eq_true_eq, mem_tpts]
      exact ⟨fun h => h.2, fun h => ⟨tri_rows.mpr (hul_self h), h⟩⟩
    exact pm.length_eq
  exact ⟨by omega, by omega, by omega⟩
theorem cinn_is {a b c : P2} : cinn a b c = (ipts a b c).length := by
  unfold cinn
  by_cases h : ar a b c = 0
  · rw [if_pos h, ipts_flat h]; rfl
  · have t := tri_c h
    have := t.twice
    have := t.all
    obtain ⟨h1, h2⟩ := tri_fact h (tpts a b c) tpts_asc.nodup fun p => mem_tpts
    rw [if_neg h, Int.fdiv_eq_ediv_of_nonneg _ (by decide)]
    omega
theorem cinn_swap {a b c : P2} : cinn b a c = cinn a b c := by
  have := ar_swap a b c
  unfold cinn
  rw [dvs_swap, this, Int.natAbs_neg]
  by_cases h : ar a b c = 0
  · rw [if_pos h, if_pos (by omega)]
  · rw [if_neg h, if_neg (by omega)]
theorem cinn_rot {a b c : P2} : cinn c a b = cinn a b c := by
  have e1 : ar c a b = ar a b c := ar_rot2 a b c
  have e2 : dvs c a b = dvs a b c := by rw [← dvs_rot, ← dvs_rot]
  unfold cinn
  rw [e1, e2]
/-! ## the law's own count -/
def bad (A t : Int) : Prop := A * t < 0 ∨ (A = 0 ∧ t ≠ 0)
instance (A t : Int) : Decidable (bad A t) := by unfold bad; exact inferInstance
theorem bad_iff {A t : Int} : bad A t ↔ (0 < A ∧ t < 0) ∨ (A < 0 ∧ 0 < t) ∨ (A = 0 ∧ t ≠ 0) := by
  unfold bad
  have k1 : 0 < A → (A * t < 0 ↔ t < 0) := fun h => by
    constructor
    · intro g
      refine Classical.byContradiction fun c => ?_
      have := Int.mul_nonneg (show 0 ≤ A by omega) (show 0 ≤ t by omega)
      omega
    · intro g
      exact Int.mul_neg_of_pos_of_neg h g
  have k2 : A < 0 → (A * t < 0 ↔ 0 < t) := fun h => by
    constructor
    · intro g
      refine Classical.byContradiction fun c => ?_
      have := Int.mul_nonneg_of_nonpos_of_nonpos (show A ≤ 0 by omega) (show t ≤ 0 by omega)
      omega
    · intro g
      exact Int.mul_neg_of_neg_of_pos h g
  have k3 : A = 0 → ¬ A * t < 0 := fun h => by rw [h]; omega
  omega
def L3 (a b c : P2) : List (P2 × P2 × P2) := [(a, b, c), (b, c, a), (c, a, b)]
def tD (t : P2 × P2 × P2) : D := .tup [pD t.1, pD t.2.1, pD t.2.2]
def lpt (p : P2) (t : P2 × P2 × P2) : Prop := bad (ar t.1 t.2.1 t.2.2) (ar t.1 t.2.1 p)
instance (p : P2) (t : P2 × P2 × P2) : Decidable (lpt p t) := by unfold lpt; exact inferInstance
theorem lpt_all {a b c p : P2} (h : inB3 a b c p = true) : (∀ t ∈ L3 a b c, ¬ lpt p t) ↔ inT a b c p = true := by
  have s := ar_sum a b c p
  have e1 := ar_rot a b c
  have e2 := ar_rot2 a b c
  unfold inT
  rw [h]
  simp only [L3, List.mem_cons, List.not_mem_nil, or_false, forall_eq_or_imp, forall_eq, lpt, bad_iff]
  rw [e1, e2]
  have : (if min (ar a b p) (min (ar b c p) (ar c a p)) < 0 ∧ 0 < max (ar a b p) (max (ar b c p) (ar c a p)) then false else true) = true ↔ ¬ (min (ar a b p) (min (ar b c p) (ar c a p)) < 0 ∧ 0 < max (ar a b p) (max (ar b c p) (ar c a p))) := by
    split <;> simp [*]
  rw [this]
  omega
theorem lines_run {a b c p : P2} (ha : Sm a) (hb : Sm b) (hc : Sm c) (hp : Sm p) (sz : (ar a b c).natAbs < 2 ^ 60 ∧ (ar a b p).natAbs < 2 ^ 60 ∧ (ar b c p).natAbs < 2 ^ 60 ∧ (ar c a p).natAbs < 2 ^ 60) (hi : inB3 a b c p = true) {N : Nat} (hN : 2 ≤ N) : run pg N 25 [.sh (pD a), .sh (pD b), .sh (pD c), .sh (pD p)] = .ok (.sh (.bl (inT a b c p))) [none, none, none, none] := by
  obtain ⟨n, rfl⟩ := Nat.exists_eq_add_of_le' hN
  apply rt_eq
  refine rt_def rfl ⟨rfl, by simp⟩ ?_
  generalize hM : kEnd _ _ = M
  have fin : ∀ (k : Bool) (r : Env), k = inT a b c p → M (.ret (.sh (.bl k))) (.sh (pD a) :: .sh (pD b) :: .sh (pD c) :: .sh (pD p) :: r) := fun k r e => by
    subst hM
    simp [e]
  show wp (evSs pg (run pg (n + 1)) b__law_lines_part [.sh (pD a), .sh (pD b), .sh (pD c), .sh (pD p), .no, .no, .no, .no, .no]) M
  simp only [b__law_lines_part]
  rw [wSs_cons]
  simp [-wSs_cons]
  refine wp_loop (ds := (L3 a b c).map tD) (fun k e => ∃ s4 s5 s6 s7 s8 : Slot, (s4.may = true ∧ s5.may = true ∧ s6.may = true ∧ s7.may = true ∧ s8.may = true) ∧ (∀ t ∈ (L3 a b c).take k, ¬ lpt p t) ∧ e = [.sh (pD a), .sh (pD b), .sh (pD c), .sh (pD p), s4, s5, s6, s7, s8]) ⟨.no, .no, .no, .no, .no, ⟨rfl, rfl, rfl, rfl, rfl⟩, by simp, rfl⟩ ?_ ?_
  · rintro k d e hk ⟨s4, s5, s6, s7, s8, ⟨h4, h5, h6, h7, h8⟩, hz, rfl⟩ M2 hn - - hret
    rw [List.getElem?_map] at hk
    cases hr : (L3 a b c)[k]? with
    | none => rw [hr] at hk; cases hk
    | some t =>
      rw [hr] at hk
      cases hk
      have mt := List.mem_of_getElem? hr
      have st : (Sm t.1 ∧ Sm t.2.1 ∧ Sm t.2.2) ∧ (ar t.1 t.2.1 t.2.2).natAbs < 2 ^ 60 ∧ (ar t.1 t.2.1 p).natAbs < 2 ^ 60 := by
        have e1 := ar_rot a b c
        have e2 := ar_rot2 a b c
        simp [L3] at mt
        rcases mt with rfl | rfl | rfl
        · exact ⟨⟨ha, hb, hc⟩, sz.1, sz.2.1⟩
        · exact ⟨⟨hb, hc, ha⟩, by dsimp only; rw [e1]; exact sz.1, sz.2.2.1⟩
        · exact ⟨⟨hc, ha, hb⟩, by dsimp only; rw [e2]; exact sz.1, sz.2.2.2⟩
      have t1 := larea_run st.1.1 st.1.2.1 st.1.2.2 (N := n + 1) (by omega)
      have t2 := larea_run st.1.1 st.1.2.1 hp (N := n + 1) (by omega)
      have mm : mulOk (ar t.1 t.2.1 t.2.2) (ar t.1 t.2.1 p) := mulB (by omega) (by omega)
      have tk : (L3 a b c).take (k + 1) = (L3 a b c).take k ++ [t] := by rw [List.take_succ, hr]; rfl
      by_cases hb : lpt p t
      · have post := hret (.sh (.bl false)) [.sh (pD a), .sh (pD b), .sh (pD c), .sh (pD p), .sh (pD t.1), .sh (pD t.2.1), .sh (pD t.2.2), .sh (.int (ar t.1 t.2.1 t.2.2)), .sh (.int (ar t.1 t.2.1 p))] (by
          simp only [↓kFlow_r]
          refine fin _ _ ?_
          refine (Bool.eq_false_iff.mpr fun z => ?_).symm
          exact (lpt_all hi).mpr z t mt hb)
        unfold lpt bad at hb
        generalize ar t.1 t.2.1 t.2.2 = A at *
        generalize ar t.1 t.2.1 p = T at *
        by_cases q : A * T < 0
        · simp [tD, h4, h5, h6, h7, h8, ↓rt_of t1, ↓rt_of t2, mm, q]
          exact post
        · obtain ⟨z1, z2⟩ := hb.resolve_left q
          subst z1
          simp [tD, h4, h5, h6, h7, h8, ↓rt_of t1, ↓rt_of t2, mm, z2]
          exact post
      · have post := hn [.sh (pD a), .sh (pD b), .sh (pD c), .sh (pD p), .sh (pD t.1), .sh (pD t.2.1), .sh (pD t.2.2), .sh (.int (ar t.1 t.2.1 t.2.2)), .sh (.int (ar t.1 t.2.1 p))] ⟨_, _, _, _, _, ⟨rfl, rfl, rfl, rfl, rfl⟩, by
          rw [tk]
          intro q hq
          rcases List.mem_append.mp hq with hq | hq
          · exact hz q hq
          · rw [List.mem_singleton.mp hq]; exact hb, rfl⟩
        unfold lpt bad at hb
        generalize ar t.1 t.2.1 t.2.2 = A at *
        generalize ar t.1 t.2.1 p = T at *
        have q : ¬ A * T < 0 := fun z => hb (.inl z)
        by_cases z1 : A = 0
        · have z2 : T = 0 := Classical.byContradiction fun z => hb (.inr ⟨z1, z⟩)
          subst z1
          subst z2
          simp [tD, h4, h5, h6, h7, h8, ↓rt_of t1, ↓rt_of t2, mm]
          exact post
        · simp [tD, h4, h5, h6, h7, h8, ↓rt_of t1, ↓rt_of t2, mm, q, z1]
          exact post
  · rintro e ⟨s4, s5, s6, s7, s8, _, hz, rfl⟩
    rw [List.length_map, List.take_length] at hz
    simp
    exact fin _ _ ((lpt_all hi).mp hz).symm
end Lw
set_option linter.all false
set_option Elab.async false
set_option maxRecDepth 100000
set_option maxHeartbeats 4000000
namespace Lw
open PySem
/-- a point of the law's own field -/
def Fz (p : P2) : Prop := (-90 ≤ p.1 ∧ p.1 ≤ 90) ∧ -90 ≤ p.2 ∧ p.2 ≤ 90
theorem Fz.sz {p : P2} (h : Fz p) : Sz p := by unfold Fz at h; unfold Sz; omega
theorem ar_small {a b c : P2} (ha : Fz a) (hb : Fz b) (hc : Fz c) : (ar a b c).natAbs < 2 ^ 60 := by
  unfold Fz at *
  have k : ∀ x y : Int, x.natAbs ≤ 180 → y.natAbs ≤ 180 → (x * y).natAbs ≤ 32400 := fun x y h1 h2 => by
    rw [Int.natAbs_mul]
    exact Nat.mul_le_mul h1 h2
  have k1 := k (b.1 - a.1) (c.2 - a.2) (by omega) (by omega)
  have k2 := k (b.2 - a.2) (c.1 - a.1) (by omega) (by omega)
  unfold ar
  omega
theorem bx3_fz {a b c p : P2} (ha : Fz a) (hb : Fz b) (hc : Fz c) (h : p ∈ bx3 a b c) : Fz p := by
  unfold bx3 at h
  rw [mem_blk] at h
  unfold Fz at *
  omega
theorem box_three {a b c : P2} (ha : Fz a) (hb : Fz b) (hc : Fz c) {N : Nat} (hN : 1 ≤ N) : run pg N 22 [.sh (.lst [pD a, pD b, pD c])] = .ok (.fr ((bx3 a b c).map pD)) [none] := by
  obtain ⟨bs, ⟨ok, bi⟩, t⟩ := box_lst (S := [a, b, c]) ⟨by simp, fun p hp => by
    simp at hp
    unfold Fz at *
    rcases hp with rfl | rfl | rfl <;> omega⟩ (by simp) hN
  have e : bs = bx3 a b c := asc_eq ok.1 blk_asc fun p => by
    rw [bi p, mem_bx3]
    unfold inB3
    simp only [Bool.and_eq_true, decide_eq_true_eq, List.mem_cons, List.not_mem_nil, or_false, exists_eq_or_imp, exists_eq_left]
    omega
  rw [e] at t
  exact t
theorem allin_run {a b c : P2} (ha : Fz a) (hb : Fz b) (hc : Fz c) {N : Nat} (hN : 3 ≤ N) : run pg N 26 [.sh (pD a), .sh (pD b), .sh (pD c)] = .ok (.sh (.tup [.tup ((tpts a b c).map pD), .tup ((ipts a b c).map pD)])) [none, none, none] := by
  obtain ⟨n, rfl⟩ := Nat.exists_eq_add_of_le' hN
  have hl := bx3_len ha.sz hb.sz hc.sz
  have hl2 : (tpts a b c).length ≤ 4004001 := Nat.le_trans (List.length_filter_le _ _) hl
  have hl3 : (ipts a b c).length ≤ 4004001 := Nat.le_trans (List.length_filter_le _ _) hl
  have t := box_three ha hb hc (N := n + 2) (by omega)
  apply rt_eq
  refine rt_def rfl ⟨rfl, by simp⟩ ?_
  generalize hM : kEnd _ _ = M
  show wp (evSs pg (run pg (n + 2)) b__law_all_in [.sh (pD a), .sh (pD b), .sh (pD c), .no, .no, .no, .no, .no]) M
  rw [s__law_all_in, wSs_cons]
  simp [-wSs_cons, c__law_all_in_0, ↓rt_of t]
  refine wp_compM (f := pD) (fun p => if inT a b c p = true then some (pD p) else none) (fun p hp M hM => ?_) (by omega) ?_
  · have fp := bx3_fz ha hb hc hp
    have u := lines_run ha.sz.sm hb.sz.sm hc.sz.sm fp.sz.sm ⟨ar_small ha hb hc, ar_small ha hb fp, ar_small hb hc fp, ar_small hc ha fp⟩ (mem_bx3.mp hp) (N := n + 2) (by omega)
    cases h : inT a b c p with
    | true =>
      rw [h] at u
      rw [if_pos h] at hM
      simp [kTurn, ↓rt_of u]
      exact hM
    | false =>
      rw [h] at u
      rw [if_neg (by rw [h]; simp)] at hM
      simp [kTurn, ↓rt_of u]
      exact hM
  rw [filterMap_if, show (bx3 a b c).filter (inT a b c) = tpts a b c from rfl]
  simp [-wSs_cons]
  rw [wSs_cons]
  simp [-wSs_cons, c__law_all_in_1]
  rw [wSs_cons]
  simp [-wSs_cons, c__law_all_in_2]
  refine wp_compML (f := pD) (fun p => if (fun p => !sd a b c p) p = true then some (pD p) else none) rfl (fun p hp M hM => ?_) (by omega) ?_
  · have fp := bx3_fz ha hb hc (List.mem_filter.mp hp).1
    simp [kTurn]
    refine wp_compM (f := ppD) (xs := [(a, b), (b, c), (c, a)]) (fun q => if (fun q : P2 × P2 => decide (ar q.1 q.2 p = 0)) q = true then some (ppD q) else none) (fun q hq M hM => ?_) (by simp) ?_
    · have sq : Sm q.1 ∧ Sm q.2 := by
        simp at hq
        rcases hq with rfl | rfl | rfl
        · exact ⟨ha.sz.sm, hb.sz.sm⟩
        · exact ⟨hb.sz.sm, hc.sz.sm⟩
        · exact ⟨hc.sz.sm, ha.sz.sm⟩
      have v := larea_run sq.1 sq.2 fp.sz.sm (N := n + 2) (by omega)
      simp only [decide_eq_true_eq] at hM
      by_cases z : ar q.1 q.2 p = 0
      · rw [if_pos z] at hM
        simp [kTurn, ppD, ↓rt_of v, z]
        exact hM
      · rw [if_neg z] at hM
        simp [kTurn, ppD, ↓rt_of v, z]
        exact hM
    rw [filterMap_if]
    by_cases z : sd a b c p = true
    · rw [if_neg (by dsimp only; rw [z]; simp)] at hM
      have : ((([(a, b), (b, c), (c, a)] : List (P2 × P2)).filter fun q => decide (ar q.1 q.2 p = 0)).map ppD).length ≠ 0 := by
        rw [List.length_map]
        unfold sd at z
        rw [Bool.or_eq_true, Bool.or_eq_true] at z
        have m : ∃ q ∈ ([(a, b), (b, c), (c, a)] : List (P2 × P2)), decide (ar q.1 q.2 p = 0) = true := by
          rcases z with z | z | z
          · exact ⟨(a, b), by simp, z⟩
          · exact ⟨(b, c), by simp, z⟩
          · exact ⟨(c, a), by simp, z⟩
        obtain ⟨q, m1, m2⟩ := m
        exact fun e => by
          have := List.length_pos_of_mem (List.mem_filter (p := fun q : P2 × P2 => decide (ar q.1 q.2 p = 0)) |>.mpr ⟨m1, m2⟩)
          omega
      generalize ((([(a, b), (b, c), (c, a)] : List (P2 × P2)).filter fun q => decide (ar q.1 q.2 p = 0)).map ppD) = L at *
      have e2 : L ≠ [] := fun e => this (by rw [e]; rfl)
      simp [this, e2]
      exact hM
    · rw [if_pos (by dsimp only; rw [Bool.not_eq_true', Bool.eq_false_iff]; exact z)] at hM
      have : ((([(a, b), (b, c), (c, a)] : List (P2 × P2)).filter fun q => decide (ar q.1 q.2 p = 0)).map ppD) = [] := by
        rw [List.map_eq_nil_iff, List.filter_eq_nil_iff]
        intro q hq e
        apply z
        unfold sd
        rw [Bool.or_eq_true, Bool.or_eq_true]
        simp only [List.mem_cons, List.not_mem_nil, or_false] at hq
        rcases hq with rfl | rfl | rfl
        · exact .inl e
        · exact .inr (.inl e)
        · exact .inr (.inr e)
      rw [this]
      simp
      exact hM
  rw [filterMap_if, ← ipts_eq]
  simp [-wSs_cons]
  rw [wSs_cons]
  subst hM
  simp [c__law_all_in_3]
theorem told_run {a b c : P2} (ha : Fz a) (hb : Fz b) (hc : Fz c) {N : Nat} (hN : 10 ≤ N) : run pg N 27 [.sh (pD a), .sh (pD b), .sh (pD c)] = .ok (.sh (.bl true)) [none, none, none] := by
  obtain ⟨n, rfl⟩ := Nat.exists_eq_add_of_le' hN
  have hl := bx3_len ha.sz hb.sz hc.sz
  have hl2 : (tpts a b c).length ≤ 4004001 := Nat.le_trans (List.length_filter_le _ _) hl
  have hl3 : (ipts a b c).length ≤ 4004001 := Nat.le_trans (List.length_filter_le _ _) hl
  have hl4 : (opts a b c (tpts a b c)).length ≤ 4004001 := Nat.le_trans (List.length_filter_le _ _) hl2
  have t0 := allin_run ha hb hc (N := n + 9) (by omega)
  have t1 := tpts_run ha.sz hb.sz hc.sz (N := n + 9) (by omega)
  have t2 := ipts_run ha.sz hb.sz hc.sz (N := n + 9) (by omega)
  have t3 := opts_run ha.sz hb.sz hc.sz (N := n + 9) (by omega)
  have t4 := tpts_run hc.sz ha.sz hb.sz (N := n + 9) (by omega)
  have t5 := cinn_run hb.sz.sm ha.sz.sm hc.sz.sm (N := n + 9) (by omega)
  have t6 := cinn_run ha.sz.sm hb.sz.sm hc.sz.sm (N := n + 9) (by omega)
  rw [cinn_swap] at t5
  rw [cinn_is] at t5 t6
  rw [tpts_rot] at t4
  have t7 := larea_run ha.sz.sm hb.sz.sm hc.sz.sm (N := n + 9) (by omega)
  have t8 := dbl_run ha.sz.sm hb.sz.sm hc.sz.sm (N := n + 9) (by omega)
  have t9 := empty_run ha.sz.sm hb.sz.sm hc.sz.sm (N := n + 9) (by omega)
  have t10 := dvs_run (a := a) (b := b) (c := c) (N := n + 9) (by omega)
  have g1 := fun L : List P2 => @good_pts L
  have g2 := fun L : List P2 => @dep_pts L
  have k1 := keyT (N := n + 9) (by omega) (a := .tup [.tup ((tpts a b c).map pD), .tup ((ipts a b c).map pD), .tup ((opts a b c (tpts a b c)).map pD)]) (by simp [goodDs, g1]; omega) (by
    have := g2 (tpts a b c)
    have := g2 (ipts a b c)
    have := g2 (opts a b c (tpts a b c))
    simp [depD, depDs]
    omega)
  have k2 := keyT (N := n + 9) (by omega) (a := .tup [.tup ((tpts a b c).map pD), .int ((ipts a b c).length : Int), .int ((ipts a b c).length : Int)]) (by simp [goodDs, g1]; omega) (by
    have := g2 (tpts a b c)
    simp [depD, depDs]
    omega)
  have k3 := keyT (N := n + 9) (by omega) (a := .tup [.int ((ar a b c).natAbs : Int), .bl (decide (((ar a b c).natAbs : Int) = 1))]) (by simp [goodDs]) (by simp [depD, depDs])
  have tc := @tri_c a b c
  have fl := @ipts_flat a b c
  have asm := ar_small ha hb hc
  generalize hE : tpts a b c = Ev at *
  generalize hI : ipts a b c = In at *
  apply rt_eq
  refine rt_def rfl ⟨rfl, by simp⟩ ?_
  generalize hM : kEnd _ _ = M
  show wp (evSs pg (run pg (n + 9)) b__law_are_told [.sh (pD a), .sh (pD b), .sh (pD c), .no, .no, .no, .no, .no, .no, .no]) M
  rw [s__law_are_told, wSs_cons]
  simp [-wSs_cons, c__law_are_told_0, ↓rt_of t0]
  rw [wSs_cons]
  simp [-wSs_cons, c__law_are_told_1]
  refine wp_compM (f := pD) (fun p => if (fun p => decide (p ∉ [a, b, c])) p = true then some (pD p) else none) (fun p hp M hM => ?_) (by omega) ?_
  · have e := @inD_pts p [a, b, c]
    simp only [List.map_cons, List.map_nil] at e
    by_cases h : p ∈ [a, b, c]
    · rw [decide_eq_true h] at e
      rw [if_neg (by rw [decide_eq_true_eq]; exact fun z => z h)] at hM
      simp [kTurn, e]
      exact hM
    · rw [decide_eq_false h] at e
      rw [if_pos (by rw [decide_eq_true_eq]; exact h)] at hM
      simp [kTurn, e]
      exact hM
  rw [filterMap_if, show (Ev.filter fun p => decide (p ∉ [a, b, c])) = opts a b c Ev from rfl]
  have eo : (opts a b c Ev).length = 0 ↔ opts a b c Ev = [] := List.length_eq_zero_iff
  generalize hO : opts a b c Ev = Ot at *
  simp [-wSs_cons]
  rw [wSs_cons]
  simp [-wSs_cons, c__law_are_told_2, ↓rt_of t1, ↓rt_of t2, ↓rt_of t3, ↓k1]
  rw [wSs_cons]
  simp [-wSs_cons, c__law_are_told_3, ↓rt_of t4, ↓rt_of t5, ↓rt_of t6, ↓k2]
  rw [wSs_cons]
  simp [-wSs_cons, c__law_are_told_4, ↓rt_of t7]
  rw [wSs_cons]
  simp [-wSs_cons, c__law_are_told_5, ↓rt_of t8, ↓rt_of t9, ↓k3]
  rw [wSs_cons]
  by_cases h0 : ar a b c = 0
  · have e := fl h0
    subst e
    subst hM
    simp [c__law_are_told_6, h0]
  · have tr := tc h0
    have c1 := tr.twice
    have c2 := tr.all
    have c3 := tr.bare
    rw [hE, hI] at c2
    rw [hI] at c1
    rw [hE, hO] at c3
    simp [-wSs_cons, c__law_are_told_6, h0]
    rw [wSs_cons]
    simp [-wSs_cons, c__law_are_told_7]
    refine wp_compM (f := ppD) (xs := [(a, b), (b, c), (c, a)]) (fun q => some (.int (Int.gcd (q.2.1 - q.1.1) (q.2.2 - q.1.2)))) (fun q hq M hM => ?_) (by simp) ?_
    · have fq : Fz q.1 ∧ Fz q.2 := by
        simp at hq
        rcases hq with rfl | rfl | rfl
        · exact ⟨ha, hb⟩
        · exact ⟨hb, hc⟩
        · exact ⟨hc, ha⟩
      have u := lgcd_run (a := q.1.1 - q.2.1) (b := q.1.2 - q.2.2) (by unfold Fz at fq; omega) (N := n + 9) (by omega)
      rw [gcd_opp (x := q.2.1 - q.1.1) (y := q.2.2 - q.1.2) (by omega) (by omega)] at u
      simp [kTurn, ppD, ↓rt_of u]
      exact hM
    have es : ([(a, b), (b, c), (c, a)] : List (P2 × P2)).filterMap (fun q => some (D.int (Int.gcd (q.2.1 - q.1.1) (q.2.2 - q.1.2)))) = [(Int.gcd (b.1 - a.1) (b.2 - a.2) : Int), Int.gcd (c.1 - b.1) (c.2 - b.2), Int.gcd (a.1 - c.1) (a.2 - c.2)].map D.int := rfl
    rw [es]
    have ed : ([(Int.gcd (b.1 - a.1) (b.2 - a.2) : Int), Int.gcd (c.1 - b.1) (c.2 - b.2), Int.gcd (a.1 - c.1) (a.2 - c.2)] : List Int).sum = dvs a b c := by simp [dvs]; omega
    generalize ([(Int.gcd (b.1 - a.1) (b.2 - a.2) : Int), Int.gcd (c.1 - b.1) (c.2 - b.2), Int.gcd (a.1 - c.1) (a.2 - c.2)] : List Int) = L at *
    simp [-wSs_cons, ed]
    rw [wSs_cons]
    simp [-wSs_cons, c__law_are_told_8, ↓rt_of t10]
    refine ⟨.inl (.inl (by decide)), ?_⟩
    rw [if_pos c1, wSs_cons]
    have l1 : (Ev.length : Int) = (In.length : Int) + dvs a b c := c2
    by_cases z : Ot = []
    · have z1 := c3.mp (by rw [z]; rfl)
      have z2 : ((ar a b c).natAbs : Int) = 1 := by omega
      subst hM
      simp [c__law_are_told_9, z, z1, z2, l1]
    · have z0 : Ot.length ≠ 0 := fun e => z (List.length_eq_zero_iff.mp e)
      have z1 : ¬ (ar a b c).natAbs = 1 := fun e => z0 (c3.mpr e)
      have z2 : ¬ ((ar a b c).natAbs : Int) = 1 := by omega
      subst hM
      simp [c__law_are_told_9, z, z0, z1, z2, l1]
end Lw
set_option linter.all false
set_option Elab.async false
set_option maxRecDepth 100000
set_option maxHeartbeats 4000000
namespace Lw
open PySem
theorem half_in {x y m : Int} (hx : -m ≤ x ∧ x ≤ m) (hy : -m ≤ y ∧ y ≤ m) : -m ≤ (x + y).fdiv 2 ∧ (x + y).fdiv 2 ≤ m := by
  rw [Int.fdiv_eq_ediv_of_nonneg _ (by decide)]
  omega
theorem corners_run {d : List Int} {N : Nat} (hN : 4 ≤ N) : ∃ (a b c : P2) (d' : List Int), (Fz a ∧ Fz b ∧ Fz c) ∧ run pg N 24 [.loan (dInts d)] = .ok (.sh (.tup [pD a, pD b, pD c])) [some (dInts d')] := by
  obtain ⟨n, rfl⟩ := Nat.exists_eq_add_of_le' hN
  have : rt (run pg (n + 4) 24 [.loan (dInts d)]) fun v os => ∃ (a b c : P2) (d' : List Int), (Fz a ∧ Fz b ∧ Fz c) ∧ v = .sh (.tup [pD a, pD b, pD c]) ∧ os = [some (dInts d')] := by
    obtain ⟨a, d1, fa, t1⟩ := vec_run (ds := d) (m := 5) (by decide) (N := n + 3) (by omega)
    obtain ⟨b, d2, fb, t2⟩ := vec_run (ds := d1) (m := 5) (by decide) (N := n + 3) (by omega)
    obtain ⟨c, d3, fc, t3⟩ := vec_run (ds := d2) (m := 5) (by decide) (N := n + 3) (by omega)
    obtain ⟨v, hv, t4⟩ := take_at (N := n + 3) (by omega) d3 5 (by decide)
    generalize d3.dropLast = d4 at *
    refine rt_def rfl ⟨rfl, by simp⟩ ?_
    generalize hM : kEnd _ _ = M
    have fin : ∀ (x y z : P2) (d' : List Int) (r : Env), Fz x ∧ Fz y ∧ Fz z → M (.ret (.sh (.tup [pD x, pD y, pD z]))) (.own true (dInts d') :: r) := fun x y z d' r h => by
      subst hM
      simp
      exact ⟨x.1, x.2, y.1, y.2, z.1, z.2, h, ⟨⟨rfl, rfl⟩, ⟨rfl, rfl⟩, rfl, rfl⟩, d', rfl⟩
    show wp (evSs pg (run pg (n + 3)) b__law_corner_points [.own true (dInts d), .no, .no, .no, .no]) M
    rw [s__law_corner_points, wSs_cons]
    simp [-wSs_cons, c__law_corner_points_0, ↓rt_of t1, ↓rt_of t2, ↓rt_of t3]
    rw [wSs_cons]
    simp [-wSs_cons, c__law_corner_points_1, ↓rt_of t4]
    have Fa : Fz a := by unfold Fz; omega
    have Fb : Fz b := by unfold Fz; omega
    have Fc : Fz c := by unfold Fz; omega
    rw [wSs_cons]
    by_cases v0 : v = 0
    · subst v0
      obtain ⟨w, hw, t5⟩ := take_at (N := n + 3) (by omega) d4 4 (by decide)
      generalize d4.dropLast = d5 at *
      have : w = 0 ∨ w = 1 ∨ w = 2 ∨ w = 3 := by omega
      rcases this with rfl | rfl | rfl | rfl
      · simp [c__law_corner_points_2, ↓rt_of t5]
        exact fin _ _ _ _ _ ⟨Fa, Fa, Fb⟩
      · simp [c__law_corner_points_2, ↓rt_of t5]
        exact fin _ _ _ _ _ ⟨Fa, Fb, Fa⟩
      · simp [c__law_corner_points_2, ↓rt_of t5]
        exact fin _ _ _ _ _ ⟨Fb, Fa, Fa⟩
      · simp [c__law_corner_points_2, ↓rt_of t5]
        exact fin _ _ _ _ _ ⟨Fa, Fa, Fa⟩
    · have z0 : ¬ (v : Int) = 0 := by omega
      simp [-wSs_cons, c__law_corner_points_2, v0]
      rw [wSs_cons]
      by_cases v1 : v = 1
      · subst v1
        have h1 := half_in fa.1 fb.1
        have h2 := half_in fa.2 fb.2
        have b2 : (2 : Int).natAbs < 2 ^ 4000 := big4 (by decide)
        have m1 : mulOk 2 ((a.1 + b.1).fdiv 2) := .inl (.inl (by decide))
        have m2 : mulOk 2 ((a.2 + b.2).fdiv 2) := .inl (.inl (by decide))
        have b3 : (2 : Nat) < 2 ^ 4000 := b2
        simp [c__law_corner_points_3]
        generalize (a.1 + b.1).fdiv 2 = u at *
        generalize (a.2 + b.2).fdiv 2 = w at *
        refine ⟨b3, ?_⟩
        have post := fin a (u, w) (2 * u - a.1, 2 * w - a.2) d4 [.sh (pD a), .sh (pD b), .sh (pD c), .sh (.int 1)] ⟨Fa, by unfold Fz; dsimp only; omega, by unfold Fz; dsimp only; omega⟩
        simp [m1, m2] at post ⊢
        exact ⟨b3, post⟩
      · have z1 : ¬ (v : Int) = 1 := by omega
        simp [-wSs_cons, c__law_corner_points_3, v1, z1]
        rw [wSs_cons]
        by_cases v2 : v = 2
        · subst v2
          obtain ⟨w, hw, t5⟩ := take_at (N := n + 3) (by omega) d4 2 (by decide)
          generalize d4.dropLast = d5 at *
          have m1 : mulOk 2 (w : Int) := .inl (.inl (by decide))
          have post := fin a (a.1 + 1, a.2) (c.1, a.2 + 1 - 2 * (w : Int)) d5 [.sh (pD a), .sh (pD b), .sh (pD c), .sh (.int 2)] ⟨Fa, by unfold Fz; dsimp only; omega, by unfold Fz; dsimp only; omega⟩
          simp [c__law_corner_points_4, ↓rt_of t5, m1] at post ⊢
          exact post
        · have z2 : ¬ (v : Int) = 2 := by omega
          simp [-wSs_cons, c__law_corner_points_4, v2, z2]
          rw [wSs_cons]
          simp [c__law_corner_points_5]
          exact fin _ _ _ _ _ ⟨Fa, Fb, Fc⟩
  obtain ⟨v, os, h, a, b, c, d', h1, rfl, rfl⟩ := rt_ex this
  exact ⟨a, b, c, d', h1, h⟩
theorem big_cinn {c s u t : Int} (h : 0 < t) : cinn (c, s) (c + t, s + t * u) (c, s + 2 * t) = (2 * t * t - 4 * t + 2).fdiv 2 := by
  have p := Int.mul_pos h h
  have e1 : ar (c, s) (c + t, s + t * u) (c, s + 2 * t) = 2 * t * t := by unfold ar; dsimp only; grind
  have e2 : dvs (c, s) (c + t, s + t * u) (c, s + 2 * t) = 4 * t := by
    unfold dvs
    dsimp only
    rw [show c + t - c = t * 1 by omega, show s + t * u - s = t * u by omega, show c - (c + t) = t * (-1) by omega, show s + 2 * t - (s + t * u) = t * (2 - u) by grind, show c - c = (0 : Int) by omega, show s - (s + 2 * t) = -(2 * t) by omega]
    rw [Int.gcd_mul_left, Int.gcd_mul_left, Int.gcd_zero_left, Int.neg_gcd, Int.gcd_one_left, Int.gcd_one_left, Int.natAbs_neg]
    omega
  have n : (2 * t * t) ≠ 0 := by rw [Int.mul_assoc]; omega
  have a : ((2 * t * t).natAbs : Int) = 2 * t * t := by rw [Int.mul_assoc]; omega
  unfold cinn
  rw [e1, e2, if_neg n, a]
theorem law_turn {d : List Int} {z : Int} (hz : z.natAbs < 10 ^ 30) {A s3 s4 s5 s6 s7 s8 s9 s10 s11 : Slot} (h4 : s4.may = true) (h5 : s5.may = true) (h6 : s6.may = true) (h7 : s7.may = true) (h8 : s8.may = true) (h9 : s9.may = true) (h10 : s10.may = true) {M : Flow → Env → Prop}
    (hM : ∀ (d : List Int) (s4 s5 s6 s7 s8 s9 s10 : Slot), (s4.may = true ∧ s5.may = true ∧ s6.may = true ∧ s7.may = true ∧ s8.may = true ∧ s9.may = true ∧ s10.may = true) → M .nxt [A, .own false (dInts d), .sh (.int z), s3, s4, s5, s6, s7, s8, s9, s10, s11]) :
    wp (evSs pg (run pg 19) c_law_2b [A, .own false (dInts d), .sh (.int z), s3, s4, s5, s6, s7, s8, s9, s10, s11]) M := by
  obtain ⟨a, b, c, d1, ⟨fa, fb, fc⟩, t1⟩ := corners_run (d := d) (N := 19) (by omega)
  have t2 := told_run fa fb fc (N := 19) (by omega)
  obtain ⟨p, d2, hp, t3⟩ := vec_run (ds := d1) (m := 4) (by decide) (N := 19) (by omega)
  obtain ⟨s, u⟩ := p
  obtain ⟨t, ht⟩ : ∃ t : Int, t = (z.natAbs : Int) + 2 := ⟨_, rfl⟩
  have b2 : 2 ≤ t ∧ t < 2 ^ 110 := by omega
  have p0 : 0 < t := by omega
  have mB : ∀ a b : Int, a.natAbs < 2 ^ 150 → b.natAbs < 2 ^ 150 → mulOk a b := fun a b h1 h2 => mulB (by omega) (by omega)
  have m1 := mB 2 t (by omega) (by omega)
  have m2 := mB (2 * t) t (by omega) (by omega)
  have m3 := mB 4 t (by omega) (by omega)
  have m4 := mB t u (by omega) (by dsimp only at hp; omega)
  have tu : (t * u).natAbs ≤ 4 * 2 ^ 110 := by
    rw [Int.natAbs_mul, Nat.mul_comm 4]
    dsimp only at hp
    exact Nat.mul_le_mul (by omega) (by omega)
  have b4 : (2 : Int).natAbs < 2 ^ 4000 := big4 (by decide)
  have b5 : (2 : Nat) < 2 ^ 4000 := b4
  dsimp only at hp
  have u1 := cinn_run (a := (z, s)) (b := (z + t, s + t * u)) (c := (z, s + 2 * t)) (by unfold Sm; dsimp only; omega) (by unfold Sm; dsimp only; omega) (by unfold Sm; dsimp only; omega) (N := 19) (by omega)
  have u2 := cinn_run (a := (z, s + 2 * t)) (b := (z, s)) (c := (z + t, s + t * u)) (by unfold Sm; dsimp only; omega) (by unfold Sm; dsimp only; omega) (by unfold Sm; dsimp only; omega) (N := 19) (by omega)
  rw [cinn_rot] at u2
  rw [big_cinn p0] at u1 u2
  unfold c_law_2b
  rw [wSs_cons]
  simp [-wSs_cons, c_law_2b_0, ↓rt_of t1, h4, h5, h6]
  rw [wSs_cons]
  simp [-wSs_cons, c_law_2b_1, ↓rt_of t2]
  rw [wSs_cons]
  simp [-wSs_cons, c_law_2b_2, ↓rt_of t3, h7]
  rw [wSs_cons]
  simp [-wSs_cons, c_law_2b_3, h8]
  rw [← ht, wSs_cons]
  simp [-wSs_cons, c_law_2b_4, h9, m1, m4]
  rw [wSs_cons]
  simp [-wSs_cons, c_law_2b_5, h10, m1, m2, m3]
  refine ⟨b5, ?_⟩
  rw [wSs_cons]
  generalize (2 * t * t - 4 * t + 2).fdiv 2 = due at *
  have ky := keyT (N := 19) (by omega) (a := .tup [.int due, .int due]) (by simp [goodDs]) (by simp [depD, depDs])
  simp [c_law_2b_6, ↓rt_of u1, ↓rt_of u2, ↓ky]
  exact hM d2 _ _ _ _ _ _ _ ⟨rfl, rfl, rfl, rfl, rfl, rfl, rfl⟩
theorem law_run : ∀ ns : List Int, ns.length ≤ 63 → ∃ os, run pg 20 28 [.sh (.ro (ns.map D.int))] = .ok (.sh (.bl true)) os := by
  intro ns hl
  obtain ⟨d0, t1⟩ := draws_at (ns := ns) (m := 80) (by omega) (by omega) (N := 19) (by omega)
  have t1' : run pg 19 16 [.sh (.ro (dInts ns)), .sh (.int 80)] = _ := t1
  obtain ⟨z, hz, t2⟩ := lcell_run (ns := ns) (N := 19) (by omega)
  have : rt (run pg 20 28 [.sh (.ro (dInts ns))]) fun v os => v = .sh (.bl true) := by
    refine rt_def rfl ⟨rfl, by simp⟩ ?_
    generalize hM : kEnd _ _ = M
    show wp (evSs pg (run pg 19) b_law [.sh (.ro (dInts ns)), .no, .no, .no, .no, .no, .no, .no, .no, .no, .no, .no]) M
    rw [s_law, wSs_cons]
    simp [-wSs_cons, c_law_0, ↓rt_of t1']
    rw [wSs_cons]
    simp [-wSs_cons, c_law_1, ↓rt_of t2]
    rw [wSs_cons]
    simp [-wSs_cons, c_law_2]
    refine wp_loop (fun k e => ∃ (d : List Int) (s3 s4 s5 s6 s7 s8 s9 s10 : Slot), (s3.may = true ∧ s4.may = true ∧ s5.may = true ∧ s6.may = true ∧ s7.may = true ∧ s8.may = true ∧ s9.may = true ∧ s10.may = true) ∧ e = [.sh (.ro (dInts ns)), .own false (dInts d), .sh (.int z), s3, s4, s5, s6, s7, s8, s9, s10, .no]) ⟨d0, .no, .no, .no, .no, .no, .no, .no, .no, ⟨rfl, rfl, rfl, rfl, rfl, rfl, rfl, rfl⟩, rfl⟩ ?_ ?_
    · rintro k e0 e hk ⟨d, s3, s4, s5, s6, s7, s8, s9, s10, ⟨h3, h4, h5, h6, h7, h8, h9, h10⟩, rfl⟩ M2 hn - - -
      obtain ⟨hk2, rfl⟩ := rangeL0_at hk
      rw [kBindD_nm]
      simp only [↓kAt_0, ↓kAt_s, ↓kSet_0, ↓kSet_s, h3, true_and]
      exact law_turn hz h4 h5 h6 h7 h8 h9 h10 fun d s4 s5 s6 s7 s8 s9 s10 hh => hn _ ⟨d, _, s4, s5, s6, s7, s8, s9, s10, ⟨rfl, hh⟩, rfl⟩
    · rintro e ⟨d, s3, s4, s5, s6, s7, s8, s9, s10, ⟨h3, h4, h5, h6, h7, h8, h9, h10⟩, rfl⟩
      rw [kFlow_n]
      have w1 := tpts_run (a := (0, 0)) (b := (2, 1)) (c := (1, 3)) (by unfold Sz; decide) (by unfold Sz; decide) (by unfold Sz; decide) (N := 19) (by omega)
      have w2 := ipts_run (a := (0, 0)) (b := (2, 1)) (c := (1, 3)) (by unfold Sz; decide) (by unfold Sz; decide) (by unfold Sz; decide) (N := 19) (by omega)
      have w3 := opts_run (a := (0, 0)) (b := (2, 0)) (c := (0, 2)) (by unfold Sz; decide) (by unfold Sz; decide) (by unfold Sz; decide) (N := 19) (by omega)
      have w4 := tpts_run (a := (2, 2)) (b := (2, 2)) (c := (2, 2)) (by unfold Sz; decide) (by unfold Sz; decide) (by unfold Sz; decide) (N := 19) (by omega)
      have w5 := opts_run (a := (0, 0)) (b := (3, 3)) (c := (1, 1)) (by unfold Sz; decide) (by unfold Sz; decide) (by unfold Sz; decide) (N := 19) (by omega)
      have w6 := ipts_run (a := (0, 0)) (b := (3, 3)) (c := (1, 1)) (by unfold Sz; decide) (by unfold Sz; decide) (by unfold Sz; decide) (N := 19) (by omega)
      rw [show tpts (0, 0) (2, 1) (1, 3) = [(0, 0), (1, 1), (1, 2), (1, 3), (2, 1)] by decide +kernel] at w1
      rw [show ipts (0, 0) (2, 1) (1, 3) = [(1, 1), (1, 2)] by decide +kernel] at w2
      rw [show opts (0, 0) (2, 0) (0, 2) (tpts (0, 0) (2, 0) (0, 2)) = [(0, 1), (1, 0), (1, 1)] by decide +kernel] at w3
      rw [show tpts (2, 2) (2, 2) (2, 2) = [(2, 2)] by decide +kernel] at w4
      rw [show opts (0, 0) (3, 3) (1, 1) (tpts (0, 0) (3, 3) (1, 1)) = [(2, 2)] by decide +kernel] at w5
      rw [show ipts (0, 0) (3, 3) (1, 1) = [] by decide +kernel] at w6
      simp only [List.map_cons, List.map_nil] at w1 w2 w3 w4 w5 w6
      rw [wSs_cons]
      simp [-wSs_cons, c_law_3, ↓rt_of w1, ↓rt_of w2, ↓rt_of w3]
      rw [wSs_cons]
      have q1 := fun Q => @keyT 19 (by omega) (.tup [.tup [pD (0, 0), pD (1, 1), pD (1, 2), pD (1, 3), pD (2, 1)], .tup [pD (1, 1), pD (1, 2)], .tup [pD (0, 1), pD (1, 0), pD (1, 1)]]) (by decide +kernel) (by decide +kernel) Q
      simp [-wSs_cons, c_law_4, ↓q1]
      rw [wSs_cons]
      have q2 := fun Q => @keyT 19 (by omega) (.tup [.tup [pD (2, 2)], .tup [pD (2, 2)], .tup []]) (by decide +kernel) (by decide +kernel) Q
      subst hM
      simp [c_law_5, ↓rt_of w4, ↓rt_of w5, ↓rt_of w6, ↓q2]
  obtain ⟨v, os, h, rfl⟩ := rt_ex this
  exact ⟨os, h⟩
end Lw
set_option maxRecDepth 100000
namespace Lw
open PySem PySem.Spec L2
theorem all_mk {w : World} {K : PySem.W.Frag} {h : Heap} {mg : Str → Option Value} {fa : Addr} (X : K.In h) (G : h.Ns mainGlobals mg) (hfa : mg "law" = some (.ref fa))
    {f0 : Addr} {od0 an0 : Option Addr} {sl0 : Array (Option Value)} {oc0 kV0 dc0 pm0 cd0 ct0 : Value} {f1 : Addr} {od1 an1 : Option Addr} {sl1 : Array (Option Value)} {oc1 kV1 dc1 pm1 cd1 ct1 : Value} {f2 : Addr} {od2 an2 : Option Addr} {sl2 : Array (Option Value)} {oc2 kV2 dc2 pm2 cd2 ct2 : Value} {f3 : Addr} {od3 an3 : Option Addr} {sl3 : Array (Option Value)} {oc3 kV3 dc3 pm3 cd3 ct3 : Value} {f4 : Addr} {od4 an4 : Option Addr} {sl4 : Array (Option Value)} {oc4 kV4 dc4 pm4 cd4 ct4 : Value} {f5 : Addr} {od5 an5 : Option Addr} {sl5 : Array (Option Value)} {oc5 kV5 dc5 pm5 cd5 ct5 : Value} {f6 : Addr} {od6 an6 : Option Addr} {sl6 : Array (Option Value)} {oc6 kV6 dc6 pm6 cd6 ct6 : Value} {f7 : Addr} {od7 an7 : Option Addr} {sl7 : Array (Option Value)} {oc7 kV7 dc7 pm7 cd7 ct7 : Value} {f8 : Addr} {od8 an8 : Option Addr} {sl8 : Array (Option Value)} {oc8 kV8 dc8 pm8 cd8 ct8 : Value} {f9 : Addr} {od9 an9 : Option Addr} {sl9 : Array (Option Value)} {oc9 kV9 dc9 pm9 cd9 ct9 : Value} {f10 : Addr} {od10 an10 : Option Addr} {sl10 : Array (Option Value)} {oc10 kV10 dc10 pm10 cd10 ct10 : Value} {f11 : Addr} {od11 an11 : Option Addr} {sl11 : Array (Option Value)} {oc11 kV11 dc11 pm11 cd11 ct11 : Value} {f12 : Addr} {od12 an12 : Option Addr} {sl12 : Array (Option Value)} {oc12 kV12 dc12 pm12 cd12 ct12 : Value} {f13 : Addr} {od13 an13 : Option Addr} {sl13 : Array (Option Value)} {oc13 kV13 dc13 pm13 cd13 ct13 : Value} {f14 : Addr} {od14 an14 : Option Addr} {sl14 : Array (Option Value)} {oc14 kV14 dc14 pm14 cd14 ct14 : Value} {f15 : Addr} {od15 an15 : Option Addr} {sl15 : Array (Option Value)} {oc15 kV15 dc15 pm15 cd15 ct15 : Value} {f16 : Addr} {od16 an16 : Option Addr} {sl16 : Array (Option Value)} {oc16 kV16 dc16 pm16 cd16 ct16 : Value} {f17 : Addr} {od17 an17 : Option Addr} {sl17 : Array (Option Value)} {oc17 kV17 dc17 pm17 cd17 ct17 : Value} {f18 : Addr} {od18 an18 : Option Addr} {sl18 : Array (Option Value)} {oc18 kV18 dc18 pm18 cd18 ct18 : Value} {f19 : Addr} {od19 an19 : Option Addr} {sl19 : Array (Option Value)} {oc19 kV19 dc19 pm19 cd19 ct19 : Value} {f20 : Addr} {od20 an20 : Option Addr} {sl20 : Array (Option Value)} {oc20 kV20 dc20 pm20 cd20 ct20 : Value} {f21 : Addr} {od21 an21 : Option Addr} {sl21 : Array (Option Value)} {oc21 kV21 dc21 pm21 cd21 ct21 : Value} {f22 : Addr} {od22 an22 : Option Addr} {sl22 : Array (Option Value)} {oc22 kV22 dc22 pm22 cd22 ct22 : Value} {f23 : Addr} {od23 an23 : Option Addr} {sl23 : Array (Option Value)} {oc23 kV23 dc23 pm23 cd23 ct23 : Value} {f24 : Addr} {od24 an24 : Option Addr} {sl24 : Array (Option Value)} {oc24 kV24 dc24 pm24 cd24 ct24 : Value} {f25 : Addr} {od25 an25 : Option Addr} {sl25 : Array (Option Value)} {oc25 kV25 dc25 pm25 cd25 ct25 : Value} {f26 : Addr} {od26 an26 : Option Addr} {sl26 : Array (Option Value)} {oc26 kV26 dc26 pm26 cd26 ct26 : Value} {f27 : Addr} {od27 an27 : Option Addr} {sl27 : Array (Option Value)} {oc27 kV27 dc27 pm27 cd27 ct27 : Value} {f28 : Addr} {od28 an28 : Option Addr} {sl28 : Array (Option Value)} {oc28 kV28 dc28 pm28 cd28 ct28 : Value}
    (a0 : PySem.W.nsIn K mainGlobals "step_between" = some (some (.ref f0))) (l0 : K.lookup f0 = some ⟨oc0, od0, .func (PySem.W.fnOf "step_between" "step_between" (defArgs (topS 2)) (defBody (topS 2)) (defScope (topS 2)) .none kV0 dc0 pm0 an0 cd0 ct0), sl0⟩) (c0 : PySem.W.codeIn K cd0 "step_between" = true) (k0 : PySem.W.keepIn K (.ref f0) = true)
    (a1 : PySem.W.nsIn K mainGlobals "twist" = some (some (.ref f1))) (l1 : K.lookup f1 = some ⟨oc1, od1, .func (PySem.W.fnOf "twist" "twist" (defArgs (topS 3)) (defBody (topS 3)) (defScope (topS 3)) .none kV1 dc1 pm1 an1 cd1 ct1), sl1⟩) (c1 : PySem.W.codeIn K cd1 "twist" = true) (k1 : PySem.W.keepIn K (.ref f1) = true)
    (a2 : PySem.W.nsIn K mainGlobals "divisor_of" = some (some (.ref f2))) (l2 : K.lookup f2 = some ⟨oc2, od2, .func (PySem.W.fnOf "divisor_of" "divisor_of" (defArgs (topS 4)) (defBody (topS 4)) (defScope (topS 4)) .none kV2 dc2 pm2 an2 cd2 ct2), sl2⟩) (c2 : PySem.W.codeIn K cd2 "divisor_of" = true) (k2 : PySem.W.keepIn K (.ref f2) = true)
    (a3 : PySem.W.nsIn K mainGlobals "turn_of" = some (some (.ref f3))) (l3 : K.lookup f3 = some ⟨oc3, od3, .func (PySem.W.fnOf "turn_of" "turn_of" (defArgs (topS 6)) (defBody (topS 6)) (defScope (topS 6)) .none kV3 dc3 pm3 an3 cd3 ct3), sl3⟩) (c3 : PySem.W.codeIn K cd3 "turn_of" = true) (k3 : PySem.W.keepIn K (.ref f3) = true)
    (a4 : PySem.W.nsIn K mainGlobals "doubled" = some (some (.ref f4))) (l4 : K.lookup f4 = some ⟨oc4, od4, .func (PySem.W.fnOf "doubled" "doubled" (defArgs (topS 7)) (defBody (topS 7)) (defScope (topS 7)) .none kV4 dc4 pm4 an4 cd4 ct4), sl4⟩) (c4 : PySem.W.codeIn K cd4 "doubled" = true) (k4 : PySem.W.keepIn K (.ref f4) = true)
    (a5 : PySem.W.nsIn K mainGlobals "turns_around" = some (some (.ref f5))) (l5 : K.lookup f5 = some ⟨oc5, od5, .func (PySem.W.fnOf "turns_around" "turns_around" (defArgs (topS 8)) (defBody (topS 8)) (defScope (topS 8)) .none kV5 dc5 pm5 an5 cd5 ct5), sl5⟩) (c5 : PySem.W.codeIn K cd5 "turns_around" = true) (k5 : PySem.W.keepIn K (.ref f5) = true)
    (a6 : PySem.W.nsIn K mainGlobals "is_in_box_of_three" = some (some (.ref f6))) (l6 : K.lookup f6 = some ⟨oc6, od6, .func (PySem.W.fnOf "is_in_box_of_three" "is_in_box_of_three" (defArgs (topS 9)) (defBody (topS 9)) (defScope (topS 9)) .none kV6 dc6 pm6 an6 cd6 ct6), sl6⟩) (c6 : PySem.W.codeIn K cd6 "is_in_box_of_three" = true) (k6 : PySem.W.keepIn K (.ref f6) = true)
    (a7 : PySem.W.nsIn K mainGlobals "is_in_triangle" = some (some (.ref f7))) (l7 : K.lookup f7 = some ⟨oc7, od7, .func (PySem.W.fnOf "is_in_triangle" "is_in_triangle" (defArgs (topS 10)) (defBody (topS 10)) (defScope (topS 10)) .none kV7 dc7 pm7 an7 cd7 ct7), sl7⟩) (c7 : PySem.W.codeIn K cd7 "is_in_triangle" = true) (k7 : PySem.W.keepIn K (.ref f7) = true)
    (a8 : PySem.W.nsIn K mainGlobals "is_strictly_in" = some (some (.ref f8))) (l8 : K.lookup f8 = some ⟨oc8, od8, .func (PySem.W.fnOf "is_strictly_in" "is_strictly_in" (defArgs (topS 11)) (defBody (topS 11)) (defScope (topS 11)) .none kV8 dc8 pm8 an8 cd8 ct8), sl8⟩) (c8 : PySem.W.codeIn K cd8 "is_strictly_in" = true) (k8 : PySem.W.keepIn K (.ref f8) = true)
    (a9 : PySem.W.nsIn K mainGlobals "is_empty_triangle" = some (some (.ref f9))) (l9 : K.lookup f9 = some ⟨oc9, od9, .func (PySem.W.fnOf "is_empty_triangle" "is_empty_triangle" (defArgs (topS 12)) (defBody (topS 12)) (defScope (topS 12)) .none kV9 dc9 pm9 an9 cd9 ct9), sl9⟩) (c9 : PySem.W.codeIn K cd9 "is_empty_triangle" = true) (k9 : PySem.W.keepIn K (.ref f9) = true)
    (a10 : PySem.W.nsIn K mainGlobals "divisors_around" = some (some (.ref f10))) (l10 : K.lookup f10 = some ⟨oc10, od10, .func (PySem.W.fnOf "divisors_around" "divisors_around" (defArgs (topS 13)) (defBody (topS 13)) (defScope (topS 13)) .none kV10 dc10 pm10 an10 cd10 ct10), sl10⟩) (c10 : PySem.W.codeIn K cd10 "divisors_around" = true) (k10 : PySem.W.keepIn K (.ref f10) = true)
    (a11 : PySem.W.nsIn K mainGlobals "box_of_three" = some (some (.ref f11))) (l11 : K.lookup f11 = some ⟨oc11, od11, .func (PySem.W.fnOf "box_of_three" "box_of_three" (defArgs (topS 14)) (defBody (topS 14)) (defScope (topS 14)) .none kV11 dc11 pm11 an11 cd11 ct11), sl11⟩) (c11 : PySem.W.codeIn K cd11 "box_of_three" = true) (k11 : PySem.W.keepIn K (.ref f11) = true)
    (a12 : PySem.W.nsIn K mainGlobals "triangle_points" = some (some (.ref f12))) (l12 : K.lookup f12 = some ⟨oc12, od12, .func (PySem.W.fnOf "triangle_points" "triangle_points" (defArgs (topS 15)) (defBody (topS 15)) (defScope (topS 15)) .none kV12 dc12 pm12 an12 cd12 ct12), sl12⟩) (c12 : PySem.W.codeIn K cd12 "triangle_points" = true) (k12 : PySem.W.keepIn K (.ref f12) = true)
    (a13 : PySem.W.nsIn K mainGlobals "inner_points" = some (some (.ref f13))) (l13 : K.lookup f13 = some ⟨oc13, od13, .func (PySem.W.fnOf "inner_points" "inner_points" (defArgs (topS 16)) (defBody (topS 16)) (defScope (topS 16)) .none kV13 dc13 pm13 an13 cd13 ct13), sl13⟩) (c13 : PySem.W.codeIn K cd13 "inner_points" = true) (k13 : PySem.W.keepIn K (.ref f13) = true)
    (a14 : PySem.W.nsIn K mainGlobals "other_points" = some (some (.ref f14))) (l14 : K.lookup f14 = some ⟨oc14, od14, .func (PySem.W.fnOf "other_points" "other_points" (defArgs (topS 17)) (defBody (topS 17)) (defScope (topS 17)) .none kV14 dc14 pm14 an14 cd14 ct14), sl14⟩) (c14 : PySem.W.codeIn K cd14 "other_points" = true) (k14 : PySem.W.keepIn K (.ref f14) = true)
    (a15 : PySem.W.nsIn K mainGlobals "count_inner" = some (some (.ref f15))) (l15 : K.lookup f15 = some ⟨oc15, od15, .func (PySem.W.fnOf "count_inner" "count_inner" (defArgs (topS 18)) (defBody (topS 18)) (defScope (topS 18)) .none kV15 dc15 pm15 an15 cd15 ct15), sl15⟩) (c15 : PySem.W.codeIn K cd15 "count_inner" = true) (k15 : PySem.W.keepIn K (.ref f15) = true)
    (a16 : PySem.W.nsIn K mainGlobals "_law_draws" = some (some (.ref f16))) (l16 : K.lookup f16 = some ⟨oc16, od16, .func (PySem.W.fnOf "_law_draws" "_law_draws" (defArgs (topS 20)) (defBody (topS 20)) (defScope (topS 20)) .none kV16 dc16 pm16 an16 cd16 ct16), sl16⟩) (c16 : PySem.W.codeIn K cd16 "_law_draws" = true) (k16 : PySem.W.keepIn K (.ref f16) = true)
    (a17 : PySem.W.nsIn K mainGlobals "_law_take" = some (some (.ref f17))) (l17 : K.lookup f17 = some ⟨oc17, od17, .func (PySem.W.fnOf "_law_take" "_law_take" (defArgs (topS 21)) (defBody (topS 21)) (defScope (topS 21)) .none kV17 dc17 pm17 an17 cd17 ct17), sl17⟩) (c17 : PySem.W.codeIn K cd17 "_law_take" = true) (k17 : PySem.W.keepIn K (.ref f17) = true)
    (a18 : PySem.W.nsIn K mainGlobals "_law_same" = some (some (.ref f18))) (l18 : K.lookup f18 = some ⟨oc18, od18, .func (PySem.W.fnOf "_law_same" "_law_same" (defArgs (topS 22)) (defBody (topS 22)) (defScope (topS 22)) .none kV18 dc18 pm18 an18 cd18 ct18), sl18⟩) (c18 : PySem.W.codeIn K cd18 "_law_same" = true) (k18 : PySem.W.keepIn K (.ref f18) = true)
    (a19 : PySem.W.nsIn K mainGlobals "_law_cell" = some (some (.ref f19))) (l19 : K.lookup f19 = some ⟨oc19, od19, .func (PySem.W.fnOf "_law_cell" "_law_cell" (defArgs (topS 23)) (defBody (topS 23)) (defScope (topS 23)) .none kV19 dc19 pm19 an19 cd19 ct19), sl19⟩) (c19 : PySem.W.codeIn K cd19 "_law_cell" = true) (k19 : PySem.W.keepIn K (.ref f19) = true)
    (a20 : PySem.W.nsIn K mainGlobals "_law_gcd" = some (some (.ref f20))) (l20 : K.lookup f20 = some ⟨oc20, od20, .func (PySem.W.fnOf "_law_gcd" "_law_gcd" (defArgs (topS 24)) (defBody (topS 24)) (defScope (topS 24)) .none kV20 dc20 pm20 an20 cd20 ct20), sl20⟩) (c20 : PySem.W.codeIn K cd20 "_law_gcd" = true) (k20 : PySem.W.keepIn K (.ref f20) = true)
    (a21 : PySem.W.nsIn K mainGlobals "_law_area" = some (some (.ref f21))) (l21 : K.lookup f21 = some ⟨oc21, od21, .func (PySem.W.fnOf "_law_area" "_law_area" (defArgs (topS 25)) (defBody (topS 25)) (defScope (topS 25)) .none kV21 dc21 pm21 an21 cd21 ct21), sl21⟩) (c21 : PySem.W.codeIn K cd21 "_law_area" = true) (k21 : PySem.W.keepIn K (.ref f21) = true)
    (a22 : PySem.W.nsIn K mainGlobals "_law_box" = some (some (.ref f22))) (l22 : K.lookup f22 = some ⟨oc22, od22, .func (PySem.W.fnOf "_law_box" "_law_box" (defArgs (topS 26)) (defBody (topS 26)) (defScope (topS 26)) .none kV22 dc22 pm22 an22 cd22 ct22), sl22⟩) (c22 : PySem.W.codeIn K cd22 "_law_box" = true) (k22 : PySem.W.keepIn K (.ref f22) = true)
    (a23 : PySem.W.nsIn K mainGlobals "_law_vector" = some (some (.ref f23))) (l23 : K.lookup f23 = some ⟨oc23, od23, .func (PySem.W.fnOf "_law_vector" "_law_vector" (defArgs (topS 27)) (defBody (topS 27)) (defScope (topS 27)) .none kV23 dc23 pm23 an23 cd23 ct23), sl23⟩) (c23 : PySem.W.codeIn K cd23 "_law_vector" = true) (k23 : PySem.W.keepIn K (.ref f23) = true)
    (a24 : PySem.W.nsIn K mainGlobals "_law_corner_points" = some (some (.ref f24))) (l24 : K.lookup f24 = some ⟨oc24, od24, .func (PySem.W.fnOf "_law_corner_points" "_law_corner_points" (defArgs (topS 28)) (defBody (topS 28)) (defScope (topS 28)) .none kV24 dc24 pm24 an24 cd24 ct24), sl24⟩) (c24 : PySem.W.codeIn K cd24 "_law_corner_points" = true) (k24 : PySem.W.keepIn K (.ref f24) = true)
    (a25 : PySem.W.nsIn K mainGlobals "_law_lines_part" = some (some (.ref f25))) (l25 : K.lookup f25 = some ⟨oc25, od25, .func (PySem.W.fnOf "_law_lines_part" "_law_lines_part" (defArgs (topS 29)) (defBody (topS 29)) (defScope (topS 29)) .none kV25 dc25 pm25 an25 cd25 ct25), sl25⟩) (c25 : PySem.W.codeIn K cd25 "_law_lines_part" = true) (k25 : PySem.W.keepIn K (.ref f25) = true)
    (a26 : PySem.W.nsIn K mainGlobals "_law_all_in" = some (some (.ref f26))) (l26 : K.lookup f26 = some ⟨oc26, od26, .func (PySem.W.fnOf "_law_all_in" "_law_all_in" (defArgs (topS 30)) (defBody (topS 30)) (defScope (topS 30)) .none kV26 dc26 pm26 an26 cd26 ct26), sl26⟩) (c26 : PySem.W.codeIn K cd26 "_law_all_in" = true) (k26 : PySem.W.keepIn K (.ref f26) = true)
    (a27 : PySem.W.nsIn K mainGlobals "_law_are_told" = some (some (.ref f27))) (l27 : K.lookup f27 = some ⟨oc27, od27, .func (PySem.W.fnOf "_law_are_told" "_law_are_told" (defArgs (topS 31)) (defBody (topS 31)) (defScope (topS 31)) .none kV27 dc27 pm27 an27 cd27 ct27), sl27⟩) (c27 : PySem.W.codeIn K cd27 "_law_are_told" = true) (k27 : PySem.W.keepIn K (.ref f27) = true)
    (a28 : PySem.W.nsIn K mainGlobals "law" = some (some (.ref f28))) (l28 : K.lookup f28 = some ⟨oc28, od28, .func (PySem.W.fnOf "law" "law" (defArgs (topS 32)) (defBody (topS 32)) (defScope (topS 32)) .none kV28 dc28 pm28 an28 cd28 ct28), sl28⟩) (c28 : PySem.W.codeIn K cd28 "law" = true) (k28 : PySem.W.keepIn K (.ref f28) = true)
    (z_gcd : PySem.W.nsIn K mainGlobals "gcd" = some (some (.builtin "math.gcd")))
    (z_abs : PySem.W.nsIn K mainGlobals "abs" = some none) (z_all : PySem.W.nsIn K mainGlobals "all" = some none) (z_any : PySem.W.nsIn K mainGlobals "any" = some none) (z_bool : PySem.W.nsIn K mainGlobals "bool" = some none) (z_int : PySem.W.nsIn K mainGlobals "int" = some none) (z_isinstance : PySem.W.nsIn K mainGlobals "isinstance" = some none) (z_len : PySem.W.nsIn K mainGlobals "len" = some none) (z_list : PySem.W.nsIn K mainGlobals "list" = some none) (z_max : PySem.W.nsIn K mainGlobals "max" = some none) (z_min : PySem.W.nsIn K mainGlobals "min" = some none) (z_range : PySem.W.nsIn K mainGlobals "range" = some none) (z_set : PySem.W.nsIn K mainGlobals "set" = some none) (z_sorted : PySem.W.nsIn K mainGlobals "sorted" = some none) (z_str : PySem.W.nsIn K mainGlobals "str" = some none) (z_sum : PySem.W.nsIn K mainGlobals "sum" = some none) (z_tuple : PySem.W.nsIn K mainGlobals "tuple" = some none) (z_zip : PySem.W.nsIn K mainGlobals "zip" = some none) :
    ∃ fd : FuncData, (∀ (s : Shared) (v : Value), BindsTo s fd ⟨[v], []⟩ [("script", v)]) ∧ ∀ base : Heap, K.In base → base.Ns mainGlobals mg → FnOk PySem.Challenge.pw_roundshapes_k23_points_of_triangles w K mg base (L2.CX PySem.Challenge.pw_roundshapes_k23_points_of_triangles w) 20 fa fd ["script"] (SpL K 1 (run pg 20) 28) := by
  have e := hfa.symm.trans (PySem.W.mg_of X G a28)
  cases e
  have T : ∀ (base : Heap) (n : Nat), GOk PySem.Challenge.pw_roundshapes_k23_points_of_triangles w K mg base pg (run pg n) n (fun c => ([] : List Value).getD c .none) := fun base => all_ok (fun f hf => match f, hf with
    | 0, _ => st_step_between.tx_ok X G a0 l0 c0 k0
    | 1, _ => st_twist.tx_ok X G a1 l1 c1 k1
    | 2, _ => st_divisor_of.tx_ok X G a2 l2 c2 k2
    | 3, _ => st_turn_of.tx_ok X G a3 l3 c3 k3
    | 4, _ => st_doubled.tx_ok X G a4 l4 c4 k4
    | 5, _ => st_turns_around.tx_ok X G a5 l5 c5 k5
    | 6, _ => st_is_in_box_of_three.tx_ok X G a6 l6 c6 k6
    | 7, _ => st_is_in_triangle.tx_ok X G a7 l7 c7 k7
    | 8, _ => st_is_strictly_in.tx_ok X G a8 l8 c8 k8
    | 9, _ => st_is_empty_triangle.tx_ok X G a9 l9 c9 k9
    | 10, _ => st_divisors_around.tx_ok X G a10 l10 c10 k10
    | 11, _ => st_box_of_three.tx_ok X G a11 l11 c11 k11
    | 12, _ => st_triangle_points.tx_ok X G a12 l12 c12 k12
    | 13, _ => st_inner_points.tx_ok X G a13 l13 c13 k13
    | 14, _ => st_other_points.tx_ok X G a14 l14 c14 k14
    | 15, _ => st_count_inner.tx_ok X G a15 l15 c15 k15
    | 16, _ => st__law_draws.tx_ok X G a16 l16 c16 k16
    | 17, _ => st__law_take.tx_ok X G a17 l17 c17 k17
    | 18, _ => st__law_same.tx_ok X G a18 l18 c18 k18
    | 19, _ => st__law_cell.tx_ok X G a19 l19 c19 k19
    | 20, _ => st__law_gcd.tx_ok X G a20 l20 c20 k20
    | 21, _ => st__law_area.tx_ok X G a21 l21 c21 k21
    | 22, _ => st__law_box.tx_ok X G a22 l22 c22 k22
    | 23, _ => st__law_vector.tx_ok X G a23 l23 c23 k23
    | 24, _ => st__law_corner_points.tx_ok X G a24 l24 c24 k24
    | 25, _ => st__law_lines_part.tx_ok X G a25 l25 c25 k25
    | 26, _ => st__law_all_in.tx_ok X G a26 l26 c26 k26
    | 27, _ => st__law_are_told.tx_ok X G a27 l27 c27 k27
    | 28, _ => st_law.tx_ok X G a28 l28 c28 k28
    | _ + 29, h => absurd h (Nat.not_lt.mpr (Nat.le_add_left _ _)))
    (fun b hg => match b, hg with | .len, _ => (PySem.W.mg_none_of X G z_len) | .int, _ => (PySem.W.mg_none_of X G z_int) | .abs, _ => (PySem.W.mg_none_of X G z_abs) | .min, _ => (PySem.W.mg_none_of X G z_min) | .max, _ => (PySem.W.mg_none_of X G z_max) | .sum, _ => (PySem.W.mg_none_of X G z_sum) | .sorted, _ => (PySem.W.mg_none_of X G z_sorted) | .tuple, _ => (PySem.W.mg_none_of X G z_tuple) | .list, _ => (PySem.W.mg_none_of X G z_list) | .any, _ => (PySem.W.mg_none_of X G z_any) | .all, _ => (PySem.W.mg_none_of X G z_all) | .set, _ => (PySem.W.mg_none_of X G z_set) | .str, _ => (PySem.W.mg_none_of X G z_str) | .bool, _ => (PySem.W.mg_none_of X G z_bool))
    (fun _ => PySem.W.mg_of X G z_gcd)
    (fun b => match b with | .bool => (PySem.W.mg_none_of X G z_bool) | .int => (PySem.W.mg_none_of X G z_int) | .str => (PySem.W.mg_none_of X G z_str) | .tuple => (PySem.W.mg_none_of X G z_tuple) | .list => (PySem.W.mg_none_of X G z_list))
    (PySem.W.mg_none_of X G z_isinstance) (PySem.W.mg_none_of X G z_range) (PySem.W.mg_none_of X G z_zip)
    (fun c h => absurd h (Nat.not_lt_zero _)) (by decide) (fun _ _ h => absurd h (Nat.not_lt_zero _))
    (fun c d h => absurd h (Nat.not_lt_zero _))
  exact ⟨_, fun s v => .of_eq rfl, fun base _ _ => fn_spL (fn_ok (T base 19) (st_law.txk X G a28 l28 c28 k28))⟩
end Lw
open PySem PySem.W PyProof.Rows
set_option maxHeartbeats 0 in
theorem PySem.Challenge.cw_roundshapes_k23_points_of_triangles_holds : PySem.Challenge.rw_roundshapes_k23_points_of_triangles.Holds := by
  w_on; o_law; k_head; (case hw => w_witness2)
  k_fill
  refine L2.walk_of (l := PySem.Challenge.rw_roundshapes_k23_points_of_triangles) (n := 63) (k := 20) (x := "script") (CX := fun w => L2.CX PySem.Challenge.pw_roundshapes_k23_points_of_triangles w) (sp := fun w => Lw.SpL _ 1 (Lw.run Lw.pg 20) 28) rfl (by decide) rfl ⟨rfl, by decide, by decide⟩ (fun w h Y => PySem.W.kIn_of Y) ?F (fun w H a ns hl ho hs cA => Lw.law_sp Lw.law_run _ H a ns hl ho hs) (fun w H s e s1 h => Lw.no_exc h)
  case F =>
    intro w mg fa h KX G hmg
    refine' Lw.all_mk KX G hmg ?a0 ?l0 ?c0 ?k0 ?a1 ?l1 ?c1 ?k1 ?a2 ?l2 ?c2 ?k2 ?a3 ?l3 ?c3 ?k3 ?a4 ?l4 ?c4 ?k4 ?a5 ?l5 ?c5 ?k5 ?a6 ?l6 ?c6 ?k6 ?a7 ?l7 ?c7 ?k7 ?a8 ?l8 ?c8 ?k8 ?a9 ?l9 ?c9 ?k9 ?a10 ?l10 ?c10 ?k10 ?a11 ?l11 ?c11 ?k11 ?a12 ?l12 ?c12 ?k12 ?a13 ?l13 ?c13 ?k13 ?a14 ?l14 ?c14 ?k14 ?a15 ?l15 ?c15 ?k15 ?a16 ?l16 ?c16 ?k16 ?a17 ?l17 ?c17 ?k17 ?a18 ?l18 ?c18 ?k18 ?a19 ?l19 ?c19 ?k19 ?a20 ?l20 ?c20 ?k20 ?a21 ?l21 ?c21 ?k21 ?a22 ?l22 ?c22 ?k22 ?a23 ?l23 ?c23 ?k23 ?a24 ?l24 ?c24 ?k24 ?a25 ?l25 ?c25 ?k25 ?a26 ?l26 ?c26 ?k26 ?a27 ?l27 ?c27 ?k27 ?a28 ?l28 ?c28 ?k28 ?z_gcd ?z_abs ?z_all ?z_any ?z_bool ?z_int ?z_isinstance ?z_len ?z_list ?z_max ?z_min ?z_range ?z_set ?z_sorted ?z_str ?z_sum ?z_tuple ?z_zip
    (case a0 => k_is); (case l0 => k_is); (case c0 => k_is); (case k0 => k_is); (case a1 => k_is); (case l1 => k_is); (case c1 => k_is); (case k1 => k_is); (case a2 => k_is); (case l2 => k_is); (case c2 => k_is); (case k2 => k_is); (case a3 => k_is); (case l3 => k_is); (case c3 => k_is); (case k3 => k_is); (case a4 => k_is); (case l4 => k_is); (case c4 => k_is); (case k4 => k_is); (case a5 => k_is); (case l5 => k_is); (case c5 => k_is); (case k5 => k_is); (case a6 => k_is); (case l6 => k_is); (case c6 => k_is); (case k6 => k_is); (case a7 => k_is); (case l7 => k_is); (case c7 => k_is); (case k7 => k_is); (case a8 => k_is); (case l8 => k_is); (case c8 => k_is); (case k8 => k_is); (case a9 => k_is); (case l9 => k_is); (case c9 => k_is); (case k9 => k_is); (case a10 => k_is); (case l10 => k_is); (case c10 => k_is); (case k10 => k_is); (case a11 => k_is); (case l11 => k_is); (case c11 => k_is); (case k11 => k_is); (case a12 => k_is); (case l12 => k_is); (case c12 => k_is); (case k12 => k_is); (case a13 => k_is); (case l13 => k_is); (case c13 => k_is); (case k13 => k_is); (case a14 => k_is); (case l14 => k_is); (case c14 => k_is); (case k14 => k_is); (case a15 => k_is); (case l15 => k_is); (case c15 => k_is); (case k15 => k_is); (case a16 => k_is); (case l16 => k_is); (case c16 => k_is); (case k16 => k_is); (case a17 => k_is); (case l17 => k_is); (case c17 => k_is); (case k17 => k_is); (case a18 => k_is); (case l18 => k_is); (case c18 => k_is); (case k18 => k_is); (case a19 => k_is); (case l19 => k_is); (case c19 => k_is); (case k19 => k_is); (case a20 => k_is); (case l20 => k_is); (case c20 => k_is); (case k20 => k_is); (case a21 => k_is); (case l21 => k_is); (case c21 => k_is); (case k21 => k_is); (case a22 => k_is); (case l22 => k_is); (case c22 => k_is); (case k22 => k_is); (case a23 => k_is); (case l23 => k_is); (case c23 => k_is); (case k23 => k_is); (case a24 => k_is); (case l24 => k_is); (case c24 => k_is); (case k24 => k_is); (case a25 => k_is); (case l25 => k_is); (case c25 => k_is); (case k25 => k_is); (case a26 => k_is); (case l26 => k_is); (case c26 => k_is); (case k26 => k_is); (case a27 => k_is); (case l27 => k_is); (case c27 => k_is); (case k27 => k_is); (case a28 => k_is); (case l28 => k_is); (case c28 => k_is); (case k28 => k_is); (case z_gcd => k_is); (case z_abs => k_is); (case z_all => k_is); (case z_any => k_is); (case z_bool => k_is); (case z_int => k_is); (case z_isinstance => k_is); (case z_len => k_is); (case z_list => k_is); (case z_max => k_is); (case z_min => k_is); (case z_range => k_is); (case z_set => k_is); (case z_sorted => k_is); (case z_str => k_is); (case z_sum => k_is); (case z_tuple => k_is); (case z_zip => k_is)
