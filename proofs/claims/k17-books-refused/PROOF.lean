import PyProof.Rows.All
import Wide.All
import OpenK.AllK
import Wide.FinOn
import HandS.ForMost
import HandS.Exc
import HandS.TupAny
import KE.DataEq
import KE.DataCmp
import KE.DataAny
import KE.DataFind
import KE.DataIsa
import KE.DataMinMax
import KE.SortData
import HandS.Style
import HandS.IsInst
import HandS.Deep
import HandS.Iter
import KE.GoesEnum
import HandS.CallSlots
import HandS.ExcOwn
import HandS.WordsExc
import HandS.ExcIs
import HandS.Defaults
import HandS.List
import HandS.Head0
import HandS.Head1
import HandS.Head2
import HandS.HeadEnd
import HandS.HeadHook1
import HandS.HeadHook2
import PySem.Challenge.RW_wherewas_k17_books_refused
set_option Elab.async false
set_option linter.all false
set_option autoImplicit false
set_option maxRecDepth 100000
namespace Wv
open PySem

/-- the town: the numbers left of the script, how many draws were made -/
structure Tw where
  ns : List Int
  k : Nat
deriving DecidableEq

/-- what an expression comes to -/
inductive R (α : Type) where
  | ok (a : α) (t : Tw)
  | exc (c : Nat) (t : Tw)
  | bad

@[simp] def R.bind {α β : Type} (x : R α) (f : α → Tw → R β) : R β :=
  match x with
  | .ok a t => f a t
  | .exc c t => .exc c t
  | .bad => .bad

abbrev Env := List (Option (Bool × PyData))

inductive Tg where
  | name (i : Nat)
  | tup (is : List Nat)

inductive Bi where
  | len | any | all | sum | min | max | min2 | sorted | tuple | list | str | int | lzip
deriving DecidableEq

inductive Ty where
  | int | bool | str | tuple | list | exc (c : Nat) | ve
deriving DecidableEq

inductive Mt where
  | lcount | lindex
deriving DecidableEq

mutual
inductive CE where
  | var (i : Nat)
  | cst (d : PyData)
  | glb (x : Str) (d : PyData)
  | tup (es : CL)
  | lst (es : CL)
  | bin (o : Operator) (a b : CE)
  | neg (a : CE)
  | cmp (o : CmpOp) (a b : CE)
  | chn (o p : CmpOp) (a b c : CE)
  | and (a b : CE)
  | or (a b : CE)
  | not (a : CE)
  | ite (c a b : CE)
  | ix (a i : CE)
  | sl (a : CE) (lo hi : CO)
  | call (f : Nat) (es : CL)
  | call0 (f : Nat)
  | callK (f : Nat) (es : CL) (k : CE)
  | callD (f : Nat) (es : CL)
  | bi (b : Bi) (es : CL)
  | isi (a : CE) (t : Ty)
  | mth (m : Mt) (a b : CE)
  | lc1 (e : CE) (own : List Nat) (tg : Tg) (it : CI) (c : CO)
  | lc2 (e : CE) (own own2 : List Nat) (tg : Tg) (it : CI) (c : CO) (tg2 : Tg) (it2 : CI) (c2 : CO)
  | hole
inductive CL where
  | nil
  | cons (e : CE) (r : CL)
inductive CO where
  | none
  | some (e : CE)
inductive CI where
  | val (e : CE)
  | rng1 (a : CE)
  | rng2 (a b : CE)
  | rng3 (a b c : CE)
  | enm (e : CE)
end

mutual
inductive CS where
  | asg (i : Nat) (e : CE)
  | own (i : Nat) (e : CE)
  | asgT (is : List Nat) (e : CE)
  | asgP (is : List Nat) (es : CL)
  | app (i : Nat) (e : CE)
  | setI (i : Nat) (k v : CE)
  | expr (e : CE)
  | ret (e : CE)
  | raise (c : Nat)
  | ite (c : CE) (a b : CB)
  | for_ (tg : Tg) (it : CI) (b : CB)
  | try_ (b : CB) (ie ic : Nat)
  | hole
inductive CB where
  | nil
  | cons (s : CS) (r : CB)
  | shr (i : Nat) (r : CB)
  | hole
end

/-! ### operations on data -/
def lineN : Nat := 16777216

def okIf (b : Bool) (d : PyData) : Option PyData := if b then some d else none

def mulOk (i j : Int) : Bool := (decide (-18446744073709551616 < i) && decide (i < 18446744073709551616)) || (decide (-18446744073709551616 < j) && decide (j < 18446744073709551616))

def binD (o : Operator) (x y : PyData) : Option PyData :=
  match o, x, y with
  | .Add, .int i, .int j => some (.int (i + j))
  | .Add, .list xs, .list ys => okIf (decide (xs.length + ys.length ≤ lineN)) (.list (xs ++ ys))
  | .Add, .tuple xs, .tuple ys => okIf (decide (xs.length + ys.length ≤ lineN)) (.tuple (xs ++ ys))
  | .Add, .str a, .str b => okIf (decide (a.length + b.length ≤ lineN)) (.str (a ++ b))
  | .Sub, .int i, .int j => some (.int (i - j))
  | .Mult, .int i, .int j => okIf (mulOk i j) (.int (i * j))
  | .Mult, .list xs, .int k => okIf (decide (-9223372036854775808 ≤ k) && decide (k < 9223372036854775808) && decide (xs.length * k.toNat ≤ lineN)) (.list (List.replicate k.toNat xs).flatten)
  | .FloorDiv, .int i, .int j => okIf (decide (0 < j) && decide (j < 1073741824)) (.int (i / j))
  | .Mod, .int i, .int j => okIf (decide (0 < j)) (.int (i % j))
  | .Pow, .int i, .int j => okIf (decide (0 ≤ j) && decide (j ≤ 1000) && decide (i.natAbs < 18446744073709551616)) (.int (i ^ j.toNat))
  | _, _, _ => none

/-- both without dicts, one of them not deep -/
def flatB (x y : PyData) : Bool := x.plain && y.plain && decide (min x.depth y.depth ≤ 50)

def ordB (x y : PyData) : Bool := PySem.W.alike x y && (x.plain && y.plain) && (match x with | .none => false | _ => true) && decide (min x.depth y.depth ≤ 50)

def cmpD (o : CmpOp) (x y : PyData) : Option Bool :=
  match o with
  | .Eq => if flatB x y then some (PyData.eqv x y) else none
  | .NotEq => if flatB x y then some (!PyData.eqv x y) else none
  | .Lt => match x, y with
    | .int i, .int j => some (decide (i < j))
    | x, y => if ordB x y then some (PySem.W.dataLt x y) else none
  | .LtE => match x, y with
    | .int i, .int j => some (decide (i ≤ j))
    | x, y => if ordB x y then some (!PySem.W.dataLt y x) else none
  | .Gt => match x, y with
    | .int i, .int j => some (decide (j < i))
    | x, y => if ordB x y then some (PySem.W.dataLt y x) else none
  | .GtE => match x, y with
    | .int i, .int j => some (decide (j ≤ i))
    | x, y => if ordB x y then some (!PySem.W.dataLt x y) else none
  | .Is => match x, y with
    | .bool a, .bool b => some (decide (a = b))
    | x, .none => some (match x with | .none => true | _ => false)
    | _, _ => none
  | .IsNot => match x, y with
    | .bool a, .bool b => some (!decide (a = b))
    | x, .none => some (match x with | .none => false | _ => true)
    | _, _ => none
  | .In => match y with
    | .list ys => if x.plain && PyData.plainAll ys && decide (min (PyData.depthAll ys) x.depth ≤ 50) then some (ys.any fun z => PyData.eqv z x) else none
    | .tuple ys => if x.plain && PyData.plainAll ys && decide (min (PyData.depthAll ys) x.depth ≤ 50) then some (ys.any fun z => PyData.eqv z x) else none
    | _ => none
  | .NotIn => match y with
    | .list ys => if x.plain && PyData.plainAll ys && decide (min (PyData.depthAll ys) x.depth ≤ 50) then some (!ys.any fun z => PyData.eqv z x) else none
    | .tuple ys => if x.plain && PyData.plainAll ys && decide (min (PyData.depthAll ys) x.depth ≤ 50) then some (!ys.any fun z => PyData.eqv z x) else none
    | _ => none

def ixD (x i : PyData) : Option PyData :=
  match x, i with
  | .list xs, .int k => L2.atI xs k
  | .tuple xs, .int k => L2.atI xs k
  | _, _ => none

def cut {α : Type} (xs : List α) (lo hi : Option Int) : List α :=
  (xs.drop (HT.sIx xs.length 0 lo)).take (HT.sIx xs.length xs.length hi - HT.sIx xs.length 0 lo)

def slD (x : PyData) (lo hi : Option Int) : Option PyData :=
  match x with
  | .list xs => some (.list (cut xs lo hi))
  | .tuple xs => some (.tuple (cut xs lo hi))
  | _ => none

def intsOf : List PyData → Option (List Int)
  | [] => some []
  | .int i :: r => (intsOf r).map (i :: ·)
  | _ => none
def boolsOf : List PyData → Option (List Bool)
  | [] => some []
  | .bool b :: r => (boolsOf r).map (b :: ·)
  | _ => none

/-- insertion by an order: the sort that the kernel can run -/
def insD (le : PyData → PyData → Bool) (x : PyData) : List PyData → List PyData
  | [] => [x]
  | y :: r => if le x y then x :: y :: r else y :: insD le x r
def sortD (le : PyData → PyData → Bool) : List PyData → List PyData
  | [] => []
  | x :: r => insD le x (sortD le r)

def allAlike (xs : List PyData) : Bool := match xs with
  | [] => true
  | x :: r => (x :: r).all fun y => (x :: r).all fun z => PySem.W.alike y z
def sortOk (xs : List PyData) : Bool := allAlike xs && xs.all (fun d => d.plain && decide (d.depth ≤ 50)) &&
  (xs.all (fun d => match d with | .tuple (_ :: _) => true | _ => false) || xs.all (fun d => match d with | .none => false | .tuple _ => false | _ => true))
def leD (x y : PyData) : Bool := !PySem.W.dataLt y x

def biD (b : Bi) (vs : List PyData) : Option PyData :=
  match b, vs with
  | .len, [.list xs] => some (.int xs.length)
  | .len, [.tuple xs] => some (.int xs.length)
  | .any, [.list xs] => (boolsOf xs).map fun bs => .bool (bs.any id)
  | .all, [.list xs] => (boolsOf xs).map fun bs => .bool (bs.all id)
  | .sum, [.list xs] => (intsOf xs).map fun ns => .int ns.sum
  | .min2, [.int i, .int j] => some (.int (if j < i then j else i))
  | .tuple, [.list xs] => some (.tuple xs)
  | .sorted, [.list xs] => okIf (sortOk xs) (.list (sortD leD xs))
  | _, _ => none

def tExc (c : Nat) : PyData := .dict [(.none, .int c)]
def tTown : PyData := .dict [(.none, .none)]

/-- isinstance of a caught refusal: 0 is the class above all others -/
def excIs (c : Nat) (d : PyData) : Option Bool := match d with
  | .dict [(.none, .int i)] => if 0 ≤ i ∧ i < 9 then some (decide (c = 0) || decide (i = (c : Int))) else none
  | _ => none
def isiD (t : Ty) (d : PyData) : Option Bool :=
  match t with
  | .exc c => excIs c d
  | .ve => excIs 0 d
  | .int => (match d with
    | .int _ => some true
    | .bool _ => some true
    | .dict _ => none
    | _ => some false)
  | .bool => (match d with
    | .bool _ => some true
    | .dict _ => none
    | _ => some false)
  | .str => (match d with
    | .str _ => some true
    | .dict _ => none
    | _ => some false)
  | .tuple => (match d with
    | .tuple _ => some true
    | .dict _ => none
    | _ => some false)
  | .list => (match d with
    | .list _ => some true
    | .dict _ => none
    | _ => some false)

def findD (x : PyData) : List PyData → Option Nat
  | [] => none
  | y :: r => if PyData.eqv y x then some 0 else (findD x r).map (· + 1)

def mthD (m : Mt) (xs : List PyData) (y : PyData) : Option PyData :=
  match m with
  | .lcount => okIf (y.plain && PyData.plainAll xs && decide (min (PyData.depthAll xs) y.depth ≤ 50)) (.int ((xs.countP fun z => PyData.eqv z y : Nat) : Int))
  | .lindex => if SeqAt.shaped (.list xs) && SeqAt.shaped y then (findD y xs).map fun i => .int (i : Nat) else none

def R.of {α : Type} (o : Option α) (t : Tw) : R α := match o with
  | some a => .ok a t
  | none => .bad

/-! ### places -/
def bindTg : Tg → PyData → Env → Option Env
  | .name i, d, env => some (env.set i (some (false, d)))
  | .tup is, .tuple ds, env => if is.length = ds.length then some ((is.zip ds).foldl (fun e p => e.set p.1 (some (false, p.2))) env) else none
  | _, _, _ => none

def wipeE (env : Env) : List Nat → Env
  | [] => env
  | v :: vs => (wipeE env vs).set v none

def borrow (env : Env) : Env := env.map fun o => o.map fun p => (false, p.2)

/-- the items of range(a, b, s) -/
def rngs (a : Int) (s : Int) : Nat → List PyData
  | 0 => []
  | n + 1 => .int a :: rngs (a + s) s n

def small (i : Int) : Bool := decide (-1000000 ≤ i) && decide (i ≤ 1000000)

def lcLoop (f : PyData → Tw → R (List PyData)) : List PyData → Tw → R (List PyData)
  | [], t => .ok [] t
  | x :: xs, t => match f x t with
    | .ok ys t' => (match lcLoop f xs t' with
      | .ok zs t'' => .ok (ys ++ zs) t''
      | _ => .bad)
    | _ => .bad

mutual
def evalE (F : Nat → List PyData → Tw → R PyData) (m : Bool) : CE → Env → Tw → R PyData
  | .var i, env, t => match env[i]? with
    | some (some (o, d)) => if m || !o then .ok d t else .bad
    | _ => .bad
  | .cst d, _, t => .ok d t
  | .glb _ d, _, t => .ok d t
  | .tup es, env, t => (evalL F es env t).bind fun ds t => R.of (okIf (decide (ds.length ≤ lineN)) (.tuple ds)) t
  | .lst es, env, t => (evalL F es env t).bind fun ds t => R.of (okIf (decide (ds.length ≤ lineN)) (.list ds)) t
  | .bin o a b, env, t => (evalE F true a env t).bind fun x t => (evalE F true b env t).bind fun y t => R.of (binD o x y) t
  | .neg a, env, t => (evalE F true a env t).bind fun x t => match x with
    | .int i => .ok (.int (-i)) t
    | _ => .bad
  | .cmp o a b, env, t => (evalE F true a env t).bind fun x t => (evalE F true b env t).bind fun y t => R.of ((cmpD o x y).map .bool) t
  | .chn o p a b c, env, t => (evalE F true a env t).bind fun x t => (evalE F true b env t).bind fun y t => match cmpD o x y with
    | some true => (evalE F true c env t).bind fun z t => R.of ((cmpD p y z).map .bool) t
    | some false => .ok (.bool false) t
    | none => .bad
  | .and a b, env, t => (evalE F true a env t).bind fun x t => match x with
    | .bool true => evalE F m b env t
    | .bool false => .ok (.bool false) t
    | _ => .bad
  | .or a b, env, t => (evalE F true a env t).bind fun x t => match x with
    | .bool true => .ok (.bool true) t
    | .bool false => evalE F m b env t
    | _ => .bad
  | .not a, env, t => (evalE F true a env t).bind fun x t => match x with
    | .bool b => .ok (.bool (!b)) t
    | _ => .bad
  | .ite c a b, env, t => (evalE F true c env t).bind fun x t => match x with
    | .bool true => evalE F m a env t
    | .bool false => evalE F m b env t
    | _ => .bad
  | .ix a i, env, t => (evalE F true a env t).bind fun x t => (evalE F true i env t).bind fun y t => R.of (ixD x y) t
  | .sl a lo hi, env, t => (evalE F true a env t).bind fun x t => (evalO F lo env t).bind fun l t => (evalO F hi env t).bind fun h t => R.of (slD x l h) t
  | .call f es, env, t => (evalL F es env t).bind fun ds t => F f ds t
  | .call0 f, _, t => match F f [] t with
    | .ok d t => .ok d t
    | _ => .bad
  | .callK f es k, env, t => (evalL F es env t).bind fun ds t => (evalE F false k env t).bind fun d t => F f (ds ++ [d]) t
  | .callD f es, env, t => (evalL F es env t).bind fun ds t => F f (ds ++ [.tuple []]) t
  | .bi b es, env, t => (evalP F es env t).bind fun ds t => R.of (biD b ds) t
  | .isi a ty, env, t => (evalE F true a env t).bind fun x t => R.of ((isiD ty x).map .bool) t
  | .mth mt a b, env, t => (evalE F true a env t).bind fun x t => match x with
    | .list xs => (evalE F true b env t).bind fun d t => R.of (mthD mt xs d) t
    | _ => .bad
  | .lc1 e own tg it c, env, t => (evalI F it env t).bind fun xs t => (lcLoop (fun x t => match bindTg tg x (wipeE env own) with
      | some env' => (evalC F c env' t).bind fun b t => if b then (evalE F false e env' t).bind fun y t => .ok [y] t else .ok [] t
      | none => .bad) xs t).bind fun ys t => .ok (.list ys) t
  | .lc2 e own own2 tg it c tg2 it2 c2, env, t => (evalI F it env t).bind fun xs t => (lcLoop (fun x t => match bindTg tg x (wipeE env own) with
      | some env' => (evalC F c env' t).bind fun b t => if b then (evalI F it2 env' t).bind fun zs t => lcLoop (fun z t => match bindTg tg2 z (wipeE env' own2) with
          | some env2 => (evalC F c2 env2 t).bind fun b t => if b then (evalE F false e env2 t).bind fun y t => .ok [y] t else .ok [] t
          | none => .bad) zs t else .ok [] t
      | none => .bad) xs t).bind fun ys t => R.of (okIf (decide (ys.length ≤ lineN)) (.list ys)) t
  | .hole, _, _ => .bad
def evalL (F : Nat → List PyData → Tw → R PyData) : CL → Env → Tw → R (List PyData)
  | .nil, _, t => .ok [] t
  | .cons e r, env, t => (evalE F false e env t).bind fun d t => (evalL F r env t).bind fun ds t => .ok (d :: ds) t
def evalP (F : Nat → List PyData → Tw → R PyData) : CL → Env → Tw → R (List PyData)
  | .nil, _, t => .ok [] t
  | .cons e r, env, t => (evalE F true e env t).bind fun d t => (evalP F r env t).bind fun ds t => .ok (d :: ds) t
def evalO (F : Nat → List PyData → Tw → R PyData) : CO → Env → Tw → R (Option Int)
  | .none, _, t => .ok none t
  | .some e, env, t => (evalE F true e env t).bind fun d t => match d with
    | .int i => .ok (some i) t
    | _ => .bad
def evalC (F : Nat → List PyData → Tw → R PyData) : CO → Env → Tw → R Bool
  | .none, _, t => .ok true t
  | .some e, env, t => (evalE F true e env t).bind fun d t => match d with
    | .bool b => .ok b t
    | _ => .bad
def evalI (F : Nat → List PyData → Tw → R PyData) : CI → Env → Tw → R (List PyData)
  | .val e, env, t => (evalE F false e env t).bind fun d t => match d with
    | .list xs => .ok xs t
    | .tuple xs => .ok xs t
    | _ => .bad
  | .rng1 a, env, t => (evalE F true a env t).bind fun x t => match x with
    | .int n => if small n then .ok (rngs 0 1 n.toNat) t else .bad
    | _ => .bad
  | .rng2 a b, env, t => (evalE F true a env t).bind fun x t => (evalE F true b env t).bind fun y t => match x, y with
    | .int i, .int j => if small i && small j then .ok (rngs i 1 (j - i).toNat) t else .bad
    | _, _ => .bad
  | .rng3 a b c, env, t => (evalE F true a env t).bind fun x t => (evalE F true b env t).bind fun y t => (evalE F true c env t).bind fun z t => match x, y, z with
    | .int i, .int j, .int s => if small i && small j && decide (s = -1) then .ok (rngs i (-1) (i - j).toNat) t else .bad
    | _, _, _ => .bad
  | .enm e, env, t => (evalE F false e env t).bind fun d t => match d with
    | .list xs => .ok (xs.zipIdx.map fun p => .tuple [.int p.2, p.1]) t
    | .tuple xs => .ok (xs.zipIdx.map fun p => .tuple [.int p.2, p.1]) t
    | _ => .bad
end

/-! ### statements -/
inductive SR where
  | next (env : Env) (t : Tw)
  | ret (d : PyData) (t : Tw)
  | exc (c : Nat) (env : Env) (t : Tw)
  | bad

@[simp] def SR.of {α : Type} (x : R α) (env : Env) (f : α → Tw → SR) : SR := match x with
  | .ok a t => f a t
  | .exc c t => .exc c env t
  | .bad => .bad

def forLoop (f : PyData → Env → Tw → SR) : List PyData → Env → Tw → SR
  | [], env, t => .next env t
  | x :: xs, env, t => match f x env t with
    | .next env' t' => forLoop f xs env' t'
    | r => r

def setD (xs : List PyData) (i v : PyData) : Option (List PyData) := match i with
  | .int k => (L2.ixN xs.length k).map fun j => xs.set j v
  | _ => none

mutual
def execS (F : Nat → List PyData → Tw → R PyData) : CS → Env → Tw → SR
  | .asg i e, env, t => SR.of (evalE F false e env t) env fun d t => .next (env.set i (some (false, d))) t
  | .own i e, env, t => SR.of (evalE F false e env t) env fun d t => .next (env.set i (some (true, d))) t
  | .asgT is e, env, t => SR.of (evalE F false e env t) env fun d t => match bindTg (.tup is) d env with
    | some env' => .next env' t
    | none => .bad
  | .asgP is es, env, t => SR.of (evalL F es env t) env fun ds t => if is.length = ds.length then .next ((is.zip ds).foldl (fun e p => e.set p.1 (some (false, p.2))) env) t else .bad
  | .app i e, env, t => match env[i]? with
    | some (some (true, .list xs)) => SR.of (evalE F false e env t) env fun d t => if xs.length < lineN then .next (env.set i (some (true, .list (xs ++ [d])))) t else .bad
    | _ => .bad
  | .setI i k v, env, t => SR.of (evalE F false v env t) env fun d t => match env[i]? with
    | some (some (true, .list xs)) => SR.of (evalE F true k env t) env fun j t => (match setD xs j d with
      | some x' => .next (env.set i (some (true, .list x'))) t
      | none => .bad)
    | _ => .bad
  | .expr e, env, t => SR.of (evalE F true e env t) env fun _ t => .next env t
  | .ret e, env, t => SR.of (evalE F false e env t) env fun d t => .ret d t
  | .raise c, env, t => .exc c env t
  | .ite c a b, env, t => SR.of (evalE F true c (borrow env) t) env fun x t => match x with
    | .bool true => execB F a env t
    | .bool false => execB F b env t
    | _ => .bad
  | .for_ tg it b, env, t => SR.of (evalI F it env t) env fun xs t => forLoop (fun x env t => match bindTg tg x env with
    | some env' => execB F b env' t
    | none => .bad) xs env t
  | .try_ b ie ic, env, t => match execB F b env t with
    | .exc d env' t' => if d < 9 then .next ((env'.set ic (some (false, tExc d))).set ie none) t' else .bad
    | r => r
  | .hole, _, _ => .bad
def execB (F : Nat → List PyData → Tw → R PyData) : CB → Env → Tw → SR
  | .nil, env, t => .next env t
  | .cons s r, env, t => match execS F s env t with
    | .next env' t' => execB F r env' t'
    | x => x
  | .shr i r, env, t => match env[i]? with
    | some (some (_, d)) => execB F r (env.set i (some (false, d))) t
    | _ => .bad
  | .hole, _, _ => .bad
end

/-! ### defs -/
/-- the next draw -/
def drawT (t : Tw) (c : Int) : Option (Int × Tw) :=
  if 0 < c ∧ c < 1000000 then
    match t.ns[(t.k + 1) % t.ns.length]? with
    | some cell =>
      if 1000000000000000000 ≤ cell then some (cell % c, ⟨t.ns.set ((t.k + 1) % t.ns.length) (cell / c), t.k + 1⟩)
      else
        let m1 := (cell + 104729 * ((t.k : Int) + 1)) % 4294967291
        let m2 := m1 ^ 5 % 4294967279
        some ((m2 / 64 * 69621 + m2) % 4294967231 / 8 % c, ⟨t.ns, t.k + 1⟩)
    | none => none
  else none

inductive Df where
  | code (np ns : Nat) (body : CB)
  | draw

def runDf (F : Nat → List PyData → Tw → R PyData) (d : Df) (vs : List PyData) (t : Tw) : R PyData := match d with
  | .code np ns body => if vs.length = np then (match execB F body (vs.map (fun v => some (false, v)) ++ List.replicate (ns - np) none) t with
    | .next _ t' => .ok .none t'
    | .ret d t' => .ok d t'
    | .exc c _ t' => .exc c t'
    | .bad => .bad) else .bad
  | .draw => match vs with
    | [.dict [(.none, .none)], .int c] => (match drawT t c with
      | some (r, t') => .ok (.int r) t'
      | none => .bad)
    | _ => .bad

end Wv

set_option maxHeartbeats 1000000
namespace Wv
open PySem L2

/-- fixed places: the town's list, its numbers; the classes of refusals -/
structure Cz where
  aT : Addr
  aN : Addr
  cls : Nat → Addr

def hide (O : List Addr) (H : Hp) : Hp := fun a => if a ∈ O then none else H a

theorem hide_some {O : List Addr} {H : Hp} {a : Addr} {u : HO} (h : hide O H a = some u) : a ∉ O ∧ H a = some u := by
  unfold hide at h
  split at h
  · cases h
  · exact ⟨by assumption, h⟩
theorem hide_of {O : List Addr} {H : Hp} {a : Addr} {u : HO} (h1 : a ∉ O) (h : H a = some u) : hide O H a = some u := by
  unfold hide
  rw [if_neg h1]
  exact h

/-- what is kept of a caught refusal's object -/
def excAt (a C : Addr) : HO := .ext fun h => ∃ o vs, h.get? a = some o ∧ o.cls = .ref C ∧ o.dict = none ∧ o.data = .fields vs

mutual
inductive Rp (K : PySem.W.Frag) (z : Cz) (H : Hp) : V → PyData → Prop
  | non : Rp K z H .non .none
  | bl (b : Bool) : Rp K z H (.bl b) (.bool b)
  | int (i : Int) : Rp K z H (.int i) (.int i)
  | str (x : Str) : Rp K z H (.str x) (.str x)
  | lst {a : Addr} {xs : List V} {ds : List PyData} : H a = some (.lst xs) → xs.length ≤ lineN → RpAll K z H xs ds → Rp K z H (.ref a) (.list ds)
  | tup {a : Addr} {xs : List V} {ds : List PyData} : SqT K H a xs → xs.length ≤ lineN → RpAll K z H xs ds → Rp K z H (.ref a) (.tuple ds)
  | town : Rp K z H (.ref z.aT) tTown
  | exc {a : Addr} (c : Nat) : H a = some (excAt a (z.cls c)) → Rp K z H (.ref a) (tExc c)
inductive RpAll (K : PySem.W.Frag) (z : Cz) (H : Hp) : List V → List PyData → Prop
  | nil : RpAll K z H [] []
  | cons {v : V} {vs : List V} {d : PyData} {ds : List PyData} : Rp K z H v d → RpAll K z H vs ds → RpAll K z H (v :: vs) (d :: ds)
end

section
variable {K : PySem.W.Frag} {z : Cz} {H H' : Hp}
theorem SqT.mono {a : Addr} {xs : List V} (m : ∀ a u, H a = some u → H' a = some u) (h : SqT K H a xs) : SqT K H' a xs := by
  rcases h with h | h
  · rcases h with h | ⟨o, h⟩
    · exact .inl (.inl (m _ _ h))
    · exact .inl (.inr ⟨o, m _ _ h⟩)
  · exact .inr h
mutual
theorem Rp.mono (m : ∀ a u, H a = some u → H' a = some u) : ∀ {v : V} {d : PyData}, Rp K z H v d → Rp K z H' v d
  | _, _, .non => .non
  | _, _, .bl b => .bl b
  | _, _, .int i => .int i
  | _, _, .str x => .str x
  | _, _, .lst h l r => .lst (m _ _ h) l (RpAll.mono m r)
  | _, _, .tup h l r => .tup (SqT.mono m h) l (RpAll.mono m r)
  | _, _, .town => .town
  | _, _, .exc c h => .exc c (m _ _ h)
theorem RpAll.mono (m : ∀ a u, H a = some u → H' a = some u) : ∀ {vs : List V} {ds : List PyData}, RpAll K z H vs ds → RpAll K z H' vs ds
  | _, _, .nil => .nil
  | _, _, .cons h t => .cons (Rp.mono m h) (RpAll.mono m t)
end
mutual
theorem Rp.dp : ∀ {v : V} {d : PyData}, Rp K z H v d → d.plain = true → Dp K H v d
  | _, _, .non, _ => .non
  | _, _, .bl b, _ => .bl b
  | _, _, .int i, _ => .int i
  | _, _, .str x, _ => .str x
  | _, _, .lst h l r, p => .lst (SqL.of h) (RpAll.dp r (by simpa [PyData.plain] using p))
  | _, _, .tup h l r, p => .tup h (RpAll.dp r (by simpa [PyData.plain] using p))
  | _, _, .town, p => by simp [tTown, PyData.plain] at p
  | _, _, .exc c h, p => by simp [tExc, PyData.plain] at p
theorem RpAll.dp : ∀ {vs : List V} {ds : List PyData}, RpAll K z H vs ds → PyData.plainAll ds = true → DpAll K H vs ds
  | _, _, .nil, _ => .nil
  | _, _, .cons h t, p => by
    simp only [PyData.plainAll, Bool.and_eq_true] at p
    exact .cons (Rp.dp h p.1) (RpAll.dp t p.2)
end
theorem RpAll.length : ∀ {vs : List V} {ds : List PyData}, RpAll K z H vs ds → vs.length = ds.length
  | _, _, .nil => rfl
  | _, _, .cons _ t => congrArg Nat.succ (RpAll.length t)
theorem RpAll.append : ∀ {vs ws : List V} {ds es : List PyData}, RpAll K z H vs ds → RpAll K z H ws es → RpAll K z H (vs ++ ws) (ds ++ es)
  | _, _, _, _, .nil, h => h
  | _, _, _, _, .cons a t, h => .cons a (RpAll.append t h)
theorem RpAll.get : ∀ {vs : List V} {ds : List PyData} {i : Nat} {d : PyData}, RpAll K z H vs ds → ds[i]? = some d → ∃ v, vs[i]? = some v ∧ Rp K z H v d
  | _, _, _, _, .nil, h => by simp at h
  | _, _, 0, _, .cons a t, h => by simp at h; subst h; exact ⟨_, rfl, a⟩
  | _, _, i + 1, d, .cons a t, h => by
    obtain ⟨v, e, r⟩ := RpAll.get (i := i) (d := d) t (by simpa using h)
    exact ⟨v, by simpa using e, r⟩
theorem RpAll.getV : ∀ {vs : List V} {ds : List PyData} {i : Nat} {v : V}, RpAll K z H vs ds → vs[i]? = some v → ∃ d, ds[i]? = some d ∧ Rp K z H v d
  | _, _, _, _, .nil, h => by simp at h
  | _, _, 0, _, .cons a t, h => by simp at h; subst h; exact ⟨_, rfl, a⟩
  | _, _, i + 1, d, .cons a t, h => by
    obtain ⟨v, e, r⟩ := RpAll.getV (i := i) (v := d) t (by simpa using h)
    exact ⟨v, by simpa using e, r⟩
theorem RpAll.drop : ∀ {vs : List V} {ds : List PyData} (n : Nat), RpAll K z H vs ds → RpAll K z H (vs.drop n) (ds.drop n)
  | _, _, 0, h => h
  | _, _, _ + 1, .nil => .nil
  | _, _, n + 1, .cons _ t => RpAll.drop n t
theorem RpAll.take : ∀ {vs : List V} {ds : List PyData} (n : Nat), RpAll K z H vs ds → RpAll K z H (vs.take n) (ds.take n)
  | _, _, 0, _ => .nil
  | _, _, _ + 1, .nil => .nil
  | _, _, n + 1, .cons a t => .cons a (RpAll.take n t)
theorem RpAll.set {v : V} {d : PyData} (r : Rp K z H v d) : ∀ {vs : List V} {ds : List PyData} (n : Nat), RpAll K z H vs ds → RpAll K z H (vs.set n v) (ds.set n d)
  | _, _, _, .nil => .nil
  | _, _, 0, .cons _ t => .cons r t
  | _, _, n + 1, .cons a t => .cons a (RpAll.set r n t)
theorem RpAll.repl {vs : List V} {ds : List PyData} (r : RpAll K z H vs ds) : ∀ n : Nat, RpAll K z H (List.replicate n vs).flatten (List.replicate n ds).flatten
  | 0 => .nil
  | n + 1 => by
    rw [List.replicate_succ, List.replicate_succ, List.flatten_cons, List.flatten_cons]
    exact r.append (RpAll.repl r n)
end

/-! ### the state of a body -/
def TwOk (z : Cz) (H : Hp) (t : Tw) : Prop := H z.aT = some (.lst [.ref z.aN, .int t.k]) ∧ H z.aN = some (.lst (t.ns.map V.int)) ∧ t.ns ≠ [] ∧ t.ns.length ≤ 1000

/-- nothing that stood is changed but the town -/
def Grow (z : Cz) (H H' : Hp) : Prop := ∀ a u, H a = some u → a ≠ z.aT → a ≠ z.aN → H' a = some u
theorem Grow.refl {z : Cz} {H : Hp} : Grow z H H := fun _ _ h _ _ => h
theorem Grow.trans {z : Cz} {H H1 H2 : Hp} (a : Grow z H H1) (b : Grow z H1 H2) : Grow z H H2 := fun p u h n1 n2 => b p u (a p u h n1 n2) n1 n2

/-- what a body's proof holds fast: the written part, the places, the heap at the entry and what others own there, what is wished of a refusal -/
structure Cy where
  K : PySem.W.Frag
  z : Cz
  H0 : Hp
  O0 : List Addr
  W : WX

/-- an owned thing: a list that one slot alone names -/
structure OwnAt (y : Cy) (H : Hp) (O : List Addr) (a : Addr) (d : PyData) : Prop where
  mem : a ∈ O
  nT : a ≠ y.z.aT
  nN : a ≠ y.z.aN
  new : y.H0 a = none
  is : ∃ xs ds, H a = some (.lst xs) ∧ xs.length ≤ lineN ∧ d = .list ds ∧ RpAll y.K y.z (hide O H) xs ds

structure Rel (y : Cy) (env : Env) (t : Tw) (σ : St) (H : Hp) (O : List Addr) : Prop where
  len : σ.length = env.length
  sh : ∀ (i : Nat) d, env[i]? = some (some (false, d)) → ∃ v, σ[i]? = some (some v) ∧ Rp y.K y.z (hide O H) v d
  ow : ∀ (i : Nat) d, env[i]? = some (some (true, d)) → ∃ a, σ[i]? = some (some (.ref a)) ∧ OwnAt y H O a d
  inj : ∀ (i j : Nat) d e a, env[i]? = some (some (true, d)) → env[j]? = some (some (true, e)) → σ[i]? = some (some (.ref a)) → σ[j]? = some (some (.ref a)) → i = j
  grow : Grow y.z y.H0 H
  sub : ∀ a, a ∈ y.O0 → a ∈ O
  dom : ∀ a, a ∈ O → H a ≠ none
  tT : y.z.aT ∈ y.O0
  dom0 : ∀ a, a ∈ y.O0 → y.H0 a ≠ none
  tN : y.z.aN ∈ y.O0
  ne : y.z.aT ≠ y.z.aN
  tw : TwOk y.z H t

section
variable {y : Cy} {env : Env} {t t' : Tw} {σ : St} {H H' : Hp} {O : List Addr}
theorem Rel.mono (r : Rel y env t σ H O) (g : Grow y.z H H') : ∀ a u, hide O H a = some u → hide O H' a = some u := fun a u h => by
  obtain ⟨h1, h2⟩ := hide_some h
  refine hide_of h1 (g a u h2 ?_ ?_)
  · rintro rfl
    exact h1 (r.sub _ r.tT)
  · rintro rfl
    exact h1 (r.sub _ r.tN)
theorem Rel.after (r : Rel y env t σ H O) (g : Grow y.z H H') (w : TwOk y.z H' t') : Rel y env t' σ H' O where
  len := r.len
  sh := fun i d e => by
    obtain ⟨v, e1, p⟩ := r.sh i d e
    exact ⟨v, e1, p.mono (r.mono g)⟩
  ow := fun i d e => by
    obtain ⟨a, e1, p⟩ := r.ow i d e
    obtain ⟨xs, ds, h1, h2, h3, h4⟩ := p.is
    exact ⟨a, e1, p.mem, p.nT, p.nN, p.new, xs, ds, g _ _ h1 p.nT p.nN, h2, h3, h4.mono (r.mono g)⟩
  inj := r.inj
  grow := r.grow.trans g
  sub := r.sub
  dom := fun a h => by
    by_cases e1 : a = y.z.aT
    · rw [e1, w.1]; simp
    by_cases e2 : a = y.z.aN
    · rw [e2, w.2.1]; simp
    cases q : H a with
    | none => exact absurd q (r.dom a h)
    | some u => rw [g a u q e1 e2]; simp
  tT := r.tT
  dom0 := r.dom0
  tN := r.tN
  ne := r.ne
  tw := w

/-- a value's reading: shared, or (m) owned as well -/
def Rv (y : Cy) (m : Bool) (O : List Addr) (H : Hp) (v : V) (d : PyData) : Prop :=
  Rp y.K y.z (hide O H) v d ∨ (m = true ∧ ∃ a, v = .ref a ∧ OwnAt y H O a d)
theorem Rv.of {m : Bool} {v : V} {d : PyData} (h : Rp y.K y.z (hide O H) v d) : Rv y m O H v d := .inl h
theorem Rv.share {v : V} {d : PyData} (h : Rv y false O H v d) : Rp y.K y.z (hide O H) v d := by
  rcases h with h | ⟨h, _⟩
  · exact h
  · cases h
theorem hide_sub {O : List Addr} {H : Hp} : ∀ a u, hide O H a = some u → H a = some u := fun a u h => (hide_some h).2
theorem Rv.full {m : Bool} {v : V} {d : PyData} (h : Rv y m O H v d) : Rp y.K y.z H v d := by
  rcases h with h | ⟨_, a, rfl, p⟩
  · exact h.mono hide_sub
  · obtain ⟨xs, ds, h1, h2, rfl, h4⟩ := p.is
    exact .lst h1 h2 (h4.mono hide_sub)
theorem Rv.peek {m : Bool} {v : V} {d : PyData} (h : Rv y m O H v d) : Rv y true O H v d := by
  rcases h with h | ⟨_, p⟩
  · exact .inl h
  · exact .inr ⟨rfl, p⟩
theorem Rv.after {m : Bool} {v : V} {d : PyData} (r : Rel y env t σ H O) (g : Grow y.z H H') (h : Rv y m O H v d) : Rv y m O H' v d := by
  rcases h with h | ⟨e, a, e1, p⟩
  · exact .inl (h.mono (r.mono g))
  · obtain ⟨xs, ds, h1, h2, h3, h4⟩ := p.is
    exact .inr ⟨e, a, e1, p.mem, p.nT, p.nN, p.new, xs, ds, g _ _ h1 p.nT p.nN, h2, h3, h4.mono (r.mono g)⟩
/-- a list's items -/
theorem Rv.items {m : Bool} {v : V} {ds : List PyData} (h : Rv y m O H v (.list ds)) : ∃ a xs, v = .ref a ∧ H a = some (.lst xs) ∧ xs.length ≤ lineN ∧ RpAll y.K y.z (hide O H) xs ds := by
  rcases h with h | ⟨_, a, rfl, p⟩
  · cases h with
    | lst h1 h2 h3 => exact ⟨_, _, rfl, hide_sub _ _ h1, h2, h3⟩
  · obtain ⟨xs, ds', h1, h2, h3, h4⟩ := p.is
    cases h3
    exact ⟨a, xs, rfl, h1, h2, h4⟩
theorem Rv.tuple {m : Bool} {v : V} {ds : List PyData} (h : Rv y m O H v (.tuple ds)) : ∃ a xs, v = .ref a ∧ SqT y.K H a xs ∧ xs.length ≤ lineN ∧ RpAll y.K y.z (hide O H) xs ds ∧ Rp y.K y.z (hide O H) v (.tuple ds) := by
  rcases h with h | ⟨_, a, rfl, p⟩
  · cases h with
    | tup h1 h2 h3 => exact ⟨_, _, rfl, SqT.mono hide_sub h1, h2, h3, .tup h1 h2 h3⟩
  · obtain ⟨xs, ds', h1, h2, h3, h4⟩ := p.is
    cases h3
/-- scalars -/
theorem Rv.int {m : Bool} {v : V} {i : Int} (h : Rv y m O H v (.int i)) : v = .int i := by
  rcases h with h | ⟨_, a, rfl, p⟩
  · cases h; rfl
  · obtain ⟨xs, ds', h1, h2, h3, h4⟩ := p.is
    cases h3
theorem Rv.bool {m : Bool} {v : V} {b : Bool} (h : Rv y m O H v (.bool b)) : v = .bl b := by
  rcases h with h | ⟨_, a, rfl, p⟩
  · cases h; rfl
  · obtain ⟨xs, ds', h1, h2, h3, h4⟩ := p.is
    cases h3
theorem Rv.str {m : Bool} {v : V} {x : Str} (h : Rv y m O H v (.str x)) : v = .str x := by
  rcases h with h | ⟨_, a, rfl, p⟩
  · cases h; rfl
  · obtain ⟨xs, ds', h1, h2, h3, h4⟩ := p.is
    cases h3
theorem Rv.none {m : Bool} {v : V} (h : Rv y m O H v .none) : v = .non := by
  rcases h with h | ⟨_, a, rfl, p⟩
  · cases h; rfl
  · obtain ⟨xs, ds', h1, h2, h3, h4⟩ := p.is
    cases h3

/-- a new object -/
theorem Rel.new {p : Addr} {o : HO} (r : Rel y env t σ H O) (hp : H p = none) : Grow y.z H (upd H p o) ∧ TwOk y.z (upd H p o) t ∧ p ∉ O := by
  have nT : y.z.aT ≠ p := fun e => by rw [← e, r.tw.1] at hp; cases hp
  have nN : y.z.aN ≠ p := fun e => by rw [← e, r.tw.2.1] at hp; cases hp
  refine ⟨fun a u h _ _ => ?_, ⟨?_, ?_, r.tw.2.2⟩, fun h => r.dom p h hp⟩
  · rw [upd_ne (ne_of_none h hp)]; exact h
  · rw [upd_ne nT]; exact r.tw.1
  · rw [upd_ne nN]; exact r.tw.2.1
theorem Rel.newList {p : Addr} {xs : List V} {ds : List PyData} (r : Rel y env t σ H O) (hp : H p = none) (l : xs.length ≤ lineN) (h : RpAll y.K y.z (hide O H) xs ds) :
    Rp y.K y.z (hide O (upd H p (.lst xs))) (.ref p) (.list ds) := by
  obtain ⟨g, w, n⟩ := r.new (o := .lst xs) hp
  exact .lst (hide_of n upd_same) l (h.mono (r.mono g))
theorem Rel.newTup {p : Addr} {xs : List V} {ds : List PyData} (r : Rel y env t σ H O) (hp : H p = none) (l : xs.length ≤ lineN) (h : RpAll y.K y.z (hide O H) xs ds) :
    Rp y.K y.z (hide O (upd H p (.tup xs))) (.ref p) (.tuple ds) := by
  obtain ⟨g, w, n⟩ := r.new (o := .tup xs) hp
  exact .tup (SqT.of (hide_of n upd_same)) l (h.mono (r.mono g))
end

/-! ### readings -/
/-- an expression's reading by a run of the evaluator -/
def tE (y : Cy) (m : Bool) (run : Env → Tw → R PyData) : TE := fun σ H Q => ∃ env t O, Rel y env t σ H O ∧ match run env t with
  | .ok d t' => ∀ v H', Grow y.z H H' → TwOk y.z H' t' → Rv y m O H' v d → Q v H'
  | .exc c t' => ∀ H', Grow y.z H H' → TwOk y.z H' t' → y.W (.ref (y.z.cls c)) none σ H'
  | .bad => False
/-- several values -/
def tL (y : Cy) (m : Bool) (run : Env → Tw → R (List PyData)) : TA := fun σ H Q => ∃ env t O, Rel y env t σ H O ∧ match run env t with
  | .ok ds t' => ∀ vs H', Grow y.z H H' → TwOk y.z H' t' → Paired (Rv y m O H') vs ds → Q vs H'
  | .exc c t' => ∀ H', Grow y.z H H' → TwOk y.z H' t' → y.W (.ref (y.z.cls c)) none σ H'
  | .bad => False

theorem PE.imp {X : Cx} {e : Expr} {t t' : TE} (h : PE X e t) (i : ∀ σ H Q, t' σ H Q → t σ H Q) : PE X e t' := ⟨fun pins s σ H Q I q => h.run pins s σ H Q I (i σ H Q q)⟩
theorem PA.imp {X : Cx} {e : List Expr} {t t' : TA} (h : PA X e t) (i : ∀ σ H Q, t' σ H Q → t σ H Q) : PA X e t' := ⟨fun pos pins s σ H Q I q => h.run pos pins s σ H Q I (i σ H Q q)⟩
theorem PT.imp {X : Cx} {e : Expr} {t t' : TT} (h : PT X e t) (i : ∀ σ H Q, t' σ H Q → t σ H Q) : PT X e t' := ⟨fun pins s σ H Q I q => h.run pins s σ H Q I (i σ H Q q)⟩

/-- one expression, then what follows -/
theorem tE.then {y : Cy} {m : Bool} {ra : Env → Tw → R PyData} {σ : St} {H : Hp} {O : List Addr} {env : Env} {t : Tw} {k : PyData → Tw → R PyData} {m' : Bool} {Q : VK} {C : V → Hp → Prop}
    (r : Rel y env t σ H O)
    (h : match (ra env t).bind k with
      | .ok d t' => ∀ v H', Grow y.z H H' → TwOk y.z H' t' → Rv y m' O H' v d → Q v H'
      | .exc c t' => ∀ H', Grow y.z H H' → TwOk y.z H' t' → y.W (.ref (y.z.cls c)) none σ H'
      | .bad => False)
    (f : ∀ d t1 v H1, ra env t = .ok d t1 → Grow y.z H H1 → Rel y env t1 σ H1 O → Rv y m O H1 v d →
      (match k d t1 with
      | .ok d t' => ∀ v H', Grow y.z H1 H' → TwOk y.z H' t' → Rv y m' O H' v d → Q v H'
      | .exc c t' => ∀ H', Grow y.z H1 H' → TwOk y.z H' t' → y.W (.ref (y.z.cls c)) none σ H'
      | .bad => False) → C v H1) : tE y m ra σ H C := by
  refine ⟨env, t, O, r, ?_⟩
  cases e : ra env t with
  | bad => rw [e] at h; exact h
  | exc c t1 => rw [e] at h; exact h
  | ok d t1 =>
    rw [e] at h
    intro v H1 g w rv
    refine f d t1 v H1 e g (r.after g w) rv ?_
    simp only [R.bind] at h
    cases q : k d t1 with
    | bad => rw [q] at h; exact h
    | exc c t2 =>
      rw [q] at h
      exact fun H' g' w' => h H' (g.trans g') w'
    | ok d2 t2 =>
      rw [q] at h
      exact fun v' H' g' w' rv' => h v' H' (g.trans g') w' rv'
end Wv

set_option maxHeartbeats 1000000
namespace Wv
open PySem L2

theorem line_eq : (sizeLine : Nat) = lineN := sizeLine_eq

/-! ### operators by values -/
section
variable {X : Cx} {y : Cy} {env : Env} {t : Tw} {σ : St} {H : Hp} {O : List Addr} {m : Bool} {Q : VK}

/-- what the continuation of an operation is given -/
def Kn (y : Cy) (m : Bool) (O : List Addr) (t : Tw) (H : Hp) (d : PyData) (Q : VK) : Prop := ∀ v H', Grow y.z H H' → TwOk y.z H' t → Rv y m O H' v d → Q v H'

theorem Kn.here {d : PyData} {v : V} (r : Rel y env t σ H O) (q : Kn y m O t H d Q) (h : Rp y.K y.z (hide O H) v d) : Q v H := q v H Grow.refl r.tw (.inl h)
theorem Kn.bool {b : Bool} (r : Rel y env t σ H O) (q : Kn y m O t H (.bool b) Q) : Q (.bl b) H := q.here r (.bl b)
theorem Kn.list {p : Addr} {xs : List V} {ds : List PyData} (r : Rel y env t σ H O) (q : Kn y m O t H (.list ds) Q) (hp : H p = none) (l : xs.length ≤ lineN) (h : RpAll y.K y.z (hide O H) xs ds) : Q (.ref p) (upd H p (.lst xs)) :=
  have n := r.new (o := .lst xs) hp
  q _ _ n.1 n.2.1 (.inl (r.newList hp l h))
theorem Kn.tuple {p : Addr} {xs : List V} {ds : List PyData} (r : Rel y env t σ H O) (q : Kn y m O t H (.tuple ds) Q) (hp : H p = none) (l : xs.length ≤ lineN) (h : RpAll y.K y.z (hide O H) xs ds) : Q (.ref p) (upd H p (.tup xs)) :=
  have n := r.new (o := .tup xs) hp
  q _ _ n.1 n.2.1 (.inl (r.newTup hp l h))

/-- what a binary operator asks of values -/
def rBin (K : PySem.W.Frag) : Operator → R2
  | .Add => fun x w H Q => (((rI0 (fun i j => .int (i + j)) x w H Q ∨ rCat x w H Q) ∨ rCatA K x w H Q) ∨ ∃ i j, x = .str i ∧ w = .str j ∧ i.length + j.length ≤ sizeLine ∧ Q (.str (i ++ j)) H)
  | .Sub => rI0 fun i j => .int (i - j)
  | .Mult => fun x w H Q => rI CMul (fun i j => .int (i * j)) x w H Q ∨ rRep x w H Q
  | .FloorDiv => rI CDiv fun i j => .int (i / j)
  | .Mod => rI (fun _ j => 0 < j) fun i j => .int (i % j)
  | .Pow => rI CPow fun i j => .int (i ^ j.toNat)
  | _ => fun _ _ _ _ => False
theorem op_bin : ∀ o : Operator, OpR X (binaryOp o) (rBin X.K o)
  | .Add => ((op_add.or op_cat).or op_catA).or op_add_str
  | .Sub => op_sub
  | .Mult => op_mul.or op_rep
  | .FloorDiv => op_fdiv
  | .Mod => op_mod
  | .Pow => op_pow
  | .MatMult | .Div | .LShift | .RShift | .BitOr | .BitXor | .BitAnd => fun _ _ _ _ _ _ _ _ _ _ _ _ q => False.elim q

theorem okIf_some {b : Bool} {d e : PyData} (h : okIf b d = some e) : b = true ∧ d = e := by
  unfold okIf at h
  split at h
  · exact ⟨by assumption, Option.some.inj h⟩
  · cases h

theorem bin_ok {o : Operator} {a b d : PyData} {v w : V} (r : Rel y env t σ H O) (ha : Rv y true O H v a) (hb : Rv y true O H w b) (e : binD o a b = some d) (q : Kn y m O t H d Q) : rBin y.K o v w H Q := by
  unfold binD at e
  split at e
  · cases e
    obtain rfl := ha.int; obtain rfl := hb.int
    exact .inl (.inl (.inl ⟨_, _, rfl, rfl, q.here r (.int _)⟩))
  · obtain ⟨h, rfl⟩ := okIf_some e
    obtain ⟨p, xs, rfl, h1, h2, h3⟩ := ha.items
    obtain ⟨p', ys, rfl, h1', h2', h3'⟩ := hb.items
    have hl : xs.length + ys.length ≤ lineN := by rw [h3.length, h3'.length]; exact of_decide_eq_true h
    exact .inl (.inl (.inr ⟨_, _, xs, ys, rfl, rfl, h1, h1', by rw [line_eq]; exact hl, fun p hp => q.list r hp (by rw [List.length_append]; exact hl) (h3.append h3')⟩))
  · obtain ⟨h, rfl⟩ := okIf_some e
    obtain ⟨p, xs, rfl, h1, h2, h3, h4⟩ := ha.tuple
    obtain ⟨p', ys, rfl, h1', h2', h3', h4'⟩ := hb.tuple
    have hl : xs.length + ys.length ≤ lineN := by rw [h3.length, h3'.length]; exact of_decide_eq_true h
    refine .inl (.inr ⟨_, _, xs, ys, rfl, rfl, h1, h1', by rw [line_eq]; exact hl, fun e0 => ?_, fun _ e0 => ?_, fun _ _ p hp => q.tuple r hp (by rw [List.length_append]; exact hl) (h3.append h3')⟩)
    · subst e0
      cases h3
      exact q.here r h4'
    · subst e0
      cases h3'
      refine q.here r ?_
      rw [List.append_nil]
      exact h4
  · obtain ⟨h, rfl⟩ := okIf_some e
    obtain rfl := ha.str; obtain rfl := hb.str
    exact .inr ⟨_, _, rfl, rfl, by rw [line_eq]; exact of_decide_eq_true h, q.here r (.str _)⟩
  · cases e
    obtain rfl := ha.int; obtain rfl := hb.int
    exact ⟨_, _, rfl, rfl, q.here r (.int _)⟩
  · obtain ⟨h, rfl⟩ := okIf_some e
    obtain rfl := ha.int; obtain rfl := hb.int
    refine .inl ⟨_, _, rfl, rfl, ?_, q.here r (.int _)⟩
    simp only [mulOk, Bool.or_eq_true, Bool.and_eq_true, decide_eq_true_eq] at h
    exact h
  · obtain ⟨h, rfl⟩ := okIf_some e
    obtain ⟨p, xs, rfl, h1, h2, h3⟩ := ha.items
    obtain rfl := hb.int
    simp only [Bool.and_eq_true, decide_eq_true_eq] at h
    have hl := h.2
    rw [← h3.length] at hl
    refine .inr ⟨_, _, xs, rfl, rfl, h1, h.1.1, h.1.2, by rw [line_eq]; exact hl, fun p hp => q.list r hp ?_ (h3.repl _)⟩
    simpa [List.length_flatten, Nat.mul_comm] using hl
  · obtain ⟨h, rfl⟩ := okIf_some e
    obtain rfl := ha.int; obtain rfl := hb.int
    simp only [Bool.and_eq_true, decide_eq_true_eq] at h
    exact ⟨_, _, rfl, rfl, h, q.here r (.int _)⟩
  · obtain ⟨h, rfl⟩ := okIf_some e
    obtain rfl := ha.int; obtain rfl := hb.int
    exact ⟨_, _, rfl, rfl, of_decide_eq_true h, q.here r (.int _)⟩
  · obtain ⟨h, rfl⟩ := okIf_some e
    obtain rfl := ha.int; obtain rfl := hb.int
    simp only [Bool.and_eq_true, decide_eq_true_eq] at h
    exact ⟨_, _, rfl, rfl, ⟨h.1.1, by omega, h.2⟩, q.here r (.int _)⟩
  · cases e

/-! ### comparisons by values -/
def rCmp (K : PySem.W.Frag) : CmpOp → R2
  | .Eq => fun x w H Q => ∃ d e, Dp K H x d ∧ Dp K H w e ∧ flatB d e = true ∧ Q (.bl (PyData.eqv d e)) H
  | .NotEq => fun x w H Q => ∃ d e, Dp K H x d ∧ Dp K H w e ∧ flatB d e = true ∧ Q (.bl (!PyData.eqv d e)) H
  | .Lt => fun x w H Q => rI0 (fun i j => .bl (decide (i < j))) x w H Q ∨ ∃ d e, Dp K H x d ∧ Dp K H w e ∧ ordB d e = true ∧ Q (.bl (PySem.W.dataLt d e)) H
  | .LtE => fun x w H Q => rI0 (fun i j => .bl (decide (i ≤ j))) x w H Q ∨ ∃ d e, Dp K H x d ∧ Dp K H w e ∧ ordB d e = true ∧ Q (.bl (!PySem.W.dataLt e d)) H
  | .Gt => fun x w H Q => rI0 (fun i j => .bl (decide (j < i))) x w H Q ∨ ∃ d e, Dp K H x d ∧ Dp K H w e ∧ ordB d e = true ∧ Q (.bl (PySem.W.dataLt e d)) H
  | .GtE => fun x w H Q => rI0 (fun i j => .bl (decide (j ≤ i))) x w H Q ∨ ∃ d e, Dp K H x d ∧ Dp K H w e ∧ ordB d e = true ∧ Q (.bl (!PySem.W.dataLt d e)) H
  | .Is => fun x w H Q => (∃ a b : Bool, x = .bl a ∧ w = .bl b ∧ Q (.bl (decide (a = b))) H) ∨ (w = .non ∧ Q (.bl (decide (x = .non))) H)
  | .IsNot => fun x w H Q => (∃ a b : Bool, x = .bl a ∧ w = .bl b ∧ Q (.bl (!decide (a = b))) H) ∨ (w = .non ∧ Q (.bl (!decide (x = .non))) H)
  | .In => fun x w H Q => ∃ d es, Dp K H x d ∧ (Dp K H w (.list es) ∨ Dp K H w (.tuple es)) ∧ (d.plain && PyData.plainAll es && decide (min (PyData.depthAll es) d.depth ≤ 50)) = true ∧ Q (.bl (es.any fun z => PyData.eqv z d)) H
  | .NotIn => fun x w H Q => ∃ d es, Dp K H x d ∧ (Dp K H w (.list es) ∨ Dp K H w (.tuple es)) ∧ (d.plain && PyData.plainAll es && decide (min (PyData.depthAll es) d.depth ≤ 50)) = true ∧ Q (.bl (!es.any fun z => PyData.eqv z d)) H

theorem op_cmp (hu : X.A.units + 60 < cLine) : ∀ o : CmpOp, OpR X (compareOp o) (rCmp X.K o) := by
  intro o pins s σ H x w v u Q I rx ry h
  cases o with
  | Eq =>
    obtain ⟨d, e, hd, he, hf, q⟩ := h
    simp only [flatB, Bool.and_eq_true, decide_eq_true_eq] at hf
    obtain ⟨as, r1⟩ := Dp.reads I d x v hd rx
    obtain ⟨bs, r2⟩ := Dp.reads I e w u he ry
    exact PySem.SeqAt.eq_plain r1 r2 hf.1.1 hf.1.2 (by omega) ⟨.bl _, H, I, rfl, q⟩
  | NotEq =>
    obtain ⟨d, e, hd, he, hf, q⟩ := h
    simp only [flatB, Bool.and_eq_true, decide_eq_true_eq] at hf
    obtain ⟨as, r1⟩ := Dp.reads I d x v hd rx
    obtain ⟨bs, r2⟩ := Dp.reads I e w u he ry
    exact PySem.SeqAt.ne_plain r1 r2 hf.1.1 hf.1.2 (by omega) ⟨.bl _, H, I, rfl, q⟩
  | Lt =>
    rcases h with h | ⟨d, e, hd, he, hf, q⟩
    · exact op_lt pins s σ H x w v u Q I rx ry h
    · simp only [ordB, Bool.and_eq_true, decide_eq_true_eq] at hf
      obtain ⟨as, r1⟩ := Dp.reads I d x v hd rx
      obtain ⟨bs, r2⟩ := Dp.reads I e w u he ry
      exact PySem.W.lt_data r1 r2 hf.1.1.1 (by rintro rfl; simp at hf) (by omega) ⟨.bl _, H, I, rfl, q⟩
  | LtE =>
    rcases h with h | ⟨d, e, hd, he, hf, q⟩
    · exact op_le pins s σ H x w v u Q I rx ry h
    · simp only [ordB, Bool.and_eq_true, decide_eq_true_eq] at hf
      obtain ⟨as, r1⟩ := Dp.reads I d x v hd rx
      obtain ⟨bs, r2⟩ := Dp.reads I e w u he ry
      exact PySem.W.le_data r1 r2 hf.1.1.1 (by rintro rfl; simp at hf) (by omega) ⟨.bl _, H, I, rfl, q⟩
  | Gt =>
    rcases h with h | ⟨d, e, hd, he, hf, q⟩
    · exact op_gt pins s σ H x w v u Q I rx ry h
    · simp only [ordB, Bool.and_eq_true, decide_eq_true_eq] at hf
      obtain ⟨as, r1⟩ := Dp.reads I d x v hd rx
      obtain ⟨bs, r2⟩ := Dp.reads I e w u he ry
      exact PySem.W.gt_data r1 r2 hf.1.1.1 (by rintro rfl; simp at hf) (by omega) ⟨.bl _, H, I, rfl, q⟩
  | GtE =>
    rcases h with h | ⟨d, e, hd, he, hf, q⟩
    · exact op_ge pins s σ H x w v u Q I rx ry h
    · simp only [ordB, Bool.and_eq_true, decide_eq_true_eq] at hf
      obtain ⟨as, r1⟩ := Dp.reads I d x v hd rx
      obtain ⟨bs, r2⟩ := Dp.reads I e w u he ry
      exact PySem.W.ge_data r1 r2 hf.1.1.1 (by rintro rfl; simp at hf) (by omega) ⟨.bl _, H, I, rfl, q⟩
  | Is =>
    rcases h with h | h
    · exact op_isBl pins s σ H x w v u Q I rx ry h
    · exact op_isN pins s σ H x w v u Q I rx ry h
  | IsNot =>
    rcases h with h | h
    · exact op_notBl pins s σ H x w v u Q I rx ry h
    · exact op_notN pins s σ H x w v u Q I rx ry h
  | In =>
    obtain ⟨d, es, hd, he, hf, q⟩ := h
    simp only [Bool.and_eq_true, decide_eq_true_eq] at hf
    obtain ⟨as, r1⟩ := Dp.reads I d x v hd rx
    rcases he with he | he
    · obtain ⟨bs, r2⟩ := Dp.reads I _ w u he ry
      exact PySem.SeqAt.in_list_data r2 r1 hf.1.2 hf.1.1 (by omega) ⟨.bl _, H, I, rfl, q⟩
    · obtain ⟨bs, r2⟩ := Dp.reads I _ w u he ry
      exact PySem.SeqAt.in_tuple_data r2 r1 hf.1.2 hf.1.1 (by omega) ⟨.bl _, H, I, rfl, q⟩
  | NotIn =>
    obtain ⟨d, es, hd, he, hf, q⟩ := h
    simp only [Bool.and_eq_true, decide_eq_true_eq] at hf
    obtain ⟨as, r1⟩ := Dp.reads I d x v hd rx
    rcases he with he | he
    · obtain ⟨bs, r2⟩ := Dp.reads I _ w u he ry
      exact PySem.SeqAt.notIn_list_data r2 r1 hf.1.2 hf.1.1 (by omega) ⟨.bl _, H, I, rfl, q⟩
    · obtain ⟨bs, r2⟩ := Dp.reads I _ w u he ry
      exact PySem.SeqAt.notIn_tuple_data r2 r1 hf.1.2 hf.1.1 (by omega) ⟨.bl _, H, I, rfl, q⟩

theorem Rv.isNon {v : V} {d : PyData} (h : Rv y m O H v d) : decide (v = .non) = (match d with | .none => true | _ => false) := by
  have h' := h.full
  cases h' <;> simp [tTown, tExc]
theorem cmp_ok {o : CmpOp} {a b : PyData} {k : Bool} {v w : V} (r : Rel y env t σ H O) (ha : Rv y true O H v a) (hb : Rv y true O H w b) (e : cmpD o a b = some k) (q : Q (.bl k) H) : rCmp y.K o v w H Q := by
  unfold cmpD at e
  split at e
  · split at e
    · rename_i hf
      cases e
      have hf' := hf
      simp only [flatB, Bool.and_eq_true] at hf'
      exact ⟨a, b, ha.full.dp hf'.1.1, hb.full.dp hf'.1.2, hf, q⟩
    · cases e
  · split at e
    · rename_i hf
      cases e
      have hf' := hf
      simp only [flatB, Bool.and_eq_true] at hf'
      exact ⟨a, b, ha.full.dp hf'.1.1, hb.full.dp hf'.1.2, hf, q⟩
    · cases e
  all_goals first
    | (split at e
       · cases e
         obtain rfl := ha.int; obtain rfl := hb.int
         exact .inl ⟨_, _, rfl, rfl, q⟩
       · split at e
         · rename_i hf
           cases e
           have hf' := hf
           simp only [ordB, Bool.and_eq_true] at hf'
           exact .inr ⟨_, _, ha.full.dp hf'.1.1.2.1, hb.full.dp hf'.1.1.2.2, hf, q⟩
         · cases e)
    | (split at e
       · cases e
         obtain rfl := ha.bool; obtain rfl := hb.bool
         exact .inl ⟨_, _, rfl, rfl, q⟩
       · cases e
         obtain rfl := hb.none
         refine .inr ⟨rfl, ?_⟩
         have z := ha.isNon
         rw [z]
         first
         | exact q
         | (cases a <;> exact q)
       · cases e)
    | (split at e
       · split at e
         · rename_i hf
           cases e
           have hf' := hf
           simp only [Bool.and_eq_true] at hf'
           exact ⟨_, _, ha.full.dp hf'.1.1, .inl (hb.full.dp (by simpa [PyData.plain] using hf'.1.2)), hf, q⟩
         · cases e
       · split at e
         · rename_i hf
           cases e
           have hf' := hf
           simp only [Bool.and_eq_true] at hf'
           exact ⟨_, _, ha.full.dp hf'.1.1, .inr (hb.full.dp (by simpa [PyData.plain] using hf'.1.2)), hf, q⟩
         · cases e
       · cases e)
end
end Wv

set_option maxHeartbeats 1000000
namespace Wv
open PySem L2

/-! ### plain forms of syntax -/
def ordE : Expr → Bool
  | .Starred .. => false
  | .Slice .. => false
  | .Set .. => false
  | _ => true
theorem star_ord {e : Expr} {es : List Expr} {env : PySem.Env} (h : ordE e = true) : starEach (e :: es) env = (false, eval e env) :: starEach es env := by
  cases e <;> first | rfl | cases h
theorem ix_ord {e : Expr} (h : ordE e = true) : PlainIx e := by
  cases e <;> first | exact fun _ _ => rfl | cases h
theorem mark_ord {op : CmpOp} {e : Expr} (h : ordE e = true) : behindInMarks op e = false := by
  cases e <;> first | rfl | cases h
theorem fold_ord {e : Expr} {env : PySem.Env} {x : Value} (h : ordE e = true) : foldedSetIterable e env x = pure x := by
  cases e <;> first | rfl | cases h
theorem stars_ord {pos : Pos} {env : PySem.Env} : ∀ {es : List Expr}, es.all ordE = true → (backTo pos (starEach es env)).any (·.1) = false
  | [], _ => rfl
  | e :: es, h => by
    simp only [List.all_cons, Bool.and_eq_true] at h
    rw [star_ord h.1]
    have := stars_ord (pos := pos) (env := env) h.2
    simpa [backTo] using this

def biNames : List Str := ["len", "any", "all", "sum", "min", "max", "sorted", "tuple", "list", "str", "int", "zip", "isinstance", "range", "enumerate", "bool", "ValueError", "dict", "set"]

/-- the frame of a walk: X runs a body (or a block in it) whose scope is sc -/
structure Ctx (X : Cx) (y : Cy) (N : List Str) (sc : Scope) : Prop where
  scope : X.env.scope = sc
  names : X.N = N
  K : X.K = y.K
  calm : X.calm = true
  nd : N.Nodup
  units : X.A.units + 200 < cLine
  tk : Takes X y.W
  free : ∀ x, x ∈ biNames → X.mg x = none

def visB (sc : Scope) (x : Str) : Bool := match sc.names.lookup x with
  | some .local => true
  | some .cell => true
  | some .free => true
  | _ => false
def glB (sc : Scope) (x : Str) : Bool := match sc.names.lookup x with
  | some .globalImplicit => true
  | _ => false
theorem vis_of {sc : Scope} {x : Str} (h : visB sc x = true) : Vis sc x := by
  unfold visB at h
  split at h
  · rename_i e; exact .inl e
  · rename_i e; exact .inr (.inl e)
  · rename_i e; exact .inr (.inr e)
  · cases h
theorem gl_of {X : Cx} {x : Str} (h : glB X.env.scope x = true) : Gl X x := by
  unfold glB at h
  split at h
  · rename_i e; exact e
  · cases h

section
variable {X : Cx} {y : Cy} {N : List Str} {sc : Scope} {m : Bool} {F : Nat → List PyData → Tw → R PyData}

theorem R.of_none {α : Type} {t : Tw} : R.of (none : Option α) t = .bad := rfl

theorem snd_var {i : Nat} {x : Str} {pos : Pos} (C : Ctx X y N sc) (hN : N[i]? = some x) (hv : visB sc x = true) (hd : (x == ("__debug__" : Str)) = false) (hcd : (x == ("__classdict__" : Str)) = false) :
    PE X (.Name x pos) (tE y m (evalE F m (.var i))) := by
  refine PE.imp (pe_var (i := i) (by rw [C.names]; exact hN) (by rw [C.scope]; exact vis_of hv) hd hcd) fun σ H Q h => ?_
  obtain ⟨env, t, O, r, h⟩ := h
  unfold evalE at h
  split at h
  · rename_i d t' e
    split at e
    · rename_i o d' e2
      split at e
      · rename_i hm
        cases e
        cases o with
        | false =>
          obtain ⟨v, e3, p⟩ := r.sh i _ e2
          exact ⟨v, e3, h v H Grow.refl r.tw (.inl p)⟩
        | true =>
          obtain ⟨a, e3, p⟩ := r.ow i _ e2
          refine ⟨.ref a, e3, h _ H Grow.refl r.tw (.inr ⟨?_, a, rfl, p⟩)⟩
          simpa using hm
      · cases e
    · cases e
  · rename_i e
    split at e
    · split at e <;> cases e
    · cases e
  · exact h.elim

theorem snd_const {e : Expr} {v : V} {d : PyData} (h : PE X e (tC v)) (p : ∀ H, Rp y.K y.z H v d) : PE X e (tE y m fun _ t => .ok d t) := by
  refine PE.imp h fun σ H Q h => ?_
  obtain ⟨env, t, O, r, h⟩ := h
  exact h v H Grow.refl r.tw (.inl (p _))

theorem snd_bin {o : Operator} {ea eb : Expr} {pos : Pos} {ra rb : Env → Tw → R PyData} (C : Ctx X y N sc) (ha : PE X ea (tE y true ra)) (hb : PE X eb (tE y true rb)) :
    PE X (.BinOp ea o eb pos) (tE y m fun env t => (ra env t).bind fun x t => (rb env t).bind fun w t => R.of (binD o x w) t) := by
  refine PE.imp (pe_op (op_bin o) ha hb) fun σ H Q h => ?_
  obtain ⟨env, t, O, r, h⟩ := h
  refine tE.then r h fun d1 t1 v H1 e1 g1 r1 rv1 h1 => ?_
  refine tE.then r1 h1 fun d2 t2 w H2 e2 g2 r2 rv2 h2 => ?_
  rw [C.K]
  cases e : binD o d1 d2 with
  | none => rw [e] at h2; exact h2.elim
  | some d => rw [e] at h2; exact bin_ok r2 (rv1.after r1 g2) rv2 e h2

theorem snd_neg {ea : Expr} {pos : Pos} {ra : Env → Tw → R PyData} (ha : PE X ea (tE y true ra)) :
    PE X (.UnaryOp .USub ea pos) (tE y m fun env t => (ra env t).bind fun x t => match x with
      | .int i => .ok (.int (-i)) t
      | _ => .bad) := by
  refine PE.imp (pe_un un_neg ha) fun σ H Q h => ?_
  obtain ⟨env, t, O, r, h⟩ := h
  refine tE.then r h fun d1 t1 v H1 e1 g1 r1 rv1 h1 => ?_
  cases d1 with
  | int i =>
    obtain rfl := rv1.int
    exact ⟨i, rfl, h1 _ H1 Grow.refl r1.tw (.inl (.int _))⟩
  | _ => exact h1.elim

theorem snd_cmp {o : CmpOp} {ea eb : Expr} {pos : Pos} {ra rb : Env → Tw → R PyData} (C : Ctx X y N sc) (ho : ordE eb = true) (ha : PE X ea (tE y true ra)) (hb : PE X eb (tE y true rb)) :
    PE X (.Compare ea [o] [eb] pos) (tE y m fun env t => (ra env t).bind fun x t => (rb env t).bind fun w t => R.of ((cmpD o x w).map .bool) t) := by
  refine PE.imp (pe_cmpR (op_cmp (by have := C.units; omega) o) ha hb (mark_ord ho)) fun σ H Q h => ?_
  obtain ⟨env, t, O, r, h⟩ := h
  refine tE.then r h fun d1 t1 v H1 e1 g1 r1 rv1 h1 => ?_
  refine tE.then r1 h1 fun d2 t2 w H2 e2 g2 r2 rv2 h2 => ?_
  rw [C.K]
  cases e : cmpD o d1 d2 with
  | none => rw [e] at h2; exact h2.elim
  | some k => rw [e] at h2; exact cmp_ok r2 (rv1.after r1 g2) rv2 e (h2 _ H2 Grow.refl r2.tw (.inl (.bl k)))

/-- a test's reading -/
def tT (y : Cy) (run : Env → Tw → R PyData) : TT := fun σ H Q => ∃ env t O, Rel y env t σ H O ∧ match run env t with
  | .ok d t' => ∃ b, d = .bool b ∧ ∀ H', Grow y.z H H' → TwOk y.z H' t' → Q b H'
  | .exc c t' => ∀ H', Grow y.z H H' → TwOk y.z H' t' → y.W (.ref (y.z.cls c)) none σ H'
  | .bad => False

theorem tT_val {run : Env → Tw → R PyData} {m : Bool} {σ : St} {H : Hp} {Q : Bool → Hp → Prop} (h : tT y run σ H Q) : tE y m run σ H fun x H' => ∃ k, x = .bl k ∧ Q k H' := by
  obtain ⟨env, t, O, r, h⟩ := h
  refine ⟨env, t, O, r, ?_⟩
  cases e : run env t with
  | bad => rw [e] at h; exact h
  | exc c t' => rw [e] at h; exact h
  | ok d t' =>
    rw [e] at h
    obtain ⟨b, rfl, h⟩ := h
    intro v H' g w rv
    exact ⟨b, rv.bool, h H' g w⟩
theorem tst_cmp {o : CmpOp} {ea eb : Expr} {pos : Pos} {ra rb : Env → Tw → R PyData} (C : Ctx X y N sc) (ho : ordE eb = true) (ha : PE X ea (tE y true ra)) (hb : PE X eb (tE y true rb)) :
    PT X (.Compare ea [o] [eb] pos) (tT y fun env t => (ra env t).bind fun x t => (rb env t).bind fun w t => R.of ((cmpD o x w).map .bool) t) := by
  refine PT.imp (pt_cmpR (op_cmp (by have := C.units; omega) o) ha hb (mark_ord ho)) fun σ H Q h => ?_
  have h := tT_val (m := true) h
  obtain ⟨env, t, O, r, h⟩ := h
  refine tE.then r h fun d1 t1 v H1 e1 g1 r1 rv1 h1 => ?_
  refine tE.then r1 h1 fun d2 t2 w H2 e2 g2 r2 rv2 h2 => ?_
  rw [C.K]
  cases e : cmpD o d1 d2 with
  | none => rw [e] at h2; exact h2.elim
  | some k => rw [e] at h2; exact cmp_ok r2 (rv1.after r1 g2) rv2 e (h2 _ H2 Grow.refl r2.tw (.inl (.bl k)))

theorem chain_ok {o p : CmpOp} {ra rb rc : Env → Tw → R PyData} {σ : St} {H : Hp} {Q : VK} (h : tE y m (fun env t => (ra env t).bind fun x t => (rb env t).bind fun w t => match cmpD o x w with
      | some true => (rc env t).bind fun z t => R.of ((cmpD p w z).map .bool) t
      | some false => .ok (.bool false) t
      | none => .bad) σ H Q) : tChain (rCmp y.K o) (rCmp y.K p) (tE y true ra) (tE y true rb) (tE y true rc) σ H Q := by
  obtain ⟨env, t, O, r, h⟩ := h
  refine tE.then r h fun d1 t1 v H1 e1 g1 r1 rv1 h1 => ?_
  refine tE.then r1 h1 fun d2 t2 w H2 e2 g2 r2 rv2 h2 => ?_
  cases e : cmpD o d1 d2 with
  | none => rw [e] at h2; exact h2.elim
  | some k =>
    rw [e] at h2
    refine cmp_ok r2 (rv1.after r1 g2) rv2 e ⟨k, rfl, ?_⟩
    cases k with
    | false =>
      rw [if_neg Bool.false_ne_true]
      exact h2 _ H2 Grow.refl r2.tw (.inl (.bl _))
    | true =>
      rw [if_pos rfl]
      refine tE.then r2 h2 fun d3 t3 w3 H3 e3 g3 r3 rv3 h3 => ?_
      cases e : cmpD p d2 d3 with
      | none => rw [e] at h3; exact h3.elim
      | some k => rw [e] at h3; exact cmp_ok r3 (rv2.after r2 g3) rv3 e (h3 _ H3 Grow.refl r3.tw (.inl (.bl k)))
theorem lastm {o p : CmpOp} {eb ec : Expr} (ho : ordE ec = true) : lastMarks [o, p] [eb, ec] = false := mark_ord ho
theorem snd_chn {o p : CmpOp} {ea eb ec : Expr} {pos : Pos} {ra rb rc : Env → Tw → R PyData} (C : Ctx X y N sc) (ho : ordE ec = true) (ha : PE X ea (tE y true ra)) (hb : PE X eb (tE y true rb)) (hc : PE X ec (tE y true rc)) :
    PE X (.Compare ea [o, p] [eb, ec] pos) (tE y m fun env t => (ra env t).bind fun x t => (rb env t).bind fun w t => match cmpD o x w with
      | some true => (rc env t).bind fun z t => R.of ((cmpD p w z).map .bool) t
      | some false => .ok (.bool false) t
      | none => .bad) := by
  refine PE.imp (pe_chain (op_cmp (by have := C.units; omega) o) (op_cmp (by have := C.units; omega) p) ha hb hc (lastm ho)) fun σ H Q h => ?_
  rw [C.K]
  exact chain_ok h
theorem tst_chn {o p : CmpOp} {ea eb ec : Expr} {pos : Pos} {ra rb rc : Env → Tw → R PyData} (C : Ctx X y N sc) (ho : ordE ec = true) (ha : PE X ea (tE y true ra)) (hb : PE X eb (tE y true rb)) (hc : PE X ec (tE y true rc)) :
    PT X (.Compare ea [o, p] [eb, ec] pos) (tT y fun env t => (ra env t).bind fun x t => (rb env t).bind fun w t => match cmpD o x w with
      | some true => (rc env t).bind fun z t => R.of ((cmpD p w z).map .bool) t
      | some false => .ok (.bool false) t
      | none => .bad) := by
  refine PT.imp (pt_chain (op_cmp (by have := C.units; omega) o) (op_cmp (by have := C.units; omega) p) ha hb hc (lastm ho)) fun σ H Q h => ?_
  rw [C.K]
  exact chain_ok (m := true) (tT_val h)

/-! ### and, or, not, if else -/
theorem snd_and {ea eb : Expr} {rest : List Expr} {pos : Pos} {ra rb : Env → Tw → R PyData} (ha : PE X ea (tE y true ra)) (hb : PE X (.BoolOp .And (eb :: rest) pos) (tE y m rb)) :
    PE X (.BoolOp .And (ea :: eb :: rest) pos) (tE y m fun env t => (ra env t).bind fun x t => match x with
      | .bool true => rb env t
      | .bool false => .ok (.bool false) t
      | _ => .bad) := by
  refine PE.imp (pe_and ha hb) fun σ H Q h => ?_
  obtain ⟨env, t, O, r, h⟩ := h
  refine tE.then r h fun d1 t1 v H1 e1 g1 r1 rv1 h1 => ?_
  cases d1 with
  | bool b =>
    refine ⟨b, rv1.bool, ?_⟩
    cases b with
    | true => rw [if_pos rfl]; exact ⟨env, t1, O, r1, h1⟩
    | false => rw [if_neg Bool.false_ne_true]; exact h1 _ H1 Grow.refl r1.tw (.inl (.bl _))
  | _ => exact h1.elim
theorem snd_or {ea eb : Expr} {rest : List Expr} {pos : Pos} {ra rb : Env → Tw → R PyData} (ha : PE X ea (tE y true ra)) (hb : PE X (.BoolOp .Or (eb :: rest) pos) (tE y m rb)) :
    PE X (.BoolOp .Or (ea :: eb :: rest) pos) (tE y m fun env t => (ra env t).bind fun x t => match x with
      | .bool true => .ok (.bool true) t
      | .bool false => rb env t
      | _ => .bad) := by
  refine PE.imp (pe_or ha hb) fun σ H Q h => ?_
  obtain ⟨env, t, O, r, h⟩ := h
  refine tE.then r h fun d1 t1 v H1 e1 g1 r1 rv1 h1 => ?_
  cases d1 with
  | bool b =>
    refine ⟨b, rv1.bool, ?_⟩
    cases b with
    | true => rw [if_pos rfl]; exact h1 _ H1 Grow.refl r1.tw (.inl (.bl _))
    | false => rw [if_neg Bool.false_ne_true]; exact ⟨env, t1, O, r1, h1⟩
  | _ => exact h1.elim
theorem snd_not {ea : Expr} {pos : Pos} {ra : Env → Tw → R PyData} (ha : PE X ea (tE y true ra)) :
    PE X (.UnaryOp .Not ea pos) (tE y m fun env t => (ra env t).bind fun x t => match x with
      | .bool b => .ok (.bool (!b)) t
      | _ => .bad) := by
  refine PE.imp (pe_not ha) fun σ H Q h => ?_
  obtain ⟨env, t, O, r, h⟩ := h
  refine tE.then r h fun d1 t1 v H1 e1 g1 r1 rv1 h1 => ?_
  cases d1 with
  | bool b => exact ⟨b, rv1.bool, h1 _ H1 Grow.refl r1.tw (.inl (.bl _))⟩
  | _ => exact h1.elim
/-- what is asked of a run: of a value, of a test -/
def FinE (y : Cy) (m : Bool) (O : List Addr) (σ : St) (Q : VK) (H : Hp) : R PyData → Prop
  | .ok d t' => ∀ v H', Grow y.z H H' → TwOk y.z H' t' → Rv y m O H' v d → Q v H'
  | .exc c t' => ∀ H', Grow y.z H H' → TwOk y.z H' t' → y.W (.ref (y.z.cls c)) none σ H'
  | .bad => False
def FinT (y : Cy) (σ : St) (Q : Bool → Hp → Prop) (H : Hp) : R PyData → Prop
  | .ok d t' => ∃ b, d = .bool b ∧ ∀ H', Grow y.z H H' → TwOk y.z H' t' → Q b H'
  | .exc c t' => ∀ H', Grow y.z H H' → TwOk y.z H' t' → y.W (.ref (y.z.cls c)) none σ H'
  | .bad => False
theorem tE_fin {run : Env → Tw → R PyData} {σ : St} {H : Hp} {Q : VK} : tE y m run σ H Q ↔ ∃ env t O, Rel y env t σ H O ∧ FinE y m O σ Q H (run env t) := by
  unfold tE FinE
  constructor <;> (rintro ⟨env, t, O, r, h⟩; exact ⟨env, t, O, r, h⟩)
theorem tT_fin {run : Env → Tw → R PyData} {σ : St} {H : Hp} {Q : Bool → Hp → Prop} : tT y run σ H Q ↔ ∃ env t O, Rel y env t σ H O ∧ FinT y σ Q H (run env t) := by
  unfold tT FinT
  constructor <;> (rintro ⟨env, t, O, r, h⟩; exact ⟨env, t, O, r, h⟩)
theorem FinE.grow {O : List Addr} {σ : St} {Q : VK} {H H1 : Hp} {x : R PyData} (h : FinE y m O σ Q H x) (g : Grow y.z H H1) : FinE y m O σ Q H1 x := by
  cases x with
  | ok d t => exact fun v H' g' => h v H' (g.trans g')
  | exc c t => exact fun H' g' => h H' (g.trans g')
  | bad => exact h
theorem FinT.grow {σ : St} {Q : Bool → Hp → Prop} {H H1 : Hp} {x : R PyData} (h : FinT y σ Q H x) (g : Grow y.z H H1) : FinT y σ Q H1 x := by
  cases x with
  | ok d t =>
    obtain ⟨b, e, h⟩ := h
    exact ⟨b, e, fun H' g' => h H' (g.trans g')⟩
  | exc c t => exact fun H' g' => h H' (g.trans g')
  | bad => exact h
/-- a test, then what follows -/
theorem tT.then {ra : Env → Tw → R PyData} {σ : St} {H : Hp} {O : List Addr} {env : Env} {t : Tw} {k : PyData → Tw → R PyData} {C : Bool → Hp → Prop} {Z : Hp → R PyData → Prop}
    (r : Rel y env t σ H O) (h : Z H ((ra env t).bind k))
    (hk : ∀ d t, (∀ b, d ≠ .bool b) → k d t = .bad) (zb : Z H .bad → False) (zx : ∀ c t', Z H (.exc c t') → ∀ H', Grow y.z H H' → TwOk y.z H' t' → y.W (.ref (y.z.cls c)) none σ H')
    (zg : ∀ x H1, Z H x → Grow y.z H H1 → Z H1 x)
    (f : ∀ b t1 H1, ra env t = .ok (.bool b) t1 → Grow y.z H H1 → Rel y env t1 σ H1 O → Z H1 (k (.bool b) t1) → C b H1) : tT y ra σ H C := by
  refine ⟨env, t, O, r, ?_⟩
  cases e : ra env t with
  | bad => rw [e] at h; exact zb h
  | exc c t1 => rw [e] at h; exact zx c t1 h
  | ok d t1 =>
    rw [e] at h
    by_cases hb : ∃ b, d = .bool b
    · obtain ⟨b, rfl⟩ := hb
      exact ⟨b, rfl, fun H' g w => f b t1 H' e g (r.after g w) (zg _ _ h g)⟩
    · have h : Z H (k d t1) := h
      rw [hk d t1 fun b e => hb ⟨b, e⟩] at h
      exact (zb h).elim
theorem tst_and {ea eb : Expr} {rest : List Expr} {pos : Pos} {ra rb : Env → Tw → R PyData} (ha : PT X ea (tT y ra)) (hb : PW X (.BoolOp .And (eb :: rest) pos) (tT y rb)) :
    PW X (.BoolOp .And (ea :: eb :: rest) pos) (tT y fun env t => (ra env t).bind fun x t => match x with
      | .bool true => rb env t
      | .bool false => .ok (.bool false) t
      | _ => .bad) := by
  refine ⟨fun wh pins s σ H Q I h => (pw_and ha hb).run wh pins s σ H Q I ?_⟩
  obtain ⟨env, t, O, r, h⟩ := tT_fin.mp h
  refine tT.then (Z := FinT y σ Q) r h (fun d t n => ?_) (fun z => z) (fun c t' z => z) (fun x H1 z g => z.grow g) fun b t1 H1 e g r1 z => ?_
  · cases d with
    | bool b => exact absurd rfl (n b)
    | _ => rfl
  · cases b with
    | true => rw [if_pos rfl]; exact tT_fin.mpr ⟨env, t1, O, r1, z⟩
    | false =>
      rw [if_neg Bool.false_ne_true]
      obtain ⟨b, e, z⟩ := z
      cases e
      exact z H1 Grow.refl r1.tw
theorem tst_or {ea eb : Expr} {rest : List Expr} {pos : Pos} {ra rb : Env → Tw → R PyData} (ha : PT X ea (tT y ra)) (hb : PW X (.BoolOp .Or (eb :: rest) pos) (tT y rb)) :
    PW X (.BoolOp .Or (ea :: eb :: rest) pos) (tT y fun env t => (ra env t).bind fun x t => match x with
      | .bool true => .ok (.bool true) t
      | .bool false => rb env t
      | _ => .bad) := by
  refine ⟨fun wh pins s σ H Q I h => (pw_or ha hb).run wh pins s σ H Q I ?_⟩
  obtain ⟨env, t, O, r, h⟩ := tT_fin.mp h
  refine tT.then (Z := FinT y σ Q) r h (fun d t n => ?_) (fun z => z) (fun c t' z => z) (fun x H1 z g => z.grow g) fun b t1 H1 e g r1 z => ?_
  · cases d with
    | bool b => exact absurd rfl (n b)
    | _ => rfl
  · cases b with
    | false => rw [if_neg Bool.false_ne_true]; exact tT_fin.mpr ⟨env, t1, O, r1, z⟩
    | true =>
      rw [if_pos rfl]
      obtain ⟨b, e, z⟩ := z
      cases e
      exact z H1 Grow.refl r1.tw
theorem tst_not {ea : Expr} {pos : Pos} {ra : Env → Tw → R PyData} (ha : PT X ea (tT y ra)) :
    PT X (.UnaryOp .Not ea pos) (tT y fun env t => (ra env t).bind fun x t => match x with
      | .bool b => .ok (.bool (!b)) t
      | _ => .bad) := by
  refine PT.imp (pt_not ha) fun σ H Q h => ?_
  obtain ⟨env, t, O, r, h⟩ := tT_fin.mp h
  refine tT.then (Z := FinT y σ Q) r h (fun d t n => ?_) (fun z => z) (fun c t' z => z) (fun x H1 z g => z.grow g) fun b t1 H1 e g r1 z => ?_
  · cases d with
    | bool b => exact absurd rfl (n b)
    | _ => rfl
  · obtain ⟨b', e', z⟩ := z
    cases e'
    exact z H1 Grow.refl r1.tw
theorem snd_ite {ec ea eb : Expr} {pos : Pos} {rc ra rb : Env → Tw → R PyData} (hc : PT X ec (tT y rc)) (ha : PE X ea (tE y m ra)) (hb : PE X eb (tE y m rb)) :
    PE X (.IfExp ec ea eb pos) (tE y m fun env t => (rc env t).bind fun x t => match x with
      | .bool true => ra env t
      | .bool false => rb env t
      | _ => .bad) := by
  refine PE.imp (pe_ifExp hc ha hb) fun σ H Q h => ?_
  obtain ⟨env, t, O, r, h⟩ := tE_fin.mp h
  refine tT.then (Z := FinE y m O σ Q) r h (fun d t n => ?_) (fun z => z) (fun c t' z => z) (fun x H1 z g => z.grow g) fun b t1 H1 e g r1 z => ?_
  · cases d with
    | bool b => exact absurd rfl (n b)
    | _ => rfl
  · cases b with
    | true => rw [if_pos rfl]; exact tE_fin.mpr ⟨env, t1, O, r1, z⟩
    | false => rw [if_neg Bool.false_ne_true]; exact tE_fin.mpr ⟨env, t1, O, r1, z⟩
/-- a value as a test -/
theorem tst_val {e : Expr} {run : Env → Tw → R PyData} (h : PE X e (tE y true run)) (he : ∀ whole, isTrue e X.env whole = (do let v ← whole; standAt e.pos; holding [v] (truthy v))) : PT X e (tT y run) :=
  PT.imp (pt_val h he) fun σ H Q h => tT_val h

/-! ### places in lists and tuples -/
theorem ix_ok {a i d : PyData} {v w : V} {env : Env} {t : Tw} {σ : St} {H : Hp} {O : List Addr} {Q : VK} (r : Rel y env t σ H O) (ha : Rv y true O H v a) (hb : Rv y true O H w i) (e : ixD a i = some d) (q : Kn y m O t H d Q) : rIx y.K v w H Q := by
  unfold ixD at e
  split at e
  · rename_i ds k
    obtain ⟨p, xs, rfl, h1, h2, h3⟩ := ha.items
    obtain rfl := hb.int
    unfold atI at e
    obtain ⟨j, e1, e2⟩ := Option.bind_eq_some_iff.mp e
    obtain ⟨v, e3, rv⟩ := h3.get e2
    refine .inl ⟨p, xs, _, v, rfl, rfl, SqL.of h1, ?_, q.here r rv⟩
    unfold atI
    rw [h3.length, e1]
    exact e3
  · rename_i ds k
    obtain ⟨p, xs, rfl, h1, h2, h3, h4⟩ := ha.tuple
    obtain rfl := hb.int
    unfold atI at e
    obtain ⟨j, e1, e2⟩ := Option.bind_eq_some_iff.mp e
    obtain ⟨v, e3, rv⟩ := h3.get e2
    refine .inr (.inl ⟨p, xs, _, v, rfl, rfl, h1, ?_, q.here r rv⟩)
    unfold atI
    rw [h3.length, e1]
    exact e3
  · cases e
theorem snd_ix {ea eb : Expr} {pos : Pos} {ra rb : Env → Tw → R PyData} (C : Ctx X y N sc) (ho : ordE eb = true) (ha : PE X ea (tE y true ra)) (hb : PE X eb (tE y true rb)) :
    PE X (.Subscript ea eb pos) (tE y m fun env t => (ra env t).bind fun x t => (rb env t).bind fun w t => R.of (ixD x w) t) := by
  refine PE.imp (pe_ix ix_seq ha hb (ix_ord ho)) fun σ H Q h => ?_
  obtain ⟨env, t, O, r, h⟩ := h
  refine tE.then r h fun d1 t1 v H1 e1 g1 r1 rv1 h1 => ?_
  refine tE.then r1 h1 fun d2 t2 w H2 e2 g2 r2 rv2 h2 => ?_
  rw [C.K]
  cases e : ixD d1 d2 with
  | none => rw [e] at h2; exact h2.elim
  | some d => rw [e] at h2; exact ix_ok r2 (rv1.after r1 g2) rv2 e h2

/-! ### slices -/
def tO (y : Cy) (run : Env → Tw → R (Option Int)) : TO := fun σ H Q => ∃ env t O, Rel y env t σ H O ∧ match run env t with
  | .ok d t' => ∀ H', Grow y.z H H' → TwOk y.z H' t' → Q d H'
  | .exc c t' => ∀ H', Grow y.z H H' → TwOk y.z H' t' → y.W (.ref (y.z.cls c)) none σ H'
  | .bad => False
theorem PO.imp {e : Option Expr} {t t' : TO} (h : PO X e t) (i : ∀ σ H Q, t' σ H Q → t σ H Q) : PO X e t' := ⟨fun pins s σ H Q I q => h.run pins s σ H Q I (i σ H Q q)⟩
theorem snd_o_none : PO X none (tO y fun _ t => .ok none t) := PO.imp po_none fun σ H Q h => by
  obtain ⟨env, t, O, r, h⟩ := h
  exact h H Grow.refl r.tw
theorem snd_o_some {e : Expr} {ra : Env → Tw → R PyData} (ha : PE X e (tE y true ra)) : PO X (some e) (tO y fun env t => (ra env t).bind fun d t => match d with
    | .int i => .ok (some i) t
    | _ => .bad) := by
  refine PO.imp (po_some ha) fun σ H Q h => ?_
  obtain ⟨env, t, O, r, h⟩ := h
  refine ⟨env, t, O, r, ?_⟩
  dsimp only at h
  cases e : ra env t with
  | bad => rw [e] at h; exact h
  | exc c t' => rw [e] at h; exact h
  | ok d t' =>
    rw [e] at h
    cases d with
    | int i =>
      intro v H' g w rv
      exact ⟨i, rv.int, h H' g w⟩
    | _ => exact False.elim h
theorem cut_map {K : PySem.W.Frag} {z : Cz} {H : Hp} {xs : List V} {ds : List PyData} (lo hi : Option Int) (h : RpAll K z H xs ds) : RpAll K z H (cutV xs lo hi) (cut ds lo hi) := by
  unfold cutV cut
  rw [h.length]
  exact (h.drop _).take _
theorem sl_ok {a d : PyData} {lo hi : Option Int} {v : V} {env : Env} {t : Tw} {σ : St} {H : Hp} {O : List Addr} {Q : VK} (r : Rel y env t σ H O) (ha : Rv y true O H v a) (e : slD a lo hi = some d) (q : Kn y m O t H d Q) :
    rSlL y.K v lo hi H Q ∨ rSlA y.K v lo hi H Q := by
  unfold slD at e
  split at e
  · cases e
    obtain ⟨p, xs, rfl, h1, h2, h3⟩ := ha.items
    exact .inl ⟨p, xs, rfl, SqL.of h1, fun p hp => q.list r hp (Nat.le_trans (cutV_length _ _ _) h2) (cut_map lo hi h3)⟩
  · cases e
    obtain ⟨p, xs, rfl, h1, h2, h3, h4⟩ := ha.tuple
    refine .inr ⟨p, xs, rfl, h1, fun w => ?_, fun _ p hp => q.tuple r hp (Nat.le_trans (cutV_length _ _ _) h2) (cut_map lo hi h3)⟩
    refine q.here r ?_
    have e : ∀ (zs : List PyData), RpAll y.K y.z (hide O H) xs zs → cut zs lo hi = zs := fun zs hz => by
      unfold cut
      rw [← hz.length, w.1, w.2, hz.length]
      simp
    rw [e _ h3]
    exact h4
  · cases e
theorem snd_sl {ea : Expr} {lo hi : Option Expr} {p2 pos : Pos} {ra : Env → Tw → R PyData} {rl rh : Env → Tw → R (Option Int)} (C : Ctx X y N sc) (ha : PE X ea (tE y true ra)) (hl : PO X lo (tO y rl)) (hh : PO X hi (tO y rh)) :
    PE X (.Subscript ea (.Slice lo hi none p2) pos) (tE y m fun env t => (ra env t).bind fun x t => (rl env t).bind fun l t => (rh env t).bind fun h t => R.of (slD x l h) t) := by
  refine PE.imp (pe_slice (sl_list.or sl_tupA) ha hl hh) fun σ H Q h => ?_
  obtain ⟨env, t, O, r, h⟩ := h
  refine tE.then r h fun d1 t1 v H1 e1 g1 r1 rv1 h1 => ?_
  refine ⟨env, t1, O, r1, ?_⟩
  cases e2 : rl env t1 with
  | bad => rw [e2] at h1; exact h1
  | exc c t' => rw [e2] at h1; exact h1
  | ok l t2 =>
    rw [e2] at h1
    intro H2 g2 w2
    have r2 := r1.after g2 w2
    refine ⟨env, t2, O, r2, ?_⟩
    simp only [R.bind] at h1
    cases e3 : rh env t2 with
    | bad => rw [e3] at h1; exact h1
    | exc c t' => rw [e3] at h1; exact fun H' g => h1 H' (g2.trans g)
    | ok hh t3 =>
      rw [e3] at h1
      intro H3 g3 w3
      have r3 := r2.after g3 w3
      simp only at h1
      rw [C.K]
      cases e : slD d1 l hh with
      | none => rw [e] at h1; exact h1.elim
      | some d =>
        rw [e] at h1
        exact sl_ok r3 ((rv1.after r1 g2).after r2 g3) e fun v H' g => h1 v H' ((g2.trans g3).trans g)
end
end Wv

set_option maxHeartbeats 1000000
namespace Wv
open PySem L2

section
variable {X : Cx} {y : Cy} {N : List Str} {sc : Scope} {m : Bool} {F : Nat → List PyData → Tw → R PyData}
variable {env : Env} {t : Tw} {σ : St} {H : Hp} {O : List Addr} {Q : VK}

/-! ### several expressions -/
theorem pair_share : ∀ {vs : List V} {ds : List PyData}, Paired (Rv y false O H) vs ds → RpAll y.K y.z (hide O H) vs ds
  | _, _, .nil => .nil
  | _, _, .cons a t => .cons a.share (pair_share t)
theorem pair_after {H' : Hp} (r : Rel y env t σ H O) (g : Grow y.z H H') : ∀ {vs : List V} {ds : List PyData}, Paired (Rv y m O H) vs ds → Paired (Rv y m O H') vs ds
  | _, _, .nil => .nil
  | _, _, .cons a t => .cons (a.after r g) (pair_after r g t)
theorem snd_nil : PA X [] (tL y m fun _ t => .ok [] t) := PA.imp pa_nil fun σ H Q h => by
  obtain ⟨env, t, O, r, h⟩ := h
  exact h [] H Grow.refl r.tw .nil
theorem snd_cons {e : Expr} {es : List Expr} {ra : Env → Tw → R PyData} {rs : Env → Tw → R (List PyData)} (ho : ordE e = true) (ha : PE X e (tE y m ra)) (hs : PA X es (tL y m rs)) :
    PA X (e :: es) (tL y m fun env t => (ra env t).bind fun d t => (rs env t).bind fun ds t => .ok (d :: ds) t) := by
  refine PA.imp (pa_cons ha hs (star_ord ho)) fun σ H Q h => ?_
  obtain ⟨env, t, O, r, h⟩ := h
  refine ⟨env, t, O, r, ?_⟩
  dsimp only at h
  cases e1 : ra env t with
  | bad => rw [e1] at h; exact h
  | exc c t' => rw [e1] at h; exact h
  | ok d t1 =>
    rw [e1] at h
    intro v H1 g1 w1 rv1
    have r1 := r.after g1 w1
    refine ⟨env, t1, O, r1, ?_⟩
    simp only [R.bind] at h
    cases e2 : rs env t1 with
    | bad => rw [e2] at h; exact h
    | exc c t' => rw [e2] at h; exact fun H' g => h H' (g1.trans g)
    | ok ds t2 =>
      rw [e2] at h
      intro vs H2 g2 w2 rv2
      exact h (v :: vs) H2 (g1.trans g2) w2 (.cons (rv1.after r1 g2) rv2)

/-- several values, then one more of them -/
theorem tL.then {ra : Env → Tw → R (List PyData)} {k : List PyData → Tw → R PyData} {m' : Bool} {C : List V → Hp → Prop}
    (r : Rel y env t σ H O) (h : FinE y m' O σ Q H ((ra env t).bind k))
    (f : ∀ ds t1 vs H1, ra env t = .ok ds t1 → Grow y.z H H1 → Rel y env t1 σ H1 O → Paired (Rv y m O H1) vs ds → FinE y m' O σ Q H1 (k ds t1) → C vs H1) : tL y m ra σ H C := by
  refine ⟨env, t, O, r, ?_⟩
  cases e : ra env t with
  | bad => rw [e] at h; exact h
  | exc c t1 => rw [e] at h; exact h
  | ok d t1 =>
    rw [e] at h
    intro vs H1 g w rv
    exact f d t1 vs H1 e g (r.after g w) rv (FinE.grow h g)

theorem snd_tup {es : List Expr} {x1 : Nat} {pos : Pos} {rs : Env → Tw → R (List PyData)} (h : PA X es (tL y false rs)) :
    PE X (.Tuple es x1 pos) (tE y m fun env t => (rs env t).bind fun ds t => R.of (okIf (decide (ds.length ≤ lineN)) (.tuple ds)) t) := by
  refine PE.imp (pe_tup h) fun σ H Q h => ?_
  obtain ⟨env, t, O, r, h⟩ := tE_fin.mp h
  refine tL.then r h fun ds t1 vs H1 e g r1 rv z => ?_
  by_cases hl : ds.length ≤ lineN
  · rw [okIf, if_pos (decide_eq_true hl)] at z
    have ps := pair_share rv
    have hv : vs.length ≤ lineN := by rw [ps.length]; exact hl
    exact ⟨by rw [line_eq]; exact hv, fun p hp => Kn.tuple r1 z hp hv ps⟩
  · rw [okIf, if_neg (by simpa using hl)] at z
    exact z.elim
theorem snd_lst {es : List Expr} {pos : Pos} {rs : Env → Tw → R (List PyData)} (h : PA X es (tL y false rs)) :
    PE X (.List es pos) (tE y m fun env t => (rs env t).bind fun ds t => R.of (okIf (decide (ds.length ≤ lineN)) (.list ds)) t) := by
  refine PE.imp (pe_lst h) fun σ H Q h => ?_
  obtain ⟨env, t, O, r, h⟩ := tE_fin.mp h
  refine tL.then r h fun ds t1 vs H1 e g r1 rv z => ?_
  by_cases hl : ds.length ≤ lineN
  · rw [okIf, if_pos (decide_eq_true hl)] at z
    have ps := pair_share rv
    have hv : vs.length ≤ lineN := by rw [ps.length]; exact hl
    exact ⟨by rw [line_eq]; exact hv, fun p hp => Kn.list r1 z hp hv ps⟩
  · rw [okIf, if_neg (by simpa using hl)] at z
    exact z.elim

/-! ### the sort -/
theorem leD_total : PySem.W.TotalLe leD := by
  have h := PySem.W.sortLe_total (PyProof.Rows.listOrd PyProof.Rows.itemOrd) false fun b : PyData => PySem.W.keyToks b
  exact h
theorem insD_split {le : PyData → PyData → Bool} {a : PyData} : ∀ {l1 l2 : List PyData}, (∀ b, b ∈ l1 → le a b = false) → (∀ b, b ∈ l2.head? → le a b = true) → insD le a (l1 ++ l2) = l1 ++ a :: l2
  | [], [], _, _ => rfl
  | [], c :: l2, _, h => by
    rw [List.nil_append, List.nil_append, insD, if_pos (h c (by simp))]
  | b :: l1, l2, h1, h2 => by
    rw [List.cons_append, List.cons_append, insD, if_neg (by rw [h1 b (by simp)]; decide), insD_split (fun c hc => h1 c (by simp [hc])) h2]
theorem mergeSort_sortD {le : PyData → PyData → Bool} (T : PySem.W.TotalLe le) : ∀ l : List PyData, l.mergeSort le = sortD le l
  | [] => by simp [sortD]
  | a :: l => by
    have tr : ∀ a b c, le a b = true → le b c = true → le a c = true := fun a b c h1 h2 => T.trans a b c h1 h2
    have to : ∀ a b, (le a b || le b a) = true := fun a b => Bool.or_eq_true_iff.mpr (T.total a b)
    obtain ⟨l1, l2, e1, e2, h⟩ := List.mergeSort_cons (le := le) tr to a l
    have ps := List.pairwise_mergeSort (le := le) tr to (a :: l)
    rw [e1] at ps
    rw [sortD, ← mergeSort_sortD T l, e1, e2]
    refine (insD_split (fun b hb => ?_) (fun b hb => ?_)).symm
    · have := h b hb
      simpa using this
    · have h3 := (List.pairwise_append.mp ps).2.1
      rw [List.pairwise_cons] at h3
      cases l2 with
      | nil => simp at hb
      | cons c l2 =>
        simp at hb
        subst hb
        exact h3.1 _ (by simp)

/-- pairs of a value and its datum -/
abbrev VD := V × PyData
theorem map_insD {le : PyData → PyData → Bool} (x : VD) : ∀ l : List VD, ∃ l1 l2, l = l1 ++ l2 ∧ insD le x.2 (l.map (·.2)) = (l1 ++ x :: l2).map (·.2)
  | [] => ⟨[], [], rfl, rfl⟩
  | c :: l => by
    rw [List.map_cons, insD]
    by_cases h : le x.2 c.2 = true
    · rw [if_pos h]
      exact ⟨[], c :: l, rfl, rfl⟩
    · rw [if_neg h]
      obtain ⟨l1, l2, e1, e2⟩ := map_insD (le := le) x l
      exact ⟨c :: l1, l2, by rw [e1]; rfl, by rw [e2]; rfl⟩
def rSortD (K : PySem.W.Frag) : List V → Hp → VK → Prop := fun vs H Q => ∃ (a : Addr) (bs : List VD), vs = [V.ref a] ∧ H a = some (.lst (bs.map (·.1))) ∧ (∀ b, b ∈ bs → Dp K H b.1 b.2) ∧ sortOk (bs.map (·.2)) = true ∧
  ∀ (cs : List VD) (p : Addr), cs.Perm bs → cs.map (·.2) = sortD leD (bs.map (·.2)) → H p = none → Q (.ref p) (upd H p (.lst (cs.map (·.1))))
theorem each_of {α β γ : Type} {Rr : α → γ → Prop} {f : β → γ} : ∀ {us : List α} {bs : List β}, Paired (fun (g : γ) (u : α) => Rr u g) (bs.map f) us → PySem.W.EachIs (fun u b => Rr u (f b)) us bs
  | [], [], _ => .nil
  | _, b :: bs, h => by
    cases h with
    | cons h t => exact .cons h (each_of t)
  | _ :: _, [], h => by cases h
theorem each_vals : ∀ {out : List Value} {cs : List VD}, PySem.W.EachIs (fun u (b : VD) => RelV b.1 u) out cs → Vals (cs.map (·.1)) out
  | _, _, .nil => .nil
  | _, _, .cons h t => .cons h (each_vals t)
theorem sortOk_parts {ds : List PyData} (h : sortOk ds = true) : PySem.W.AllAlike ds ∧ (∀ d, d ∈ ds → d.plain = true ∧ d.depth ≤ 50) ∧ PySem.W.Sortable ds := by
  simp only [sortOk, Bool.and_eq_true, Bool.or_eq_true, List.all_eq_true, decide_eq_true_eq] at h
  refine ⟨fun d hd d' hd' => ?_, h.1.2, ?_⟩
  · have h1 := h.1.1
    unfold allAlike at h1
    cases ds with
    | nil => cases hd
    | cons x r =>
      simp only [List.all_eq_true] at h1
      exact h1 d hd d' hd'
  · rcases h.2 with q | q
    · refine .inl fun d hd => ?_
      have := q d hd
      split at this
      · exact ⟨_, _, rfl⟩
      · cases this
    · refine .inr fun d hd => ?_
      have := q d hd
      refine ⟨?_, fun xs e => ?_⟩
      · rintro rfl; simp at this
      · rw [e] at this; simp at this
theorem cr_sortD (hu : X.A.units + 60 < cLine) : CallR X (.builtin "sorted") (rSortD X.K) := by
  intro pins s σ H vs us Q I r h
  obtain ⟨a, bs, rfl, ha, hd, hk, q⟩ := h
  obtain ⟨al, pl, so⟩ := sortOk_parts hk
  obtain ⟨its, rv, hl, hz⟩ := I.list (SqL.of ha)
  rw [Vals.ref1 r]
  have e1 : PySem.W.EachIs (fun u (b : VD) => RelV b.1 u) its bs := each_of (Rr := fun u v => RelV v u) (f := fun b : VD => b.1) rv
  have e2 : PySem.W.EachIs (fun u (b : VD) => ∃ as, Reads s.heap u b.2 as) its bs := by
    have all : ∀ (its : List Value) (cs : List VD), (∀ c, c ∈ cs → c ∈ bs) → PySem.W.EachIs (fun u (b : VD) => RelV b.1 u) its cs → PySem.W.EachIs (fun u (b : VD) => ∃ as, Reads s.heap u b.2 as) its cs := by
      intro its cs
      induction cs generalizing its with
      | nil => intro _ h; cases h; exact .nil
      | cons c cs ih =>
        intro hs h
        cases h with
        | cons h t => exact .cons (Dp.reads I c.2 c.1 _ (hd c (hs c (by simp))) h) (ih _ (fun d hd => hs d (by simp [hd])) t)
    exact all its bs (fun _ h => h) e1
  refine PySem.W.sorted_data (bs := bs) (enc := fun b : VD => b.2) hl.isList e1 e2 al so (by rw [List.length_map] at hz; exact hz) (fun b hb => ?_) fun out ho he => ?_
  · have := (pl b.2 (List.mem_map.mpr ⟨b, hb, rfl⟩)).2
    omega
  · have perm : (bs.mergeSort (PySem.W.dataLe false fun b : VD => b.2)).Perm bs := List.mergeSort_perm _ _
    obtain ⟨ep, he'⟩ := PyProof.Rows.sortedAll_at s.heap its out.toArray
    have hlen : ((bs.mergeSort (PySem.W.dataLe false fun b : VD => b.2)).map (·.1)).length ≤ sizeLine := by
      rw [List.length_map, perm.length_eq]
      rw [List.length_map] at hz
      exact hz
    refine ⟨.ref _, upd H (s.heap.objs.size + 1) (.lst ((bs.mergeSort (PySem.W.dataLe false fun b : VD => b.2)).map (·.1))), I.laid (t' := s.toks) (fun _ _ => PyProof.Rows.sortedAll_old) (Nat.le_succ _) ⟨hlen, out, ep, each_vals he, he'⟩, rfl, q _ _ perm ?_ (I.hok.fresh (Nat.le_succ _))⟩
    rw [← mergeSort_sortD leD_total]
    exact PySem.W.sort_maps (fun b : VD => b.2) fun _ _ _ _ => rfl
end
end Wv

set_option maxHeartbeats 1000000
namespace Wv
open PySem L2

def biName : Bi → Str
  | .len => "len" | .any => "any" | .all => "all" | .sum => "sum" | .min => "min" | .max => "max" | .min2 => "min" | .sorted => "sorted" | .tuple => "tuple" | .list => "list" | .str => "str" | .int => "int" | .lzip => "list"

section
variable {X : Cx} {y : Cy} {N : List Str} {sc : Scope} {m : Bool}
variable {env : Env} {t : Tw} {σ : St} {H : Hp} {O : List Addr} {Q : VK}

theorem pe_false {e : Expr} {run : Env → Tw → R PyData} (h : ∀ env t d t', run env t ≠ .ok d t') (h2 : ∀ env t c t', run env t ≠ .exc c t') : PE X e (tE y m run) := ⟨fun _ _ σ H Q I q => by
  obtain ⟨env, t, O, r, q⟩ := q
  cases e : run env t with
  | ok d t' => exact absurd e (h env t d t')
  | exc c t' => exact absurd e (h2 env t c t')
  | bad => rw [e] at q; exact q.elim⟩

theorem bools_ok {K : PySem.W.Frag} {z : Cz} {H : Hp} : ∀ {xs : List V} {ds : List PyData} {bs : List Bool}, RpAll K z H xs ds → boolsOf ds = some bs → xs = bs.map V.bl
  | _, _, _, .nil, e => by simp [boolsOf] at e; subst e; rfl
  | _, _, _, .cons (v := v) (d := d) a t, e => by
    cases d with
    | bool b =>
      simp only [boolsOf, Option.map_eq_some_iff] at e
      obtain ⟨bs', e1, rfl⟩ := e
      cases a
      rw [List.map_cons, bools_ok t e1]
    | _ => simp [boolsOf] at e
theorem ints_ok {K : PySem.W.Frag} {z : Cz} {H : Hp} : ∀ {xs : List V} {ds : List PyData} {bs : List Int}, RpAll K z H xs ds → intsOf ds = some bs → xs = bs.map V.int
  | _, _, _, .nil, e => by simp [intsOf] at e; subst e; rfl
  | _, _, _, .cons (v := v) (d := d) a t, e => by
    cases d with
    | int b =>
      simp only [intsOf, Option.map_eq_some_iff] at e
      obtain ⟨bs', e1, rfl⟩ := e
      cases a
      rw [List.map_cons, ints_ok t e1]
    | _ => simp [intsOf] at e

theorem pair1 {ds : PyData} {vs : List V} (h : Paired (Rv y m O H) vs [ds]) : ∃ v, vs = [v] ∧ Rv y m O H v ds := by
  cases h with
  | cons a t => cases t; exact ⟨_, rfl, a⟩
theorem pair2 {d e : PyData} {vs : List V} (h : Paired (Rv y m O H) vs [d, e]) : ∃ v w, vs = [v, w] ∧ Rv y m O H v d ∧ Rv y m O H w e := by
  cases h with
  | cons a t =>
    cases t with
    | cons b t => cases t; exact ⟨_, _, rfl, a, b⟩

theorem zip_pairs {K : PySem.W.Frag} {z : Cz} {H : Hp} : ∀ {xs : List V} {ds : List PyData}, RpAll K z H xs ds → (xs.zip ds).map (·.1) = xs ∧ (xs.zip ds).map (·.2) = ds ∧ ∀ b, b ∈ xs.zip ds → Rp K z H b.1 b.2
  | _, _, .nil => ⟨rfl, rfl, fun _ h => by simp at h⟩
  | _, _, .cons a t => by
    obtain ⟨h1, h2, h3⟩ := zip_pairs t
    refine ⟨by simp [h1], by simp [h2], fun b hb => ?_⟩
    rw [List.zip_cons_cons, List.mem_cons] at hb
    rcases hb with rfl | hb
    · exact a
    · exact h3 b hb
theorem rpAll_pairs {K : PySem.W.Frag} {z : Cz} {H : Hp} : ∀ {cs : List VD}, (∀ b, b ∈ cs → Rp K z H b.1 b.2) → RpAll K z H (cs.map (·.1)) (cs.map (·.2))
  | [], _ => .nil
  | c :: cs, h => .cons (h c (by simp)) (rpAll_pairs fun b hb => h b (by simp [hb]))

/-- what a built-in asks of values -/
def rBi (K : PySem.W.Frag) : Bi → List V → Hp → VK → Prop
  | .len => fun xs H Q => ∃ x n, xs = [x] ∧ LenV K x H n ∧ Q (.int n) H
  | .any => rAny K
  | .all => rAll K
  | .sum => rSum K
  | .min2 => fun xs H Q => ∃ i j, xs = [.int i, .int j] ∧ Q (.int (if j < i then j else i)) H
  | .tuple => fun xs H Q => ∃ p ys, xs = [.ref p] ∧ ((SqL K H p ys ∧ ∀ l, H l = none → Q (.ref l) (upd H l (.tup ys))) ∨ (SqT K H p ys ∧ Q (.ref p) H))
  | .sorted => rSortD K
  | _ => fun _ _ _ => False

theorem bi_ok {b : Bi} {ds : List PyData} {d : PyData} {vs : List V} (r : Rel y env t σ H O) (h : Paired (Rv y true O H) vs ds) (e : biD b ds = some d) (q : Kn y m O t H d Q) : rBi y.K b vs H Q := by
  unfold biD at e
  split at e
  · cases e
    obtain ⟨v, rfl, rv⟩ := pair1 h
    obtain ⟨a, xs, rfl, h1, h2, h3⟩ := rv.items
    refine ⟨.ref a, _, rfl, .inl ⟨xs, SqL.of h1, rfl⟩, ?_⟩
    rw [h3.length]
    exact q.here r (.int _)
  · cases e
    obtain ⟨v, rfl, rv⟩ := pair1 h
    obtain ⟨a, xs, rfl, h1, h2, h3, _⟩ := rv.tuple
    refine ⟨.ref a, _, rfl, .inr ⟨xs, h1, rfl⟩, ?_⟩
    rw [h3.length]
    exact q.here r (.int _)
  · obtain ⟨bs, e1, rfl⟩ := Option.map_eq_some_iff.mp e
    obtain ⟨v, rfl, rv⟩ := pair1 h
    obtain ⟨a, xs, rfl, h1, h2, h3⟩ := rv.items
    obtain rfl := bools_ok h3 e1
    exact ⟨a, bs, rfl, SqL.of h1, q.here r (.bl _)⟩
  · obtain ⟨bs, e1, rfl⟩ := Option.map_eq_some_iff.mp e
    obtain ⟨v, rfl, rv⟩ := pair1 h
    obtain ⟨a, xs, rfl, h1, h2, h3⟩ := rv.items
    obtain rfl := bools_ok h3 e1
    exact ⟨a, bs, rfl, SqL.of h1, q.here r (.bl _)⟩
  · obtain ⟨bs, e1, rfl⟩ := Option.map_eq_some_iff.mp e
    obtain ⟨v, rfl, rv⟩ := pair1 h
    obtain ⟨a, xs, rfl, h1, h2, h3⟩ := rv.items
    obtain rfl := ints_ok h3 e1
    exact ⟨a, bs, rfl, SqL.of h1, q.here r (.int _)⟩
  · cases e
    obtain ⟨v, w, rfl, rv, rw'⟩ := pair2 h
    obtain rfl := rv.int
    obtain rfl := rw'.int
    exact ⟨_, _, rfl, q.here r (.int _)⟩
  · cases e
    obtain ⟨v, rfl, rv⟩ := pair1 h
    obtain ⟨a, xs, rfl, h1, h2, h3⟩ := rv.items
    exact ⟨a, xs, rfl, .inl ⟨SqL.of h1, fun l hl => q.tuple r hl h2 h3⟩⟩
  · obtain ⟨ok, rfl⟩ := okIf_some e
    obtain ⟨v, rfl, rv⟩ := pair1 h
    obtain ⟨a, xs, rfl, h1, h2, h3⟩ := rv.items
    obtain ⟨z1, z2, z3⟩ := zip_pairs h3
    have pl := (sortOk_parts ok).2.1
    refine ⟨a, xs.zip _, rfl, by rw [z1]; exact h1, fun b hb => ?_, by rw [z2]; exact ok, fun cs p perm e hp => ?_⟩
    · refine Rp.dp ((z3 b hb).mono hide_sub) (pl b.2 ?_).1
      rw [← z2]
      exact List.mem_map.mpr ⟨b, hb, rfl⟩
    · rw [z2] at e
      rw [← e] at q
      refine q.list r hp ?_ (rpAll_pairs fun b hb => z3 b (perm.mem_iff.mp hb))
      rw [List.length_map, perm.length_eq]
      have := congrArg List.length z1
      rw [List.length_map] at this
      rw [this]
      exact h2
  · cases e

theorem PE_CB {e : Expr} {es : List Expr} {r : List V → Hp → VK → Prop} {id : String} {x : Str} {p pos : Pos} {ta : TA} (C : Ctx X y N sc) (hc : CallR X (.builtin id) r) (hx : x ∈ biNames) (hg : glB sc x = true) (hv : bootBuiltins x = some (.builtin id)) (ho : (e :: es).all ordE = true) (ha : PA X (e :: es) ta)
    (hn : x ≠ "__name__") (hdb : (x == ("__debug__" : Str)) = false) : PE X (.Call (.Name x p) (e :: es) [] pos) (tCB r ta) := by
  simp only [List.all_cons, Bool.and_eq_true] at ho
  exact pe_callB hc (gl_of (by rw [C.scope]; exact hg)) (C.free x hx) hv ha hn hdb (star_ord ho.1) (stars_ord ho.2)
theorem PE_CT {e : Expr} {es : List Expr} {r : List V → Hp → VK → Prop} {id : String} {x : Str} {p pos : Pos} {ta : TA} (C : Ctx X y N sc) (hc : CallR X (.type id) r) (hx : x ∈ biNames) (hg : glB sc x = true) (hv : bootBuiltins x = some (.type id)) (ho : (e :: es).all ordE = true) (ha : PA X (e :: es) ta)
    (hn : x ≠ "__name__") (hdb : (x == ("__debug__" : Str)) = false) : PE X (.Call (.Name x p) (e :: es) [] pos) (tCB r ta) := by
  simp only [List.all_cons, Bool.and_eq_true] at ho
  exact pe_callTy hc (gl_of (by rw [C.scope]; exact hg)) (C.free x hx) hv ha hn hdb (star_ord ho.1) (stars_ord ho.2)

theorem bi_run {b : Bi} {rs : Env → Tw → R (List PyData)} {σ : St} {H : Hp} {Q : VK} (C : Ctx X y N sc) (h : tE y m (fun env t => (rs env t).bind fun ds t => R.of (biD b ds) t) σ H Q) : tCB (rBi X.K b) (tL y true rs) σ H Q := by
  obtain ⟨env, t, O, r, h⟩ := tE_fin.mp h
  refine tL.then r h fun ds t1 vs H1 e g r1 rv z => ?_
  rw [C.K]
  cases e : biD b ds with
  | none => rw [e] at z; exact z.elim
  | some d => rw [e] at z; exact bi_ok r1 rv e z
def biSup : Bi → Bool
  | .len | .any | .all | .sum | .min2 | .tuple | .sorted => true
  | _ => false
theorem snd_bi {b : Bi} {es : List Expr} {p pos : Pos} {rs : Env → Tw → R (List PyData)} (C : Ctx X y N sc) (hs : biSup b = true) (hg : glB sc (biName b) = true) (ne : es ≠ []) (ho : es.all ordE = true) (h : PA X es (tL y true rs)) :
    PE X (.Call (.Name (biName b) p) es [] pos) (tE y m fun env t => (rs env t).bind fun ds t => R.of (biD b ds) t) := by
  cases es with
  | nil => exact absurd rfl ne
  | cons e es =>
    cases b with
    | len => exact PE.imp (PE_CB C call_len (by decide) hg boot_len ho h (by decide) (by decide)) fun σ H Q q => bi_run C q
    | any => exact PE.imp (PE_CB C (cr_any C.calm) (by decide) hg (by decide +kernel) ho h (by decide) (by decide)) fun σ H Q q => bi_run C q
    | all => exact PE.imp (PE_CB C (cr_all C.calm) (by decide) hg (by decide +kernel) ho h (by decide) (by decide)) fun σ H Q q => bi_run C q
    | sum => exact PE.imp (PE_CB C (cr_sum C.calm) (by decide) hg (by decide +kernel) ho h (by decide) (by decide)) fun σ H Q q => bi_run C q
    | min2 => exact PE.imp (PE_CB C (call_min2 C.calm) (by decide) hg (by decide +kernel) ho h (by decide) (by decide)) fun σ H Q q => bi_run C q
    | tuple => exact PE.imp (PE_CT C call_tuple_of (by decide) hg (by decide +kernel) ho h (by decide) (by decide)) fun σ H Q q => bi_run C q
    | sorted => exact PE.imp (PE_CB C (cr_sortD (by have := C.units; omega)) (by decide) hg (by decide +kernel) ho h (by decide) (by decide)) fun σ H Q q => bi_run C q
    | _ => cases hs

/-! ### isinstance -/
def tyName : Ty → String
  | .int => "int" | .bool => "bool" | .str => "str" | .tuple => "tuple" | .list => "list" | _ => "object"
def tyStr : Ty → Str
  | .int => "int" | .bool => "bool" | .str => "str" | .tuple => "tuple" | .list => "list" | _ => "object"
def tySup : Ty → Bool
  | .exc _ => false
  | .ve => false
  | _ => true
def tyOfD : PyData → String
  | .none => "NoneType" | .bool _ => "bool" | .int _ => "int" | .str _ => "str" | .list _ => "list" | .tuple _ => "tuple" | .dict _ => "dict"
theorem Rv.ty {v : V} {d : PyData} (h : Rv y true O H v d) (nd : ∀ kvs, d ≠ .dict kvs) : ∃ T : String, TyX y.K H v (.type T) ∧ T = tyOfD d := by
  have hf := h.full
  cases hf with
  | non => exact ⟨_, .base .non, rfl⟩
  | bl b => exact ⟨_, .base (.bl b), rfl⟩
  | int i => exact ⟨_, .base (.int i), rfl⟩
  | str x => exact ⟨_, .base (.str x), rfl⟩
  | lst h1 h2 h3 => exact ⟨_, .base (.lst h1), rfl⟩
  | tup h1 h2 h3 =>
    rcases h1 with (h1 | ⟨o, h1⟩) | ⟨o, its, n, hk, hc, _⟩
    · exact ⟨_, .base (.tup h1), rfl⟩
    · exact ⟨_, .fTuple h1, rfl⟩
    · exact ⟨_, .kTuple hk hc, rfl⟩
  | town => exact absurd rfl (nd _)
  | exc c h => exact absurd rfl (nd _)
theorem isi_ok {ty : Ty} {d : PyData} {b : Bool} {v : V} (h : Rv y true O H v d) (e : isiD ty d = some b) (hs : tySup ty = true) : ∃ t, TyX y.K H v t ∧ PySem.W.kitOne y.K t (.type (tyName ty)) = some b := by
  have nd : ∀ kvs, d ≠ .dict kvs := fun kvs q => by
    rw [q] at e
    cases ty <;> first
      | (exact absurd hs Bool.false_ne_true)
      | (simp [isiD] at e)
  obtain ⟨T, h1, h2⟩ := h.ty nd
  refine ⟨_, h1, ?_⟩
  subst h2
  cases ty <;> first
    | (exact absurd hs Bool.false_ne_true)
    | (cases d <;> first
        | (simp [isiD] at e; subst e; simp only [tyOfD, tyName]; exact kit_ty (by decide +kernel))
        | (simp [isiD] at e))
theorem snd_isi {ty : Ty} {ea : Expr} {p p2 pos : Pos} {ra : Env → Tw → R PyData} (C : Ctx X y N sc) (hs : tySup ty = true) (hg : glB sc "isinstance" = true) (hg2 : glB sc (tyStr ty) = true) (ho : ordE ea = true) (ha : PE X ea (tE y true ra)) :
    PE X (.Call (.Name "isinstance" p) [ea, .Name (tyStr ty) p2] [] pos) (tE y m fun env t => (ra env t).bind fun x t => R.of ((isiD ty x).map .bool) t) := by
  have hT : PE X (.Name (tyStr ty) p2) (tC (.ty (tyName ty))) := by
    have hgl : Gl X (tyStr ty) := gl_of (by rw [C.scope]; exact hg2)
    cases ty with
    | exc c => cases hs
    | ve => cases hs
    | int => exact pe_bltn hgl (C.free "int" (by decide)) (u := .type "int") (by decide +kernel) rfl
    | bool => exact pe_bltn hgl (C.free "bool" (by decide)) (u := .type "bool") (by decide +kernel) rfl
    | str => exact pe_bltn hgl (C.free "str" (by decide)) (u := .type "str") (by decide +kernel) rfl
    | tuple => exact pe_bltn hgl (C.free "tuple" (by decide)) (u := .type "tuple") (by decide +kernel) rfl
    | list => exact pe_bltn hgl (C.free "list" (by decide)) (u := .type "list") (by decide +kernel) rfl
  refine PE.imp (PE_CB C call_isi (by decide) hg (by decide +kernel) (by rw [List.all_cons, ho]; rfl) (pa_cons ha (pa_cons hT pa_nil) (star_ord ho)) (by decide) (by decide)) fun σ H Q h => ?_
  obtain ⟨env, t, O, r, h⟩ := h
  refine tE.then r h fun d1 t1 v H1 e1 g1 r1 rv1 h1 => ?_
  rw [C.K]
  cases e : isiD ty d1 with
  | none => rw [e] at h1; exact h1.elim
  | some b =>
    rw [e] at h1
    obtain ⟨t, k1, k2⟩ := isi_ok rv1 e hs
    exact ⟨v, _, t, _, b, rfl, .ty _, k1, k2, h1 _ H1 Grow.refl r1.tw (.inl (.bl b))⟩
end
end Wv

set_option maxHeartbeats 1000000
namespace Wv
open PySem L2

/-! ### what stands stays -/
def Fut (O : List Addr) (H : Hp) (O' : List Addr) (H' : Hp) : Prop := ∀ a u, hide O H a = some u → hide O' H' a = some u
theorem Fut.refl {O : List Addr} {H : Hp} : Fut O H O H := fun _ _ h => h
theorem Fut.trans {O O1 O2 : List Addr} {H H1 H2 : Hp} (a : Fut O H O1 H1) (b : Fut O1 H1 O2 H2) : Fut O H O2 H2 := fun p u h => b p u (a p u h)

section
variable {X : Cx} {y : Cy} {N : List Str} {sc : Scope} {m : Bool}
variable {env env' : Env} {t t' : Tw} {σ σ' : St} {H H' : Hp} {O : List Addr} {Q : VK}

theorem Rel.fut (r : Rel y env t σ H O) (g : Grow y.z H H') : Fut O H O H' := r.mono g

/-- the same state under another wish -/
theorem Rel.wish (r : Rel y env t σ H O) (W : WX) : Rel { y with W := W } env t σ H O where
  len := r.len
  sh := r.sh
  ow := fun i d e => by
    obtain ⟨a, e1, p⟩ := r.ow i d e
    exact ⟨a, e1, ⟨p.mem, p.nT, p.nN, p.new, p.is⟩⟩
  inj := r.inj
  grow := r.grow
  sub := r.sub
  dom := r.dom
  tT := r.tT
  dom0 := r.dom0
  tN := r.tN
  ne := r.ne
  tw := r.tw
theorem Rel.unwish {W : WX} (r : Rel { y with W := W } env t σ H O) : Rel y env t σ H O where
  len := r.len
  sh := r.sh
  ow := fun i d e => by
    obtain ⟨a, e1, p⟩ := r.ow i d e
    exact ⟨a, e1, ⟨p.mem, p.nT, p.nN, p.new, p.is⟩⟩
  inj := r.inj
  grow := r.grow
  sub := r.sub
  dom := r.dom
  tT := r.tT
  dom0 := r.dom0
  tN := r.tN
  ne := r.ne
  tw := r.tw
theorem Rv.unwish {W : WX} {v : V} {d : PyData} (h : Rv { y with W := W } m O H v d) : Rv y m O H v d := by
  rcases h with h | ⟨e, a, e1, p⟩
  · exact .inl h
  · exact .inr ⟨e, a, e1, ⟨p.mem, p.nT, p.nN, p.new, p.is⟩⟩

/-- slots forgotten -/
theorem getSet {α : Type} {l : List (Option α)} {v : Nat} {i : Nat} {x : α} (h : (l.set v none)[i]? = some (some x)) : i ≠ v ∧ l[i]? = some (some x) := by
  by_cases e : v = i
  · subst e
    by_cases hl : v < l.length
    · rw [List.getElem?_set_self hl] at h; cases h
    · rw [List.getElem?_eq_none (by simpa using hl)] at h; cases h
  · rw [List.getElem?_set_ne e] at h
    exact ⟨Ne.symm e, h⟩
theorem Rel.forget (r : Rel y env t σ H O) (v : Nat) : Rel y (env.set v none) t (σ.set v none) H O where
  len := by rw [List.length_set, List.length_set]; exact r.len
  sh := fun i d e => by
    obtain ⟨n, e⟩ := getSet e
    obtain ⟨w, e1, p⟩ := r.sh i d e
    exact ⟨w, by rw [List.getElem?_set_ne (Ne.symm n)]; exact e1, p⟩
  ow := fun i d e => by
    obtain ⟨n, e⟩ := getSet e
    obtain ⟨w, e1, p⟩ := r.ow i d e
    exact ⟨w, by rw [List.getElem?_set_ne (Ne.symm n)]; exact e1, p⟩
  inj := fun i j d e a h1 h2 h3 h4 => by
    obtain ⟨n1, h1⟩ := getSet h1
    obtain ⟨n2, h2⟩ := getSet h2
    rw [List.getElem?_set_ne (Ne.symm n1)] at h3
    rw [List.getElem?_set_ne (Ne.symm n2)] at h4
    exact r.inj i j d e a h1 h2 h3 h4
  grow := r.grow
  sub := r.sub
  dom := r.dom
  tT := r.tT
  dom0 := r.dom0
  tN := r.tN
  ne := r.ne
  tw := r.tw
theorem Rel.wipe (r : Rel y env t σ H O) : ∀ vs : List Nat, Rel y (wipeE env vs) t (L2.wipe σ vs) H O
  | [] => r
  | v :: vs => (Rel.wipe r vs).forget v
/-- a shared value stored -/
theorem Rel.store {i : Nat} {v : V} {d : PyData} (r : Rel y env t σ H O) (h : Rp y.K y.z (hide O H) v d) : Rel y (env.set i (some (false, d))) t (σ.set i (some v)) H O where
  len := by rw [List.length_set, List.length_set]; exact r.len
  sh := fun j e q => by
    by_cases n : i = j
    · subst n
      by_cases hl : i < env.length
      · rw [List.getElem?_set_self hl] at q
        cases q
        exact ⟨v, by rw [List.getElem?_set_self (by rw [r.len]; exact hl)], h⟩
      · rw [List.getElem?_eq_none (by simpa using hl)] at q; cases q
    · rw [List.getElem?_set_ne n] at q ⊢
      exact r.sh j e q
  ow := fun j e q => by
    by_cases n : i = j
    · subst n
      by_cases hl : i < env.length
      · rw [List.getElem?_set_self hl] at q
        cases q
      · rw [List.getElem?_eq_none (by simpa using hl)] at q; cases q
    · rw [List.getElem?_set_ne n] at q ⊢
      exact r.ow j e q
  inj := fun j k d' e a h1 h2 h3 h4 => by
    have no : ∀ (k : Nat) d', (env.set i (some (false, d)))[k]? = some (some (true, d')) → i ≠ k := fun k d' q n => by
      subst n
      by_cases hl : i < env.length
      · rw [List.getElem?_set_self hl] at q; cases q
      · rw [List.getElem?_eq_none (by simpa using hl)] at q; cases q
    have n1 := no j _ h1
    have n2 := no k _ h2
    rw [List.getElem?_set_ne n1] at h1 h3
    rw [List.getElem?_set_ne n2] at h2 h4
    exact r.inj j k _ _ a h1 h2 h3 h4
  grow := r.grow
  sub := r.sub
  dom := r.dom
  tT := r.tT
  dom0 := r.dom0
  tN := r.tN
  ne := r.ne
  tw := r.tw

/-! ### targets -/
def setAll : List Nat → List V → St → St
  | i :: is, v :: vs, σ => setAll is vs (σ.set i (some v))
  | _, _, σ => σ
def setAllE : List Nat → List PyData → Env → Env
  | i :: is, d :: ds, env => setAllE is ds (env.set i (some (false, d)))
  | _, _, env => env
theorem foldl_setAllE : ∀ (is : List Nat) (ds : List PyData) (env : Env), (is.zip ds).foldl (fun e p => e.set p.1 (some (false, p.2))) env = setAllE is ds env
  | [], _, _ => rfl
  | _ :: _, [], _ => rfl
  | i :: is, d :: ds, env => by
    rw [List.zip_cons_cons, List.foldl_cons, setAllE]
    exact foldl_setAllE is ds _
theorem Rel.storeAll : ∀ {is : List Nat} {vs : List V} {ds : List PyData} {env : Env} {σ : St}, Rel y env t σ H O → RpAll y.K y.z (hide O H) vs ds → Rel y (setAllE is ds env) t (setAll is vs σ) H O
  | [], _, _, _, _, r, _ => r
  | _ :: _, _, _, _, _, r, .nil => r
  | i :: is, _, _, _, _, r, .cons a t => Rel.storeAll (is := is) (r.store a) t
/-- the state of the slots behind a target's store -/
def tgSet : Tg → V → List V → St → St
  | .name i, v, _, σ => σ.set i (some v)
  | .tup is, _, vs, σ => setAll is vs σ
def gTg (K : PySem.W.Frag) : Tg → TG
  | .name i => gName i
  | .tup is => gTup K is.length fun vs σ H Q => vs.length = is.length ∧ Q (setAll is vs σ) H
/-- from a value and its datum to the state with it -/
theorem tg_ok {tg : Tg} {v : V} {d : PyData} {Z : St → Hp → Prop} (h : Rp y.K y.z (hide O H) v d) (e : bindTg tg d env = some env')
    (q : ∀ vs, (∀ t2 H2 O2, Rel y env t2 σ H2 O2 → Fut O H O2 H2 → Rel y env' t2 (tgSet tg v vs σ) H2 O2) → Z (tgSet tg v vs σ) H) : gTg y.K tg v σ H Z := by
  cases tg with
  | name i =>
    simp only [bindTg, Option.some.injEq] at e
    subst e
    exact q [] fun t2 H2 O2 r f => r.store (h.mono f)
  | tup is =>
    cases d with
    | tuple ds =>
      simp only [bindTg] at e
      split at e
      · rename_i hl
        cases e
        cases h with
        | tup h1 h2 h3 =>
          refine ⟨_, _, rfl, SqT.mono hide_sub h1, by rw [h3.length]; exact hl.symm, by rw [h3.length]; exact hl.symm, ?_⟩
          refine q _ fun t2 H2 O2 r f => ?_
          rw [foldl_setAllE]
          exact r.storeAll (h3.mono f)
      · cases e
    | _ => simp [bindTg] at e

def locB (sc : Scope) (x : Str) : Bool := match sc.names.lookup x with
  | some .local => true
  | some .cell => true
  | _ => false
def localB (sc : Scope) (x : Str) : Bool := match sc.names.lookup x with
  | some .local => true
  | _ => false
theorem loc_of {sc : Scope} {x : Str} (h : locB sc x = true) : Loc sc x := by
  unfold locB at h
  split at h
  · rename_i e; exact .inl e
  · rename_i e; exact .inr e
  · cases h
theorem local_of {sc : Scope} {x : Str} (h : localB sc x = true) : sc.names.lookup x = some .local := by
  unfold localB at h
  split at h
  · rename_i e; exact e
  · cases h
def chkName (N : List Str) (sc : Scope) (fnB : Str → Bool) (i : Nat) : Expr → Bool
  | .Name x _ => decide (N[i]? = some x) && locB sc x && (fnB x || localB sc x)
  | _ => false
def chkNames (N : List Str) (sc : Scope) (fnB : Str → Bool) : List Nat → List Expr → Bool
  | [], [] => true
  | i :: is, e :: es => chkName N sc fnB i e && chkNames N sc fnB is es
  | _, _ => false
def chkTg (N : List Str) (sc : Scope) (fnB : Str → Bool) : Tg → Expr → Bool
  | .name i, e => chkName N sc fnB i e
  | .tup is, .Tuple es _ _ => chkNames N sc fnB is es
  | _, _ => false
theorem pg_chk {fnB : Str → Bool} {i : Nat} {e : Expr} (C : Ctx X y N sc) (hf : ∀ x, fnB x = true → X.fn x = true) (h : chkName N sc fnB i e = true) : PG X e (gName i) := by
  cases e with
  | Name x p =>
    simp only [chkName, Bool.and_eq_true, Bool.or_eq_true, decide_eq_true_eq] at h
    refine pg_name (by rw [C.names]; exact C.nd) (by rw [C.names]; exact h.1.1) (by rw [C.scope]; exact loc_of h.1.2) ?_
    rcases h.2 with q | q
    · exact .inl (hf x q)
    · exact .inr (by rw [C.scope]; exact local_of q)
  | _ => cases h
theorem chkName_ord {fnB : Str → Bool} {i : Nat} {e : Expr} {es : List Expr} {env : PySem.Env} (h : chkName N sc fnB i e = true) : assignEach (e :: es) env = (false, assign e env) :: assignEach es env := by
  cases e with
  | Name x p => rfl
  | _ => cases h
theorem pgs_chk {fnB : Str → Bool} (C : Ctx X y N sc) (hf : ∀ x, fnB x = true → X.fn x = true) : ∀ {is : List Nat} {es : List Expr}, chkNames N sc fnB is es = true →
    PGs X es (fun vs σ H Q => vs.length = is.length ∧ Q (setAll is vs σ) H) ∧ (assignEach es X.env).length = is.length ∧ (assignEach es X.env).findIdx? (·.1) = none
  | [], [], _ => ⟨⟨fun pins s σ H vs us Q I r q => by
      obtain ⟨l, q⟩ := q
      have e : vs = [] := List.eq_nil_of_length_eq_zero l
      subst e
      exact pgs_nil.run pins s σ H [] us Q I r ⟨rfl, q⟩⟩, rfl, rfl⟩
  | i :: is, e :: es, h => by
    simp only [chkNames, Bool.and_eq_true] at h
    obtain ⟨p, l, f⟩ := pgs_chk C hf h.2
    have ea := chkName_ord (es := es) (env := X.env) h.1
    refine ⟨⟨fun pins s σ H vs us Q I r q => ?_⟩, by rw [ea, List.length_cons, l, List.length_cons], by rw [ea]; simp [List.findIdx?_cons, f]⟩
    obtain ⟨l', q⟩ := q
    cases vs with
    | nil => cases l'
    | cons v vs =>
      exact (pgs_cons (pg_chk C hf h.1) p (by rw [ea]; rfl)).run pins s σ H (v :: vs) us Q I r ⟨v, vs, rfl, by simpa using l', q⟩
  | [], _ :: _, h => by cases h
  | _ :: _, [], h => by cases h
theorem pg_tg {fnB : Str → Bool} {tg : Tg} {e : Expr} (C : Ctx X y N sc) (hf : ∀ x, fnB x = true → X.fn x = true) (h : chkTg N sc fnB tg e = true) : PG X e (gTg y.K tg) := by
  cases tg with
  | name i => exact pg_chk C hf h
  | tup is =>
    cases e with
    | Tuple es k p =>
      obtain ⟨p, l, f⟩ := pgs_chk C hf (is := is) h
      rw [← C.K]
      exact pg_tup C.calm p l f
    | _ => cases h

/-! ### what is walked -/
def Gives (y : Cy) (J : It) (O : List Addr) (H : Hp) (ds : List PyData) : Prop := ds.length ≤ lineN ∧ ∀ (i : Nat) (O' : List Addr) (H' : Hp), Fut O H O' H' → (∀ a, a ∈ O' → H' a ≠ none) →
  (ds.length = i → J.stop i H') ∧ ∀ d, ds[i]? = some d → J.go i H' ∧ ∀ x H'', J.yld i H' x H'' → (∀ a u, H' a = some u → H'' a = some u) ∧ Rp y.K y.z (hide O' H'') x d
def iI (y : Cy) (run : Env → Tw → R (List PyData)) : TI := fun σ H Z => ∃ env t O, Rel y env t σ H O ∧ match run env t with
  | .ok ds t' => ∀ J H', Grow y.z H H' → TwOk y.z H' t' → Gives y J O H' ds → Z J H'
  | .exc c t' => ∀ H', Grow y.z H H' → TwOk y.z H' t' → y.W (.ref (y.z.cls c)) none σ H'
  | .bad => False
theorem PI.imp2 {tg e : Expr} {w w1 w2 : TI} (h1 : PI X tg e w1) (h2 : PI X tg e w2) (i : ∀ σ H Z, w σ H Z → w1 σ H Z ∨ w2 σ H Z) : PI X tg e w := ⟨fun pins s σ H Z I q => by
  rcases i σ H Z q with q | q
  · exact h1.run pins s σ H Z I q
  · exact h2.run pins s σ H Z I q⟩
theorem gives_list {a : Addr} {xs : List V} {ds : List PyData} (h : hide O H a = some (.lst xs)) (l : xs.length ≤ lineN) (p : RpAll y.K y.z (hide O H) xs ds) : Gives y (Itl y.K a) O H ds := by
  refine ⟨by rw [← p.length]; exact l, fun i O' H' f dm => ⟨fun hi => ⟨xs, SqL.of (hide_sub _ _ (f _ _ h)), by rw [p.length]; exact Nat.le_of_eq hi⟩, fun d e => ?_⟩⟩
  obtain ⟨v, e1, pv⟩ := p.get e
  refine ⟨⟨xs, v, SqL.of (hide_sub _ _ (f _ _ h)), e1⟩, fun x H'' q => ?_⟩
  obtain ⟨rfl, q⟩ := q
  have := q xs (SqL.of (hide_sub _ _ (f _ _ h)))
  rw [e1] at this
  cases this
  exact ⟨fun _ _ h => h, pv.mono f⟩
theorem gives_tup {a : Addr} {xs : List V} {ds : List PyData} (h : SqT y.K (hide O H) a xs) (l : xs.length ≤ lineN) (p : RpAll y.K y.z (hide O H) xs ds) : Gives y (Itt y.K a) O H ds := by
  refine ⟨by rw [← p.length]; exact l, fun i O' H' f dm => ?_⟩
  have h' : SqT y.K H' a xs := SqT.mono (fun a u q => hide_sub _ _ (f a u q)) h
  refine ⟨fun hi => ⟨xs, h', by rw [p.length]; exact Nat.le_of_eq hi⟩, fun d e => ?_⟩
  obtain ⟨v, e1, pv⟩ := p.get e
  refine ⟨⟨xs, v, h', e1⟩, fun x H'' q => ?_⟩
  obtain ⟨rfl, q⟩ := q
  have := q xs h'
  rw [e1] at this
  cases this
  exact ⟨fun _ _ h => h, pv.mono f⟩
theorem rngs_length (a s : Int) : ∀ n : Nat, (rngs a s n).length = n
  | 0 => rfl
  | n + 1 => by rw [rngs, List.length_cons, rngs_length]
theorem rngs_get (s : Int) : ∀ (n : Nat) (a : Int) (i : Nat) (d : PyData), (rngs a s n)[i]? = some d → i < n ∧ d = .int (a + i * s)
  | 0, a, i, d, h => by simp [rngs] at h
  | n + 1, a, 0, d, h => by
    simp [rngs] at h
    subst h
    exact ⟨Nat.succ_pos _, by simp⟩
  | n + 1, a, i + 1, d, h => by
    rw [rngs, List.getElem?_cons_succ] at h
    obtain ⟨h1, h2⟩ := rngs_get s n (a + s) i d h
    refine ⟨Nat.succ_lt_succ h1, ?_⟩
    rw [h2]
    congr 1
    have : ((i + 1 : Nat) : Int) * s = (i : Int) * s + s := by
      rw [Int.natCast_add, Int.add_mul]; simp
    rw [this]
    omega
theorem gives_range {a : Int} {n : Nat} (hn : n ≤ lineN) : Gives y (Itr a n) O H (rngs a 1 n) := by
  refine ⟨by rw [rngs_length]; exact hn, fun i O' H' f dm => ⟨fun hi => by rw [rngs_length] at hi; exact Nat.le_of_eq hi, fun d e => ?_⟩⟩
  obtain ⟨h1, rfl⟩ := rngs_get _ _ _ _ _ e
  refine ⟨h1, fun x H'' q => ?_⟩
  obtain ⟨rfl, rfl⟩ := q
  refine ⟨fun _ _ h => h, ?_⟩
  rw [Int.mul_one]
  exact .int _
theorem gives_rangeC {a c : Int} {n : Nat} (hn : n ≤ lineN) : Gives y (Itc a c n) O H (rngs a c n) := by
  refine ⟨by rw [rngs_length]; exact hn, fun i O' H' f dm => ⟨fun hi => by rw [rngs_length] at hi; exact Nat.le_of_eq hi, fun d e => ?_⟩⟩
  obtain ⟨h1, rfl⟩ := rngs_get _ _ _ _ _ e
  refine ⟨h1, fun x H'' q => ?_⟩
  obtain ⟨rfl, rfl⟩ := q
  exact ⟨fun _ _ h => h, .int _⟩

/-- one value, then what is walked -/
theorem tE.thenI {ra : Env → Tw → R PyData} {k : PyData → Tw → R (List PyData)} {Z : It → Hp → Prop} {C : V → Hp → Prop}
    (r : Rel y env t σ H O)
    (h : match (ra env t).bind k with
      | .ok ds t' => ∀ J H', Grow y.z H H' → TwOk y.z H' t' → Gives y J O H' ds → Z J H'
      | .exc c t' => ∀ H', Grow y.z H H' → TwOk y.z H' t' → y.W (.ref (y.z.cls c)) none σ H'
      | .bad => False)
    (f : ∀ d t1 v H1, ra env t = .ok d t1 → Grow y.z H H1 → Rel y env t1 σ H1 O → Rv y m O H1 v d →
      (match k d t1 with
      | .ok ds t' => ∀ J H', Grow y.z H1 H' → TwOk y.z H' t' → Gives y J O H' ds → Z J H'
      | .exc c t' => ∀ H', Grow y.z H1 H' → TwOk y.z H' t' → y.W (.ref (y.z.cls c)) none σ H'
      | .bad => False) → C v H1) : tE y m ra σ H C := by
  refine ⟨env, t, O, r, ?_⟩
  cases e : ra env t with
  | bad => rw [e] at h; exact h
  | exc c t1 => rw [e] at h; exact h
  | ok d t1 =>
    rw [e] at h
    intro v H1 g w rv
    refine f d t1 v H1 e g (r.after g w) rv ?_
    simp only [R.bind] at h
    cases q : k d t1 with
    | bad => rw [q] at h; exact h
    | exc c t2 =>
      rw [q] at h
      exact fun H' g' w' => h H' (g.trans g') w'
    | ok d2 t2 =>
      rw [q] at h
      exact fun J H' g' w' rv' => h J H' (g.trans g') w' rv'
theorem snd_i_val {tg e : Expr} {ra : Env → Tw → R PyData} (C : Ctx X y N sc) (ha : PE X e (tE y false ra)) : PI X tg e (iI y fun env t => (ra env t).bind fun d t => match d with
    | .list xs => .ok xs t
    | .tuple xs => .ok xs t
    | _ => .bad) := by
  refine PI.imp2 (pi_list ha) (pi_tup ha) fun σ H Z h => ?_
  obtain ⟨env, t, O, r, h⟩ := h
  rw [C.K]
  by_cases hl : ∃ xs t1, ra env t = .ok (.tuple xs) t1
  · obtain ⟨xs, t1, e⟩ := hl
    refine .inr (tE.thenI r h fun d t1 v H1 e1 g1 r1 rv1 h1 => ?_)
    rw [e] at e1
    cases e1
    have p := rv1.share
    cases p with
    | tup h1' h2 h3 => exact ⟨_, rfl, ⟨_, SqT.mono hide_sub h1'⟩, h1 _ H1 Grow.refl r1.tw (gives_tup h1' h2 h3)⟩
  · refine .inl (tE.thenI r h fun d t1 v H1 e1 g1 r1 rv1 h1 => ?_)
    cases d with
    | list ds =>
      have p := rv1.share
      cases p with
      | lst h1' h2 h3 => exact ⟨_, rfl, ⟨_, SqL.of (hide_sub _ _ h1')⟩, h1 _ H1 Grow.refl r1.tw (gives_list h1' h2 h3)⟩
    | tuple ds => exact absurd ⟨ds, t1, e1⟩ hl
    | _ => exact h1.elim
theorem small_of {i : Int} (h : small i = true) : -1000000 ≤ i ∧ i ≤ 1000000 := by
  simpa [small] using h
theorem PI.imp {tg e : Expr} {w w1 : TI} (h1 : PI X tg e w1) (i : ∀ σ H Z, w σ H Z → w1 σ H Z) : PI X tg e w := PI.imp2 h1 h1 fun σ H Z q => .inl (i σ H Z q)
theorem snd_i_rng1 {tg ea : Expr} {p pos : Pos} {ra : Env → Tw → R PyData} (C : Ctx X y N sc) (hg : glB sc "range" = true) (ho : ordE ea = true) (ha : PE X ea (tE y true ra)) : PI X tg (.Call (.Name "range" p) [ea] [] pos) (iI y fun env t => (ra env t).bind fun x t => match x with
    | .int n => if small n then .ok (rngs 0 1 n.toNat) t else .bad
    | _ => .bad) := by
  refine PI.imp (pi_range1 (gl_of (by rw [C.scope]; exact hg)) (C.free "range" (by decide)) (pa_cons ha pa_nil (star_ord ho)) (star_ord ho)) fun σ H Z h => ?_
  obtain ⟨env, t, O, r, h⟩ := h
  refine tE.thenI r h fun d t1 v H1 e1 g1 r1 rv1 h1 => ?_
  cases d with
  | int n =>
    obtain rfl := rv1.int
    by_cases hs : small n = true
    · have hb := small_of hs
      simp only [hs, if_true] at h1
      refine ⟨n, rfl, by omega, by omega, h1 _ H1 Grow.refl r1.tw (gives_range ?_)⟩
      unfold lineN
      omega
    · simp only [hs] at h1
      exact h1.elim
  | _ => exact h1.elim
theorem snd_i_rng2 {tg ea eb : Expr} {p pos : Pos} {ra rb : Env → Tw → R PyData} (C : Ctx X y N sc) (hg : glB sc "range" = true) (ho : ordE ea = true) (ho2 : ordE eb = true) (ha : PE X ea (tE y true ra)) (hb : PE X eb (tE y true rb)) :
    PI X tg (.Call (.Name "range" p) [ea, eb] [] pos) (iI y fun env t => (ra env t).bind fun x t => (rb env t).bind fun w t => match x, w with
    | .int i, .int j => if small i && small j then .ok (rngs i 1 (j - i).toNat) t else .bad
    | _, _ => .bad) := by
  refine PI.imp (pi_range2 (gl_of (by rw [C.scope]; exact hg)) (C.free "range" (by decide)) (pa_cons ha (pa_cons hb pa_nil (star_ord ho2)) (star_ord ho)) (by rw [star_ord ho, star_ord ho2]; rfl) (star_ord ho2)) fun σ H Z h => ?_
  obtain ⟨env, t, O, r, h⟩ := h
  refine tE.thenI r h fun d t1 v H1 e1 g1 r1 rv1 h1 => ?_
  refine tE.thenI r1 h1 fun d2 t2 v2 H2 e2 g2 r2 rv2 h2 => ?_
  cases d with
  | int i =>
    cases d2 with
    | int j =>
      obtain rfl := rv1.int
      obtain rfl := rv2.int
      by_cases hs : (small i && small j) = true
      · have hb := hs
        simp only [Bool.and_eq_true] at hb
        have hb1 := small_of hb.1
        have hb2 := small_of hb.2
        simp only [hs, if_true] at h2
        refine ⟨i, j, rfl, ⟨by omega, by omega, by omega, by omega⟩, h2 _ H2 Grow.refl r2.tw (gives_range ?_)⟩
        unfold lineN
        omega
      · simp only [hs] at h2
        exact h2.elim
    | _ => exact h2.elim
  | _ => exact h2.elim
theorem snd_i_rng3 {tg ea eb ec : Expr} {p pos : Pos} {ra rb rc : Env → Tw → R PyData} (C : Ctx X y N sc) (hg : glB sc "range" = true) (ho : ordE ea = true) (ho2 : ordE eb = true) (ho3 : ordE ec = true) (ha : PE X ea (tE y true ra)) (hb : PE X eb (tE y true rb)) (hc : PE X ec (tE y true rc)) :
    PI X tg (.Call (.Name "range" p) [ea, eb, ec] [] pos) (iI y fun env t => (ra env t).bind fun x t => (rb env t).bind fun w t => (rc env t).bind fun z t => match x, w, z with
    | .int i, .int j, .int s => if small i && small j && decide (s = -1) then .ok (rngs i (-1) (i - j).toNat) t else .bad
    | _, _, _ => .bad) := by
  refine PI.imp (pi_range3 (gl_of (by rw [C.scope]; exact hg)) (C.free "range" (by decide)) (pa_cons ha (pa_cons hb (pa_cons hc pa_nil (star_ord ho3)) (star_ord ho2)) (star_ord ho)) (star_ord ho) (stars_ord (by simp [ho2, ho3]))) fun σ H Z h => ?_
  obtain ⟨env, t, O, r, h⟩ := h
  refine tE.thenI r h fun d t1 v H1 e1 g1 r1 rv1 h1 => ?_
  refine tE.thenI r1 h1 fun d2 t2 v2 H2 e2 g2 r2 rv2 h2 => ?_
  refine tE.thenI r2 h2 fun d3 t3 v3 H3 e3 g3 r3 rv3 h3 => ?_
  cases d with
  | int i =>
    cases d2 with
    | int j =>
      cases d3 with
      | int s =>
        obtain rfl := rv1.int
        obtain rfl := rv2.int
        obtain rfl := rv3.int
        by_cases hs : (small i && small j && decide (s = -1)) = true
        · have hb := hs
          simp only [Bool.and_eq_true, decide_eq_true_eq] at hb
          have hb1 := small_of hb.1.1
          have hb2 := small_of hb.1.2
          dsimp only at h3
          rw [if_pos hs] at h3
          obtain rfl := hb.2
          refine ⟨i, j, -1, (i - j).toNat, rfl, RgC.neg (by omega) (by omega) (by omega) (by omega), h3 _ H3 Grow.refl r3.tw (gives_rangeC ?_)⟩
          unfold lineN
          omega
        · simp only [hs] at h3
          exact h3.elim
      | _ => exact h3.elim
    | _ => exact h3.elim
  | _ => exact h3.elim
end
end Wv

set_option maxHeartbeats 4000000
namespace Wv
open PySem PySem.Spec PyProof.Rows L2
open Sem (wp)
open AutoSeq1 (wpAny_loadPart')

/-! ### enumerate over a tuple -/
theorem meets_enum1 {v : Value} {o : Obj} {Hh : Heap → Prop} (B : Begins v o Hh) :
    Meets (Builtin.«enumerate.__new__» ⟨[.type "enumerate", v], []⟩) (fun _ Rr s => Hh s.heap ∧
      Rr (.ok (.ret (.ref (s.heap.push o).objs.size))) { s with heap := (s.heap.push o).push { cls := .type "enumerate", data := .fields #[.none, .bool false, .ref s.heap.objs.size, rawInt 0, .none, .none] } }) :=
  .of_wp fun prog w A Rr s h => by
    obtain ⟨hp, gg, dd, tk, os⟩ := s
    obtain ⟨h1, h⟩ := h
    have hsub := sub_enumerate
    have it1 : ∀ {A' : Around} {E : Value → Shared → Prop} {Q : Value → Shared → Prop}, Q (.ref hp.objs.size) ⟨hp.push o, gg, dd, tk, os⟩ → wpAny (model prog w) A' (pyIter v) Q E ⟨hp, gg, dd, tk, os⟩ := fun q => B.iter prog w _ _ ⟨hp, gg, dd, tk, os⟩ _ h1 q
    wp_walk using it1
    refine wpAny_stack_any fun st => wpAny_pure ?_
    split
    · rename_i c _ _ _ _ _
      cases (c == Value.type "enumerate") <;> (wp_walk using it1; exact ⟨_, rfl, h⟩)
    · wp_walk using it1
      exact ⟨_, rfl, h⟩
theorem call_enum_tuple {prog : Program} {w : World} {A : Around} {E : Value → Shared → Prop} {s : Shared} {a : Addr} {items : Array Value} {Q : Value → Shared → Prop} (hT : s.heap.IsTuple a items)
    (h : ∀ h', IsEnum h' (s.heap.objs.size + 1) s.heap.objs.size 0 .none → h'.IsTupleIter s.heap.objs.size a 0 → (∀ b o, s.heap.get? b = some o → h'.get? b = some o) → Q (.ref (s.heap.objs.size + 1)) { s with heap := h' }) :
    wpAny (model prog w) A (call (.type "enumerate") [.ref a]) Q E s := by
  have B := begins_tuple a items
  refine callType_new F.called_enumerate (by decide) (F.typeCall_enumerate_1 _) (F.newCall_enumerate_1 _) (fun obj => F.args_object_init_2 obj _) F.entry_enumerate_new (meets_enum1 B) ⟨hT, ?_⟩
  have hz : (s.heap.push { cls := .type "tuple_iterator", data := .fields #[.ref a, .int 0 0] }).objs.size = s.heap.objs.size + 1 := Heap.size_push ..
  show _ ∧ _
  rw [hz]
  have he : IsEnum ((s.heap.push { cls := .type "tuple_iterator", data := .fields #[.ref a, .int 0 0] }).push { cls := .type "enumerate", data := .fields #[.none, .bool false, .ref s.heap.objs.size, rawInt 0, .none, .none] }) (s.heap.objs.size + 1) s.heap.objs.size 0 .none := by
    have q := Heap.get?_push_size (s.heap.push { cls := .type "tuple_iterator", data := .fields #[.ref a, .int 0 0] }) (o := { cls := .type "enumerate", data := .fields #[.none, .bool false, .ref s.heap.objs.size, rawInt 0, .none, .none] }) rfl
    rw [hz] at q
    exact q
  exact ⟨⟨_, he, rfl⟩, h _ he ⟨_, Heap.get?_push_of_some _ (Heap.get?_push_size _ rfl), rfl, rfl⟩ fun b o q => Heap.get?_push_of_some _ (Heap.get?_push_of_some _ q)⟩

/-- the tuple at a, its items in new pairs -/
def IteT (K : PySem.W.Frag) (a : Addr) : It where
  go := fun i H => ∃ (xs : List V) (v : V), SqT K H a xs ∧ xs[i]? = some v
  yld := fun i H v H' => ∃ T u, v = .ref T ∧ H T = none ∧ H' = upd H T (.tup [.int (i : Nat), u]) ∧ ∀ xs, SqT K H a xs → xs[i]? = some u
  stop := fun i H => ∃ xs : List V, SqT K H a xs ∧ xs.length = i
theorem turn_enumT {P : Program} {w : World} {K : PySem.W.Frag} {elts : List Expr} {kk : Nat} {tpos : Pos} (a e it : Addr) :
    Turn P w K (.Tuple elts kk tpos) (IteT K a) [e, it] e (fun i h => (∃ old, IsEnum h e it ((i : Nat) : Int) old) ∧ h.IsTupleIter it a i ∧ e ≠ it) where
  mem := by simp
  obj := fun i h st b hb => by
    obtain ⟨⟨old, he⟩, ⟨o, ho, hc, hd⟩, _⟩ := st
    rcases List.mem_cons.mp hb with q | q
    · rw [q]; exact ⟨_, he, fun v z => nomatch z⟩
    · rw [List.mem_singleton.mp q]; exact ⟨o, ho, fun v z => by rw [hd] at z; cases z⟩
  keep := fun i h h' st k => by
    obtain ⟨⟨old, he⟩, hi, hne⟩ := st
    exact ⟨⟨old, k e (by simp) _ he⟩, hi.at fun o q => k it (by simp) o q, hne⟩
  item := by
    intro X hP hw hK hc i pins s σ H E I hf st hg
    subst hP hw hK
    obtain ⟨⟨old, he⟩, hit, hne⟩ := st
    obtain ⟨xs, v, hq, hx⟩ := hg
    obtain ⟨its, rv, pt, hz⟩ := I.tuple hq
    obtain ⟨u, hu, ru⟩ := rv.get hx
    have ht : s.heap.IsTuple a its.toArray := pt
    have hla : i < its.toArray.size := by
      rw [List.size_toArray]
      exact (List.getElem?_eq_some_iff.mp hu).1
    have nai : a ≠ it := by
      rintro rfl
      obtain ⟨o1, e1, c1, _⟩ := hit
      obtain ⟨o2, e2, c2, _⟩ := ht
      rw [e1] at e2; cases e2
      rw [c1] at c2
      exact absurd (Value.type.inj c2) (by decide)
    have nea : e ≠ a := by
      rintro rfl
      obtain ⟨o2, e2, c2, _⟩ := ht
      have e1 : s.heap.get? e = some _ := he
      rw [e1] at e2; cases e2
      exact absurd (Value.type.inj c2) (by decide)
    have hel : e < s.heap.objs.size := Heap.lt_size he
    have hil : it < s.heap.objs.size := by obtain ⟨_, q, _⟩ := hit; exact Heap.lt_size q
    have hh : X.A.in1.handled = none := I.ok.hd hc
    refine wpAny_pyNext_enum_itemD (Draws.tuple hh it a nai its.toArray) he ⟨hit, ht⟩ hla hne (by simp [hne, nea]) fun ux h' tk hux ho hst hT hsz hk => ?_
    have hux' : ux = u := by
      have q : its.toArray[i]? = some u := by simpa using hu
      rw [q] at hux
      exact (Option.some.inj hux).symm
    subst hux'
    refine ⟨_, rfl, wpAny_letOwnedTupleGo_enum (s := { s with heap := h', toks := tk + 1 }) ho fun h2 he2 sb => ?_⟩
    have hT2 : h2.get? s.heap.objs.size = some { cls := .type "tuple", data := .seq #[.int i tk, ux] } := (sb.2 _ (Nat.ne_of_gt hel)).trans hT
    have made : ObjOk X.prog X.w (upd H s.heap.objs.size (.tup [.int (i : Nat), v])) h2 s.heap.objs.size (.tup [.int (i : Nat), v]) :=
      ⟨by show 2 ≤ sizeLine; decide, [.int i tk, ux], .cons ⟨_, rfl⟩ (.cons ru .nil), ⟨_, hT2, rfl, _, rfl⟩⟩
    have I1 : L2.Inv X pins σ (upd H s.heap.objs.size (.tup [.int (i : Nat), v])) { s with heap := h2, toks := tk + 1 } :=
      I.turnedNew (ch := [e, it]) (fun b ob hb q => (sb.2 b (fun z => hb (by simp [z]))).trans (hk b ob (fun z => hb (by simp [z])) (fun z => hb (by simp [z])) q)) hf (Nat.le_refl _) made
    refine ⟨.ref s.heap.objs.size, _, I1, rfl, ⟨_, v, rfl, I.hok.fresh (Nat.le_refl _), rfl, fun ys hy => by rw [I.tuple_inj hy hq]; exact hx⟩, ⟨⟨ux, ?_⟩, hst.1.at fun o q => (sb.2 it (Ne.symm hne)).trans q, hne⟩, fun b hb => ?_⟩
    · have e1 : ((i + 1 : Nat) : Int) = (i : Int) + 1 := by omega
      rw [e1]
      exact he2
    · have hb' : b < s.heap.objs.size := by
        rcases List.mem_cons.mp hb with z | z
        · rw [z]; exact hel
        · rw [List.mem_singleton.mp z]; exact hil
      rw [upd_ne (Nat.ne_of_lt hb')]
      exact (hf b hb).1
  done := by
    intro X hP hw hK hc i pins s σ H E I hf st hg
    subst hP hw hK
    obtain ⟨⟨old, he⟩, hit, hne⟩ := st
    obtain ⟨xs, hq, hx⟩ := hg
    obtain ⟨its, rv, pt, hz⟩ := I.tuple hq
    have ht : s.heap.IsTuple a its.toArray := pt
    obtain ⟨f0, f1, f2, f3, f4, f5⟩ := hf it (by simp)
    have hl := rv.length
    have hh : X.A.in1.handled = none := I.ok.hd hc
    have nai : a ≠ it := by
      rintro rfl
      obtain ⟨o1, e1, c1, _⟩ := hit
      obtain ⟨o2, e2, c2, _⟩ := ht
      rw [e1] at e2; cases e2
      rw [c1] at c2
      exact absurd (Value.type.inj c2) (by decide)
    have hn : its.toArray.size = i := by rw [List.size_toArray, ← hl]; exact hx
    subst hn
    exact wpAny_pyNext_enum_endD (Draws.tuple hh it a nai its.toArray) he ⟨hit, ht⟩ fun h' eb => ⟨rfl, I.turned (t' := s.toks) (fun b o hb q => eb b o hb q) f0 f1 f3 f4 f5⟩
  self := fun A i s Q E st h => by
    obtain ⟨⟨_, he⟩, _⟩ := st
    exact wpAny_pyIter_enum he h

section
variable {X : Cx} {y : Cy} {N : List Str} {sc : Scope} {m : Bool}
variable {env env' : Env} {t t' : Tw} {σ σ' : L2.St} {H H' : Hp} {O : List Addr} {Q : VK}
def iEnumT (K : PySem.W.Frag) (te : TE) : TI := fun σ H Z => te σ H fun v H1 => ∃ a xs, v = .ref a ∧ SqT K H1 a xs ∧ Z (IteT K a) H1
theorem pi_enumT {e : Expr} {te : TE} {p pos tpos : Pos} {elts : List Expr} {kk : Nat} (hg : Gl X "enumerate") (hm : X.mg "enumerate" = none) (he : PE X e te) (ho : ordE e = true) :
    PI X (.Tuple elts kk tpos) (.Call (.Name "enumerate" p) [e] [] pos) (iEnumT X.K te) := by
  have ha : PA X [e] (tCons te tNil) := pa_cons he pa_nil (star_ord ho)
  refine ⟨fun pins s σ H Z I h => ?_⟩
  refine Call_ (ld_blt I hg hm boot_enumerate (PyProof.Rows.callWith_type1 (thn (ha.run pos pins s σ H (fun vs H1 => match vs with
    | [v] => ∃ a xs, v = .ref a ∧ SqT X.K H1 a xs ∧ Z (IteT X.K a) H1
    | _ => False) I h) fun us s1 ⟨vs, H1, I1, r1, q1⟩ => ?_) (star_ord ho) rfl))
  dsimp only at q1
  split at q1
  · obtain ⟨a, xs, rfl, hq, q⟩ := q1
    cases r1 with
    | cons r rr =>
      cases rr
      cases r
      obtain ⟨its, rv, pt, hz⟩ := I1.tuple hq
      refine call_enum_tuple (show s1.heap.IsTuple a its.toArray from pt) fun h' hen hit hk => wpAny_pyIter_enum hen ?_
      have I2 : L2.Inv X pins σ H1 { s1 with heap := h' } := I1.kept (t' := s1.toks) hk
      refine ⟨s1.heap.objs.size + 1, [s1.heap.objs.size + 1, s1.heap.objs.size], _, _, H1, rfl, I2, turn_enumT a (s1.heap.objs.size + 1) s1.heap.objs.size, ⟨⟨.none, hen⟩, hit, Nat.succ_ne_self _⟩, fun b hb => ?_, q⟩
      have hle : s1.heap.objs.size ≤ b := by
        rcases List.mem_cons.mp hb with z | z
        · rw [z]; exact Nat.le_add_right _ _
        · rw [List.mem_singleton.mp z]; exact Nat.le_refl _
      exact I1.fpOk hle (I1.hok.fresh hle)
  · exact q1.elim
theorem zipIdx_get {α : Type} {xs : List α} {i : Nat} : (xs.zipIdx)[i]? = (xs[i]?).map fun x => (x, i) := by
  simp [List.getElem?_zipIdx]
theorem enum_new {a b : Addr} {v : V} {d : PyData} {H' : Hp} {O' : List Addr} {i : Nat} (dm : ∀ a, a ∈ O' → H' a ≠ none) (hb : H' b = none) (pv : Rp y.K y.z (hide O' H') v d) :
    (∀ a u, H' a = some u → upd H' b (.tup [.int (i : Nat), v]) a = some u) ∧ Rp y.K y.z (hide O' (upd H' b (.tup [.int (i : Nat), v]))) (.ref b) (.tuple [.int i, d]) := by
  have ext : ∀ a u, H' a = some u → upd H' b (.tup [.int (i : Nat), v]) a = some u := fun a u q => by rw [upd_ne (ne_of_none q hb)]; exact q
  refine ⟨ext, .tup (SqT.of (hide_of (fun q => dm b q hb) upd_same)) (by show 2 ≤ lineN; decide) (.cons (.int _) (.cons (pv.mono fun a u q => hide_of (hide_some q).1 (ext _ _ (hide_some q).2)) .nil))⟩
theorem gives_enumT {a : Addr} {xs : List V} {ds : List PyData} (h : SqT y.K (hide O H) a xs) (l : xs.length ≤ lineN) (p : RpAll y.K y.z (hide O H) xs ds) : Gives y (IteT y.K a) O H (ds.zipIdx.map fun q => .tuple [.int q.2, q.1]) := by
  refine ⟨by simp [← p.length]; exact l, fun i O' H' f dm => ?_⟩
  have h' : SqT y.K H' a xs := SqT.mono (fun a u q => hide_sub _ _ (f a u q)) h
  refine ⟨fun hi => ⟨xs, h', by simp at hi; rw [p.length]; exact hi⟩, fun d e => ?_⟩
  rw [List.getElem?_map, zipIdx_get] at e
  cases q : ds[i]? with
  | none => rw [q] at e; cases e
  | some d' =>
    rw [q] at e
    simp only [Option.map_some, Option.some.injEq] at e
    subst e
    obtain ⟨v, e1, pv⟩ := p.get q
    refine ⟨⟨xs, v, h', e1⟩, fun x H'' z => ?_⟩
    obtain ⟨T, u, rfl, hT, rfl, hu⟩ := z
    have := hu xs h'
    rw [e1] at this
    cases this
    exact enum_new (a := a) dm hT (pv.mono f)
theorem gives_enumL {a : Addr} {xs : List V} {ds : List PyData} (h : hide O H a = some (.lst xs)) (l : xs.length ≤ lineN) (p : RpAll y.K y.z (hide O H) xs ds) : Gives y (Ite y.K a) O H (ds.zipIdx.map fun q => .tuple [.int q.2, q.1]) := by
  refine ⟨by simp [← p.length]; exact l, fun i O' H' f dm => ?_⟩
  have h' : SqL y.K H' a xs := SqL.of (hide_sub _ _ (f _ _ h))
  refine ⟨fun hi => ⟨xs, h', by simp at hi; rw [p.length]; exact Nat.le_of_eq hi⟩, fun d e => ?_⟩
  rw [List.getElem?_map, zipIdx_get] at e
  cases q : ds[i]? with
  | none => rw [q] at e; cases e
  | some d' =>
    rw [q] at e
    simp only [Option.map_some, Option.some.injEq] at e
    subst e
    obtain ⟨v, e1, pv⟩ := p.get q
    refine ⟨⟨xs, v, h', e1⟩, fun x H'' z => ?_⟩
    obtain ⟨T, u, rfl, hT, rfl, hu⟩ := z
    have := hu xs h'
    rw [e1] at this
    cases this
    exact enum_new (a := a) dm hT (pv.mono f)
theorem snd_i_enm {e : Expr} {p pos tpos : Pos} {elts : List Expr} {kk : Nat} {ra : Env → Tw → R PyData} (C : Ctx X y N sc) (hg : glB sc "enumerate" = true) (ho : ordE e = true) (ha : PE X e (tE y false ra)) :
    PI X (.Tuple elts kk tpos) (.Call (.Name "enumerate" p) [e] [] pos) (iI y fun env t => (ra env t).bind fun d t => match d with
      | .list xs => .ok (xs.zipIdx.map fun p => .tuple [.int p.2, p.1]) t
      | .tuple xs => .ok (xs.zipIdx.map fun p => .tuple [.int p.2, p.1]) t
      | _ => .bad) := by
  have hgl : Gl X "enumerate" := gl_of (by rw [C.scope]; exact hg)
  refine PI.imp2 (pi_enum (elts := elts) (kk := kk) (tpos := tpos) hgl (C.free "enumerate" (by decide)) (pa_cons ha pa_nil (star_ord ho)) (star_ord ho)) (pi_enumT hgl (C.free "enumerate" (by decide)) ha ho) fun σ H Z h => ?_
  obtain ⟨env, t, O, r, h⟩ := h
  rw [C.K]
  by_cases hl : ∃ xs t1, ra env t = .ok (.tuple xs) t1
  · obtain ⟨xs, t1, e⟩ := hl
    refine .inr (tE.thenI r h fun d t1 v H1 e1 g1 r1 rv1 h1 => ?_)
    rw [e] at e1
    cases e1
    have p := rv1.share
    cases p with
    | tup h1' h2 h3 => exact ⟨_, _, rfl, SqT.mono hide_sub h1', h1 _ H1 Grow.refl r1.tw (gives_enumT h1' h2 h3)⟩
  · refine .inl (tE.thenI r h fun d t1 v H1 e1 g1 r1 rv1 h1 => ?_)
    cases d with
    | list ds =>
      have p := rv1.share
      cases p with
      | lst h1' h2 h3 => exact ⟨_, _, rfl, SqL.of (hide_sub _ _ h1'), h1 _ H1 Grow.refl r1.tw (gives_enumL h1' h2 h3)⟩
    | tuple ds => exact absurd ⟨ds, t1, e1⟩ hl
    | _ => exact h1.elim
end
end Wv

set_option maxHeartbeats 1000000
namespace Wv
open PySem L2

theorem lcLoop_noexc {f : PyData → Tw → R (List PyData)} {c : Nat} {t' : Tw} : ∀ {xs : List PyData} {t : Tw}, lcLoop f xs t ≠ .exc c t'
  | [], t, h => by simp [lcLoop] at h
  | x :: xs, t, h => by
    unfold lcLoop at h
    split at h
    · split at h <;> cases h
    · cases h
theorem lcLoop_cons {f : PyData → Tw → R (List PyData)} {x : PyData} {xs zs : List PyData} {t t' : Tw} (h : lcLoop f (x :: xs) t = .ok zs t') : ∃ ys t1 ws, f x t = .ok ys t1 ∧ lcLoop f xs t1 = .ok ws t' ∧ zs = ys ++ ws := by
  unfold lcLoop at h
  split at h
  · rename_i ys t1 e
    split at h
    · rename_i ws t2 e2
      cases h
      exact ⟨ys, t1, ws, e, e2, rfl⟩
    · cases h
  · cases h

section
variable {X : Cx} {y : Cy} {N : List Str} {sc : Scope} {m : Bool}
variable {env env' : Env} {t t' : Tw} {σ σ' : St} {H H' : Hp} {O : List Addr} {Q : VK}

/-- the wish that nothing is raised -/
def nox (y : Cy) : Cy := { y with W := fun _ _ _ _ => False }
theorem Rel.nox (r : Rel y env t σ H O) : Rel (nox y) env t σ H O := r.wish _
theorem Rv.ofNox {v : V} {d : PyData} (h : Rv (nox y) m O H v d) : Rv y m O H v d := h.unwish

/-- a list that is being made is lent: the state leans on all else -/
theorem Rel.lend {D : Addr} (r : Rel y env t σ H O) (hD : H D = none) (g : Grow y.z H H') (w : TwOk y.z H' t') (hD' : H' D ≠ none) : Rel y env t' σ H' (D :: O) := by
  have r' := r.after g w
  have mo : ∀ a u, hide O H a = some u → hide (D :: O) H' a = some u := fun a u h => by
    obtain ⟨h1, h2⟩ := hide_some h
    refine hide_of (fun q => ?_) (hide_some (r.mono g a u h)).2
    rcases List.mem_cons.mp q with rfl | q
    · rw [hD] at h2; cases h2
    · exact h1 q
  exact {
    len := r.len
    sh := fun i d e => by
      obtain ⟨v, e1, p⟩ := r.sh i d e
      exact ⟨v, e1, p.mono mo⟩
    ow := fun i d e => by
      obtain ⟨a, e1, p⟩ := r.ow i d e
      obtain ⟨xs, ds, h1, h2, h3, h4⟩ := p.is
      exact ⟨a, e1, List.mem_cons_of_mem _ p.mem, p.nT, p.nN, p.new, xs, ds, g _ _ h1 p.nT p.nN, h2, h3, h4.mono mo⟩
    inj := r.inj
    grow := r'.grow
    sub := fun a h => List.mem_cons_of_mem _ (r.sub a h)
    dom := fun a h => by
      rcases List.mem_cons.mp h with rfl | h
      · exact hD'
      · exact r'.dom a h
    tT := r.tT
    dom0 := r.dom0
    tN := r.tN
    ne := r.ne
    tw := w }
theorem hide_tail {D : Addr} : ∀ a u, hide (D :: O) H a = some u → hide O H a = some u := fun a u h => by
  obtain ⟨h1, h2⟩ := hide_some h
  exact hide_of (fun q => h1 (List.mem_cons_of_mem _ q)) h2
theorem hide_upd {D : Addr} {o : HO} : ∀ a u, hide (D :: O) H a = some u → hide (D :: O) (upd H D o) a = some u := fun a u h => by
  obtain ⟨h1, h2⟩ := hide_some h
  refine hide_of h1 ?_
  rw [upd_ne (fun e => h1 (by rw [e]; exact List.mem_cons_self))]
  exact h2
theorem Rel.notIn {D : Addr} (r : Rel y env t σ H O) (hD : H D = none) : D ∉ O := fun h => r.dom D h hD
theorem Rel.ne_town {D : Addr} (r : Rel y env t σ H O) (hD : H D = none) : D ≠ y.z.aT ∧ D ≠ y.z.aN := by
  constructor
  · rintro rfl; rw [r.tw.1] at hD; cases hD
  · rintro rfl; rw [r.tw.2.1] at hD; cases hD
theorem grow_ext (h : ∀ a u, H a = some u → H' a = some u) : Grow y.z H H' := fun a u q _ _ => h a u q
theorem tw_ext (w : TwOk y.z H t) (h : ∀ a u, H a = some u → H' a = some u) : TwOk y.z H' t := ⟨h _ _ w.1, h _ _ w.2.1, w.2.2⟩

/-! ### forgotten slots -/
theorem wipe_in {τ : St} {j : Nat} : ∀ {vs : List Nat}, j ∈ vs → j < τ.length → (L2.wipe τ vs)[j]? = some none
  | v :: vs, h, l => by
    unfold L2.wipe
    by_cases e : v = j
    · subst e
      rw [List.getElem?_set_self (by rw [wipe_length]; exact l)]
    · rw [List.getElem?_set_ne e]
      rcases List.mem_cons.mp h with q | q
      · exact absurd q.symm e
      · exact wipe_in q l
theorem wipe_same {τ τ' : St} {vs : List Nat} (l : τ.length = τ'.length) (h : ∀ j : Nat, j ∉ vs → τ[j]? = τ'[j]?) : L2.wipe τ vs = L2.wipe τ' vs := by
  apply List.ext_getElem?
  intro j
  by_cases hj : j ∈ vs
  · by_cases hl : j < τ.length
    · rw [wipe_in hj hl, wipe_in hj (by rw [← l]; exact hl)]
    · rw [List.getElem?_eq_none (by rw [wipe_length]; omega), List.getElem?_eq_none (by rw [wipe_length]; omega)]
  · rw [wipe_out hj, wipe_out hj]
    exact h j hj
def tgSlots : Tg → List Nat
  | .name i => [i]
  | .tup is => is
theorem setAll_length : ∀ (is : List Nat) (vs : List V) (τ : St), (setAll is vs τ).length = τ.length
  | [], _, _ => rfl
  | _ :: _, [], _ => rfl
  | i :: is, v :: vs, τ => by
    unfold setAll
    rw [setAll_length is vs, List.length_set]
theorem setAll_out {j : Nat} : ∀ (is : List Nat) (vs : List V) (τ : St), j ∉ is → (setAll is vs τ)[j]? = τ[j]?
  | [], _, _, _ => rfl
  | _ :: _, [], _, _ => rfl
  | i :: is, v :: vs, τ, h => by
    unfold setAll
    rw [setAll_out is vs _ (fun q => h (List.mem_cons_of_mem _ q)), List.getElem?_set_ne (fun e => h (by rw [e]; exact List.mem_cons_self))]
theorem tgSet_wipe {tg : Tg} {v : V} {ws : List V} {vs : List Nat} (h : ∀ i, i ∈ tgSlots tg → i ∈ vs) (τ : St) : L2.wipe (tgSet tg v ws (L2.wipe τ vs)) vs = L2.wipe τ vs := by
  have e : L2.wipe τ vs = L2.wipe (L2.wipe τ vs) vs := (wipe_same (by rw [wipe_length]) fun j hj => by rw [wipe_out hj]).symm
  rw [e]
  refine wipe_same ?_ fun j hj => ?_
  · cases tg with
    | name i => simp [tgSet, ← e]
    | tup is => simp [tgSet, setAll_length, ← e]
  · rw [← e]
    cases tg with
    | name i => exact List.getElem?_set_ne fun q => hj (by rw [← q]; exact h i (by simp [tgSlots]))
    | tup is => exact setAll_out is ws _ fun q => hj (h j q)

/-! ### a clause's tests -/
def tCd (y : Cy) (run : Env → Tw → R Bool) : TT := fun σ H Z => ∃ env t O, Rel y env t σ H O ∧ match run env t with
  | .ok b t' => ∀ H', Grow y.z H H' → TwOk y.z H' t' → Z b H'
  | .exc c t' => ∀ H', Grow y.z H H' → TwOk y.z H' t' → y.W (.ref (y.z.cls c)) none σ H'
  | .bad => False
theorem snd_c_none : PTs X [] (tCd y fun _ t => .ok true t) := ⟨fun pins s σ H Z I h => by
  obtain ⟨env, t, O, r, h⟩ := h
  exact pts_nil.run pins s σ H Z I (h H Grow.refl r.tw)⟩
theorem snd_c_some {e : Expr} {ra : Env → Tw → R PyData} (ha : PT X e (tT y ra)) : PTs X [e] (tCd y fun env t => (ra env t).bind fun d t => match d with
    | .bool b => .ok b t
    | _ => .bad) := ⟨fun pins s σ H Z I h => by
  refine (pts_one ha).run pins s σ H Z I ?_
  obtain ⟨env, t, O, r, h⟩ := h
  refine ⟨env, t, O, r, ?_⟩
  dsimp only at h
  cases e : ra env t with
  | bad => rw [e] at h; exact h
  | exc c t' => rw [e] at h; exact h
  | ok d t' =>
    rw [e] at h
    cases d with
    | bool b => exact ⟨b, rfl, h⟩
    | _ => exact False.elim h⟩

/-- the turn of a comprehension -/
abbrev lcTurn (tg : Tg) (vs : List Nat) (rc : Env → Tw → R Bool) (re : Env → Tw → R PyData) (env : Env) (x : PyData) (t : Tw) : R (List PyData) := match bindTg tg x (wipeE env vs) with
  | some env' => (rc env' t).bind fun b t => if b then (re env' t).bind fun d t => .ok [d] t else .ok [] t
  | none => .bad

/-- what is asked of a new list -/
def FinN (y : Cy) (O : List Addr) (σ : St) (Q : VK) (H : Hp) : R PyData → Prop
  | .ok d t' => ∃ ds, d = .list ds ∧ ∀ D acc H1 H2, Grow y.z H H1 → H1 D = none → D ∉ O → D ≠ y.z.aT → D ≠ y.z.aN → Grow y.z H1 H2 → TwOk y.z H2 t' → H2 D = some (.lst acc) → acc.length ≤ lineN → RpAll y.K y.z (hide (D :: O) H2) acc ds → Q (.ref D) H2
  | .exc c t' => ∀ H', Grow y.z H H' → TwOk y.z H' t' → y.W (.ref (y.z.cls c)) none σ H'
  | .bad => False
theorem FinN.of {Q : VK} {σ : St} (r : Rel y env t σ H O) {x : R PyData} (hx : ∀ d t', x = .ok d t' → ∃ ds, d = .list ds) (h : FinE y m O σ Q H x) : FinN y O σ Q H x := by
  cases x with
  | bad => exact h
  | exc c t' => exact h
  | ok d t' =>
    obtain ⟨ds, rfl⟩ := hx d t' rfl
    exact ⟨ds, rfl, fun D acc H1 H2 g1 hD nD _ _ g2 w hD2 l p => h _ H2 (g1.trans g2) w (.inl (.lst (hide_of nD hD2) l (p.mono hide_tail)))⟩
theorem lc1_core {tg : Tg} {vs : List Nat} {ri : Env → Tw → R (List PyData)} {rc : Env → Tw → R Bool} {re : Env → Tw → R PyData} {σ : St} {H : Hp} {Q : VK} (hsub : ∀ i, i ∈ tgSlots tg → i ∈ vs) (r : Rel y env t σ H O)
    (h : FinN y O σ Q H ((fun env t => (ri env t).bind fun xs t => (lcLoop (lcTurn tg vs rc re env) xs t).bind fun ys t => .ok (.list ys) t) env t)) :
    tLc (iI y ri) (gTg y.K tg) (tCd (nox y) rc) (tE (nox y) false re) vs σ H Q := by
  refine ⟨env, t, O, r, ?_⟩
  dsimp only at h
  cases e1 : ri env t with
  | bad => rw [e1] at h; exact h
  | exc c t1 => rw [e1] at h; exact h
  | ok ds t1 =>
    rw [e1] at h
    simp only [R.bind] at h
    intro J H1 g1 w1 gv D hD
    have r1 := r.after g1 w1
    cases e2 : lcLoop (lcTurn tg vs rc re env) ds t1 with
    | bad => rw [e2] at h; exact h.elim
    | exc c t2 => exact absurd e2 lcLoop_noexc
    | ok ys tf =>
      rw [e2] at h
      obtain ⟨_, hds, h⟩ := h
      cases hds
      have nD := r1.notIn hD
      obtain ⟨nT, nN⟩ := r1.ne_town hD
      have futD : ∀ H', Grow y.z H1 H' → Fut O H1 (D :: O) H' := fun H' g a u q => by
        obtain ⟨q1, q2⟩ := hide_some q
        refine hide_of (fun z => ?_) (hide_some (r1.mono g a u q)).2
        rcases List.mem_cons.mp z with rfl | z
        · rw [hD] at q2; cases q2
        · exact q1 z
      refine ⟨fun i k H' => k = ds.length - i ∧ i ≤ ds.length ∧ ∃ ti acc accd rest, lcLoop (lcTurn tg vs rc re env) (ds.drop i) ti = .ok rest tf ∧ accd ++ rest = ys ∧ Grow y.z H1 H' ∧ TwOk y.z H' ti ∧ H' D = some (.lst acc) ∧ acc.length ≤ i ∧ RpAll y.K y.z (hide (D :: O) H') acc accd, ?_, ?_⟩
      · obtain ⟨ga, wa, _⟩ := r1.new (o := .lst []) hD
        exact ⟨ds.length, by simp, Nat.zero_le _, t1, [], [], ys, by simpa using e2, rfl, ga, wa, upd_same, Nat.le_refl _, .nil⟩
      · rintro i k H2 ⟨rfl, hi, ti, acc, accd, rest, e3, rfl, g2, w2, hD2, hl, pa⟩
        have rl : Rel y env ti σ H2 (D :: O) := r1.lend hD g2 w2 (by rw [hD2]; simp)
        obtain ⟨gs, gn⟩ := gv.2 i (D :: O) H2 (futD H2 g2) rl.dom
        by_cases hlt : i < ds.length
        · obtain ⟨d, ed⟩ : ∃ d, ds[i]? = some d := ⟨ds[i], List.getElem?_eq_getElem hlt⟩
          obtain ⟨go, yl⟩ := gn d ed
          have edrop : ds.drop i = d :: ds.drop (i + 1) := by
            rw [List.drop_eq_getElem_cons hlt]
            congr 1
            rw [List.getElem?_eq_getElem hlt] at ed
            exact Option.some.inj ed
          rw [edrop] at e3
          obtain ⟨ys1, t2, ws, f1, f2, rfl⟩ := lcLoop_cons e3
          refine .inr ⟨go, fun H' => ds.length - (i + 1) = ds.length - (i + 1) ∧ i + 1 ≤ ds.length ∧ ∃ ti acc accd' rest, lcLoop (lcTurn tg vs rc re env) (ds.drop (i + 1)) ti = .ok rest tf ∧ accd' ++ rest = accd ++ (ys1 ++ ws) ∧ Grow y.z H1 H' ∧ TwOk y.z H' ti ∧ H' D = some (.lst acc) ∧ acc.length ≤ i + 1 ∧ RpAll y.K y.z (hide (D :: O) H') acc accd',
            fun H' q => ⟨ds.length - (i + 1), by omega, q⟩, fun x H3 q => ?_⟩
          obtain ⟨ext, px⟩ := yl x H3 q
          have g3 : Grow y.z H2 H3 := grow_ext ext
          have w3 : TwOk y.z H3 ti := tw_ext w2 ext
          have r3 : Rel y (wipeE env vs) ti (L2.wipe σ vs) H3 (D :: O) := (r1.lend hD (g2.trans g3) w3 (by rw [ext _ _ hD2]; simp)).wipe vs
          unfold lcTurn at f1
          cases eb : bindTg tg d (wipeE env vs) with
          | none => rw [eb] at f1; cases f1
          | some env' =>
            rw [eb] at f1
            simp only at f1
            refine tg_ok px eb fun ws' c4 => ⟨tgSet_wipe hsub σ, ?_⟩
            have r4 := c4 _ _ _ r3 Fut.refl
            refine ⟨env', ti, D :: O, r4.nox, ?_⟩
            cases ec : rc env' ti with
            | bad => rw [ec] at f1; cases f1
            | exc c t3 => rw [ec] at f1; cases f1
            | ok b t3 =>
              rw [ec] at f1
              simp only [R.bind] at f1
              intro H4 g4 w4
              have hD4 : H4 D = some (.lst acc) := g4 _ _ (ext _ _ hD2) nT nN
              cases b with
              | false =>
                rw [if_neg Bool.false_ne_true] at f1 ⊢
                cases f1
                refine ⟨rfl, hlt, _, acc, accd, ws, f2, by simp, (g2.trans g3).trans g4, w4, hD4, by omega, ?_⟩
                exact pa.mono fun a u q => (r4.mono g4) a u (hide_of (hide_some q).1 (ext _ _ (hide_some q).2))
              | true =>
                rw [if_pos rfl] at f1 ⊢
                refine ⟨env', t3, D :: O, (r4.after g4 w4).nox, ?_⟩
                cases ee : re env' t3 with
                | bad => rw [ee] at f1; cases f1
                | exc c t4 => rw [ee] at f1; cases f1
                | ok e t4 =>
                  rw [ee] at f1
                  cases f1
                  intro v H5 g5 w5 rv
                  have hD5 : H5 D = some (.lst acc) := g5 _ _ hD4 nT nN
                  have pv : Rp y.K y.z (hide (D :: O) H5) v e := rv.ofNox.share
                  have hn := gv.1
                  refine ⟨acc, hD5, by rw [line_eq]; omega, rfl, hlt, _, acc ++ [v], accd ++ [e], ws, f2, by simp, fun a u q n1 n2 => ?_, ⟨?_, ?_, w5.2.2⟩, upd_same, by simp; omega, ?_⟩
                  · rw [upd_ne (ne_of_none q hD)]
                    exact (((g2.trans g3).trans g4).trans g5) a u q n1 n2
                  · rw [upd_ne (Ne.symm nT)]; exact w5.1
                  · rw [upd_ne (Ne.symm nN)]; exact w5.2.1
                  · have p5 : RpAll y.K y.z (hide (D :: O) H5) acc accd := pa.mono fun a u q => ((r4.after g4 w4).mono g5) a u ((r4.mono g4) a u (hide_of (hide_some q).1 (ext _ _ (hide_some q).2)))
                    exact (p5.append (.cons pv .nil)).mono hide_upd
        · have ei : i = ds.length := by omega
          subst ei
          rw [List.drop_length] at e3
          simp only [lcLoop] at e3
          cases e3
          refine .inl ⟨gs rfl, h D acc H1 H2 g1 hD nD nT nN g2 w2 hD2 (Nat.le_trans hl gv.1) ?_⟩
          rw [List.append_nil]
          exact pa
theorem lc1_read {tg : Tg} {vs : List Nat} {ri : Env → Tw → R (List PyData)} {rc : Env → Tw → R Bool} {re : Env → Tw → R PyData} {σ : St} {H : Hp} {Q : VK} (hsub : ∀ i, i ∈ tgSlots tg → i ∈ vs)
    (h : tE y m (fun env t => (ri env t).bind fun xs t => (lcLoop (lcTurn tg vs rc re env) xs t).bind fun ys t => .ok (.list ys) t) σ H Q) :
    tLc (iI y ri) (gTg y.K tg) (tCd (nox y) rc) (tE (nox y) false re) vs σ H Q := by
  obtain ⟨env, t, O, r, h⟩ := tE_fin.mp h
  refine lc1_core hsub r (FinN.of r (fun d t' e => ?_) h)
  dsimp only at e
  cases e1 : ri env t with
  | bad => rw [e1] at e; cases e
  | exc c t1 => rw [e1] at e; cases e
  | ok ds t1 =>
    rw [e1] at e
    simp only [R.bind] at e
    cases e2 : lcLoop (lcTurn tg vs rc re env) ds t1 with
    | bad => rw [e2] at e; cases e
    | exc c t2 => rw [e2] at e; cases e
    | ok ys tf => rw [e2] at e; cases e; exact ⟨_, rfl⟩

/-- what stands behind a lent list stays while it is made longer -/
theorem fut_lent {D : Addr} {t1 : Tw} {H1 H2 : Hp} (r1 : Rel y env t1 σ H1 O) (hD : H1 D = none) (g : Grow y.z H1 H2) : Fut O H1 (D :: O) H2 := fun a u q => by
  obtain ⟨q1, q2⟩ := hide_some q
  refine hide_of (fun z => ?_) (hide_some (r1.mono g a u q)).2
  rcases List.mem_cons.mp z with rfl | z
  · rw [hD] at q2; cases q2
  · exact q1 z

abbrev lcTurn2 (tg : Tg) (vs : List Nat) (rc : Env → Tw → R Bool) (ri : Env → Tw → R (List PyData)) (f : Env → PyData → Tw → R (List PyData)) (env : Env) (x : PyData) (t : Tw) : R (List PyData) := match bindTg tg x (wipeE env vs) with
  | some env' => (rc env' t).bind fun b t => if b then (ri env' t).bind fun zs t => lcLoop (f env') zs t else .ok [] t
  | none => .bad

theorem lc2_core {tg tg2 : Tg} {vs vs2 : List Nat} {ri ri2 : Env → Tw → R (List PyData)} {rc rc2 : Env → Tw → R Bool} {re : Env → Tw → R PyData} {σ : St} {H : Hp} {Q : VK} (hsub : ∀ i, i ∈ tgSlots tg → i ∈ vs) (hsub2 : ∀ i, i ∈ tgSlots tg2 → i ∈ vs2) (r : Rel y env t σ H O)
    (h : FinN y O σ Q H ((fun env t => (ri env t).bind fun xs t => (lcLoop (lcTurn2 tg vs rc ri2 (fun env' => lcTurn tg2 vs2 rc2 re env') env) xs t).bind fun ys t => R.of (okIf (decide (ys.length ≤ lineN)) (.list ys)) t) env t)) :
    tLc2 (iI y ri) (gTg y.K tg) (tCd (nox y) rc) (iI (nox y) ri2) (gTg y.K tg2) (tCd (nox y) rc2) (tE (nox y) false re) vs vs2 σ H Q := by
  refine ⟨env, t, O, r, ?_⟩
  dsimp only at h
  cases e1 : ri env t with
  | bad => rw [e1] at h; exact h
  | exc c t1 => rw [e1] at h; exact h
  | ok ds t1 =>
    rw [e1] at h
    simp only [R.bind] at h
    intro J H1 g1 w1 gv D hD
    have r1 := r.after g1 w1
    cases e2 : lcLoop (lcTurn2 tg vs rc ri2 (fun env' => lcTurn tg2 vs2 rc2 re env') env) ds t1 with
    | bad => rw [e2] at h; exact h.elim
    | exc c t2 => exact absurd e2 lcLoop_noexc
    | ok ys tf =>
      rw [e2] at h
      simp only at h
      by_cases hys : ys.length ≤ lineN
      · rw [okIf, if_pos (decide_eq_true hys)] at h
        obtain ⟨_, hds, h⟩ := h
        cases hds
        have nD := r1.notIn hD
        obtain ⟨nT, nN⟩ := r1.ne_town hD
        refine ⟨fun i k H' => k = ds.length - i ∧ i ≤ ds.length ∧ ∃ ti acc accd rest, lcLoop (lcTurn2 tg vs rc ri2 (fun env' => lcTurn tg2 vs2 rc2 re env') env) (ds.drop i) ti = .ok rest tf ∧ accd ++ rest = ys ∧ Grow y.z H1 H' ∧ TwOk y.z H' ti ∧ H' D = some (.lst acc) ∧ RpAll y.K y.z (hide (D :: O) H') acc accd, ?_, ?_⟩
        · obtain ⟨ga, wa, _⟩ := r1.new (o := .lst []) hD
          exact ⟨ds.length, by simp, Nat.zero_le _, t1, [], [], ys, by simpa using e2, rfl, ga, wa, upd_same, .nil⟩
        · rintro i k H2 ⟨rfl, hi, ti, acc, accd, rest, e3, hrest, g2, w2, hD2, pa⟩
          have rl : Rel y env ti σ H2 (D :: O) := r1.lend hD g2 w2 (by rw [hD2]; simp)
          obtain ⟨gs, gn⟩ := gv.2 i (D :: O) H2 (fut_lent r1 hD g2) rl.dom
          by_cases hlt : i < ds.length
          · obtain ⟨d, ed⟩ : ∃ d, ds[i]? = some d := ⟨ds[i], List.getElem?_eq_getElem hlt⟩
            obtain ⟨go, yl⟩ := gn d ed
            have edrop : ds.drop i = d :: ds.drop (i + 1) := by
              rw [List.drop_eq_getElem_cons hlt]
              congr 1
              rw [List.getElem?_eq_getElem hlt] at ed
              exact Option.some.inj ed
            rw [edrop] at e3
            obtain ⟨ys1, t2, ws, f1, f2, rfl⟩ := lcLoop_cons e3
            refine .inr ⟨go, fun H' => ds.length - (i + 1) = ds.length - (i + 1) ∧ i + 1 ≤ ds.length ∧ ∃ ti acc accd' rest, lcLoop (lcTurn2 tg vs rc ri2 (fun env' => lcTurn tg2 vs2 rc2 re env') env) (ds.drop (i + 1)) ti = .ok rest tf ∧ accd' ++ rest = ys ∧ Grow y.z H1 H' ∧ TwOk y.z H' ti ∧ H' D = some (.lst acc) ∧ RpAll y.K y.z (hide (D :: O) H') acc accd',
              fun H' q => ⟨ds.length - (i + 1), by omega, q⟩, fun x H3 q => ?_⟩
            obtain ⟨ext, px⟩ := yl x H3 q
            have g3 : Grow y.z H2 H3 := grow_ext ext
            have w3 : TwOk y.z H3 ti := tw_ext w2 ext
            have r3 : Rel y (wipeE env vs) ti (L2.wipe σ vs) H3 (D :: O) := (r1.lend hD (g2.trans g3) w3 (by rw [ext _ _ hD2]; simp)).wipe vs
            have p3 : RpAll y.K y.z (hide (D :: O) H3) acc accd := pa.mono fun a u q => hide_of (hide_some q).1 (ext _ _ (hide_some q).2)
            unfold lcTurn2 at f1
            cases eb : bindTg tg d (wipeE env vs) with
            | none => rw [eb] at f1; cases f1
            | some env' =>
              rw [eb] at f1
              simp only at f1
              refine tg_ok px eb fun ws' c4 => ⟨tgSet_wipe hsub σ, ?_⟩
              have r4 := c4 _ _ _ r3 Fut.refl
              refine ⟨env', ti, D :: O, r4.nox, ?_⟩
              cases ec : rc env' ti with
              | bad => rw [ec] at f1; cases f1
              | exc c t3 => rw [ec] at f1; cases f1
              | ok b t3 =>
                rw [ec] at f1
                simp only [R.bind] at f1
                intro H4 g4 w4
                have hD4 : H4 D = some (.lst acc) := g4 _ _ (ext _ _ hD2) nT nN
                have p4 : RpAll y.K y.z (hide (D :: O) H4) acc accd := p3.mono (r4.mono g4)
                cases b with
                | false =>
                  rw [if_neg Bool.false_ne_true] at f1 ⊢
                  cases f1
                  exact ⟨rfl, hlt, _, acc, accd, ws, f2, by rw [← hrest]; simp, (g2.trans g3).trans g4, w4, hD4, p4⟩
                | true =>
                  rw [if_pos rfl] at f1 ⊢
                  have r4' := r4.after g4 w4
                  refine ⟨env', t3, D :: O, r4'.nox, ?_⟩
                  cases ei : ri2 env' t3 with
                  | bad => rw [ei] at f1; cases f1
                  | exc c t4 => rw [ei] at f1; cases f1
                  | ok zs t4 =>
                    rw [ei] at f1
                    simp only at f1
                    intro J2 H5 g5 w5 gv2
                    have hD5 : H5 D = some (.lst acc) := g5 _ _ hD4 nT nN
                    have r5 := r4'.after g5 w5
                    have p5 : RpAll y.K y.z (hide (D :: O) H5) acc accd := p4.mono (r4'.mono g5)
                    have g15 : Grow y.z H1 H5 := ((g2.trans g3).trans g4).trans g5
                    have f35 : Fut (D :: O) H3 (D :: O) H5 := Fut.trans (r4.mono g4) (r4'.mono g5)
                    refine ⟨fun j k H' => k = zs.length - j ∧ j ≤ zs.length ∧ ∃ tj acc accd' rest, lcLoop (lcTurn tg2 vs2 rc2 re env') (zs.drop j) tj = .ok rest t2 ∧ accd' ++ rest = accd ++ ys1 ∧ Grow y.z H1 H' ∧ Fut (D :: O) H5 (D :: O) H' ∧ TwOk y.z H' tj ∧ H' D = some (.lst acc) ∧ RpAll y.K y.z (hide (D :: O) H') acc accd',
                      ⟨zs.length, by simp, Nat.zero_le _, t4, acc, accd, ys1, by simpa using f1, rfl, g15, Fut.refl, w5, hD5, p5⟩, ?_⟩
                    rintro j k H6 ⟨rfl, hj, tj, acc6, accd6, rest6, e6, hr6, g16, f56, w6, hD6, p6⟩
                    have rl6 : Rel y env tj σ H6 (D :: O) := r1.lend hD g16 w6 (by rw [hD6]; simp)
                    obtain ⟨gs2, gn2⟩ := gv2.2 j (D :: O) H6 f56 rl6.dom
                    by_cases hlt2 : j < zs.length
                    · obtain ⟨z, ez⟩ : ∃ z, zs[j]? = some z := ⟨zs[j], List.getElem?_eq_getElem hlt2⟩
                      obtain ⟨go2, yl2⟩ := gn2 z ez
                      have edrop2 : zs.drop j = z :: zs.drop (j + 1) := by
                        rw [List.drop_eq_getElem_cons hlt2]
                        congr 1
                        rw [List.getElem?_eq_getElem hlt2] at ez
                        exact Option.some.inj ez
                      rw [edrop2] at e6
                      obtain ⟨ys2, t7, ws2, k1, k2, rfl⟩ := lcLoop_cons e6
                      refine .inr ⟨go2, fun H' => zs.length - (j + 1) = zs.length - (j + 1) ∧ j + 1 ≤ zs.length ∧ ∃ tj acc accd' rest, lcLoop (lcTurn tg2 vs2 rc2 re env') (zs.drop (j + 1)) tj = .ok rest t2 ∧ accd' ++ rest = accd ++ ys1 ∧ Grow y.z H1 H' ∧ Fut (D :: O) H5 (D :: O) H' ∧ TwOk y.z H' tj ∧ H' D = some (.lst acc) ∧ RpAll y.K y.z (hide (D :: O) H') acc accd',
                        fun H' q => ⟨zs.length - (j + 1), by omega, q⟩, fun x2 H7 q2 => ?_⟩
                      obtain ⟨ext7, px7⟩ := yl2 x2 H7 q2
                      have g67 : Grow y.z H6 H7 := grow_ext ext7
                      have w7 : TwOk y.z H7 tj := tw_ext w6 ext7
                      have f67 : Fut (D :: O) H6 (D :: O) H7 := fun a u q => hide_of (hide_some q).1 (ext7 _ _ (hide_some q).2)
                      have rb7 : Rel y (wipeE env vs) tj (L2.wipe σ vs) H7 (D :: O) := (r1.lend hD (g16.trans g67) w7 (by rw [ext7 _ _ hD6]; simp)).wipe vs
                      have r7 := (c4 _ _ _ rb7 ((f35.trans f56).trans f67)).wipe vs2
                      unfold lcTurn at k1
                      cases eb2 : bindTg tg2 z (wipeE env' vs2) with
                      | none => rw [eb2] at k1; cases k1
                      | some env2 =>
                        rw [eb2] at k1
                        simp only at k1
                        refine tg_ok px7 eb2 fun ws8 c8 => ⟨tgSet_wipe hsub2 _, ?_⟩
                        have r8 := c8 _ _ _ r7 Fut.refl
                        refine ⟨env2, tj, D :: O, r8.nox, ?_⟩
                        cases ec2 : rc2 env2 tj with
                        | bad => rw [ec2] at k1; cases k1
                        | exc c t9 => rw [ec2] at k1; cases k1
                        | ok b t9 =>
                          rw [ec2] at k1
                          simp only [R.bind] at k1
                          intro H9 g9 w9
                          have hD9 : H9 D = some (.lst acc6) := g9 _ _ (ext7 _ _ hD6) nT nN
                          have f69 : Fut (D :: O) H6 (D :: O) H9 := f67.trans (r8.mono g9)
                          cases b with
                          | false =>
                            rw [if_neg Bool.false_ne_true] at k1 ⊢
                            cases k1
                            exact ⟨rfl, hlt2, _, acc6, accd6, ws2, k2, by rw [← hr6]; simp, (g16.trans g67).trans g9, f56.trans f69, w9, hD9, p6.mono f69⟩
                          | true =>
                            rw [if_pos rfl] at k1 ⊢
                            have r9 := r8.after g9 w9
                            refine ⟨env2, t9, D :: O, r9.nox, ?_⟩
                            cases ee : re env2 t9 with
                            | bad => rw [ee] at k1; cases k1
                            | exc c t10 => rw [ee] at k1; cases k1
                            | ok e t10 =>
                              rw [ee] at k1
                              cases k1
                              intro v Hv gv' wv rv
                              have hDv : Hv D = some (.lst acc6) := gv' _ _ hD9 nT nN
                              have pv : Rp y.K y.z (hide (D :: O) Hv) v e := rv.ofNox.share
                              have fv : Fut (D :: O) H6 (D :: O) Hv := f69.trans (r9.mono gv')
                              have la : acc6.length < lineN := by
                                have e1 := congrArg List.length hrest
                                have e2 := congrArg List.length hr6
                                have e3 := p6.length
                                simp only [List.length_append, List.length_cons, List.length_nil] at e1 e2
                                omega
                              refine ⟨acc6, hDv, by rw [line_eq]; exact la, rfl, hlt2, _, acc6 ++ [v], accd6 ++ [e], ws2, k2, by rw [← hr6]; simp, fun a u q n1 n2 => ?_, fun a u q => hide_upd a u (f56.trans fv a u q), ⟨?_, ?_, wv.2.2⟩, upd_same, ?_⟩
                              · rw [upd_ne (ne_of_none q hD)]
                                exact (((g16.trans g67).trans g9).trans gv') a u q n1 n2
                              · rw [upd_ne (Ne.symm nT)]; exact wv.1
                              · rw [upd_ne (Ne.symm nN)]; exact wv.2.1
                              · exact ((p6.mono fv).append (.cons pv .nil)).mono hide_upd
                    · have ej : j = zs.length := by omega
                      subst ej
                      rw [List.drop_length] at e6
                      simp only [lcLoop] at e6
                      cases e6
                      refine .inl ⟨gs2 rfl, rfl, hlt, _, acc6, accd6, ws, f2, ?_, g16, w6, hD6, p6⟩
                      rw [List.append_nil] at hr6
                      rw [hr6, ← hrest]
                      simp
          · have ei : i = ds.length := by omega
            subst ei
            rw [List.drop_length] at e3
            simp only [lcLoop] at e3
            cases e3
            rw [List.append_nil] at hrest
            subst hrest
            exact .inl ⟨gs rfl, h D acc H1 H2 g1 hD nD nT nN g2 w2 hD2 (by rw [pa.length]; exact hys) pa⟩
      · rw [okIf, if_neg (by simpa using hys)] at h
        exact h.elim
theorem lc2_read {tg tg2 : Tg} {vs vs2 : List Nat} {ri ri2 : Env → Tw → R (List PyData)} {rc rc2 : Env → Tw → R Bool} {re : Env → Tw → R PyData} {σ : St} {H : Hp} {Q : VK} (hsub : ∀ i, i ∈ tgSlots tg → i ∈ vs) (hsub2 : ∀ i, i ∈ tgSlots tg2 → i ∈ vs2)
    (h : tE y m (fun env t => (ri env t).bind fun xs t => (lcLoop (lcTurn2 tg vs rc ri2 (fun env' => lcTurn tg2 vs2 rc2 re env') env) xs t).bind fun ys t => R.of (okIf (decide (ys.length ≤ lineN)) (.list ys)) t) σ H Q) :
    tLc2 (iI y ri) (gTg y.K tg) (tCd (nox y) rc) (iI (nox y) ri2) (gTg y.K tg2) (tCd (nox y) rc2) (tE (nox y) false re) vs vs2 σ H Q := by
  obtain ⟨env, t, O, r, h⟩ := tE_fin.mp h
  refine lc2_core hsub hsub2 r (FinN.of r (fun d t' e => ?_) h)
  dsimp only at e
  cases e1 : ri env t with
  | bad => rw [e1] at e; cases e
  | exc c t1 => rw [e1] at e; cases e
  | ok ds t1 =>
    rw [e1] at e
    simp only [R.bind] at e
    cases e2 : lcLoop (lcTurn2 tg vs rc ri2 (fun env' => lcTurn tg2 vs2 rc2 re env') env) ds t1 with
    | bad => rw [e2] at e; cases e
    | exc c t2 => rw [e2] at e; cases e
    | ok ys tf =>
      rw [e2] at e
      simp only at e
      by_cases hys : ys.length ≤ lineN
      · rw [okIf, if_pos (decide_eq_true hys)] at e
        cases e
        exact ⟨_, rfl⟩
      · rw [okIf, if_neg (by simpa using hys)] at e
        cases e
end
end Wv

set_option maxHeartbeats 1000000
namespace Wv
open PySem L2

/-! ### what a def promises -/
def spOf (K : PySem.W.Frag) (z : Cz) (np : Nat) (G : List PyData → Tw → R PyData) : Sp := fun vs H Q E => vs.length = np ∧ ∃ O ds t, (∀ a, a ∈ O → H a ≠ none) ∧ z.aT ∈ O ∧ z.aN ∈ O ∧ z.aT ≠ z.aN ∧ TwOk z H t ∧ RpAll K z (hide O H) vs ds ∧ match G ds t with
  | .ok d t' => ∀ v H', Grow z H H' → TwOk z H' t' → Rp K z (hide O H') v d → Q v H'
  | .exc c t' => ∀ H', Grow z H H' → TwOk z H' t' → E (.ref (z.cls c)) none H'
  | .bad => False

/-- how a def is called: all by place; or a last parameter 'liars' by its name, with a default -/
inductive Kd where
  | pos
  | kw
deriving DecidableEq

structure FnAt (P : Program) (w : World) (K : PySem.W.Frag) (mg : Str → Option Value) (base : Heap) (z : Cz) (k : Nat) (G : List PyData → Tw → R PyData) (x : Str) (np : Nat) (kd : Kd) : Prop where
  ex : ∃ (a : Addr) (fd : FuncData) (ps : List Str), mg x = some (.ref a) ∧ PySem.W.keepIn K (.ref a) = true ∧ FnOk P w K mg base (L2.CX P w) k a fd ps (spOf K z np G) ∧
    (kd = .pos → Binds K fd ps []) ∧
    (kd = .kw → (∃ (T : Addr) (ds : List Value), SqT K (fun _ => none) T [] ∧ Vals [.ref T] ds ∧ Binds K fd ps ds) ∧ ∃ n, n + 1 = ps.length ∧ KBn K fd ps n ["liars"] (fun us ws => us ++ ws) (fun us ws => us ++ ws))
  nm : (x == ("__debug__" : Str)) = false

/-- what stands behind a class of refusals -/
def veT : List Value := [.type "ValueError", .type "Exception", .type "BaseException", .type "object"]
structure Gt where
  fn : Nat → Option (Str × Nat × Kd)
  exc : Nat → Option Str
  cst : Str → Option PyData

/-- what is known of the classes of refusals; 0 is the one above all others -/
structure ExcF (K : PySem.W.Frag) (mg : Str → Option Value) (z : Cz) (exc : Nat → Option Str) : Prop where
  mgs : ∀ c x, exc c = some x → mg x = some (.ref (z.cls c)) ∧ (x == ("__debug__" : Str)) = false
  mks : ∀ c x, exc c = some x → PySem.W.excIn K (z.cls c) veT "ValueError.__new__" = true ∧ PySem.W.keepIn K (.ref (z.cls c)) = true ∧ PySem.W.subIn K (.ref (z.cls c)) (.type "BaseException") = some true ∧ PySem.W.typeIn K (.ref (z.cls c)) = some (.type "type")
  is : ∀ c x, exc c = some x → ExcC K (z.cls c)
  kit : ∀ c x c' x', exc c = some x → exc c' = some x' → PySem.W.kitOne K (.ref (z.cls c)) (.ref (z.cls c')) = some (decide (c' = 0) || decide (c = c'))
  ve : ∀ c x, exc c = some x → PySem.W.kitOne K (.ref (z.cls c)) (.type "ValueError") = some true
  exm : ∀ c x x', exc c = some x → exc 0 = some x' → PySem.W.exmOne K (.ref (z.cls c)) (.ref (z.cls 0)) = some true

structure Cxx (X : Cx) (y : Cy) (N : List Str) (sc : Scope) (g : Gt) (F : Nat → List PyData → Tw → R PyData) (k : Nat) : Prop extends Ctx X y N sc where
  fns : ∀ f x np kd, g.fn f = some (x, np, kd) → FnAt X.prog X.w X.K X.mg X.base y.z k (F f) x np kd
  csts : ∀ x d, g.cst x = some d → ∃ (u : Value) (v : V), X.mg x = some u ∧ RelV v u ∧ (∀ H, Rp y.K y.z H v d) ∧ (x == ("__debug__" : Str)) = false
  room : Room k X.A
  exf : ExcF X.K X.mg y.z g.exc

section
variable {X : Cx} {y : Cy} {N : List Str} {sc : Scope} {m : Bool} {g : Gt} {F : Nat → List PyData → Tw → R PyData} {k : Nat}
variable {env env' : Env} {t t' : Tw} {σ σ' : St} {H H' : Hp} {O : List Addr} {Q : VK}

/-- a block within -/
theorem Cxx.blk (C : Cxx X y N sc g F k) (scope : Scope) (s : Shared) (H : Hp) (c : Addr) (cl : List (Str × Addr)) (fp : List Addr) : Cxx (X.blk s H scope (compEnvC scope cl c X.env) fp) (nox y) N (relS scope sc) g F k where
  scope := by
    show relS scope X.env.scope = relS scope sc
    rw [C.scope]
  names := C.names
  K := C.K
  calm := C.calm
  nd := C.nd
  units := C.units
  tk := takes0
  free := C.free
  fns := C.fns
  csts := C.csts
  room := C.room
  exf := C.exf

theorem spOf_call {np : Nat} {G : List PyData → Tw → R PyData} {vs : List V} {ds : List PyData} (r : Rel y env t σ H O) (hl : vs.length = np) (h : RpAll y.K y.z (hide O H) vs ds) (q : FinE y m O σ Q H (G ds t)) : spOf y.K y.z np G vs H Q (WE y.W σ) := by
  refine ⟨hl, O, ds, t, r.dom, r.sub _ r.tT, r.sub _ r.tN, r.ne, r.tw, h, ?_⟩
  cases e : G ds t with
  | bad => rw [e] at q; exact q
  | exc c t' => rw [e] at q; exact q
  | ok d t' => rw [e] at q; exact fun v H' g w p => q v H' g w (.inl p)
/-- a call that is given another number of values than the def has comes to nothing -/
def Arity (g : Gt) (F : Nat → List PyData → Tw → R PyData) : Prop := ∀ f x np kd ds t, g.fn f = some (x, np, kd) → ds.length ≠ np → F f ds t = .bad

theorem snd_call {f : Nat} {x : Str} {np : Nat} {es : List Expr} {p pos : Pos} {rs : Env → Tw → R (List PyData)} (C : Cxx X y N sc g F k) (ar : Arity g F) (hf : g.fn f = some (x, np, .pos)) (hg : glB sc x = true) (ne : es ≠ []) (ho : es.all ordE = true) (h : PA X es (tL y false rs)) :
    PE X (.Call (.Name x p) es [] pos) (tE y m fun env t => (rs env t).bind fun ds t => F f ds t) := by
  cases es with
  | nil => exact absurd rfl ne
  | cons e es =>
    obtain ⟨⟨a, fd, ps, hm, hk, fo, hb, _⟩, nm⟩ := C.fns f x np .pos hf
    have ho' := ho
    simp only [List.all_cons, Bool.and_eq_true] at ho
    refine PE.imp (pe_callSD (E := WE y.W) fo C.room (gl_of (by rw [C.scope]; exact hg)) hm hk (hb rfl) .nil (fun σ => passAt C.tk σ) h nm (star_ord ho.1) (stars_ord ho.2)) fun σ H Q q => ?_
    obtain ⟨env, t, O, r, q⟩ := tE_fin.mp q
    refine tL.then r q fun ds t1 vs H1 e g1 r1 rv z => ?_
    rw [List.append_nil, C.K]
    have ps' := pair_share rv
    by_cases hn : ds.length = np
    · exact spOf_call r1 (by rw [ps'.length]; exact hn) ps' z
    · rw [ar f x np .pos ds t1 hf hn] at z
      exact z.elim
theorem snd_call0 {f : Nat} {x : Str} {p pos : Pos} (C : Cxx X y N sc g F k) (hf : g.fn f = some (x, 0, .pos)) (hg : glB sc x = true) :
    PE X (.Call (.Name x p) [] [] pos) (tE y m fun _ t => match F f [] t with
      | .ok d t => .ok d t
      | _ => .bad) := by
  obtain ⟨⟨a, fd, ps, hm, hk, fo, hb, _⟩, nm⟩ := C.fns f x 0 .pos hf
  refine PE.imp (pe_call0 (E := E0) fo C.room (gl_of (by rw [C.scope]; exact hg)) hm hk (hb rfl) .nil passL nm) fun σ H Q q => ?_
  obtain ⟨env, t, O, r, q⟩ := q
  refine ⟨rfl, O, [], t, r.dom, r.sub _ r.tT, r.sub _ r.tN, r.ne, r.tw, .nil, ?_⟩
  dsimp only at q
  rw [C.K]
  cases e : F f [] t with
  | bad => rw [e] at q; exact q
  | exc c t' => rw [e] at q; exact q.elim
  | ok d t' => rw [e] at q; exact fun v H' g w p => q v H' g w (.inl p)
theorem snd_callD {f : Nat} {x : Str} {np : Nat} {es : List Expr} {p pos : Pos} {rs : Env → Tw → R (List PyData)} (C : Cxx X y N sc g F k) (ar : Arity g F) (hf : g.fn f = some (x, np, .kw)) (hg : glB sc x = true) (ne : es ≠ []) (ho : es.all ordE = true) (h : PA X es (tL y false rs)) :
    PE X (.Call (.Name x p) es [] pos) (tE y m fun env t => (rs env t).bind fun ds t => F f (ds ++ [.tuple []]) t) := by
  cases es with
  | nil => exact absurd rfl ne
  | cons e es =>
    obtain ⟨⟨a, fd, ps, hm, hk, fo, _, hb⟩, nm⟩ := C.fns f x np .kw hf
    obtain ⟨⟨T, dv, hT, hv, hb⟩, _⟩ := hb rfl
    simp only [List.all_cons, Bool.and_eq_true] at ho
    refine PE.imp (pe_callSD (E := WE y.W) fo C.room (gl_of (by rw [C.scope]; exact hg)) hm hk hb hv (fun σ => passAt C.tk σ) h nm (star_ord ho.1) (stars_ord ho.2)) fun σ H Q q => ?_
    obtain ⟨env, t, O, r, q⟩ := tE_fin.mp q
    refine tL.then r q fun ds t1 vs H1 e g1 r1 rv z => ?_
    rw [C.K]
    rw [C.K] at hT
    have pT : Rp y.K y.z (hide O H1) (.ref T) (.tuple []) := .tup (SqT.mono (fun a u q => by cases q) hT) (Nat.zero_le _) .nil
    have ps' := (pair_share rv).append (.cons pT .nil)
    by_cases hn : (ds ++ [PyData.tuple []]).length = np
    · exact spOf_call r1 (by rw [ps'.length]; exact hn) ps' z
    · rw [ar f x np .kw _ t1 hf hn] at z
      exact z.elim

/-- a call with one keyword, what is raised wished for at the slots -/
theorem pe_callKS {n : Nat} {a : Addr} {fd : FuncData} {ps : List Str} {sp : Sp} {E : St → XK} {x kn : Str} {p pos kp : Pos} {e ke : Expr} {es : List Expr} {ta : TA} {tk : TE} (fo : FnOk X.prog X.w X.K X.mg X.base (L2.CX X.prog X.w) k a fd ps sp) (hr : Room k X.A) (hg : Gl X x) (hm : X.mg x = some (.ref a)) (hk : PySem.W.keepIn X.K (.ref a) = true)
    (hn : n + 1 = ps.length) (hb : KBn X.K fd ps n [kn] (fun us ws => us ++ ws) (fun us ws => us ++ ws)) (hx : ∀ σ, PassesAt (L2.CX X.prog X.w) X σ (E σ)) (ha : PA X (e :: es) ta) (hke : PE X ke tk) (hdb : (x == ("__debug__" : Str)) = false)
    (he : starEach (e :: es) X.env = (false, eval e X.env) :: starEach es X.env) (hpl : (backTo pos (starEach es X.env)).any (·.1) = false) :
    PE X (.Call (.Name x p) (e :: es) [⟨some kn, ke, kp⟩] pos) (fun σ H Q => ta σ H fun vs H1 => tk σ H1 fun w H2 => sp (vs ++ [w]) H2 Q (E σ)) := by
  refine ⟨fun pins s σ H Q I h => ?_⟩
  have hkw : PK X [⟨some kn, ke, kp⟩] (tCons tk tNil) := pk_cons hke pk_nil
  refine wpAny_Call_Name_kw (ld_glob I hg hm ?_ hdb)
  have hany : ((backTo pos (starEach (e :: es) X.env)).any (·.1) || (backToKw pos (keywordEach [⟨some kn, ke, kp⟩] X.env)).any (·.1.isNone)) = false := by
    rw [he]
    simpa [backTo, backToKw, keywordEach] using hpl
  refine PySem.W.callWith_KW (h₀ := X.base) I.ok.mod.kin hk rfl (thn (ha.run pos pins s σ H _ I h) fun us s1 ⟨vs, H1, I1, r, q⟩ => ?_) hany he
  refine thn (hkw.run pos pins s1 σ H1 (fun zs H2 => match zs with
    | [w] => sp (vs ++ [w]) H2 Q (E σ)
    | _ => False) I1 q) fun ws s2 ⟨zs, H2, I2, rz, q2⟩ => ⟨I2.kIn, ?_⟩
  dsimp only at q2
  split at q2
  · rename_i w
    have q3 := q2
    have r3 : Vals (vs ++ [w]) (us ++ ws) := r.append rz
    have hl : (us ++ ws).length = ps.length := by rw [← r3.length]; exact fo.len _ _ _ _ q3
    refine wpAny_call (codeAny_mono (fo.run X.A X.stack s2 H2 ⟨us, [kn].zip ws⟩ (us ++ ws) (vs ++ [w]) Q (E σ) hr I2.env0 (hb.to s2 us ws I2.kIn (by have l1 := rz.length; rw [List.length_append, ← l1] at hl; simp only [List.length_cons, List.length_nil] at hl; omega) (by rw [← rz.length]; rfl)) r3 q3) fun fl s' hq => ?_)
    cases fl with
    | error u => exact hx σ pins H2 s2 u s' I2 hq
    | ok fw =>
      cases fw with
      | ret u => exact I2.after hq
      | _ => exact False.elim hq
  · exact q2.elim
theorem snd_callK {f : Nat} {x : Str} {np : Nat} {es : List Expr} {ke : Expr} {p pos kp : Pos} {rs : Env → Tw → R (List PyData)} {rk : Env → Tw → R PyData} (C : Cxx X y N sc g F k) (ar : Arity g F) (hf : g.fn f = some (x, np, .kw)) (hg : glB sc x = true) (ne : es ≠ []) (ho : es.all ordE = true) (h : PA X es (tL y false rs)) (hke : PE X ke (tE y false rk)) :
    PE X (.Call (.Name x p) es [⟨some "liars", ke, kp⟩] pos) (tE y m fun env t => (rs env t).bind fun ds t => (rk env t).bind fun d t => F f (ds ++ [d]) t) := by
  cases es with
  | nil => exact absurd rfl ne
  | cons e es =>
    obtain ⟨⟨a, fd, ps, hm, hk, fo, _, hb⟩, nm⟩ := C.fns f x np .kw hf
    obtain ⟨_, nn, hnn, hb⟩ := hb rfl
    simp only [List.all_cons, Bool.and_eq_true] at ho
    refine PE.imp (pe_callKS (E := WE y.W) fo C.room (gl_of (by rw [C.scope]; exact hg)) hm hk hnn hb (fun σ => passAt C.tk σ) h hke nm (star_ord ho.1) (stars_ord ho.2)) fun σ H Q q => ?_
    obtain ⟨env, t, O, r, q⟩ := tE_fin.mp q
    refine tL.then r q fun ds t1 vs H1 e g1 r1 rv z => ?_
    refine tE.then r1 z fun d t2 v H2 e2 g2 r2 rv2 z2 => ?_
    rw [C.K]
    have ps' := ((pair_share rv).mono (r1.mono g2)).append (.cons rv2.share .nil)
    by_cases hn : (ds ++ [d]).length = np
    · exact spOf_call r2 (by rw [ps'.length]; exact hn) ps' z2
    · rw [ar f x np .kw _ t2 hf hn] at z2
      exact z2.elim
end
end Wv

set_option maxHeartbeats 2000000
namespace Wv
open PySem L2

section
variable {X : Cx} {y : Cy} {N : List Str} {sc : Scope} {m : Bool} {g : Gt} {F : Nat → List PyData → Tw → R PyData} {k : Nat}
variable {env env' : Env} {t t' : Tw} {σ σ' : St} {H H' : Hp} {O : List Addr} {Q : VK}

/-! ### methods of lists -/
theorem findD_some {x : PyData} : ∀ {ys : List PyData} {j : Nat}, findD x ys = some j → ∃ z, ys[j]? = some z ∧ PyData.eqv z x = true ∧ ∀ (i : Nat) z', i < j → ys[i]? = some z' → PyData.eqv z' x = false
  | [], j, h => by simp [findD] at h
  | w :: ys, j, h => by
    unfold findD at h
    split at h
    · rename_i hw
      cases h
      exact ⟨w, rfl, hw, fun i z' hi => by omega⟩
    · rename_i hw
      obtain ⟨j', e, rfl⟩ := Option.map_eq_some_iff.mp h
      obtain ⟨z, h1, h2, h3⟩ := findD_some e
      refine ⟨z, by simpa using h1, h2, fun i z' hi hz => ?_⟩
      cases i with
      | zero =>
        simp at hz
        subst hz
        simpa using hw
      | succ i => exact h3 i z' (by omega) (by simpa using hz)
def rCountD (K : PySem.W.Frag) : V → List V → Hp → VK → Prop := fun x xs H Q => ∃ (a : Addr) (w : V) (d : PyData) (ds : List PyData), x = V.ref a ∧ xs = [w] ∧ Dp K H (V.ref a) (.list ds) ∧ Dp K H w d ∧ (d.plain && PyData.plainAll ds && decide (min (PyData.depthAll ds) d.depth ≤ 50)) = true ∧ Q (.int ((ds.countP fun z => PyData.eqv z d : Nat) : Int)) H
theorem mt_countD (hu : X.A.units + 60 < cLine) : MtR X "list.count" (rCountD X.K) := by
  intro pins s σ H x xs v us Q I rx rxs h
  obtain ⟨a, w, d, ds, rfl, rfl, hl, hw, hf, q⟩ := h
  simp only [Bool.and_eq_true, decide_eq_true_eq] at hf
  cases rx
  cases rxs with
  | cons rw' rt =>
    cases rt
    obtain ⟨bs, r1⟩ := Dp.reads I d w _ hw rw'
    cases hl with
    | lst hs ha =>
      obtain ⟨its, rv, pl, hz⟩ := I.list hs
      obtain ⟨as, h4⟩ := Dp.readsAll I ds _ its ha rv
      exact SeqAt.count_list_data pl.isList (show ReadsAll s.heap its.toArray.toList ds as from h4) r1 hf.1.2 hf.1.1 (by omega) ⟨.int _, H, I.tok _, ⟨_, rfl⟩, q⟩
def attrOrd : Expr → Bool
  | .Name _ _ => true
  | .Subscript _ _ _ => true
  | _ => false
theorem base_ord {o : Expr} {nm : Str} {env : PySem.Env} (h : attrOrd o = true) : attributeBase o nm env (eval o env) = eval o env := by
  cases o <;> first | rfl | cases h
def mtName : Mt → Str
  | .lcount => "count"
  | .lindex => "index"
theorem few_ord {e : Expr} {cpos : Pos} {env : PySem.Env} (h : ordE e = true) : ((backTo cpos (starEach [e] env)).all (fun x => !x.1) && (backToKw cpos (keywordEach [] env)).all (fun x => x.1.isSome) && decide ([e].length + ([] : List Keyword).length + (if ([] : List Keyword).isEmpty then 0 else 1) < 30)) = true := by
  rw [star_ord h]; rfl
mutual
theorem plain_of0 : ∀ d : PyData, d.canLay0 = true → d.plain = true
  | .none, _ => rfl
  | .bool _, _ => rfl
  | .int _, _ => rfl
  | .str _, _ => rfl
  | .list xs, h => by rw [PyData.plain]; exact plainAll_of0 xs (by simpa [PyData.canLay0] using h)
  | .tuple xs, h => by rw [PyData.plain]; exact plainAll_of0 xs (by simpa [PyData.canLay0] using h)
  | .dict _, h => by simp [PyData.canLay0] at h
theorem plainAll_of0 : ∀ ds : List PyData, PyData.canLayAll0 ds = true → PyData.plainAll ds = true
  | [], _ => rfl
  | d :: ds, h => by
    simp only [PyData.canLayAll0, Bool.and_eq_true] at h
    rw [PyData.plainAll, plain_of0 d h.1, plainAll_of0 ds h.2]
    rfl
end
theorem snd_mth {mt : Mt} {o e : Expr} {apos cpos : Pos} {ra rb : Env → Tw → R PyData} (C : Ctx X y N sc) (hb : attrOrd o = true) (hl : (apos.endLine == cpos.line) = true) (ho : ordE e = true) (ha : PE X o (tE y true ra)) (hs : PE X e (tE y true rb)) :
    PE X (.Call (.Attribute o (mtName mt) apos) [e] [] cpos) (tE y m fun env t => (ra env t).bind fun x t => match x with
      | .list xs => (rb env t).bind fun d t => R.of (mthD mt xs d) t
      | _ => .bad) := by
  have hu := C.units
  have hp := pa_cons hs pa_nil (star_ord ho)
  have core : ∀ (r2 : V → List V → Hp → VK → Prop), (∀ (env : Env) (t2 : Tw) (σ : St) (H2 : Hp) (O : List Addr) (Q : VK) a v2 xs d2 d, Rel y env t2 σ H2 O → Rv y true O H2 (.ref a) (.list xs) → Rv y true O H2 v2 d2 → mthD mt xs d2 = some d → Kn y m O t2 H2 d Q → r2 (.ref a) [v2] H2 Q) →
      ∀ σ H Q, tE y m (fun env t => (ra env t).bind fun x t => match x with
        | .list xs => (rb env t).bind fun d t => R.of (mthD mt xs d) t
        | _ => .bad) σ H Q → tBM X.K "list" r2 (tE y true ra) (tCons (tE y true rb) tNil) σ H Q := fun r2 hr σ H Q h => by
    obtain ⟨env, t, O, r, h⟩ := h
    refine tE.then r h fun d t1 v H1 e1 g1 r1 rv h1 => ?_
    cases d with
    | list xs =>
      obtain ⟨a, vs, rfl, h1', h2', h3'⟩ := rv.items
      refine ⟨.inl ⟨rfl, vs, SqL.of h1'⟩, ?_⟩
      refine tE.then r1 h1 fun d2 t2 v2 H2 e2 g2 r2 rv2 h2 => ?_
      cases e3 : mthD mt xs d2 with
      | none => rw [e3] at h2; exact h2.elim
      | some d => rw [e3] at h2; exact hr env t2 σ H2 O Q a v2 xs d2 d r2 (rv.after r1 g2) rv2 e3 h2
    | _ => exact h1.elim
  cases mt with
  | lcount =>
    refine PE.imp (pe_bm PySem.F.plainAttrs_list PySem.F.slot_list_count PySem.F.type_list_count (mt_countD (by omega)) ha hp (base_ord hb) (few_ord ho) hl (star_ord ho) rfl) (core _ fun env t2 σ H2 O Q a v2 xs d2 d r2 ra rv2 e3 q => ?_)
    rw [C.K]
    obtain ⟨hp, rfl⟩ := okIf_some e3
    have hp' := hp
    simp only [Bool.and_eq_true] at hp'
    exact ⟨a, v2, d2, xs, rfl, rfl, ra.full.dp (by simpa [PyData.plain] using hp'.1.2), rv2.full.dp hp'.1.1, hp, q.here r2 (.int _)⟩
  | lindex =>
    refine PE.imp (pe_bm PySem.F.plainAttrs_list PySem.F.slot_list_index PySem.F.type_list_index (mt_indexD (by omega)) ha hp (base_ord hb) (few_ord ho) hl (star_ord ho) rfl) (core _ fun env t2 σ H2 O Q a v2 xs d2 d r2 ra rv2 e3 q => ?_)
    rw [C.K]
    simp only [mthD] at e3
    split at e3
    · rename_i hp
      simp only [Bool.and_eq_true] at hp
      obtain ⟨j, e4, rfl⟩ := Option.map_eq_some_iff.mp e3
      obtain ⟨z, z1, z2, z3⟩ := findD_some e4
      have pl : ∀ d : PyData, SeqAt.shaped d = true → d.plain = true := fun d h => plain_of0 d (SeqAt.canLay_of_shaped h)
      exact ⟨a, v2, d2, xs, j, z, rfl, rfl, ra.full.dp (pl _ hp.1), rv2.full.dp (pl _ hp.2), hp.1, hp.2, z1, z2, z3, q.here r2 (.int _)⟩
    · cases e3

/-! ### isinstance of a caught refusal -/
def excTyStr (g : Gt) : Ty → Option Str
  | .exc c => g.exc c
  | .ve => some "ValueError"
  | _ => none
def excAll (g : Gt) : Bool := (List.range 9).all fun c => (g.exc c).isSome
theorem Rv.exc {v : V} {i : Int} (h : Rv y true O H v (.dict [(.none, .int i)])) : ∃ (a : Addr) (c : Nat), v = .ref a ∧ (c : Int) = i ∧ H a = some (excAt a (y.z.cls c)) := by
  have hf := h.full
  generalize hd : PyData.dict [(PyData.none, PyData.int i)] = d at hf
  cases hf with
  | town => simp [tTown] at hd
  | exc c hc =>
    simp only [tExc, PyData.dict.injEq, List.cons.injEq, Prod.mk.injEq, PyData.int.injEq] at hd
    exact ⟨_, c, rfl, hd.1.2.symm, hc⟩
  | _ => cases hd
def rIsX (K : PySem.W.Frag) : List V → Hp → VK → Prop := fun xs H Q => ∃ (a D : Addr) (c : V) (cv : Value) (b : Bool), xs = [.ref a, c] ∧ H a = some (excAt a D) ∧ ExcC K D ∧ (∀ u, RelV c u → u = cv) ∧ PySem.W.kitOne K (.ref D) cv = some b ∧ Q (.bl b) H
theorem call_isX : CallR X (.builtin "isinstance") (rIsX X.K) := by
  intro pins s σ H xs us Q I r h
  obtain ⟨a, Dd, c, cv, b, rfl, ha, C, hcv, e, q⟩ := h
  cases r with
  | cons rx rr =>
    cases rr with
    | cons rt rr =>
      cases rr
      cases rx
      have ec := hcv _ rt
      subst ec
      obtain ⟨⟨o, vs, h1, h2, h3, h4⟩, _⟩ := I.hok a _ ha
      have J : PySem.W.InstAt s.heap a o Dd none := by
        refine ⟨h1, h2, ?_, ?_⟩
        · unfold PySem.W.notCls
          rw [h4]
        · rw [h3]; trivial
      exact PySem.W.kia_one (PySem.W.handS_kitx_exc C.hg C.hk C.hs C.hd C.ha C.hn C.ht C.hm) I.kIn J e (fun z => nomatch z) fun tk => ⟨.bl b, H, I.kept (t' := tk) fun _ _ z => z, rfl, q⟩
theorem snd_isiX {ty : Ty} {x : Str} {ea : Expr} {p p2 pos : Pos} {ra : Env → Tw → R PyData} (C : Cxx X y N sc g F k) (hs : excTyStr g ty = some x) (hall : excAll g = true) (hg : glB sc "isinstance" = true) (hg2 : glB sc x = true) (ho : ordE ea = true) (ha : PE X ea (tE y true ra)) :
    PE X (.Call (.Name "isinstance" p) [ea, .Name x p2] [] pos) (tE y m fun env t => (ra env t).bind fun x t => R.of ((isiD ty x).map .bool) t) := by
  have hgl : Gl X x := gl_of (by rw [C.scope]; exact hg2)
  have hall' : ∀ c, c < 9 → ∃ x, g.exc c = some x := fun c hc => by
    simp only [excAll, List.all_eq_true] at hall
    exact Option.isSome_iff_exists.mp (hall c (List.mem_range.mpr hc))
  obtain ⟨cv, u, hT, hu, hk⟩ : ∃ (cv : V) (u : Value), PE X (.Name x p2) (tC cv) ∧ (∀ w, RelV cv w → w = u) ∧ ∀ (c : Nat) (b : Bool) (i : Int), (c : Int) = i → isiD ty (.dict [(.none, .int i)]) = some b → (∃ z, g.exc c = some z) ∧ PySem.W.kitOne X.K (.ref (y.z.cls c)) u = some b := by
    cases ty with
    | exc c' =>
      have hs' : g.exc c' = some x := hs
      obtain ⟨m1, m2⟩ := C.exf.mgs c' x hs'
      refine ⟨.ref (y.z.cls c'), .ref (y.z.cls c'), pe_glob hgl m1 rfl m2, fun w r => r, fun c b i e hb => ?_⟩
      simp only [isiD, excIs] at hb
      split at hb
      · rename_i hr
        cases hb
        have hc : c < 9 := by omega
        obtain ⟨z, hz⟩ := hall' c hc
        refine ⟨⟨z, hz⟩, ?_⟩
        rw [C.exf.kit c z c' x hz hs']
        congr 2
        subst e
        simp only [decide_eq_decide]
        omega
      · cases hb
    | ve =>
      cases hs
      refine ⟨.ty "ValueError", .type "ValueError", pe_bltn hgl (C.free "ValueError" (by decide)) (u := .type "ValueError") (by decide +kernel) rfl, fun w r => r, fun c b i e hb => ?_⟩
      simp only [isiD, excIs] at hb
      split at hb
      · rename_i hr
        cases hb
        have hc : c < 9 := by omega
        obtain ⟨z, hz⟩ := hall' c hc
        exact ⟨⟨z, hz⟩, C.exf.ve c z hz⟩
      · cases hb
    | _ => cases hs
  refine PE.imp (PE_CB C.toCtx call_isX (by decide) hg (by decide +kernel) (by rw [List.all_cons, ho]; rfl) (pa_cons ha (pa_cons hT pa_nil) (star_ord ho)) (by decide) (by decide)) fun σ H Q h => ?_
  obtain ⟨env, t, O, r, h⟩ := h
  refine tE.then r h fun d1 t1 v H1 e1 g1 r1 rv1 h1 => ?_
  cases e : isiD ty d1 with
  | none => rw [e] at h1; exact h1.elim
  | some b =>
    rw [e] at h1
    obtain ⟨i, rfl⟩ : ∃ i, d1 = .dict [(.none, .int i)] := by
      have hex : ∃ c, excIs c d1 = some b := by
        cases ty with
        | exc c' => exact ⟨c', e⟩
        | ve => exact ⟨0, e⟩
        | _ => cases hs
      obtain ⟨c, hc⟩ := hex
      unfold excIs at hc
      split at hc
      · exact ⟨_, rfl⟩
      · cases hc
    obtain ⟨a, c, rfl, ec, hc⟩ := rv1.exc
    obtain ⟨⟨z, hz⟩, hk⟩ := hk c b i ec e
    exact ⟨a, _, cv, u, b, rfl, hc, C.exf.is c z hz, hu, hk, h1 _ H1 Grow.refl r1.tw (.inl (.bl b))⟩
end
end Wv

set_option maxHeartbeats 4000000
namespace Wv
open PySem L2

/-! ### does a piece of syntax say what a core term says -/
def chkCst : PyData → Const → Bool
  | .none, .none => true
  | .bool b, .bool c => b == c
  | .int i, .int j => decide (i = j)
  | .str a, .str b => decide (a = b)
  | _, _ => false
def ownOf (N : List Str) (own : List Nat) : List (Str × Nat) := own.map fun i => (N.getD i "", i)
def isIf : Expr → Bool
  | .IfExp .. => true
  | _ => false
def cellB (scope : Scope) (x : Str) : Bool := match scope.names.lookup x with
  | some .cell => true
  | _ => false
def subB (a b : List Nat) : Bool := a.all fun i => b.contains i

mutual
/-- the very same datum -/
def sameD : PyData → PyData → Bool
  | .none, .none => true
  | .bool b, .bool c => b == c
  | .int i, .int j => decide (i = j)
  | .str a, .str b => decide (a = b)
  | .list xs, .list ys => sameL xs ys
  | .tuple xs, .tuple ys => sameL xs ys
  | _, _ => false
def sameL : List PyData → List PyData → Bool
  | [], [] => true
  | x :: xs, y :: ys => sameD x y && sameL xs ys
  | _, _ => false
end
mutual
theorem same_ok : ∀ {d e : PyData}, sameD d e = true → d = e
  | .none, e, h => by cases e <;> first | rfl | cases h
  | .bool b, e, h => by cases e <;> first | (simp [sameD] at h; rw [h]) | cases h
  | .int b, e, h => by cases e <;> first | (simp [sameD] at h; rw [h]) | cases h
  | .str b, e, h => by cases e <;> first | (simp [sameD] at h; rw [h]) | cases h
  | .list xs, e, h => by
    cases e with
    | list ys => rw [same_oks (show sameL xs ys = true from h)]
    | _ => cases h
  | .tuple xs, e, h => by
    cases e with
    | tuple ys => rw [same_oks (show sameL xs ys = true from h)]
    | _ => cases h
  | .dict xs, e, h => by cases e <;> cases h
theorem same_oks : ∀ {xs ys : List PyData}, sameL xs ys = true → xs = ys
  | [], [], _ => rfl
  | [], _ :: _, h => by cases h
  | _ :: _, [], h => by cases h
  | x :: xs, y :: ys, h => by
    simp only [sameL, Bool.and_eq_true] at h
    rw [same_ok h.1, same_oks h.2]
end

mutual
def chkE (g : Gt) (N : List Str) : CE → Scope → Expr → Bool
  | .var i, sc, e => (match e with
    | .Name x _ => decide (N[i]? = some x) && visB sc x && !(x == ("__debug__" : Str)) && !(x == ("__classdict__" : Str))
    | _ => false)
  | .cst d, sc, e => (match e with
    | .Constant c _ _ => chkCst d c
    | _ => false)
  | .glb x d, sc, e => (match e with
    | .Name x' _ => decide (x = x') && glB sc x && (match g.cst x with
      | some d' => sameD d d'
      | none => false)
    | _ => false)
  | .tup es, sc, e => (match e with
    | .Tuple es' _ _ => chkL g N es sc es'
    | _ => false)
  | .lst es, sc, e => (match e with
    | .List es' _ => chkL g N es sc es'
    | _ => false)
  | .bin o a b, sc, e => (match e with
    | .BinOp l o' r _ => decide (o = o') && chkE g N a sc l && chkE g N b sc r
    | _ => false)
  | .neg a, sc, e => (match e with
    | .UnaryOp .USub l _ => chkE g N a sc l
    | _ => false)
  | .cmp o a b, sc, e => (match e with
    | .Compare l [o'] [r] _ => decide (o = o') && ordE r && chkE g N a sc l && chkE g N b sc r
    | _ => false)
  | .chn o p a b c, sc, e => (match e with
    | .Compare l [o', p'] [r, r'] _ => decide (o = o') && decide (p = p') && ordE r' && chkE g N a sc l && chkE g N b sc r && chkE g N c sc r'
    | _ => false)
  | .and a b, sc, e => (match e with
    | .BoolOp .And (e1 :: e2 :: rest) pos => !isIf e1 && chkE g N a sc e1 && (match rest with
      | [] => !isIf e2 && chkE g N b sc e2
      | _ :: _ => chkE g N b sc (.BoolOp .And (e2 :: rest) pos))
    | _ => false)
  | .or a b, sc, e => (match e with
    | .BoolOp .Or (e1 :: e2 :: rest) pos => !isIf e1 && chkE g N a sc e1 && (match rest with
      | [] => !isIf e2 && chkE g N b sc e2
      | _ :: _ => chkE g N b sc (.BoolOp .Or (e2 :: rest) pos))
    | _ => false)
  | .not a, sc, e => (match e with
    | .UnaryOp .Not l _ => !isIf l && chkE g N a sc l
    | _ => false)
  | .ite c a b, sc, e => (match e with
    | .IfExp t b' o _ => !isIf t && chkE g N c sc t && chkE g N a sc b' && chkE g N b sc o
    | _ => false)
  | .ix a i, sc, e => (match e with
    | .Subscript v s _ => ordE s && chkE g N a sc v && chkE g N i sc s
    | _ => false)
  | .sl a lo hi, sc, e => (match e with
    | .Subscript v (.Slice l h none _) _ => chkE g N a sc v && chkO g N lo sc l && chkO g N hi sc h
    | _ => false)
  | .call f es, sc, e => (match e with
    | .Call (.Name x _) es' [] _ => (match g.fn f with
      | some (x', _, kd) => decide (x' = x) && decide (kd = .pos)
      | none => false) && glB sc x && !es'.isEmpty && es'.all ordE && chkL g N es sc es'
    | _ => false)
  | .call0 f, sc, e => (match e with
    | .Call (.Name x _) [] [] _ => (match g.fn f with
      | some (x', np, kd) => decide (x' = x) && decide (kd = .pos) && decide (np = 0)
      | none => false) && glB sc x
    | _ => false)
  | .callK f es k, sc, e => (match e with
    | .Call (.Name x _) es' [⟨some kn, ke, _⟩] _ => decide (kn = "liars") && (match g.fn f with
      | some (x', _, kd) => decide (x' = x) && decide (kd = .kw)
      | none => false) && glB sc x && !es'.isEmpty && es'.all ordE && chkL g N es sc es' && chkE g N k sc ke
    | _ => false)
  | .callD f es, sc, e => (match e with
    | .Call (.Name x _) es' [] _ => (match g.fn f with
      | some (x', _, kd) => decide (x' = x) && decide (kd = .kw)
      | none => false) && glB sc x && !es'.isEmpty && es'.all ordE && chkL g N es sc es'
    | _ => false)
  | .bi b es, sc, e => (match e with
    | .Call (.Name x _) es' [] _ => decide (x = biName b) && biSup b && glB sc x && !es'.isEmpty && es'.all ordE && chkL g N es sc es'
    | _ => false)
  | .isi a ty, sc, e => (match e with
    | .Call (.Name x _) [ea, .Name T _] [] _ => decide (x = "isinstance") && (decide (T = tyStr ty) && tySup ty || decide (excTyStr g ty = some T) && excAll g) && glB sc x && glB sc T && ordE ea && chkE g N a sc ea
    | _ => false)
  | .mth mt a b, sc, e => (match e with
    | .Call (.Attribute o n apos) [ea] [] cpos => decide (n = mtName mt) && attrOrd o && (apos.endLine == cpos.line) && ordE ea && chkE g N a sc o && chkE g N b sc ea
    | _ => false)
  | .lc1 e own tg it c, sc, ex => (match ex with
    | .ListComp elt [⟨te, iter, ifs, asy⟩] scope _ => decide (asy = 0) && blkC N sc scope (ownOf N own) && chkTg N (relS scope sc) (cellB scope) tg te && subB (tgSlots tg) own && ordE iter && chkI g N it sc te iter && chkC g N c (relS scope sc) ifs && chkE g N e (relS scope sc) elt
    | _ => false)
  | .lc2 e own own2 tg it c tg2 it2 c2, sc, ex => (match ex with
    | .ListComp elt [⟨te, iter, ifs, asy⟩, ⟨te2, iter2, ifs2, asy2⟩] scope _ => decide (asy = 0) && decide (asy2 = 0) && blkC N sc scope (ownOf N own) && chkTg N (relS scope sc) (cellB scope) tg te && subB (tgSlots tg) own && ordE iter && chkI g N it sc te iter && chkC g N c (relS scope sc) ifs &&
      chkTg N (relS scope sc) (cellB scope) tg2 te2 && subB (tgSlots tg2) own2 && subB own2 own && ordE iter2 && chkI g N it2 (relS scope sc) te2 iter2 && chkC g N c2 (relS scope sc) ifs2 && chkE g N e (relS scope sc) elt
    | _ => false)
  | .hole, _, _ => true
def chkL (g : Gt) (N : List Str) : CL → Scope → List Expr → Bool
  | .nil, _, es => es.isEmpty
  | .cons c r, sc, es => (match es with
    | e :: es' => ordE e && chkE g N c sc e && chkL g N r sc es'
    | [] => false)
def chkO (g : Gt) (N : List Str) : CO → Scope → Option Expr → Bool
  | .none, _, o => o.isNone
  | .some c, sc, o => (match o with
    | some e => chkE g N c sc e
    | none => false)
def chkC (g : Gt) (N : List Str) : CO → Scope → List Expr → Bool
  | .none, _, es => es.isEmpty
  | .some c, sc, es => (match es with
    | [e] => !isIf e && chkE g N c sc e
    | _ => false)
def chkI (g : Gt) (N : List Str) : CI → Scope → Expr → Expr → Bool
  | .val c, sc, _, e => chkE g N c sc e
  | .rng1 a, sc, _, e => (match e with
    | .Call (.Name x _) [ea] [] _ => decide (x = "range") && glB sc x && ordE ea && chkE g N a sc ea
    | _ => false)
  | .rng2 a b, sc, _, e => (match e with
    | .Call (.Name x _) [ea, eb] [] _ => decide (x = "range") && glB sc x && ordE ea && ordE eb && chkE g N a sc ea && chkE g N b sc eb
    | _ => false)
  | .rng3 a b c, sc, _, e => (match e with
    | .Call (.Name x _) [ea, eb, ec] [] _ => decide (x = "range") && glB sc x && ordE ea && ordE eb && ordE ec && chkE g N a sc ea && chkE g N b sc eb && chkE g N c sc ec
    | _ => false)
  | .enm a, sc, tg, e => (match tg, e with
    | .Tuple _ _ _, .Call (.Name x _) [ea] [] _ => decide (x = "enumerate") && glB sc x && ordE ea && chkE g N a sc ea
    | _, _ => false)
end
end Wv

set_option maxHeartbeats 4000000
namespace Wv
open PySem L2

structure Snd (g : Gt) (N : List Str) (F : Nat → List PyData → Tw → R PyData) (k : Nat) (c : CE) : Prop where
  e : ∀ {X : Cx} {y : Cy} {sc : Scope} {ex : Expr} (m : Bool), Cxx X y N sc g F k → chkE g N c sc ex = true → PE X ex (tE y m (evalE F m c))
  t : ∀ {X : Cx} {y : Cy} {sc : Scope} {ex : Expr}, Cxx X y N sc g F k → chkE g N c sc ex = true → isIf ex = false → PT X ex (tT y (evalE F true c))
  w : ∀ {X : Cx} {y : Cy} {sc : Scope} {op : BoolOp} {es : List Expr} {pos : Pos}, Cxx X y N sc g F k → chkE g N c sc (.BoolOp op es pos) = true → PW X (.BoolOp op es pos) (tT y (evalE F true c))

/-- forms whose truth is looked at as a value -/
def plainT : Expr → Bool
  | .UnaryOp .Not _ _ => false
  | .BoolOp .. => false
  | .IfExp .. => false
  | .Compare .. => false
  | _ => true
theorem plainT_he {e : Expr} {env : PySem.Env} (h : plainT e = true) : ∀ whole, isTrue e env whole = (do let v ← whole; standAt e.pos; holding [v] (truthy v)) := by
  intro whole
  cases e with
  | UnaryOp op x p =>
    cases op with
    | Not => cases h
    | _ => rfl
  | BoolOp _ _ _ => cases h
  | IfExp _ _ _ _ => cases h
  | Compare _ _ _ _ => cases h
  | _ => rfl

section
variable {g : Gt} {N : List Str} {F : Nat → List PyData → Tw → R PyData} {k : Nat}
theorem Snd.plain {c : CE} (he : ∀ {X : Cx} {y : Cy} {sc : Scope} {ex : Expr} (m : Bool), Cxx X y N sc g F k → chkE g N c sc ex = true → PE X ex (tE y m (evalE F m c)))
    (hp : ∀ sc ex, chkE g N c sc ex = true → plainT ex = true ∨ ∃ t a b p, ex = .IfExp t a b p) : Snd g N F k c where
  e := he
  t := fun C h hi => by
    rcases hp _ _ h with q | ⟨t, a, b, p, rfl⟩
    · exact tst_val (he true C h) (plainT_he q)
    · cases hi
  w := fun C h => by
    rcases hp _ _ h with q | ⟨t, a, b, p, q⟩
    · cases q
    · cases q
theorem and_t {a b : Bool} (h : (a && b) = true) : a = true ∧ b = true := Bool.and_eq_true_iff.mp h

/-- the inductive step of each form -/
theorem st_var {i : Nat} : Snd g N F k (.var i) := by
  refine Snd.plain (fun {X y sc ex} m C h => ?_) fun sc ex h => ?_
  · unfold chkE at h
    split at h
    · simp only [Bool.and_eq_true, decide_eq_true_eq, Bool.not_eq_true'] at h
      exact snd_var C.toCtx h.1.1.1 h.1.1.2 h.1.2 h.2
    · cases h
  · unfold chkE at h
    split at h
    · exact .inl rfl
    · cases h
theorem st_cst {d : PyData} : Snd g N F k (.cst d) := by
  refine Snd.plain (fun {X y sc ex} m C h => ?_) fun sc ex h => ?_
  · unfold chkE at h
    split at h
    · rename_i c j p
      unfold chkCst at h
      split at h
      · exact snd_const pe_non fun H => .non
      · have e := eq_of_beq h
        subst e
        exact snd_const pe_bl fun H => .bl _
      · have e := of_decide_eq_true h
        subst e
        exact snd_const pe_int fun H => .int _
      · have e := of_decide_eq_true h
        subst e
        exact snd_const pe_str fun H => .str _
      · cases h
    · cases h
  · unfold chkE at h
    split at h
    · exact .inl rfl
    · cases h
theorem st_glb {x : Str} {d : PyData} : Snd g N F k (.glb x d) := by
  refine Snd.plain (fun {X y sc ex} m C h => ?_) fun sc ex h => ?_
  · unfold chkE at h
    split at h
    · simp only [Bool.and_eq_true, decide_eq_true_eq] at h
      obtain ⟨⟨rfl, h2⟩, h3⟩ := h
      split at h3
      · rename_i d' e
        have e' := same_ok h3
        subst e'
        obtain ⟨u, v, h4, h5, h6, h7⟩ := C.csts x d e
        exact snd_const (pe_glob (gl_of (by rw [C.scope]; exact h2)) h4 h5 h7) h6
      · cases h3
    · cases h
  · unfold chkE at h
    split at h
    · exact .inl rfl
    · cases h
theorem st_bin {o : Operator} {a b : CE} (ha : Snd g N F k a) (hb : Snd g N F k b) : Snd g N F k (.bin o a b) := by
  refine Snd.plain (fun {X y sc ex} m C h => ?_) fun sc ex h => ?_
  · unfold chkE at h
    split at h
    · simp only [Bool.and_eq_true, decide_eq_true_eq] at h
      obtain ⟨⟨rfl, h2⟩, h3⟩ := h
      exact snd_bin C.toCtx (ha.e true C h2) (hb.e true C h3)
    · cases h
  · unfold chkE at h
    split at h
    · exact .inl rfl
    · cases h
theorem st_neg {a : CE} (ha : Snd g N F k a) : Snd g N F k (.neg a) := by
  refine Snd.plain (fun {X y sc ex} m C h => ?_) fun sc ex h => ?_
  · unfold chkE at h
    split at h
    · exact snd_neg (ha.e true C h)
    · cases h
  · unfold chkE at h
    split at h
    · exact .inl rfl
    · cases h
theorem st_cmp {o : CmpOp} {a b : CE} (ha : Snd g N F k a) (hb : Snd g N F k b) : Snd g N F k (.cmp o a b) where
  e := fun {X y sc ex} m C h => by
    unfold chkE at h
    split at h
    · simp only [Bool.and_eq_true, decide_eq_true_eq] at h
      obtain ⟨⟨⟨rfl, h1⟩, h2⟩, h3⟩ := h
      exact snd_cmp C.toCtx h1 (ha.e true C h2) (hb.e true C h3)
    · cases h
  t := fun {X y sc ex} C h _ => by
    unfold chkE at h
    split at h
    · simp only [Bool.and_eq_true, decide_eq_true_eq] at h
      obtain ⟨⟨⟨rfl, h1⟩, h2⟩, h3⟩ := h
      exact tst_cmp C.toCtx h1 (ha.e true C h2) (hb.e true C h3)
    · cases h
  w := fun C h => by unfold chkE at h; cases h
theorem st_chn {o p : CmpOp} {a b c : CE} (ha : Snd g N F k a) (hb : Snd g N F k b) (hc : Snd g N F k c) : Snd g N F k (.chn o p a b c) where
  e := fun {X y sc ex} m C h => by
    unfold chkE at h
    split at h
    · simp only [Bool.and_eq_true, decide_eq_true_eq] at h
      obtain ⟨⟨⟨⟨⟨rfl, rfl⟩, h1⟩, h2⟩, h3⟩, h4⟩ := h
      exact snd_chn C.toCtx h1 (ha.e true C h2) (hb.e true C h3) (hc.e true C h4)
    · cases h
  t := fun {X y sc ex} C h _ => by
    unfold chkE at h
    split at h
    · simp only [Bool.and_eq_true, decide_eq_true_eq] at h
      obtain ⟨⟨⟨⟨⟨rfl, rfl⟩, h1⟩, h2⟩, h3⟩, h4⟩ := h
      exact tst_chn C.toCtx h1 (ha.e true C h2) (hb.e true C h3) (hc.e true C h4)
    · cases h
  w := fun C h => by unfold chkE at h; cases h
theorem and_pw {a b : CE} (ha : Snd g N F k a) (hb : Snd g N F k b) {X : Cx} {y : Cy} {sc : Scope} {op : BoolOp} {es : List Expr} {pos : Pos} (C : Cxx X y N sc g F k) (h : chkE g N (.and a b) sc (.BoolOp op es pos) = true) : PW X (.BoolOp op es pos) (tT y (evalE F true (.and a b))) := by
  unfold chkE at h
  split at h
  · rename_i e1 e2 rest p q
    cases q
    simp only [Bool.and_eq_true, Bool.not_eq_true'] at h
    obtain ⟨⟨h0, h1⟩, h2⟩ := h
    cases rest with
    | nil =>
      simp only [Bool.and_eq_true, Bool.not_eq_true'] at h2
      exact tst_and (ha.t C h1 h0) (pw_and1 (hb.t C h2.2 h2.1))
    | cons e3 rest => exact tst_and (ha.t C h1 h0) (hb.w C h2)
  · cases h
theorem or_pw {a b : CE} (ha : Snd g N F k a) (hb : Snd g N F k b) {X : Cx} {y : Cy} {sc : Scope} {op : BoolOp} {es : List Expr} {pos : Pos} (C : Cxx X y N sc g F k) (h : chkE g N (.or a b) sc (.BoolOp op es pos) = true) : PW X (.BoolOp op es pos) (tT y (evalE F true (.or a b))) := by
  unfold chkE at h
  split at h
  · rename_i e1 e2 rest p q
    cases q
    simp only [Bool.and_eq_true, Bool.not_eq_true'] at h
    obtain ⟨⟨h0, h1⟩, h2⟩ := h
    cases rest with
    | nil =>
      simp only [Bool.and_eq_true, Bool.not_eq_true'] at h2
      exact tst_or (ha.t C h1 h0) (pw_or1 (hb.t C h2.2 h2.1))
    | cons e3 rest => exact tst_or (ha.t C h1 h0) (hb.w C h2)
  · cases h
theorem st_and {a b : CE} (ha : Snd g N F k a) (hb : Snd g N F k b) : Snd g N F k (.and a b) where
  e := fun {X y sc ex} m C h => by
    unfold chkE at h
    split at h
    · rename_i e1 e2 rest p
      simp only [Bool.and_eq_true, Bool.not_eq_true'] at h
      obtain ⟨⟨h0, h1⟩, h2⟩ := h
      cases rest with
      | nil =>
        simp only [Bool.and_eq_true, Bool.not_eq_true'] at h2
        exact snd_and (ha.e true C h1) (pe_one (hb.e m C h2.2))
      | cons e3 rest => exact snd_and (ha.e true C h1) (hb.e m C h2)
    · cases h
  t := fun {X y sc ex} C h _ => by
    have h' := h
    unfold chkE at h'
    split at h'
    · exact (and_pw ha hb C h).pt
    · cases h'
  w := fun C h => and_pw ha hb C h
theorem st_or {a b : CE} (ha : Snd g N F k a) (hb : Snd g N F k b) : Snd g N F k (.or a b) where
  e := fun {X y sc ex} m C h => by
    unfold chkE at h
    split at h
    · rename_i e1 e2 rest p
      simp only [Bool.and_eq_true, Bool.not_eq_true'] at h
      obtain ⟨⟨h0, h1⟩, h2⟩ := h
      cases rest with
      | nil =>
        simp only [Bool.and_eq_true, Bool.not_eq_true'] at h2
        exact snd_or (ha.e true C h1) (pe_one (hb.e m C h2.2))
      | cons e3 rest => exact snd_or (ha.e true C h1) (hb.e m C h2)
    · cases h
  t := fun {X y sc ex} C h _ => by
    have h' := h
    unfold chkE at h'
    split at h'
    · exact (or_pw ha hb C h).pt
    · cases h'
  w := fun C h => or_pw ha hb C h
theorem st_not {a : CE} (ha : Snd g N F k a) : Snd g N F k (.not a) where
  e := fun {X y sc ex} m C h => by
    unfold chkE at h
    split at h
    · simp only [Bool.and_eq_true, Bool.not_eq_true'] at h
      exact snd_not (ha.e true C h.2)
    · cases h
  t := fun {X y sc ex} C h _ => by
    unfold chkE at h
    split at h
    · simp only [Bool.and_eq_true, Bool.not_eq_true'] at h
      exact tst_not (ha.t C h.2 h.1)
    · cases h
  w := fun C h => by unfold chkE at h; cases h
theorem st_ite {c a b : CE} (hc : Snd g N F k c) (ha : Snd g N F k a) (hb : Snd g N F k b) : Snd g N F k (.ite c a b) := by
  refine Snd.plain (fun {X y sc ex} m C h => ?_) fun sc ex h => ?_
  · unfold chkE at h
    split at h
    · simp only [Bool.and_eq_true, Bool.not_eq_true'] at h
      obtain ⟨⟨⟨h0, h1⟩, h2⟩, h3⟩ := h
      exact snd_ite (hc.t C h1 h0) (ha.e m C h2) (hb.e m C h3)
    · cases h
  · unfold chkE at h
    split at h
    · exact .inr ⟨_, _, _, _, rfl⟩
    · cases h
theorem st_ix {a b : CE} (ha : Snd g N F k a) (hb : Snd g N F k b) : Snd g N F k (.ix a b) := by
  refine Snd.plain (fun {X y sc ex} m C h => ?_) fun sc ex h => ?_
  · unfold chkE at h
    split at h
    · simp only [Bool.and_eq_true] at h
      exact snd_ix C.toCtx h.1.1 (ha.e true C h.1.2) (hb.e true C h.2)
    · cases h
  · unfold chkE at h
    split at h
    · exact .inl rfl
    · cases h
theorem st_isi {a : CE} {ty : Ty} (ha : Snd g N F k a) : Snd g N F k (.isi a ty) := by
  refine Snd.plain (fun {X y sc ex} m C h => ?_) fun sc ex h => ?_
  · unfold chkE at h
    split at h
    · simp only [Bool.and_eq_true, Bool.or_eq_true, decide_eq_true_eq] at h
      obtain ⟨⟨⟨⟨⟨rfl, h1⟩, h2⟩, h3⟩, h4⟩, h5⟩ := h
      rcases h1 with ⟨rfl, h1⟩ | ⟨h0, h1⟩
      · exact snd_isi C.toCtx h1 h2 h3 h4 (ha.e true C h5)
      · exact snd_isiX C h0 h1 h2 h3 h4 (ha.e true C h5)
    · cases h
  · unfold chkE at h
    split at h
    · exact .inl rfl
    · cases h
theorem st_mth {mt : Mt} {a b : CE} (ha : Snd g N F k a) (hb : Snd g N F k b) : Snd g N F k (.mth mt a b) := by
  refine Snd.plain (fun {X y sc ex} m C h => ?_) fun sc ex h => ?_
  · unfold chkE at h
    split at h
    · simp only [Bool.and_eq_true, decide_eq_true_eq] at h
      obtain ⟨⟨⟨⟨⟨rfl, h1⟩, h2⟩, h3⟩, h4⟩, h5⟩ := h
      exact snd_mth C.toCtx h1 h2 h3 (ha.e true C h4) (hb.e true C h5)
    · cases h
  · unfold chkE at h
    split at h
    · exact .inl rfl
    · cases h

/-! the parts of a form that is no expression -/
def SndL (g : Gt) (N : List Str) (F : Nat → List PyData → Tw → R PyData) (k : Nat) (c : CL) : Prop := ∀ {X : Cx} {y : Cy} {sc : Scope} {es : List Expr}, Cxx X y N sc g F k → chkL g N c sc es = true → PA X es (tL y false (evalL F c)) ∧ PA X es (tL y true (evalP F c))
def SndO (g : Gt) (N : List Str) (F : Nat → List PyData → Tw → R PyData) (k : Nat) (c : CO) : Prop := ∀ {X : Cx} {y : Cy} {sc : Scope}, Cxx X y N sc g F k → (∀ {o : Option Expr}, chkO g N c sc o = true → PO X o (tO y (evalO F c))) ∧ ∀ {es : List Expr}, chkC g N c sc es = true → PTs X es (tCd y (evalC F c))
def SndI (g : Gt) (N : List Str) (F : Nat → List PyData → Tw → R PyData) (k : Nat) (c : CI) : Prop := ∀ {X : Cx} {y : Cy} {sc : Scope} {tg e : Expr}, Cxx X y N sc g F k → chkI g N c sc tg e = true → PI X tg e (iI y (evalI F c))
theorem st_nil : SndL g N F k .nil := fun {X y sc es} C h => by
  unfold chkL at h
  cases es with
  | nil => exact ⟨snd_nil, snd_nil⟩
  | cons => cases h
theorem st_cons {c : CE} {r : CL} (hc : Snd g N F k c) (hr : SndL g N F k r) : SndL g N F k (.cons c r) := fun {X y sc es} C h => by
  unfold chkL at h
  split at h
  · simp only [Bool.and_eq_true] at h
    obtain ⟨p, q⟩ := hr C h.2
    exact ⟨snd_cons h.1.1 (hc.e false C h.1.2) p, snd_cons h.1.1 (hc.e true C h.1.2) q⟩
  · cases h
theorem st_onone : SndO g N F k .none := fun {X y sc} C => by
  constructor
  · intro o h
    unfold chkO at h
    cases o with
    | none => exact snd_o_none
    | some => cases h
  · intro es h
    unfold chkC at h
    cases es with
    | nil => exact snd_c_none
    | cons => cases h
theorem st_osome {c : CE} (hc : Snd g N F k c) : SndO g N F k (.some c) := fun {X y sc} C => by
  constructor
  · intro o h
    unfold chkO at h
    split at h
    · exact snd_o_some (hc.e true C h)
    · cases h
  · intro es h
    unfold chkC at h
    split at h
    · simp only [Bool.and_eq_true, Bool.not_eq_true'] at h
      exact snd_c_some (hc.t C h.2 h.1)
    · cases h
theorem st_ival {c : CE} (hc : Snd g N F k c) : SndI g N F k (.val c) := fun {X y sc tg e} C h => by
  unfold chkI at h
  exact snd_i_val C.toCtx (hc.e false C h)
theorem st_irng1 {a : CE} (ha : Snd g N F k a) : SndI g N F k (.rng1 a) := fun {X y sc tg e} C h => by
  unfold chkI at h
  split at h
  · simp only [Bool.and_eq_true, decide_eq_true_eq] at h
    obtain ⟨⟨⟨rfl, h1⟩, h2⟩, h3⟩ := h
    exact snd_i_rng1 C.toCtx h1 h2 (ha.e true C h3)
  · cases h
theorem st_irng2 {a b : CE} (ha : Snd g N F k a) (hb : Snd g N F k b) : SndI g N F k (.rng2 a b) := fun {X y sc tg e} C h => by
  unfold chkI at h
  split at h
  · simp only [Bool.and_eq_true, decide_eq_true_eq] at h
    obtain ⟨⟨⟨⟨⟨rfl, h1⟩, h2⟩, h3⟩, h4⟩, h5⟩ := h
    exact snd_i_rng2 C.toCtx h1 h2 h3 (ha.e true C h4) (hb.e true C h5)
  · cases h
theorem st_irng3 {a b c : CE} (ha : Snd g N F k a) (hb : Snd g N F k b) (hc : Snd g N F k c) : SndI g N F k (.rng3 a b c) := fun {X y sc tg e} C h => by
  unfold chkI at h
  split at h
  · simp only [Bool.and_eq_true, decide_eq_true_eq] at h
    obtain ⟨⟨⟨⟨⟨⟨⟨rfl, h1⟩, h2⟩, h3⟩, h4⟩, h5⟩, h6⟩, h7⟩ := h
    exact snd_i_rng3 C.toCtx h1 h2 h3 h4 (ha.e true C h5) (hb.e true C h6) (hc.e true C h7)
  · cases h
theorem st_ienm {a : CE} (ha : Snd g N F k a) : SndI g N F k (.enm a) := fun {X y sc tg e} C h => by
  unfold chkI at h
  split at h
  · simp only [Bool.and_eq_true, decide_eq_true_eq] at h
    obtain ⟨⟨⟨rfl, h1⟩, h2⟩, h3⟩ := h
    exact snd_i_enm C.toCtx h1 h2 (ha.e false C h3)
  · cases h
theorem st_tup {es : CL} (he : SndL g N F k es) : Snd g N F k (.tup es) := by
  refine Snd.plain (fun {X y sc ex} m C h => ?_) fun sc ex h => ?_
  · unfold chkE at h
    split at h
    · exact snd_tup (he C h).1
    · cases h
  · unfold chkE at h
    split at h
    · exact .inl rfl
    · cases h
theorem st_lst {es : CL} (he : SndL g N F k es) : Snd g N F k (.lst es) := by
  refine Snd.plain (fun {X y sc ex} m C h => ?_) fun sc ex h => ?_
  · unfold chkE at h
    split at h
    · exact snd_lst (he C h).1
    · cases h
  · unfold chkE at h
    split at h
    · exact .inl rfl
    · cases h
theorem st_sl {a : CE} {lo hi : CO} (ha : Snd g N F k a) (hl : SndO g N F k lo) (hh : SndO g N F k hi) : Snd g N F k (.sl a lo hi) := by
  refine Snd.plain (fun {X y sc ex} m C h => ?_) fun sc ex h => ?_
  · unfold chkE at h
    split at h
    · simp only [Bool.and_eq_true] at h
      exact snd_sl C.toCtx (ha.e true C h.1.1) ((hl C).1 h.1.2) ((hh C).1 h.2)
    · cases h
  · unfold chkE at h
    split at h
    · exact .inl rfl
    · cases h
theorem ne_of_isEmpty {α : Type} {l : List α} (h : (!l.isEmpty) = true) : l ≠ [] := by
  intro e; subst e; cases h
theorem st_bi {b : Bi} {es : CL} (he : SndL g N F k es) : Snd g N F k (.bi b es) := by
  refine Snd.plain (fun {X y sc ex} m C h => ?_) fun sc ex h => ?_
  · unfold chkE at h
    split at h
    · simp only [Bool.and_eq_true, decide_eq_true_eq] at h
      obtain ⟨⟨⟨⟨⟨rfl, h1⟩, h2⟩, h3⟩, h4⟩, h5⟩ := h
      exact snd_bi C.toCtx h1 h2 (ne_of_isEmpty h3) h4 (he C h5).2
    · cases h
  · unfold chkE at h
    split at h
    · exact .inl rfl
    · cases h
theorem fn_some {f : Nat} {x : Str} {kd : Kd} (h : (match g.fn f with
      | some (x', _, kd') => decide (x' = x) && decide (kd' = kd)
      | none => false) = true) : ∃ np, g.fn f = some (x, np, kd) := by
  split at h
  · rename_i x' np kd' e
    simp only [Bool.and_eq_true, decide_eq_true_eq] at h
    obtain ⟨rfl, rfl⟩ := h
    exact ⟨np, e⟩
  · cases h
theorem st_call {f : Nat} {es : CL} (ar : Arity g F) (he : SndL g N F k es) : Snd g N F k (.call f es) := by
  refine Snd.plain (fun {X y sc ex} m C h => ?_) fun sc ex h => ?_
  · unfold chkE at h
    split at h
    · simp only [Bool.and_eq_true] at h
      obtain ⟨⟨⟨⟨h1, h2⟩, h3⟩, h4⟩, h5⟩ := h
      obtain ⟨np, hf⟩ := fn_some h1
      exact snd_call C ar hf h2 (ne_of_isEmpty h3) h4 (he C h5).1
    · cases h
  · unfold chkE at h
    split at h
    · exact .inl rfl
    · cases h
theorem st_callD {f : Nat} {es : CL} (ar : Arity g F) (he : SndL g N F k es) : Snd g N F k (.callD f es) := by
  refine Snd.plain (fun {X y sc ex} m C h => ?_) fun sc ex h => ?_
  · unfold chkE at h
    split at h
    · simp only [Bool.and_eq_true] at h
      obtain ⟨⟨⟨⟨h1, h2⟩, h3⟩, h4⟩, h5⟩ := h
      obtain ⟨np, hf⟩ := fn_some h1
      exact snd_callD C ar hf h2 (ne_of_isEmpty h3) h4 (he C h5).1
    · cases h
  · unfold chkE at h
    split at h
    · exact .inl rfl
    · cases h
theorem st_call0 {f : Nat} : Snd g N F k (.call0 f) := by
  refine Snd.plain (fun {X y sc ex} m C h => ?_) fun sc ex h => ?_
  · unfold chkE at h
    split at h
    · simp only [Bool.and_eq_true] at h
      obtain ⟨h1, h2⟩ := h
      split at h1
      · rename_i e
        simp only [Bool.and_eq_true, decide_eq_true_eq] at h1
        obtain ⟨⟨rfl, rfl⟩, rfl⟩ := h1
        exact snd_call0 C e h2
      · cases h1
    · cases h
  · unfold chkE at h
    split at h
    · exact .inl rfl
    · cases h
theorem st_callK {f : Nat} {es : CL} {c : CE} (ar : Arity g F) (he : SndL g N F k es) (hc : Snd g N F k c) : Snd g N F k (.callK f es c) := by
  refine Snd.plain (fun {X y sc ex} m C h => ?_) fun sc ex h => ?_
  · unfold chkE at h
    split at h
    · simp only [Bool.and_eq_true, decide_eq_true_eq] at h
      obtain ⟨⟨⟨⟨⟨⟨rfl, h1⟩, h2⟩, h3⟩, h4⟩, h5⟩, h6⟩ := h
      obtain ⟨np, hf⟩ := fn_some h1
      exact snd_callK C ar hf h2 (ne_of_isEmpty h3) h4 (he C h5).1 (hc.e false C h6)
    · cases h
  · unfold chkE at h
    split at h
    · exact .inl rfl
    · cases h
theorem subB_ok {a b : List Nat} (h : subB a b = true) : ∀ i, i ∈ a → i ∈ b := fun i hi => by
  simp only [subB, List.all_eq_true] at h
  simpa using h i hi
theorem own_snd (own : List Nat) : (ownOf N own).map (·.2) = own := by simp [ownOf, Function.comp_def]
theorem cell_fn {X : Cx} {scope : Scope} {s : Shared} {H : Hp} {ce : PySem.Env} {fp : List Addr} : ∀ x, cellB scope x = true → (X.blk s H scope ce fp).fn x = true := fun x h => by
  unfold cellB at h
  show (scope.names.lookup x == some .cell) = true
  split at h
  · rename_i e; rw [e]; rfl
  · cases h
theorem st_lc1 {e : CE} {own : List Nat} {tg : Tg} {it : CI} {c : CO} (he : Snd g N F k e) (hi : SndI g N F k it) (hc : SndO g N F k c) : Snd g N F k (.lc1 e own tg it c) := by
  refine Snd.plain (fun {X y sc ex} m C h => ?_) fun sc ex h => ?_
  · unfold chkE at h
    split at h
    · rename_i elt te iter ifs asy scope pos
      simp only [Bool.and_eq_true, decide_eq_true_eq] at h
      obtain ⟨⟨⟨⟨⟨⟨⟨rfl, h1⟩, h2⟩, h3⟩, h4⟩, h5⟩, h6⟩, h7⟩ := h
      have B : BlkOk X.N X.env.scope scope (ownOf N own) := by rw [C.names, C.scope]; exact blkOk_by h1
      refine PE.imp (pe_lc (own := ownOf N own) (g := gTg y.K tg) (tt := tCd (nox y) (evalC F c)) (te := tE (nox y) false (evalE F false e)) C.calm (by rw [C.names]; exact C.nd) (hi C h5) B
        (fun s H c' cl fp => pg_tg (y := nox y) (C.blk scope s H c' cl fp).toCtx cell_fn h2) (fun s H c' cl fp => (hc (C.blk scope s H c' cl fp)).2 h6) (fun s H c' cl fp => he.e false (C.blk scope s H c' cl fp) h7) (fun x => fold_ord h4)) fun σ H Q q => ?_
      rw [own_snd]
      exact lc1_read (subB_ok h3) q
    · cases h
  · unfold chkE at h
    split at h
    · exact .inl rfl
    · cases h
theorem st_lc2 {e : CE} {own own2 : List Nat} {tg tg2 : Tg} {it it2 : CI} {c c2 : CO} (he : Snd g N F k e) (hi : SndI g N F k it) (hc : SndO g N F k c) (hi2 : SndI g N F k it2) (hc2 : SndO g N F k c2) : Snd g N F k (.lc2 e own own2 tg it c tg2 it2 c2) := by
  refine Snd.plain (fun {X y sc ex} m C h => ?_) fun sc ex h => ?_
  · unfold chkE at h
    split at h
    · rename_i elt te iter ifs asy te2 iter2 ifs2 asy2 scope pos
      simp only [Bool.and_eq_true, decide_eq_true_eq] at h
      obtain ⟨⟨⟨⟨⟨⟨⟨⟨⟨⟨⟨⟨⟨⟨rfl, rfl⟩, h1⟩, h2⟩, h3⟩, h4⟩, h5⟩, h6⟩, k1⟩, k2⟩, k3⟩, k4⟩, k5⟩, k6⟩, h7⟩ := h
      have B : BlkOk X.N X.env.scope scope (ownOf N own) := by rw [C.names, C.scope]; exact blkOk_by h1
      refine PE.imp (pe_lc2 (own := ownOf N own) (vs1 := own2) (g := gTg y.K tg) (tt := tCd (nox y) (evalC F c)) (wi1 := iI (nox y) (evalI F it2)) (g1 := gTg y.K tg2) (tt1 := tCd (nox y) (evalC F c2)) (te := tE (nox y) false (evalE F false e)) C.calm (by rw [C.names]; exact C.nd) (hi C h5) B
        (fun i hi => by rw [own_snd]; exact subB_ok k3 i hi)
        (fun s H c' cl fp => pg_tg (y := nox y) (C.blk scope s H c' cl fp).toCtx cell_fn h2) (fun s H c' cl fp => (hc (C.blk scope s H c' cl fp)).2 h6)
        (fun s H c' cl fp => hi2 (C.blk scope s H c' cl fp) k5)
        (fun s H c' cl fp => pg_tg (y := nox y) (C.blk scope s H c' cl fp).toCtx cell_fn k1) (fun s H c' cl fp => (hc2 (C.blk scope s H c' cl fp)).2 k6)
        (fun s H c' cl fp => he.e false (C.blk scope s H c' cl fp) h7) (fun x => fold_ord h4) (fun env x => fold_ord k4)) fun σ H Q q => ?_
      rw [own_snd]
      exact lc2_read (subB_ok h3) (subB_ok k2) q
    · cases h
  · unfold chkE at h
    split at h
    · exact .inl rfl
    · cases h

theorem st_hole : Snd g N F k .hole where
  e := fun m C h => ⟨fun pins s σ H Q I q => by
    obtain ⟨env, t, O, r, q⟩ := q
    exact q.elim⟩
  t := fun C h hi => ⟨fun pins s σ H Q I q => by
    obtain ⟨env, t, O, r, q⟩ := q
    exact q.elim⟩
  w := fun C h => ⟨fun whole pins s σ H Q I q => by
    obtain ⟨env, t, O, r, q⟩ := q
    exact q.elim⟩
mutual
theorem sndE (ar : Arity g F) : ∀ c : CE, Snd g N F k c
  | .var i => st_var
  | .cst d => st_cst
  | .glb x d => st_glb
  | .tup es => st_tup (sndL ar es)
  | .lst es => st_lst (sndL ar es)
  | .bin o a b => st_bin (sndE ar a) (sndE ar b)
  | .neg a => st_neg (sndE ar a)
  | .cmp o a b => st_cmp (sndE ar a) (sndE ar b)
  | .chn o p a b c => st_chn (sndE ar a) (sndE ar b) (sndE ar c)
  | .and a b => st_and (sndE ar a) (sndE ar b)
  | .or a b => st_or (sndE ar a) (sndE ar b)
  | .not a => st_not (sndE ar a)
  | .ite c a b => st_ite (sndE ar c) (sndE ar a) (sndE ar b)
  | .ix a i => st_ix (sndE ar a) (sndE ar i)
  | .sl a lo hi => st_sl (sndE ar a) (sndO ar lo) (sndO ar hi)
  | .call f es => st_call ar (sndL ar es)
  | .call0 f => st_call0
  | .callK f es c => st_callK ar (sndL ar es) (sndE ar c)
  | .callD f es => st_callD ar (sndL ar es)
  | .bi b es => st_bi (sndL ar es)
  | .isi a ty => st_isi (sndE ar a)
  | .mth mt a b => st_mth (sndE ar a) (sndE ar b)
  | .lc1 e own tg it c => st_lc1 (sndE ar e) (sndI ar it) (sndO ar c)
  | .lc2 e own own2 tg it c tg2 it2 c2 => st_lc2 (sndE ar e) (sndI ar it) (sndO ar c) (sndI ar it2) (sndO ar c2)
  | .hole => st_hole
theorem sndL (ar : Arity g F) : ∀ c : CL, SndL g N F k c
  | .nil => st_nil
  | .cons e r => st_cons (sndE ar e) (sndL ar r)
theorem sndO (ar : Arity g F) : ∀ c : CO, SndO g N F k c
  | .none => st_onone
  | .some e => st_osome (sndE ar e)
theorem sndI (ar : Arity g F) : ∀ c : CI, SndI g N F k c
  | .val e => st_ival (sndE ar e)
  | .rng1 a => st_irng1 (sndE ar a)
  | .rng2 a b => st_irng2 (sndE ar a) (sndE ar b)
  | .rng3 a b c => st_irng3 (sndE ar a) (sndE ar b) (sndE ar c)
  | .enm a => st_ienm (sndE ar a)
end
end
end Wv

set_option maxHeartbeats 4000000
namespace Wv
open PySem L2

/-- a body's own frame (no block of a comprehension) -/
structure Sxx (X : Cx) (y : Cy) (N : List Str) (sc : Scope) (g : Gt) (F : Nat → List PyData → Tw → R PyData) (k : Nat) : Prop extends Cxx X y N sc g F k where
  fnT : ∀ x, X.fn x = true
  po : PassesOwn (model X.prog X.w) X.A X.env X.xe
  kind : sc.kind = .function
  stk : X.stack = X.env :: X.outer
  frm : X.env.frame = some X.env.locals
  exn : X.ex = []

/-! ### readings of statements -/
def FinS (y : Cy) (O : List Addr) (H : Hp) (D : Ends) : SR → Prop
  | .next env' t' => ∀ σ' H' O', Rel y env' t' σ' H' O' → Fut O H O' H' → D.nx σ' H'
  | .ret d t' => ∀ v H', Grow y.z y.H0 H' → TwOk y.z H' t' → Rp y.K y.z (hide y.O0 H') v d → D.rt v H'
  | .exc c env' t' => ∀ σ' H' O', Rel y env' t' σ' H' O' → Fut O H O' H' → y.W (.ref (y.z.cls c)) none σ' H'
  | .bad => False
def tS (y : Cy) (run : Env → Tw → SR) : TS := fun D σ H => ∃ env t O, Rel y env t σ H O ∧ FinS y O H D (run env t)

theorem PS.imp {X : Cx} {s : Stmt} {t t' : TS} (h : PS X s t) (i : ∀ D σ H, t' D σ H → t D σ H) : PS X s t' := ⟨fun pins s σ H D I q => h.run pins s σ H D I (i D σ H q)⟩
theorem PSs.imp {X : Cx} {s : List Stmt} {t t' : TS} (h : PSs X s t) (i : ∀ D σ H, t' D σ H → t D σ H) : PSs X s t' := ⟨fun pins s σ H D I q => h.run pins s σ H D I (i D σ H q)⟩

section
variable {X : Cx} {y : Cy} {N : List Str} {sc : Scope} {m : Bool} {g : Gt} {F : Nat → List PyData → Tw → R PyData} {k : Nat}
variable {env env' : Env} {t t' : Tw} {σ σ' : St} {H H' : Hp} {O O' : List Addr} {D : Ends}

theorem FinS.fut {x : SR} (h : FinS y O H D x) (f : Fut O H O' H') : FinS y O' H' D x := by
  cases x with
  | next env t => exact fun σ' H' O' r f' => h σ' H' O' r (f.trans f')
  | ret d t => exact h
  | exc c env t => exact fun σ' H' O' r f' => h σ' H' O' r (f.trans f')
  | bad => exact h
theorem Rel.hideO0 (r : Rel y env t σ H O) : ∀ a u, hide O H a = some u → hide y.O0 H a = some u := fun a u h => by
  obtain ⟨h1, h2⟩ := hide_some h
  exact hide_of (fun q => h1 (r.sub a q)) h2

/-- an expression within a statement -/
theorem tE.thenS {ra : Env → Tw → R PyData} {f : PyData → Tw → SR} {C : V → Hp → Prop} (r : Rel y env t σ H O) (h : FinS y O H D (SR.of (ra env t) env f))
    (q : ∀ d t1 v H1, ra env t = .ok d t1 → Grow y.z H H1 → Rel y env t1 σ H1 O → Rv y m O H1 v d → FinS y O H1 D (f d t1) → C v H1) : tE y m ra σ H C := by
  refine ⟨env, t, O, r, ?_⟩
  cases e : ra env t with
  | bad => rw [e] at h; exact h
  | exc c t1 =>
    rw [e] at h
    exact fun H' g w => h σ H' O (r.after g w) (r.mono g)
  | ok d t1 =>
    rw [e] at h
    intro v H1 g w rv
    exact q d t1 v H1 e g (r.after g w) rv (FinS.fut h (r.mono g))
theorem tL.thenS {ra : Env → Tw → R (List PyData)} {f : List PyData → Tw → SR} {C : List V → Hp → Prop} (r : Rel y env t σ H O) (h : FinS y O H D (SR.of (ra env t) env f))
    (q : ∀ d t1 v H1, ra env t = .ok d t1 → Grow y.z H H1 → Rel y env t1 σ H1 O → Paired (Rv y m O H1) v d → FinS y O H1 D (f d t1) → C v H1) : tL y m ra σ H C := by
  refine ⟨env, t, O, r, ?_⟩
  cases e : ra env t with
  | bad => rw [e] at h; exact h
  | exc c t1 =>
    rw [e] at h
    exact fun H' g w => h σ H' O (r.after g w) (r.mono g)
  | ok d t1 =>
    rw [e] at h
    intro v H1 g w rv
    exact q d t1 v H1 e g (r.after g w) rv (FinS.fut h (r.mono g))

/-! ### blocks -/
theorem sst_nil : PSs X [] (tS y fun env t => .next env t) := PSs.imp pss_nil fun D σ H h => by
  obtain ⟨env, t, O, r, h⟩ := h
  exact h σ H O r Fut.refl
theorem sst_cons {st : Stmt} {rest : List Stmt} {rs rr : Env → Tw → SR} (h1 : PS X st (tS y rs)) (h2 : PSs X rest (tS y rr)) : PSs X (st :: rest) (tS y fun env t => match rs env t with
    | .next env' t' => rr env' t'
    | x => x) := PSs.imp (pss_cons h1 h2) fun D σ H h => by
  obtain ⟨env, t, O, r, h⟩ := h
  refine ⟨env, t, O, r, ?_⟩
  dsimp only at h
  cases e : rs env t with
  | next env' t' =>
    rw [e] at h
    exact fun σ' H' O' r' f => ⟨env', t', O', r', FinS.fut h f⟩
  | ret d t' => rw [e] at h; exact h
  | exc c env' t' => rw [e] at h; exact h
  | bad => rw [e] at h; exact h
/-- an owned thing is shared from here on -/
theorem Rel.share {i : Nat} {o : Bool} {d : PyData} (r : Rel y env t σ H O) (e : env[i]? = some (some (o, d))) : ∃ O', Rel y (env.set i (some (false, d))) t σ H O' ∧ Fut O H O' H := by
  have hl : i < env.length := by
    rcases Nat.lt_or_ge i env.length with h | h
    · exact h
    · rw [List.getElem?_eq_none h] at e; cases e
  cases o with
  | false =>
    have : env.set i (some (false, d)) = env := by
      apply List.ext_getElem?
      intro j
      by_cases n : i = j
      · subst n; rw [List.getElem?_set_self hl, e]
      · rw [List.getElem?_set_ne n]
    rw [this]
    exact ⟨O, r, Fut.refl⟩
  | true =>
    obtain ⟨a, ea, p⟩ := r.ow i d e
    have na : ∀ b, b ∈ y.O0 → b ≠ a := fun b hb n => by
      subst n
      exact r.dom0 _ hb p.new
    let O2 := O.filter fun b => decide (b ≠ a)
    have mo : Fut O H O2 H := fun b u q => by
      obtain ⟨q1, q2⟩ := hide_some q
      exact hide_of (fun z => q1 (List.mem_filter.mp z).1) q2
    obtain ⟨xs, ds, h1, h2, h3, h4⟩ := p.is
    have pa : Rp y.K y.z (hide O2 H) (.ref a) d := by
      subst h3
      refine .lst (hide_of (fun z => ?_) h1) h2 (h4.mono mo)
      have := (List.mem_filter.mp z).2
      simp at this
    refine ⟨O2, ?_, mo⟩
    exact {
      len := by rw [List.length_set]; exact r.len
      sh := fun j e' q => by
        by_cases n : i = j
        · subst n
          rw [List.getElem?_set_self hl] at q
          cases q
          exact ⟨.ref a, ea, pa⟩
        · rw [List.getElem?_set_ne n] at q
          obtain ⟨v, ev, pv⟩ := r.sh j e' q
          exact ⟨v, ev, pv.mono mo⟩
      ow := fun j e' q => by
        by_cases n : i = j
        · subst n
          rw [List.getElem?_set_self hl] at q
          cases q
        · rw [List.getElem?_set_ne n] at q
          obtain ⟨b, eb, pb⟩ := r.ow j e' q
          have nb : b ≠ a := fun z => by
            subst z
            exact n (r.inj i j _ _ b e q ea eb)
          obtain ⟨xs', ds', k1, k2, k3, k4⟩ := pb.is
          exact ⟨b, eb, List.mem_filter.mpr ⟨pb.mem, by simpa using nb⟩, pb.nT, pb.nN, pb.new, xs', ds', k1, k2, k3, k4.mono mo⟩
      inj := fun j j' d1 d2 b q1 q2 q3 q4 => by
        have no : ∀ (j : Nat) d', (env.set i (some (false, d)))[j]? = some (some (true, d')) → i ≠ j := fun j d' q n => by
          subst n
          rw [List.getElem?_set_self hl] at q; cases q
        rw [List.getElem?_set_ne (no j _ q1)] at q1
        rw [List.getElem?_set_ne (no j' _ q2)] at q2
        exact r.inj j j' _ _ b q1 q2 q3 q4
      grow := r.grow
      sub := fun b hb => List.mem_filter.mpr ⟨r.sub b hb, by simpa using na b hb⟩
      dom := fun b hb => r.dom b (List.mem_filter.mp hb).1
      tT := r.tT
      dom0 := r.dom0
      tN := r.tN
      ne := r.ne
      tw := r.tw }
theorem sst_shr {i : Nat} {rest : List Stmt} {rr : Env → Tw → SR} (h2 : PSs X rest (tS y rr)) : PSs X rest (tS y fun env t => match env[i]? with
    | some (some (_, d)) => rr (env.set i (some (false, d))) t
    | _ => .bad) := PSs.imp h2 fun D σ H h => by
  obtain ⟨env, t, O, r, h⟩ := h
  dsimp only at h
  split at h
  · rename_i o d e
    obtain ⟨O', r', f⟩ := r.share e
    exact ⟨_, t, O', r', FinS.fut h f⟩
  · exact h.elim

/-! ### small statements -/
theorem sst_ret {e : Expr} {pos : Pos} {ra : Env → Tw → R PyData} (he : PE X e (tE y false ra)) : PS X (.Return (some e) pos) (tS y fun env t => SR.of (ra env t) env fun d t => .ret d t) := PS.imp (ps_ret he) fun D σ H h => by
  obtain ⟨env, t, O, r, h⟩ := h
  refine tE.thenS r h fun d t1 v H1 e g r1 rv z => ?_
  exact z v H1 r1.grow r1.tw (rv.share.mono r1.hideO0)
/-- no comprehension -/
def noComp : Expr → Bool
  | .ListComp .. => false
  | .SetComp .. => false
  | .DictComp .. => false
  | _ => true
theorem swap_none {e : Expr} {tg : Option Expr} {l : Nat} {env : PySem.Env} (h : noComp e = true) : swapsWith e tg l env = pure false := by
  cases e <;> first | rfl | cases h
theorem sst_expr {e : Expr} {pos : Pos} {ra : Env → Tw → R PyData} (hn : noComp e = true) (he : PE X e (tE y true ra)) : PS X (.Expr e pos) (tS y fun env t => SR.of (ra env t) env fun _ t => .next env t) := PS.imp (ps_expr he (swap_none hn)) fun D σ H h => by
  obtain ⟨env, t, O, r, h⟩ := h
  refine tE.thenS r h fun d t1 v H1 e g r1 rv z => ?_
  exact z σ H1 O r1 Fut.refl
theorem sst_asg {i : Nat} {x : Str} {e : Expr} {pos pos' : Pos} {ra : Env → Tw → R PyData} (C : Sxx X y N sc g F k) (hi : N[i]? = some x) (hx : locB sc x = true) (hs : swapsWith e (some (.Name x pos')) pos.line X.env = pure false) (he : PE X e (tE y false ra)) :
    PS X (.Assign [.Name x pos'] e pos) (tS y fun env t => SR.of (ra env t) env fun d t => .next (env.set i (some (false, d))) t) := by
  refine PS.imp (ps_set (i := i) (by rw [C.names]; exact C.nd) (by rw [C.names]; exact hi) (by rw [C.scope]; exact loc_of hx) he hs (.inl (C.fnT x))) fun D σ H h => ?_
  obtain ⟨env, t, O, r, h⟩ := h
  refine tE.thenS r h fun d t1 v H1 e g r1 rv z => ?_
  exact z _ H1 O (r1.store rv.share) Fut.refl
theorem sst_asgT {is : List Nat} {tg e : Expr} {pos : Pos} {ra : Env → Tw → R PyData} (C : Sxx X y N sc g F k) (ht : chkTg N sc (fun _ => true) (.tup is) tg = true) (hn : noComp e = true) (hw : swappedStores [tg] e X.env = pure none) (he : PE X e (tE y false ra)) :
    PS X (.Assign [tg] e pos) (tS y fun env t => SR.of (ra env t) env fun d t => match bindTg (.tup is) d env with
      | some env' => .next env' t
      | none => .bad) := by
  have hg := pg_tg C.toCtx (fun x _ => C.fnT x) ht
  have h1 : (assignEach [tg] X.env).map (·.2) = [assign tg X.env] := by
    cases tg with
    | Tuple es kk p => rfl
    | _ => cases ht
  refine PS.imp (ps_asg he hg (swap_none hn) hw h1) fun D σ H h => ?_
  obtain ⟨env, t, O, r, h⟩ := h
  refine tE.thenS r h fun d t1 v H1 e g r1 rv z => ?_
  cases eb : bindTg (.tup is) d env with
  | none => rw [eb] at z; exact z.elim
  | some env' =>
    rw [eb] at z
    exact tg_ok rv.share eb fun ws c => z _ H1 O (c _ _ _ r1 Fut.refl) Fut.refl
end
end Wv

set_option maxHeartbeats 4000000
namespace Wv
open PySem L2

section
variable {X : Cx} {y : Cy} {N : List Str} {sc : Scope} {m : Bool} {g : Gt} {F : Nat → List PyData → Tw → R PyData} {k : Nat}
variable {env env' : Env} {t t' : Tw} {σ σ' : St} {H H' : Hp} {O O' : List Addr} {D : Ends}

/-! ### if -/
theorem Rel.borrow (r : Rel y env t σ H O) : Rel y (borrow env) t σ H y.O0 := by
  have mo : Fut O H y.O0 H := r.hideO0
  exact {
    len := by rw [r.len]; simp [Wv.borrow]
    sh := fun i d e => by
      simp only [Wv.borrow, List.getElem?_map] at e
      cases q : env[i]? with
      | none => rw [q] at e; cases e
      | some o =>
        rw [q] at e
        cases o with
        | none => cases e
        | some p =>
          obtain ⟨b, d'⟩ := p
          cases e
          cases b with
          | false =>
            obtain ⟨v, ev, pv⟩ := r.sh i _ q
            exact ⟨v, ev, pv.mono mo⟩
          | true =>
            obtain ⟨a, ea, p⟩ := r.ow i _ q
            obtain ⟨xs, ds, h1, h2, h3, h4⟩ := p.is
            refine ⟨.ref a, ea, ?_⟩
            rw [h3]
            exact .lst (hide_of (fun z => r.dom0 a z p.new) h1) h2 (h4.mono mo)
    ow := fun i d e => by
      simp only [Wv.borrow, List.getElem?_map] at e
      cases q : env[i]? with
      | none => rw [q] at e; cases e
      | some o =>
        rw [q] at e
        cases o with
        | none => cases e
        | some p => cases e
    inj := fun i j d e a q1 q2 q3 q4 => by
      simp only [Wv.borrow, List.getElem?_map] at q1
      cases q : env[i]? with
      | none => rw [q] at q1; cases q1
      | some o =>
        rw [q] at q1
        cases o with
        | none => cases q1
        | some p => cases q1
    grow := r.grow
    sub := fun a h => h
    dom := fun a h => r.dom a (r.sub a h)
    tT := r.tT
    dom0 := r.dom0
    tN := r.tN
    ne := r.ne
    tw := r.tw }
theorem sst_ite {ec : Expr} {sa sb : List Stmt} {pos : Pos} {rc : Env → Tw → R PyData} {ra rb : Env → Tw → SR} (hc : PT X ec (tT y rc)) (ha : PSs X sa (tS y ra)) (hb : PSs X sb (tS y rb)) :
    PS X (.If ec sa sb pos) (tS y fun env t => SR.of (rc (borrow env) t) env fun x t => match x with
      | .bool true => ra env t
      | .bool false => rb env t
      | _ => .bad) := PS.imp (ps_if hc ha hb) fun D σ H h => by
  obtain ⟨env, t, O, r, h⟩ := h
  refine ⟨Wv.borrow env, t, y.O0, r.borrow, ?_⟩
  dsimp only at h
  cases e : rc (Wv.borrow env) t with
  | bad => rw [e] at h; exact h
  | exc c t1 => rw [e] at h; exact fun H' g w => h σ H' O (r.after g w) (r.mono g)
  | ok d t1 =>
    rw [e] at h
    cases d with
    | bool b =>
      refine ⟨b, rfl, fun H' g w => ?_⟩
      cases b with
      | true => rw [if_pos rfl]; exact ⟨env, t1, O, r.after g w, FinS.fut h (r.mono g)⟩
      | false => rw [if_neg Bool.false_ne_true]; exact ⟨env, t1, O, r.after g w, FinS.fut h (r.mono g)⟩
    | _ => exact False.elim h

/-! ### for -/
theorem fut_ext (h : ∀ a u, H a = some u → H' a = some u) : Fut O H O H' := fun a u q => hide_of (hide_some q).1 (h _ _ (hide_some q).2)
theorem sst_for {tg : Tg} {te iter : Expr} {body : List Stmt} {pos : Pos} {ri : Env → Tw → R (List PyData)} {rb : Env → Tw → SR} (C : Sxx X y N sc g F k) (ht : chkTg N sc (fun _ => true) tg te = true) (ho : ordE iter = true) (hi : PI X te iter (iI y ri)) (hb : PSs X body (tS y rb)) :
    PS X (.For te iter body [] pos) (tS y fun env t => SR.of (ri env t) env fun xs t => forLoop (fun x env t => match bindTg tg x env with
      | some env' => rb env' t
      | none => .bad) xs env t) := by
  refine PS.imp (ps_for C.po C.calm hi (pg_tg C.toCtx (fun x _ => C.fnT x) ht) hb (fun x => fold_ord ho)) fun D σ H h => ?_
  obtain ⟨env, t, O, r, h⟩ := h
  refine ⟨env, t, O, r, ?_⟩
  dsimp only at h
  cases e1 : ri env t with
  | bad => rw [e1] at h; exact h
  | exc c t1 => rw [e1] at h; exact fun H' g w => h σ H' O (r.after g w) (r.mono g)
  | ok ds t1 =>
    rw [e1] at h
    intro J H1 g1 w1 gv
    have r1 := r.after g1 w1
    have h := FinS.fut h (r.mono g1)
    generalize hf : (fun (x : PyData) (env : Env) (t : Tw) => match bindTg tg x env with
      | some env' => rb env' t
      | none => SR.bad) = f at h
    refine ⟨fun i k σ' H' => k = ds.length - i ∧ i ≤ ds.length ∧ ∃ env' t' O', Rel y env' t' σ' H' O' ∧ Fut O H1 O' H' ∧ FinS y O' H' D (forLoop f (ds.drop i) env' t'), ⟨ds.length, by simp, Nat.zero_le _, env, t1, O, r1, Fut.refl, by simpa using h⟩, ?_⟩
    rintro i k σ2 H2 ⟨rfl, hil, env2, t2, O2, r2, f2, h2⟩
    obtain ⟨gs, gn⟩ := gv.2 i O2 H2 f2 r2.dom
    by_cases hlt : i < ds.length
    · obtain ⟨d, ed⟩ : ∃ d, ds[i]? = some d := ⟨ds[i], List.getElem?_eq_getElem hlt⟩
      obtain ⟨go, yl⟩ := gn d ed
      have edrop : ds.drop i = d :: ds.drop (i + 1) := by
        rw [List.drop_eq_getElem_cons hlt]
        congr 1
        rw [List.getElem?_eq_getElem hlt] at ed
        exact Option.some.inj ed
      rw [edrop] at h2
      unfold forLoop at h2
      refine .inr ⟨go, fun σ' H' => ds.length - (i + 1) = ds.length - (i + 1) ∧ i + 1 ≤ ds.length ∧ ∃ env' t' O', Rel y env' t' σ' H' O' ∧ Fut O H1 O' H' ∧ FinS y O' H' D (forLoop f (ds.drop (i + 1)) env' t'), fun σ' H' q => ⟨ds.length - (i + 1), by omega, q⟩, fun x H3 q => ?_⟩
      obtain ⟨ext, px⟩ := yl x H3 q
      have r3 : Rel y env2 t2 σ2 H3 O2 := r2.after (grow_ext ext) (tw_ext r2.tw ext)
      have f3 : Fut O2 H2 O2 H3 := fut_ext ext
      have hfd : f d env2 t2 = match bindTg tg d env2 with
        | some env' => rb env' t2
        | none => SR.bad := by rw [← hf]
      rw [hfd] at h2
      cases eb : bindTg tg d env2 with
      | none => rw [eb] at h2; exact h2.elim
      | some env' =>
        rw [eb] at h2
        simp only at h2
        refine tg_ok px eb fun ws c => ⟨env', t2, O2, c _ _ _ r3 Fut.refl, ?_⟩
        cases er : rb env' t2 with
        | bad => rw [er] at h2; exact h2
        | ret v t4 => rw [er] at h2; exact h2
        | exc c env4 t4 =>
          rw [er] at h2
          exact fun σ' H' O' r' f' => h2 σ' H' O' r' (f3.trans f')
        | next env4 t4 =>
          rw [er] at h2
          exact fun σ' H' O' r' f' => ⟨rfl, hlt, env4, t4, O', r', (f2.trans f3).trans f', FinS.fut h2 (f3.trans f')⟩
    · have ei : i = ds.length := by omega
      subst ei
      rw [List.drop_length] at h2
      exact .inl ⟨gs rfl, h2 σ2 H2 O2 r2 Fut.refl⟩

/-! ### owned lists -/
theorem Rel.own {i : Nat} {a : Addr} {acc : List V} {ds : List PyData} {H1 H2 : Hp} (r : Rel y env t σ H O) (g1 : Grow y.z H H1) (hD : H1 a = none) (nT : a ≠ y.z.aT) (nN : a ≠ y.z.aN) (g2 : Grow y.z H1 H2) (w : TwOk y.z H2 t') (hD2 : H2 a = some (.lst acc)) (l : acc.length ≤ lineN) (p : RpAll y.K y.z (hide (a :: O) H2) acc ds) :
    Rel y (env.set i (some (true, .list ds))) t' (σ.set i (some (.ref a))) H2 (a :: O) ∧ Fut O H (a :: O) H2 := by
  have hDH : H a = none := by
    cases q : H a with
    | none => rfl
    | some u => rw [g1 a u q nT nN] at hD; cases hD
  have hD0 : y.H0 a = none := by
    cases q : y.H0 a with
    | none => rfl
    | some u => rw [r.grow a u q nT nN] at hDH; cases hDH
  have rl : Rel y env t' σ H2 (a :: O) := r.lend hDH (g1.trans g2) w (by rw [hD2]; simp)
  have nO := r.notIn hDH
  refine ⟨?_, fut_lent r hDH (g1.trans g2)⟩
  exact {
    len := by rw [List.length_set, List.length_set]; exact r.len
    sh := fun j e q => by
      by_cases n : i = j
      · subst n
        by_cases hl : i < env.length
        · rw [List.getElem?_set_self hl] at q; cases q
        · rw [List.getElem?_eq_none (by simpa using hl)] at q; cases q
      · rw [List.getElem?_set_ne n] at q ⊢
        exact rl.sh j e q
    ow := fun j e q => by
      by_cases n : i = j
      · subst n
        by_cases hl : i < env.length
        · rw [List.getElem?_set_self hl] at q
          cases q
          exact ⟨a, by rw [List.getElem?_set_self (by rw [r.len]; exact hl)], List.mem_cons_self, nT, nN, hD0, acc, ds, hD2, l, rfl, p⟩
        · rw [List.getElem?_eq_none (by simpa using hl)] at q; cases q
      · rw [List.getElem?_set_ne n] at q ⊢
        exact rl.ow j e q
    inj := fun j j' d1 d2 b q1 q2 q3 q4 => by
      have old : ∀ (j : Nat) d, env[j]? = some (some (true, d)) → σ[j]? = some (some (.ref b)) → b ≠ a := fun j d z1 z2 => by
        obtain ⟨b', eb, pb⟩ := r.ow j d z1
        rw [z2] at eb
        cases eb
        rintro rfl
        exact nO pb.mem
      by_cases n : i = j
      · by_cases n' : i = j'
        · exact n.symm.trans n'
        · subst n
          rw [List.getElem?_set_ne n'] at q2 q4
          by_cases hl : i < σ.length
          · rw [List.getElem?_set_self hl] at q3
            cases q3
            exact absurd rfl (old j' _ q2 q4)
          · rw [List.getElem?_eq_none (by simpa using hl)] at q3; cases q3
      · rw [List.getElem?_set_ne n] at q1 q3
        by_cases n' : i = j'
        · subst n'
          by_cases hl : i < σ.length
          · rw [List.getElem?_set_self hl] at q4
            cases q4
            exact absurd rfl (old j _ q1 q3)
          · rw [List.getElem?_eq_none (by simpa using hl)] at q4; cases q4
        · rw [List.getElem?_set_ne n'] at q2 q4
          exact r.inj j j' _ _ b q1 q2 q3 q4
    grow := rl.grow
    sub := rl.sub
    dom := rl.dom
    tT := r.tT
    dom0 := r.dom0
    tN := r.tN
    ne := r.ne
    tw := w }
theorem own_fin {i : Nat} {x : R PyData} (r : Rel y env t σ H O) (hx : ∀ d t', x = .ok d t' → ∃ ds, d = .list ds) (h : FinS y O H D (SR.of x env fun d t => .next (env.set i (some (true, d))) t)) :
    FinN y O σ (fun v H2 => D.nx (σ.set i (some v)) H2) H x := by
  cases x with
  | bad => exact h
  | exc c t' => exact fun H' g w => h σ H' O (r.after g w) (r.mono g)
  | ok d t' =>
    obtain ⟨ds, rfl⟩ := hx d t' rfl
    refine ⟨ds, rfl, fun a acc H1 H2 g1 hD nD nT nN g2 w hD2 l p => ?_⟩
    obtain ⟨ro, f⟩ := r.own (i := i) g1 hD nT nN g2 w hD2 l p
    exact h _ H2 _ ro f
theorem asg_fin {i : Nat} {x : R PyData} (r : Rel y env t σ H O) (h : FinS y O H D (SR.of x env fun d t => .next (env.set i (some (false, d))) t)) :
    FinE y false O σ (fun v H2 => D.nx (σ.set i (some v)) H2) H x := by
  cases x with
  | bad => exact h
  | exc c t' => exact fun H' g w => h σ H' O (r.after g w) (r.mono g)
  | ok d t' => exact fun v H' g w rv => h _ H' O ((r.after g w).store rv.share) (r.mono g)
theorem sst_ownL {i : Nat} {x : Str} {es : List Expr} {p pos pos' : Pos} {rs : Env → Tw → R (List PyData)} (C : Sxx X y N sc g F k) (hi : N[i]? = some x) (hx : locB sc x = true) (h : PA X es (tL y false rs)) :
    PS X (.Assign [.Name x pos'] (.List es p) pos) (tS y fun env t => SR.of ((rs env t).bind fun ds t => R.of (okIf (decide (ds.length ≤ lineN)) (.list ds)) t) env fun d t => .next (env.set i (some (true, d))) t) := by
  refine PS.imp (ps_set (i := i) (by rw [C.names]; exact C.nd) (by rw [C.names]; exact hi) (by rw [C.scope]; exact loc_of hx) (pe_lst h) (swap_none rfl) (.inl (C.fnT x))) fun D σ H h => ?_
  obtain ⟨env, t, O, r, h⟩ := h
  refine ⟨env, t, O, r, ?_⟩
  dsimp only at h
  cases e : rs env t with
  | bad => rw [e] at h; exact h
  | exc c t1 => rw [e] at h; exact fun H' g w => h σ H' O (r.after g w) (r.mono g)
  | ok ds t1 =>
    rw [e] at h
    intro vs H1 g w rv
    have ps := pair_share rv
    by_cases hl : ds.length ≤ lineN
    · simp only [R.bind] at h
      rw [okIf, if_pos (decide_eq_true hl)] at h
      have hv : vs.length ≤ lineN := by rw [ps.length]; exact hl
      refine ⟨by rw [line_eq]; exact hv, fun p hp => ?_⟩
      have r1 := r.after g w
      obtain ⟨gn, wn, nO⟩ := r1.new (o := .lst vs) hp
      obtain ⟨nT, nN⟩ := r1.ne_town hp
      obtain ⟨ro, f⟩ := r.own (i := i) (ds := ds) g hp nT nN gn wn upd_same hv (ps.mono (fut_lent r1 hp gn))
      exact h _ _ _ ro f
    · simp only [R.bind] at h
      rw [okIf, if_neg (by simpa using hl)] at h
      exact h.elim

/-! ### a comprehension given to a name -/
/-- whether the name is stored within the comprehension's frame -/
def swapB (sc scope : Scope) (x : Str) (px p : Pos) : Bool := localB sc x && (px.line == p.line) && !(scope.names.any fun (n, k) => n == x && (k == .local || k == .cell))
theorem swap_no {elt : Expr} {gs : List Comprehension} {scope : Scope} {p px : Pos} {x : Str} {l : Nat} {envp : PySem.Env} (hk : envp.scope.kind = .function) (h : swapB envp.scope scope x px p = false) : swapsWith (.ListComp elt gs scope p) (some (.Name x px)) l envp = pure false := by
  have hb : envp.blockKind = .function := by unfold Env.blockKind; rw [hk]; rfl
  have hkd : envp.kindOf x = envp.scope.names.lookup x := rfl
  unfold swapsWith
  simp only [hb, hkd, Expr.pos]
  unfold swapB localB at h
  cases q : envp.scope.names.lookup x with
  | none => rfl
  | some kd =>
    rw [q] at h
    cases kd <;> first
      | (simp only [Bool.true_and] at h
         show pure ((true && true) && (px.line == p.line) && !(scope.names.any fun (n, k) => n == x && (k == .local || k == .cell))) = pure false
         rw [Bool.true_and, Bool.true_and, h])
      | rfl
theorem swap_yes {elt : Expr} {gs : List Comprehension} {scope : Scope} {p px : Pos} {x : Str} {l : Nat} {envp : PySem.Env} (hk : envp.scope.kind = .function) (h : swapB envp.scope scope x px p = true) : swapsWith (.ListComp elt gs scope p) (some (.Name x px)) l envp = pure true := by
  simp only [swapB, Bool.and_eq_true, Bool.not_eq_true'] at h
  exact sw_true hk (local_of h.1.1) h.1.2 h.2
end
end Wv

set_option maxHeartbeats 4000000
namespace Wv
open PySem L2

section
variable {X : Cx} {y : Cy} {N : List Str} {sc : Scope} {m : Bool} {g : Gt} {F : Nat → List PyData → Tw → R PyData} {k : Nat}
variable {env env' : Env} {t t' : Tw} {σ σ' : St} {H H' : Hp} {O O' : List Addr} {D : Ends}

/-- name = [..]: stored within the comprehension's frame or behind it -/
theorem ps_lc1 {i : Nat} {x : Str} {px pos : Pos} {e : CE} {own : List Nat} {tg : Tg} {it : CI} {c : CO} {ex : Expr} (ar : Arity g F) (C : Sxx X y N sc g F k) (hi : N[i]? = some x) (hx : locB sc x = true) (h : chkE g N (.lc1 e own tg it c) sc ex = true) :
    PS X (.Assign [.Name x px] ex pos) (tAsg (tLc (iI y (evalI F it)) (gTg y.K tg) (tCd (nox y) (evalC F c)) (tE (nox y) false (evalE F false e)) own) (gName i)) ∧ subB (tgSlots tg) own = true := by
  unfold chkE at h
  split at h
  · rename_i elt te iter ifs asy scope p
    simp only [Bool.and_eq_true, decide_eq_true_eq] at h
    obtain ⟨⟨⟨⟨⟨⟨⟨rfl, h1⟩, h2⟩, h3⟩, h4⟩, h5⟩, h6⟩, h7⟩ := h
    have B : BlkOk X.N X.env.scope scope (ownOf N own) := by rw [C.names, C.scope]; exact blkOk_by h1
    have hI := sndI (N := N) (k := k) ar it C.toCxx h5
    have hG := fun s H c' cl fp => pg_tg (y := nox y) (C.blk scope s H c' cl fp).toCtx cell_fn h2
    have hT := fun s H c' cl fp => (sndO (N := N) (k := k) ar c (C.blk scope s H c' cl fp)).2 h6
    have hE := fun s H c' cl fp => (sndE (N := N) (k := k) ar e).e false (C.blk scope s H c' cl fp) h7
    refine ⟨?_, h3⟩
    have hkd : X.env.scope.kind = .function := by rw [C.scope]; exact C.kind
    rw [← own_snd (N := N) own]
    by_cases hsw : swapB X.env.scope scope x px p = true
    · have hl : localB sc x = true := by
        simp only [swapB, Bool.and_eq_true] at hsw
        rw [← C.scope]; exact hsw.1.1
      exact ps_setLc (i := i) C.calm (by rw [C.names]; exact C.nd) (by rw [C.names]; exact hi) (by rw [C.scope]; exact local_of hl) (swap_yes hkd hsw) hI B hG hT hE (fun x => fold_ord h4)
    · exact ps_set (i := i) (by rw [C.names]; exact C.nd) (by rw [C.names]; exact hi) (by rw [C.scope]; exact loc_of hx) (pe_lc C.calm (by rw [C.names]; exact C.nd) hI B hG hT hE (fun x => fold_ord h4)) (swap_no hkd (by simpa using hsw)) (.inl (C.fnT x))
  · cases h
theorem ps_lc2 {i : Nat} {x : Str} {px pos : Pos} {e : CE} {own own2 : List Nat} {tg tg2 : Tg} {it it2 : CI} {c c2 : CO} {ex : Expr} (ar : Arity g F) (C : Sxx X y N sc g F k) (hi : N[i]? = some x) (hx : locB sc x = true) (h : chkE g N (.lc2 e own own2 tg it c tg2 it2 c2) sc ex = true) :
    PS X (.Assign [.Name x px] ex pos) (tAsg (tLc2 (iI y (evalI F it)) (gTg y.K tg) (tCd (nox y) (evalC F c)) (iI (nox y) (evalI F it2)) (gTg y.K tg2) (tCd (nox y) (evalC F c2)) (tE (nox y) false (evalE F false e)) own own2) (gName i)) ∧ subB (tgSlots tg) own = true ∧ subB (tgSlots tg2) own2 = true := by
  unfold chkE at h
  split at h
  · rename_i elt te iter ifs asy te2 iter2 ifs2 asy2 scope p
    simp only [Bool.and_eq_true, decide_eq_true_eq] at h
    obtain ⟨⟨⟨⟨⟨⟨⟨⟨⟨⟨⟨⟨⟨⟨rfl, rfl⟩, h1⟩, h2⟩, h3⟩, h4⟩, h5⟩, h6⟩, k1⟩, k2⟩, k3⟩, k4⟩, k5⟩, k6⟩, h7⟩ := h
    have B : BlkOk X.N X.env.scope scope (ownOf N own) := by rw [C.names, C.scope]; exact blkOk_by h1
    have hI := sndI (N := N) (k := k) ar it C.toCxx h5
    have hG := fun s H c' cl fp => pg_tg (y := nox y) (C.blk scope s H c' cl fp).toCtx cell_fn h2
    have hT := fun s H c' cl fp => (sndO (N := N) (k := k) ar c (C.blk scope s H c' cl fp)).2 h6
    have hI2 := fun s H c' cl fp => sndI (N := N) (k := k) ar it2 (C.blk scope s H c' cl fp) k5
    have hG2 := fun s H c' cl fp => pg_tg (y := nox y) (C.blk scope s H c' cl fp).toCtx cell_fn k1
    have hT2 := fun s H c' cl fp => (sndO (N := N) (k := k) ar c2 (C.blk scope s H c' cl fp)).2 k6
    have hE := fun s H c' cl fp => (sndE (N := N) (k := k) ar e).e false (C.blk scope s H c' cl fp) h7
    have hv : ∀ i, i ∈ own2 → i ∈ (ownOf N own).map (·.2) := fun i hi => by rw [own_snd]; exact subB_ok k3 i hi
    refine ⟨?_, h3, k2⟩
    have hkd : X.env.scope.kind = .function := by rw [C.scope]; exact C.kind
    rw [← own_snd (N := N) own]
    by_cases hsw : swapB X.env.scope scope x px p = true
    · have hl : localB sc x = true := by
        simp only [swapB, Bool.and_eq_true] at hsw
        rw [← C.scope]; exact hsw.1.1
      exact ps_setLc2 (i := i) C.calm (by rw [C.names]; exact C.nd) (by rw [C.names]; exact hi) (by rw [C.scope]; exact local_of hl) (swap_yes hkd hsw) hI B hv hG hT hI2 hG2 hT2 hE (fun x => fold_ord h4) (fun env x => fold_ord k4)
    · exact ps_set (i := i) (by rw [C.names]; exact C.nd) (by rw [C.names]; exact hi) (by rw [C.scope]; exact loc_of hx) (pe_lc2 C.calm (by rw [C.names]; exact C.nd) hI B hv hG hT hI2 hG2 hT2 hE (fun x => fold_ord h4) (fun env x => fold_ord k4)) (swap_no hkd (by simpa using hsw)) (.inl (C.fnT x))
  · cases h

/-- what a comprehension comes to is a list -/
theorem lc1_list {e : CE} {own : List Nat} {tg : Tg} {it : CI} {c : CO} {m : Bool} : ∀ d t', evalE F m (.lc1 e own tg it c) env t = .ok d t' → ∃ ds, d = .list ds := fun d t' h => by
  rw [evalE] at h
  cases e1 : evalI F it env t with
  | bad => rw [e1] at h; cases h
  | exc c t1 => rw [e1] at h; cases h
  | ok ds t1 =>
    rw [e1] at h
    simp only [R.bind] at h
    split at h
    · cases h; exact ⟨_, rfl⟩
    · cases h
    · cases h
theorem lc2_list {e : CE} {own own2 : List Nat} {tg tg2 : Tg} {it it2 : CI} {c c2 : CO} {m : Bool} : ∀ d t', evalE F m (.lc2 e own own2 tg it c tg2 it2 c2) env t = .ok d t' → ∃ ds, d = .list ds := fun d t' h => by
  rw [evalE] at h
  cases e1 : evalI F it env t with
  | bad => rw [e1] at h; cases h
  | exc c t1 => rw [e1] at h; cases h
  | ok ds t1 =>
    rw [e1] at h
    simp only [R.bind] at h
    split at h
    · rename_i ys tf _
      by_cases hys : ys.length ≤ lineN
      · rw [okIf, if_pos (decide_eq_true hys)] at h
        cases h
        exact ⟨_, rfl⟩
      · rw [okIf, if_neg (by simpa using hys)] at h
        cases h
    · cases h
    · cases h

/-- is it a comprehension -/
def isLc : CE → Bool
  | .lc1 .. => true
  | .lc2 .. => true
  | _ => false
theorem sst_asgC {i : Nat} {x : Str} {px pos : Pos} {c : CE} {ex : Expr} (ar : Arity g F) (C : Sxx X y N sc g F k) (hc : isLc c = true) (hi : N[i]? = some x) (hx : locB sc x = true) (h : chkE g N c sc ex = true) :
    PS X (.Assign [.Name x px] ex pos) (tS y fun env t => SR.of (evalE F false c env t) env fun d t => .next (env.set i (some (false, d))) t) := by
  cases c with
  | lc1 e own tg it c =>
    obtain ⟨hp, hs⟩ := ps_lc1 (px := px) (pos := pos) ar C hi hx h
    refine PS.imp hp fun D σ H q => ?_
    obtain ⟨env, t, O, r, q⟩ := q
    have q := FinN.of r (lc1_list (m := false)) (asg_fin r q)
    exact lc1_core (subB_ok hs) r q
  | lc2 e own own2 tg it c tg2 it2 c2 =>
    obtain ⟨hp, hs, hs2⟩ := ps_lc2 (px := px) (pos := pos) ar C hi hx h
    refine PS.imp hp fun D σ H q => ?_
    obtain ⟨env, t, O, r, q⟩ := q
    have q := FinN.of r (lc2_list (m := false)) (asg_fin r q)
    exact lc2_core (subB_ok hs) (subB_ok hs2) r q
  | _ => cases hc
theorem sst_ownC {i : Nat} {x : Str} {px pos : Pos} {c : CE} {ex : Expr} (ar : Arity g F) (C : Sxx X y N sc g F k) (hc : isLc c = true) (hi : N[i]? = some x) (hx : locB sc x = true) (h : chkE g N c sc ex = true) :
    PS X (.Assign [.Name x px] ex pos) (tS y fun env t => SR.of (evalE F false c env t) env fun d t => .next (env.set i (some (true, d))) t) := by
  cases c with
  | lc1 e own tg it c =>
    obtain ⟨hp, hs⟩ := ps_lc1 (px := px) (pos := pos) ar C hi hx h
    refine PS.imp hp fun D σ H q => ?_
    obtain ⟨env, t, O, r, q⟩ := q
    exact lc1_core (subB_ok hs) r (own_fin r (lc1_list (m := false)) q)
  | lc2 e own own2 tg it c tg2 it2 c2 =>
    obtain ⟨hp, hs, hs2⟩ := ps_lc2 (px := px) (pos := pos) ar C hi hx h
    refine PS.imp hp fun D σ H q => ?_
    obtain ⟨env, t, O, r, q⟩ := q
    exact lc2_core (subB_ok hs) (subB_ok hs2) r (own_fin r (lc2_list (m := false)) q)
  | _ => cases hc

/-! ### an owned list changed -/
theorem Rel.grown {i : Nat} {a : Addr} {d : PyData} {xs : List V} {ds : List PyData} (r : Rel y env t σ H O) (e : env[i]? = some (some (true, d))) (ea : σ[i]? = some (some (.ref a))) (l : xs.length ≤ lineN) (p : RpAll y.K y.z (hide O H) xs ds) :
    Rel y (env.set i (some (true, .list ds))) t σ (upd H a (.lst xs)) O ∧ Fut O H O (upd H a (.lst xs)) := by
  obtain ⟨a', ea', pa⟩ := r.ow i d e
  rw [ea] at ea'
  cases ea'
  have hl : i < env.length := by
    rcases Nat.lt_or_ge i env.length with h | h
    · exact h
    · rw [List.getElem?_eq_none h] at e; cases e
  have mo : Fut O H O (upd H a (.lst xs)) := fun b u q => by
    obtain ⟨q1, q2⟩ := hide_some q
    refine hide_of q1 ?_
    rw [upd_ne (fun z => q1 (by rw [z]; exact pa.mem))]
    exact q2
  refine ⟨?_, mo⟩
  exact {
    len := by rw [List.length_set]; exact r.len
    sh := fun j e' q => by
      by_cases n : i = j
      · subst n
        rw [List.getElem?_set_self hl] at q; cases q
      · rw [List.getElem?_set_ne n] at q
        obtain ⟨v, ev, pv⟩ := r.sh j e' q
        exact ⟨v, ev, pv.mono mo⟩
    ow := fun j e' q => by
      by_cases n : i = j
      · subst n
        rw [List.getElem?_set_self hl] at q
        cases q
        exact ⟨a, ea, pa.mem, pa.nT, pa.nN, pa.new, xs, ds, upd_same, l, rfl, p.mono mo⟩
      · rw [List.getElem?_set_ne n] at q
        obtain ⟨b, eb, pb⟩ := r.ow j e' q
        have nb : b ≠ a := fun z => by
          subst z
          exact n (r.inj i j _ _ b e q ea eb)
        obtain ⟨xs', ds', k1, k2, k3, k4⟩ := pb.is
        exact ⟨b, eb, pb.mem, pb.nT, pb.nN, pb.new, xs', ds', by rw [upd_ne nb]; exact k1, k2, k3, k4.mono mo⟩
    inj := fun j j' d1 d2 b q1 q2 q3 q4 => by
      have ex : ∀ (j : Nat) d', (env.set i (some (true, .list ds)))[j]? = some (some (true, d')) → ∃ d'', env[j]? = some (some (true, d'')) := fun j d' q => by
        by_cases n : i = j
        · subst n; exact ⟨d, e⟩
        · rw [List.getElem?_set_ne n] at q; exact ⟨d', q⟩
      obtain ⟨d1', q1⟩ := ex j _ q1
      obtain ⟨d2', q2⟩ := ex j' _ q2
      exact r.inj j j' _ _ b q1 q2 q3 q4
    grow := fun b u q n1 n2 => by
      rw [upd_ne (fun z => by rw [z, pa.new] at q; cases q)]
      exact r.grow b u q n1 n2
    sub := r.sub
    dom := fun b hb => by
      by_cases n : b = a
      · rw [n, upd_same]; simp
      · rw [upd_ne n]; exact r.dom b hb
    tT := r.tT
    dom0 := r.dom0
    tN := r.tN
    ne := r.ne
    tw := ⟨by rw [upd_ne (Ne.symm pa.nT)]; exact r.tw.1, by rw [upd_ne (Ne.symm pa.nN)]; exact r.tw.2.1, r.tw.2.2⟩ }
theorem sst_app {i : Nat} {x : Str} {e : Expr} {p apos cpos pos : Pos} {ra : Env → Tw → R PyData} (C : Sxx X y N sc g F k) (hi : N[i]? = some x) (hv : visB sc x = true) (hd : (x == ("__debug__" : Str)) = false) (hcd : (x == ("__classdict__" : Str)) = false) (hl : (apos.endLine == cpos.line) = true) (ho : ordE e = true) (he : PE X e (tE y false ra)) :
    PS X (.Expr (.Call (.Attribute (.Name x p) "append" apos) [e] [] cpos) pos) (tS y fun env t => match env[i]? with
      | some (some (true, .list xs)) => SR.of (ra env t) env fun d t => if xs.length < lineN then .next (env.set i (some (true, .list (xs ++ [d])))) t else .bad
      | _ => .bad) := by
  have hv' : PE X (.Name x p) (tVar i) := pe_var (i := i) (by rw [C.names]; exact hi) (by rw [C.scope]; exact vis_of hv) hd hcd
  refine PS.imp (ps_expr (pe_bm PySem.F.plainAttrs_list PySem.F.slot_list_append PySem.F.type_list_append mt_append hv' (pa_cons he pa_nil (star_ord ho)) rfl (few_ord ho) hl (star_ord ho) rfl) (swap_none rfl)) fun D σ H h => ?_
  obtain ⟨env, t, O, r, h⟩ := h
  dsimp only at h
  split at h
  · rename_i ds eq
    obtain ⟨a, ea, pa⟩ := r.ow i _ eq
    obtain ⟨xs, ds', h1, h2, h3, h4⟩ := pa.is
    cases h3
    refine ⟨.ref a, ea, .inl ⟨rfl, xs, SqL.of h1⟩, ?_⟩
    refine tE.thenS r h fun d t1 v H1 e1 g1 r1 rv z => ?_
    by_cases hlt : ds.length < lineN
    · rw [if_pos hlt] at z
      have hlx : xs.length < lineN := by rw [h4.length]; exact hlt
      refine ⟨a, xs, v, rfl, rfl, g1 _ _ h1 pa.nT pa.nN, by rw [line_eq]; exact hlx, ?_⟩
      obtain ⟨rg, f⟩ := r1.grown (xs := xs ++ [v]) (ds := ds ++ [d]) eq ea (by rw [List.length_append]; exact hlx) ((h4.mono (r.mono g1)).append (.cons rv.share .nil))
      exact z _ _ _ rg f
    · rw [if_neg hlt] at z
      exact z.elim
  · exact h.elim
theorem RpAll.setN {K : PySem.W.Frag} {z : Cz} {H : Hp} {xs : List V} {ds : List PyData} {v : V} {d : PyData} (p : RpAll K z H xs ds) (q : Rp K z H v d) (n : Nat) : RpAll K z H (xs.set n v) (ds.set n d) := RpAll.set q n p
theorem sst_setI {i : Nat} {x : Str} {ek ev : Expr} {p pos pos' : Pos} {rk rv : Env → Tw → R PyData} (C : Sxx X y N sc g F k) (hi : N[i]? = some x) (hv : visB sc x = true) (hd : (x == ("__debug__" : Str)) = false) (hcd : (x == ("__classdict__" : Str)) = false) (hn : noComp ev = true ∨ True) (hs : swapsWithSole [.Subscript (.Name x p) ek pos'] ev pos.line X.env = pure false) (hk : ordE ek = true) (hek : PE X ek (tE y true rk)) (hev : PE X ev (tE y false rv)) :
    PS X (.Assign [.Subscript (.Name x p) ek pos'] ev pos) (tS y fun env t => SR.of (rv env t) env fun d t => match env[i]? with
      | some (some (true, .list xs)) => SR.of (rk env t) env fun j t => (match setD xs j d with
        | some x' => .next (env.set i (some (true, .list x'))) t
        | none => .bad)
      | _ => .bad) := by
  have hv' : PE X (.Name x p) (tVar i) := pe_var (i := i) (by rw [C.names]; exact hi) (by rw [C.scope]; exact vis_of hv) hd hcd
  have hw : swappedStores [.Subscript (.Name x p) ek pos'] ev X.env = pure none := by
    cases ev <;> rfl
  refine PS.imp (ps_asg hev (pg_sub hv' hek set_list (fun v => by cases ek <;> first | rfl | cases hk)) hs hw rfl) fun D σ H h => ?_
  obtain ⟨env, t, O, r, h⟩ := h
  refine tE.thenS r h fun d t1 v H1 e1 g1 r1 rv z => ?_
  split at z
  · rename_i ds eq
    obtain ⟨a, ea, pa⟩ := r1.ow i _ eq
    obtain ⟨xs, ds', h1, h2, h3, h4⟩ := pa.is
    cases h3
    refine ⟨.ref a, ea, ?_⟩
    refine tE.thenS r1 z fun j t2 w H2 e2 g2 r2 rw2 z2 => ?_
    cases e3 : setD ds j d with
    | none => rw [e3] at z2; exact z2.elim
    | some x' =>
      rw [e3] at z2
      unfold setD at e3
      split at e3
      · rename_i kk
        obtain ⟨n, e4, rfl⟩ := Option.map_eq_some_iff.mp e3
        obtain rfl := rw2.int
        refine ⟨a, xs, kk, n, rfl, rfl, g2 _ _ h1 pa.nT pa.nN, by rw [h4.length]; exact e4, ?_⟩
        have rvs : Rp y.K y.z (hide O H2) v d := (rv.after r1 g2).share
        obtain ⟨rg, f⟩ := r2.grown (xs := xs.set n v) (ds := ds.set n d) eq ea (by rw [List.length_set]; exact h2) (RpAll.setN (h4.mono (r1.mono g2)) rvs n)
        exact z2 _ _ _ rg f
      · cases e3
  · exact z.elim

/-! ### a, b = x, y -/
def isStar : Expr → Bool
  | .Starred .. => true
  | _ => false
theorem notStar {e : Expr} (h : ordE e = true) : isStar e = false := by
  cases e <;> first | rfl | cases h
theorem swapped_two {x z : Str} {px pz pt pv : Pos} {kt kv : Nat} {a b : Expr} {envp : PySem.Env} (hk : envp.scope.kind = .function) (hx : localB envp.scope x = true) (hz : localB envp.scope z = true) (hl : (px.line == pz.line) = true) (hne : x ≠ z)
    (ha : ordE a = true) (hb : ordE b = true) (hf : (foldedForSure 8 a && foldedForSure 8 b) = false) (hc : (constantsAlone 8 a && constantsAlone 8 b) = false) :
    swappedStores [.Tuple [.Name x px, .Name z pz] kt pt] (.Tuple [a, b] kv pv) envp = pure (some [x, z]) := by
  have hbk : envp.blockKind = .function := by unfold Env.blockKind; rw [hk]; rfl
  have kx : envp.kindOf x = some .local := local_of hx
  have kz : envp.kindOf z = some .local := local_of hz
  have hl2 : (pz.line == px.line) = true := by
    have := eq_of_beq hl
    rw [this]; exact beq_self_eq_true _
  have st : ([a, b].any fun | .Starred .. => true | _ => false) = false := by
    exact Bool.or_eq_false_iff.mpr ⟨notStar ha, Bool.or_eq_false_iff.mpr ⟨notStar hb, rfl⟩⟩
  have hed : ([x, z] : List Str).eraseDups = [x, z] := by
    have hn : (z == x) = false := by simpa using Ne.symm hne
    simp [List.eraseDups_cons, hn]
  unfold swappedStores
  dsimp only
  generalize hq : List.any [a, b] _ = q
  have hq' : q = false := by rw [← hq]; exact st
  subst hq'
  have hl3 : pz.line = px.line := eq_of_beq hl2
  simp [hbk, kx, kz, hl3, hed, hf, hc, Expr.pos, List.filterMap_cons]
end
end Wv

set_option maxHeartbeats 4000000
namespace Wv
open PySem PySem.Spec PyProof.Rows L2

/-! ### a caught refusal kept in a name -/
/-- an object that stands untracked is tracked from here on -/
theorem inv_track {X : Cx} {pins : List (Addr × Obj)} {σ : L2.St} {H : Hp} {s : Shared} {a C : Addr} {oe : Obj} {vs : Array Value} (I : L2.Inv X ((a, oe) :: pins) σ H s) (hc : oe.cls = .ref C) (hd : oe.dict = none) (hv : oe.data = .fields vs)
    (hnew : X.s_0.heap.get? a = none) (hp : ∀ p, p ∈ X.pn ++ pins → p.1 ≠ a) : L2.Inv X pins σ (upd H a (excAt a C)) s := by
  obtain ⟨ha, na, nL, nF, _⟩ := I.pin (a, oe) (List.mem_append_right _ List.mem_cons_self)
  simp only at ha na nL nF
  have old : ∀ b u, H b = some u → b ≠ a := fun b u q z => by rw [z, na] at q; cases q
  refine { ok := I.ok, os := I.os, bare := I.bare, base := ?_, loc := I.loc, cell := I.cell, free := ?_, freeC := ?_, pin := ?_, hok := ?_, len := I.len }
  · refine ⟨I.base.keep, I.base.slot, fun b o e n hx => ?_, I.base.there, fun b xs e => ?_, fun b o u e => ?_, fun b ps e => ?_⟩
    · rw [upd_ne (fun z => by rw [z, hnew] at e; cases e)]
      exact I.base.free b o e n hx
    · have q := I.base.tups b xs e
      rw [upd_ne (old b _ q)]; exact q
    · have q := I.base.frzs b o u e
      rw [upd_ne (old b _ q)]; exact q
    · obtain ⟨m, q⟩ := I.base.tbls b ps e
      exact ⟨m, by rw [upd_ne (old b _ q)]; exact q⟩
  · rw [upd_ne (Ne.symm nL)]; exact I.free
  · intro x c e
    obtain ⟨v, o, ho, hcd⟩ := I.cell x c e
    rw [upd_ne (fun z => by rw [z, ha] at ho; cases ho; rw [hv] at hcd; cases hcd)]
    exact I.freeC x c e
  · intro p hp'
    obtain ⟨e, n, k1, k2, k3⟩ := I.pin p (by
      rcases List.mem_append.mp hp' with z | z
      · exact List.mem_append_left _ z
      · exact List.mem_append_right _ (List.mem_cons_of_mem _ z))
    exact ⟨e, by rw [upd_ne (hp p hp')]; exact n, k1, k2, k3⟩
  · intro b u q
    by_cases hb : b = a
    · subst hb
      rw [upd_same] at q
      cases q
      refine ⟨⟨oe, vs, ha, hc, hd, hv⟩, ⟨oe, ha⟩, fun h1 h2 z k => ?_⟩
      obtain ⟨o, w, e1, e2⟩ := z
      exact ⟨o, w, k o e1, e2⟩
    · rw [upd_ne hb] at q
      refine (I.hok b u q).stay (fun c v _ r => r) (fun c r => ?_) fun c xs r => ?_
      · rw [upd_ne (old c _ r)]; exact r
      · rw [upd_ne (old c _ r)]; exact r

/-- what is wished of an exception of the body: it is caught, its object then stands in slot j -/
def wKeep (K : PySem.W.Frag) (c : Value) (i j : Nat) (D : Ends) : WX := fun cls d σ H => PySem.W.exmOne K cls c = some true ∧ ∃ C, cls = .ref C ∧ d = none ∧ ∀ a, H a = none → D.nx ((σ.set j (some (.ref a))).set i none) (upd H a (excAt a C))

section
variable {X : Cx} {x n cn : Str} {c : Value} {i j : Nat} {body : List Stmt} {np pos pos' pc pn' ps : Pos} {tb : WX → TS}
theorem ps_try_keep (hst : X.stack = X.env :: X.outer) (hfr : X.env.frame = some X.env.locals) (hN : X.N.Nodup) (hi : X.N[i]? = some n) (hj : X.N[j]? = some cn) (hn : X.env.kindOf n = some .local) (hcn : X.env.kindOf cn = some .local) (hx : Names X x c) (hdn : (n == ("__debug__" : Str)) = false) (hcd : (n == ("__classdict__" : Str)) = false) (hex : X.ex = [])
    (hb : ∀ (W : WX) (pn : List (Addr × Obj)) (xe : Value → Shared → Prop), Takes (X.tr pn xe) W → PassesOwn (model X.prog X.w) X.A X.env xe → PSs (X.tr pn xe) body (tb W)) :
    PS X (.Try body [.ExceptHandler (some (.Name x np)) (some n) [.Assign [.Name cn pc] (.Name n pn') ps] pos'] [] [] pos) (fun D σ H => tb (wKeep X.K c i j D) D σ H) := by
  refine ⟨fun pins s σ H D I h => ?_⟩
  have ok := I.ok
  have frames : X.A.frames = some (X.env :: X.outer) := by rw [ok.frames, hst]
  have hnc : n ≠ cn → i ≠ j := fun q z => q (by rw [z, hj] at hi; cases hi; rfl)
  refine wpAny_Try_except ?_
  refine wpAny_mono ((hb (wKeep X.K c i j D) (X.pn ++ pins) (fun e z1 => wpAny (model X.prog X.w) X.A (noteFrame e X.env) (fun _ z2 => wpAny (model X.prog X.w) X.A (setFlight e none) (fun _ z3 =>
    wpAny (model X.prog X.w) X.A (handleBy e X.env [.ExceptHandler (some (.Name x np)) (some n) [.Assign [.Name cn pc] (.Name n pn') ps] pos']) (SP X pins D) X.xe z3) X.xe z2) X.xe z1)
    (fun u z flight => ?_) PassesOwn.looking).run [] s σ H D (I.toTry _) h) (fun fl z1 q => ?_) (fun e z1 q => q)
  · obtain ⟨a, B, zI, pins', σ', H', cls, d, rfl, J', nb, up, sky, na, os, ag, caught, C, rfl, rfl, fin⟩ := flight
    have J : L2.Inv X pins σ' H' zI := J'.ofTry ok
    have sky' : Sky B (X.env :: X.outer) a (Zc (.ref C) none) X.env.locals z.heap := by rw [← hst]; exact sky
    have gone : B.get? a = none := by
      rcases sky' with ⟨_, q, _⟩ | ⟨_, q, _⟩ | ⟨_, q, _⟩ <;> exact q
    show wpAny (model X.prog X.w) X.A (noteFrame (.ref a) X.env) _ _ _
    refine Sky.land Zc.steady frames hfr sky' fun g3 fly3 up3 => ?_
    have J3 : L2.Inv X pins σ' H' { z with heap := g3 } := J.landed nb fly3.1 (up.trans up3) os ag
    obtain ⟨o3, w3, at3, cl3, dt3⟩ := fly3.there
    have outside : a ∉ frs (X.env :: X.outer) := fun hm => by
      obtain ⟨_, o', e', hnf⟩ := fly3.2.2.1.mem hm
      rw [at3] at e'; cases e'
      exact hnf _ dt3
    have nL : a ≠ X.env.locals := fun q => outside (List.mem_filterMap.mpr ⟨X.env, List.mem_cons_self, by rw [hfr, q]⟩)
    have nF : a ∉ X.fs := fun hm => by
      obtain ⟨e, he, q⟩ := List.mem_filterMap.mp hm
      exact outside (List.mem_filterMap.mpr ⟨e, List.mem_cons_of_mem _ he, q⟩)
    have notI : zI.heap.get? a = none := by
      cases q : zI.heap.get? a with
      | none => rfl
      | some o =>
        have := nb a o q (by rw [hst]; exact outside)
        rw [gone] at this; cases this
    have S3 := J3.suite at3 dt3 na nL nF
    refine wpAny_handleBy_cons (codeAny_handlers_test ?_) (by intro q; cases q)
    have LT : PySem.W.Looks (model X.prog X.w) g3 (typeOf (.ref a)) (.ref C) := fun A Q E s' kk q => wpAny_typeOf_ref (kk _ _ at3) (by rw [cl3.1]; exact q)
    have LM := PySem.W.exm_one (M := model X.prog X.w) J3.kIn LT caught
    have look : ∀ {Q : Value → Shared → Prop} {E : Value → Shared → Prop}, Q c { z with heap := g3 } → wpAny (model X.prog X.w) (X.A.mark (some (.ref a))) (eval (.Name x np) X.env) Q E { z with heap := g3 } := fun {Q E} q => by
      obtain ⟨k1, k2, k3 | ⟨k3, k4, k5⟩⟩ := hx
      · exact ld_glob (X := X.suite a ((a, o3) :: (X.pn ++ pins))) S3 k1 k3 q k2
      · exact ld_blt (X := X.suite a ((a, o3) :: (X.pn ++ pins))) S3 k1 k3 k4 q k5 k2
    refine look (LM.here ?_)
    refine codeAny_handlers_suite_as ?_
    refine HandSPX.lands_againZ fly3 fun g4 fly4 up4 => ?_
    have J4 : L2.Inv X pins σ' H' { z with heap := g4 } := J.landed nb fly4.1 ((up.trans up3).trans up4) os ag
    obtain ⟨o4, w4, at4, cl4, dt4⟩ := fly4.there
    have S4 := J4.suite at4 dt4 na nL nF
    refine store_ok (X := X.suite a ((a, o4) :: (X.pn ++ pins))) (v := .ref a) S4 hN hi (.inl hn) rfl (fun s5 S5 => ?_) (.inr hn)
    have hname : PE (X.suite a ((a, o4) :: (X.pn ++ pins))) (.Name n pn') (tVar i) := pe_var (i := i) hi (.inl hn) hdn hcd
    have hset : PS (X.suite a ((a, o4) :: (X.pn ++ pins))) (.Assign [.Name cn pc] (.Name n pn') ps) (tAsg (tVar i) (gName j)) := ps_set (i := j) hN hj (.inl hcn) hname rfl (.inr hcn)
    have hlen : i < σ'.length := by
      rw [J.len]
      exact (List.getElem?_eq_some_iff.mp hi).1
    refine wpAny_mono ((pss_one hset).run [] s5 _ H' { nx := fun σ6 H6 => σ6 = (σ'.set i (some (.ref a))).set j (some (.ref a)) ∧ H6 = H', rt := fun _ _ => False } S5 ⟨.ref a, by rw [List.getElem?_set_self hlen], rfl, rfl⟩) (fun fl s6 q => ?_) (fun _ _ q => False.elim q)
    cases fl with
    | next =>
      obtain ⟨σ6, H6, S6, rfl, rfl⟩ := q
      have K6 : L2.Inv X ((a, o4) :: pins) _ H6 s6 := ⟨ok, S6.os, S6.bare, S6.base, S6.loc, S6.cell, S6.free, S6.freeC, fun p hp => S6.pin p (by
        rw [List.append_nil]
        rcases List.mem_append.mp hp with q | q
        · exact List.mem_cons_of_mem _ (List.mem_append_left _ q)
        · rcases List.mem_cons.mp q with q | q
          · rw [q]; exact List.mem_cons_self
          · exact List.mem_cons_of_mem _ (List.mem_append_right _ q)), S6.hok, S6.len⟩
      show wpAny (model X.prog X.w) X.A (do bindName X.env n .none; unbindBehindTheSuite X.env n pos') _ X.xe s6
      refine gone_ok K6 hN hi hn fun s7 K7 => ?_
      have hnew : X.s_0.heap.get? a = none := by
        cases q : X.s_0.heap.get? a with
        | none => rfl
        | some o =>
          obtain ⟨o', q'⟩ := J.base.there a o q (by rw [hex]; simp)
          rw [notI] at q'; cases q'
      have T := inv_track (C := C) K7 cl4.1 cl4.2 dt4 hnew fun p hp q => by
        have := (J.pin p hp).1
        rw [q, notI] at this; cases this
      refine ⟨_, _, T, ?_⟩
      have hσ : ((σ'.set i (some (V.ref a))).set j (some (V.ref a))).set i none = (σ'.set j (some (V.ref a))).set i none := by
        apply List.ext_getElem?
        intro l
        by_cases h1 : i = l
        · subst h1
          by_cases h2 : i < σ'.length
          · rw [List.getElem?_set_self (by simpa using h2), List.getElem?_set_self (by simpa using h2)]
          · rw [List.getElem?_eq_none (by simpa using h2), List.getElem?_eq_none (by simpa using h2)]
        · rw [List.getElem?_set_ne h1, List.getElem?_set_ne h1]
          by_cases h2 : j = l
          · subst h2
            by_cases h3 : j < σ'.length
            · rw [List.getElem?_set_self (by simpa using h3), List.getElem?_set_self (by simpa using h3)]
            · rw [List.getElem?_eq_none (by simpa using h3), List.getElem?_eq_none (by simpa using h3)]
          · rw [List.getElem?_set_ne h2, List.getElem?_set_ne h2, List.getElem?_set_ne h1]
      rw [hσ]
      exact fin a na
    | brk => obtain ⟨_, _, _, q⟩ := q; exact False.elim q
    | cont => obtain ⟨_, _, _, q⟩ := q; exact False.elim q
    | ret u => obtain ⟨_, _, _, _, _, q⟩ := q; exact False.elim q
  · cases fl with
    | next =>
      obtain ⟨σ', H', J', q⟩ := q
      exact wpAny_execs_nil ⟨σ', H', J'.ofTry ok, q⟩
    | brk =>
      obtain ⟨σ', H', J', q⟩ := q
      exact ⟨σ', H', J'.ofTry ok, q⟩
    | cont =>
      obtain ⟨σ', H', J', q⟩ := q
      exact ⟨σ', H', J'.ofTry ok, q⟩
    | ret u =>
      obtain ⟨v, σ', H', J', r, q⟩ := q
      exact ⟨v, σ', H', J'.ofTry ok, r, q⟩
end
end Wv

set_option maxHeartbeats 4000000
namespace Wv
open PySem L2

section
variable {X : Cx} {y : Cy} {N : List Str} {sc : Scope} {m : Bool} {g : Gt} {F : Nat → List PyData → Tw → R PyData} {k : Nat}
variable {env env' : Env} {t t' : Tw} {σ σ' : St} {H H' : Hp} {O O' : List Addr} {D : Ends}

theorem swapped_none2 {x z : Str} {px pz pt pv : Pos} {kt kv : Nat} {a b : Expr} {envp : PySem.Env} (hk : envp.scope.kind = .function) (hl : (localB envp.scope x && localB envp.scope z) = false) (ha : ordE a = true) (hb : ordE b = true) :
    swappedStores [.Tuple [.Name x px, .Name z pz] kt pt] (.Tuple [a, b] kv pv) envp = pure none := by
  have hbk : envp.blockKind = .function := by unfold Env.blockKind; rw [hk]; rfl
  have st : ([a, b].any fun | .Starred .. => true | _ => false) = false := by
    exact Bool.or_eq_false_iff.mpr ⟨notStar ha, Bool.or_eq_false_iff.mpr ⟨notStar hb, rfl⟩⟩
  have kx : ∀ w, (envp.kindOf w == some .local) = localB envp.scope w := fun w => by
    show (envp.scope.names.lookup w == some .local) = _
    unfold localB
    cases q : envp.scope.names.lookup w with
    | none => rfl
    | some kd => cases kd <;> rfl
  unfold swappedStores
  dsimp only
  generalize hq : List.any [a, b] _ = q
  have hq' : q = false := by rw [← hq]; exact st
  subst hq'
  cases h1 : localB envp.scope x with
  | false =>
    have e1 : (envp.kindOf x == some .local) = false := by rw [kx, h1]
    have e1' : ¬ envp.kindOf x = some .local := by simpa using e1
    simp only [List.filterMap_cons, e1, Bool.false_and, if_neg Bool.false_ne_true]
    by_cases e2 : (envp.kindOf z == some .local && pz.line == px.line) = true
    · simp [hbk, e1', Expr.pos, List.filterMap_cons]
      split <;> simp
    · simp [hbk, e1', Expr.pos, List.filterMap_cons]
      split <;> simp
  | true =>
    rw [h1, Bool.true_and] at hl
    have e1 : (envp.kindOf z == some .local) = false := by rw [kx, hl]
    have e1' : ¬ envp.kindOf z = some .local := by simpa using e1
    simp [hbk, e1', Expr.pos, List.filterMap_cons]
    split <;> simp

theorem sst_asgP {i j : Nat} {x z : Str} {a b : Expr} {px pz pt pv pos : Pos} {kt kv : Nat} {rs : Env → Tw → R (List PyData)} (C : Sxx X y N sc g F k) (hi : N[i]? = some x) (hj : N[j]? = some z) (hij : i ≠ j) (hx : localB sc x = true) (hz : localB sc z = true) (hl : (px.line == pz.line) = true) (hne : x ≠ z)
    (ha : ordE a = true) (hb : ordE b = true) (hf : (foldedForSure 8 a && foldedForSure 8 b) = false) (hc : (constantsAlone 8 a && constantsAlone 8 b) = false) (h : PA X [a, b] (tL y false rs)) :
    PS X (.Assign [.Tuple [.Name x px, .Name z pz] kt pt] (.Tuple [a, b] kv pv) pos) (tS y fun env t => SR.of (rs env t) env fun ds t => if [i, j].length = ds.length then .next (([i, j].zip ds).foldl (fun e p => e.set p.1 (some (false, p.2))) env) t else .bad) := by
  have hkd : X.env.scope.kind = .function := by rw [C.scope]; exact C.kind
  refine PS.imp (ps_par (i := i) (j := j) C.calm (by rw [C.names]; exact C.nd) (by rw [C.names]; exact hi) (by rw [C.names]; exact hj) hij (by rw [C.scope]; exact local_of hx) (by rw [C.scope]; exact local_of hz) h
    (swapped_two hkd (by rw [C.scope]; exact hx) (by rw [C.scope]; exact hz) hl hne ha hb hf hc)) fun D σ H q => ?_
  obtain ⟨env, t, O, r, q⟩ := q
  refine tL.thenS r q fun ds t1 vs H1 e1 g1 r1 rv w => ?_
  by_cases hlen : [i, j].length = ds.length
  · rw [if_pos hlen] at w
    match ds, hlen, rv, w with
    | [d1, d2], _, rv, w =>
      obtain ⟨v1, v2, rfl, rv1, rv2⟩ := pair2 rv
      exact ⟨v1, v2, rfl, w _ H1 O ((r1.store rv1.share).store rv2.share) Fut.refl⟩
  · rw [if_neg hlen] at w
    exact w.elim
theorem sst_raise {c : Nat} {x ms : Str} {jj : Nat} {p p2 p3 pos : Pos} (C : Sxx X y N sc g F k) (hc : g.exc c = some x) (hg : glB sc x = true) : PS X (.Raise (some (.Call (.Name x p) [.Constant (.str ms) jj p2] [] p3)) none pos) (tS y fun env t => .exc c env t) := by
  obtain ⟨m1, m2⟩ := C.exf.mgs c x hc
  obtain ⟨k1, k2, k3, k4⟩ := C.exf.mks c x hc
  refine PS.imp (ps_raise C.calm C.tk (pmk_own PySem.F.excBase_ValueError k1 m1 k2 (raises_own k3 k4) (gl_of (by rw [C.scope]; exact hg)) m2)) fun D σ H h => ?_
  obtain ⟨env, t, O, r, h⟩ := h
  exact h σ H O r Fut.refl
/-- the frame of a try's body -/
theorem Sxx.tr (C : Sxx X y N sc g F k) {W : WX} {pn : List (Addr × Obj)} {xe : Value → Shared → Prop} (tk : Takes (X.tr pn xe) W) (po : PassesOwn (model X.prog X.w) X.A X.env xe) : Sxx (X.tr pn xe) { y with W := W } N sc g F k where
  scope := C.scope
  names := C.names
  K := C.K
  calm := C.calm
  nd := C.nd
  units := C.units
  tk := tk
  free := C.free
  fns := C.fns
  csts := C.csts
  room := C.room
  exf := C.exf
  fnT := C.fnT
  po := po
  kind := C.kind
  stk := C.stk
  frm := C.frm
  exn := C.exn
theorem sst_try {ie ic : Nat} {n cn x : Str} {body : List Stmt} {np pos pos' pc pn' ps : Pos} {rb : Env → Tw → SR} (C : Sxx X y N sc g F k) (hi : N[ie]? = some n) (hj : N[ic]? = some cn) (hn : localB sc n = true) (hcn : localB sc cn = true) (hx : g.exc 0 = some x) (hg : glB sc x = true) (hall : excAll g = true) (hdn : (n == ("__debug__" : Str)) = false) (hcd : (n == ("__classdict__" : Str)) = false)
    (hb : ∀ {X : Cx} {y : Cy}, Sxx X y N sc g F k → PSs X body (tS y rb)) :
    PS X (.Try body [.ExceptHandler (some (.Name x np)) (some n) [.Assign [.Name cn pc] (.Name n pn') ps] pos'] [] [] pos) (tS y fun env t => match rb env t with
      | .exc d env' t' => if d < 9 then .next ((env'.set ic (some (false, tExc d))).set ie none) t' else .bad
      | r => r) := by
  obtain ⟨m1, m2⟩ := C.exf.mgs 0 x hx
  have hNm : Names X x (.ref (y.z.cls 0)) := ⟨gl_of (by rw [C.scope]; exact hg), m2, .inl m1⟩
  refine PS.imp (ps_try_keep (i := ie) (j := ic) (tb := fun W => tS { y with W := W } rb) C.stk C.frm (by rw [C.names]; exact C.nd) (by rw [C.names]; exact hi) (by rw [C.names]; exact hj) (by show X.env.scope.names.lookup n = _; rw [C.scope]; exact local_of hn) (by show X.env.scope.names.lookup cn = _; rw [C.scope]; exact local_of hcn) hNm hdn hcd C.exn
    (fun W pn xe tk po => hb (C.tr tk po))) fun D σ H h => ?_
  obtain ⟨env, t, O, r, h⟩ := h
  refine ⟨env, t, O, r.wish _, ?_⟩
  dsimp only at h
  cases e : rb env t with
  | bad => rw [e] at h; exact h
  | ret d t' => rw [e] at h; exact h
  | next env' t' =>
    rw [e] at h
    exact fun σ' H' O' r' f => h σ' H' O' r'.unwish f
  | exc c env' t' =>
    rw [e] at h
    intro σ' H' O' r' f
    have r' := r'.unwish
    by_cases hc : c < 9
    · simp only [hc, if_true] at h
      simp only [excAll, List.all_eq_true] at hall
      obtain ⟨xc, hxc⟩ := Option.isSome_iff_exists.mp (hall c (List.mem_range.mpr hc))
      refine ⟨C.exf.exm c xc x hxc hx, y.z.cls c, rfl, rfl, fun a na => ?_⟩
      obtain ⟨gn, wn, nO⟩ := r'.new (o := excAt a (y.z.cls c)) na
      have r2 := r'.after gn wn
      refine h _ _ O' ((r2.store (.exc c (hide_of nO upd_same))).forget ie) (f.trans (r'.mono gn))
    · simp only [hc, if_false] at h
      exact h.elim

/-! ### does a statement say what a core one says -/
def noSwapT (sc : Scope) : Expr → Expr → Bool
  | tg, .Tuple vs _ _ => (match tg, vs with
    | .Tuple [.Name x _, .Name z _] _ _, [a, b] => !(localB sc x && localB sc z) && ordE a && ordE b
    | _, _ => false)
  | _, _ => true
theorem noSwapT_ok {tg e : Expr} (C : Sxx X y N sc g F k) {is : List Nat} (ht : chkTg N sc (fun _ => true) (.tup is) tg = true) (h : noSwapT sc tg e = true) : swappedStores [tg] e X.env = pure none := by
  have hkd : X.env.scope.kind = .function := by rw [C.scope]; exact C.kind
  cases tg with
  | Tuple es kk p =>
    cases e with
    | Tuple vs kk2 p2 =>
      simp only [noSwapT] at h
      split at h
      · rename_i q1
        cases q1
        simp only [Bool.and_eq_true, Bool.not_eq_true'] at h
        exact swapped_none2 hkd (by rw [C.scope]; exact h.1.1) h.1.2 h.2
      · cases h
    | _ => rfl
  | _ => cases ht

def dbgB (x : Str) : Bool := !(x == ("__debug__" : Str)) && !(x == ("__classdict__" : Str))

mutual
def chkS (g : Gt) (N : List Str) (sc : Scope) : CS → Stmt → Bool
  | .asg i c, st => (match st with
    | .Assign [.Name x _] ex _ => decide (N[i]? = some x) && locB sc x && (isLc c || noComp ex) && chkE g N c sc ex
    | _ => false)
  | .own i c, st => (match st with
    | .Assign [.Name x _] ex _ => decide (N[i]? = some x) && locB sc x && (match c, ex with
      | .lst es, .List es' _ => chkL g N es sc es'
      | c, ex => isLc c && chkE g N c sc ex)
    | _ => false)
  | .asgT is c, st => (match st with
    | .Assign [tg] ex _ => chkTg N sc (fun _ => true) (.tup is) tg && noComp ex && noSwapT sc tg ex && chkE g N c sc ex
    | _ => false)
  | .asgP is es, st => (match is, st with
    | [i, j], .Assign [.Tuple [.Name x px, .Name z pz] _ _] (.Tuple [a, b] _ _) _ => decide (N[i]? = some x) && decide (N[j]? = some z) && decide (i ≠ j) && localB sc x && localB sc z && (px.line == pz.line) && decide (x ≠ z) && ordE a && ordE b && !(foldedForSure 8 a && foldedForSure 8 b) && !(constantsAlone 8 a && constantsAlone 8 b) && chkL g N es sc [a, b]
    | _, _ => false)
  | .app i c, st => (match st with
    | .Expr (.Call (.Attribute (.Name x _) nm apos) [e] [] cpos) _ => decide (nm = "append") && decide (N[i]? = some x) && visB sc x && dbgB x && (apos.endLine == cpos.line) && ordE e && chkE g N c sc e
    | _ => false)
  | .setI i kc vc, st => (match st with
    | .Assign [.Subscript (.Name x _) ek _] ev _ => decide (N[i]? = some x) && visB sc x && dbgB x && ordE ek && chkE g N kc sc ek && chkE g N vc sc ev
    | _ => false)
  | .expr c, st => (match st with
    | .Expr e _ => noComp e && chkE g N c sc e
    | _ => false)
  | .ret c, st => (match st with
    | .Return (some e) _ => chkE g N c sc e
    | _ => false)
  | .raise c, st => (match st with
    | .Raise (some (.Call (.Name x _) [.Constant (.str _) _ _] [] _)) none _ => decide (g.exc c = some x) && glB sc x
    | _ => false)
  | .ite c a b, st => (match st with
    | .If e sa sb _ => !isIf e && chkE g N c sc e && chkB g N sc a sa && chkB g N sc b sb
    | _ => false)
  | .for_ tg it b, st => (match st with
    | .For te iter body [] _ => chkTg N sc (fun _ => true) tg te && ordE iter && chkI g N it sc te iter && chkB g N sc b body
    | _ => false)
  | .try_ b ie ic, st => (match st with
    | .Try body [.ExceptHandler (some (.Name x _)) (some n) [.Assign [.Name cn _] (.Name n' _) _] _] [] [] _ => decide (n' = n) && decide (N[ie]? = some n) && decide (N[ic]? = some cn) && localB sc n && localB sc cn && decide (g.exc 0 = some x) && glB sc x && excAll g && dbgB n && chkB g N sc b body
    | _ => false)
  | .hole, _ => true
def chkB (g : Gt) (N : List Str) (sc : Scope) : CB → List Stmt → Bool
  | .nil, sts => sts.isEmpty
  | .cons c r, sts => (match sts with
    | st :: rest => chkS g N sc c st && chkB g N sc r rest
    | [] => false)
  | .shr _ r, sts => chkB g N sc r sts
  | .hole, _ => true
end
def SndS (g : Gt) (N : List Str) (sc : Scope) (F : Nat → List PyData → Tw → R PyData) (k : Nat) (c : CS) : Prop := ∀ {X : Cx} {y : Cy} {st : Stmt}, Sxx X y N sc g F k → chkS g N sc c st = true → PS X st (tS y (execS F c))
def SndB (g : Gt) (N : List Str) (sc : Scope) (F : Nat → List PyData → Tw → R PyData) (k : Nat) (c : CB) : Prop := ∀ {X : Cx} {y : Cy} {sts : List Stmt}, Sxx X y N sc g F k → chkB g N sc c sts = true → PSs X sts (tS y (execB F c))
theorem dbg_ok {x : Str} (h : dbgB x = true) : (x == ("__debug__" : Str)) = false ∧ (x == ("__classdict__" : Str)) = false := by
  simpa [dbgB] using h
theorem ss_asg {i : Nat} {c : CE} (ar : Arity g F) : SndS g N sc F k (.asg i c) := fun {X y st} C h => by
  unfold chkS at h
  split at h
  · simp only [Bool.and_eq_true, Bool.or_eq_true, decide_eq_true_eq] at h
    obtain ⟨⟨⟨h1, h2⟩, h3⟩, h4⟩ := h
    by_cases hl : isLc c = true
    · exact sst_asgC ar C hl h1 h2 h4
    · rcases h3 with h3 | h3
      · exact absurd h3 hl
      · exact sst_asg C h1 h2 (swap_none h3) ((sndE ar c).e false C.toCxx h4)
  · cases h
theorem ss_own {i : Nat} {c : CE} (ar : Arity g F) : SndS g N sc F k (.own i c) := fun {X y st} C h => by
  unfold chkS at h
  split at h
  · simp only [Bool.and_eq_true, decide_eq_true_eq] at h
    obtain ⟨⟨h1, h2⟩, h3⟩ := h
    split at h3
    · exact sst_ownL C h1 h2 (sndL ar _ C.toCxx h3).1
    · simp only [Bool.and_eq_true] at h3
      exact sst_ownC ar C h3.1 h1 h2 h3.2
  · cases h
theorem ss_asgT {is : List Nat} {c : CE} (ar : Arity g F) : SndS g N sc F k (.asgT is c) := fun {X y st} C h => by
  unfold chkS at h
  split at h
  · simp only [Bool.and_eq_true] at h
    obtain ⟨⟨⟨h1, h2⟩, h3⟩, h4⟩ := h
    exact sst_asgT C h1 h2 (noSwapT_ok C h1 h3) ((sndE ar c).e false C.toCxx h4)
  · cases h
theorem ss_asgP {is : List Nat} {es : CL} (ar : Arity g F) : SndS g N sc F k (.asgP is es) := fun {X y st} C h => by
  unfold chkS at h
  split at h
  · simp only [Bool.and_eq_true, decide_eq_true_eq, Bool.not_eq_true'] at h
    obtain ⟨⟨⟨⟨⟨⟨⟨⟨⟨⟨⟨h1, h2⟩, h3⟩, h4⟩, h5⟩, h6⟩, h7⟩, h8⟩, h9⟩, ha⟩, hb⟩, hc⟩ := h
    exact sst_asgP C h1 h2 h3 h4 h5 h6 h7 h8 h9 ha hb (sndL ar es C.toCxx hc).1
  · cases h
theorem ss_app {i : Nat} {c : CE} (ar : Arity g F) : SndS g N sc F k (.app i c) := fun {X y st} C h => by
  unfold chkS at h
  split at h
  · simp only [Bool.and_eq_true, decide_eq_true_eq] at h
    obtain ⟨⟨⟨⟨⟨⟨rfl, h1⟩, h2⟩, h3⟩, h4⟩, h5⟩, h6⟩ := h
    obtain ⟨d1, d2⟩ := dbg_ok h3
    exact sst_app C h1 h2 d1 d2 h4 h5 ((sndE ar c).e false C.toCxx h6)
  · cases h
theorem swap_sub {x : Str} {p pos' : Pos} {ek ev : Expr} {l : Nat} {envp : PySem.Env} : swapsWithSole [.Subscript (.Name x p) ek pos'] ev l envp = pure false := by
  cases ev <;> rfl
theorem ss_setI {i : Nat} {kc vc : CE} (ar : Arity g F) : SndS g N sc F k (.setI i kc vc) := fun {X y st} C h => by
  unfold chkS at h
  split at h
  · simp only [Bool.and_eq_true, decide_eq_true_eq] at h
    obtain ⟨⟨⟨⟨⟨h1, h2⟩, h3⟩, h4⟩, h5⟩, h6⟩ := h
    obtain ⟨d1, d2⟩ := dbg_ok h3
    exact sst_setI C h1 h2 d1 d2 (.inr trivial) swap_sub h4 ((sndE ar kc).e true C.toCxx h5) ((sndE ar vc).e false C.toCxx h6)
  · cases h
theorem ss_expr {c : CE} (ar : Arity g F) : SndS g N sc F k (.expr c) := fun {X y st} C h => by
  unfold chkS at h
  split at h
  · simp only [Bool.and_eq_true] at h
    exact sst_expr h.1 ((sndE ar c).e true C.toCxx h.2)
  · cases h
theorem ss_ret {c : CE} (ar : Arity g F) : SndS g N sc F k (.ret c) := fun {X y st} C h => by
  unfold chkS at h
  split at h
  · exact sst_ret ((sndE ar c).e false C.toCxx h)
  · cases h
theorem ss_raise {c : Nat} : SndS g N sc F k (.raise c) := fun {X y st} C h => by
  unfold chkS at h
  split at h
  · simp only [Bool.and_eq_true, decide_eq_true_eq] at h
    exact sst_raise C h.1 h.2
  · cases h
theorem ss_ite {c : CE} {a b : CB} (ar : Arity g F) (ha : SndB g N sc F k a) (hb : SndB g N sc F k b) : SndS g N sc F k (.ite c a b) := fun {X y st} C h => by
  unfold chkS at h
  split at h
  · simp only [Bool.and_eq_true, Bool.not_eq_true'] at h
    obtain ⟨⟨⟨h1, h2⟩, h3⟩, h4⟩ := h
    exact sst_ite ((sndE ar c).t C.toCxx h2 h1) (ha C h3) (hb C h4)
  · cases h
theorem ss_for {tg : Tg} {it : CI} {b : CB} (ar : Arity g F) (hb : SndB g N sc F k b) : SndS g N sc F k (.for_ tg it b) := fun {X y st} C h => by
  unfold chkS at h
  split at h
  · simp only [Bool.and_eq_true] at h
    obtain ⟨⟨⟨h1, h2⟩, h3⟩, h4⟩ := h
    exact sst_for C h1 h2 (sndI ar it C.toCxx h3) (hb C h4)
  · cases h
theorem ss_try {b : CB} {ie ic : Nat} (hb : SndB g N sc F k b) : SndS g N sc F k (.try_ b ie ic) := fun {X y st} C h => by
  unfold chkS at h
  split at h
  · simp only [Bool.and_eq_true, decide_eq_true_eq] at h
    obtain ⟨⟨⟨⟨⟨⟨⟨⟨⟨rfl, h1⟩, h2⟩, h3⟩, h4⟩, h5⟩, h6⟩, h7⟩, h8⟩, h9⟩ := h
    obtain ⟨d1, d2⟩ := dbg_ok h8
    exact sst_try C h1 h2 h3 h4 h5 h6 h7 d1 d2 fun C' => hb C' h9
  · cases h
theorem sb_nil : SndB g N sc F k .nil := fun {X y sts} C h => by
  unfold chkB at h
  cases sts with
  | nil => exact sst_nil
  | cons => cases h
theorem sb_cons {c : CS} {r : CB} (hc : SndS g N sc F k c) (hr : SndB g N sc F k r) : SndB g N sc F k (.cons c r) := fun {X y sts} C h => by
  unfold chkB at h
  split at h
  · simp only [Bool.and_eq_true] at h
    exact sst_cons (hc C h.1) (hr C h.2)
  · cases h
theorem sb_shr {i : Nat} {r : CB} (hr : SndB g N sc F k r) : SndB g N sc F k (.shr i r) := fun {X y sts} C h => by
  unfold chkB at h
  exact sst_shr (hr C h)
theorem ss_hole : SndS g N sc F k .hole := fun {X y st} C h => ⟨fun pins s σ H D I q => by
  obtain ⟨env, t, O, r, q⟩ := q
  exact q.elim⟩
theorem sb_hole : SndB g N sc F k .hole := fun {X y sts} C h => ⟨fun pins s σ H D I q => by
  obtain ⟨env, t, O, r, q⟩ := q
  exact q.elim⟩
mutual
theorem sndS (ar : Arity g F) : ∀ c : CS, SndS g N sc F k c
  | .asg i c => ss_asg ar
  | .own i c => ss_own ar
  | .asgT is c => ss_asgT ar
  | .asgP is es => ss_asgP ar
  | .app i c => ss_app ar
  | .setI i kc vc => ss_setI ar
  | .expr c => ss_expr ar
  | .ret c => ss_ret ar
  | .raise c => ss_raise
  | .ite c a b => ss_ite ar (sndB ar a) (sndB ar b)
  | .for_ tg it b => ss_for ar (sndB ar b)
  | .try_ b ie ic => ss_try (sndB ar b)
  | .hole => ss_hole
theorem sndB (ar : Arity g F) : ∀ c : CB, SndB g N sc F k c
  | .nil => sb_nil
  | .cons s r => sb_cons (sndS ar s) (sndB ar r)
  | .shr i r => sb_shr (sndB ar r)
  | .hole => sb_hole
end
end
end Wv

set_option maxHeartbeats 4000000
namespace Wv
open PySem L2

/-! ### a def keeps its promise -/
/-- all that a walk knows of the module -/
structure Gfx (P : Program) (w : World) (K : PySem.W.Frag) (mg : Str → Option Value) (base : Heap) (z : Cz) (g : Gt) (F : Nat → List PyData → Tw → R PyData) (k : Nat) : Prop where
  free : ∀ x, x ∈ biNames → mg x = none
  fns : ∀ f x np kd, g.fn f = some (x, np, kd) → FnAt P w K mg base z k (F f) x np kd
  csts : ∀ x d, g.cst x = some d → ∃ (u : Value) (v : V), mg x = some u ∧ RelV v u ∧ (∀ H, Rp K z H v d) ∧ (x == ("__debug__" : Str)) = false
  exf : ExcF K mg z g.exc

theorem start_env {K : PySem.W.Frag} {z : Cz} {H : Hp} {n : Nat} : ∀ {vs : List V} {ds : List PyData}, RpAll K z H vs ds → ∀ (i : Nat) (b : Bool) (d : PyData), (ds.map (fun v => some (false, v)) ++ List.replicate n none)[i]? = some (some (b, d)) → b = false ∧ ∃ v, (vs.map some ++ List.replicate n none)[i]? = some (some v) ∧ Rp K z H v d
  | _, _, .nil, i, b, d, e => by
    simp only [List.map_nil, List.nil_append] at e
    rw [List.getElem?_replicate] at e
    split at e <;> cases e
  | _, _, .cons a t, 0, b, d, e => by
    simp only [List.map_cons, List.cons_append, List.getElem?_cons_zero, Option.some.injEq, Prod.mk.injEq] at e
    obtain ⟨rfl, rfl⟩ := e
    exact ⟨rfl, _, rfl, a⟩
  | _, _, .cons a t, i + 1, b, d, e => by
    simp only [List.map_cons, List.cons_append, List.getElem?_cons_succ] at e ⊢
    exact start_env t i b d e

section
variable {P : Program} {w : World} {K : PySem.W.Frag} {mg : Str → Option Value} {base : Heap} {z : Cz} {g : Gt} {F : Nat → List PyData → Tw → R PyData} {k : Nat}
theorem rel_start {N : List Str} {H : Hp} {O : List Addr} {W : WX} {vs : List V} {ds : List PyData} {t : Tw} (hl : vs.length ≤ N.length) (dom : ∀ a, a ∈ O → H a ≠ none) (tT : z.aT ∈ O) (tN : z.aN ∈ O) (ne : z.aT ≠ z.aN) (tw : TwOk z H t) (h : RpAll K z (hide O H) vs ds) :
    Rel ⟨K, z, H, O, W⟩ (ds.map (fun v => some (false, v)) ++ List.replicate (N.length - vs.length) none) t (start N vs) H O where
  len := by simp [L2.start, h.length]
  sh := fun i d e => (start_env h i false d e).2
  ow := fun i d e => by cases (start_env h i true d e).1
  inj := fun i j d e a q => by cases (start_env h i true d q).1
  grow := Grow.refl
  sub := fun a q => q
  dom := dom
  tT := tT
  dom0 := dom
  tN := tN
  ne := ne
  tw := tw
theorem fn_ok {x qual : Str} {params : Arguments} {body : List Stmt} {scope : Scope} {dvs : List V} {kws : List (Str × V)} {f : Addr} {fd : FuncData} {N ps : List Str} {c : CB} (G : Gfx P w K mg base z g F k) (ar : Arity g F) (Fd : FunD K x qual params body scope dvs kws f fd) (S : FnScope N ps scope) (hl : ps.length ≤ N.length) (hc : chkB g N scope c body = true) :
    FnOk P w K mg base (L2.CX P w) (k + 1) f fd ps (spOf K z ps.length fun ds t => runDf F (.code ps.length N.length c) ds t) := by
  refine Fd.ok S (fun vs H Q E h => h.1) (fun cdv A outer s H vs Q E hr h => ?_)
  obtain ⟨hv, O, ds, t, dom, tT, tN, ne, tw, hp, q⟩ := h
  let y : Cy := ⟨K, z, H, O, fun cls d _ H' => E cls d H'⟩
  have C : Sxx (cxOf (L2.CX P w) P w K mg base N qual scope f cdv A outer s H E) y N scope g F k := {
    scope := rfl
    names := rfl
    K := rfl
    calm := rfl
    nd := S.nd
    units := by have := hr.un; show (A.deeper _).units + 200 < cLine; omega
    tk := takes_of rfl rfl rfl rfl
    free := G.free
    fns := G.fns
    csts := G.csts
    room := hr
    exf := G.exf
    fnT := fun _ => rfl
    po := passes_of rfl
    kind := S.kind
    stk := rfl
    frm := rfl
    exn := rfl }
  refine ⟨tS y (execB F c), sndB ar c C hc, ?_⟩
  have hds : ds.length = ps.length := by rw [← hp.length]; exact hv
  refine ⟨_, t, O, rel_start (W := y.W) (by rw [hv]; exact hl) dom tT tN ne tw hp, ?_⟩
  unfold runDf at q
  simp only [hds, if_true] at q
  rw [hv]
  cases e : execB F c (ds.map (fun v => some (false, v)) ++ List.replicate (N.length - ps.length) none) t with
  | bad => rw [e] at q; exact q
  | ret d t' => rw [e] at q; exact fun v H' g w p => q v H' g w p
  | exc cc env' t' => rw [e] at q; exact fun σ' H' O' r f => q H' r.grow r.tw
  | next env' t' => rw [e] at q; exact fun σ' H' O' r f => q .non H' r.grow r.tw .non

/-! ### the defs, level by level -/
def callN (T : Nat → Option Df) : Nat → Nat → List PyData → Tw → R PyData
  | 0, _, _, _ => .bad
  | n + 1, f, vs, t => match T f with
    | some d => runDf (callN T n) d vs t
    | none => .bad

/-- one def of the text: its core, its names, where it stands -/
structure DefOk (P : Program) (w : World) (K : PySem.W.Frag) (mg : Str → Option Value) (base : Heap) (g : Gt) (T : Nat → Option Df) (f : Nat) (x : Str) (np : Nat) (kd : Kd) : Prop where
  at_ : ∃ (a : Addr) (fd : FuncData) (ps : List Str), ps.length = np ∧ mg x = some (.ref a) ∧ PySem.W.keepIn K (.ref a) = true ∧ (kd = .pos → Binds K fd ps []) ∧
    (kd = .kw → (∃ (Ta : Addr) (ds : List Value), SqT K (fun _ => none) Ta [] ∧ Vals [.ref Ta] ds ∧ Binds K fd ps ds) ∧ ∃ n, n + 1 = ps.length ∧ KBn K fd ps n ["liars"] (fun us ws => us ++ ws) (fun us ws => us ++ ws)) ∧
    ∃ d, T f = some d ∧ ∀ (z : Cz) (F : Nat → List PyData → Tw → R PyData) (k : Nat), Gfx P w K mg base z g F k → Arity g F → FnOk P w K mg base (L2.CX P w) (k + 1) a fd ps (spOf K z np fun ds t => runDf F d ds t)
  nm : (x == ("__debug__" : Str)) = false
theorem arity_N {T : Nat → Option Df} (h : ∀ f x np kd, g.fn f = some (x, np, kd) → ∃ d, T f = some d ∧ ∀ F ds t, ds.length ≠ np → runDf F d ds t = .bad) : ∀ n, Arity g (callN T n)
  | 0, f, x, np, kd, ds, t, _, _ => rfl
  | n + 1, f, x, np, kd, ds, t, hf, hl => by
    obtain ⟨d, e, q⟩ := h f x np kd hf
    show (match T f with
      | some d => runDf (callN T n) d ds t
      | none => .bad) = .bad
    rw [e]
    exact q _ ds t hl
theorem gfx_N {T : Nat → Option Df} {cls : Nat → Addr} (free : ∀ x, x ∈ biNames → mg x = none)
    (csts : ∀ z : Cz, ∀ x d, g.cst x = some d → ∃ (u : Value) (v : V), mg x = some u ∧ RelV v u ∧ (∀ H, Rp K z H v d) ∧ (x == ("__debug__" : Str)) = false)
    (exf : ∀ aT aN, ExcF K mg ⟨aT, aN, cls⟩ g.exc)
    (ar : ∀ n, Arity g (callN T n))
    (defs : ∀ f x np kd, g.fn f = some (x, np, kd) → DefOk P w K mg base g T f x np kd) (aT aN : Addr) : ∀ n, Gfx P w K mg base ⟨aT, aN, cls⟩ g (callN T n) n
  | 0 => ⟨free, fun f x np kd hf => by
      obtain ⟨⟨a, fd, ps, h1, h2, h3, h4, h5, d, h6, h7⟩, nm⟩ := defs f x np kd hf
      refine ⟨⟨a, fd, ps, h2, h3, ⟨fun vs H Q E h => by rw [h1]; exact h.1, fun A outer s H args us vs Q E _ _ _ _ h => ?_⟩, h4, h5⟩, nm⟩
      obtain ⟨_, O, ds, t, _, _, _, _, _, _, q⟩ := h
      exact False.elim q, csts _, exf aT aN⟩
  | n + 1 => ⟨free, fun f x np kd hf => by
      obtain ⟨⟨a, fd, ps, h1, h2, h3, h4, h5, d, h6, h7⟩, nm⟩ := defs f x np kd hf
      have ih := gfx_N free csts exf ar defs aT aN n
      have q := h7 ⟨aT, aN, cls⟩ (callN T n) n ih (ar n)
      refine ⟨⟨a, fd, ps, h2, h3, ?_, h4, h5⟩, nm⟩
      have e : (fun ds t => runDf (callN T n) d ds t) = callN T (n + 1) f := by
        funext ds t
        show _ = (match T f with
          | some d => runDf (callN T n) d ds t
          | none => .bad)
        rw [h6]
      rw [← e]
      exact q, csts _, exf aT aN⟩
end
end Wv

set_option maxHeartbeats 4000000
namespace Wv
open PySem L2

/-! ### the draw -/
def rLenV (K : PySem.W.Frag) : List V → Hp → VK → Prop := fun xs H Q => ∃ x n, xs = [x] ∧ LenV K x H n ∧ Q (.int n) H
abbrev oAdd : R2 := rI0 fun i j => .int (i + j)
abbrev oMul : R2 := rI CMul fun i j => .int (i * j)
abbrev oDiv : R2 := rI CDiv fun i j => .int (i / j)
abbrev oMod : R2 := rI (fun _ j => 0 < j) fun i j => .int (i % j)
abbrev oPow : R2 := rI CPow fun i j => .int (i ^ j.toNat)
abbrev oGe : R2 := rI0 fun i j => .bl (decide (j ≤ i))
def tDraw (K : PySem.W.Frag) : TS :=
  tSeq (tAsg (tOp (rIx K) (tVar 0) (tC (.int 0))) (gName 2))
  (tSeq (tAsg (tOp oAdd (tOp (rIx K) (tVar 0) (tC (.int 1))) (tC (.int 1))) (gSub (tVar 0) (tC (.int 1)) rSetL))
  (tSeq (tAsg (tOp oMod (tOp (rIx K) (tVar 0) (tC (.int 1))) (tCB (rLenV K) (tCons (tVar 2) tNil))) (gName 3))
  (tSeq (tAsg (tOp (rIx K) (tVar 2) (tVar 3)) (gName 4))
  (tSeq (tIfS (tTest (tOp oGe (tVar 4) (tC (.int 1000000000000000000))))
    (tSeq (tAsg (tOp oDiv (tVar 4) (tVar 1)) (gSub (tVar 2) (tVar 3) rSetL)) (tRet (tOp oMod (tVar 4) (tVar 1)))) tNext)
  (tSeq (tAsg (tOp oMod (tOp oAdd (tVar 4) (tOp oMul (tC (.int 104729)) (tOp (rIx K) (tVar 0) (tC (.int 1))))) (tC (.int 4294967291))) (gName 5))
  (tSeq (tAsg (tOp oMod (tOp oPow (tVar 5) (tC (.int 5))) (tC (.int 4294967279))) (gName 5))
  (tRet (tOp oMod (tOp oDiv (tOp oMod (tOp oAdd (tOp oMul (tOp oDiv (tVar 5) (tC (.int 64))) (tC (.int 69621))) (tVar 5)) (tC (.int 4294967231))) (tC (.int 8))) (tVar 1)))))))))

theorem at_nat {α : Type} {xs : List α} {i : Nat} {x : α} (h : xs[i]? = some x) : atI xs (i : Int) = some x := by
  have hl := (List.getElem?_eq_some_iff.mp h).1
  unfold atI ixN
  rw [if_pos (by omega), if_pos (by omega)]
  simpa using h
theorem ix_nat {n i : Nat} (h : i < n) : ixN n (i : Int) = some i := by
  unfold ixN
  rw [if_pos (by omega), if_pos (by omega)]
  simp
theorem draw_ok {F : Nat → List PyData → Tw → R PyData} {ds : List PyData} {t t' : Tw} {d : PyData} (h : runDf F .draw ds t = .ok d t') : ∃ c r, ds = [tTown, .int c] ∧ drawT t c = some (r, t') ∧ d = .int r := by
  unfold runDf at h
  dsimp only at h
  split at h
  · rename_i c
    split at h
    · rename_i r t2 e
      cases h
      exact ⟨c, r, rfl, e, rfl⟩
    · cases h
  · cases h
theorem draw_noexc {F : Nat → List PyData → Tw → R PyData} {ds : List PyData} {t t' : Tw} {c : Nat} : runDf F .draw ds t ≠ .exc c t' := fun h => by
  unfold runDf at h
  dsimp only at h
  split at h
  · split at h <;> cases h
  · cases h
section
variable {K : PySem.W.Frag} {z : Cz}
theorem rIx_lst {H : Hp} {a : Addr} {xs : List V} {i : Nat} {v : V} {Q : VK} (h : H a = some (.lst xs)) (e : xs[i]? = some v) (q : Q v H) : rIx K (.ref a) (.int (i : Int)) H Q := .inl ⟨a, xs, _, v, rfl, rfl, SqL.of h, at_nat e, q⟩
theorem draw_read {F : Nat → List PyData → Tw → R PyData} {vs : List V} {H : Hp} {Q : VK} {E : XK} (h : spOf K z 2 (fun ds t => runDf F .draw ds t) vs H Q E) : tDraw K { nx := fun _ H' => Q .non H', rt := Q } (L2.start ["town", "count", "numbers", "at", "cell", "mixed"] vs) H := by
  obtain ⟨hv, O, ds, t, dom, tT, tN, ne, tw, hp, q⟩ := h
  obtain ⟨wT, wN, wne, wl⟩ := tw
  dsimp only at q
  cases er : runDf F .draw ds t with
  | bad => rw [er] at q; exact q.elim
  | exc c t' => exact absurd er draw_noexc
  | ok d t' =>
    rw [er] at q
    obtain ⟨c, r, rfl, ed, rfl⟩ := draw_ok er
    cases hp with
    | cons p1 hp =>
      cases hp with
      | cons p2 hp =>
        cases hp
        cases p2
        rename_i v1
        have hv1 : v1 = V.ref z.aT := by
          generalize hd : tTown = d at p1
          cases p1 with
          | town => rfl
          | exc c h => simp [tExc, tTown] at hd
          | _ => cases hd
        subst hv1
        · unfold drawT at ed
          by_cases hc : 0 < c ∧ c < 1000000
          · rw [if_pos hc] at ed
            have hn : 0 < t.ns.length := List.length_pos_iff.mpr wne
            have hlt : (t.k + 1) % t.ns.length < t.ns.length := Nat.mod_lt _ hn
            obtain ⟨cell, ecell⟩ : ∃ cell, t.ns[(t.k + 1) % t.ns.length]? = some cell := ⟨_, List.getElem?_eq_getElem hlt⟩
            rw [ecell] at ed
            simp only at ed
            have eV : (t.ns.map V.int)[(t.k + 1) % t.ns.length]? = some (.int cell) := by rw [List.getElem?_map, ecell]; rfl
            -- numbers = town[0]
            refine ⟨_, rfl, rIx_lst (i := 0) wT rfl ?_⟩
            -- town[1] = town[1] + 1
            refine ⟨_, rfl, rIx_lst (i := 1) wT rfl ⟨_, _, rfl, rfl, ?_⟩⟩
            refine ⟨_, rfl, z.aT, _, _, 1, rfl, rfl, wT, rfl, ?_⟩
            have nNT : z.aN ≠ z.aT := Ne.symm ne
            generalize hH1 : upd H z.aT (.lst ([V.ref z.aN, V.int t.k].set 1 (V.int ((t.k : Int) + 1)))) = H1
            have w1T : H1 z.aT = some (.lst [.ref z.aN, .int ((t.k + 1 : Nat) : Int)]) := by rw [← hH1, upd_same]; rfl
            have w1N : H1 z.aN = some (.lst (t.ns.map V.int)) := by rw [← hH1, upd_ne nNT]; exact wN
            have g1 : Grow z H H1 := fun a u q n1 n2 => by rw [← hH1, upd_ne n1]; exact q
            -- at = town[1] % len(numbers)
            refine ⟨_, rfl, rIx_lst (i := 1) w1T rfl ?_⟩
            refine ⟨_, rfl, .ref z.aN, t.ns.length, rfl, .inl ⟨_, SqL.of w1N, by simp⟩, _, _, rfl, rfl, by omega, ?_⟩
            have eat : (((t.k + 1 : Nat) : Int) % (t.ns.length : Int)) = (((t.k + 1) % t.ns.length : Nat) : Int) := by simp
            show gName 3 (V.int (((t.k + 1 : Nat) : Int) % (t.ns.length : Int))) _ _ _
            rw [eat]
            -- cell = numbers[at]
            refine ⟨_, rfl, _, rfl, rIx_lst w1N eV ?_⟩
            -- if
            refine ⟨_, rfl, _, _, rfl, rfl, _, rfl, ?_⟩
            show ite (decide ((1000000000000000000 : Int) ≤ cell) = true) _ _
            by_cases hb : (1000000000000000000 : Int) ≤ cell
            · rw [if_pos (decide_eq_true hb)]
              rw [if_pos hb] at ed
              cases ed
              refine ⟨_, rfl, _, rfl, _, _, rfl, rfl, ⟨hc.1, by omega⟩, ?_⟩
              refine ⟨_, rfl, _, rfl, z.aN, _, _, _, rfl, rfl, w1N, ix_nat (by rw [List.length_map]; exact hlt), ?_⟩
              refine ⟨_, rfl, _, rfl, _, _, rfl, rfl, hc.1, ?_⟩
              refine q _ _ (fun a u hq n1 n2 => ?_) ⟨?_, ?_, ?_, ?_⟩ (.int _)
              · rw [upd_ne n2]; exact g1 a u hq n1 n2
              · rw [upd_ne ne]; exact w1T
              · rw [upd_same, List.map_set]
              · simp [wne]
              · rw [List.length_set]; exact wl
            · rw [if_neg (by simpa using hb)]
              rw [if_neg hb] at ed
              cases ed
              refine ⟨_, rfl, _, rfl, rIx_lst (i := 1) w1T rfl ⟨_, _, rfl, rfl, .inl ⟨by omega, by omega⟩, _, _, rfl, rfl, _, _, rfl, rfl, by omega, ?_⟩⟩
              have hm1 : 0 ≤ (cell + 104729 * ((t.k + 1 : Nat) : Int)) % 4294967291 := Int.emod_nonneg _ (by omega)
              have hm2 : (cell + 104729 * ((t.k + 1 : Nat) : Int)) % 4294967291 < 4294967291 := Int.emod_lt_of_pos _ (by omega)
              refine ⟨_, rfl, _, _, rfl, rfl, ⟨by omega, by omega, by omega⟩, _, _, rfl, rfl, by omega, ?_⟩
              generalize hm : ((cell + 104729 * ((t.k + 1 : Nat) : Int)) % 4294967291) ^ (5 : Int).toNat % 4294967279 = m2
              have hq1 : 0 ≤ m2 := by rw [← hm]; exact Int.emod_nonneg _ (by omega)
              have hq2 : m2 < 4294967279 := by rw [← hm]; exact Int.emod_lt_of_pos _ (by omega)
              refine ⟨_, rfl, _, _, rfl, rfl, ⟨by omega, by omega⟩, _, _, rfl, rfl, .inr ⟨by omega, by omega⟩, _, rfl, _, _, rfl, rfl, _, _, rfl, rfl, by omega, _, _, rfl, rfl, ⟨by omega, by omega⟩, _, rfl, _, _, rfl, rfl, hc.1, ?_⟩
              have em : m2 = ((cell + 104729 * ((t.k : Int) + 1)) % 4294967291) ^ 5 % 4294967279 := by
                rw [← hm]
                simp
              subst em
              exact q _ _ g1 ⟨w1T, w1N, wne, wl⟩ (.int _)
          · rw [if_neg hc] at ed
            cases ed
end
end Wv

set_option maxHeartbeats 4000000
namespace Wv
open PySem PyProof.Rows L2
theorem SqL_mono {K : PySem.W.Frag} {H H' : Hp} {a : Addr} {xs : List V} (m : ∀ a u, H a = some u → H' a = some u) (h : SqL K H a xs) : SqL K H' a xs := by
  rcases h with h | h
  · rcases h with h | ⟨o, h⟩
    · exact .inl (.inl (m _ _ h))
    · exact .inl (.inr ⟨o, m _ _ h⟩)
  · exact .inr h
abbrev drawN : List Str := ["town", "count", "numbers", "at", "cell", "mixed"]
def drawSc (sc : Scope) : Bool := drawN.all (fun x => visB sc x && locB sc x) && glB sc "len"
section
variable {X : Cx} {y : Cy} {sc : Scope} {g : Gt} {F : Nat → List PyData → Tw → R PyData} {k : Nat}
theorem draw_pss (C : Sxx X y drawN sc g F k) (hs : drawSc sc = true) {p1 p2 p3 p4 p5 p6 p7 p8 p9 p10 p11 p12 p13 p14 p15 p16 p17 p18 p19 p20 p21 p22 p23 p24 p25 p26 p27 p28 p29 p30 p31 p32 p33 p34 p35 p36 p37 p38 p39 p40 p41 p42 p43 p44 p45 p46 p47 p48 p49 p50 p51 p52 p53 p54 p55 p56 p57 p58 p59 p60 p61 p62 p63 p64 p65 p66 p67 p68 p69 p70 p71 p72 p73 p74 p75 : Pos} {k1 k2 k3 k4 k5 k6 k7 k8 k9 k10 k11 k12 k13 k14 k15 : Nat} : PSs X [.Assign [(.Name "numbers" p1)] (.Subscript (.Name "town" p2) (.Constant (.int 0) k1 p3) p4) p5,
    .Assign [(.Subscript (.Name "town" p6) (.Constant (.int 1) k2 p7) p8)] (.BinOp (.Subscript (.Name "town" p9) (.Constant (.int 1) k3 p10) p11) .Add (.Constant (.int 1) k4 p12) p13) p14,
    .Assign [(.Name "at" p15)] (.BinOp (.Subscript (.Name "town" p16) (.Constant (.int 1) k5 p17) p18) .Mod (.Call (.Name "len" p20) [(.Name "numbers" p19)] [] p21) p22) p23,
    .Assign [(.Name "cell" p24)] (.Subscript (.Name "numbers" p25) (.Name "at" p26) p27) p28,
    .If (.Compare (.Name "cell" p29) [.GtE] [(.Constant (.int 1000000000000000000) k6 p30)] p31) [.Assign [(.Subscript (.Name "numbers" p32) (.Name "at" p33) p34)] (.BinOp (.Name "cell" p35) .FloorDiv (.Name "count" p36) p37) p38, .Return (some (.BinOp (.Name "cell" p39) .Mod (.Name "count" p40) p41)) p42] [] p43,
    .Assign [(.Name "mixed" p44)] (.BinOp (.BinOp (.Name "cell" p45) .Add (.BinOp (.Constant (.int 104729) k7 p46) .Mult (.Subscript (.Name "town" p47) (.Constant (.int 1) k8 p48) p49) p50) p51) .Mod (.Constant (.int 4294967291) k9 p52) p53) p54,
    .Assign [(.Name "mixed" p55)] (.BinOp (.BinOp (.Name "mixed" p56) .Pow (.Constant (.int 5) k10 p57) p58) .Mod (.Constant (.int 4294967279) k11 p59) p60) p61,
    .Return (some (.BinOp (.BinOp (.BinOp (.BinOp (.BinOp (.BinOp (.Name "mixed" p62) .FloorDiv (.Constant (.int 64) k12 p63) p64) .Mult (.Constant (.int 69621) k13 p65) p66) .Add (.Name "mixed" p67) p68) .Mod (.Constant (.int 4294967231) k14 p69) p70) .FloorDiv (.Constant (.int 8) k15 p71) p72) .Mod (.Name "count" p73) p74)) p75] (tDraw X.K) := by
  simp only [drawSc, Bool.and_eq_true, List.all_eq_true] at hs
  have pv : ∀ (i : Nat) (x : Str) (p : Pos), drawN[i]? = some x → PE X (.Name x p) (tVar i) := fun i x p h => by
    have m := hs.1 x (List.mem_of_getElem? h)
    have nd : dbgB x = true := List.all_eq_true.mp (show (drawN.all fun x => dbgB x) = true by decide +kernel) x (List.mem_of_getElem? h)
    obtain ⟨d1, d2⟩ := dbg_ok nd
    exact pe_var (i := i) (by rw [C.names]; exact h) (by rw [C.scope]; exact vis_of m.1) d1 d2
  have pset : ∀ (i : Nat) (x : Str) (p p' : Pos) (e : Expr) (te : TE), drawN[i]? = some x → noComp e = true → PE X e te → PS X (.Assign [.Name x p] e p') (tAsg te (gName i)) := fun i x p p' e te h hn he => by
    have m := hs.1 x (List.mem_of_getElem? h)
    exact ps_set (i := i) (by rw [C.names]; exact C.nd) (by rw [C.names]; exact h) (by rw [C.scope]; exact loc_of m.2) he (swap_none hn) (.inl (C.fnT x))
  have pix : ∀ (a i : Expr) (ta ti : TE) (p : Pos), ordE i = true → PE X a ta → PE X i ti → PE X (.Subscript a i p) (tOp (rIx X.K) ta ti) := fun a i ta ti p ho ha hi => pe_ix ix_seq ha hi (ix_ord ho)
  refine pss_cons (pset 2 _ _ _ _ _ rfl rfl (pix _ _ _ _ _ rfl (pv 0 _ _ rfl) pe_int)) ?_
  refine pss_cons (ps_asg (pe_op op_add (pix _ _ _ _ _ rfl (pv 0 _ _ rfl) pe_int) pe_int) (pg_sub (pv 0 _ _ rfl) pe_int set_list (fun v => rfl)) rfl rfl rfl) ?_
  refine pss_cons (pset 3 _ _ _ _ _ rfl rfl (pe_op op_mod (pix _ _ _ _ _ rfl (pv 0 _ _ rfl) pe_int) (pe_callB (r := rLenV X.K) call_len (gl_of (by rw [C.scope]; exact hs.2)) (C.free _ (by decide +kernel)) boot_len (pa_cons (pv 2 _ _ rfl) pa_nil)))) ?_
  refine pss_cons (pset 4 _ _ _ _ _ rfl rfl (pix _ _ _ _ _ rfl (pv 2 _ _ rfl) (pv 3 _ _ rfl))) ?_
  refine pss_cons (ps_if (pt_cmpR op_ge (pv 4 _ _ rfl) pe_int rfl) (pss_cons (ps_asg (pe_op op_fdiv (pv 4 _ _ rfl) (pv 1 _ _ rfl)) (pg_sub (pv 2 _ _ rfl) (pv 3 _ _ rfl) set_list (fun v => rfl)) rfl rfl rfl) (pss_one (ps_ret (pe_op op_mod (pv 4 _ _ rfl) (pv 1 _ _ rfl))))) pss_nil) ?_
  refine pss_cons (pset 5 _ _ _ _ _ rfl rfl (pe_op op_mod (pe_op op_add (pv 4 _ _ rfl) (pe_op op_mul pe_int (pix _ _ _ _ _ rfl (pv 0 _ _ rfl) pe_int))) pe_int)) ?_
  refine pss_cons (pset 5 _ _ _ _ _ rfl rfl (pe_op op_mod (pe_op op_pow (pv 5 _ _ rfl) pe_int) pe_int)) ?_
  exact pss_one (ps_ret (pe_op op_mod (pe_op op_fdiv (pe_op op_mod (pe_op op_add (pe_op op_mul (pe_op op_fdiv (pv 5 _ _ rfl) pe_int) pe_int) (pv 5 _ _ rfl)) pe_int) pe_int) (pv 1 _ _ rfl)))

/-! ### the town -/
def townSc (sc : Scope) : Bool := visB sc "script" && glB sc "list"
def rListOf (K : PySem.W.Frag) : List V → Hp → VK → Prop := fun xs H Q => ∃ p ys, xs = [.ref p] ∧ (SqL K H p ys ∨ SqT K H p ys) ∧ ∀ l, H l = none → Q (.ref l) (upd H l (.lst ys))
def tTownS (K : PySem.W.Frag) : TS := tRet (tLst (tCons (tIf (tTest (tOp (rCmp K .NotEq) (tVar 0) (tLst tNil))) (tCB (rListOf K) (tCons (tVar 0) tNil)) (tLst (tCons (tC (.int 0)) tNil))) (tCons (tC (.int 0)) tNil)))
theorem town_pss (hN : X.N = ([("script" : Str)] : List Str)) (hsc : X.env.scope = sc) (hu : X.A.units + 60 < cLine) (hm : X.mg "list" = none) (hs : townSc sc = true) {p1 p2 p3 p4 p5 p6 p7 p8 p9 p10 p11 p12 : Pos} {k1 k2 : Nat} : PSs X [.Return (some (.List [(.IfExp (.Compare (.Name "script" p1) [.NotEq] [.List [] p2] p3) (.Call (.Name "list" p5) [(.Name "script" p4)] [] p6) (.List [(.Constant (.int 0) k1 p7)] p8) p9), (.Constant (.int 0) k2 p10)] p11)) p12] (tTownS X.K) := by
  simp only [townSc, Bool.and_eq_true] at hs
  have pv : ∀ (p : Pos), PE X (.Name "script" p) (tVar 0) := fun p => pe_var (i := 0) (by rw [hN]; rfl) (by rw [hsc]; exact vis_of hs.1)
  exact pss_one (ps_ret (pe_lst (pa_cons (pe_ifExp (pt_cmpR (op_cmp hu .NotEq) (pv _) (pe_lst pa_nil) rfl) (pe_callTy (r := rListOf X.K) call_list_of (gl_of (by rw [hsc]; exact hs.2)) hm PySem.Pv.boot_list (pa_cons (pv _) pa_nil)) (pe_lst (pa_cons pe_int pa_nil))) (pa_cons pe_int pa_nil))))
end

/-- the numbers that are drawn from -/
def nums0 (ns : List Int) : List Int := if ns = [] then [0] else ns
def spTown (K : PySem.W.Frag) : Sp := fun vs H Q _ => ∃ (a : Addr) (ns : List Int), vs = [.ref a] ∧ ns.length ≤ 63 ∧ SqL K H a (ns.map V.int) ∧
  ∀ p q H1, H1 p = some (.lst ((nums0 ns).map V.int)) → H1 q = some (.lst [.ref p, .int 0]) → q ≠ p → Q (.ref q) H1
theorem dp_ints {K : PySem.W.Frag} {H : Hp} : ∀ ns : List Int, DpAll K H (ns.map V.int) (ns.map PyData.int)
  | [] => .nil
  | n :: ns => .cons (.int n) (dp_ints ns)
theorem plain_ints : ∀ ns : List Int, PyData.plainAll (ns.map PyData.int) = true
  | [] => rfl
  | n :: ns => by
    simp only [List.map_cons, PyData.plainAll, plain_ints ns, Bool.and_true]
    rfl
theorem town_read {K : PySem.W.Frag} {vs : List V} {H : Hp} {Q : VK} {E : XK} (h : spTown K vs H Q E) : tTownS K { nx := fun _ H' => Q .non H', rt := Q } (L2.start ["script"] vs) H := by
  obtain ⟨a, ns, rfl, hl, hS, q⟩ := h
  refine ⟨_, rfl, by show 0 ≤ _; exact Nat.zero_le _, fun p0 h0 => ?_⟩
  have g0 : ∀ b u, H b = some u → upd H p0 (.lst []) b = some u := fun b u e => by
    rw [upd_ne (fun c => by rw [c, h0] at e; cases e)]
    exact e
  have hS1 := SqL_mono g0 hS
  refine ⟨.list (ns.map .int), .list [], .lst hS1 (dp_ints ns), .lst (SqL.of upd_same) .nil, ?_, _, rfl, ?_⟩
  · unfold flatB
    simp only [Bool.and_eq_true, decide_eq_true_eq]
    refine ⟨⟨?_, rfl⟩, ?_⟩
    · show PyData.plainAll (ns.map .int) = true
      exact plain_ints ns
    · exact Nat.le_trans (Nat.min_le_right _ _) (by decide)
  · have fin : ∀ (l : Addr) (H2 : Hp), H2 l = some (.lst ((nums0 ns).map V.int)) → tCons (tC (.int 0)) tNil (L2.start ["script"] [V.ref a]) H2 fun xs H1 => ([V.ref l] ++ xs).length ≤ sizeLine ∧ ∀ p, H1 p = none → Q (.ref p) (upd H1 p (.lst ([V.ref l] ++ xs))) := fun l H2 e => by
      refine ⟨by rw [line_eq]; show 2 ≤ lineN; decide, fun p hp => q l p _ ?_ upd_same ?_⟩
      · rw [upd_ne (fun c => by rw [← c, e] at hp; cases hp)]
        exact e
      · intro c
        rw [c, e] at hp
        cases hp
    cases ns with
    | nil =>
      refine ⟨by rw [line_eq]; decide, fun l hl' => ?_⟩
      exact fin l _ upd_same
    | cons n ns =>
      refine ⟨_, rfl, a, _, rfl, .inl hS1, fun l hl' => ?_⟩
      exact fin l _ upd_same
section
variable {P : Program} {w : World} {K : PySem.W.Frag} {mg : Str → Option Value} {base : Heap} {z : Cz} {g : Gt} {F : Nat → List PyData → Tw → R PyData} {k : Nat} {qual : Str} {params : Arguments} {body : List Stmt} {scope : Scope} {dvs : List V} {kws : List (Str × V)} {f : Addr} {fd : FuncData} {x : Str}
theorem sxx_of {N ps : List Str} {s : Shared} {H H0 : Hp} {O : List Addr} {E : XK} {cdv : Value} {A : Around} {outer : List PySem.Env} (G : Gfx P w K mg base z g F k) (S : FnScope N ps scope) (hr : Room k (A.deeper (envOfC qual scope s.heap.objs.size f cdv))) :
    Sxx (cxOf (L2.CX P w) P w K mg base N qual scope f cdv A outer s H E) ⟨K, z, H0, O, fun cls d _ H' => E cls d H'⟩ N scope g F k := {
    scope := rfl
    names := rfl
    K := rfl
    calm := rfl
    nd := S.nd
    units := by have := hr.un; show (A.deeper _).units + 200 < cLine; omega
    tk := takes_of rfl rfl rfl rfl
    free := G.free
    fns := G.fns
    csts := G.csts
    room := hr
    exf := G.exf
    fnT := fun _ => rfl
    po := passes_of rfl
    kind := S.kind
    stk := rfl
    frm := rfl
    exn := rfl }
theorem draw_fn (G : Gfx P w K mg base z g F k) (Fd : FunD K x qual params body scope dvs kws f fd) (S : FnScope drawN ["town", "count"] scope) (hs : drawSc scope = true)
    (hb : ∀ {X : Cx} {y : Cy}, Sxx X y drawN scope g F k → PSs X body (tDraw X.K)) :
    FnOk P w K mg base (L2.CX P w) (k + 1) f fd ["town", "count"] (spOf K z 2 fun ds t => runDf F .draw ds t) := by
  refine Fd.ok S (fun vs H Q E h => h.1) (fun cdv A outer s H vs Q E hr h => ⟨_, hb (sxx_of (H0 := H) (O := []) G S hr), ?_⟩)
  exact draw_read h
theorem town_fn (hm : mg "list" = none) (Fd : FunD K x qual params body scope dvs kws f fd) (S : FnScope ["script"] ["script"] scope)
    (hb : ∀ {X : Cx}, X.N = ([("script" : Str)] : List Str) → X.env.scope = scope → X.A.units + 60 < cLine → X.mg "list" = none → PSs X body (tTownS X.K)) :
    FnOk P w K mg base (L2.CX P w) (k + 1) f fd ["script"] (spTown K) := by
  refine Fd.ok S (fun vs H Q E h => ?_) (fun cdv A outer s H vs Q E hr h => ⟨_, hb rfl rfl (by have := hr.un; show (A.deeper _).units + 60 < cLine; omega) hm, town_read h⟩)
  obtain ⟨a, ns, rfl, _⟩ := h
  rfl
/-! ### the law -/
def spL (K : PySem.W.Frag) : Sp := fun vs H Q _ => ∃ (a : Addr) (ns : List Int), vs = [.ref a] ∧ ns.length ≤ 63 ∧ SqL K H a (ns.map V.int) ∧ ∀ H', Q (.bl true) H'
theorem law_fn {cls : Nat → Addr} {N : List Str} {c : CB} {rest : List Stmt} {fT : Addr} {fdT : FuncData} {p1 p2 p3 p4 p5 : Pos} (G : ∀ aT aN, Gfx P w K mg base ⟨aT, aN, cls⟩ g F k) (ar : Arity g F) (Fd : FunD K x qual params body scope dvs kws f fd) (S : FnScope ("script" :: "town" :: N) ["script"] scope)
    (FT : FnOk P w K mg base (L2.CX P w) k fT fdT ["script"] (spTown K)) (kT : PySem.W.keepIn K (.ref fT) = true) (bT : Binds K fdT ["script"] []) (mT : mg "_law_town" = some (.ref fT))
    (hsc : (visB scope "script" && locB scope "town" && glB scope "_law_town") = true)
    (eb : body = .Assign [.Name "town" p1] (.Call (.Name "_law_town" p2) [.Name "script" p3] [] p4) p5 :: rest)
    (hc : chkB g ("script" :: "town" :: N) scope c rest = true)
    (run : ∀ ns : List Int, ns.length ≤ 63 → ∃ t, execB F c (none :: some (false, tTown) :: List.replicate N.length none) ⟨nums0 ns, 0⟩ = .ret (.bool true) t) :
    FnOk P w K mg base (L2.CX P w) (k + 1) f fd ["script"] (spL K) := by
  refine Fd.ok S (fun vs H Q E h => ?_) (fun cdv A outer s H vs Q E hr h => ?_)
  · obtain ⟨a, ns, rfl, _⟩ := h
    rfl
  · simp only [Bool.and_eq_true] at hsc
    obtain ⟨⟨s1, s2⟩, s3⟩ := hsc
    let X := cxOf (L2.CX P w) P w K mg base ("script" :: "town" :: N) qual scope f cdv A outer s H E
    have C0 : ∀ aT aN H0 O, Sxx X ⟨K, ⟨aT, aN, cls⟩, H0, O, fun cls d _ H' => E cls d H'⟩ ("script" :: "town" :: N) scope g F k := fun aT aN H0 O => sxx_of (G aT aN) S hr
    have hv : PE X (.Name "script" p3) (tVar 0) := pe_var (i := 0) rfl (vis_of s1)
    have hcall : PE X (.Call (.Name "_law_town" p2) [.Name "script" p3] [] p4) (fun σ H Q => tCons (tVar 0) tNil σ H fun vs H1 => spTown K (vs ++ []) H1 Q (WE (fun cls d _ H' => E cls d H') σ)) := pe_callSD (E := WE (fun cls d _ H' => E cls d H')) FT hr (gl_of s3) mT kT bT .nil (fun σ => passAt (C0 0 0 H []).tk σ) (pa_cons hv pa_nil) (by decide) rfl rfl
    have hset := ps_set (X := X) (i := 1) (pos := p5) (pos' := p1) (C0 0 0 H []).nd rfl (loc_of s2) hcall rfl (.inl rfl)
    have hrest : PSs X rest (fun D σ H => ∃ aT aN H0 O, tS ⟨K, ⟨aT, aN, cls⟩, H0, O, fun cls d _ H' => E cls d H'⟩ (execB F c) D σ H) := ⟨fun pins s σ H D I ⟨aT, aN, H0, O, h⟩ => (sndB ar c (C0 aT aN H0 O) hc).run pins s σ H D I h⟩
    refine ⟨_, by rw [eb]; exact pss_cons hset hrest, ?_⟩
    obtain ⟨a, ns, rfl, hl, hS, q⟩ := h
    refine ⟨_, rfl, a, ns, rfl, hl, hS, fun p r H1 hp hr' ne => ?_⟩
    refine ⟨r, p, H1, [r, p], none :: some (false, tTown) :: List.replicate N.length none, ⟨nums0 ns, 0⟩, [r, p], ?_, ?_⟩
    · have tw : TwOk ⟨r, p, cls⟩ H1 ⟨nums0 ns, 0⟩ := by
        refine ⟨hr', hp, ?_, ?_⟩
        · unfold nums0
          split
          · simp
          · assumption
        · unfold nums0
          split
          · show 1 ≤ 1000; omega
          · show ns.length ≤ 1000; omega
      refine ⟨?_, ?_, ?_, ?_, Grow.refl, fun a q => q, ?_, by simp, ?_, by simp, ne, tw⟩
      · simp [L2.start]
      · intro i d e
        match i, e with
        | 0, e => simp at e
        | 1, e =>
          simp only [List.getElem?_cons_succ, List.getElem?_cons_zero, Option.some.injEq, Prod.mk.injEq, true_and] at e
          subst e
          exact ⟨.ref r, rfl, .town⟩
        | i + 2, e =>
          simp only [List.getElem?_cons_succ, List.getElem?_replicate] at e
          split at e <;> cases e
      · intro i d e
        match i, e with
        | 0, e => simp at e
        | 1, e => simp at e
        | i + 2, e =>
          simp only [List.getElem?_cons_succ, List.getElem?_replicate] at e
          split at e <;> cases e
      · intro i j d e' a e
        match i, e with
        | 0, e => simp at e
        | 1, e => simp at e
        | i + 2, e =>
          simp only [List.getElem?_cons_succ, List.getElem?_replicate] at e
          split at e <;> cases e
      · intro b hb
        simp only [List.mem_cons, List.not_mem_nil, or_false] at hb
        rcases hb with rfl | rfl
        · rw [hr']; simp
        · rw [hp]; simp
      · intro b hb
        simp only [List.mem_cons, List.not_mem_nil, or_false] at hb
        rcases hb with rfl | rfl
        · show H1 _ ≠ none; rw [hr']; simp
        · show H1 _ ≠ none; rw [hp]; simp
    · obtain ⟨t', et⟩ := run ns hl
      rw [et]
      intro v H' _ _ pv
      cases pv
      exact q H'
end
end Wv

set_option maxHeartbeats 4000000
namespace Wv
open PySem L2 He

/-! ### the head's Hook, with a look of our own -/
def obsW (fa : List Fa) (fn : List DefD) (ck : PySem.W.Frag → Bool) (K : PySem.W.Frag) : AlD × Bool := (obsD fa fn K, ck K)
def hookW (n : Nat) (fa : List Fa) (fn : List DefD) (ck : PySem.W.Frag → Bool) : PySem.W.Hook where
  α := AlD × Bool
  obs := fun s => obsW fa fn ck (frG s.heap.get? (asD s.heap.get? n))
  val := fun _ => (valD fn, true)
  says := fun _ h => ∃ K : PySem.W.Frag, K.In h ∧ SaysD fa fn K ∧ ck K = true
  of := fun _ _ e => ⟨_, frG_in, congrArg Prod.fst e, congrArg Prod.snd e⟩
  keeps := fun _ _ _ ⟨K, hK, c⟩ k => ⟨K, PySem.W.Frag.In.keeps hK k, c⟩
def obW (n : Nat) (fa : List Fa) (fn : List DefD) (ck : PySem.W.Frag → Bool) (s : PySem.W.SharedT) : AlD × Bool := obsW fa fn ck (frG (HandSHeadRun.getT s) (asD (HandSHeadRun.getT s) n))
theorem obW_eq {n : Nat} {fa : List Fa} {fn : List DefD} {ck : PySem.W.Frag → Bool} (s : PySem.W.SharedT) : obW n fa fn ck s = (hookW n fa fn ck).obs s.abs := by
  have e : HandSHeadRun.getT s = s.abs.heap.get? := funext (HandSHeadRun.getT_eq s)
  unfold obW
  rw [e]
  rfl

/-! ### the classes of refusals: 0 above all others -/
def excNames : List Str := ["WhereError", "BadHouse", "BadFolk", "BadBeat", "BadRoom", "BadBook", "BadPaper", "BadText", "NoneSuch"]
def excW (c : Nat) : Option Str := excNames[c]?
def clsW (K : PySem.W.Frag) (c : Nat) : Addr := ga K (excNames.getD c "")
def ckCls (K : PySem.W.Frag) (x : Str) : Bool :=
  eqO (PySem.W.nsIn K mainGlobals x) (some (some (.ref (ga K x)))) &&
  (PySem.W.excIn K (ga K x) veT "ValueError.__new__" &&
  (PySem.W.keepIn K (.ref (ga K x)) &&
  (decide (PySem.W.subIn K (.ref (ga K x)) (.type "BaseException") = some true) &&
  (decide (PySem.W.typeIn K (.ref (ga K x)) = some (.type "type")) &&
  (eqO (PySem.W.findIn K (.ref (ga K x)) "__getattribute__") (some (some (.builtin "BaseException.__getattribute__"))) &&
  (eqO (PySem.W.findIn K (.ref (ga K x)) "__getattr__") (some none) &&
  (PySem.W.hasDictIn K (ga K x) &&
  (eqO (PySem.W.findIn K (.ref (ga K x)) "__class__") (some (some (.builtin "object.__class__"))) &&
  (eqO (PySem.W.specialIn K (.builtin "object.__class__") "__get__") (some (some (.builtin "getset_descriptor.__get__"))) &&
  (decide (PySem.W.takesIn K (.builtin "object.__class__") = some true) &&
  (decide (PySem.W.mroIn K (ga K x) (.type "object") = some true) &&
  (decide (PySem.W.kitOne K (.ref (ga K x)) (.type "ValueError") = some true) &&
  decide (PySem.W.exmOne K (.ref (ga K x)) (.ref (ga K "WhereError")) = some true)))))))))))))
def ckKit (K : PySem.W.Frag) : Bool := (List.range 9).all fun c => (List.range 9).all fun c' => decide (PySem.W.kitOne K (.ref (clsW K c)) (.ref (clsW K c')) = some (decide (c' = 0) || decide (c = c')))
def ckExc (K : PySem.W.Frag) : Bool := (excNames.all fun x => ckCls K x) && ckKit K
theorem exc_mem {c : Nat} {x : Str} (h : excW c = some x) : x ∈ excNames ∧ excNames.getD c "" = x ∧ c < 9 := by
  refine ⟨List.mem_of_getElem? h, ?_, ?_⟩
  · rw [List.getD_eq_getElem?_getD]
    show (excW c).getD "" = x
    rw [h]
    rfl
  · exact (List.getElem?_eq_some_iff.mp h).1
theorem excF_of {K : PySem.W.Frag} {h : Heap} {mg : Str → Option Value} (X : K.In h) (G : h.Ns mainGlobals mg) (ck : ckExc K = true) (aT aN : Addr) : ExcF K mg ⟨aT, aN, clsW K⟩ excW := by
  obtain ⟨c1, c2⟩ := Bool.and_eq_true_iff.mp ck
  have A : ∀ c x, excW c = some x → ckCls K x = true ∧ clsW K c = ga K x := fun c x e => by
    obtain ⟨m, q, _⟩ := exc_mem e
    exact ⟨List.all_eq_true.mp c1 x m, by unfold clsW; rw [q]⟩
  have nd : ∀ c x, excW c = some x → (x == ("__debug__" : Str)) = false := fun c x e => by
    have : (excNames.all fun x => !(x == ("__debug__" : Str))) = true := by decide +kernel
    simpa using List.all_eq_true.mp this x (exc_mem e).1
  refine ⟨fun c x e => ?_, fun c x e => ?_, fun c x e => ?_, fun c x c' x' e e' => ?_, fun c x e => ?_, fun c x x' e e' => ?_⟩
  · obtain ⟨q, r⟩ := A c x e
    unfold ckCls at q
    simp only [Bool.and_eq_true, decide_eq_true_eq] at q
    refine ⟨?_, nd c x e⟩
    show mg x = some (.ref (clsW K c))
    rw [r]
    exact PySem.W.mg_of X G (eqO_ok q.1)
  · obtain ⟨q, r⟩ := A c x e
    unfold ckCls at q
    simp only [Bool.and_eq_true, decide_eq_true_eq] at q
    show PySem.W.excIn K (clsW K c) veT "ValueError.__new__" = true ∧ PySem.W.keepIn K (.ref (clsW K c)) = true ∧ PySem.W.subIn K (.ref (clsW K c)) (.type "BaseException") = some true ∧ PySem.W.typeIn K (.ref (clsW K c)) = some (.type "type")
    rw [r]
    exact ⟨q.2.1, q.2.2.1, q.2.2.2.1, q.2.2.2.2.1⟩
  · obtain ⟨q, r⟩ := A c x e
    unfold ckCls at q
    simp only [Bool.and_eq_true, decide_eq_true_eq] at q
    show ExcC K (clsW K c)
    rw [r]
    obtain ⟨_, _, _, q4, _, q6, q7, q8, q9, q10, q11, q12, _⟩ := q
    exact ⟨eqO_ok q6, eqO_ok q7, q4, q8, eqO_ok q9, eqO_ok q10, q11, q12⟩
  · have k := List.all_eq_true.mp (List.all_eq_true.mp c2 c (List.mem_range.mpr (exc_mem e).2.2)) c' (List.mem_range.mpr (exc_mem e').2.2)
    exact of_decide_eq_true k
  · obtain ⟨q, r⟩ := A c x e
    unfold ckCls at q
    simp only [Bool.and_eq_true, decide_eq_true_eq] at q
    show PySem.W.kitOne K (.ref (clsW K c)) (.type "ValueError") = some true
    rw [r]
    obtain ⟨_, _, _, _, _, _, _, _, _, _, _, _, q13, _⟩ := q
    exact q13
  · obtain ⟨q, r⟩ := A c x e
    unfold ckCls at q
    simp only [Bool.and_eq_true, decide_eq_true_eq] at q
    show PySem.W.exmOne K (.ref (clsW K c)) (.ref (clsW K 0)) = some true
    rw [r]
    obtain ⟨_, _, _, _, _, _, _, _, _, _, _, _, _, q14⟩ := q
    exact q14
end Wv

set_option maxHeartbeats 4000000
namespace Wv
open PySem L2 He

/-! ### what is looked at behind the top -/
/-- where the default of 'liars' lies -/
def kwAt (K : PySem.W.Frag) (x : Str) : Addr := match K.lookup (ga K x) with
  | some ⟨_, _, .func fd, _⟩ => (match fd.kwdefaults with
    | .ref D => (match PySem.W.nsIn K D "liars" with
      | some (some (.ref a)) => a
      | _ => 0)
    | _ => 0)
  | _ => 0
def tupAt (K : PySem.W.Frag) (a : Addr) (vs : List V) : Bool := match K.lookup a with
  | some ⟨.type c, _, .seq its _, _⟩ => decide (c = "tuple") && (decide (its.size ≤ sizeLine) && relAll vs its.toList)
  | _ => false
theorem tupAt_ok {K : PySem.W.Frag} {a : Addr} {vs : List V} (h : tupAt K a vs = true) (H : Hp) : SqT K H a vs := by
  unfold tupAt at h
  cases q : K.lookup a with
  | none =>
    rw [q] at h
    cases h
  | some o =>
    obtain ⟨oc, od, dt, osl⟩ := o
    rw [q] at h
    cases oc with
    | type c =>
      cases dt with
      | seq its n =>
        obtain ⟨h1, h2⟩ := ba (show (decide (c = "tuple") && (decide (its.size ≤ sizeLine) && relAll vs its.toList)) = true from h)
        obtain ⟨h3, h4⟩ := ba h2
        exact .inr ⟨_, its, n, q, congrArg Value.type (of_decide_eq_true h1), rfl, of_decide_eq_true h3, relAll_ok h4⟩
      | _ => cases h
    | _ => cases dt <;> cases h
/-- plain values of constants -/
def vOf : PyData → V
  | .int i => .int i
  | .str x => .str x
  | _ => .non
def flatC : PyData → Bool
  | .int _ => true
  | .str _ => true
  | .none => true
  | _ => false
def ckCst (K : PySem.W.Frag) (p : Str × PyData) : Bool := !(p.1 == ("__debug__" : Str)) && match p.2 with
  | .int i => (Fa.int p.1 i).ok K
  | .tuple ds => (Fa.glo p.1).ok K && (ds.all flatC && (decide (ds.length ≤ lineN) && tupAt K (ga K p.1) (ds.map vOf)))
  | _ => false
def ckAll (K : PySem.W.Frag) (names kws : List Str) (consts : List (Str × PyData)) : Bool :=
  ckExc K && ((names.all fun x => (Fa.glo x).ok K) && ((biNames.all fun x => (Fa.free x).ok K) && ((kws.all fun x => tupAt K (kwAt K x) []) && consts.all fun p => ckCst K p)))
section
variable {K : PySem.W.Frag} {h : Heap} {mg : Str → Option Value} {names kws : List Str} {consts : List (Str × PyData)}
theorem ck_exc (q : ckAll K names kws consts = true) : ckExc K = true := (ba q).1
theorem glo_all (X : K.In h) (G : h.Ns mainGlobals mg) (q : ckAll K names kws consts = true) {x : Str} (hx : names.contains x = true) : mg x = some (.ref (ga K x)) := by
  have := List.all_eq_true.mp (ba (ba q).2).1 x (by simpa using hx)
  exact glo_ok X G this
theorem free_all (X : K.In h) (G : h.Ns mainGlobals mg) (q : ckAll K names kws consts = true) : ∀ x, x ∈ biNames → mg x = none := fun x hx => by
  have := List.all_eq_true.mp (ba (ba (ba q).2).2).1 x hx
  exact free_ok X G this
theorem emp_all (q : ckAll K names kws consts = true) {x : Str} (hx : kws.contains x = true) (H : Hp) : SqT K H (kwAt K x) [] := by
  have := List.all_eq_true.mp (ba (ba (ba (ba q).2).2).2).1 x (by simpa using hx)
  exact tupAt_ok this H
theorem vOf_ok {z : Cz} {H : Hp} : ∀ {ds : List PyData}, ds.all flatC = true → RpAll K z H (ds.map vOf) ds
  | [], _ => .nil
  | d :: ds, q => by
    simp only [List.all_cons, Bool.and_eq_true] at q
    refine .cons ?_ (vOf_ok q.2)
    cases d with
    | int i => exact .int i
    | str x => exact .str x
    | none => exact .non
    | _ => cases q.1
theorem lookup_memS {x : Str} {d : PyData} : ∀ {l : List (Str × PyData)}, l.lookup x = some d → (x, d) ∈ l
  | [], e => by cases e
  | (y, e) :: r, q => by
    rw [List.lookup_cons] at q
    cases hb : (x == y) with
    | true =>
      rw [hb] at q
      have e1 : e = d := Option.some.inj q
      have e2 : x = y := by simpa using hb
      rw [e1, e2]
      exact List.mem_cons_self ..
    | false =>
      rw [hb] at q
      exact List.mem_cons_of_mem _ (lookup_memS q)
theorem csts_all (X : K.In h) (G : h.Ns mainGlobals mg) (q : ckAll K names kws consts = true) : ∀ z : Cz, ∀ x d, consts.lookup x = some d → ∃ (u : Value) (v : V), mg x = some u ∧ RelV v u ∧ (∀ H, Rp K z H v d) ∧ (x == ("__debug__" : Str)) = false := fun z x d e => by
  have c := List.all_eq_true.mp (ba (ba (ba (ba q).2).2).2).2 _ (lookup_memS e)
  obtain ⟨c1, c2⟩ := ba c
  have nd : (x == ("__debug__" : Str)) = false := by simpa using c1
  cases d with
  | int i =>
    obtain ⟨t, m⟩ := int_ok X G (x := x) (i := i) c2
    exact ⟨_, .int i, m, ⟨t, rfl⟩, fun H => .int i, nd⟩
  | tuple ds =>
    obtain ⟨g1, c3⟩ := ba (show ((Fa.glo x).ok K && (ds.all flatC && (decide (ds.length ≤ lineN) && tupAt K (ga K x) (ds.map vOf)))) = true from c2)
    obtain ⟨c4, c5⟩ := ba c3
    obtain ⟨c6, c7⟩ := ba c5
    exact ⟨_, .ref (ga K x), glo_ok X G g1, rfl, fun H => .tup (tupAt_ok c7 H) (by rw [List.length_map]; exact of_decide_eq_true c6) (vOf_ok c4), nd⟩
  | _ => cases c2
end

/-! ### all places of a table -/
inductive AllI {α : Type} (p : Nat → α → Prop) : Nat → List α → Prop
  | nil {i : Nat} : AllI p i []
  | cons {i : Nat} {a : α} {l : List α} : p i a → AllI p (i + 1) l → AllI p i (a :: l)
theorem AllI.get {α : Type} {p : Nat → α → Prop} : ∀ {i : Nat} {l : List α}, AllI p i l → ∀ {j : Nat} {a : α}, l[j]? = some a → p (i + j) a
  | _, _, .nil, j, a, e => by simp at e
  | _, _, .cons h t, 0, a, e => by
    simp only [List.getElem?_cons_zero, Option.some.injEq] at e
    subst e
    exact h
  | i, _, .cons h t, j + 1, a, e => by
    simp only [List.getElem?_cons_succ] at e
    have := t.get e
    rwa [show i + 1 + j = i + (j + 1) by omega] at this
theorem AllI.get0 {α : Type} {p : Nat → α → Prop} {l : List α} (h : AllI p 0 l) {j : Nat} {a : α} (e : l[j]? = some a) : p j a := by
  have := h.get e
  rwa [Nat.zero_add] at this
def arB : List (Str × Nat × Kd) → List Df → Bool
  | [], _ => true
  | (_, np, _) :: r, d :: ds => (match d with
    | .code n _ _ => decide (n = np)
    | .draw => decide (np = 2)) && arB r ds
  | _ :: _, [] => false
theorem arB_ok : ∀ {l : List (Str × Nat × Kd)} {ds : List Df}, arB l ds = true → ∀ (f : Nat) (x : Str) (np : Nat) (kd : Kd), l[f]? = some (x, np, kd) → ∃ d, ds[f]? = some d ∧ ∀ F vs t, vs.length ≠ np → runDf F d vs t = .bad
  | [], _, _, f, x, np, kd, e => by simp at e
  | _ :: _, [], h, _, _, _, _, _ => by cases h
  | (y, m, kd') :: r, d :: ds, h, 0, x, np, kd, e => by
    simp only [List.getElem?_cons_zero, Option.some.injEq, Prod.mk.injEq] at e
    obtain ⟨rfl, rfl, rfl⟩ := e
    simp only [arB, Bool.and_eq_true] at h
    refine ⟨d, rfl, fun F vs t hl => ?_⟩
    cases d with
    | code n ns b =>
      have e : n = m := of_decide_eq_true h.1
      subst e
      unfold runDf
      dsimp only
      rw [if_neg hl]
    | draw =>
      have e : m = 2 := of_decide_eq_true h.1
      subst e
      unfold runDf
      dsimp only
      split
      · exact absurd rfl hl
      · rfl
  | (y, m, kd') :: r, d :: ds, h, f + 1, x, np, kd, e => by
    simp only [List.getElem?_cons_succ] at e ⊢
    simp only [arB, Bool.and_eq_true] at h
    exact arB_ok h.2 f x np kd e
theorem ar_all {l : List (Str × Nat × Kd)} {ds : List Df} (h : arB l ds = true) : ∀ (f : Nat) (x : Str) (np : Nat) (kd : Kd), l[f]? = some (x, np, kd) → ∃ d, ds[f]? = some d ∧ ∀ F vs t, vs.length ≠ np → runDf F d vs t = .bad := arB_ok h

/-! ### a def of the text -/
section
variable {P : Program} {w : World} {K : PySem.W.Frag} {mg : Str → Option Value} {base : Heap} {g : Gt} {T : Nat → Option Df} {i n : Nat} {x qual : Str} {params : Arguments} {body : List Stmt} {scope : Scope} {N ps : List Str} {c : CB}
theorem mk_pos (hd : ∃ fd, FunD K x qual params body scope [] [] (ga K x) fd) (hm : mg x = some (.ref (ga K x))) (S : FnScope N ps scope) (hl : ps.length ≤ N.length) (hc : chkB g N scope c body = true)
    (hb : ∀ (kV doc pm : Value) (an : Option Addr) (cdv ct : Value) (us : List Value), us.length = ps.length → bindArgs (PySem.W.fnOf x qual params body scope .none kV doc pm an cdv ct) ⟨us, []⟩ = pure (ps.zip us))
    (hT : T i = some (.code ps.length N.length c)) (nm : (x == ("__debug__" : Str)) = false) : DefOk P w K mg base g T i x ps.length .pos := by
  obtain ⟨fd, Fd⟩ := hd
  exact ⟨⟨_, fd, ps, rfl, hm, Fd.kp, fun _ => Fd.bindsN hb, fun q => (nomatch q), _, hT, fun z F k G ar => fn_ok G ar Fd S hl hc⟩, nm⟩
theorem mk_kw (hd : ∃ fd, FunD K x qual params body scope [] [("liars", .ref (kwAt K x))] (ga K x) fd) (hm : mg x = some (.ref (ga K x))) (he : ∀ H, SqT K H (kwAt K x) []) (S : FnScope N ps scope) (hl : ps.length ≤ N.length) (hc : chkB g N scope c body = true)
    (hb : ∀ (D : Addr) (doc pm : Value) (an : Option Addr) (cdv ct : Value) (us ks : List Value), us.length = n → ks.length = 1 → KwChain D ((["liars"] : List Str).zip ks) (bindArgs (PySem.W.fnOf x qual params body scope .none (.ref D) doc pm an cdv ct) ⟨us, []⟩) (ps.zip (us ++ ks)))
    (hk : ∀ (kV doc pm : Value) (an : Option Addr) (cdv ct : Value) (us ws : List Value), us.length = n → ws.length = 1 → bindArgs (PySem.W.fnOf x qual params body scope .none kV doc pm an cdv ct) ⟨us, (["liars"] : List Str).zip ws⟩ = pure (ps.zip (us ++ ws)))
    (hT : T i = some (.code ps.length N.length c)) (hn : n + 1 = ps.length) (nm : (x == ("__debug__" : Str)) = false) : DefOk P w K mg base g T i x ps.length .kw := by
  obtain ⟨fd, Fd⟩ := hd
  refine ⟨⟨_, fd, ps, rfl, hm, Fd.kp, fun q => (nomatch q), fun _ => ⟨?_, n, hn, ?_⟩, _, hT, fun z F k G ar => fn_ok G ar Fd S hl hc⟩, nm⟩
  · obtain ⟨ds, v, b⟩ := Fd.binds0 (ps := ps) n (by simp) hn hb
    exact ⟨kwAt K x, ds, he _, v, b⟩
  · obtain ⟨oc, od, dV, kV, doc, pm, an, cdv, ct, osl, rfl, lk, hcd, hD, hK⟩ := Fd.ex
    rcases hD with ⟨_, rfl⟩ | ⟨e, _⟩
    · exact ⟨fun s us ws X l1 l2 => BindsTo.of_eq (hk kV doc pm an cdv ct us ws l1 l2), fun r1 r2 => r1.append r2⟩
    · exact absurd rfl e
theorem mk_draw (hd : ∃ fd, FunD K x qual params body scope [] [] (ga K x) fd) (hm : mg x = some (.ref (ga K x))) (S : FnScope drawN ["town", "count"] scope) (hs : drawSc scope = true)
    (hp : ∀ {X : Cx} {y : Cy} {F : Nat → List PyData → Tw → R PyData} {k : Nat}, Sxx X y drawN scope g F k → PSs X body (tDraw X.K))
    (hb : ∀ (kV doc pm : Value) (an : Option Addr) (cdv ct : Value) (us : List Value), us.length = 2 → bindArgs (PySem.W.fnOf x qual params body scope .none kV doc pm an cdv ct) ⟨us, []⟩ = pure ((["town", "count"] : List Str).zip us))
    (hT : T i = some .draw) (nm : (x == ("__debug__" : Str)) = false) : DefOk P w K mg base g T i x 2 .pos := by
  obtain ⟨fd, Fd⟩ := hd
  exact ⟨⟨_, fd, ["town", "count"], rfl, hm, Fd.kp, fun _ => Fd.bindsN hb, fun q => (nomatch q), _, hT, fun z F k G ar => draw_fn G Fd S hs hp⟩, nm⟩
/-- what may be let out, of any world -/
def CXU (P : Program) : CXT := fun outer H s E u s' => ∃ w, L2.CX P w outer H s E u s'
theorem fn_cx {k : Nat} {f : Addr} {fd : FuncData} {sp : Sp} (F : FnOk P w K mg base (L2.CX P w) k f fd ps sp) : FnOk P w K mg base (CXU P) k f fd ps sp :=
  ⟨F.len, fun A outer s H args us vs Q E hr he hb hv hs => codeAny_mono (F.run A outer s H args us vs Q E hr he hb hv hs) fun r s' q => by
    cases r with
    | error u => exact ⟨w, q⟩
    | ok fl =>
      cases fl with
      | ret u => exact q
      | _ => exact q⟩
theorem cxu_no {H : Hp} {s : Shared} {e : Value} {s' : Shared} (h : CXU P [] H s (fun _ _ _ => False) e s') : False := by
  obtain ⟨w, a, B, H', cls, d, _, _, _, _, _, _, _, h⟩ := h
  exact h
end
end Wv

set_option maxHeartbeats 4000000
namespace Wv
open PySem L2
/-! ### runs, piece by piece -/
def takeB : Nat → CB → CB
  | 0, _ => .nil
  | n + 1, .cons s r => .cons s (takeB n r)
  | n + 1, .shr i r => .shr i (takeB n r)
  | _ + 1, c => c
def dropB : Nat → CB → CB
  | 0, c => c
  | n + 1, .cons _ r => dropB n r
  | n + 1, .shr _ r => dropB n r
  | _ + 1, _ => .nil
def SR.then (x : SR) (f : Env → Tw → SR) : SR := match x with
  | .next env t => f env t
  | x => x
theorem exec_split {F : Nat → List PyData → Tw → R PyData} : ∀ (n : Nat) (c : CB) (env : Env) (t : Tw), execB F c env t = (execB F (takeB n c) env t).then (execB F (dropB n c))
  | 0, c, env, t => by simp [takeB, dropB, execB, SR.then]
  | n + 1, .nil, env, t => by simp [takeB, dropB, execB, SR.then]
  | n + 1, .hole, env, t => by simp [takeB, dropB, execB, SR.then]
  | n + 1, .cons s r, env, t => by
    simp only [takeB, dropB, execB]
    cases execS F s env t with
    | next e t' => exact exec_split n r e t'
    | _ => rfl
  | n + 1, .shr i r, env, t => by
    simp only [takeB, dropB, execB]
    split
    · exact exec_split n r _ t
    · rfl
/-- the value of a run's surroundings -/
def envOf (x : SR) : Env := match x with
  | .next env _ => env
  | _ => []
def yes (x : SR) : Bool := match x with
  | .ret (.bool true) _ => true
  | _ => false
theorem yes_ok {x : SR} (h : yes x = true) : ∃ t, x = .ret (.bool true) t := by
  unfold yes at h
  split at h
  · exact ⟨_, rfl⟩
  · cases h
/-- each draw is one of those below the count -/
theorem draw_lt {t t' : Tw} {c r : Int} (h : drawT t c = some (r, t')) : 0 ≤ r ∧ r < c ∧ t'.ns ≠ [] ∨ t.ns = [] := by
  unfold drawT at h
  split at h
  · rename_i hc
    by_cases e : t.ns = []
    · exact .inr e
    · refine .inl ?_
      split at h
      · split at h
        · cases h
          refine ⟨Int.emod_nonneg _ (by omega), Int.emod_lt_of_pos _ hc.1, ?_⟩
          simpa using e
        · cases h
          exact ⟨Int.emod_nonneg _ (by omega), Int.emod_lt_of_pos _ hc.1, e⟩
      · cases h
  · cases h
theorem draw_some {t : Tw} {c : Int} (ht : t.ns ≠ []) (h1 : 0 < c) (h2 : c < 1000000) : ∃ r t', drawT t c = some (r, t') ∧ 0 ≤ r ∧ r < c ∧ t'.ns ≠ [] := by
  have hn : 0 < t.ns.length := List.length_pos_iff.mpr ht
  have hlt : (t.k + 1) % t.ns.length < t.ns.length := Nat.mod_lt _ hn
  have : ∃ r t', drawT t c = some (r, t') := by
    unfold drawT
    rw [if_pos ⟨h1, h2⟩, List.getElem?_eq_getElem hlt]
    dsimp only
    split
    · exact ⟨_, _, rfl⟩
    · exact ⟨_, _, rfl⟩
  obtain ⟨r, t', e⟩ := this
  refine ⟨r, t', e, ?_⟩
  rcases draw_lt e with q | q
  · exact q
  · exact absurd q ht
theorem nums_ne (ns : List Int) : nums0 ns ≠ [] := by
  unfold nums0
  split
  · simp
  · assumption
end Wv

set_option maxHeartbeats 0
namespace Wl
open PySem PySem.Spec PyProof.Rows L2 Wv
def top (i : Nat) : Stmt := PySem.Challenge.pw_wherewas_k17_books_refused.main.body.getD i (.Pass ⟨0, 0, 0, 0⟩)
abbrev s_is_whole : Stmt := top 10
def d_is_whole : He.DefD := ⟨("is_whole", none), "is_whole", "is_whole", defArgs s_is_whole, defBody s_is_whole, defScope s_is_whole, [], []⟩
abbrev s_are_pairs : Stmt := top 16
def d_are_pairs : He.DefD := ⟨("are_pairs", none), "are_pairs", "are_pairs", defArgs s_are_pairs, defBody s_are_pairs, defScope s_are_pairs, [], []⟩
abbrev s_is_house : Stmt := top 17
def d_is_house : He.DefD := ⟨("is_house", none), "is_house", "is_house", defArgs s_is_house, defBody s_is_house, defScope s_is_house, [], []⟩
abbrev s_look_house : Stmt := top 18
def d_look_house : He.DefD := ⟨("look_house", none), "look_house", "look_house", defArgs s_look_house, defBody s_look_house, defScope s_look_house, [], []⟩
abbrev s_look_folk : Stmt := top 19
def d_look_folk : He.DefD := ⟨("look_folk", none), "look_folk", "look_folk", defArgs s_look_folk, defBody s_look_folk, defScope s_look_folk, [], []⟩
abbrev s_look_beat : Stmt := top 20
def d_look_beat : He.DefD := ⟨("look_beat", none), "look_beat", "look_beat", defArgs s_look_beat, defBody s_look_beat, defScope s_look_beat, [], []⟩
abbrev s_look_room : Stmt := top 21
def d_look_room : He.DefD := ⟨("look_room", none), "look_room", "look_room", defArgs s_look_room, defBody s_look_room, defScope s_look_room, [], []⟩
abbrev s_open_doors : Stmt := top 22
def d_open_doors : He.DefD := ⟨("open_doors", none), "open_doors", "open_doors", defArgs s_open_doors, defBody s_open_doors, defScope s_open_doors, [], []⟩
abbrev s_beside : Stmt := top 23
def d_beside : He.DefD := ⟨("beside", none), "beside", "beside", defArgs s_beside, defBody s_beside, defScope s_beside, [], []⟩
abbrev s_next_rooms : Stmt := top 24
def d_next_rooms : He.DefD := ⟨("next_rooms", none), "next_rooms", "next_rooms", defArgs s_next_rooms, defBody s_next_rooms, defScope s_next_rooms, [], []⟩
abbrev s_stands : Stmt := top 25
def d_stands : He.DefD := ⟨("stands", none), "stands", "stands", defArgs s_stands, defBody s_stands, defScope s_stands, [], []⟩
abbrev s_is_stand : Stmt := top 26
def d_is_stand : He.DefD := ⟨("is_stand", none), "is_stand", "is_stand", defArgs s_is_stand, defBody s_is_stand, defScope s_is_stand, [], []⟩
abbrev s_is_claim : Stmt := top 27
def d_is_claim : He.DefD := ⟨("is_claim", none), "is_claim", "is_claim", defArgs s_is_claim, defBody s_is_claim, defScope s_is_claim, [], []⟩
abbrev s_holds : Stmt := top 28
def d_holds : He.DefD := ⟨("holds", none), "holds", "holds", defArgs s_holds, defBody s_holds, defScope s_holds, [], []⟩
abbrev s_is_so : Stmt := top 29
def d_is_so : He.DefD := ⟨("is_so", none), "is_so", "is_so", defArgs s_is_so, defBody s_is_so, defScope s_is_so, [], []⟩
abbrev s_is_binding : Stmt := top 32
def d_is_binding : He.DefD := ⟨("is_binding", none), "is_binding", "is_binding", defArgs s_is_binding, defBody s_is_binding, defScope s_is_binding, [], []⟩
abbrev s_is_book : Stmt := top 33
def d_is_book : He.DefD := ⟨("is_book", none), "is_book", "is_book", defArgs s_is_book, defBody s_is_book, defScope s_is_book, [], []⟩
abbrev s_book_fits : Stmt := top 34
def d_book_fits : He.DefD := ⟨("book_fits", none), "book_fits", "book_fits", defArgs s_book_fits, defBody s_book_fits, defScope s_book_fits, [], []⟩
abbrev s_look_book : Stmt := top 35
def d_look_book : He.DefD := ⟨("look_book", none), "look_book", "look_book", defArgs s_look_book, defBody s_look_book, defScope s_look_book, [], []⟩
abbrev s_look_case : Stmt := top 36
def d_look_case : He.DefD := ⟨("look_case", none), "look_case", "look_case", defArgs s_look_case, defBody s_look_case, defScope s_look_case, [], []⟩
abbrev s_claims_of : Stmt := top 37
def d_claims_of : He.DefD := ⟨("claims_of", none), "claims_of", "claims_of", defArgs s_claims_of, defBody s_claims_of, defScope s_claims_of, [], []⟩
abbrev s_binding : Stmt := top 38
def d_binding : He.DefD := ⟨("binding", none), "binding", "binding", defArgs s_binding, defBody s_binding, defScope s_binding, [], [("liars", .adr fun K => kwAt K "binding")]⟩
abbrev s_tellers : Stmt := top 39
def d_tellers : He.DefD := ⟨("tellers", none), "tellers", "tellers", defArgs s_tellers, defBody s_tellers, defScope s_tellers, [], []⟩
abbrev s_let_at : Stmt := top 41
def d_let_at : He.DefD := ⟨("let_at", none), "let_at", "let_at", defArgs s_let_at, defBody s_let_at, defScope s_let_at, [], []⟩
abbrev s_led : Stmt := top 42
def d_led : He.DefD := ⟨("led", none), "led", "led", defArgs s_led, defBody s_led, defScope s_led, [], []⟩
abbrev s_ahead_lots : Stmt := top 43
def d_ahead_lots : He.DefD := ⟨("ahead_lots", none), "ahead_lots", "ahead_lots", defArgs s_ahead_lots, defBody s_ahead_lots, defScope s_ahead_lots, [], []⟩
abbrev s_behind_lots : Stmt := top 44
def d_behind_lots : He.DefD := ⟨("behind_lots", none), "behind_lots", "behind_lots", defArgs s_behind_lots, defBody s_behind_lots, defScope s_behind_lots, [], []⟩
abbrev s_met_lots : Stmt := top 45
def d_met_lots : He.DefD := ⟨("met_lots", none), "met_lots", "met_lots", defArgs s_met_lots, defBody s_met_lots, defScope s_met_lots, [], []⟩
abbrev s_lots : Stmt := top 46
def d_lots : He.DefD := ⟨("lots", none), "lots", "lots", defArgs s_lots, defBody s_lots, defScope s_lots, [], [("liars", .adr fun K => kwAt K "lots")]⟩
abbrev s_is_step : Stmt := top 47
def d_is_step : He.DefD := ⟨("is_step", none), "is_step", "is_step", defArgs s_is_step, defBody s_is_step, defScope s_is_step, [], []⟩
abbrev s_first_of : Stmt := top 48
def d_first_of : He.DefD := ⟨("first_of", none), "first_of", "first_of", defArgs s_first_of, defBody s_first_of, defScope s_first_of, [], []⟩
abbrev s_first_story : Stmt := top 49
def d_first_story : He.DefD := ⟨("first_story", none), "first_story", "first_story", defArgs s_first_story, defBody s_first_story, defScope s_first_story, [], [("liars", .adr fun K => kwAt K "first_story")]⟩
abbrev s_is_story : Stmt := top 50
def d_is_story : He.DefD := ⟨("is_story", none), "is_story", "is_story", defArgs s_is_story, defBody s_is_story, defScope s_is_story, [], []⟩
abbrev s_walks : Stmt := top 51
def d_walks : He.DefD := ⟨("walks", none), "walks", "walks", defArgs s_walks, defBody s_walks, defScope s_walks, [], []⟩
abbrev s_broken_by : Stmt := top 52
def d_broken_by : He.DefD := ⟨("broken_by", none), "broken_by", "broken_by", defArgs s_broken_by, defBody s_broken_by, defScope s_broken_by, [], []⟩
abbrev s_breaks : Stmt := top 53
def d_breaks : He.DefD := ⟨("breaks", none), "breaks", "breaks", defArgs s_breaks, defBody s_breaks, defScope s_breaks, [], []⟩
abbrev s_fits : Stmt := top 54
def d_fits : He.DefD := ⟨("fits", none), "fits", "fits", defArgs s_fits, defBody s_fits, defScope s_fits, [], [("liars", .adr fun K => kwAt K "fits")]⟩
abbrev s_count_stories : Stmt := top 55
def d_count_stories : He.DefD := ⟨("count_stories", none), "count_stories", "count_stories", defArgs s_count_stories, defBody s_count_stories, defScope s_count_stories, [], [("liars", .adr fun K => kwAt K "count_stories")]⟩
abbrev s_folk_lots : Stmt := top 57
def d_folk_lots : He.DefD := ⟨("folk_lots", none), "folk_lots", "folk_lots", defArgs s_folk_lots, defBody s_folk_lots, defScope s_folk_lots, [], []⟩
abbrev s_least_of : Stmt := top 58
def d_least_of : He.DefD := ⟨("least_of", none), "least_of", "least_of", defArgs s_least_of, defBody s_least_of, defScope s_least_of, [], []⟩
abbrev s_least_lots : Stmt := top 59
def d_least_lots : He.DefD := ⟨("least_lots", none), "least_lots", "least_lots", defArgs s_least_lots, defBody s_least_lots, defScope s_least_lots, [], []⟩
abbrev s_honest : Stmt := top 60
def d_honest : He.DefD := ⟨("honest", none), "honest", "honest", defArgs s_honest, defBody s_honest, defScope s_honest, [], []⟩
abbrev s_empty_at : Stmt := top 61
def d_empty_at : He.DefD := ⟨("empty_at", none), "empty_at", "empty_at", defArgs s_empty_at, defBody s_empty_at, defScope s_empty_at, [], [("liars", .adr fun K => kwAt K "empty_at")]⟩
abbrev s_sure : Stmt := top 63
def d_sure : He.DefD := ⟨("sure", none), "sure", "sure", defArgs s_sure, defBody s_sure, defScope s_sure, [], [("liars", .adr fun K => kwAt K "sure")]⟩
abbrev s_story_outside : Stmt := top 65
def d_story_outside : He.DefD := ⟨("story_outside", none), "story_outside", "story_outside", defArgs s_story_outside, defBody s_story_outside, defScope s_story_outside, [], []⟩
abbrev s_fits_at : Stmt := top 66
def d_fits_at : He.DefD := ⟨("fits_at", none), "fits_at", "fits_at", defArgs s_fits_at, defBody s_fits_at, defScope s_fits_at, [], []⟩
abbrev s_needless : Stmt := top 67
def d_needless : He.DefD := ⟨("needless", none), "needless", "needless", defArgs s_needless, defBody s_needless, defScope s_needless, [], [("liars", .adr fun K => kwAt K "needless")]⟩
abbrev s__law_draw : Stmt := top 70
def d__law_draw : He.DefD := ⟨("_law_draw", none), "_law_draw", "_law_draw", defArgs s__law_draw, defBody s__law_draw, defScope s__law_draw, [], []⟩
abbrev s__law_refusal : Stmt := top 71
def d__law_refusal : He.DefD := ⟨("_law_refusal", none), "_law_refusal", "_law_refusal", defArgs s__law_refusal, defBody s__law_refusal, defScope s__law_refusal, [], []⟩
abbrev s__law_does : Stmt := top 72
def d__law_does : He.DefD := ⟨("_law_does", none), "_law_does", "_law_does", defArgs s__law_does, defBody s__law_does, defScope s__law_does, [], []⟩
abbrev s__law_asked : Stmt := top 73
def d__law_asked : He.DefD := ⟨("_law_asked", none), "_law_asked", "_law_asked", defArgs s__law_asked, defBody s__law_asked, defScope s__law_asked, [], []⟩
abbrev s__law_lone : Stmt := top 74
def d__law_lone : He.DefD := ⟨("_law_lone", none), "_law_lone", "_law_lone", defArgs s__law_lone, defBody s__law_lone, defScope s__law_lone, [], []⟩
abbrev s__law_kinds : Stmt := top 75
def d__law_kinds : He.DefD := ⟨("_law_kinds", none), "_law_kinds", "_law_kinds", defArgs s__law_kinds, defBody s__law_kinds, defScope s__law_kinds, [], []⟩
abbrev s__law_claims : Stmt := top 76
def d__law_claims : He.DefD := ⟨("_law_claims", none), "_law_claims", "_law_claims", defArgs s__law_claims, defBody s__law_claims, defScope s__law_claims, [], []⟩
abbrev s__law_town : Stmt := top 69
def d__law_town : He.DefD := ⟨("_law_town", none), "_law_town", "_law_town", defArgs s__law_town, defBody s__law_town, defScope s__law_town, [], []⟩
abbrev s_law : Stmt := top 77
def d_law : He.DefD := ⟨("law", none), "law", "law", defArgs s_law, defBody s_law, defScope s_law, [], []⟩
/-! ### core terms -/
def N_is_whole : List Str := ["thing", "low", "high"]
def c_is_whole : CB := (.cons (.ret (.and (.isi (.var 0) .int) (.and (.not (.isi (.var 0) .bool)) (.chn .LtE .LtE (.var 1) (.var 0) (.var 2))))) .nil)
def N_are_pairs : List Str := ["thing", "first", "second", "k", "one"]
def c_are_pairs : CB := (.cons (.ite (.or (.not (.isi (.var 0) .tuple)) (.not (.bi .all (.cons (.lc1 (.and (.isi (.var 4) .tuple) (.cmp .Eq (.bi .len (.cons (.var 4) .nil)) (.cst (.int 2)))) [4] (.name 4) (.val (.var 0)) .none) .nil)))) (.cons (.ret (.cst (.bool false))) .nil) .nil) (.cons (.ite (.not (.bi .all (.cons (.lc1 (.and (.call 0 (.cons (.ix (.var 4) (.cst (.int 0))) (.cons (.cst (.int 0)) (.cons (.bin .Sub (.var 1) (.cst (.int 1))) .nil)))) (.call 0 (.cons (.ix (.var 4) (.cst (.int 1))) (.cons (.cst (.int 0)) (.cons (.bin .Sub (.var 2) (.cst (.int 1))) .nil))))) [4] (.name 4) (.val (.var 0)) .none) .nil))) (.cons (.ret (.cst (.bool false))) .nil) .nil) (.cons (.ret (.bi .all (.cons (.lc1 (.cmp .Lt (.ix (.var 0) (.var 3)) (.ix (.var 0) (.bin .Add (.var 3) (.cst (.int 1))))) [3] (.name 3) (.rng1 (.bin .Sub (.bi .len (.cons (.var 0) .nil)) (.cst (.int 1)))) .none) .nil))) .nil)))
def N_is_house : List Str := ["thing", "rooms", "doors", "last", "shut", "dark", "one", "other"]
def c_is_house : CB := (.cons (.ite (.or (.not (.isi (.var 0) .tuple)) (.or (.cmp .NotEq (.bi .len (.cons (.var 0) .nil)) (.cst (.int 5))) (.not (.call 0 (.cons (.ix (.var 0) (.cst (.int 0))) (.cons (.cst (.int 1)) (.cons (.glb "MOST_ROOMS" (.int 6)) .nil))))))) (.cons (.ret (.cst (.bool false))) .nil) .nil) (.cons (.asgT [1, 2, 3, 4, 5] (.var 0)) (.cons (.ite (.or (.not (.call 1 (.cons (.var 2) (.cons (.var 1) (.cons (.var 1) .nil))))) (.bi .any (.cons (.lc1 (.cmp .GtE (.var 6) (.var 7)) [6, 7] (.tup [6, 7]) (.val (.var 2)) .none) .nil))) (.cons (.ret (.cst (.bool false))) .nil) .nil) (.cons (.ite (.not (.call 0 (.cons (.var 3) (.cons (.cst (.int 0)) (.cons (.glb "MOST_LAST" (.int 12)) .nil))))) (.cons (.ret (.cst (.bool false))) .nil) .nil) (.cons (.ret (.and (.call 1 (.cons (.var 4) (.cons (.bin .Add (.var 3) (.cst (.int 1))) (.cons (.bi .len (.cons (.var 2) .nil)) .nil)))) (.call 1 (.cons (.var 5) (.cons (.bin .Add (.var 3) (.cst (.int 1))) (.cons (.var 1) .nil)))))) .nil)))))
def N_look_house : List Str := ["house", "many"]
def c_look_house : CB := (.cons (.ite (.or (.not (.call 2 (.cons (.var 0) .nil))) (.not (.call 0 (.cons (.var 1) (.cons (.cst (.int 1)) (.cons (.glb "MOST_FOLK" (.int 4)) .nil)))))) (.cons (.raise 1) .nil) .nil) .nil)
def N_look_folk : List Str := ["many", "thing", "k", "one"]
def c_look_folk : CB := (.cons (.ite (.or (.not (.isi (.var 1) .tuple)) (.not (.bi .all (.cons (.lc1 (.call 0 (.cons (.var 3) (.cons (.cst (.int 0)) (.cons (.bin .Sub (.var 0) (.cst (.int 1))) .nil)))) [3] (.name 3) (.val (.var 1)) .none) .nil)))) (.cons (.raise 2) .nil) .nil) (.cons (.ite (.bi .any (.cons (.lc1 (.cmp .GtE (.ix (.var 1) (.var 2)) (.ix (.var 1) (.bin .Add (.var 2) (.cst (.int 1))))) [2] (.name 2) (.rng1 (.bin .Sub (.bi .len (.cons (.var 1) .nil)) (.cst (.int 1)))) .none) .nil)) (.cons (.raise 2) .nil) .nil) .nil))
def N_look_beat : List Str := ["house", "thing"]
def c_look_beat : CB := (.cons (.ite (.not (.call 0 (.cons (.var 1) (.cons (.cst (.int 0)) (.cons (.ix (.var 0) (.cst (.int 2))) .nil))))) (.cons (.raise 3) .nil) .nil) .nil)
def N_look_room : List Str := ["house", "thing"]
def c_look_room : CB := (.cons (.ite (.not (.call 0 (.cons (.var 1) (.cons (.cst (.int 0)) (.cons (.bin .Sub (.ix (.var 0) (.cst (.int 0))) (.cst (.int 1))) .nil))))) (.cons (.raise 4) .nil) .nil) .nil)
def N_open_doors : List Str := ["house", "beat", "k", "door"]
def c_open_doors : CB := (.cons (.ret (.lc1 (.var 3) [2, 3] (.tup [2, 3]) (.enm (.ix (.var 0) (.cst (.int 1)))) (.some (.cmp .NotIn (.tup (.cons (.var 1) (.cons (.var 2) .nil))) (.ix (.var 0) (.cst (.int 3))))))) .nil)
def N_beside : List Str := ["house", "room", "beat", "found", "one", "other"]
def c_beside : CB := (.cons (.own 3 (.lst .nil)) (.cons (.for_ (.tup [4, 5]) (.val (.call 7 (.cons (.var 0) (.cons (.var 2) .nil)))) (.cons (.ite (.cmp .In (.var 1) (.tup (.cons (.var 4) (.cons (.var 5) .nil)))) (.cons (.app 3 (.bin .Sub (.bin .Add (.var 4) (.var 5)) (.var 1))) .nil) .nil) .nil)) (.cons (.ret (.bi .sorted (.cons (.var 3) .nil))) .nil)))
def N_next_rooms : List Str := ["house", "room", "beat"]
def c_next_rooms : CB := (.cons (.expr (.call 3 (.cons (.var 0) (.cons (.cst (.int 1)) .nil)))) (.cons (.expr (.call 6 (.cons (.var 0) (.cons (.var 1) .nil)))) (.cons (.expr (.call 5 (.cons (.var 0) (.cons (.var 2) .nil)))) (.cons (.ret (.bi .sorted (.cons (.bin .Add (.lst (.cons (.var 1) .nil)) (.call 8 (.cons (.var 0) (.cons (.var 1) (.cons (.var 2) .nil))))) .nil))) .nil))))
def N_stands : List Str := ["house", "many", "found", "turn", "one", "room"]
def c_stands : CB := (.cons (.asg 2 (.lst (.cons (.tup .nil) .nil))) (.cons (.for_ (.name 3) (.rng1 (.var 1)) (.cons (.asg 2 (.lc2 (.bin .Add (.var 4) (.tup (.cons (.var 5) .nil))) [4, 5] [5] (.name 4) (.val (.var 2)) .none (.name 5) (.rng1 (.ix (.var 0) (.cst (.int 0)))) .none)) .nil)) (.cons (.ret (.var 2)) .nil)))
def N_is_stand : List Str := ["house", "many", "thing", "one"]
def c_is_stand : CB := (.cons (.ret (.and (.isi (.var 2) .tuple) (.and (.cmp .Eq (.bi .len (.cons (.var 2) .nil)) (.var 1)) (.bi .all (.cons (.lc1 (.call 0 (.cons (.var 3) (.cons (.cst (.int 0)) (.cons (.bin .Sub (.ix (.var 0) (.cst (.int 0))) (.cst (.int 1))) .nil)))) [3] (.name 3) (.val (.var 2)) .none) .nil))))) .nil)
def N_is_claim : List Str := ["house", "many", "thing", "word", "who", "beat", "what"]
def c_is_claim : CB := (.cons (.ite (.or (.not (.isi (.var 2) .tuple)) (.or (.cmp .NotEq (.bi .len (.cons (.var 2) .nil)) (.cst (.int 4))) (.or (.not (.isi (.ix (.var 2) (.cst (.int 0))) .str)) (.cmp .NotIn (.ix (.var 2) (.cst (.int 0))) (.glb "WORDS" (.tuple [(.str "at"), (.str "not"), (.str "saw"), (.str "missed"), (.str "alone"), (.str "heard")])))))) (.cons (.ret (.cst (.bool false))) .nil) .nil) (.cons (.asgT [3, 4, 5, 6] (.var 2)) (.cons (.ite (.or (.not (.call 0 (.cons (.var 4) (.cons (.cst (.int 0)) (.cons (.bin .Sub (.var 1) (.cst (.int 1))) .nil))))) (.not (.call 0 (.cons (.var 5) (.cons (.cst (.int 0)) (.cons (.ix (.var 0) (.cst (.int 2))) .nil)))))) (.cons (.ret (.cst (.bool false))) .nil) .nil) (.cons (.ite (.cmp .In (.var 3) (.tup (.cons (.cst (.str "at")) (.cons (.cst (.str "not")) .nil)))) (.cons (.ret (.call 0 (.cons (.var 6) (.cons (.cst (.int 0)) (.cons (.bin .Sub (.ix (.var 0) (.cst (.int 0))) (.cst (.int 1))) .nil))))) .nil) .nil) (.cons (.ite (.cmp .In (.var 3) (.tup (.cons (.cst (.str "alone")) (.cons (.cst (.str "heard")) .nil)))) (.cons (.ret (.cmp .Is (.var 6) (.cst .none))) .nil) .nil) (.cons (.ret (.and (.call 0 (.cons (.var 6) (.cons (.cst (.int 0)) (.cons (.bin .Sub (.var 1) (.cst (.int 1))) .nil)))) (.cmp .NotEq (.var 6) (.var 4)))) .nil))))))
def N_holds : List Str := ["house", "stand", "claim", "room", "others", "word", "who", "beat", "what", "one"]
def c_holds : CB := (.cons (.asgT [5, 6, 7, 8] (.var 2)) (.cons (.asg 3 (.ix (.var 1) (.var 6))) (.cons (.ite (.cmp .Eq (.var 5) (.cst (.str "at"))) (.cons (.ret (.cmp .Eq (.var 3) (.var 8))) .nil) .nil) (.cons (.ite (.cmp .Eq (.var 5) (.cst (.str "not"))) (.cons (.ret (.cmp .NotEq (.var 3) (.var 8))) .nil) .nil) (.cons (.ite (.cmp .Eq (.var 5) (.cst (.str "saw"))) (.cons (.ret (.and (.cmp .Eq (.ix (.var 1) (.var 8)) (.var 3)) (.cmp .NotIn (.tup (.cons (.var 7) (.cons (.var 3) .nil))) (.ix (.var 0) (.cst (.int 4)))))) .nil) .nil) (.cons (.ite (.cmp .Eq (.var 5) (.cst (.str "missed"))) (.cons (.ret (.cmp .NotEq (.ix (.var 1) (.var 8)) (.var 3))) .nil) .nil) (.cons (.asg 4 (.lc1 (.ix (.var 1) (.var 9)) [9] (.name 9) (.rng1 (.bi .len (.cons (.var 1) .nil))) (.some (.cmp .NotEq (.var 9) (.var 6))))) (.cons (.ite (.cmp .Eq (.var 5) (.cst (.str "alone"))) (.cons (.ret (.cmp .NotIn (.var 3) (.var 4))) .nil) .nil) (.cons (.ret (.bi .any (.cons (.lc1 (.cmp .In (.var 9) (.var 4)) [9] (.name 9) (.val (.call 8 (.cons (.var 0) (.cons (.var 3) (.cons (.var 7) .nil))))) .none) .nil))) .nil)))))))))
def N_is_so : List Str := ["house", "many", "stand", "claim"]
def c_is_so : CB := (.cons (.expr (.call 3 (.cons (.var 0) (.cons (.var 1) .nil)))) (.cons (.ite (.not (.call 11 (.cons (.var 0) (.cons (.var 1) (.cons (.var 2) .nil))))) (.cons (.raise 4) .nil) .nil) (.cons (.ite (.not (.call 12 (.cons (.var 0) (.cons (.var 1) (.cons (.var 3) .nil))))) (.cons (.raise 5) .nil) .nil) (.cons (.ret (.call 13 (.cons (.var 0) (.cons (.var 2) (.cons (.var 3) .nil))))) .nil))))
def N_is_binding : List Str := ["house", "many", "thing"]
def c_is_binding : CB := (.cons (.ite (.or (.not (.isi (.var 2) .tuple)) (.or (.cmp .NotEq (.bi .len (.cons (.var 2) .nil)) (.cst (.int 2))) (.not (.call 12 (.cons (.var 0) (.cons (.var 1) (.cons (.ix (.var 2) (.cst (.int 1))) .nil))))))) (.cons (.ret (.cst (.bool false))) .nil) .nil) (.cons (.ret (.or (.cmp .Is (.ix (.var 2) (.cst (.int 0))) (.cst .none)) (.call 0 (.cons (.ix (.var 2) (.cst (.int 0))) (.cons (.cst (.int 0)) (.cons (.bin .Sub (.var 1) (.cst (.int 1))) .nil)))))) .nil))
def N_is_book : List Str := ["house", "many", "thing"]
def c_is_book : CB := (.cons (.expr (.call 3 (.cons (.var 0) (.cons (.var 1) .nil)))) (.cons (.ret (.call 17 (.cons (.var 0) (.cons (.var 1) (.cons (.var 2) .nil))))) .nil))
def N_book_fits : List Str := ["house", "many", "thing", "one"]
def c_book_fits : CB := (.cons (.ite (.or (.not (.isi (.var 2) .list)) (.cmp .Gt (.bi .len (.cons (.var 2) .nil)) (.glb "MOST_BINDINGS" (.int 30)))) (.cons (.ret (.cst (.bool false))) .nil) .nil) (.cons (.ret (.bi .all (.cons (.lc1 (.call 15 (.cons (.var 0) (.cons (.var 1) (.cons (.var 3) .nil)))) [3] (.name 3) (.val (.var 2)) .none) .nil))) .nil))
def N_look_book : List Str := ["house", "many", "book"]
def c_look_book : CB := (.cons (.expr (.call 3 (.cons (.var 0) (.cons (.var 1) .nil)))) (.cons (.ite (.not (.call 17 (.cons (.var 0) (.cons (.var 1) (.cons (.var 2) .nil))))) (.cons (.raise 5) .nil) .nil) .nil))
def N_look_case : List Str := ["house", "many", "book", "liars"]
def c_look_case : CB := (.cons (.expr (.call 18 (.cons (.var 0) (.cons (.var 1) (.cons (.var 2) .nil))))) (.cons (.expr (.call 4 (.cons (.var 1) (.cons (.var 3) .nil)))) .nil))
def N_claims_of : List Str := ["book", "liars", "teller", "claim"]
def c_claims_of : CB := (.cons (.ret (.lc1 (.var 3) [2, 3] (.tup [2, 3]) (.val (.var 0)) (.some (.cmp .NotIn (.var 2) (.var 1))))) .nil)
def N_binding : List Str := ["house", "many", "book", "liars", "k"]
def c_binding : CB := (.cons (.expr (.call 19 (.cons (.var 0) (.cons (.var 1) (.cons (.var 2) (.cons (.var 3) .nil)))))) (.cons (.ret (.lc1 (.var 4) [4] (.name 4) (.rng1 (.bi .len (.cons (.var 2) .nil))) (.some (.cmp .NotIn (.ix (.ix (.var 2) (.var 4)) (.cst (.int 0))) (.var 3))))) .nil))
def N_tellers : List Str := ["house", "many", "book", "teller", "claim"]
def c_tellers : CB := (.cons (.expr (.call 18 (.cons (.var 0) (.cons (.var 1) (.cons (.var 2) .nil))))) (.cons .hole .nil))
def N_let_at : List Str := ["house", "many", "claims", "beat", "own", "claim", "one"]
def c_let_at : CB := (.cons (.asg 4 (.lc1 (.var 5) [5] (.name 5) (.val (.var 2)) (.some (.cmp .Eq (.ix (.var 5) (.cst (.int 2))) (.var 3))))) (.cons (.ret (.lc1 (.var 6) [6] (.name 6) (.val (.call 10 (.cons (.var 0) (.cons (.var 1) .nil)))) (.some (.bi .all (.cons (.lc1 (.call 13 (.cons (.var 0) (.cons (.var 6) (.cons (.var 5) .nil)))) [5] (.name 5) (.val (.var 4)) .none) .nil))))) .nil))
def N_led : List Str := ["house", "lot", "beat", "found", "rooms", "who", "room", "one"]
def c_led : CB := (.cons (.asg 3 (.var 1)) (.cons (.asg 4 (.lc1 (.bin .Add (.lst (.cons (.var 6) .nil)) (.call 8 (.cons (.var 0) (.cons (.var 6) (.cons (.var 2) .nil))))) [6] (.name 6) (.rng1 (.ix (.var 0) (.cst (.int 0)))) .none)) (.cons .hole (.cons (.ret (.var 3)) .nil))))
def N_ahead_lots : List Str := ["house", "many", "claims", "found", "lot", "beat", "let", "one"]
def c_ahead_lots : CB := (.cons (.own 3 (.lst .nil)) (.cons .hole (.cons (.for_ (.name 5) (.rng1 (.bin .Add (.ix (.var 0) (.cst (.int 2))) (.cst (.int 1)))) (.cons (.asg 6 (.call 23 (.cons (.var 0) (.cons (.var 1) (.cons (.var 2) (.cons (.var 5) .nil)))))) (.cons .hole (.cons (.asg 4 (.call 24 (.cons (.var 0) (.cons (.ix (.var 3) (.neg (.cst (.int 1)))) (.cons (.var 5) .nil))))) .nil)))) (.shr 3 (.cons (.ret (.var 3)) .nil)))))
def N_behind_lots : List Str := ["house", "many", "claims", "found", "lot", "beat", "let", "one"]
def c_behind_lots : CB := (.cons (.own 3 (.lst .nil)) (.cons .hole (.cons (.for_ (.name 5) (.rng3 (.ix (.var 0) (.cst (.int 2))) (.neg (.cst (.int 1))) (.neg (.cst (.int 1)))) (.cons (.asg 6 (.call 23 (.cons (.var 0) (.cons (.var 1) (.cons (.var 2) (.cons (.var 5) .nil)))))) (.cons .hole (.cons (.asg 4 (.call 24 (.cons (.var 0) (.cons (.ix (.var 3) (.neg (.cst (.int 1)))) (.cons (.bin .Sub (.var 5) (.cst (.int 1))) .nil))))) .nil)))) (.cons .hole .nil))))
def N_met_lots : List Str := ["house", "many", "claims", "ahead", "behind", "k", "one"]
def c_met_lots : CB := (.cons (.asg 3 (.call 25 (.cons (.var 0) (.cons (.var 1) (.cons (.var 2) .nil))))) (.cons (.asg 4 (.call 26 (.cons (.var 0) (.cons (.var 1) (.cons (.var 2) .nil))))) (.cons (.ret (.lc1 (.bi .sorted (.cons (.lc1 (.var 6) [6] (.name 6) (.val (.ix (.var 3) (.var 5))) (.some (.cmp .In (.var 6) (.ix (.var 4) (.var 5))))) .nil)) [5] (.name 5) (.rng1 (.bi .len (.cons (.var 3) .nil))) .none)) .nil)))
def N_lots : List Str := ["house", "many", "book", "liars"]
def c_lots : CB := (.cons (.expr (.call 19 (.cons (.var 0) (.cons (.var 1) (.cons (.var 2) (.cons (.var 3) .nil)))))) (.cons (.ret (.call 27 (.cons (.var 0) (.cons (.var 1) (.cons (.call 20 (.cons (.var 2) (.cons (.var 3) .nil))) .nil))))) .nil))
def N_is_step : List Str := ["house", "one", "other", "beat", "pairs", "here", "there"]
def c_is_step : CB := (.cons .hole (.cons (.ret (.bi .all (.cons (.lc1 (.or (.cmp .Eq (.var 5) (.var 6)) (.cmp .In (.var 6) (.call 8 (.cons (.var 0) (.cons (.var 5) (.cons (.var 3) .nil)))))) [5, 6] (.tup [5, 6]) (.val (.var 4)) .none) .nil))) .nil))
def N_first_of : List Str := ["house", "many", "claims", "lot", "found", "beat", "one"]
def c_first_of : CB := (.cons (.asg 3 (.call 27 (.cons (.var 0) (.cons (.var 1) (.cons (.var 2) .nil))))) (.cons (.ite (.cmp .Eq (.ix (.var 3) (.cst (.int 0))) (.lst .nil)) (.cons (.ret (.cst .none)) .nil) .nil) (.cons (.own 4 (.lst (.cons (.ix (.ix (.var 3) (.cst (.int 0))) (.cst (.int 0))) .nil))) (.cons (.for_ (.name 5) (.rng2 (.cst (.int 1)) (.bi .len (.cons (.var 3) .nil))) (.cons (.app 4 (.ix (.lc1 (.var 6) [6] (.name 6) (.val (.ix (.var 3) (.var 5))) (.some (.call 29 (.cons (.var 0) (.cons (.ix (.var 4) (.neg (.cst (.int 1)))) (.cons (.var 6) (.cons (.bin .Sub (.var 5) (.cst (.int 1))) .nil))))))) (.cst (.int 0)))) .nil)) (.shr 4 (.cons (.ret (.var 4)) .nil))))))
def N_first_story : List Str := ["house", "many", "book", "liars", "found"]
def c_first_story : CB := (.cons (.expr (.call 19 (.cons (.var 0) (.cons (.var 1) (.cons (.var 2) (.cons (.var 3) .nil)))))) (.cons (.asg 4 (.call 30 (.cons (.var 0) (.cons (.var 1) (.cons (.call 20 (.cons (.var 2) (.cons (.var 3) .nil))) .nil))))) (.cons (.ite (.cmp .Is (.var 4) (.cst .none)) (.cons (.raise 8) .nil) .nil) (.cons (.ret (.var 4)) .nil))))
def N_is_story : List Str := ["house", "many", "thing"]
def c_is_story : CB := (.cons (.expr (.call 3 (.cons (.var 0) (.cons (.var 1) .nil)))) (.cons (.ret (.call 33 (.cons (.var 0) (.cons (.var 1) (.cons (.var 2) .nil))))) .nil))
def N_walks : List Str := ["house", "many", "thing", "k", "one"]
def c_walks : CB := (.cons (.ite (.or (.not (.isi (.var 2) .list)) (.cmp .NotEq (.bi .len (.cons (.var 2) .nil)) (.bin .Add (.ix (.var 0) (.cst (.int 2))) (.cst (.int 1))))) (.cons (.ret (.cst (.bool false))) .nil) .nil) (.cons (.ite (.not (.bi .all (.cons (.lc1 (.call 11 (.cons (.var 0) (.cons (.var 1) (.cons (.var 4) .nil)))) [4] (.name 4) (.val (.var 2)) .none) .nil))) (.cons (.ret (.cst (.bool false))) .nil) .nil) (.cons (.ret (.bi .all (.cons (.lc1 (.call 29 (.cons (.var 0) (.cons (.ix (.var 2) (.var 3)) (.cons (.ix (.var 2) (.bin .Add (.var 3) (.cst (.int 1)))) (.cons (.var 3) .nil))))) [3] (.name 3) (.rng1 (.bin .Sub (.bi .len (.cons (.var 2) .nil)) (.cst (.int 1)))) .none) .nil))) .nil)))
def N_broken_by : List Str := ["house", "story", "book", "k"]
def c_broken_by : CB := (.cons (.ret (.lc1 (.var 3) [3] (.name 3) (.rng1 (.bi .len (.cons (.var 2) .nil))) (.some (.not (.call 13 (.cons (.var 0) (.cons (.ix (.var 1) (.ix (.ix (.ix (.var 2) (.var 3)) (.cst (.int 1))) (.cst (.int 2)))) (.cons (.ix (.ix (.var 2) (.var 3)) (.cst (.int 1))) .nil)))))))) .nil)
def N_breaks : List Str := ["house", "many", "book", "story"]
def c_breaks : CB := (.cons (.expr (.call 19 (.cons (.var 0) (.cons (.var 1) (.cons (.var 2) (.cons (.tup .nil) .nil)))))) (.cons (.ite (.not (.call 33 (.cons (.var 0) (.cons (.var 1) (.cons (.var 3) .nil))))) (.cons (.raise 8) .nil) .nil) (.cons (.ret (.call 34 (.cons (.var 0) (.cons (.var 3) (.cons (.var 2) .nil))))) .nil)))
def N_fits : List Str := ["house", "many", "book", "story", "liars", "claim"]
def c_fits : CB := (.cons (.expr (.call 19 (.cons (.var 0) (.cons (.var 1) (.cons (.var 2) (.cons (.var 4) .nil)))))) (.cons (.ite (.not (.call 33 (.cons (.var 0) (.cons (.var 1) (.cons (.var 3) .nil))))) (.cons (.ret (.cst (.bool false))) .nil) .nil) (.cons (.ret (.bi .all (.cons (.lc1 (.call 13 (.cons (.var 0) (.cons (.ix (.var 3) (.ix (.var 5) (.cst (.int 2)))) (.cons (.var 5) .nil)))) [5] (.name 5) (.val (.call 20 (.cons (.var 2) (.cons (.var 4) .nil)))) .none) .nil))) .nil)))
def N_count_stories : List Str := ["house", "many", "book", "liars", "lot", "table", "beat", "fresh", "one", "here"]
def c_count_stories : CB := (.cons (.expr (.call 19 (.cons (.var 0) (.cons (.var 1) (.cons (.var 2) (.cons (.var 3) .nil)))))) (.cons (.asg 4 (.call 27 (.cons (.var 0) (.cons (.var 1) (.cons (.call 20 (.cons (.var 2) (.cons (.var 3) .nil))) .nil))))) (.cons .hole (.cons (.for_ (.name 6) (.rng2 (.cst (.int 1)) (.bi .len (.cons (.var 4) .nil))) (.cons .hole (.cons (.for_ (.name 8) (.val (.ix (.var 4) (.var 6))) (.cons (.setI 7 (.var 8) (.bi .sum (.cons (.lc1 (.ix (.var 5) (.var 9)) [9] (.name 9) (.val (.var 5)) (.some (.call 29 (.cons (.var 0) (.cons (.var 9) (.cons (.var 8) (.cons (.bin .Sub (.var 6) (.cst (.int 1))) .nil))))))) .nil))) .nil)) (.shr 7 (.cons (.asg 5 (.var 7)) .nil))))) (.cons (.ret (.bi .sum (.cons (.lc1 (.ix (.var 5) (.var 8)) [8] (.name 8) (.val (.var 5)) .none) .nil))) .nil)))))
def N_folk_lots : List Str := ["many", "found", "one", "row"]
def c_folk_lots : CB := (.cons (.asg 1 (.lst (.cons (.tup .nil) .nil))) (.cons (.for_ (.name 2) (.rng1 (.var 0)) (.cons (.asg 1 (.bin .Add (.var 1) (.lc1 (.bin .Add (.var 3) (.tup (.cons (.var 2) .nil))) [3] (.name 3) (.val (.var 1)) .none))) .nil)) (.cons .hole .nil)))
def N_least_of : List Str := ["house", "many", "book", "found", "liars", "other", "one"]
def c_least_of : CB := (.cons (.own 3 (.lst .nil)) (.cons (.for_ (.name 4) (.val (.call 38 (.cons (.var 1) .nil))) (.shr 3 (.cons (.ite (.not (.bi .any (.cons (.lc1 (.bi .all (.cons (.lc1 (.cmp .In (.var 6) (.var 4)) [6] (.name 6) (.val (.var 5)) .none) .nil)) [5] (.name 5) (.val (.var 3)) .none) .nil))) (.cons .hole .nil) .nil) .nil))) (.shr 3 (.cons (.ret (.var 3)) .nil))))
def N_least_lots : List Str := ["house", "many", "book"]
def c_least_lots : CB := (.cons (.expr (.call 18 (.cons (.var 0) (.cons (.var 1) (.cons (.var 2) .nil))))) (.cons (.ret (.call 39 (.cons (.var 0) (.cons (.var 1) (.cons (.var 2) .nil))))) .nil))
def N_honest : List Str := ["house", "many", "book", "rows", "one", "row"]
def c_honest : CB := (.cons (.expr (.call 18 (.cons (.var 0) (.cons (.var 1) (.cons (.var 2) .nil))))) (.cons (.asg 3 (.call 39 (.cons (.var 0) (.cons (.var 1) (.cons (.var 2) .nil))))) (.cons (.ite (.cmp .Eq (.var 3) (.lst .nil)) (.cons (.raise 8) .nil) .nil) (.cons (.ret (.lc1 (.var 4) [4] (.name 4) (.rng1 (.var 1)) (.some (.not (.bi .any (.cons (.lc1 (.cmp .In (.var 4) (.var 5)) [5] (.name 5) (.val (.var 3)) .none) .nil)))))) .nil))))
def N_empty_at : List Str := ["house", "many", "book", "liars", "beat", "lot"]
def c_empty_at : CB := (.cons (.expr (.call 19 (.cons (.var 0) (.cons (.var 1) (.cons (.var 2) (.cons (.var 3) .nil)))))) (.cons (.for_ (.tup [4, 5]) (.enm (.call 25 (.cons (.var 0) (.cons (.var 1) (.cons (.call 20 (.cons (.var 2) (.cons (.var 3) .nil))) .nil))))) (.cons .hole .nil)) (.cons (.ret (.cst .none)) .nil)))
def N_sure : List Str := ["house", "many", "book", "liars", "rows", "found", "who", "own", "lot", "one"]
def c_sure : CB := (.cons (.expr (.call 19 (.cons (.var 0) (.cons (.var 1) (.cons (.var 2) (.cons (.var 3) .nil)))))) (.cons (.asg 4 (.call 27 (.cons (.var 0) (.cons (.var 1) (.cons (.call 20 (.cons (.var 2) (.cons (.var 3) .nil))) .nil))))) (.cons (.ite (.cmp .Eq (.ix (.var 4) (.cst (.int 0))) (.lst .nil)) (.cons (.raise 8) .nil) .nil) (.cons (.own 5 (.lst .nil)) (.cons (.for_ (.name 6) (.rng1 (.var 1)) (.cons .hole (.cons .hole .nil))) (.shr 5 (.cons (.ret (.var 5)) .nil)))))))
def N_story_outside : List Str := ["house", "other", "fine", "rows", "ways", "beat", "good", "fresh", "row", "stand", "there", "key", "story"]
def c_story_outside : CB := (.cons (.asg 3 (.lc1 (.tup (.cons (.var 9) (.cons (.call 45 (.cons (.var 0) (.cons (.var 9) (.cons (.var 1) (.cons (.cst (.int 0)) .nil))))) .nil))) [9] (.name 9) (.val (.ix (.var 2) (.cst (.int 0)))) .none)) (.cons .hole (.cons (.for_ (.name 5) (.rng2 (.cst (.int 1)) (.bin .Add (.ix (.var 0) (.cst (.int 2))) (.cst (.int 1)))) (.cons .hole (.cons (.for_ (.name 8) (.val (.var 4)) (.cons (.for_ (.name 10) (.val (.ix (.var 2) (.var 5))) (.cons (.ite (.call 29 (.cons (.var 0) (.cons (.ix (.var 8) (.cst (.int 0))) (.cons (.var 10) (.cons (.bin .Sub (.var 5) (.cst (.int 1))) .nil))))) (.cons (.asg 11 (.tup (.cons (.var 10) (.cons (.and (.ix (.var 8) (.cst (.int 1))) (.call 45 (.cons (.var 0) (.cons (.var 10) (.cons (.var 1) (.cons (.var 5) .nil)))))) .nil)))) (.cons (.asg 12 (.bin .Add (.ix (.var 4) (.var 8)) (.lst (.cons (.var 10) .nil)))) (.cons (.ite (.or (.cmp .NotIn (.var 11) (.var 7)) (.cmp .Lt (.var 12) (.ix (.var 7) (.var 11)))) (.cons (.setI 7 (.var 11) (.var 12)) .nil) .nil) .nil))) .nil) .nil)) .nil)) (.shr 7 (.cons (.asg 4 (.var 7)) .nil))))) (.cons (.asg 6 (.lc1 (.ix (.var 4) (.var 8)) [8] (.name 8) (.val (.var 4)) (.some (.not (.ix (.var 8) (.cst (.int 1))))))) (.cons .hole .nil)))))
def N_fits_at : List Str := ["house", "stand", "claims", "beat", "claim"]
def c_fits_at : CB := (.cons (.ret (.bi .all (.cons (.lc1 (.call 13 (.cons (.var 0) (.cons (.var 1) (.cons (.var 4) .nil)))) [4] (.name 4) (.val (.var 2)) (.some (.cmp .Eq (.ix (.var 4) (.cst (.int 2))) (.var 3)))) .nil))) .nil)
def N_needless : List Str := ["house", "many", "book", "liars", "found", "k", "rest", "whole"]
def c_needless : CB := (.cons (.expr (.call 19 (.cons (.var 0) (.cons (.var 1) (.cons (.var 2) (.cons (.var 3) .nil)))))) (.cons (.own 4 (.lst .nil)) (.cons (.for_ (.name 5) (.rng1 (.bi .len (.cons (.var 2) .nil))) (.cons (.asg 6 (.call 20 (.cons (.bin .Add (.sl (.var 2) .none (.some (.var 5))) (.sl (.var 2) (.some (.bin .Add (.var 5) (.cst (.int 1)))) .none)) (.cons (.var 3) .nil)))) (.cons (.asg 7 (.call 20 (.cons (.var 2) (.cons (.var 3) .nil)))) (.cons (.ite (.cmp .Is (.call 44 (.cons (.var 0) (.cons (.var 7) (.cons (.call 27 (.cons (.var 0) (.cons (.var 1) (.cons (.var 6) .nil)))) .nil)))) (.cst .none)) (.cons (.app 4 (.var 5)) .nil) .nil) .nil)))) (.shr 4 (.cons (.ret (.var 4)) .nil)))))
def N__law_refusal : List Str := ["caught", "sorts"]
def c__law_refusal : CB := (.cons (.asg 1 (.lst (.cons (.isi (.var 0) (.exc 1)) (.cons (.isi (.var 0) (.exc 2)) (.cons (.isi (.var 0) (.exc 3)) .nil))))) (.cons (.asg 1 (.bin .Add (.var 1) (.lst (.cons (.isi (.var 0) (.exc 4)) (.cons (.isi (.var 0) (.exc 5)) (.cons (.isi (.var 0) (.exc 6)) .nil)))))) (.cons (.asg 1 (.bin .Add (.var 1) (.lst (.cons (.isi (.var 0) (.exc 7)) (.cons (.isi (.var 0) (.exc 8)) .nil))))) (.cons (.ite (.or (.cmp .NotEq (.mth .lcount (.var 1) (.cst (.bool true))) (.cst (.int 1))) (.or (.not (.isi (.var 0) (.exc 0))) (.not (.isi (.var 0) .ve)))) (.cons (.ret (.cst (.str "odd"))) .nil) .nil) (.cons (.ret (.ix (.lst (.cons (.cst (.str "house")) (.cons (.cst (.str "folk")) (.cons (.cst (.str "beat")) (.cons (.cst (.str "room")) (.cons (.cst (.str "book")) (.cons (.cst (.str "paper")) (.cons (.cst (.str "text")) (.cons (.cst (.str "none")) .nil))))))))) (.mth .lindex (.var 1) (.cst (.bool true))))) .nil)))))
def N__law_does : List Str := ["sort_of", "house_here", "count", "book_here", "some"]
def c__law_does : CB := (.cons (.ite (.cmp .Eq (.var 0) (.cst (.int 0))) (.cons (.ret (.callK 21 (.cons (.var 1) (.cons (.var 2) (.cons (.var 3) .nil))) (.var 4))) .nil) .nil) (.cons (.ite (.cmp .Eq (.var 0) (.cst (.int 1))) (.cons (.ret (.callK 28 (.cons (.var 1) (.cons (.var 2) (.cons (.var 3) .nil))) (.var 4))) .nil) .nil) (.cons (.ite (.cmp .Eq (.var 0) (.cst (.int 2))) (.cons (.ret (.callK 31 (.cons (.var 1) (.cons (.var 2) (.cons (.var 3) .nil))) (.var 4))) .nil) .nil) (.cons (.ite (.cmp .Eq (.var 0) (.cst (.int 3))) (.cons (.ret (.callK 36 (.cons (.var 1) (.cons (.var 2) (.cons (.var 3) (.cons (.cst .none) .nil)))) (.var 4))) .nil) .nil) (.cons (.ite (.cmp .Eq (.var 0) (.cst (.int 4))) (.cons (.ret (.callK 37 (.cons (.var 1) (.cons (.var 2) (.cons (.var 3) .nil))) (.var 4))) .nil) .nil) (.cons (.ite (.cmp .Eq (.var 0) (.cst (.int 5))) (.cons (.ret (.callK 42 (.cons (.var 1) (.cons (.var 2) (.cons (.var 3) .nil))) (.var 4))) .nil) .nil) (.cons (.ite (.cmp .Eq (.var 0) (.cst (.int 6))) (.cons (.ret (.callK 43 (.cons (.var 1) (.cons (.var 2) (.cons (.var 3) .nil))) (.var 4))) .nil) .nil) (.cons (.ret (.callK 46 (.cons (.var 1) (.cons (.var 2) (.cons (.var 3) .nil))) (.var 4))) .nil))))))))
def N__law_asked : List Str := ["sort_of", "house_here", "count", "book_here", "some", "caught", "e"]
def c__law_asked : CB := (.cons (.asg 5 (.cst .none)) (.cons (.try_ (.cons (.expr (.call 49 (.cons (.var 0) (.cons (.var 1) (.cons (.var 2) (.cons (.var 3) (.cons (.var 4) .nil))))))) .nil) 6 5) (.cons (.ret (.ite (.cmp .Is (.var 5) (.cst .none)) (.cst (.str "told")) (.call 48 (.cons (.var 5) .nil)))) .nil)))
def N__law_lone : List Str := ["sort_of", "house_here", "one", "two", "three", "caught", "e"]
def c__law_lone : CB := (.cons (.asg 5 (.cst .none)) (.cons (.try_ (.cons (.ite (.cmp .Eq (.var 0) (.cst (.int 0))) (.cons (.expr (.call 9 (.cons (.var 1) (.cons (.var 2) (.cons (.var 3) .nil))))) .nil) (.cons (.ite (.cmp .Eq (.var 0) (.cst (.int 1))) (.cons (.expr (.call 14 (.cons (.var 1) (.cons (.var 2) (.cons (.var 3) (.cons (.var 4) .nil)))))) .nil) (.cons (.ite (.cmp .Eq (.var 0) (.cst (.int 2))) (.cons (.expr (.call 16 (.cons (.var 1) (.cons (.var 2) (.cons (.var 3) .nil))))) .nil) (.cons (.ite (.cmp .Eq (.var 0) (.cst (.int 3))) (.cons (.expr (.call 22 (.cons (.var 1) (.cons (.var 2) (.cons (.var 3) .nil))))) .nil) (.cons (.ite (.cmp .Eq (.var 0) (.cst (.int 4))) (.cons (.expr (.call 40 (.cons (.var 1) (.cons (.var 2) (.cons (.var 3) .nil))))) .nil) (.cons (.ite (.cmp .Eq (.var 0) (.cst (.int 5))) (.cons (.expr (.call 35 (.cons (.var 1) (.cons (.var 2) (.cons (.var 3) (.cons (.var 4) .nil)))))) .nil) (.cons (.ite (.cmp .Eq (.var 0) (.cst (.int 6))) (.cons (.expr (.call 41 (.cons (.var 1) (.cons (.var 2) (.cons (.var 3) .nil))))) .nil) (.cons (.expr (.call 32 (.cons (.var 1) (.cons (.var 2) (.cons (.var 3) .nil))))) .nil)) .nil)) .nil)) .nil)) .nil)) .nil)) .nil)) .nil) 6 5) (.cons (.ret (.ite (.cmp .Is (.var 5) (.cst .none)) (.cst (.str "told")) (.call 48 (.cons (.var 5) .nil)))) .nil)))
def N__law_kinds : List Str := ["good", "bad", "one"]
def c__law_kinds : CB := (.cons (.asg 0 (.lst (.cons (.tup (.cons (.cst (.int 1)) (.cons (.tup .nil) (.cons (.cst (.int 0)) (.cons (.tup .nil) (.cons (.tup .nil) .nil)))))) (.cons (.tup (.cons (.cst (.int 6)) (.cons (.tup (.cons (.tup (.cons (.cst (.int 0)) (.cons (.cst (.int 1)) .nil))) (.cons (.tup (.cons (.cst (.int 0)) (.cons (.cst (.int 5)) .nil))) (.cons (.tup (.cons (.cst (.int 4)) (.cons (.cst (.int 5)) .nil))) .nil)))) (.cons (.cst (.int 12)) (.cons (.tup (.cons (.tup (.cons (.cst (.int 0)) (.cons (.cst (.int 0)) .nil))) (.cons (.tup (.cons (.cst (.int 12)) (.cons (.cst (.int 2)) .nil))) .nil))) (.cons (.tup (.cons (.tup (.cons (.cst (.int 0)) (.cons (.cst (.int 5)) .nil))) (.cons (.tup (.cons (.cst (.int 12)) (.cons (.cst (.int 0)) .nil))) .nil))) .nil)))))) .nil)))) (.cons (.asg 1 (.lst (.cons (.cst .none) (.cons (.cst (.int 5)) (.cons (.tup (.cons (.cst (.int 0)) (.cons (.tup .nil) (.cons (.cst (.int 0)) (.cons (.tup .nil) (.cons (.tup .nil) .nil)))))) (.cons (.tup (.cons (.cst (.int 7)) (.cons (.tup .nil) (.cons (.cst (.int 0)) (.cons (.tup .nil) (.cons (.tup .nil) .nil)))))) (.cons (.tup (.cons (.cst (.int 2)) (.cons (.tup .nil) (.cons (.cst (.int 13)) (.cons (.tup .nil) (.cons (.tup .nil) .nil)))))) (.cons (.tup (.cons (.cst (.int 2)) (.cons (.tup .nil) (.cons (.bin .Sub (.cst (.int 0)) (.cst (.int 1))) (.cons (.tup .nil) (.cons (.tup .nil) .nil)))))) (.cons (.lst (.cons (.cst (.int 2)) (.cons (.tup .nil) (.cons (.cst (.int 0)) (.cons (.tup .nil) (.cons (.tup .nil) .nil)))))) .nil))))))))) (.cons (.asg 1 (.bin .Add (.var 1) (.lst (.cons (.tup (.cons (.cst (.int 2)) (.cons (.tup (.cons (.tup (.cons (.cst (.int 1)) (.cons (.cst (.int 0)) .nil))) .nil)) (.cons (.cst (.int 0)) (.cons (.tup .nil) (.cons (.tup .nil) .nil)))))) (.cons (.tup (.cons (.cst (.int 2)) (.cons (.tup (.cons (.tup (.cons (.cst (.int 0)) (.cons (.cst (.int 0)) .nil))) .nil)) (.cons (.cst (.int 0)) (.cons (.tup .nil) (.cons (.tup .nil) .nil)))))) (.cons (.tup (.cons (.cst (.int 2)) (.cons (.tup (.cons (.tup (.cons (.cst (.int 0)) (.cons (.cst (.int 2)) .nil))) .nil)) (.cons (.cst (.int 0)) (.cons (.tup .nil) (.cons (.tup .nil) .nil)))))) (.cons (.tup (.cons (.cst (.int 2)) (.cons (.tup (.cons (.tup (.cons (.cst (.int 0)) (.cons (.cst (.int 1)) .nil))) (.cons (.tup (.cons (.cst (.int 0)) (.cons (.cst (.int 1)) .nil))) .nil))) (.cons (.cst (.int 0)) (.cons (.tup .nil) (.cons (.tup .nil) .nil)))))) (.cons (.tup (.cons (.cst (.int 2)) (.cons (.lst .nil) (.cons (.cst (.int 0)) (.cons (.tup .nil) (.cons (.tup .nil) .nil)))))) .nil)))))))) (.cons (.asg 1 (.bin .Add (.var 1) (.lst (.cons (.tup (.cons (.cst (.int 2)) (.cons (.tup (.cons (.tup (.cons (.cst (.int 0)) (.cons (.cst (.int 1)) .nil))) .nil)) (.cons (.cst (.int 1)) (.cons (.tup (.cons (.tup (.cons (.cst (.int 2)) (.cons (.cst (.int 0)) .nil))) .nil)) (.cons (.tup .nil) .nil)))))) (.cons (.tup (.cons (.cst (.int 2)) (.cons (.tup (.cons (.tup (.cons (.cst (.int 0)) (.cons (.cst (.int 1)) .nil))) .nil)) (.cons (.cst (.int 1)) (.cons (.tup (.cons (.tup (.cons (.cst (.int 0)) (.cons (.cst (.int 1)) .nil))) .nil)) (.cons (.tup .nil) .nil)))))) (.cons (.tup (.cons (.cst (.int 2)) (.cons (.tup .nil) (.cons (.cst (.int 1)) (.cons (.tup .nil) (.cons (.tup (.cons (.tup (.cons (.cst (.int 0)) (.cons (.cst (.int 2)) .nil))) .nil)) .nil)))))) (.cons (.tup (.cons (.cst (.int 2)) (.cons (.tup .nil) (.cons (.cst (.int 1)) (.cons (.tup .nil) (.cons (.tup (.cons (.tup (.cons (.cst (.int 0)) (.cons (.cst (.int 0)) .nil))) (.cons (.tup (.cons (.cst (.int 0)) (.cons (.cst (.int 0)) .nil))) .nil))) .nil)))))) .nil))))))) (.cons (.asg 1 (.bin .Add (.var 1) (.lst (.cons (.tup (.cons (.cst (.int 2)) (.cons (.tup .nil) (.cons (.cst (.int 1)) (.cons (.tup .nil) (.cons (.tup (.cons (.tup (.cons (.cst (.int 0)) .nil)) .nil)) .nil)))))) (.cons (.tup (.cons (.cst (.int 2)) (.cons (.tup .nil) (.cons (.cst (.bool true)) (.cons (.tup .nil) (.cons (.tup .nil) .nil)))))) (.cons (.tup (.cons (.cst (.int 2)) (.cons (.tup (.cons (.tup (.cons (.cst (.int 0)) (.cons (.cst (.bool true)) .nil))) .nil)) (.cons (.cst (.int 1)) (.cons (.tup .nil) (.cons (.tup .nil) .nil)))))) (.cons (.tup (.cons (.cst (.int 2)) (.cons (.tup .nil) (.cons (.cst (.int 1)) (.cons (.tup .nil) .nil))))) .nil))))))) (.cons (.ret (.and (.cmp .Eq (.lc1 (.call 2 (.cons (.var 2) .nil)) [2] (.name 2) (.val (.var 0)) .none) (.bin .Mult (.lst (.cons (.cst (.bool true)) .nil)) (.cst (.int 2)))) (.cmp .Eq (.lc1 (.call 2 (.cons (.var 2) .nil)) [2] (.name 2) (.val (.var 1)) .none) (.bin .Mult (.lst (.cons (.cst (.bool false)) .nil)) (.cst (.int 20)))))) .nil))))))
def N__law_claims : List Str := ["hall", "good", "bad", "one"]
def c__law_claims : CB := (.cons (.asg 1 (.lst (.cons (.tup (.cons (.cst .none) (.cons (.tup (.cons (.cst (.str "at")) (.cons (.cst (.int 0)) (.cons (.cst (.int 0)) (.cons (.cst (.int 1)) .nil))))) .nil))) (.cons (.tup (.cons (.cst (.int 1)) (.cons (.tup (.cons (.cst (.str "not")) (.cons (.cst (.int 1)) (.cons (.cst (.int 2)) (.cons (.cst (.int 0)) .nil))))) .nil))) (.cons (.tup (.cons (.cst (.int 0)) (.cons (.tup (.cons (.cst (.str "saw")) (.cons (.cst (.int 0)) (.cons (.cst (.int 0)) (.cons (.cst (.int 1)) .nil))))) .nil))) (.cons (.tup (.cons (.cst (.int 0)) (.cons (.tup (.cons (.cst (.str "missed")) (.cons (.cst (.int 1)) (.cons (.cst (.int 0)) (.cons (.cst (.int 0)) .nil))))) .nil))) (.cons (.tup (.cons (.cst (.int 1)) (.cons (.tup (.cons (.cst (.str "alone")) (.cons (.cst (.int 0)) (.cons (.cst (.int 0)) (.cons (.cst .none) .nil))))) .nil))) (.cons (.tup (.cons (.cst (.int 1)) (.cons (.tup (.cons (.cst (.str "heard")) (.cons (.cst (.int 0)) (.cons (.cst (.int 0)) (.cons (.cst .none) .nil))))) .nil))) .nil)))))))) (.cons (.asg 2 (.lst (.cons (.cst .none) (.cons (.cst (.int 5)) (.cons (.tup (.cons (.cst (.int 0)) .nil)) (.cons (.lst (.cons (.cst (.int 0)) (.cons (.tup (.cons (.cst (.str "at")) (.cons (.cst (.int 0)) (.cons (.cst (.int 0)) (.cons (.cst (.int 1)) .nil))))) .nil))) (.cons (.tup (.cons (.cst (.int 2)) (.cons (.tup (.cons (.cst (.str "at")) (.cons (.cst (.int 0)) (.cons (.cst (.int 0)) (.cons (.cst (.int 1)) .nil))))) .nil))) (.cons (.tup (.cons (.cst (.int 0)) (.cons (.tup (.cons (.cst (.str "at")) (.cons (.cst (.int 0)) (.cons (.cst (.int 0)) (.cons (.cst (.int 2)) .nil))))) .nil))) (.cons (.tup (.cons (.cst (.int 0)) (.cons (.tup (.cons (.cst (.str "at")) (.cons (.cst (.int 2)) (.cons (.cst (.int 0)) (.cons (.cst (.int 1)) .nil))))) .nil))) (.cons (.tup (.cons (.cst (.int 0)) (.cons (.tup (.cons (.cst (.str "at")) (.cons (.cst (.int 0)) (.cons (.cst (.int 3)) (.cons (.cst (.int 1)) .nil))))) .nil))) (.cons (.tup (.cons (.cst (.int 0)) (.cons (.tup (.cons (.cst (.str "in")) (.cons (.cst (.int 0)) (.cons (.cst (.int 0)) (.cons (.cst (.int 1)) .nil))))) .nil))) .nil))))))))))) (.cons (.asg 2 (.bin .Add (.var 2) (.lst (.cons (.tup (.cons (.cst (.int 0)) (.cons (.tup (.cons (.cst (.str "saw")) (.cons (.cst (.int 0)) (.cons (.cst (.int 0)) (.cons (.cst (.int 0)) .nil))))) .nil))) (.cons (.tup (.cons (.cst (.int 0)) (.cons (.tup (.cons (.cst (.str "saw")) (.cons (.cst (.int 0)) (.cons (.cst (.int 0)) (.cons (.cst (.int 2)) .nil))))) .nil))) (.cons (.tup (.cons (.cst (.int 0)) (.cons (.tup (.cons (.cst (.str "alone")) (.cons (.cst (.int 0)) (.cons (.cst (.int 0)) (.cons (.cst (.int 1)) .nil))))) .nil))) (.cons (.tup (.cons (.cst (.int 0)) (.cons (.tup (.cons (.cst (.str "at")) (.cons (.cst (.int 0)) (.cons (.cst (.int 0)) (.cons (.cst .none) .nil))))) .nil))) (.cons (.tup (.cons (.cst (.int 0)) (.cons (.tup (.cons (.cst (.str "at")) (.cons (.cst (.int 0)) (.cons (.cst (.int 0)) .nil)))) .nil))) (.cons (.tup (.cons (.cst (.bool true)) (.cons (.tup (.cons (.cst (.str "at")) (.cons (.cst (.int 0)) (.cons (.cst (.int 0)) (.cons (.cst (.int 1)) .nil))))) .nil))) (.cons (.tup (.cons (.cst (.int 0)) (.cons (.tup (.cons (.cst (.str "at")) (.cons (.cst (.bool true)) (.cons (.cst (.int 0)) (.cons (.cst (.int 1)) .nil))))) .nil))) .nil)))))))))) (.cons (.ite (.or (.cmp .IsNot (.call 16 (.cons (.var 0) (.cons (.cst (.int 2)) (.cons (.var 1) .nil)))) (.cst (.bool true))) (.or (.cmp .IsNot (.call 16 (.cons (.var 0) (.cons (.cst (.int 2)) (.cons (.bin .Mult (.sl (.var 1) .none (.some (.cst (.int 1)))) (.cst (.int 30))) .nil)))) (.cst (.bool true))) (.cmp .IsNot (.call 16 (.cons (.var 0) (.cons (.cst (.int 2)) (.cons (.bin .Mult (.sl (.var 1) .none (.some (.cst (.int 1)))) (.cst (.int 31))) .nil)))) (.cst (.bool false))))) (.cons (.ret (.cst (.bool false))) .nil) .nil) (.cons (.ret (.and (.cmp .Eq (.lc1 (.call 16 (.cons (.var 0) (.cons (.cst (.int 2)) (.cons (.lst (.cons (.var 3) .nil)) .nil)))) [3] (.name 3) (.val (.var 2)) .none) (.bin .Mult (.lst (.cons (.cst (.bool false)) .nil)) (.cst (.int 16)))) (.cmp .Is (.call 16 (.cons (.var 0) (.cons (.cst (.int 2)) (.cons (.bi .tuple (.cons (.var 1) .nil)) .nil)))) (.cst (.bool false))))) .nil)))))
def N_law : List Str := ["hall", "bad", "own", "k"]
def c_law : CB := (.cons (.asg 2 (.tup (.cons (.cst (.int 2)) (.cons (.tup (.cons (.tup (.cons (.cst (.int 0)) (.cons (.cst (.int 1)) .nil))) .nil)) (.cons (.cst (.int 2)) (.cons (.tup .nil) (.cons (.tup .nil) .nil))))))) (.cons (.ite (.or (.not (.call0 52)) (.not (.call 53 (.cons (.var 2) .nil)))) (.cons (.ret (.cst (.bool false))) .nil) .nil) (.cons (.for_ (.name 3) (.val (.lst (.cons (.cst .none) (.cons (.cst (.int 5)) (.cons (.tup (.cons (.cst (.int 2)) (.cons (.tup .nil) (.cons (.cst (.int 13)) (.cons (.tup .nil) (.cons (.tup .nil) .nil)))))) .nil))))) (.cons (.ite (.or (.cmp .NotEq (.lc1 (.call 50 (.cons (.var 5) (.cons (.var 3) (.cons (.cst .none) (.cons (.cst .none) (.cons (.cst .none) .nil)))))) [5] (.name 5) (.rng1 (.cst (.int 8))) .none) (.bin .Mult (.lst (.cons (.cst (.str "house")) .nil)) (.cst (.int 8)))) (.cmp .NotEq (.lc1 (.call 51 (.cons (.var 5) (.cons (.var 3) (.cons (.cst .none) (.cons (.cst .none) (.cons (.cst .none) .nil)))))) [5] (.name 5) (.rng1 (.cst (.int 8))) .none) (.bin .Mult (.lst (.cons (.cst (.str "house")) .nil)) (.cst (.int 8))))) (.cons (.ret (.cst (.bool false))) .nil) .nil) .nil)) (.cons (.for_ (.name 3) (.val (.lst (.cons (.cst (.int 0)) (.cons (.cst (.int 5)) (.cons (.cst .none) (.cons (.cst (.bool true)) (.cons (.cst (.str "2")) .nil))))))) (.cons (.ite (.or (.cmp .NotEq (.lc1 (.call 50 (.cons (.var 5) (.cons (.var 2) (.cons (.var 3) (.cons (.cst .none) (.cons (.cst .none) .nil)))))) [5] (.name 5) (.rng1 (.cst (.int 8))) .none) (.bin .Mult (.lst (.cons (.cst (.str "house")) .nil)) (.cst (.int 8)))) (.cmp .NotEq (.lc1 (.call 51 (.cons (.var 5) (.cons (.var 2) (.cons (.var 3) (.cons (.cst .none) (.cons (.cst .none) .nil)))))) [5] (.name 5) (.rng2 (.cst (.int 1)) (.cst (.int 8))) .none) (.bin .Mult (.lst (.cons (.cst (.str "house")) .nil)) (.cst (.int 7))))) (.cons (.ret (.cst (.bool false))) .nil) .nil) .nil)) (.cons (.for_ (.name 3) (.val (.lst (.cons (.cst .none) (.cons (.cst (.int 5)) (.cons (.tup .nil) (.cons (.lst (.cons (.cst .none) .nil)) (.cons (.lst (.cons (.tup (.cons (.cst (.int 2)) (.cons (.tup (.cons (.cst (.str "at")) (.cons (.cst (.int 0)) (.cons (.cst (.int 0)) (.cons (.cst (.int 1)) .nil))))) .nil))) .nil)) .nil))))))) (.cons (.ite (.or (.cmp .NotEq (.lc1 (.call 50 (.cons (.var 5) (.cons (.var 2) (.cons (.cst (.int 2)) (.cons (.var 3) (.cons (.cst .none) .nil)))))) [5] (.name 5) (.rng1 (.cst (.int 8))) .none) (.bin .Mult (.lst (.cons (.cst (.str "book")) .nil)) (.cst (.int 8)))) (.cmp .NotEq (.lc1 (.call 51 (.cons (.var 5) (.cons (.var 2) (.cons (.cst (.int 2)) (.cons (.var 3) (.cons (.cst .none) .nil)))))) [5] (.name 5) (.val (.lst (.cons (.cst (.int 3)) (.cons (.cst (.int 4)) (.cons (.cst (.int 5)) (.cons (.cst (.int 6)) .nil)))))) .none) (.bin .Mult (.lst (.cons (.cst (.str "book")) .nil)) (.cst (.int 4))))) (.cons (.ret (.cst (.bool false))) .nil) .nil) .nil)) (.cons (.for_ (.name 3) (.val (.lst (.cons (.cst .none) (.cons (.cst (.int 0)) (.cons (.lst (.cons (.cst (.int 0)) .nil)) (.cons (.tup (.cons (.cst (.int 2)) .nil)) (.cons (.tup (.cons (.cst (.int 1)) (.cons (.cst (.int 0)) .nil))) (.cons (.tup (.cons (.cst (.int 0)) (.cons (.cst (.int 0)) .nil))) (.cons (.tup (.cons (.cst (.bool true)) .nil)) .nil))))))))) (.cons (.ite (.cmp .NotEq (.lc1 (.call 50 (.cons (.var 5) (.cons (.var 2) (.cons (.cst (.int 2)) (.cons (.lst .nil) (.cons (.var 3) .nil)))))) [5] (.name 5) (.rng1 (.cst (.int 8))) .none) (.bin .Mult (.lst (.cons (.cst (.str "folk")) .nil)) (.cst (.int 8)))) (.cons (.ret (.cst (.bool false))) .nil) .nil) .nil)) (.cons (.for_ (.name 3) (.val (.lst (.cons (.cst .none) (.cons (.cst (.int 2)) (.cons (.bin .Sub (.cst (.int 0)) (.cst (.int 1))) (.cons (.cst (.bool true)) .nil)))))) (.cons (.ite (.or (.cmp .NotEq (.call 51 (.cons (.cst (.int 0)) (.cons (.var 2) (.cons (.var 3) (.cons (.cst .none) (.cons (.cst (.int 0)) .nil)))))) (.cst (.str "room"))) (.cmp .NotEq (.call 51 (.cons (.cst (.int 0)) (.cons (.var 2) (.cons (.cst (.int 0)) (.cons (.ite (.cmp .Eq (.var 3) (.cst (.int 2))) (.cst (.int 3)) (.var 3)) (.cons (.cst (.int 0)) .nil)))))) (.cst (.str "beat")))) (.cons (.ret (.cst (.bool false))) .nil) .nil) .nil)) (.cons (.ite (.cmp .NotEq (.lc1 (.call 51 (.cons (.cst (.int 1)) (.cons (.var 2) (.cons (.cst (.int 2)) (.cons (.var 3) (.cons (.cst .none) .nil)))))) [3] (.name 3) (.val (.lst (.cons (.cst .none) (.cons (.tup (.cons (.cst (.int 0)) .nil)) (.cons (.lst (.cons (.cst (.int 0)) (.cons (.cst (.int 0)) .nil))) (.cons (.tup (.cons (.cst (.int 0)) (.cons (.cst (.int 2)) .nil))) (.cons (.tup (.cons (.cst (.bool true)) (.cons (.cst (.int 0)) .nil))) .nil))))))) .none) (.bin .Mult (.lst (.cons (.cst (.str "room")) .nil)) (.cst (.int 5)))) (.cons (.ret (.cst (.bool false))) .nil) .nil) (.cons (.asg 4 (.call 47 (.cons (.var 1) (.cons (.cst (.int 2)) .nil)))) (.cons (.ret (.and (.cmp .Eq (.lc1 (.call 51 (.cons (.cst (.int 1)) (.cons (.var 2) (.cons (.cst (.int 2)) (.cons (.tup (.cons (.cst (.int 0)) (.cons (.var 4) .nil))) (.cons (.var 3) .nil)))))) [3] (.name 3) (.val (.lst (.cons (.cst .none) (.cons (.tup (.cons (.cst (.str "at")) (.cons (.cst (.int 0)) (.cons (.cst (.int 0)) .nil)))) (.cons (.tup (.cons (.cst (.str "at")) (.cons (.cst (.int 2)) (.cons (.cst (.int 0)) (.cons (.cst (.int 0)) .nil))))) .nil))))) .none) (.bin .Mult (.lst (.cons (.cst (.str "book")) .nil)) (.cst (.int 3)))) (.cmp .Eq (.call 51 (.cons (.cst (.int 0)) (.cons (.var 2) (.cons (.var 4) (.cons (.cst (.int 2)) (.cons (.cst (.int 0)) .nil)))))) (.cst (.str "told"))))) .nil))))))))))
/-! ### tables -/
def consts : List (Str × PyData) := [("MOST_ROOMS", (.int 6)), ("MOST_LAST", (.int 12)), ("MOST_FOLK", (.int 4)), ("WORDS", (.tuple [(.str "at"), (.str "not"), (.str "saw"), (.str "missed"), (.str "alone"), (.str "heard")])), ("MOST_BINDINGS", (.int 30))]
def tabG : List (Str × Nat × Kd) := [(("is_whole" : Str), (3 : Nat), Kd.pos), (("are_pairs" : Str), (3 : Nat), Kd.pos), (("is_house" : Str), (1 : Nat), Kd.pos), (("look_house" : Str), (2 : Nat), Kd.pos), (("look_folk" : Str), (2 : Nat), Kd.pos), (("look_beat" : Str), (2 : Nat), Kd.pos), (("look_room" : Str), (2 : Nat), Kd.pos), (("open_doors" : Str), (2 : Nat), Kd.pos), (("beside" : Str), (3 : Nat), Kd.pos), (("next_rooms" : Str), (3 : Nat), Kd.pos), (("stands" : Str), (2 : Nat), Kd.pos), (("is_stand" : Str), (3 : Nat), Kd.pos), (("is_claim" : Str), (3 : Nat), Kd.pos), (("holds" : Str), (3 : Nat), Kd.pos), (("is_so" : Str), (4 : Nat), Kd.pos), (("is_binding" : Str), (3 : Nat), Kd.pos), (("is_book" : Str), (3 : Nat), Kd.pos), (("book_fits" : Str), (3 : Nat), Kd.pos), (("look_book" : Str), (3 : Nat), Kd.pos), (("look_case" : Str), (4 : Nat), Kd.pos), (("claims_of" : Str), (2 : Nat), Kd.pos), (("binding" : Str), (4 : Nat), Kd.kw), (("tellers" : Str), (3 : Nat), Kd.pos), (("let_at" : Str), (4 : Nat), Kd.pos), (("led" : Str), (3 : Nat), Kd.pos), (("ahead_lots" : Str), (3 : Nat), Kd.pos), (("behind_lots" : Str), (3 : Nat), Kd.pos), (("met_lots" : Str), (3 : Nat), Kd.pos), (("lots" : Str), (4 : Nat), Kd.kw), (("is_step" : Str), (4 : Nat), Kd.pos), (("first_of" : Str), (3 : Nat), Kd.pos), (("first_story" : Str), (4 : Nat), Kd.kw), (("is_story" : Str), (3 : Nat), Kd.pos), (("walks" : Str), (3 : Nat), Kd.pos), (("broken_by" : Str), (3 : Nat), Kd.pos), (("breaks" : Str), (4 : Nat), Kd.pos), (("fits" : Str), (5 : Nat), Kd.kw), (("count_stories" : Str), (4 : Nat), Kd.kw), (("folk_lots" : Str), (1 : Nat), Kd.pos), (("least_of" : Str), (3 : Nat), Kd.pos), (("least_lots" : Str), (3 : Nat), Kd.pos), (("honest" : Str), (3 : Nat), Kd.pos), (("empty_at" : Str), (4 : Nat), Kd.kw), (("sure" : Str), (4 : Nat), Kd.kw), (("story_outside" : Str), (3 : Nat), Kd.pos), (("fits_at" : Str), (4 : Nat), Kd.pos), (("needless" : Str), (4 : Nat), Kd.kw), (("_law_draw" : Str), (2 : Nat), Kd.pos), (("_law_refusal" : Str), (1 : Nat), Kd.pos), (("_law_does" : Str), (5 : Nat), Kd.pos), (("_law_asked" : Str), (5 : Nat), Kd.pos), (("_law_lone" : Str), (5 : Nat), Kd.pos), (("_law_kinds" : Str), (0 : Nat), Kd.pos), (("_law_claims" : Str), (1 : Nat), Kd.pos)]
def tabT : List Df := [Df.code 3 3 c_is_whole, Df.code 3 5 c_are_pairs, Df.code 1 8 c_is_house, Df.code 2 2 c_look_house, Df.code 2 4 c_look_folk, Df.code 2 2 c_look_beat, Df.code 2 2 c_look_room, Df.code 2 4 c_open_doors, Df.code 3 6 c_beside, Df.code 3 3 c_next_rooms, Df.code 2 6 c_stands, Df.code 3 4 c_is_stand, Df.code 3 7 c_is_claim, Df.code 3 10 c_holds, Df.code 4 4 c_is_so, Df.code 3 3 c_is_binding, Df.code 3 3 c_is_book, Df.code 3 4 c_book_fits, Df.code 3 3 c_look_book, Df.code 4 4 c_look_case, Df.code 2 4 c_claims_of, Df.code 4 5 c_binding, Df.code 3 5 c_tellers, Df.code 4 7 c_let_at, Df.code 3 8 c_led, Df.code 3 8 c_ahead_lots, Df.code 3 8 c_behind_lots, Df.code 3 7 c_met_lots, Df.code 4 4 c_lots, Df.code 4 7 c_is_step, Df.code 3 7 c_first_of, Df.code 4 5 c_first_story, Df.code 3 3 c_is_story, Df.code 3 5 c_walks, Df.code 3 4 c_broken_by, Df.code 4 4 c_breaks, Df.code 5 6 c_fits, Df.code 4 10 c_count_stories, Df.code 1 4 c_folk_lots, Df.code 3 7 c_least_of, Df.code 3 3 c_least_lots, Df.code 3 6 c_honest, Df.code 4 6 c_empty_at, Df.code 4 10 c_sure, Df.code 3 13 c_story_outside, Df.code 4 5 c_fits_at, Df.code 4 8 c_needless, Df.draw, Df.code 1 2 c__law_refusal, Df.code 5 5 c__law_does, Df.code 5 7 c__law_asked, Df.code 5 7 c__law_lone, Df.code 0 3 c__law_kinds, Df.code 1 4 c__law_claims]
def g : Gt := ⟨fun i => tabG[i]?, excW, fun x => consts.lookup x⟩
def T (i : Nat) : Option Df := tabT[i]?
/-! ### the syntax says so -/
theorem k_is_whole : chkB g N_is_whole (defScope s_is_whole) c_is_whole (defBody s_is_whole) = true := by decide +kernel
theorem f_is_whole : FnScope N_is_whole ["thing", "low", "high"] (defScope s_is_whole) := ⟨rfl, rfl, rfl, by decide +kernel, rfl, by decide +kernel, by decide +kernel⟩
theorem k_are_pairs : chkB g N_are_pairs (defScope s_are_pairs) c_are_pairs (defBody s_are_pairs) = true := by decide +kernel
theorem f_are_pairs : FnScope N_are_pairs ["thing", "first", "second"] (defScope s_are_pairs) := ⟨rfl, rfl, rfl, by decide +kernel, rfl, by decide +kernel, by decide +kernel⟩
theorem k_is_house : chkB g N_is_house (defScope s_is_house) c_is_house (defBody s_is_house) = true := by decide +kernel
theorem f_is_house : FnScope N_is_house ["thing"] (defScope s_is_house) := ⟨rfl, rfl, rfl, by decide +kernel, rfl, by decide +kernel, by decide +kernel⟩
theorem k_look_house : chkB g N_look_house (defScope s_look_house) c_look_house (defBody s_look_house) = true := by decide +kernel
theorem f_look_house : FnScope N_look_house ["house", "many"] (defScope s_look_house) := ⟨rfl, rfl, rfl, by decide +kernel, rfl, by decide +kernel, by decide +kernel⟩
theorem k_look_folk : chkB g N_look_folk (defScope s_look_folk) c_look_folk (defBody s_look_folk) = true := by decide +kernel
theorem f_look_folk : FnScope N_look_folk ["many", "thing"] (defScope s_look_folk) := ⟨rfl, rfl, rfl, by decide +kernel, rfl, by decide +kernel, by decide +kernel⟩
theorem k_look_beat : chkB g N_look_beat (defScope s_look_beat) c_look_beat (defBody s_look_beat) = true := by decide +kernel
theorem f_look_beat : FnScope N_look_beat ["house", "thing"] (defScope s_look_beat) := ⟨rfl, rfl, rfl, by decide +kernel, rfl, by decide +kernel, by decide +kernel⟩
theorem k_look_room : chkB g N_look_room (defScope s_look_room) c_look_room (defBody s_look_room) = true := by decide +kernel
theorem f_look_room : FnScope N_look_room ["house", "thing"] (defScope s_look_room) := ⟨rfl, rfl, rfl, by decide +kernel, rfl, by decide +kernel, by decide +kernel⟩
theorem k_open_doors : chkB g N_open_doors (defScope s_open_doors) c_open_doors (defBody s_open_doors) = true := by decide +kernel
theorem f_open_doors : FnScope N_open_doors ["house", "beat"] (defScope s_open_doors) := ⟨rfl, rfl, rfl, by decide +kernel, rfl, by decide +kernel, by decide +kernel⟩
theorem k_beside : chkB g N_beside (defScope s_beside) c_beside (defBody s_beside) = true := by decide +kernel
theorem f_beside : FnScope N_beside ["house", "room", "beat"] (defScope s_beside) := ⟨rfl, rfl, rfl, by decide +kernel, rfl, by decide +kernel, by decide +kernel⟩
theorem k_next_rooms : chkB g N_next_rooms (defScope s_next_rooms) c_next_rooms (defBody s_next_rooms) = true := by decide +kernel
theorem f_next_rooms : FnScope N_next_rooms ["house", "room", "beat"] (defScope s_next_rooms) := ⟨rfl, rfl, rfl, by decide +kernel, rfl, by decide +kernel, by decide +kernel⟩
theorem k_stands : chkB g N_stands (defScope s_stands) c_stands (defBody s_stands) = true := by decide +kernel
theorem f_stands : FnScope N_stands ["house", "many"] (defScope s_stands) := ⟨rfl, rfl, rfl, by decide +kernel, rfl, by decide +kernel, by decide +kernel⟩
theorem k_is_stand : chkB g N_is_stand (defScope s_is_stand) c_is_stand (defBody s_is_stand) = true := by decide +kernel
theorem f_is_stand : FnScope N_is_stand ["house", "many", "thing"] (defScope s_is_stand) := ⟨rfl, rfl, rfl, by decide +kernel, rfl, by decide +kernel, by decide +kernel⟩
theorem k_is_claim : chkB g N_is_claim (defScope s_is_claim) c_is_claim (defBody s_is_claim) = true := by decide +kernel
theorem f_is_claim : FnScope N_is_claim ["house", "many", "thing"] (defScope s_is_claim) := ⟨rfl, rfl, rfl, by decide +kernel, rfl, by decide +kernel, by decide +kernel⟩
theorem k_holds : chkB g N_holds (defScope s_holds) c_holds (defBody s_holds) = true := by decide +kernel
theorem f_holds : FnScope N_holds ["house", "stand", "claim"] (defScope s_holds) := ⟨rfl, rfl, rfl, by decide +kernel, rfl, by decide +kernel, by decide +kernel⟩
theorem k_is_so : chkB g N_is_so (defScope s_is_so) c_is_so (defBody s_is_so) = true := by decide +kernel
theorem f_is_so : FnScope N_is_so ["house", "many", "stand", "claim"] (defScope s_is_so) := ⟨rfl, rfl, rfl, by decide +kernel, rfl, by decide +kernel, by decide +kernel⟩
theorem k_is_binding : chkB g N_is_binding (defScope s_is_binding) c_is_binding (defBody s_is_binding) = true := by decide +kernel
theorem f_is_binding : FnScope N_is_binding ["house", "many", "thing"] (defScope s_is_binding) := ⟨rfl, rfl, rfl, by decide +kernel, rfl, by decide +kernel, by decide +kernel⟩
theorem k_is_book : chkB g N_is_book (defScope s_is_book) c_is_book (defBody s_is_book) = true := by decide +kernel
theorem f_is_book : FnScope N_is_book ["house", "many", "thing"] (defScope s_is_book) := ⟨rfl, rfl, rfl, by decide +kernel, rfl, by decide +kernel, by decide +kernel⟩
theorem k_book_fits : chkB g N_book_fits (defScope s_book_fits) c_book_fits (defBody s_book_fits) = true := by decide +kernel
theorem f_book_fits : FnScope N_book_fits ["house", "many", "thing"] (defScope s_book_fits) := ⟨rfl, rfl, rfl, by decide +kernel, rfl, by decide +kernel, by decide +kernel⟩
theorem k_look_book : chkB g N_look_book (defScope s_look_book) c_look_book (defBody s_look_book) = true := by decide +kernel
theorem f_look_book : FnScope N_look_book ["house", "many", "book"] (defScope s_look_book) := ⟨rfl, rfl, rfl, by decide +kernel, rfl, by decide +kernel, by decide +kernel⟩
theorem k_look_case : chkB g N_look_case (defScope s_look_case) c_look_case (defBody s_look_case) = true := by decide +kernel
theorem f_look_case : FnScope N_look_case ["house", "many", "book", "liars"] (defScope s_look_case) := ⟨rfl, rfl, rfl, by decide +kernel, rfl, by decide +kernel, by decide +kernel⟩
theorem k_claims_of : chkB g N_claims_of (defScope s_claims_of) c_claims_of (defBody s_claims_of) = true := by decide +kernel
theorem f_claims_of : FnScope N_claims_of ["book", "liars"] (defScope s_claims_of) := ⟨rfl, rfl, rfl, by decide +kernel, rfl, by decide +kernel, by decide +kernel⟩
theorem k_binding : chkB g N_binding (defScope s_binding) c_binding (defBody s_binding) = true := by decide +kernel
theorem f_binding : FnScope N_binding ["house", "many", "book", "liars"] (defScope s_binding) := ⟨rfl, rfl, rfl, by decide +kernel, rfl, by decide +kernel, by decide +kernel⟩
theorem k_tellers : chkB g N_tellers (defScope s_tellers) c_tellers (defBody s_tellers) = true := by decide +kernel
theorem f_tellers : FnScope N_tellers ["house", "many", "book"] (defScope s_tellers) := ⟨rfl, rfl, rfl, by decide +kernel, rfl, by decide +kernel, by decide +kernel⟩
theorem k_let_at : chkB g N_let_at (defScope s_let_at) c_let_at (defBody s_let_at) = true := by decide +kernel
theorem f_let_at : FnScope N_let_at ["house", "many", "claims", "beat"] (defScope s_let_at) := ⟨rfl, rfl, rfl, by decide +kernel, rfl, by decide +kernel, by decide +kernel⟩
theorem k_led : chkB g N_led (defScope s_led) c_led (defBody s_led) = true := by decide +kernel
theorem f_led : FnScope N_led ["house", "lot", "beat"] (defScope s_led) := ⟨rfl, rfl, rfl, by decide +kernel, rfl, by decide +kernel, by decide +kernel⟩
theorem k_ahead_lots : chkB g N_ahead_lots (defScope s_ahead_lots) c_ahead_lots (defBody s_ahead_lots) = true := by decide +kernel
theorem f_ahead_lots : FnScope N_ahead_lots ["house", "many", "claims"] (defScope s_ahead_lots) := ⟨rfl, rfl, rfl, by decide +kernel, rfl, by decide +kernel, by decide +kernel⟩
theorem k_behind_lots : chkB g N_behind_lots (defScope s_behind_lots) c_behind_lots (defBody s_behind_lots) = true := by decide +kernel
theorem f_behind_lots : FnScope N_behind_lots ["house", "many", "claims"] (defScope s_behind_lots) := ⟨rfl, rfl, rfl, by decide +kernel, rfl, by decide +kernel, by decide +kernel⟩
theorem k_met_lots : chkB g N_met_lots (defScope s_met_lots) c_met_lots (defBody s_met_lots) = true := by decide +kernel
theorem f_met_lots : FnScope N_met_lots ["house", "many", "claims"] (defScope s_met_lots) := ⟨rfl, rfl, rfl, by decide +kernel, rfl, by decide +kernel, by decide +kernel⟩
theorem k_lots : chkB g N_lots (defScope s_lots) c_lots (defBody s_lots) = true := by decide +kernel
theorem f_lots : FnScope N_lots ["house", "many", "book", "liars"] (defScope s_lots) := ⟨rfl, rfl, rfl, by decide +kernel, rfl, by decide +kernel, by decide +kernel⟩
theorem k_is_step : chkB g N_is_step (defScope s_is_step) c_is_step (defBody s_is_step) = true := by decide +kernel
theorem f_is_step : FnScope N_is_step ["house", "one", "other", "beat"] (defScope s_is_step) := ⟨rfl, rfl, rfl, by decide +kernel, rfl, by decide +kernel, by decide +kernel⟩
theorem k_first_of : chkB g N_first_of (defScope s_first_of) c_first_of (defBody s_first_of) = true := by decide +kernel
theorem f_first_of : FnScope N_first_of ["house", "many", "claims"] (defScope s_first_of) := ⟨rfl, rfl, rfl, by decide +kernel, rfl, by decide +kernel, by decide +kernel⟩
theorem k_first_story : chkB g N_first_story (defScope s_first_story) c_first_story (defBody s_first_story) = true := by decide +kernel
theorem f_first_story : FnScope N_first_story ["house", "many", "book", "liars"] (defScope s_first_story) := ⟨rfl, rfl, rfl, by decide +kernel, rfl, by decide +kernel, by decide +kernel⟩
theorem k_is_story : chkB g N_is_story (defScope s_is_story) c_is_story (defBody s_is_story) = true := by decide +kernel
theorem f_is_story : FnScope N_is_story ["house", "many", "thing"] (defScope s_is_story) := ⟨rfl, rfl, rfl, by decide +kernel, rfl, by decide +kernel, by decide +kernel⟩
theorem k_walks : chkB g N_walks (defScope s_walks) c_walks (defBody s_walks) = true := by decide +kernel
theorem f_walks : FnScope N_walks ["house", "many", "thing"] (defScope s_walks) := ⟨rfl, rfl, rfl, by decide +kernel, rfl, by decide +kernel, by decide +kernel⟩
theorem k_broken_by : chkB g N_broken_by (defScope s_broken_by) c_broken_by (defBody s_broken_by) = true := by decide +kernel
theorem f_broken_by : FnScope N_broken_by ["house", "story", "book"] (defScope s_broken_by) := ⟨rfl, rfl, rfl, by decide +kernel, rfl, by decide +kernel, by decide +kernel⟩
theorem k_breaks : chkB g N_breaks (defScope s_breaks) c_breaks (defBody s_breaks) = true := by decide +kernel
theorem f_breaks : FnScope N_breaks ["house", "many", "book", "story"] (defScope s_breaks) := ⟨rfl, rfl, rfl, by decide +kernel, rfl, by decide +kernel, by decide +kernel⟩
theorem k_fits : chkB g N_fits (defScope s_fits) c_fits (defBody s_fits) = true := by decide +kernel
theorem f_fits : FnScope N_fits ["house", "many", "book", "story", "liars"] (defScope s_fits) := ⟨rfl, rfl, rfl, by decide +kernel, rfl, by decide +kernel, by decide +kernel⟩
theorem k_count_stories : chkB g N_count_stories (defScope s_count_stories) c_count_stories (defBody s_count_stories) = true := by decide +kernel
theorem f_count_stories : FnScope N_count_stories ["house", "many", "book", "liars"] (defScope s_count_stories) := ⟨rfl, rfl, rfl, by decide +kernel, rfl, by decide +kernel, by decide +kernel⟩
theorem k_folk_lots : chkB g N_folk_lots (defScope s_folk_lots) c_folk_lots (defBody s_folk_lots) = true := by decide +kernel
theorem f_folk_lots : FnScope N_folk_lots ["many"] (defScope s_folk_lots) := ⟨rfl, rfl, rfl, by decide +kernel, rfl, by decide +kernel, by decide +kernel⟩
theorem k_least_of : chkB g N_least_of (defScope s_least_of) c_least_of (defBody s_least_of) = true := by decide +kernel
theorem f_least_of : FnScope N_least_of ["house", "many", "book"] (defScope s_least_of) := ⟨rfl, rfl, rfl, by decide +kernel, rfl, by decide +kernel, by decide +kernel⟩
theorem k_least_lots : chkB g N_least_lots (defScope s_least_lots) c_least_lots (defBody s_least_lots) = true := by decide +kernel
theorem f_least_lots : FnScope N_least_lots ["house", "many", "book"] (defScope s_least_lots) := ⟨rfl, rfl, rfl, by decide +kernel, rfl, by decide +kernel, by decide +kernel⟩
theorem k_honest : chkB g N_honest (defScope s_honest) c_honest (defBody s_honest) = true := by decide +kernel
theorem f_honest : FnScope N_honest ["house", "many", "book"] (defScope s_honest) := ⟨rfl, rfl, rfl, by decide +kernel, rfl, by decide +kernel, by decide +kernel⟩
theorem k_empty_at : chkB g N_empty_at (defScope s_empty_at) c_empty_at (defBody s_empty_at) = true := by decide +kernel
theorem f_empty_at : FnScope N_empty_at ["house", "many", "book", "liars"] (defScope s_empty_at) := ⟨rfl, rfl, rfl, by decide +kernel, rfl, by decide +kernel, by decide +kernel⟩
theorem k_sure : chkB g N_sure (defScope s_sure) c_sure (defBody s_sure) = true := by decide +kernel
theorem f_sure : FnScope N_sure ["house", "many", "book", "liars"] (defScope s_sure) := ⟨rfl, rfl, rfl, by decide +kernel, rfl, by decide +kernel, by decide +kernel⟩
theorem k_story_outside : chkB g N_story_outside (defScope s_story_outside) c_story_outside (defBody s_story_outside) = true := by decide +kernel
theorem f_story_outside : FnScope N_story_outside ["house", "other", "fine"] (defScope s_story_outside) := ⟨rfl, rfl, rfl, by decide +kernel, rfl, by decide +kernel, by decide +kernel⟩
theorem k_fits_at : chkB g N_fits_at (defScope s_fits_at) c_fits_at (defBody s_fits_at) = true := by decide +kernel
theorem f_fits_at : FnScope N_fits_at ["house", "stand", "claims", "beat"] (defScope s_fits_at) := ⟨rfl, rfl, rfl, by decide +kernel, rfl, by decide +kernel, by decide +kernel⟩
theorem k_needless : chkB g N_needless (defScope s_needless) c_needless (defBody s_needless) = true := by decide +kernel
theorem f_needless : FnScope N_needless ["house", "many", "book", "liars"] (defScope s_needless) := ⟨rfl, rfl, rfl, by decide +kernel, rfl, by decide +kernel, by decide +kernel⟩
theorem k__law_refusal : chkB g N__law_refusal (defScope s__law_refusal) c__law_refusal (defBody s__law_refusal) = true := by decide +kernel
theorem f__law_refusal : FnScope N__law_refusal ["caught"] (defScope s__law_refusal) := ⟨rfl, rfl, rfl, by decide +kernel, rfl, by decide +kernel, by decide +kernel⟩
theorem k__law_does : chkB g N__law_does (defScope s__law_does) c__law_does (defBody s__law_does) = true := by decide +kernel
theorem f__law_does : FnScope N__law_does ["sort_of", "house_here", "count", "book_here", "some"] (defScope s__law_does) := ⟨rfl, rfl, rfl, by decide +kernel, rfl, by decide +kernel, by decide +kernel⟩
theorem k__law_asked : chkB g N__law_asked (defScope s__law_asked) c__law_asked (defBody s__law_asked) = true := by decide +kernel
theorem f__law_asked : FnScope N__law_asked ["sort_of", "house_here", "count", "book_here", "some"] (defScope s__law_asked) := ⟨rfl, rfl, rfl, by decide +kernel, rfl, by decide +kernel, by decide +kernel⟩
theorem k__law_lone : chkB g N__law_lone (defScope s__law_lone) c__law_lone (defBody s__law_lone) = true := by decide +kernel
theorem f__law_lone : FnScope N__law_lone ["sort_of", "house_here", "one", "two", "three"] (defScope s__law_lone) := ⟨rfl, rfl, rfl, by decide +kernel, rfl, by decide +kernel, by decide +kernel⟩
theorem k__law_kinds : chkB g N__law_kinds (defScope s__law_kinds) c__law_kinds (defBody s__law_kinds) = true := by decide +kernel
theorem f__law_kinds : FnScope N__law_kinds [] (defScope s__law_kinds) := ⟨rfl, rfl, rfl, by decide +kernel, rfl, by decide +kernel, by decide +kernel⟩
theorem k__law_claims : chkB g N__law_claims (defScope s__law_claims) c__law_claims (defBody s__law_claims) = true := by decide +kernel
theorem f__law_claims : FnScope N__law_claims ["hall"] (defScope s__law_claims) := ⟨rfl, rfl, rfl, by decide +kernel, rfl, by decide +kernel, by decide +kernel⟩
def restL : List Stmt := (defBody s_law).tail
theorem k_law : chkB g ("script" :: "town" :: N_law) (defScope s_law) c_law restL = true := by decide +kernel
theorem f_law : FnScope ("script" :: "town" :: N_law) ["script"] (defScope s_law) := ⟨rfl, rfl, rfl, by decide +kernel, rfl, by decide +kernel, by decide +kernel⟩
end Wl

set_option maxHeartbeats 0
namespace Wl
open PySem L2 Wv
abbrev F12 : Nat → List PyData → Tw → R PyData := callN T 12
def env0 : Wv.Env := none :: some (false, tTown) :: List.replicate N_law.length none
def env1 : Wv.Env := envOf (execB F12 (takeB 8 c_law) env0 ⟨[0], 0⟩)
theorem r1 (t : Tw) : execB F12 (takeB 8 c_law) env0 t = .next env1 t := by kernel_rfl
/-- behind the draw -/
theorem r2 (t : Tw) : execB F12 (dropB 8 c_law) env1 t = (match drawT t 2 with
  | some (r, t') => execB F12 (dropB 9 c_law) (env1.set 4 (some (false, .int r))) t'
  | none => .bad) := by
  have e : execB F12 (dropB 8 c_law) env1 t = (SR.of (match drawT t 2 with
    | some (r, t') => R.ok (.int r) t'
    | none => .bad) env1 fun d t => .next (env1.set 4 (some (false, d))) t).then (execB F12 (dropB 9 c_law)) := by kernel_rfl
  rw [e]
  cases drawT t 2 with
  | none => rfl
  | some p => rfl
theorem r30 (t : Tw) : yes (execB F12 (dropB 9 c_law) (env1.set 4 (some (false, .int 0))) t) = true := by kernel_rfl
theorem r31 (t : Tw) : yes (execB F12 (dropB 9 c_law) (env1.set 4 (some (false, .int 1))) t) = true := by kernel_rfl
theorem runs (ns : List Int) (_ : ns.length ≤ 63) : ∃ t, execB (callN T 12) c_law (none :: some (false, tTown) :: List.replicate N_law.length none) ⟨nums0 ns, 0⟩ = .ret (.bool true) t := by
  refine yes_ok ?_
  show yes (execB F12 c_law env0 ⟨nums0 ns, 0⟩) = true
  rw [exec_split 8, r1]
  show yes (execB F12 (dropB 8 c_law) env1 ⟨nums0 ns, 0⟩) = true
  rw [r2]
  obtain ⟨r, t', e, h1, h2, _⟩ := draw_some (t := ⟨nums0 ns, 0⟩) (c := 2) (nums_ne ns) (by omega) (by omega)
  rw [e]
  show yes (execB F12 (dropB 9 c_law) (env1.set 4 (some (false, .int r))) t') = true
  rcases (show r = 0 ∨ r = 1 by omega) with rfl | rfl
  · exact r30 t'
  · exact r31 t'
end Wl

namespace Wl
open PySem PySem.Spec PyProof.Rows L2 Wv
/-! ### the head -/
def fn : List He.DefD := [d_is_whole, d_are_pairs, d_is_house, d_look_house, d_look_folk, d_look_beat, d_look_room, d_open_doors, d_beside, d_next_rooms, d_stands, d_is_stand, d_is_claim, d_holds, d_is_so, d_is_binding, d_is_book, d_book_fits, d_look_book, d_look_case, d_claims_of, d_binding, d_tellers, d_let_at, d_led, d_ahead_lots, d_behind_lots, d_met_lots, d_lots, d_is_step, d_first_of, d_first_story, d_is_story, d_walks, d_broken_by, d_breaks, d_fits, d_count_stories, d_folk_lots, d_least_of, d_least_lots, d_honest, d_empty_at, d_sure, d_story_outside, d_fits_at, d_needless, d__law_draw, d__law_refusal, d__law_does, d__law_asked, d__law_lone, d__law_kinds, d__law_claims, d__law_town, d_law]
def loose0 : List Str := ["WhereError", "BadHouse", "BadFolk", "BadBeat", "BadRoom", "BadBook", "BadPaper", "BadText", "NoneSuch", "is_whole", "MOST_ROOMS", "MOST_LAST", "MOST_FOLK", "WORDS", "are_pairs", "is_house", "look_house", "look_folk", "look_beat", "look_room", "open_doors", "beside", "next_rooms", "stands", "is_stand", "is_claim", "holds", "is_so", "MOST_BINDINGS", "is_binding"]
def loose1 : List Str := ["is_book", "book_fits", "look_book", "look_case", "claims_of", "binding", "tellers", "let_at", "led", "ahead_lots", "behind_lots", "met_lots", "lots", "is_step", "first_of", "first_story", "is_story", "walks", "broken_by", "breaks", "fits", "count_stories", "folk_lots", "least_of", "least_lots", "honest", "empty_at", "sure", "story_outside", "fits_at"]
def loose2 : List Str := ["needless", "_law_town", "_law_draw", "_law_refusal", "_law_does", "_law_asked", "_law_lone", "_law_kinds", "_law_claims"]
def loose : List Str := loose0 ++ loose1 ++ loose2
def kwNames : List Str := ["binding", "lots", "first_story", "fits", "count_stories", "empty_at", "sure", "needless"]
def ckW (K : PySem.W.Frag) : Bool := ckAll K (tabG.map (·.1) ++ (["_law_town", "law"] : List Str)) kwNames consts
abbrev R : PySem.W.OpenRow := PySem.W.OpenLaw.row PySem.Challenge.rw_wherewas_k17_books_refused
abbrev hk : PySem.W.Hook := hookW 4 [] fn ckW
theorem run (w : World) : HandSHeadRun.RunEq R (PySem.W.view R.prog [77]) hk (obW 4 [] fn ckW) 20000 loose w := by
  intro os
  kernel_rfl
/-! ### each def keeps its promise -/
section
variable {P : Program} {w : World} {K : PySem.W.Frag} {mg : Str → Option Value} {base h : Heap}
theorem o_is_whole (X : K.In h) (G : h.Ns mainGlobals mg) (c : He.SaysD [] fn K) (q : ckW K = true) : DefOk P w K mg base g T 0 "is_whole" 3 .pos :=
  mk_pos (c.def_ 0 (d := d_is_whole) rfl) (glo_all X G q (by decide +kernel)) f_is_whole (by decide) k_is_whole (fun _ _ _ _ _ _ us hl => match us, hl with | [_, _, _], _ => rfl) rfl (by decide)
theorem o_are_pairs (X : K.In h) (G : h.Ns mainGlobals mg) (c : He.SaysD [] fn K) (q : ckW K = true) : DefOk P w K mg base g T 1 "are_pairs" 3 .pos :=
  mk_pos (c.def_ 1 (d := d_are_pairs) rfl) (glo_all X G q (by decide +kernel)) f_are_pairs (by decide) k_are_pairs (fun _ _ _ _ _ _ us hl => match us, hl with | [_, _, _], _ => rfl) rfl (by decide)
theorem o_is_house (X : K.In h) (G : h.Ns mainGlobals mg) (c : He.SaysD [] fn K) (q : ckW K = true) : DefOk P w K mg base g T 2 "is_house" 1 .pos :=
  mk_pos (c.def_ 2 (d := d_is_house) rfl) (glo_all X G q (by decide +kernel)) f_is_house (by decide) k_is_house (fun _ _ _ _ _ _ us hl => match us, hl with | [_], _ => rfl) rfl (by decide)
theorem o_look_house (X : K.In h) (G : h.Ns mainGlobals mg) (c : He.SaysD [] fn K) (q : ckW K = true) : DefOk P w K mg base g T 3 "look_house" 2 .pos :=
  mk_pos (c.def_ 3 (d := d_look_house) rfl) (glo_all X G q (by decide +kernel)) f_look_house (by decide) k_look_house (fun _ _ _ _ _ _ us hl => match us, hl with | [_, _], _ => rfl) rfl (by decide)
theorem o_look_folk (X : K.In h) (G : h.Ns mainGlobals mg) (c : He.SaysD [] fn K) (q : ckW K = true) : DefOk P w K mg base g T 4 "look_folk" 2 .pos :=
  mk_pos (c.def_ 4 (d := d_look_folk) rfl) (glo_all X G q (by decide +kernel)) f_look_folk (by decide) k_look_folk (fun _ _ _ _ _ _ us hl => match us, hl with | [_, _], _ => rfl) rfl (by decide)
theorem o_look_beat (X : K.In h) (G : h.Ns mainGlobals mg) (c : He.SaysD [] fn K) (q : ckW K = true) : DefOk P w K mg base g T 5 "look_beat" 2 .pos :=
  mk_pos (c.def_ 5 (d := d_look_beat) rfl) (glo_all X G q (by decide +kernel)) f_look_beat (by decide) k_look_beat (fun _ _ _ _ _ _ us hl => match us, hl with | [_, _], _ => rfl) rfl (by decide)
theorem o_look_room (X : K.In h) (G : h.Ns mainGlobals mg) (c : He.SaysD [] fn K) (q : ckW K = true) : DefOk P w K mg base g T 6 "look_room" 2 .pos :=
  mk_pos (c.def_ 6 (d := d_look_room) rfl) (glo_all X G q (by decide +kernel)) f_look_room (by decide) k_look_room (fun _ _ _ _ _ _ us hl => match us, hl with | [_, _], _ => rfl) rfl (by decide)
theorem o_open_doors (X : K.In h) (G : h.Ns mainGlobals mg) (c : He.SaysD [] fn K) (q : ckW K = true) : DefOk P w K mg base g T 7 "open_doors" 2 .pos :=
  mk_pos (c.def_ 7 (d := d_open_doors) rfl) (glo_all X G q (by decide +kernel)) f_open_doors (by decide) k_open_doors (fun _ _ _ _ _ _ us hl => match us, hl with | [_, _], _ => rfl) rfl (by decide)
theorem o_beside (X : K.In h) (G : h.Ns mainGlobals mg) (c : He.SaysD [] fn K) (q : ckW K = true) : DefOk P w K mg base g T 8 "beside" 3 .pos :=
  mk_pos (c.def_ 8 (d := d_beside) rfl) (glo_all X G q (by decide +kernel)) f_beside (by decide) k_beside (fun _ _ _ _ _ _ us hl => match us, hl with | [_, _, _], _ => rfl) rfl (by decide)
theorem o_next_rooms (X : K.In h) (G : h.Ns mainGlobals mg) (c : He.SaysD [] fn K) (q : ckW K = true) : DefOk P w K mg base g T 9 "next_rooms" 3 .pos :=
  mk_pos (c.def_ 9 (d := d_next_rooms) rfl) (glo_all X G q (by decide +kernel)) f_next_rooms (by decide) k_next_rooms (fun _ _ _ _ _ _ us hl => match us, hl with | [_, _, _], _ => rfl) rfl (by decide)
theorem o_stands (X : K.In h) (G : h.Ns mainGlobals mg) (c : He.SaysD [] fn K) (q : ckW K = true) : DefOk P w K mg base g T 10 "stands" 2 .pos :=
  mk_pos (c.def_ 10 (d := d_stands) rfl) (glo_all X G q (by decide +kernel)) f_stands (by decide) k_stands (fun _ _ _ _ _ _ us hl => match us, hl with | [_, _], _ => rfl) rfl (by decide)
theorem o_is_stand (X : K.In h) (G : h.Ns mainGlobals mg) (c : He.SaysD [] fn K) (q : ckW K = true) : DefOk P w K mg base g T 11 "is_stand" 3 .pos :=
  mk_pos (c.def_ 11 (d := d_is_stand) rfl) (glo_all X G q (by decide +kernel)) f_is_stand (by decide) k_is_stand (fun _ _ _ _ _ _ us hl => match us, hl with | [_, _, _], _ => rfl) rfl (by decide)
theorem o_is_claim (X : K.In h) (G : h.Ns mainGlobals mg) (c : He.SaysD [] fn K) (q : ckW K = true) : DefOk P w K mg base g T 12 "is_claim" 3 .pos :=
  mk_pos (c.def_ 12 (d := d_is_claim) rfl) (glo_all X G q (by decide +kernel)) f_is_claim (by decide) k_is_claim (fun _ _ _ _ _ _ us hl => match us, hl with | [_, _, _], _ => rfl) rfl (by decide)
theorem o_holds (X : K.In h) (G : h.Ns mainGlobals mg) (c : He.SaysD [] fn K) (q : ckW K = true) : DefOk P w K mg base g T 13 "holds" 3 .pos :=
  mk_pos (c.def_ 13 (d := d_holds) rfl) (glo_all X G q (by decide +kernel)) f_holds (by decide) k_holds (fun _ _ _ _ _ _ us hl => match us, hl with | [_, _, _], _ => rfl) rfl (by decide)
theorem o_is_so (X : K.In h) (G : h.Ns mainGlobals mg) (c : He.SaysD [] fn K) (q : ckW K = true) : DefOk P w K mg base g T 14 "is_so" 4 .pos :=
  mk_pos (c.def_ 14 (d := d_is_so) rfl) (glo_all X G q (by decide +kernel)) f_is_so (by decide) k_is_so (fun _ _ _ _ _ _ us hl => match us, hl with | [_, _, _, _], _ => rfl) rfl (by decide)
theorem o_is_binding (X : K.In h) (G : h.Ns mainGlobals mg) (c : He.SaysD [] fn K) (q : ckW K = true) : DefOk P w K mg base g T 15 "is_binding" 3 .pos :=
  mk_pos (c.def_ 15 (d := d_is_binding) rfl) (glo_all X G q (by decide +kernel)) f_is_binding (by decide) k_is_binding (fun _ _ _ _ _ _ us hl => match us, hl with | [_, _, _], _ => rfl) rfl (by decide)
theorem o_is_book (X : K.In h) (G : h.Ns mainGlobals mg) (c : He.SaysD [] fn K) (q : ckW K = true) : DefOk P w K mg base g T 16 "is_book" 3 .pos :=
  mk_pos (c.def_ 16 (d := d_is_book) rfl) (glo_all X G q (by decide +kernel)) f_is_book (by decide) k_is_book (fun _ _ _ _ _ _ us hl => match us, hl with | [_, _, _], _ => rfl) rfl (by decide)
theorem o_book_fits (X : K.In h) (G : h.Ns mainGlobals mg) (c : He.SaysD [] fn K) (q : ckW K = true) : DefOk P w K mg base g T 17 "book_fits" 3 .pos :=
  mk_pos (c.def_ 17 (d := d_book_fits) rfl) (glo_all X G q (by decide +kernel)) f_book_fits (by decide) k_book_fits (fun _ _ _ _ _ _ us hl => match us, hl with | [_, _, _], _ => rfl) rfl (by decide)
theorem o_look_book (X : K.In h) (G : h.Ns mainGlobals mg) (c : He.SaysD [] fn K) (q : ckW K = true) : DefOk P w K mg base g T 18 "look_book" 3 .pos :=
  mk_pos (c.def_ 18 (d := d_look_book) rfl) (glo_all X G q (by decide +kernel)) f_look_book (by decide) k_look_book (fun _ _ _ _ _ _ us hl => match us, hl with | [_, _, _], _ => rfl) rfl (by decide)
theorem o_look_case (X : K.In h) (G : h.Ns mainGlobals mg) (c : He.SaysD [] fn K) (q : ckW K = true) : DefOk P w K mg base g T 19 "look_case" 4 .pos :=
  mk_pos (c.def_ 19 (d := d_look_case) rfl) (glo_all X G q (by decide +kernel)) f_look_case (by decide) k_look_case (fun _ _ _ _ _ _ us hl => match us, hl with | [_, _, _, _], _ => rfl) rfl (by decide)
theorem o_claims_of (X : K.In h) (G : h.Ns mainGlobals mg) (c : He.SaysD [] fn K) (q : ckW K = true) : DefOk P w K mg base g T 20 "claims_of" 2 .pos :=
  mk_pos (c.def_ 20 (d := d_claims_of) rfl) (glo_all X G q (by decide +kernel)) f_claims_of (by decide) k_claims_of (fun _ _ _ _ _ _ us hl => match us, hl with | [_, _], _ => rfl) rfl (by decide)
theorem o_binding (X : K.In h) (G : h.Ns mainGlobals mg) (c : He.SaysD [] fn K) (q : ckW K = true) : DefOk P w K mg base g T 21 "binding" 4 .kw :=
  mk_kw (n := 3) (c.def_ 21 (d := d_binding) rfl) (glo_all X G q (by decide +kernel)) (emp_all q (by decide +kernel)) f_binding (by decide) k_binding (fun _ _ _ _ _ _ us ws l1 l2 => match us, ws, l1, l2 with | [_, _, _], [_], _, _ => ⟨_, _, _, _, _, _, rfl, rfl, rfl⟩) (fun _ _ _ _ _ _ us ws l1 l2 => match us, ws, l1, l2 with | [_, _, _], [_], _, _ => rfl) rfl rfl (by decide)
theorem o_tellers (X : K.In h) (G : h.Ns mainGlobals mg) (c : He.SaysD [] fn K) (q : ckW K = true) : DefOk P w K mg base g T 22 "tellers" 3 .pos :=
  mk_pos (c.def_ 22 (d := d_tellers) rfl) (glo_all X G q (by decide +kernel)) f_tellers (by decide) k_tellers (fun _ _ _ _ _ _ us hl => match us, hl with | [_, _, _], _ => rfl) rfl (by decide)
theorem o_let_at (X : K.In h) (G : h.Ns mainGlobals mg) (c : He.SaysD [] fn K) (q : ckW K = true) : DefOk P w K mg base g T 23 "let_at" 4 .pos :=
  mk_pos (c.def_ 23 (d := d_let_at) rfl) (glo_all X G q (by decide +kernel)) f_let_at (by decide) k_let_at (fun _ _ _ _ _ _ us hl => match us, hl with | [_, _, _, _], _ => rfl) rfl (by decide)
theorem o_led (X : K.In h) (G : h.Ns mainGlobals mg) (c : He.SaysD [] fn K) (q : ckW K = true) : DefOk P w K mg base g T 24 "led" 3 .pos :=
  mk_pos (c.def_ 24 (d := d_led) rfl) (glo_all X G q (by decide +kernel)) f_led (by decide) k_led (fun _ _ _ _ _ _ us hl => match us, hl with | [_, _, _], _ => rfl) rfl (by decide)
theorem o_ahead_lots (X : K.In h) (G : h.Ns mainGlobals mg) (c : He.SaysD [] fn K) (q : ckW K = true) : DefOk P w K mg base g T 25 "ahead_lots" 3 .pos :=
  mk_pos (c.def_ 25 (d := d_ahead_lots) rfl) (glo_all X G q (by decide +kernel)) f_ahead_lots (by decide) k_ahead_lots (fun _ _ _ _ _ _ us hl => match us, hl with | [_, _, _], _ => rfl) rfl (by decide)
theorem o_behind_lots (X : K.In h) (G : h.Ns mainGlobals mg) (c : He.SaysD [] fn K) (q : ckW K = true) : DefOk P w K mg base g T 26 "behind_lots" 3 .pos :=
  mk_pos (c.def_ 26 (d := d_behind_lots) rfl) (glo_all X G q (by decide +kernel)) f_behind_lots (by decide) k_behind_lots (fun _ _ _ _ _ _ us hl => match us, hl with | [_, _, _], _ => rfl) rfl (by decide)
theorem o_met_lots (X : K.In h) (G : h.Ns mainGlobals mg) (c : He.SaysD [] fn K) (q : ckW K = true) : DefOk P w K mg base g T 27 "met_lots" 3 .pos :=
  mk_pos (c.def_ 27 (d := d_met_lots) rfl) (glo_all X G q (by decide +kernel)) f_met_lots (by decide) k_met_lots (fun _ _ _ _ _ _ us hl => match us, hl with | [_, _, _], _ => rfl) rfl (by decide)
theorem o_lots (X : K.In h) (G : h.Ns mainGlobals mg) (c : He.SaysD [] fn K) (q : ckW K = true) : DefOk P w K mg base g T 28 "lots" 4 .kw :=
  mk_kw (n := 3) (c.def_ 28 (d := d_lots) rfl) (glo_all X G q (by decide +kernel)) (emp_all q (by decide +kernel)) f_lots (by decide) k_lots (fun _ _ _ _ _ _ us ws l1 l2 => match us, ws, l1, l2 with | [_, _, _], [_], _, _ => ⟨_, _, _, _, _, _, rfl, rfl, rfl⟩) (fun _ _ _ _ _ _ us ws l1 l2 => match us, ws, l1, l2 with | [_, _, _], [_], _, _ => rfl) rfl rfl (by decide)
theorem o_is_step (X : K.In h) (G : h.Ns mainGlobals mg) (c : He.SaysD [] fn K) (q : ckW K = true) : DefOk P w K mg base g T 29 "is_step" 4 .pos :=
  mk_pos (c.def_ 29 (d := d_is_step) rfl) (glo_all X G q (by decide +kernel)) f_is_step (by decide) k_is_step (fun _ _ _ _ _ _ us hl => match us, hl with | [_, _, _, _], _ => rfl) rfl (by decide)
theorem o_first_of (X : K.In h) (G : h.Ns mainGlobals mg) (c : He.SaysD [] fn K) (q : ckW K = true) : DefOk P w K mg base g T 30 "first_of" 3 .pos :=
  mk_pos (c.def_ 30 (d := d_first_of) rfl) (glo_all X G q (by decide +kernel)) f_first_of (by decide) k_first_of (fun _ _ _ _ _ _ us hl => match us, hl with | [_, _, _], _ => rfl) rfl (by decide)
theorem o_first_story (X : K.In h) (G : h.Ns mainGlobals mg) (c : He.SaysD [] fn K) (q : ckW K = true) : DefOk P w K mg base g T 31 "first_story" 4 .kw :=
  mk_kw (n := 3) (c.def_ 31 (d := d_first_story) rfl) (glo_all X G q (by decide +kernel)) (emp_all q (by decide +kernel)) f_first_story (by decide) k_first_story (fun _ _ _ _ _ _ us ws l1 l2 => match us, ws, l1, l2 with | [_, _, _], [_], _, _ => ⟨_, _, _, _, _, _, rfl, rfl, rfl⟩) (fun _ _ _ _ _ _ us ws l1 l2 => match us, ws, l1, l2 with | [_, _, _], [_], _, _ => rfl) rfl rfl (by decide)
theorem o_is_story (X : K.In h) (G : h.Ns mainGlobals mg) (c : He.SaysD [] fn K) (q : ckW K = true) : DefOk P w K mg base g T 32 "is_story" 3 .pos :=
  mk_pos (c.def_ 32 (d := d_is_story) rfl) (glo_all X G q (by decide +kernel)) f_is_story (by decide) k_is_story (fun _ _ _ _ _ _ us hl => match us, hl with | [_, _, _], _ => rfl) rfl (by decide)
theorem o_walks (X : K.In h) (G : h.Ns mainGlobals mg) (c : He.SaysD [] fn K) (q : ckW K = true) : DefOk P w K mg base g T 33 "walks" 3 .pos :=
  mk_pos (c.def_ 33 (d := d_walks) rfl) (glo_all X G q (by decide +kernel)) f_walks (by decide) k_walks (fun _ _ _ _ _ _ us hl => match us, hl with | [_, _, _], _ => rfl) rfl (by decide)
theorem o_broken_by (X : K.In h) (G : h.Ns mainGlobals mg) (c : He.SaysD [] fn K) (q : ckW K = true) : DefOk P w K mg base g T 34 "broken_by" 3 .pos :=
  mk_pos (c.def_ 34 (d := d_broken_by) rfl) (glo_all X G q (by decide +kernel)) f_broken_by (by decide) k_broken_by (fun _ _ _ _ _ _ us hl => match us, hl with | [_, _, _], _ => rfl) rfl (by decide)
theorem o_breaks (X : K.In h) (G : h.Ns mainGlobals mg) (c : He.SaysD [] fn K) (q : ckW K = true) : DefOk P w K mg base g T 35 "breaks" 4 .pos :=
  mk_pos (c.def_ 35 (d := d_breaks) rfl) (glo_all X G q (by decide +kernel)) f_breaks (by decide) k_breaks (fun _ _ _ _ _ _ us hl => match us, hl with | [_, _, _, _], _ => rfl) rfl (by decide)
theorem o_fits (X : K.In h) (G : h.Ns mainGlobals mg) (c : He.SaysD [] fn K) (q : ckW K = true) : DefOk P w K mg base g T 36 "fits" 5 .kw :=
  mk_kw (n := 4) (c.def_ 36 (d := d_fits) rfl) (glo_all X G q (by decide +kernel)) (emp_all q (by decide +kernel)) f_fits (by decide) k_fits (fun _ _ _ _ _ _ us ws l1 l2 => match us, ws, l1, l2 with | [_, _, _, _], [_], _, _ => ⟨_, _, _, _, _, _, rfl, rfl, rfl⟩) (fun _ _ _ _ _ _ us ws l1 l2 => match us, ws, l1, l2 with | [_, _, _, _], [_], _, _ => rfl) rfl rfl (by decide)
theorem o_count_stories (X : K.In h) (G : h.Ns mainGlobals mg) (c : He.SaysD [] fn K) (q : ckW K = true) : DefOk P w K mg base g T 37 "count_stories" 4 .kw :=
  mk_kw (n := 3) (c.def_ 37 (d := d_count_stories) rfl) (glo_all X G q (by decide +kernel)) (emp_all q (by decide +kernel)) f_count_stories (by decide) k_count_stories (fun _ _ _ _ _ _ us ws l1 l2 => match us, ws, l1, l2 with | [_, _, _], [_], _, _ => ⟨_, _, _, _, _, _, rfl, rfl, rfl⟩) (fun _ _ _ _ _ _ us ws l1 l2 => match us, ws, l1, l2 with | [_, _, _], [_], _, _ => rfl) rfl rfl (by decide)
theorem o_folk_lots (X : K.In h) (G : h.Ns mainGlobals mg) (c : He.SaysD [] fn K) (q : ckW K = true) : DefOk P w K mg base g T 38 "folk_lots" 1 .pos :=
  mk_pos (c.def_ 38 (d := d_folk_lots) rfl) (glo_all X G q (by decide +kernel)) f_folk_lots (by decide) k_folk_lots (fun _ _ _ _ _ _ us hl => match us, hl with | [_], _ => rfl) rfl (by decide)
theorem o_least_of (X : K.In h) (G : h.Ns mainGlobals mg) (c : He.SaysD [] fn K) (q : ckW K = true) : DefOk P w K mg base g T 39 "least_of" 3 .pos :=
  mk_pos (c.def_ 39 (d := d_least_of) rfl) (glo_all X G q (by decide +kernel)) f_least_of (by decide) k_least_of (fun _ _ _ _ _ _ us hl => match us, hl with | [_, _, _], _ => rfl) rfl (by decide)
theorem o_least_lots (X : K.In h) (G : h.Ns mainGlobals mg) (c : He.SaysD [] fn K) (q : ckW K = true) : DefOk P w K mg base g T 40 "least_lots" 3 .pos :=
  mk_pos (c.def_ 40 (d := d_least_lots) rfl) (glo_all X G q (by decide +kernel)) f_least_lots (by decide) k_least_lots (fun _ _ _ _ _ _ us hl => match us, hl with | [_, _, _], _ => rfl) rfl (by decide)
theorem o_honest (X : K.In h) (G : h.Ns mainGlobals mg) (c : He.SaysD [] fn K) (q : ckW K = true) : DefOk P w K mg base g T 41 "honest" 3 .pos :=
  mk_pos (c.def_ 41 (d := d_honest) rfl) (glo_all X G q (by decide +kernel)) f_honest (by decide) k_honest (fun _ _ _ _ _ _ us hl => match us, hl with | [_, _, _], _ => rfl) rfl (by decide)
theorem o_empty_at (X : K.In h) (G : h.Ns mainGlobals mg) (c : He.SaysD [] fn K) (q : ckW K = true) : DefOk P w K mg base g T 42 "empty_at" 4 .kw :=
  mk_kw (n := 3) (c.def_ 42 (d := d_empty_at) rfl) (glo_all X G q (by decide +kernel)) (emp_all q (by decide +kernel)) f_empty_at (by decide) k_empty_at (fun _ _ _ _ _ _ us ws l1 l2 => match us, ws, l1, l2 with | [_, _, _], [_], _, _ => ⟨_, _, _, _, _, _, rfl, rfl, rfl⟩) (fun _ _ _ _ _ _ us ws l1 l2 => match us, ws, l1, l2 with | [_, _, _], [_], _, _ => rfl) rfl rfl (by decide)
theorem o_sure (X : K.In h) (G : h.Ns mainGlobals mg) (c : He.SaysD [] fn K) (q : ckW K = true) : DefOk P w K mg base g T 43 "sure" 4 .kw :=
  mk_kw (n := 3) (c.def_ 43 (d := d_sure) rfl) (glo_all X G q (by decide +kernel)) (emp_all q (by decide +kernel)) f_sure (by decide) k_sure (fun _ _ _ _ _ _ us ws l1 l2 => match us, ws, l1, l2 with | [_, _, _], [_], _, _ => ⟨_, _, _, _, _, _, rfl, rfl, rfl⟩) (fun _ _ _ _ _ _ us ws l1 l2 => match us, ws, l1, l2 with | [_, _, _], [_], _, _ => rfl) rfl rfl (by decide)
theorem o_story_outside (X : K.In h) (G : h.Ns mainGlobals mg) (c : He.SaysD [] fn K) (q : ckW K = true) : DefOk P w K mg base g T 44 "story_outside" 3 .pos :=
  mk_pos (c.def_ 44 (d := d_story_outside) rfl) (glo_all X G q (by decide +kernel)) f_story_outside (by decide) k_story_outside (fun _ _ _ _ _ _ us hl => match us, hl with | [_, _, _], _ => rfl) rfl (by decide)
theorem o_fits_at (X : K.In h) (G : h.Ns mainGlobals mg) (c : He.SaysD [] fn K) (q : ckW K = true) : DefOk P w K mg base g T 45 "fits_at" 4 .pos :=
  mk_pos (c.def_ 45 (d := d_fits_at) rfl) (glo_all X G q (by decide +kernel)) f_fits_at (by decide) k_fits_at (fun _ _ _ _ _ _ us hl => match us, hl with | [_, _, _, _], _ => rfl) rfl (by decide)
theorem o_needless (X : K.In h) (G : h.Ns mainGlobals mg) (c : He.SaysD [] fn K) (q : ckW K = true) : DefOk P w K mg base g T 46 "needless" 4 .kw :=
  mk_kw (n := 3) (c.def_ 46 (d := d_needless) rfl) (glo_all X G q (by decide +kernel)) (emp_all q (by decide +kernel)) f_needless (by decide) k_needless (fun _ _ _ _ _ _ us ws l1 l2 => match us, ws, l1, l2 with | [_, _, _], [_], _, _ => ⟨_, _, _, _, _, _, rfl, rfl, rfl⟩) (fun _ _ _ _ _ _ us ws l1 l2 => match us, ws, l1, l2 with | [_, _, _], [_], _, _ => rfl) rfl rfl (by decide)
theorem o__law_draw (X : K.In h) (G : h.Ns mainGlobals mg) (c : He.SaysD [] fn K) (q : ckW K = true) : DefOk P w K mg base g T 47 "_law_draw" 2 .pos :=
  mk_draw (c.def_ 47 (d := d__law_draw) rfl) (glo_all X G q (by decide +kernel)) ⟨rfl, rfl, rfl, by decide +kernel, rfl, by decide +kernel, by decide +kernel⟩ (by decide +kernel) (fun C => draw_pss C (by decide +kernel)) (fun _ _ _ _ _ _ us hl => match us, hl with | [_, _], _ => rfl) rfl (by decide)
theorem o__law_refusal (X : K.In h) (G : h.Ns mainGlobals mg) (c : He.SaysD [] fn K) (q : ckW K = true) : DefOk P w K mg base g T 48 "_law_refusal" 1 .pos :=
  mk_pos (c.def_ 48 (d := d__law_refusal) rfl) (glo_all X G q (by decide +kernel)) f__law_refusal (by decide) k__law_refusal (fun _ _ _ _ _ _ us hl => match us, hl with | [_], _ => rfl) rfl (by decide)
theorem o__law_does (X : K.In h) (G : h.Ns mainGlobals mg) (c : He.SaysD [] fn K) (q : ckW K = true) : DefOk P w K mg base g T 49 "_law_does" 5 .pos :=
  mk_pos (c.def_ 49 (d := d__law_does) rfl) (glo_all X G q (by decide +kernel)) f__law_does (by decide) k__law_does (fun _ _ _ _ _ _ us hl => match us, hl with | [_, _, _, _, _], _ => rfl) rfl (by decide)
theorem o__law_asked (X : K.In h) (G : h.Ns mainGlobals mg) (c : He.SaysD [] fn K) (q : ckW K = true) : DefOk P w K mg base g T 50 "_law_asked" 5 .pos :=
  mk_pos (c.def_ 50 (d := d__law_asked) rfl) (glo_all X G q (by decide +kernel)) f__law_asked (by decide) k__law_asked (fun _ _ _ _ _ _ us hl => match us, hl with | [_, _, _, _, _], _ => rfl) rfl (by decide)
theorem o__law_lone (X : K.In h) (G : h.Ns mainGlobals mg) (c : He.SaysD [] fn K) (q : ckW K = true) : DefOk P w K mg base g T 51 "_law_lone" 5 .pos :=
  mk_pos (c.def_ 51 (d := d__law_lone) rfl) (glo_all X G q (by decide +kernel)) f__law_lone (by decide) k__law_lone (fun _ _ _ _ _ _ us hl => match us, hl with | [_, _, _, _, _], _ => rfl) rfl (by decide)
theorem o__law_kinds (X : K.In h) (G : h.Ns mainGlobals mg) (c : He.SaysD [] fn K) (q : ckW K = true) : DefOk P w K mg base g T 52 "_law_kinds" 0 .pos :=
  mk_pos (c.def_ 52 (d := d__law_kinds) rfl) (glo_all X G q (by decide +kernel)) f__law_kinds (by decide) k__law_kinds (fun _ _ _ _ _ _ us hl => match us, hl with | [], _ => rfl) rfl (by decide)
theorem o__law_claims (X : K.In h) (G : h.Ns mainGlobals mg) (c : He.SaysD [] fn K) (q : ckW K = true) : DefOk P w K mg base g T 53 "_law_claims" 1 .pos :=
  mk_pos (c.def_ 53 (d := d__law_claims) rfl) (glo_all X G q (by decide +kernel)) f__law_claims (by decide) k__law_claims (fun _ _ _ _ _ _ us hl => match us, hl with | [_], _ => rfl) rfl (by decide)
theorem allOk (X : K.In h) (G : h.Ns mainGlobals mg) (c : He.SaysD [] fn K) (q : ckW K = true) : AllI (fun i (p : Str × Nat × Kd) => DefOk P w K mg base g T i p.1 p.2.1 p.2.2) 0 tabG :=
  .cons (o_is_whole X G c q) (.cons (o_are_pairs X G c q) (.cons (o_is_house X G c q) (.cons (o_look_house X G c q) (.cons (o_look_folk X G c q) (.cons (o_look_beat X G c q) (.cons (o_look_room X G c q) (.cons (o_open_doors X G c q) (.cons (o_beside X G c q) (.cons (o_next_rooms X G c q) (.cons (o_stands X G c q) (.cons (o_is_stand X G c q) (.cons (o_is_claim X G c q) (.cons (o_holds X G c q) (.cons (o_is_so X G c q) (.cons (o_is_binding X G c q) (.cons (o_is_book X G c q) (.cons (o_book_fits X G c q) (.cons (o_look_book X G c q) (.cons (o_look_case X G c q) (.cons (o_claims_of X G c q) (.cons (o_binding X G c q) (.cons (o_tellers X G c q) (.cons (o_let_at X G c q) (.cons (o_led X G c q) (.cons (o_ahead_lots X G c q) (.cons (o_behind_lots X G c q) (.cons (o_met_lots X G c q) (.cons (o_lots X G c q) (.cons (o_is_step X G c q) (.cons (o_first_of X G c q) (.cons (o_first_story X G c q) (.cons (o_is_story X G c q) (.cons (o_walks X G c q) (.cons (o_broken_by X G c q) (.cons (o_breaks X G c q) (.cons (o_fits X G c q) (.cons (o_count_stories X G c q) (.cons (o_folk_lots X G c q) (.cons (o_least_of X G c q) (.cons (o_least_lots X G c q) (.cons (o_honest X G c q) (.cons (o_empty_at X G c q) (.cons (o_sure X G c q) (.cons (o_story_outside X G c q) (.cons (o_fits_at X G c q) (.cons (o_needless X G c q) (.cons (o__law_draw X G c q) (.cons (o__law_refusal X G c q) (.cons (o__law_does X G c q) (.cons (o__law_asked X G c q) (.cons (o__law_lone X G c q) (.cons (o__law_kinds X G c q) (.cons (o__law_claims X G c q) (.nil))))))))))))))))))))))))))))))))))))))))))))))))))))))
end
theorem facts {P : Program} {w : World} {K : PySem.W.Frag} {h : Heap} {mg : Str → Option Value} {f : Addr} (run : ∀ ns : List Int, ns.length ≤ 63 → ∃ t, execB (callN T 12) c_law (none :: some (false, tTown) :: List.replicate N_law.length none) ⟨nums0 ns, 0⟩ = .ret (.bool true) t) (X : K.In h) (G : h.Ns mainGlobals mg) (hfa : mg ("law" : Str) = some (.ref f)) (c : He.SaysD [] fn K) (q : ckW K = true) :
    ∃ fd : FuncData, (∀ (s : Shared) (v : Value), BindsTo s fd ⟨[v], []⟩ [("script", v)]) ∧ ∀ base : Heap, K.In base → base.Ns mainGlobals mg → FnOk P w K mg base (L2.CX P w) (12 + 1) f fd ["script"] (spL K) := by
  obtain ⟨fdT, FT⟩ := c.def_ 54 (d := d__law_town) rfl
  obtain ⟨fd, F⟩ := c.def_ 55 (d := d_law) rfl
  have mT : mg ("_law_town" : Str) = some (.ref (He.ga K "_law_town")) := glo_all X G q (by decide +kernel)
  have e := hfa.symm.trans (show mg ("law" : Str) = some (.ref (He.ga K "law")) from glo_all X G q (by decide +kernel))
  cases e
  have b := FunD.bindsA (ps := ["script"]) F fun _ _ _ _ _ _ us hl => match us, hl with | [_], _ => rfl
  have bT : Binds K fdT ["script"] [] := FT.bindsN fun _ _ _ _ _ _ us hl => match us, hl with | [_], _ => rfl
  refine ⟨fd, fun s v => b s [v] rfl, fun base KB GB => ?_⟩
  have ar : ∀ n, Arity g (callN T n) := arity_N (ar_all (by decide +kernel))
  have Gx := gfx_N (P := P) (w := w) (base := base) (g := g) (T := T) (cls := clsW K) (free_all X G q) (csts_all X G q) (fun aT aN => excF_of X G (ck_exc q) aT aN) ar (fun f x np kd hf => (allOk X G c q).get0 hf)
  have hl : FnOk P w K mg base (L2.CX P w) 12 (He.ga K "_law_town") fdT ["script"] (spTown K) := town_fn (k := 12 - 1) (free_all X G q _ (by decide +kernel)) FT ⟨rfl, rfl, rfl, by decide +kernel, rfl, by decide +kernel, by decide +kernel⟩ (fun h1 h2 h3 h4 => town_pss h1 h2 h3 h4 (by decide +kernel))
  exact law_fn (rest := restL) (fun aT aN => Gx aT aN 12) (ar 12) F f_law hl FT.kp bT mT (by decide +kernel) rfl k_law run
end Wl
open PySem PySem.W PySem.Calls PyProof.Rows
theorem PySem.Challenge.cw_wherewas_k17_books_refused_holds : PySem.Challenge.rw_wherewas_k17_books_refused.Holds := by
  w_on; o_law
  refine HandSHeadRun.head_any (r := OpenLaw.row PySem.Challenge.rw_wherewas_k17_books_refused) (q := view (OpenLaw.row PySem.Challenge.rw_wherewas_k17_books_refused).prog [77]) (H := Wl.hk) (ob := Wv.obW 4 [] Wl.fn Wl.ckW) (M := 20000) (loose := Wl.loose) (d := HandSHeadRun.topDef (OpenLaw.row PySem.Challenge.rw_wherewas_k17_books_refused).prog 77) (kwd := []) Wv.obW_eq
    (by kernel_rfl) (fun s => by kernel_rfl) Wl.run (by kernel_rfl) (by kernel_rfl) (by kernel_rfl) (by rfl) (by first | assumption | decide +kernel) (by decide +kernel) ⟨rfl, rfl, rfl, rfl, rfl, by decide +kernel⟩ ?hw ?hc
  case hw => w_witness2
  case hc =>
    refine L2.walk_ofE (l := PySem.Challenge.rw_wherewas_k17_books_refused) (n := 63) (k := 13) (x := "script") (CX := Wv.CXU PySem.Challenge.pw_wherewas_k17_books_refused) rfl (by decide) (by kernel_rfl) ⟨rfl, by decide, by decide⟩ ?F (fun _ _ _ _ z => Wv.cxu_no z)
    intro w mg fa h Y G hmg0
    obtain ⟨K, KX, c, q⟩ := Y
    have hmg : mg ("law" : PySem.Str) = some (.ref fa) := by
      have e : (HandSHeadRun.topDef (OpenLaw.row PySem.Challenge.rw_wherewas_k17_books_refused).prog 77).name = ("law" : PySem.Str) := by kernel_rfl
      rw [← e]
      exact hmg0
    obtain ⟨fd, hb, hF⟩ := Wl.facts (P := PySem.Challenge.pw_wherewas_k17_books_refused) (w := w) Wl.runs KX G hmg c q
    exact ⟨K, fd, Wv.spL K, KX, hb, fun H a ns hl _ hS => ⟨a, ns, rfl, hl, hS, fun _ => rfl⟩, fun base KB GB => Wv.fn_cx (hF base KB GB)⟩
