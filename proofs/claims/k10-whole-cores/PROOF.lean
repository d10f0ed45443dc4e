import PyProof.Rows.All
import Wide.All
import OpenK.AllK
import Wide.FinOn
import HandS.ForMost
import HandS.Exc
import HandS.TupAny
import KE.DataEq
import KE.DataCmp
import KE.DataAny
import KE.DataFind
import KE.DataIsa
import KE.DataMinMax
import KE.SortData
import HandS.Dict
import KE.KEqDict
import HandS.Style
import HandS.More
import KE.KDictCopyH
import KE.KDictSum
import KE.SortCalls
import HandS.TupLen
import HandS.Keys
import PyProof.DictTruth
import HandS.IsInst
import HandS.Deep
import HandS.Iter
import KE.GoesEnum
import HandS.DictComp
import HandS.CallSlots
import HandS.ExcOwn
import HandS.WordsExc
import HandS.ExcIs
import HandS.Defaults
import HandS.Zip
import KE.KDictZip
import HandS.Conv
import HandS.List
import HandS.Head0
import HandS.Head1
import HandS.Head2
import HandS.HeadEnd
import HandS.HeadHook1
import HandS.HeadHook2
import PySem.Challenge.RW_wherewas_k10_whole_cores
set_option Elab.async false
set_option linter.all false
set_option autoImplicit false
set_option maxRecDepth 100000
namespace Wv
open PySem

/-- the town: the numbers left of the script, how many draws were made -/
structure Tw where
  ns : List Int
  k : Nat
deriving DecidableEq

/-- what an expression comes to -/
inductive R (α : Type) where
  | ok (a : α) (t : Tw)
  | exc (c : Nat) (t : Tw)
  | bad

@[simp] def R.bind {α β : Type} (x : R α) (f : α → Tw → R β) : R β :=
  match x with
  | .ok a t => f a t
  | .exc c t => .exc c t
  | .bad => .bad

abbrev Env := List (Option (Bool × PyData))

inductive Tg where
  | name (i : Nat)
  | tup (is : List Nat)

inductive Bi where
  | len | any | all | sum | min | max | min2 | sorted | tuple | list | str | int | lzip
deriving DecidableEq

inductive Ty where
  | int | bool | str | tuple | list | exc (c : Nat) | ve
deriving DecidableEq

inductive Mt where
  | lcount | lindex
deriving DecidableEq

mutual
inductive CE where
  | var (i : Nat)
  | cst (d : PyData)
  | glb (x : Str) (d : PyData)
  | tup (es : CL)
  | lst (es : CL)
  | bin (o : Operator) (a b : CE)
  | neg (a : CE)
  | cmp (o : CmpOp) (a b : CE)
  | chn (o p : CmpOp) (a b c : CE)
  | and (a b : CE)
  | or (a b : CE)
  | not (a : CE)
  | ite (c a b : CE)
  | ix (a i : CE)
  | sl (a : CE) (lo hi : CO)
  | call (f : Nat) (es : CL)
  | call0 (f : Nat)
  | callK (f : Nat) (es : CL) (k : CE)
  | callD (f : Nat) (es : CL)
  | bi (b : Bi) (es : CL)
  | isi (a : CE) (t : Ty)
  | mth (m : Mt) (a b : CE)
  | lc1 (e : CE) (own : List Nat) (tg : Tg) (it : CI) (c : CO)
  | lc2 (e : CE) (own own2 : List Nat) (tg : Tg) (it : CI) (c : CO) (tg2 : Tg) (it2 : CI) (c2 : CO)
  | dc1 (k v : CE) (own : List Nat) (tg : Tg) (it : CI) (c : CO)
  | dc2 (k v : CE) (own own2 : List Nat) (tg : Tg) (it : CI) (c : CO) (tg2 : Tg) (it2 : CI) (c2 : CO)
  | dct0
  | lzip (es : CL)
  | rev (a : CE)
  | lrng (a : CE)
  | trng (a : CE)
  | dget (a k d : CE)
  | hole
inductive CL where
  | nil
  | cons (e : CE) (r : CL)
inductive CO where
  | none
  | some (e : CE)
inductive CI where
  | val (e : CE)
  | rng1 (a : CE)
  | rng2 (a b : CE)
  | rng3 (a b c : CE)
  | enm (e : CE)
end

mutual
inductive CS where
  | asg (i : Nat) (e : CE)
  | own (i : Nat) (e : CE)
  | asgT (is : List Nat) (e : CE)
  | asgP (is : List Nat) (es : CL)
  | app (i : Nat) (e : CE)
  | setI (i : Nat) (k v : CE)
  | expr (e : CE)
  | ret (e : CE)
  | raise (c : Nat)
  | ite (c : CE) (a b : CB)
  | for_ (tg : Tg) (it : CI) (b : CB)
  | try_ (b : CB) (ie ic : Nat)
  | hole
inductive CB where
  | nil
  | cons (s : CS) (r : CB)
  | shr (i : Nat) (r : CB)
  | hole
end

/-! ### operations on data -/
def lineN : Nat := 16777216

mutual
/-- the very same datum -/
def sameD : PyData → PyData → Bool
  | .none, .none => true
  | .bool b, .bool c => b == c
  | .int i, .int j => decide (i = j)
  | .str a, .str b => decide (a = b)
  | .list xs, .list ys => sameL xs ys
  | .tuple xs, .tuple ys => sameL xs ys
  | _, _ => false
def sameL : List PyData → List PyData → Bool
  | [], [] => true
  | x :: xs, y :: ys => sameD x y && sameL xs ys
  | _, _ => false
end

/-! ### dicts: keys are whole numbers and texts, or tuples of them that begin with a number -/
def leafD : PyData → Bool
  | .int _ => true
  | .str _ => true
  | _ => false
def kindD : PyData → Option Bool
  | .int _ => some false
  | .str _ => some false
  | .tuple (.int _ :: r) => if r.all leafD then some true else none
  | _ => none
/-- a dict of ours (the town and the refusals are told apart) -/
def okDict : List (PyData × PyData) → Bool
  | [] => true
  | (k, _) :: _ => (kindD k).isSome
/-- a key of the kind of the dict's keys -/
def fitD (k : PyData) : List (PyData × PyData) → Bool
  | [] => (kindD k).isSome
  | (k0, _) :: _ => (kindD k).isSome && decide (kindD k0 = kindD k)
def getL (kds : List (PyData × PyData)) (k : PyData) : Option PyData := (kds.find? fun p => sameD p.1 k).map (·.2)
def putL (kds : List (PyData × PyData)) (k v : PyData) : List (PyData × PyData) :=
  if kds.any (fun p => sameD p.1 k) then kds.map (fun p => if sameD p.1 k then (p.1, v) else p) else kds ++ [(k, v)]
def putD (kds : List (PyData × PyData)) (k v : PyData) : Option (List (PyData × PyData)) :=
  if fitD k kds && decide (kds.length < lineN) then some (putL kds k v) else none
def inD (kds : List (PyData × PyData)) (k : PyData) : Option Bool := if fitD k kds then some (getL kds k).isSome else none

def okIf (b : Bool) (d : PyData) : Option PyData := if b then some d else none

def mulOk (i j : Int) : Bool := (decide (-18446744073709551616 < i) && decide (i < 18446744073709551616)) || (decide (-18446744073709551616 < j) && decide (j < 18446744073709551616))

def binD (o : Operator) (x y : PyData) : Option PyData :=
  match o, x, y with
  | .Add, .int i, .int j => some (.int (i + j))
  | .Add, .list xs, .list ys => okIf (decide (xs.length + ys.length ≤ lineN)) (.list (xs ++ ys))
  | .Add, .tuple xs, .tuple ys => okIf (decide (xs.length + ys.length ≤ lineN)) (.tuple (xs ++ ys))
  | .Add, .str a, .str b => okIf (decide (a.length + b.length ≤ lineN)) (.str (a ++ b))
  | .Sub, .int i, .int j => some (.int (i - j))
  | .Mult, .int i, .int j => okIf (mulOk i j) (.int (i * j))
  | .Mult, .list xs, .int k => okIf (decide (-9223372036854775808 ≤ k) && decide (k < 9223372036854775808) && decide (xs.length * k.toNat ≤ lineN)) (.list (List.replicate k.toNat xs).flatten)
  | .FloorDiv, .int i, .int j => okIf (decide (0 < j) && decide (j < 1073741824)) (.int (i / j))
  | .Mod, .int i, .int j => okIf (decide (0 < j)) (.int (i % j))
  | .Pow, .int i, .int j => okIf (decide (0 ≤ j) && decide (j ≤ 1000) && decide (i.natAbs < 18446744073709551616)) (.int (i ^ j.toNat))
  | _, _, _ => none

/-- both without dicts, one of them not deep -/
def flatB (x y : PyData) : Bool := x.plain && y.plain && decide (min x.depth y.depth ≤ 50)

def ordB (x y : PyData) : Bool := PySem.W.alike x y && (x.plain && y.plain) && (match x with | .none => false | _ => true) && decide (min x.depth y.depth ≤ 50)

def cmpD (o : CmpOp) (x y : PyData) : Option Bool :=
  match o with
  | .Eq => match x, y with
    | .dict a, .dict [] => if okDict a then some (decide (a.length = 0)) else none
    | x, y => if flatB x y then some (PyData.eqv x y) else none
  | .NotEq => match x, y with
    | .dict a, .dict [] => if okDict a then some (!decide (a.length = 0)) else none
    | x, y => if flatB x y then some (!PyData.eqv x y) else none
  | .Lt => match x, y with
    | .int i, .int j => some (decide (i < j))
    | x, y => if ordB x y then some (PySem.W.dataLt x y) else none
  | .LtE => match x, y with
    | .int i, .int j => some (decide (i ≤ j))
    | x, y => if ordB x y then some (!PySem.W.dataLt y x) else none
  | .Gt => match x, y with
    | .int i, .int j => some (decide (j < i))
    | x, y => if ordB x y then some (PySem.W.dataLt y x) else none
  | .GtE => match x, y with
    | .int i, .int j => some (decide (j ≤ i))
    | x, y => if ordB x y then some (!PySem.W.dataLt x y) else none
  | .Is => match x, y with
    | .bool a, .bool b => some (decide (a = b))
    | x, .none => some (match x with | .none => true | _ => false)
    | _, _ => none
  | .IsNot => match x, y with
    | .bool a, .bool b => some (!decide (a = b))
    | x, .none => some (match x with | .none => false | _ => true)
    | _, _ => none
  | .In => match y with
    | .list ys => if x.plain && PyData.plainAll ys && decide (min (PyData.depthAll ys) x.depth ≤ 50) then some (ys.any fun z => PyData.eqv z x) else none
    | .tuple ys => if x.plain && PyData.plainAll ys && decide (min (PyData.depthAll ys) x.depth ≤ 50) then some (ys.any fun z => PyData.eqv z x) else none
    | .dict kds => inD kds x
    | _ => none
  | .NotIn => match y with
    | .list ys => if x.plain && PyData.plainAll ys && decide (min (PyData.depthAll ys) x.depth ≤ 50) then some (!ys.any fun z => PyData.eqv z x) else none
    | .tuple ys => if x.plain && PyData.plainAll ys && decide (min (PyData.depthAll ys) x.depth ≤ 50) then some (!ys.any fun z => PyData.eqv z x) else none
    | .dict kds => (inD kds x).map (!·)
    | _ => none

def ixD (x i : PyData) : Option PyData :=
  match x, i with
  | .list xs, .int k => L2.atI xs k
  | .tuple xs, .int k => L2.atI xs k
  | .dict kds, k => if fitD k kds then getL kds k else none
  | _, _ => none

def cut {α : Type} (xs : List α) (lo hi : Option Int) : List α :=
  (xs.drop (HT.sIx xs.length 0 lo)).take (HT.sIx xs.length xs.length hi - HT.sIx xs.length 0 lo)

def slD (x : PyData) (lo hi : Option Int) : Option PyData :=
  match x with
  | .list xs => some (.list (cut xs lo hi))
  | .tuple xs => some (.tuple (cut xs lo hi))
  | _ => none

def intsOf : List PyData → Option (List Int)
  | [] => some []
  | .int i :: r => (intsOf r).map (i :: ·)
  | _ => none
def boolsOf : List PyData → Option (List Bool)
  | [] => some []
  | .bool b :: r => (boolsOf r).map (b :: ·)
  | _ => none

/-- insertion by an order: the sort that the kernel can run -/
def insD (le : PyData → PyData → Bool) (x : PyData) : List PyData → List PyData
  | [] => [x]
  | y :: r => if le x y then x :: y :: r else y :: insD le x r
def sortD (le : PyData → PyData → Bool) : List PyData → List PyData
  | [] => []
  | x :: r => insD le x (sortD le r)

def allAlike (xs : List PyData) : Bool := match xs with
  | [] => true
  | x :: r => (x :: r).all fun y => (x :: r).all fun z => PySem.W.alike y z
def sortOk (xs : List PyData) : Bool := allAlike xs && xs.all (fun d => d.plain && decide (d.depth ≤ 50)) &&
  (xs.all (fun d => match d with | .tuple (_ :: _) => true | _ => false) || xs.all (fun d => match d with | .none => false | .tuple _ => false | _ => true))
/-- a list of one item, the empty tuple -/
def oneB : List PyData → Bool
  | [.tuple []] => true
  | _ => false
def leD (x y : PyData) : Bool := !PySem.W.dataLt y x

def biD (b : Bi) (vs : List PyData) : Option PyData :=
  match b, vs with
  | .len, [.list xs] => some (.int xs.length)
  | .len, [.tuple xs] => some (.int xs.length)
  | .len, [.dict kds] => if okDict kds then some (.int kds.length) else none
  | .any, [.list xs] => (boolsOf xs).map fun bs => .bool (bs.any id)
  | .all, [.list xs] => (boolsOf xs).map fun bs => .bool (bs.all id)
  | .sum, [.list xs] => (intsOf xs).map fun ns => .int ns.sum
  | .min2, [.int i, .int j] => some (.int (if j < i then j else i))
  | .tuple, [.list xs] => some (.tuple xs)
  | .sorted, [.list xs] => okIf (sortOk xs || oneB xs) (.list (sortD leD xs))
  | .sorted, [.dict kds] => okIf (okDict kds && sortOk (kds.map (·.1))) (.list (sortD leD (kds.map (·.1))))
  | .list, [.list xs] => some (.list xs)
  | .list, [.tuple xs] => some (.list xs)
  | .max, [.list (x :: xs)] => (intsOf (x :: xs)).bind fun ns => match ns with
    | [] => none
    | n :: r => some (.int (r.foldl (fun a b => if a < b then b else a) n))
  | _, _ => none

def tExc (c : Nat) : PyData := .dict [(.none, .int c)]
def tTown : PyData := .dict [(.none, .none)]

/-- isinstance of a caught refusal: 0 is the class above all others -/
def excIs (c : Nat) (d : PyData) : Option Bool := match d with
  | .dict [(.none, .int i)] => if 0 ≤ i ∧ i < 9 then some (decide (c = 0) || decide (i = (c : Int))) else none
  | _ => none
def isiD (t : Ty) (d : PyData) : Option Bool :=
  match t with
  | .exc c => excIs c d
  | .ve => excIs 0 d
  | .int => (match d with
    | .int _ => some true
    | .bool _ => some true
    | .dict _ => none
    | _ => some false)
  | .bool => (match d with
    | .bool _ => some true
    | .dict _ => none
    | _ => some false)
  | .str => (match d with
    | .str _ => some true
    | .dict _ => none
    | _ => some false)
  | .tuple => (match d with
    | .tuple _ => some true
    | .dict _ => none
    | _ => some false)
  | .list => (match d with
    | .list _ => some true
    | .dict _ => none
    | _ => some false)

def findD (x : PyData) : List PyData → Option Nat
  | [] => none
  | y :: r => if PyData.eqv y x then some 0 else (findD x r).map (· + 1)

def mthD (m : Mt) (xs : List PyData) (y : PyData) : Option PyData :=
  match m with
  | .lcount => okIf (y.plain && PyData.plainAll xs && decide (min (PyData.depthAll xs) y.depth ≤ 50)) (.int ((xs.countP fun z => PyData.eqv z y : Nat) : Int))
  | .lindex => if SeqAt.shaped (.list xs) && SeqAt.shaped y then (findD y xs).map fun i => .int (i : Nat) else none

/-- the pairs of two tuples of one length -/
def zipD (vs : List PyData) : Option PyData := match vs with
  | [.tuple xs, .tuple ys] => if xs.length = ys.length then some (.list (List.zipWith (fun x y => .tuple [x, y]) xs ys)) else none
  | _ => none
def revD (d : PyData) : Option PyData := match d with
  | .list xs => some (.list xs.reverse)
  | _ => none

def R.of {α : Type} (o : Option α) (t : Tw) : R α := match o with
  | some a => .ok a t
  | none => .bad

/-! ### places -/
def bindTg : Tg → PyData → Env → Option Env
  | .name i, d, env => some (env.set i (some (false, d)))
  | .tup is, .tuple ds, env => if is.length = ds.length then some ((is.zip ds).foldl (fun e p => e.set p.1 (some (false, p.2))) env) else none
  | _, _, _ => none

def wipeE (env : Env) : List Nat → Env
  | [] => env
  | v :: vs => (wipeE env vs).set v none

/-- what a test sees: lists that are owned as if they were shared, dicts as they are -/
def borrowP : Bool × PyData → Bool × PyData
  | (o, .dict kds) => (o, .dict kds)
  | (_, d) => (false, d)
def borrow (env : Env) : Env := env.map fun o => o.map borrowP

/-- the items of range(a, b, s) -/
def rngs (a : Int) (s : Int) : Nat → List PyData
  | 0 => []
  | n + 1 => .int a :: rngs (a + s) s n

def small (i : Int) : Bool := Nat.ble i.natAbs 1000000

def lcLoop (f : PyData → Tw → R (List PyData)) : List PyData → Tw → R (List PyData)
  | [], t => .ok [] t
  | x :: xs, t => match f x t with
    | .ok ys t' => (match lcLoop f xs t' with
      | .ok zs t'' => .ok (ys ++ zs) t''
      | _ => .bad)
    | _ => .bad

def dcLoop (f : PyData → List (PyData × PyData) → Tw → R (List (PyData × PyData))) : List PyData → List (PyData × PyData) → Tw → R (List (PyData × PyData))
  | [], acc, t => .ok acc t
  | x :: xs, acc, t => match f x acc t with
    | .ok acc' t' => dcLoop f xs acc' t'
    | _ => .bad
def putR (kds : List (PyData × PyData)) (k v : PyData) (t : Tw) : R (List (PyData × PyData)) := match putD kds k v with
  | some kds' => .ok kds' t
  | none => .bad

mutual
def evalE (F : Nat → List PyData → Tw → R PyData) (m : Bool) : CE → Env → Tw → R PyData
  | .var i, env, t => match env[i]? with
    | some (some (o, d)) => if m || !o then .ok d t else .bad
    | _ => .bad
  | .cst d, _, t => .ok d t
  | .glb _ d, _, t => .ok d t
  | .tup es, env, t => (evalL F es env t).bind fun ds t => R.of (okIf (decide (ds.length ≤ lineN)) (.tuple ds)) t
  | .lst es, env, t => (evalL F es env t).bind fun ds t => R.of (okIf (decide (ds.length ≤ lineN)) (.list ds)) t
  | .bin o a b, env, t => (evalE F true a env t).bind fun x t => (evalE F true b env t).bind fun y t => R.of (binD o x y) t
  | .neg a, env, t => (evalE F true a env t).bind fun x t => match x with
    | .int i => .ok (.int (-i)) t
    | _ => .bad
  | .cmp o a b, env, t => (evalE F true a env t).bind fun x t => (evalE F true b env t).bind fun y t => R.of ((cmpD o x y).map .bool) t
  | .chn o p a b c, env, t => (evalE F true a env t).bind fun x t => (evalE F true b env t).bind fun y t => match cmpD o x y with
    | some true => (evalE F true c env t).bind fun z t => R.of ((cmpD p y z).map .bool) t
    | some false => .ok (.bool false) t
    | none => .bad
  | .and a b, env, t => (evalE F true a env t).bind fun x t => match x with
    | .bool true => evalE F m b env t
    | .bool false => .ok (.bool false) t
    | _ => .bad
  | .or a b, env, t => (evalE F true a env t).bind fun x t => match x with
    | .bool true => .ok (.bool true) t
    | .bool false => evalE F m b env t
    | _ => .bad
  | .not a, env, t => (evalE F true a env t).bind fun x t => match x with
    | .bool b => .ok (.bool (!b)) t
    | _ => .bad
  | .ite c a b, env, t => (evalE F true c env t).bind fun x t => match x with
    | .bool true => evalE F m a env t
    | .bool false => evalE F m b env t
    | _ => .bad
  | .ix a i, env, t => (evalE F true a env t).bind fun x t => (evalE F true i env t).bind fun y t => R.of (ixD x y) t
  | .sl a lo hi, env, t => (evalE F true a env t).bind fun x t => (evalO F lo env t).bind fun l t => (evalO F hi env t).bind fun h t => R.of (slD x l h) t
  | .call f es, env, t => (evalL F es env t).bind fun ds t => F f ds t
  | .call0 f, _, t => match F f [] t with
    | .ok d t => .ok d t
    | _ => .bad
  | .callK f es k, env, t => (evalL F es env t).bind fun ds t => (evalE F false k env t).bind fun d t => F f (ds ++ [d]) t
  | .callD f es, env, t => (evalL F es env t).bind fun ds t => F f (ds ++ [.tuple []]) t
  | .bi b es, env, t => (evalP F es env t).bind fun ds t => R.of (biD b ds) t
  | .isi a ty, env, t => (evalE F true a env t).bind fun x t => R.of ((isiD ty x).map .bool) t
  | .mth mt a b, env, t => (evalE F true a env t).bind fun x t => match x with
    | .list xs => (evalE F true b env t).bind fun d t => R.of (mthD mt xs d) t
    | _ => .bad
  | .lc1 e own tg it c, env, t => (evalI F it env t).bind fun xs t => (lcLoop (fun x t => match bindTg tg x (wipeE env own) with
      | some env' => (evalC F c env' t).bind fun b t => if b then (evalE F false e env' t).bind fun y t => .ok [y] t else .ok [] t
      | none => .bad) xs t).bind fun ys t => .ok (.list ys) t
  | .lc2 e own own2 tg it c tg2 it2 c2, env, t => (evalI F it env t).bind fun xs t => (lcLoop (fun x t => match bindTg tg x (wipeE env own) with
      | some env' => (evalC F c env' t).bind fun b t => if b then (evalI F it2 env' t).bind fun zs t => lcLoop (fun z t => match bindTg tg2 z (wipeE env' own2) with
          | some env2 => (evalC F c2 env2 t).bind fun b t => if b then (evalE F false e env2 t).bind fun y t => .ok [y] t else .ok [] t
          | none => .bad) zs t else .ok [] t
      | none => .bad) xs t).bind fun ys t => R.of (okIf (decide (ys.length ≤ lineN)) (.list ys)) t
  | .dc1 k v own tg it c, env, t => (evalI F it env t).bind fun xs t => (dcLoop (fun x acc t => match bindTg tg x (wipeE env own) with
      | some env' => (evalC F c env' t).bind fun b t => if b then (evalE F false k env' t).bind fun kd t => (evalE F false v env' t).bind fun vd t => putR acc kd vd t else .ok acc t
      | none => .bad) xs [] t).bind fun kds t => .ok (.dict kds) t
  | .dc2 k v own own2 tg it c tg2 it2 c2, env, t => (evalI F it env t).bind fun xs t => (dcLoop (fun x acc t => match bindTg tg x (wipeE env own) with
      | some env' => (evalC F c env' t).bind fun b t => if b then (evalI F it2 env' t).bind fun zs t => dcLoop (fun z acc t => match bindTg tg2 z (wipeE env' own2) with
          | some env2 => (evalC F c2 env2 t).bind fun b t => if b then (evalE F false k env2 t).bind fun kd t => (evalE F false v env2 t).bind fun vd t => putR acc kd vd t else .ok acc t
          | none => .bad) zs acc t else .ok acc t
      | none => .bad) xs [] t).bind fun kds t => .ok (.dict kds) t
  | .dct0, _, t => .ok (.dict []) t
  | .lzip es, env, t => (evalP F es env t).bind fun ds t => R.of (zipD ds) t
  | .rev a, env, t => (evalE F true a env t).bind fun x t => R.of (revD x) t
  | .lrng a, env, t => (evalE F true a env t).bind fun x t => match x with
    | .int n => if small n then .ok (.list (rngs 0 1 n.toNat)) t else .bad
    | _ => .bad
  | .trng a, env, t => (evalE F true a env t).bind fun x t => match x with
    | .int n => if small n then .ok (.tuple (rngs 0 1 n.toNat)) t else .bad
    | _ => .bad
  | .dget a k d, env, t => (evalE F true a env t).bind fun x t => match x with
    | .dict kds => if okDict kds then (evalE F true k env t).bind fun y t => (evalE F false d env t).bind fun z t => if fitD y kds then .ok ((getL kds y).getD z) t else .bad else .bad
    | _ => .bad
  | .hole, _, _ => .bad
def evalL (F : Nat → List PyData → Tw → R PyData) : CL → Env → Tw → R (List PyData)
  | .nil, _, t => .ok [] t
  | .cons e r, env, t => (evalE F false e env t).bind fun d t => (evalL F r env t).bind fun ds t => .ok (d :: ds) t
def evalP (F : Nat → List PyData → Tw → R PyData) : CL → Env → Tw → R (List PyData)
  | .nil, _, t => .ok [] t
  | .cons e r, env, t => (evalE F true e env t).bind fun d t => (evalP F r env t).bind fun ds t => .ok (d :: ds) t
def evalO (F : Nat → List PyData → Tw → R PyData) : CO → Env → Tw → R (Option Int)
  | .none, _, t => .ok none t
  | .some e, env, t => (evalE F true e env t).bind fun d t => match d with
    | .int i => .ok (some i) t
    | _ => .bad
def evalC (F : Nat → List PyData → Tw → R PyData) : CO → Env → Tw → R Bool
  | .none, _, t => .ok true t
  | .some e, env, t => (evalE F true e env t).bind fun d t => match d with
    | .bool b => .ok b t
    | _ => .bad
def evalI (F : Nat → List PyData → Tw → R PyData) : CI → Env → Tw → R (List PyData)
  | .val e, env, t => (evalE F false e env t).bind fun d t => match d with
    | .list xs => .ok xs t
    | .tuple xs => .ok xs t
    | .dict kds => if okDict kds then .ok (kds.map (·.1)) t else .bad
    | _ => .bad
  | .rng1 a, env, t => (evalE F true a env t).bind fun x t => match x with
    | .int n => if small n then .ok (rngs 0 1 n.toNat) t else .bad
    | _ => .bad
  | .rng2 a b, env, t => (evalE F true a env t).bind fun x t => (evalE F true b env t).bind fun y t => match x, y with
    | .int i, .int j => if small i && small j then .ok (rngs i 1 (j - i).toNat) t else .bad
    | _, _ => .bad
  | .rng3 a b c, env, t => (evalE F true a env t).bind fun x t => (evalE F true b env t).bind fun y t => (evalE F true c env t).bind fun z t => match x, y, z with
    | .int i, .int j, .int s => if small i && small j && decide (s = -1) then .ok (rngs i (-1) (i - j).toNat) t else .bad
    | _, _, _ => .bad
  | .enm e, env, t => (evalE F false e env t).bind fun d t => match d with
    | .list xs => .ok (xs.zipIdx.map fun p => .tuple [.int p.2, p.1]) t
    | .tuple xs => .ok (xs.zipIdx.map fun p => .tuple [.int p.2, p.1]) t
    | _ => .bad
end

/-! ### statements -/
inductive SR where
  | next (env : Env) (t : Tw)
  | ret (d : PyData) (t : Tw)
  | exc (c : Nat) (env : Env) (t : Tw)
  | bad

@[simp] def SR.of {α : Type} (x : R α) (env : Env) (f : α → Tw → SR) : SR := match x with
  | .ok a t => f a t
  | .exc c t => .exc c env t
  | .bad => .bad

def forLoop (f : PyData → Env → Tw → SR) : List PyData → Env → Tw → SR
  | [], env, t => .next env t
  | x :: xs, env, t => match f x env t with
    | .next env' t' => forLoop f xs env' t'
    | r => r

def setD (xs : List PyData) (i v : PyData) : Option (List PyData) := match i with
  | .int k => (L2.ixN xs.length k).map fun j => xs.set j v
  | _ => none

mutual
def execS (F : Nat → List PyData → Tw → R PyData) : CS → Env → Tw → SR
  | .asg i e, env, t => SR.of (evalE F false e env t) env fun d t => .next (env.set i (some (false, d))) t
  | .own i e, env, t => SR.of (evalE F false e env t) env fun d t => .next (env.set i (some (true, d))) t
  | .asgT is e, env, t => SR.of (evalE F false e env t) env fun d t => match bindTg (.tup is) d env with
    | some env' => .next env' t
    | none => .bad
  | .asgP is es, env, t => SR.of (evalL F es env t) env fun ds t => if is.length = ds.length then .next ((is.zip ds).foldl (fun e p => e.set p.1 (some (false, p.2))) env) t else .bad
  | .app i e, env, t => match env[i]? with
    | some (some (true, .list xs)) => SR.of (evalE F false e env t) env fun d t => if xs.length < lineN then .next (env.set i (some (true, .list (xs ++ [d])))) t else .bad
    | _ => .bad
  | .setI i k v, env, t => SR.of (evalE F false v env t) env fun d t => match env[i]? with
    | some (some (true, .list xs)) => SR.of (evalE F true k env t) env fun j t => (match setD xs j d with
      | some x' => .next (env.set i (some (true, .list x'))) t
      | none => .bad)
    | some (some (true, .dict kds)) => SR.of (evalE F false k env t) env fun j t => (match putD kds j d with
      | some x' => .next (env.set i (some (true, .dict x'))) t
      | none => .bad)
    | _ => .bad
  | .expr e, env, t => SR.of (evalE F true e env t) env fun _ t => .next env t
  | .ret e, env, t => SR.of (evalE F false e env t) env fun d t => .ret d t
  | .raise c, env, t => .exc c env t
  | .ite c a b, env, t => SR.of (evalE F true c (borrow env) t) env fun x t => match x with
    | .bool true => execB F a env t
    | .bool false => execB F b env t
    | _ => .bad
  | .for_ tg it b, env, t => SR.of (evalI F it env t) env fun xs t => forLoop (fun x env t => match bindTg tg x env with
    | some env' => execB F b env' t
    | none => .bad) xs env t
  | .try_ b ie ic, env, t => match execB F b env t with
    | .exc d env' t' => if d < 9 then .next ((env'.set ic (some (false, tExc d))).set ie none) t' else .bad
    | r => r
  | .hole, _, _ => .bad
def execB (F : Nat → List PyData → Tw → R PyData) : CB → Env → Tw → SR
  | .nil, env, t => .next env t
  | .cons s r, env, t => match execS F s env t with
    | .next env' t' => execB F r env' t'
    | x => x
  | .shr i r, env, t => match env[i]? with
    | some (some (_, d)) => execB F r (env.set i (some (false, d))) t
    | _ => .bad
  | .hole, _, _ => .bad
end

/-! ### defs -/
/-- the next draw -/
def drawT (t : Tw) (c : Int) : Option (Int × Tw) :=
  if 0 < c ∧ c < 1000000 then
    match t.ns[(t.k + 1) % t.ns.length]? with
    | some cell =>
      if 1000000000000000000 ≤ cell then some (cell % c, ⟨t.ns.set ((t.k + 1) % t.ns.length) (cell / c), t.k + 1⟩)
      else
        let m1 := (cell + 104729 * ((t.k : Int) + 1)) % 4294967291
        let m2 := m1 ^ 5 % 4294967279
        some ((m2 / 64 * 69621 + m2) % 4294967231 / 8 % c, ⟨t.ns, t.k + 1⟩)
    | none => none
  else none

inductive Df where
  | code (np ns : Nat) (body : CB)
  | draw

def runDf (F : Nat → List PyData → Tw → R PyData) (d : Df) (vs : List PyData) (t : Tw) : R PyData := match d with
  | .code np ns body => if vs.length = np then (match execB F body (vs.map (fun v => some (false, v)) ++ List.replicate (ns - np) none) t with
    | .next _ t' => .ok .none t'
    | .ret d t' => .ok d t'
    | .exc c _ t' => .exc c t'
    | .bad => .bad) else .bad
  | .draw => match vs with
    | [.dict [(.none, .none)], .int c] => (match drawT t c with
      | some (r, t') => .ok (.int r) t'
      | none => .bad)
    | _ => .bad

end Wv

set_option maxHeartbeats 1000000
namespace Wv
open PySem L2

/-- fixed places: the town's list, its numbers; the classes of refusals -/
structure Cz where
  aT : Addr
  aN : Addr
  cls : Nat → Addr

def hide (O : List Addr) (H : Hp) : Hp := fun a => if a ∈ O then none else H a

theorem hide_some {O : List Addr} {H : Hp} {a : Addr} {u : HO} (h : hide O H a = some u) : a ∉ O ∧ H a = some u := by
  unfold hide at h
  split at h
  · cases h
  · exact ⟨by assumption, h⟩
theorem hide_of {O : List Addr} {H : Hp} {a : Addr} {u : HO} (h1 : a ∉ O) (h : H a = some u) : hide O H a = some u := by
  unfold hide
  rw [if_neg h1]
  exact h

/-- what is kept of a caught refusal's object -/
def excAt (a C : Addr) : HO := .ext fun h => ∃ o vs, h.get? a = some o ∧ o.cls = .ref C ∧ o.dict = none ∧ o.data = .fields vs

/-- a tuple: tracked; or one of the text's constants, which are no keys -/
def TpAt (K : PySem.W.Frag) (H : Hp) (a : Addr) (xs : List V) : Prop := H a = some (.tup xs) ∨ (SqT K (fun _ => none) a xs ∧ ∀ i r, xs ≠ .int i :: r)
def keyD : Key → PyData
  | .inl i => .int i
  | .inr x => .str x
def keyT (k : List Key) : PyData := .tuple (k.map keyD)
/-- a tuple that is a key of ours -/
def KyT (k : List Key) : Prop := (∃ i r, k = .inl i :: r) ∧ k.length ≤ lineN

mutual
inductive Rp (K : PySem.W.Frag) (z : Cz) (H : Hp) : V → PyData → Prop
  | non : Rp K z H .non .none
  | bl (b : Bool) : Rp K z H (.bl b) (.bool b)
  | int (i : Int) : Rp K z H (.int i) (.int i)
  | str (x : Str) : Rp K z H (.str x) (.str x)
  | lst {a : Addr} {xs : List V} {ds : List PyData} : H a = some (.lst xs) → xs.length ≤ lineN → RpAll K z H xs ds → Rp K z H (.ref a) (.list ds)
  | tup {a : Addr} {xs : List V} {ds : List PyData} : TpAt K H a xs → xs.length ≤ lineN → RpAll K z H xs ds → Rp K z H (.ref a) (.tuple ds)
  | dk {a : Addr} {o : Obj} {ks : List Key} {vs : List V} {ds : List PyData} : H a = some (.frz o (.dK (ks.zip vs))) → ks.length = vs.length → ks.length ≤ lineN → RpAll K z H vs ds → Rp K z H (.ref a) (.dict ((ks.map keyD).zip ds))
  | dt {a : Addr} {o : Obj} {ks : List (List Key)} {vs : List V} {ds : List PyData} : H a = some (.frz o (.dT (ks.zip vs))) → ks.length = vs.length → ks.length ≤ lineN → (∀ k, k ∈ ks → KyT k) → RpAll K z H vs ds → Rp K z H (.ref a) (.dict ((ks.map keyT).zip ds))
  | town : Rp K z H (.ref z.aT) tTown
  | exc {a : Addr} (c : Nat) : H a = some (excAt a (z.cls c)) → Rp K z H (.ref a) (tExc c)
inductive RpAll (K : PySem.W.Frag) (z : Cz) (H : Hp) : List V → List PyData → Prop
  | nil : RpAll K z H [] []
  | cons {v : V} {vs : List V} {d : PyData} {ds : List PyData} : Rp K z H v d → RpAll K z H vs ds → RpAll K z H (v :: vs) (d :: ds)
end

section
variable {K : PySem.W.Frag} {z : Cz} {H H' : Hp}
theorem SqT.mono {a : Addr} {xs : List V} (m : ∀ a u, H a = some u → H' a = some u) (h : SqT K H a xs) : SqT K H' a xs := by
  rcases h with h | h
  · rcases h with h | ⟨o, h⟩
    · exact .inl (.inl (m _ _ h))
    · exact .inl (.inr ⟨o, m _ _ h⟩)
  · exact .inr h
theorem TpAt.sq {a : Addr} {xs : List V} (h : TpAt K H a xs) : SqT K H a xs := by
  rcases h with h | ⟨h, _⟩
  · exact SqT.of h
  · exact SqT.mono (fun a u q => by cases q) h
theorem TpAt.mono {a : Addr} {xs : List V} (m : ∀ a u, H a = some u → H' a = some u) (h : TpAt K H a xs) : TpAt K H' a xs := by
  rcases h with h | h
  · exact .inl (m _ _ h)
  · exact .inr h
mutual
theorem Rp.mono (m : ∀ a u, H a = some u → H' a = some u) : ∀ {v : V} {d : PyData}, Rp K z H v d → Rp K z H' v d
  | _, _, .non => .non
  | _, _, .bl b => .bl b
  | _, _, .int i => .int i
  | _, _, .str x => .str x
  | _, _, .lst h l r => .lst (m _ _ h) l (RpAll.mono m r)
  | _, _, .tup h l r => .tup (TpAt.mono m h) l (RpAll.mono m r)
  | _, _, .dk h e l r => .dk (m _ _ h) e l (RpAll.mono m r)
  | _, _, .dt h e l q r => .dt (m _ _ h) e l q (RpAll.mono m r)
  | _, _, .town => .town
  | _, _, .exc c h => .exc c (m _ _ h)
theorem RpAll.mono (m : ∀ a u, H a = some u → H' a = some u) : ∀ {vs : List V} {ds : List PyData}, RpAll K z H vs ds → RpAll K z H' vs ds
  | _, _, .nil => .nil
  | _, _, .cons h t => .cons (Rp.mono m h) (RpAll.mono m t)
end
mutual
theorem Rp.dp : ∀ {v : V} {d : PyData}, Rp K z H v d → d.plain = true → Dp K H v d
  | _, _, .non, _ => .non
  | _, _, .bl b, _ => .bl b
  | _, _, .int i, _ => .int i
  | _, _, .str x, _ => .str x
  | _, _, .lst h l r, p => .lst (SqL.of h) (RpAll.dp r (by simpa [PyData.plain] using p))
  | _, _, .tup h l r, p => .tup h.sq (RpAll.dp r (by simpa [PyData.plain] using p))
  | _, _, .dk h e l r, p => by simp [PyData.plain] at p
  | _, _, .dt h e l q r, p => by simp [PyData.plain] at p
  | _, _, .town, p => by simp [tTown, PyData.plain] at p
  | _, _, .exc c h, p => by simp [tExc, PyData.plain] at p
theorem RpAll.dp : ∀ {vs : List V} {ds : List PyData}, RpAll K z H vs ds → PyData.plainAll ds = true → DpAll K H vs ds
  | _, _, .nil, _ => .nil
  | _, _, .cons h t, p => by
    simp only [PyData.plainAll, Bool.and_eq_true] at p
    exact .cons (Rp.dp h p.1) (RpAll.dp t p.2)
end
theorem RpAll.length : ∀ {vs : List V} {ds : List PyData}, RpAll K z H vs ds → vs.length = ds.length
  | _, _, .nil => rfl
  | _, _, .cons _ t => congrArg Nat.succ (RpAll.length t)
theorem RpAll.append : ∀ {vs ws : List V} {ds es : List PyData}, RpAll K z H vs ds → RpAll K z H ws es → RpAll K z H (vs ++ ws) (ds ++ es)
  | _, _, _, _, .nil, h => h
  | _, _, _, _, .cons a t, h => .cons a (RpAll.append t h)
theorem RpAll.get : ∀ {vs : List V} {ds : List PyData} {i : Nat} {d : PyData}, RpAll K z H vs ds → ds[i]? = some d → ∃ v, vs[i]? = some v ∧ Rp K z H v d
  | _, _, _, _, .nil, h => by simp at h
  | _, _, 0, _, .cons a t, h => by simp at h; subst h; exact ⟨_, rfl, a⟩
  | _, _, i + 1, d, .cons a t, h => by
    obtain ⟨v, e, r⟩ := RpAll.get (i := i) (d := d) t (by simpa using h)
    exact ⟨v, by simpa using e, r⟩
theorem RpAll.getV : ∀ {vs : List V} {ds : List PyData} {i : Nat} {v : V}, RpAll K z H vs ds → vs[i]? = some v → ∃ d, ds[i]? = some d ∧ Rp K z H v d
  | _, _, _, _, .nil, h => by simp at h
  | _, _, 0, _, .cons a t, h => by simp at h; subst h; exact ⟨_, rfl, a⟩
  | _, _, i + 1, d, .cons a t, h => by
    obtain ⟨v, e, r⟩ := RpAll.getV (i := i) (v := d) t (by simpa using h)
    exact ⟨v, by simpa using e, r⟩
theorem RpAll.drop : ∀ {vs : List V} {ds : List PyData} (n : Nat), RpAll K z H vs ds → RpAll K z H (vs.drop n) (ds.drop n)
  | _, _, 0, h => h
  | _, _, _ + 1, .nil => .nil
  | _, _, n + 1, .cons _ t => RpAll.drop n t
theorem RpAll.take : ∀ {vs : List V} {ds : List PyData} (n : Nat), RpAll K z H vs ds → RpAll K z H (vs.take n) (ds.take n)
  | _, _, 0, _ => .nil
  | _, _, _ + 1, .nil => .nil
  | _, _, n + 1, .cons a t => .cons a (RpAll.take n t)
theorem RpAll.set {v : V} {d : PyData} (r : Rp K z H v d) : ∀ {vs : List V} {ds : List PyData} (n : Nat), RpAll K z H vs ds → RpAll K z H (vs.set n v) (ds.set n d)
  | _, _, _, .nil => .nil
  | _, _, 0, .cons _ t => .cons r t
  | _, _, n + 1, .cons a t => .cons a (RpAll.set r n t)
theorem RpAll.repl {vs : List V} {ds : List PyData} (r : RpAll K z H vs ds) : ∀ n : Nat, RpAll K z H (List.replicate n vs).flatten (List.replicate n ds).flatten
  | 0 => .nil
  | n + 1 => by
    rw [List.replicate_succ, List.replicate_succ, List.flatten_cons, List.flatten_cons]
    exact r.append (RpAll.repl r n)
end

/-! ### the state of a body -/
def TwOk (z : Cz) (H : Hp) (t : Tw) : Prop := H z.aT = some (.lst [.ref z.aN, .int t.k]) ∧ H z.aN = some (.lst (t.ns.map V.int)) ∧ t.ns ≠ [] ∧ t.ns.length ≤ 1000

/-- nothing that stood is changed but the town -/
def Grow (z : Cz) (H H' : Hp) : Prop := ∀ a u, H a = some u → a ≠ z.aT → a ≠ z.aN → H' a = some u
theorem Grow.refl {z : Cz} {H : Hp} : Grow z H H := fun _ _ h _ _ => h
theorem Grow.trans {z : Cz} {H H1 H2 : Hp} (a : Grow z H H1) (b : Grow z H1 H2) : Grow z H H2 := fun p u h n1 n2 => b p u (a p u h n1 n2) n1 n2

/-- what a body's proof holds fast: the written part, the places, the heap at the entry and what others own there, what is wished of a refusal -/
structure Cy where
  K : PySem.W.Frag
  z : Cz
  H0 : Hp
  O0 : List Addr
  W : WX

/-- what an owned thing holds -/
inductive OwnIs (K : PySem.W.Frag) (z : Cz) (Hh H : Hp) (a : Addr) : PyData → Prop
  | lst {xs : List V} {ds : List PyData} : H a = some (.lst xs) → xs.length ≤ lineN → RpAll K z Hh xs ds → OwnIs K z Hh H a (.list ds)
  | dk {ks : List Key} {vs : List V} {ds : List PyData} : H a = some (.dK (ks.zip vs)) → ks.length = vs.length → ks.length ≤ lineN → RpAll K z Hh vs ds → OwnIs K z Hh H a (.dict ((ks.map keyD).zip ds))
  | dt {ks : List (List Key)} {vs : List V} {ds : List PyData} : H a = some (.dT (ks.zip vs)) → ks.length = vs.length → ks.length ≤ lineN → (∀ k, k ∈ ks → KyT k) → RpAll K z Hh vs ds → OwnIs K z Hh H a (.dict ((ks.map keyT).zip ds))
theorem OwnIs.mono {K : PySem.W.Frag} {z : Cz} {Hh Hh' H H' : Hp} {a : Addr} {d : PyData} (h : OwnIs K z Hh H a d) (m : ∀ a u, Hh a = some u → Hh' a = some u) (k : ∀ u, H a = some u → H' a = some u) : OwnIs K z Hh' H' a d := by
  cases h with
  | lst h1 h2 h3 => exact .lst (k _ h1) h2 (h3.mono m)
  | dk h1 h2 h3 h4 => exact .dk (k _ h1) h2 h3 (h4.mono m)
  | dt h1 h2 h3 h4 h5 => exact .dt (k _ h1) h2 h3 h4 (h5.mono m)
/-- what may be owned -/
def Wk : Option HO → Prop
  | some (.lst _) => True
  | some (.dK _) => True
  | some (.dT _) => True
  | _ => False
theorem Wk.ne {o : Option HO} (h : Wk o) : o ≠ none := fun e => by rw [e] at h; exact h
theorem OwnIs.wk {K : PySem.W.Frag} {z : Cz} {Hh H : Hp} {a : Addr} {d : PyData} (h : OwnIs K z Hh H a d) : Wk (H a) := by
  cases h with
  | lst h1 => rw [h1]; exact True.intro
  | dk h1 => rw [h1]; exact True.intro
  | dt h1 => rw [h1]; exact True.intro

/-- an owned thing: a list or a dict that one slot alone names -/
structure OwnAt (y : Cy) (H : Hp) (O : List Addr) (a : Addr) (d : PyData) : Prop where
  mem : a ∈ O
  nT : a ≠ y.z.aT
  nN : a ≠ y.z.aN
  new : y.H0 a = none
  is : OwnIs y.K y.z (hide O H) H a d

structure Rel (y : Cy) (env : Env) (t : Tw) (σ : St) (H : Hp) (O : List Addr) : Prop where
  len : σ.length = env.length
  sh : ∀ (i : Nat) d, env[i]? = some (some (false, d)) → ∃ v, σ[i]? = some (some v) ∧ Rp y.K y.z (hide O H) v d
  ow : ∀ (i : Nat) d, env[i]? = some (some (true, d)) → ∃ a, σ[i]? = some (some (.ref a)) ∧ OwnAt y H O a d
  inj : ∀ (i j : Nat) d e a, env[i]? = some (some (true, d)) → env[j]? = some (some (true, e)) → σ[i]? = some (some (.ref a)) → σ[j]? = some (some (.ref a)) → i = j
  grow : Grow y.z y.H0 H
  sub : ∀ a, a ∈ y.O0 → a ∈ O
  dom : ∀ a, a ∈ O → Wk (H a)
  tT : y.z.aT ∈ y.O0
  dom0 : ∀ a, a ∈ y.O0 → y.H0 a ≠ none
  tN : y.z.aN ∈ y.O0
  ne : y.z.aT ≠ y.z.aN
  tw : TwOk y.z H t

section
variable {y : Cy} {env : Env} {t t' : Tw} {σ : St} {H H' : Hp} {O : List Addr}
theorem Rel.mono (r : Rel y env t σ H O) (g : Grow y.z H H') : ∀ a u, hide O H a = some u → hide O H' a = some u := fun a u h => by
  obtain ⟨h1, h2⟩ := hide_some h
  refine hide_of h1 (g a u h2 ?_ ?_)
  · rintro rfl
    exact h1 (r.sub _ r.tT)
  · rintro rfl
    exact h1 (r.sub _ r.tN)
theorem Rel.after (r : Rel y env t σ H O) (g : Grow y.z H H') (w : TwOk y.z H' t') : Rel y env t' σ H' O where
  len := r.len
  sh := fun i d e => by
    obtain ⟨v, e1, p⟩ := r.sh i d e
    exact ⟨v, e1, p.mono (r.mono g)⟩
  ow := fun i d e => by
    obtain ⟨a, e1, p⟩ := r.ow i d e
    exact ⟨a, e1, p.mem, p.nT, p.nN, p.new, p.is.mono (r.mono g) fun u q => g _ _ q p.nT p.nN⟩
  inj := r.inj
  grow := r.grow.trans g
  sub := r.sub
  dom := fun a h => by
    by_cases e1 : a = y.z.aT
    · rw [e1, w.1]; exact True.intro
    by_cases e2 : a = y.z.aN
    · rw [e2, w.2.1]; exact True.intro
    have d := r.dom a h
    cases q : H a with
    | none => exact absurd q d.ne
    | some u => rw [q] at d; rw [g a u q e1 e2]; exact d
  tT := r.tT
  dom0 := r.dom0
  tN := r.tN
  ne := r.ne
  tw := w

/-- a value's reading: shared, or (m) owned as well -/
def Rv (y : Cy) (m : Bool) (O : List Addr) (H : Hp) (v : V) (d : PyData) : Prop :=
  Rp y.K y.z (hide O H) v d ∨ (m = true ∧ ∃ a, v = .ref a ∧ OwnAt y H O a d)
theorem Rv.of {m : Bool} {v : V} {d : PyData} (h : Rp y.K y.z (hide O H) v d) : Rv y m O H v d := .inl h
theorem Rv.share {v : V} {d : PyData} (h : Rv y false O H v d) : Rp y.K y.z (hide O H) v d := by
  rcases h with h | ⟨h, _⟩
  · exact h
  · cases h
theorem hide_sub {O : List Addr} {H : Hp} : ∀ a u, hide O H a = some u → H a = some u := fun a u h => (hide_some h).2
theorem Rv.full {m : Bool} {v : V} {d : PyData} (h : Rv y m O H v d) (nd : d.plain = true) : Rp y.K y.z H v d := by
  rcases h with h | ⟨_, a, rfl, p⟩
  · exact h.mono hide_sub
  · cases p.is with
    | lst h1 h2 h4 => exact .lst h1 h2 (h4.mono hide_sub)
    | dk => simp [PyData.plain] at nd
    | dt => simp [PyData.plain] at nd
theorem Rv.peek {m : Bool} {v : V} {d : PyData} (h : Rv y m O H v d) : Rv y true O H v d := by
  rcases h with h | ⟨_, p⟩
  · exact .inl h
  · exact .inr ⟨rfl, p⟩
theorem Rv.after {m : Bool} {v : V} {d : PyData} (r : Rel y env t σ H O) (g : Grow y.z H H') (h : Rv y m O H v d) : Rv y m O H' v d := by
  rcases h with h | ⟨e, a, e1, p⟩
  · exact .inl (h.mono (r.mono g))
  · exact .inr ⟨e, a, e1, p.mem, p.nT, p.nN, p.new, p.is.mono (r.mono g) fun u q => g _ _ q p.nT p.nN⟩
/-- a list's items -/
theorem Rv.items {m : Bool} {v : V} {ds : List PyData} (h : Rv y m O H v (.list ds)) : ∃ a xs, v = .ref a ∧ H a = some (.lst xs) ∧ xs.length ≤ lineN ∧ RpAll y.K y.z (hide O H) xs ds := by
  rcases h with h | ⟨_, a, rfl, p⟩
  · cases h with
    | lst h1 h2 h3 => exact ⟨_, _, rfl, hide_sub _ _ h1, h2, h3⟩
  · cases p.is with
    | lst h1 h2 h4 => exact ⟨a, _, rfl, h1, h2, h4⟩
theorem Rv.tuple {m : Bool} {v : V} {ds : List PyData} (h : Rv y m O H v (.tuple ds)) : ∃ a xs, v = .ref a ∧ SqT y.K H a xs ∧ xs.length ≤ lineN ∧ RpAll y.K y.z (hide O H) xs ds ∧ Rp y.K y.z (hide O H) v (.tuple ds) := by
  rcases h with h | ⟨_, a, rfl, p⟩
  · cases h with
    | tup h1 h2 h3 => exact ⟨_, _, rfl, SqT.mono hide_sub h1.sq, h2, h3, .tup h1 h2 h3⟩
  · cases p.is
/-- scalars -/
theorem Rv.int {m : Bool} {v : V} {i : Int} (h : Rv y m O H v (.int i)) : v = .int i := by
  rcases h with h | ⟨_, a, rfl, p⟩
  · cases h; rfl
  · cases p.is
theorem Rv.bool {m : Bool} {v : V} {b : Bool} (h : Rv y m O H v (.bool b)) : v = .bl b := by
  rcases h with h | ⟨_, a, rfl, p⟩
  · cases h; rfl
  · cases p.is
theorem Rv.str {m : Bool} {v : V} {x : Str} (h : Rv y m O H v (.str x)) : v = .str x := by
  rcases h with h | ⟨_, a, rfl, p⟩
  · cases h; rfl
  · cases p.is
theorem Rv.none {m : Bool} {v : V} (h : Rv y m O H v .none) : v = .non := by
  rcases h with h | ⟨_, a, rfl, p⟩
  · cases h; rfl
  · cases p.is

/-- a new object -/
theorem Rel.new {p : Addr} {o : HO} (r : Rel y env t σ H O) (hp : H p = none) : Grow y.z H (upd H p o) ∧ TwOk y.z (upd H p o) t ∧ p ∉ O := by
  have nT : y.z.aT ≠ p := fun e => by rw [← e, r.tw.1] at hp; cases hp
  have nN : y.z.aN ≠ p := fun e => by rw [← e, r.tw.2.1] at hp; cases hp
  refine ⟨fun a u h _ _ => ?_, ⟨?_, ?_, r.tw.2.2⟩, fun h => (r.dom p h).ne hp⟩
  · rw [upd_ne (ne_of_none h hp)]; exact h
  · rw [upd_ne nT]; exact r.tw.1
  · rw [upd_ne nN]; exact r.tw.2.1
theorem Rel.newList {p : Addr} {xs : List V} {ds : List PyData} (r : Rel y env t σ H O) (hp : H p = none) (l : xs.length ≤ lineN) (h : RpAll y.K y.z (hide O H) xs ds) :
    Rp y.K y.z (hide O (upd H p (.lst xs))) (.ref p) (.list ds) := by
  obtain ⟨g, w, n⟩ := r.new (o := .lst xs) hp
  exact .lst (hide_of n upd_same) l (h.mono (r.mono g))
theorem Rel.newTup {p : Addr} {xs : List V} {ds : List PyData} (r : Rel y env t σ H O) (hp : H p = none) (l : xs.length ≤ lineN) (h : RpAll y.K y.z (hide O H) xs ds) :
    Rp y.K y.z (hide O (upd H p (.tup xs))) (.ref p) (.tuple ds) := by
  obtain ⟨g, w, n⟩ := r.new (o := .tup xs) hp
  exact .tup (.inl (hide_of n upd_same)) l (h.mono (r.mono g))
end

/-! ### readings -/
/-- an expression's reading by a run of the evaluator -/
def tE (y : Cy) (m : Bool) (run : Env → Tw → R PyData) : TE := fun σ H Q => ∃ env t O, Rel y env t σ H O ∧ match run env t with
  | .ok d t' => ∀ v H', Grow y.z H H' → TwOk y.z H' t' → Rv y m O H' v d → Q v H'
  | .exc c t' => ∀ H', Grow y.z H H' → TwOk y.z H' t' → y.W (.ref (y.z.cls c)) none σ H'
  | .bad => False
/-- several values -/
def tL (y : Cy) (m : Bool) (run : Env → Tw → R (List PyData)) : TA := fun σ H Q => ∃ env t O, Rel y env t σ H O ∧ match run env t with
  | .ok ds t' => ∀ vs H', Grow y.z H H' → TwOk y.z H' t' → Paired (Rv y m O H') vs ds → Q vs H'
  | .exc c t' => ∀ H', Grow y.z H H' → TwOk y.z H' t' → y.W (.ref (y.z.cls c)) none σ H'
  | .bad => False

theorem PE.imp {X : Cx} {e : Expr} {t t' : TE} (h : PE X e t) (i : ∀ σ H Q, t' σ H Q → t σ H Q) : PE X e t' := ⟨fun pins s σ H Q I q => h.run pins s σ H Q I (i σ H Q q)⟩
theorem PA.imp {X : Cx} {e : List Expr} {t t' : TA} (h : PA X e t) (i : ∀ σ H Q, t' σ H Q → t σ H Q) : PA X e t' := ⟨fun pos pins s σ H Q I q => h.run pos pins s σ H Q I (i σ H Q q)⟩
theorem PT.imp {X : Cx} {e : Expr} {t t' : TT} (h : PT X e t) (i : ∀ σ H Q, t' σ H Q → t σ H Q) : PT X e t' := ⟨fun pins s σ H Q I q => h.run pins s σ H Q I (i σ H Q q)⟩

/-- one expression, then what follows -/
theorem tE.then {y : Cy} {m : Bool} {ra : Env → Tw → R PyData} {σ : St} {H : Hp} {O : List Addr} {env : Env} {t : Tw} {k : PyData → Tw → R PyData} {m' : Bool} {Q : VK} {C : V → Hp → Prop}
    (r : Rel y env t σ H O)
    (h : match (ra env t).bind k with
      | .ok d t' => ∀ v H', Grow y.z H H' → TwOk y.z H' t' → Rv y m' O H' v d → Q v H'
      | .exc c t' => ∀ H', Grow y.z H H' → TwOk y.z H' t' → y.W (.ref (y.z.cls c)) none σ H'
      | .bad => False)
    (f : ∀ d t1 v H1, ra env t = .ok d t1 → Grow y.z H H1 → Rel y env t1 σ H1 O → Rv y m O H1 v d →
      (match k d t1 with
      | .ok d t' => ∀ v H', Grow y.z H1 H' → TwOk y.z H' t' → Rv y m' O H' v d → Q v H'
      | .exc c t' => ∀ H', Grow y.z H1 H' → TwOk y.z H' t' → y.W (.ref (y.z.cls c)) none σ H'
      | .bad => False) → C v H1) : tE y m ra σ H C := by
  refine ⟨env, t, O, r, ?_⟩
  cases e : ra env t with
  | bad => rw [e] at h; exact h
  | exc c t1 => rw [e] at h; exact h
  | ok d t1 =>
    rw [e] at h
    intro v H1 g w rv
    refine f d t1 v H1 e g (r.after g w) rv ?_
    simp only [R.bind] at h
    cases q : k d t1 with
    | bad => rw [q] at h; exact h
    | exc c t2 =>
      rw [q] at h
      exact fun H' g' w' => h H' (g.trans g') w'
    | ok d2 t2 =>
      rw [q] at h
      exact fun v' H' g' w' rv' => h v' H' (g.trans g') w' rv'
end Wv

set_option maxHeartbeats 1000000
namespace Wv
open PySem L2

/-! ### keys -/
theorem same_key (a b : Key) : sameD (keyD a) (keyD b) = decide (a = b) := by
  cases a <;> cases b <;> simp [keyD, sameD]
theorem same_keys : ∀ a b : List Key, sameL (a.map keyD) (b.map keyD) = decide (a = b)
  | [], [] => rfl
  | [], _ :: _ => rfl
  | _ :: _, [] => rfl
  | x :: xs, z :: zs => by
    simp only [List.map_cons, sameL, same_key, same_keys xs zs, List.cons.injEq]
    by_cases h1 : x = z <;> by_cases h2 : xs = zs <;> simp [h1, h2]
theorem same_keyT (a b : List Key) : sameD (keyT a) (keyT b) = decide (a = b) := by
  unfold keyT
  rw [sameD, same_keys]
theorem leaf_key {d : PyData} (h : leafD d = true) : ∃ k, d = keyD k := by
  cases d with
  | int i => exact ⟨.inl i, rfl⟩
  | str x => exact ⟨.inr x, rfl⟩
  | _ => cases h
theorem leafs_key : ∀ {ds : List PyData}, ds.all leafD = true → ∃ ks : List Key, ds = ks.map keyD
  | [], _ => ⟨[], rfl⟩
  | d :: ds, h => by
    simp only [List.all_cons, Bool.and_eq_true] at h
    obtain ⟨k, rfl⟩ := leaf_key h.1
    obtain ⟨ks, rfl⟩ := leafs_key h.2
    exact ⟨k :: ks, rfl⟩
theorem kind_f {d : PyData} (h : kindD d = some false) : ∃ k, d = keyD k := by
  unfold kindD at h
  split at h
  · exact ⟨.inl _, rfl⟩
  · exact ⟨.inr _, rfl⟩
  · split at h <;> cases h
  · cases h
theorem kind_t {d : PyData} (h : kindD d = some true) : ∃ i r, d = keyT (.inl i :: r) := by
  unfold kindD at h
  split at h
  · cases h
  · cases h
  · split at h
    · rename_i i r q
      obtain ⟨ks, rfl⟩ := leafs_key q
      exact ⟨i, ks, rfl⟩
    · cases h
  · cases h
theorem kind_key (k : Key) : kindD (keyD k) = some false := by cases k <;> rfl
theorem all_leaf (ks : List Key) : (ks.map keyD).all leafD = true := by
  induction ks with
  | nil => rfl
  | cons k ks ih =>
    simp only [List.map_cons, List.all_cons, ih, Bool.and_true]
    cases k <;> rfl
theorem kind_keyT (i : Int) (r : List Key) : kindD (keyT (.inl i :: r)) = some true := by
  unfold keyT
  rw [List.map_cons]
  show (if (r.map keyD).all leafD then some true else none) = some true
  rw [if_pos (all_leaf r)]

section
variable {K : PySem.W.Frag} {z : Cz} {H : Hp}
theorem rp_key {v : V} {k : Key} (h : Rp K z H v (keyD k)) : v = kV k := by
  cases k with
  | inl i => cases h; rfl
  | inr x => cases h; rfl
theorem rp_keys : ∀ {ks : List Key} {vs : List V}, RpAll K z H vs (ks.map keyD) → vs = ks.map kV
  | [], _, h => by cases h; rfl
  | k :: ks, _, h => by
    cases h with
    | cons a t => rw [rp_key a, rp_keys t]; rfl
theorem rp_keyT {v : V} {i : Int} {r : List Key} (h : Rp K z H v (keyT (.inl i :: r))) : ∃ b, v = .ref b ∧ H b = some (.tup ((.inl i :: r : List Key).map kV)) := by
  unfold keyT at h
  cases h with
  | tup h1 h2 h3 =>
    have e := rp_keys h3
    subst e
    rcases h1 with h1 | ⟨_, h1⟩
    · exact ⟨_, rfl, h1⟩
    · exact absurd rfl (h1 i (r.map kV))
theorem key_rp (k : Key) : Rp K z H (kV k) (keyD k) := by
  cases k with
  | inl i => exact .int i
  | inr x => exact .str x
theorem keys_rp : ∀ ks : List Key, RpAll K z H (ks.map kV) (ks.map keyD)
  | [] => .nil
  | k :: ks => .cons (key_rp k) (keys_rp ks)

/-! ### what stands at a key, and what a store makes of it -/
variable {κ : Type} [DecidableEq κ] {f : κ → PyData}
theorem get_rel (hf : ∀ a b, sameD (f a) (f b) = decide (a = b)) {k : κ} : ∀ {ks : List κ} {vs : List V} {ds : List PyData}, ks.length = vs.length → RpAll K z H vs ds →
    (getL ((ks.map f).zip ds) (f k) = none ∧ valV (ks.zip vs) k = none) ∨ ∃ d v, getL ((ks.map f).zip ds) (f k) = some d ∧ valV (ks.zip vs) k = some v ∧ Rp K z H v d
  | [], _, _, _, _ => .inl ⟨rfl, rfl⟩
  | _ :: _, _, _, e, .nil => by cases e
  | x :: ks, v :: vs, d :: ds, e, .cons a t => by
    have ih := get_rel hf (k := k) (ks := ks) (Nat.succ.inj e) t
    unfold getL valV at ih ⊢
    simp only [List.map_cons, List.zip_cons_cons, List.find?_cons, hf]
    by_cases h : x = k
    · simp only [h, decide_true]
      exact .inr ⟨d, v, rfl, rfl, a⟩
    · simp only [h, decide_false]
      exact ih
theorem any_rel (hf : ∀ a b, sameD (f a) (f b) = decide (a = b)) {k : κ} : ∀ {ks : List κ} {vs : List V} {ds : List PyData}, ks.length = vs.length → vs.length = ds.length →
    (((ks.map f).zip ds).any fun p => sameD p.1 (f k)) = ((ks.zip vs).any fun kv => decide (kv.1 = k))
  | [], _, _, _, _ => rfl
  | x :: ks, v :: vs, d :: ds, e1, e2 => by
    simp only [List.map_cons, List.zip_cons_cons, List.any_cons, hf]
    rw [any_rel hf (Nat.succ.inj e1) (Nat.succ.inj e2)]
theorem repl_rel (hf : ∀ a b, sameD (f a) (f b) = decide (a = b)) {k : κ} {v0 : V} {d0 : PyData} (p : Rp K z H v0 d0) : ∀ {ks : List κ} {vs : List V} {ds : List PyData}, ks.length = vs.length → RpAll K z H vs ds →
    ∃ (vs' : List V) (ds' : List PyData), (ks.zip vs).map (fun kv => if kv.1 = k then (kv.1, v0) else kv) = ks.zip vs' ∧ ks.length = vs'.length ∧ ((ks.map f).zip ds).map (fun q => if sameD q.1 (f k) then (q.1, d0) else q) = (ks.map f).zip ds' ∧ RpAll K z H vs' ds'
  | [], _, _, _, _ => ⟨[], [], rfl, rfl, rfl, .nil⟩
  | _ :: _, _, _, e, .nil => by cases e
  | x :: ks, v :: vs, d :: ds, e, .cons a t => by
    obtain ⟨vs', ds', h1, h2, h3, h4⟩ := repl_rel hf p (k := k) (ks := ks) (Nat.succ.inj e) t
    simp only [List.map_cons, List.zip_cons_cons, hf, h1, h3]
    by_cases h : x = k
    · exact ⟨v0 :: vs', d0 :: ds', by simp [h], by simp [h2], by simp [h], .cons p h4⟩
    · exact ⟨v :: vs', d :: ds', by simp [h], by simp [h2], by simp [h], .cons a h4⟩
theorem put_rel (hf : ∀ a b, sameD (f a) (f b) = decide (a = b)) {k : κ} {v0 : V} {d0 : PyData} (p : Rp K z H v0 d0) {ks : List κ} {vs : List V} {ds : List PyData} (e : ks.length = vs.length) (h : RpAll K z H vs ds) :
    ∃ (ks' : List κ) (vs' : List V) (ds' : List PyData), putK (ks.zip vs) k v0 = ks'.zip vs' ∧ ks'.length = vs'.length ∧ putL ((ks.map f).zip ds) (f k) d0 = (ks'.map f).zip ds' ∧ RpAll K z H vs' ds' ∧ (∀ x, x ∈ ks' → x ∈ ks ∨ x = k) ∧ ks'.length ≤ ks.length + 1 := by
  unfold putK putL
  rw [any_rel hf e h.length]
  by_cases q : ((ks.zip vs).any fun kv => decide (kv.1 = k)) = true
  · obtain ⟨vs', ds', h1, h2, h3, h4⟩ := repl_rel hf p (k := k) e h
    rw [if_pos q, if_pos q]
    exact ⟨ks, vs', ds', h1, h2, h3, h4, fun x hx => .inl hx, Nat.le_succ _⟩
  · rw [if_neg q, if_neg q]
    refine ⟨ks ++ [k], vs ++ [v0], ds ++ [d0], ?_, by simp [e], ?_, h.append (.cons p .nil), fun x hx => ?_, by simp⟩
    · rw [List.zip_append e]; rfl
    · rw [List.map_append, List.zip_append (by rw [List.length_map, e, h.length])]; rfl
    · rcases List.mem_append.mp hx with q | q
      · exact .inl q
      · exact .inr (by simpa using q)
end

/-! ### a token is no dict of ours -/
theorem tok_dk {x : PyData} {ks : List Key} {ds : List PyData} (h : PyData.dict [(.none, x)] = .dict ((ks.map keyD).zip ds)) : False := by
  cases ks with
  | nil => cases h
  | cons k ks =>
    cases ds with
    | nil => cases h
    | cons d ds => cases k <;> cases h
theorem tok_dt {x : PyData} {ks : List (List Key)} {ds : List PyData} (h : PyData.dict [(.none, x)] = .dict ((ks.map keyT).zip ds)) : False := by
  cases ks with
  | nil => cases h
  | cons k ks =>
    cases ds with
    | nil => cases h
    | cons d ds => cases h

/-! ### dicts that may be read -/
section
variable {y : Cy} {env : Env} {t : Tw} {σ : St} {H : Hp} {O : List Addr}
/-- a dict, shared or owned: its keys and values -/
theorem Rv.dict {m : Bool} {v : V} {kds : List (PyData × PyData)} (h : Rv y m O H v (.dict kds)) (ok : okDict kds = true) :
    (∃ (a : Addr) (ks : List Key) (vs : List V) (ds : List PyData), v = .ref a ∧ Rd H a (.dK (ks.zip vs)) ∧ ks.length = vs.length ∧ ks.length ≤ lineN ∧ kds = (ks.map keyD).zip ds ∧ RpAll y.K y.z (hide O H) vs ds) ∨
    (∃ (a : Addr) (ks : List (List Key)) (vs : List V) (ds : List PyData), v = .ref a ∧ Rd H a (.dT (ks.zip vs)) ∧ ks.length = vs.length ∧ ks.length ≤ lineN ∧ (∀ k, k ∈ ks → KyT k) ∧ kds = (ks.map keyT).zip ds ∧ RpAll y.K y.z (hide O H) vs ds) := by
  rcases h with h | ⟨_, a, rfl, p⟩
  · generalize hd : PyData.dict kds = d at h
    cases h with
    | dk h1 h2 h3 h4 => cases hd; exact .inl ⟨_, _, _, _, rfl, .inr ⟨_, hide_sub _ _ h1⟩, h2, h3, rfl, h4⟩
    | dt h1 h2 h3 h4 h5 => cases hd; exact .inr ⟨_, _, _, _, rfl, .inr ⟨_, hide_sub _ _ h1⟩, h2, h3, h4, rfl, h5⟩
    | town => cases hd; cases ok
    | exc c h => cases hd; cases ok
    | _ => cases hd
  · generalize hd : PyData.dict kds = d at p
    cases p.is with
    | lst => cases hd
    | dk h1 h2 h3 h4 => cases hd; exact .inl ⟨_, _, _, _, rfl, .inl h1, h2, h3, rfl, h4⟩
    | dt h1 h2 h3 h4 h5 => cases hd; exact .inr ⟨_, _, _, _, rfl, .inl h1, h2, h3, h4, rfl, h5⟩
theorem fit_ok {k : PyData} {kds : List (PyData × PyData)} (h : fitD k kds = true) : okDict kds = true := by
  cases kds with
  | nil => rfl
  | cons p r =>
    obtain ⟨k0, v0⟩ := p
    simp only [fitD, Bool.and_eq_true, decide_eq_true_eq] at h
    simp only [okDict]
    rw [h.2]
    exact h.1
/-- what the dict at a holds at y; an empty one may be asked for any key -/
def DG (H : Hp) (a : Addr) (v : V) (o : Option V) : Prop := DGet H a v o ∨ (o = none ∧ ((Rd H a (.dK []) ∧ ∃ (k : List Key) (b : Addr), v = .ref b ∧ H b = some (.tup (k.map kV))) ∨ (Rd H a (.dT []) ∧ ∃ k : Key, v = kV k)))
theorem kind_plain {k : PyData} (hk : (kindD k).isSome = true) : k.plain = true := by
  cases e : kindD k with
  | none => rw [e] at hk; cases hk
  | some b =>
    cases b with
    | false =>
      obtain ⟨q, rfl⟩ := kind_f e
      cases q <;> rfl
    | true =>
      obtain ⟨i, r, rfl⟩ := kind_t e
      unfold keyT
      rw [PyData.plain]
      have : ∀ ks : List Key, PyData.plainAll (ks.map keyD) = true := fun ks => by
        induction ks with
        | nil => rfl
        | cons x xs ih =>
          simp only [List.map_cons, PyData.plainAll, ih, Bool.and_true]
          cases x <;> rfl
      exact this _
theorem fit_kind {k : PyData} {kds : List (PyData × PyData)} (hf : fitD k kds = true) : (kindD k).isSome = true := by
  cases kds with
  | nil => exact hf
  | cons p r =>
    simp only [fitD, Bool.and_eq_true] at hf
    exact hf.1
theorem zip_nil_of {α β : Type} {as : List α} {bs : List β} (e : as.length = bs.length) (h : as = []) : as.zip bs = [] := by subst h; rfl
/-- what a key finds -/
theorem dget_ok {m m' : Bool} {v w : V} {k : PyData} {kds : List (PyData × PyData)} (hd : Rv y m O H w (.dict kds)) (hk : Rv y m' O H v k) (hf : fitD k kds = true) :
    ∃ a o, w = .ref a ∧ DG H a v o ∧ ((getL kds k = none ∧ o = none) ∨ ∃ d u, getL kds k = some d ∧ o = some u ∧ Rp y.K y.z (hide O H) u d) := by
  have ok := fit_ok hf
  have kk := fit_kind hf
  have hkp := hk.full (kind_plain kk)
  obtain ⟨b, eb⟩ := Option.isSome_iff_exists.mp kk
  rcases hd.dict ok with ⟨a, ks, vs, ds, rfl, h1, h2, h3, rfl, h5⟩ | ⟨a, ks, vs, ds, rfl, h1, h2, h3, h4, rfl, h5⟩
  · cases b with
    | false =>
      obtain ⟨q, rfl⟩ := kind_f eb
      obtain rfl := rp_key hkp
      rcases get_rel same_key (k := q) h2 h5 with ⟨g1, g2⟩ | ⟨d, u, g1, g2, g3⟩
      · exact ⟨a, none, rfl, .inl (.inl ⟨_, q, h1, rfl, g2.symm⟩), .inl ⟨g1, rfl⟩⟩
      · exact ⟨a, some u, rfl, .inl (.inl ⟨_, q, h1, rfl, g2.symm⟩), .inr ⟨d, u, g1, rfl, g3⟩⟩
    | true =>
      obtain ⟨i, r, rfl⟩ := kind_t eb
      obtain ⟨c, rfl, hc⟩ := rp_keyT hkp
      cases ks with
      | nil => exact ⟨a, none, rfl, .inr ⟨rfl, .inl ⟨h1, _, c, rfl, hc⟩⟩, .inl ⟨rfl, rfl⟩⟩
      | cons k0 ks =>
        cases ds with
        | nil => rw [h5.length] at h2; cases h2
        | cons d0 ds =>
          simp only [List.map_cons, List.zip_cons_cons, fitD, kind_key, eb, Bool.and_eq_true, decide_eq_true_eq] at hf
          cases hf.2
  · cases b with
    | false =>
      obtain ⟨q, rfl⟩ := kind_f eb
      obtain rfl := rp_key hkp
      cases ks with
      | nil => exact ⟨a, none, rfl, .inr ⟨rfl, .inr ⟨h1, q, rfl⟩⟩, .inl ⟨rfl, rfl⟩⟩
      | cons k0 ks =>
        cases ds with
        | nil => rw [h5.length] at h2; cases h2
        | cons d0 ds =>
          obtain ⟨⟨i, r, rfl⟩, _⟩ := h4 k0 (List.mem_cons_self ..)
          simp only [List.map_cons, List.zip_cons_cons, fitD, kind_keyT, eb, Bool.and_eq_true, decide_eq_true_eq] at hf
          cases hf.2
    | true =>
      obtain ⟨i, r, rfl⟩ := kind_t eb
      obtain ⟨c, rfl, hc⟩ := rp_keyT hkp
      rcases get_rel same_keyT (k := .inl i :: r) h2 h5 with ⟨g1, g2⟩ | ⟨d, u, g1, g2, g3⟩
      · exact ⟨a, none, rfl, .inl (.inr ⟨_, _, c, h1, rfl, hc, g2.symm⟩), .inl ⟨g1, rfl⟩⟩
      · exact ⟨a, some u, rfl, .inl (.inr ⟨_, _, c, h1, rfl, hc, g2.symm⟩), .inr ⟨d, u, g1, rfl, g3⟩⟩
end

/-! ### an empty dict is of any kind -/
section
variable {X : Cx} {pins : List (Addr × Obj)} {σ : St} {H : Hp} {s : Shared} {a : Addr} {v : V} {u : Value} {o : Option V} {A : Around} {E : Value → Shared → Prop}
theorem emp_k {P : Program} {w : World} {h : Heap} (x : ObjOk P w H h a (.dK [])) : ObjOk P w H h a (.dT []) := by
  obtain ⟨_, y, vs, kv, o, es, ep, h1, h2, h3, h4, h5, h6⟩ := x
  cases kv
  have e : es.toList = [] := by
    have := h5.length
    simpa using this
  exact ⟨Nat.zero_le _, y, [], .nil, o, es, ep, h1, h2, h3, e, List.nodup_nil⟩
theorem emp_t {P : Program} {w : World} {h : Heap} (x : ObjOk P w H h a (.dT [])) : ObjOk P w H h a (.dK []) := by
  obtain ⟨_, y, xs, kv, o, es, ep, h1, h2, h3, h4, h5⟩ := x
  cases kv
  have e : es = #[] := by
    apply Array.ext'
    simpa using h4
  subst e
  exact ⟨Nat.zero_le _, y, [], .nil, o, #[], ep, h1, h2, h3, fun e he => by simp at he, .nil, List.nodup_nil⟩
end
end Wv

set_option maxHeartbeats 1000000
namespace Wv
open PySem PySem.Calls PyProof.Rows PySem.Spec L2

/-! ### == of a dict and an empty one -/
section
variable {prog : Program} {w : World} {A : Around} {E : Value → Shared → Prop} {s : Shared}
theorem same_emp {nm : String} {a b : Addr} {oa ob : Obj} {es : Array DictEntry} {ep ep' : Nat} {Q : Bool → Shared → Prop} (na : (a == sysModules) = false) (nb : (b == sysModules) = false)
    (ga : s.heap.get? a = some oa) (da : oa.data = .dict es ep) (gb : s.heap.get? b = some ob) (db : ob.data = .dict #[] ep') (q : Q (decide (es.size = 0)) s) : wpAny (model prog w) A (Builtin.Dict.samePairs nm a b) Q E s := by
  unfold Builtin.Dict.samePairs Builtin.Dict.showsAll
  rw [if_neg (by rw [na]; simp), if_neg (by rw [nb]; simp)]
  refine wpAny_bind (wpAny_pure (wpAny_bind (wpAny_pure (wpAny_bind (wpAny_dictEntries ga da ?_)))))
  dsimp only
  refine wpAny_bind (wpAny_dictEntries gb db ?_)
  by_cases z : es.size = 0
  · rw [decide_eq_true z] at q
    rw [if_neg (by simp [z])]
    refine wpAny_bind (wpAny_dictEpoch ga da (wpAny_bind ?_))
    rw [Std.Legacy.Range.forIn_eq_forIn_range']
    simp only [Std.Legacy.Range.size, z, Nat.sub_self, Nat.zero_add, Nat.sub_zero, Nat.add_sub_cancel, Nat.div_one]
    exact wpAny_pure (wpAny_pure q)
  · rw [decide_eq_false z] at q
    rw [if_pos (by simpa using z)]
    exact wpAny_bind (wpAny_rule (wpAny_pure q))
end

/-- a dict of so many entries -/
def DLen (H : Hp) (a : Addr) (n : Nat) : Prop := (∃ kvs, Rd H a (.dK kvs) ∧ kvs.length = n) ∨ ∃ kvs, Rd H a (.dT kvs) ∧ kvs.length = n
section
variable {X : Cx} {pins : List (Addr × Obj)} {σ : L2.St} {H : Hp} {s : Shared} {a : Addr} {v : V} {u : Value} {o : Option V} {A : Around} {E : Value → Shared → Prop}
theorem raw_of {P : Program} {w : World} {h : Heap} {n : Nat} (ok : HOk P w H h) (d : DLen H a n) : (a == sysModules) = false ∧ ∃ o es ep, h.get? a = some o ∧ o.ExactDict ∧ o.data = .dict es ep ∧ es.size = n := by
  rcases d with ⟨kvs, r, rfl⟩ | ⟨kvs, r, rfl⟩
  · obtain ⟨_, y, vs, kv, o, es, ep, h1, h2, h3, _, h5, _⟩ := dk_rd ok r
    refine ⟨y, o, es, ep, h1, h2, h3, ?_⟩
    have l1 := h5.length
    have l2 : kvs.length = vs.length := kv.length
    rw [Array.length_toList] at l1
    omega
  · obtain ⟨_, y, xs, kv, o, es, ep, h1, h2, h3, h4, _⟩ := dt_rd ok r
    refine ⟨y, o, es, ep, h1, h2, h3, ?_⟩
    have l1 : kvs.length = xs.length := Paired.length kv
    have l2 : es.size = xs.length := size_of_entries h4
    omega
def rEqE (b : Bool) : R2 := fun x w H Q => ∃ a c n, x = .ref a ∧ w = .ref c ∧ DLen H a n ∧ DLen H c 0 ∧ Q (.bl (xor b (decide (n = 0)))) H
theorem op_eqE (hu : X.A.units < cLine) : OpR X (compareOp .Eq) (rEqE false) := by
  intro pins s σ H x y v u Q I rx ry h
  obtain ⟨a, c, n, rfl, rfl, da, dc, q⟩ := h
  obtain rfl : v = Value.ref a := rx
  obtain rfl : u = Value.ref c := ry
  obtain ⟨na, oa, es, ep, ga, ea, ta, rfl⟩ := raw_of I.hok da
  obtain ⟨nc, oc, fs, ep', gc, ec, tc, hz⟩ := raw_of I.hok dc
  have hz : fs = #[] := Array.eq_empty_of_size_eq_zero hz
  subst hz
  have ia : s.TypeIs (.ref a) "dict" := ⟨oa, ga, ea.1⟩
  have ic : s.TypeIs (.ref c) "dict" := ⟨oc, gc, ec.1⟩
  refine wpAny_richCompare_same_room (op := .Eq) ia ic PySem.F.slot_dict_eq (wpAny_call_entry PySem.F.slot_dict_eq ia PySem.F.entry_dict_eq ?_ (PySem.F.args_dict_eq_2 _ _)) hu
  show wpAny _ _ (Builtin.Dict.dictSlotArgs "__eq__" ⟨[.ref a, .ref c], []⟩ >>= _) _ _ s
  refine wpAny_bind ?_
  unfold Builtin.Dict.dictSlotArgs
  refine wpAny_bind (wpAny_notOrdered_dict ia ?_)
  show wpAny _ _ (pure (Value.ref a, Value.ref c)) _ _ s
  refine wpAny_pure (wpAny_bind (wpAny_isInstance (T := "dict") ic PySem.F.sub_dict_dict ?_))
  simp only [Bool.not_true, Bool.false_eq_true, if_false]
  refine wpAny_bind (wpAny_pure (wpAny_bind (wpAny_pure (wpAny_bind (same_emp na nc ga ta gc tc (wpAny_pure ⟨_, rfl, (fun x => nomatch x), ?_⟩))))))
  exact ⟨.bl _, H, I, rfl, by simpa using q⟩
theorem op_neE (hu : X.A.units < cLine) : OpR X (compareOp .NotEq) (rEqE true) := by
  intro pins s σ H x y v u Q I rx ry h
  obtain ⟨a, c, n, rfl, rfl, da, dc, q⟩ := h
  obtain rfl : v = Value.ref a := rx
  obtain rfl : u = Value.ref c := ry
  obtain ⟨na, oa, es, ep, ga, ea, ta, rfl⟩ := raw_of I.hok da
  obtain ⟨nc, oc, fs, ep', gc, ec, tc, hz⟩ := raw_of I.hok dc
  have hz : fs = #[] := Array.eq_empty_of_size_eq_zero hz
  subst hz
  have ia : s.TypeIs (.ref a) "dict" := ⟨oa, ga, ea.1⟩
  have ic : s.TypeIs (.ref c) "dict" := ⟨oc, gc, ec.1⟩
  refine wpAny_richCompare_same_room (op := .NotEq) ia ic PySem.F.slot_dict_ne (wpAny_call_entry PySem.F.slot_dict_ne ia PySem.F.entry_dict_ne ?_ (PySem.F.args_dict_ne_2 _ _)) hu
  show wpAny _ _ (Builtin.Dict.dictSlotArgs "__ne__" ⟨[.ref a, .ref c], []⟩ >>= _) _ _ s
  refine wpAny_bind ?_
  unfold Builtin.Dict.dictSlotArgs
  refine wpAny_bind (wpAny_notOrdered_dict ia ?_)
  show wpAny _ _ (pure (Value.ref a, Value.ref c)) _ _ s
  refine wpAny_pure (wpAny_bind (wpAny_isInstance (T := "dict") ic PySem.F.sub_dict_dict ?_))
  simp only [Bool.not_true, Bool.false_eq_true, if_false]
  refine wpAny_bind (wpAny_pure (wpAny_bind (wpAny_pure (wpAny_bind (same_emp na nc ga ta gc tc (wpAny_pure ⟨_, rfl, (fun x => nomatch x), ?_⟩))))))
  exact ⟨.bl _, H, I, rfl, by simpa using q⟩

/-! ### in, [] -/
theorem emp_h (I : Inv X pins σ H s) (r : Rd H a (.dK [])) : (a == sysModules) = false ∧ s.heap.DictOfH (tupleKind (mixKind X.prog X.w)) a [] := by
  obtain ⟨_, y, xs, kv, o, es, ep, h1, h2, h3, h4, h5⟩ := emp_k (r.ok I.hok)
  cases kv
  exact ⟨y, o, es, ep, h1, h2, h3, h4, (fun x hx => by cases hx), h5⟩
theorem emp_m (I : Inv X pins σ H s) (r : Rd H a (.dT [])) : (a == sysModules) = false ∧ s.heap.DictOf (mixKind X.prog X.w) a [] := by
  obtain ⟨_, y, vs, kv, d⟩ := emp_t (r.ok I.hok)
  cases kv
  exact ⟨y, d⟩
theorem g_in {Q : Value → Shared → Prop} (hu : A.units + 1 < cLine) (I : Inv X pins σ H s) (g : DG H a v o) (ry : RelV v u) (h : ∀ s', Inv X pins σ H s' → Q (.bool o.isSome) s') : wpAny (model X.prog X.w) A (compareOp .In u (.ref a)) Q E s := by
  rcases g with g | ⟨rfl, ⟨r, k, b, rfl, eb⟩ | ⟨r, k, rfl⟩⟩
  · exact d_in hu I g ry h
  · cases (show u = Value.ref b from ry)
    obtain ⟨hd, dd⟩ := emp_h I r
    exact wpAny_in_heap (tupleKind_room_in1 hu) (key_of I.hok eb) hd dd (h _ (I.tok _))
  · obtain ⟨hd, dd⟩ := emp_m I r
    exact wpAny_in_of (kV_is ry) hd dd.mapOf (h _ (I.tok _))
theorem g_notIn {Q : Value → Shared → Prop} (hu : A.units + 1 < cLine) (I : Inv X pins σ H s) (g : DG H a v o) (ry : RelV v u) (h : ∀ s', Inv X pins σ H s' → Q (.bool (!o.isSome)) s') : wpAny (model X.prog X.w) A (compareOp .NotIn u (.ref a)) Q E s := by
  rcases g with g | ⟨rfl, ⟨r, k, b, rfl, eb⟩ | ⟨r, k, rfl⟩⟩
  · exact d_notIn hu I g ry h
  · cases (show u = Value.ref b from ry)
    obtain ⟨hd, dd⟩ := emp_h I r
    exact wpAny_notIn_heap (tupleKind_room_in1 hu) (key_of I.hok eb) hd dd (h _ (I.tok _))
  · obtain ⟨hd, dd⟩ := emp_m I r
    exact wpAny_notIn_of (kV_is ry) hd dd.mapOf (h _ (I.tok _))
def rInG (b : Bool) : R2 := fun x w H Q => ∃ a o, w = .ref a ∧ DG H a x o ∧ Q (.bl (xor b o.isSome)) H
theorem op_inG (hu : X.A.units + 1 < cLine) : OpR X (compareOp .In) (rInG false) := by
  intro pins s σ H x y v u Q I rx ry h
  obtain ⟨a, o, rfl, g, q⟩ := h
  obtain rfl : u = Value.ref a := ry
  exact g_in hu I g rx fun s' I' => ⟨.bl _, H, I', rfl, by simpa using q⟩
theorem op_notInG (hu : X.A.units + 1 < cLine) : OpR X (compareOp .NotIn) (rInG true) := by
  intro pins s σ H x y v u Q I rx ry h
  obtain ⟨a, o, rfl, g, q⟩ := h
  obtain rfl : u = Value.ref a := ry
  exact g_notIn hu I g rx fun s' I' => ⟨.bl _, H, I', rfl, by simpa using q⟩
end
end Wv

set_option maxHeartbeats 1000000
namespace Wv
open PySem L2

theorem line_eq : (sizeLine : Nat) = lineN := sizeLine_eq

/-! ### operators by values -/
section
variable {X : Cx} {y : Cy} {env : Env} {t : Tw} {σ : St} {H : Hp} {O : List Addr} {m : Bool} {Q : VK}

/-- what the continuation of an operation is given -/
def Kn (y : Cy) (m : Bool) (O : List Addr) (t : Tw) (H : Hp) (d : PyData) (Q : VK) : Prop := ∀ v H', Grow y.z H H' → TwOk y.z H' t → Rv y m O H' v d → Q v H'

theorem Kn.here {d : PyData} {v : V} (r : Rel y env t σ H O) (q : Kn y m O t H d Q) (h : Rp y.K y.z (hide O H) v d) : Q v H := q v H Grow.refl r.tw (.inl h)
theorem Kn.bool {b : Bool} (r : Rel y env t σ H O) (q : Kn y m O t H (.bool b) Q) : Q (.bl b) H := q.here r (.bl b)
theorem Kn.list {p : Addr} {xs : List V} {ds : List PyData} (r : Rel y env t σ H O) (q : Kn y m O t H (.list ds) Q) (hp : H p = none) (l : xs.length ≤ lineN) (h : RpAll y.K y.z (hide O H) xs ds) : Q (.ref p) (upd H p (.lst xs)) :=
  have n := r.new (o := .lst xs) hp
  q _ _ n.1 n.2.1 (.inl (r.newList hp l h))
theorem Kn.tuple {p : Addr} {xs : List V} {ds : List PyData} (r : Rel y env t σ H O) (q : Kn y m O t H (.tuple ds) Q) (hp : H p = none) (l : xs.length ≤ lineN) (h : RpAll y.K y.z (hide O H) xs ds) : Q (.ref p) (upd H p (.tup xs)) :=
  have n := r.new (o := .tup xs) hp
  q _ _ n.1 n.2.1 (.inl (r.newTup hp l h))

/-- what a binary operator asks of values -/
def rBin (K : PySem.W.Frag) : Operator → R2
  | .Add => fun x w H Q => (((rI0 (fun i j => .int (i + j)) x w H Q ∨ rCat x w H Q) ∨ rCatA K x w H Q) ∨ ∃ i j, x = .str i ∧ w = .str j ∧ i.length + j.length ≤ sizeLine ∧ Q (.str (i ++ j)) H)
  | .Sub => rI0 fun i j => .int (i - j)
  | .Mult => fun x w H Q => rI CMul (fun i j => .int (i * j)) x w H Q ∨ rRep x w H Q
  | .FloorDiv => rI CDiv fun i j => .int (i / j)
  | .Mod => rI (fun _ j => 0 < j) fun i j => .int (i % j)
  | .Pow => rI CPow fun i j => .int (i ^ j.toNat)
  | _ => fun _ _ _ _ => False
theorem op_bin : ∀ o : Operator, OpR X (binaryOp o) (rBin X.K o)
  | .Add => ((op_add.or op_cat).or op_catA).or op_add_str
  | .Sub => op_sub
  | .Mult => op_mul.or op_rep
  | .FloorDiv => op_fdiv
  | .Mod => op_mod
  | .Pow => op_pow
  | .MatMult | .Div | .LShift | .RShift | .BitOr | .BitXor | .BitAnd => fun _ _ _ _ _ _ _ _ _ _ _ _ q => False.elim q

theorem okIf_some {b : Bool} {d e : PyData} (h : okIf b d = some e) : b = true ∧ d = e := by
  unfold okIf at h
  split at h
  · exact ⟨by assumption, Option.some.inj h⟩
  · cases h

theorem bin_ok {o : Operator} {a b d : PyData} {v w : V} (r : Rel y env t σ H O) (ha : Rv y true O H v a) (hb : Rv y true O H w b) (e : binD o a b = some d) (q : Kn y m O t H d Q) : rBin y.K o v w H Q := by
  unfold binD at e
  split at e
  · cases e
    obtain rfl := ha.int; obtain rfl := hb.int
    exact .inl (.inl (.inl ⟨_, _, rfl, rfl, q.here r (.int _)⟩))
  · obtain ⟨h, rfl⟩ := okIf_some e
    obtain ⟨p, xs, rfl, h1, h2, h3⟩ := ha.items
    obtain ⟨p', ys, rfl, h1', h2', h3'⟩ := hb.items
    have hl : xs.length + ys.length ≤ lineN := by rw [h3.length, h3'.length]; exact of_decide_eq_true h
    exact .inl (.inl (.inr ⟨_, _, xs, ys, rfl, rfl, h1, h1', by rw [line_eq]; exact hl, fun p hp => q.list r hp (by rw [List.length_append]; exact hl) (h3.append h3')⟩))
  · obtain ⟨h, rfl⟩ := okIf_some e
    obtain ⟨p, xs, rfl, h1, h2, h3, h4⟩ := ha.tuple
    obtain ⟨p', ys, rfl, h1', h2', h3', h4'⟩ := hb.tuple
    have hl : xs.length + ys.length ≤ lineN := by rw [h3.length, h3'.length]; exact of_decide_eq_true h
    refine .inl (.inr ⟨_, _, xs, ys, rfl, rfl, h1, h1', by rw [line_eq]; exact hl, fun e0 => ?_, fun _ e0 => ?_, fun _ _ p hp => q.tuple r hp (by rw [List.length_append]; exact hl) (h3.append h3')⟩)
    · subst e0
      cases h3
      exact q.here r h4'
    · subst e0
      cases h3'
      refine q.here r ?_
      rw [List.append_nil]
      exact h4
  · obtain ⟨h, rfl⟩ := okIf_some e
    obtain rfl := ha.str; obtain rfl := hb.str
    exact .inr ⟨_, _, rfl, rfl, by rw [line_eq]; exact of_decide_eq_true h, q.here r (.str _)⟩
  · cases e
    obtain rfl := ha.int; obtain rfl := hb.int
    exact ⟨_, _, rfl, rfl, q.here r (.int _)⟩
  · obtain ⟨h, rfl⟩ := okIf_some e
    obtain rfl := ha.int; obtain rfl := hb.int
    refine .inl ⟨_, _, rfl, rfl, ?_, q.here r (.int _)⟩
    simp only [mulOk, Bool.or_eq_true, Bool.and_eq_true, decide_eq_true_eq] at h
    exact h
  · obtain ⟨h, rfl⟩ := okIf_some e
    obtain ⟨p, xs, rfl, h1, h2, h3⟩ := ha.items
    obtain rfl := hb.int
    simp only [Bool.and_eq_true, decide_eq_true_eq] at h
    have hl := h.2
    rw [← h3.length] at hl
    refine .inr ⟨_, _, xs, rfl, rfl, h1, h.1.1, h.1.2, by rw [line_eq]; exact hl, fun p hp => q.list r hp ?_ (h3.repl _)⟩
    simpa [List.length_flatten, Nat.mul_comm] using hl
  · obtain ⟨h, rfl⟩ := okIf_some e
    obtain rfl := ha.int; obtain rfl := hb.int
    simp only [Bool.and_eq_true, decide_eq_true_eq] at h
    exact ⟨_, _, rfl, rfl, h, q.here r (.int _)⟩
  · obtain ⟨h, rfl⟩ := okIf_some e
    obtain rfl := ha.int; obtain rfl := hb.int
    exact ⟨_, _, rfl, rfl, of_decide_eq_true h, q.here r (.int _)⟩
  · obtain ⟨h, rfl⟩ := okIf_some e
    obtain rfl := ha.int; obtain rfl := hb.int
    simp only [Bool.and_eq_true, decide_eq_true_eq] at h
    exact ⟨_, _, rfl, rfl, ⟨h.1.1, by omega, h.2⟩, q.here r (.int _)⟩
  · cases e

/-! ### comparisons by values -/
def rCmp (K : PySem.W.Frag) : CmpOp → R2
  | .Eq => fun x w H Q => (∃ d e, Dp K H x d ∧ Dp K H w e ∧ flatB d e = true ∧ Q (.bl (PyData.eqv d e)) H) ∨ rEqE false x w H Q
  | .NotEq => fun x w H Q => (∃ d e, Dp K H x d ∧ Dp K H w e ∧ flatB d e = true ∧ Q (.bl (!PyData.eqv d e)) H) ∨ rEqE true x w H Q
  | .Lt => fun x w H Q => rI0 (fun i j => .bl (decide (i < j))) x w H Q ∨ ∃ d e, Dp K H x d ∧ Dp K H w e ∧ ordB d e = true ∧ Q (.bl (PySem.W.dataLt d e)) H
  | .LtE => fun x w H Q => rI0 (fun i j => .bl (decide (i ≤ j))) x w H Q ∨ ∃ d e, Dp K H x d ∧ Dp K H w e ∧ ordB d e = true ∧ Q (.bl (!PySem.W.dataLt e d)) H
  | .Gt => fun x w H Q => rI0 (fun i j => .bl (decide (j < i))) x w H Q ∨ ∃ d e, Dp K H x d ∧ Dp K H w e ∧ ordB d e = true ∧ Q (.bl (PySem.W.dataLt e d)) H
  | .GtE => fun x w H Q => rI0 (fun i j => .bl (decide (j ≤ i))) x w H Q ∨ ∃ d e, Dp K H x d ∧ Dp K H w e ∧ ordB d e = true ∧ Q (.bl (!PySem.W.dataLt d e)) H
  | .Is => fun x w H Q => (∃ a b : Bool, x = .bl a ∧ w = .bl b ∧ Q (.bl (decide (a = b))) H) ∨ (w = .non ∧ Q (.bl (decide (x = .non))) H)
  | .IsNot => fun x w H Q => (∃ a b : Bool, x = .bl a ∧ w = .bl b ∧ Q (.bl (!decide (a = b))) H) ∨ (w = .non ∧ Q (.bl (!decide (x = .non))) H)
  | .In => fun x w H Q => rInG false x w H Q ∨ ∃ d es, Dp K H x d ∧ (Dp K H w (.list es) ∨ Dp K H w (.tuple es)) ∧ (d.plain && PyData.plainAll es && decide (min (PyData.depthAll es) d.depth ≤ 50)) = true ∧ Q (.bl (es.any fun z => PyData.eqv z d)) H
  | .NotIn => fun x w H Q => rInG true x w H Q ∨ ∃ d es, Dp K H x d ∧ (Dp K H w (.list es) ∨ Dp K H w (.tuple es)) ∧ (d.plain && PyData.plainAll es && decide (min (PyData.depthAll es) d.depth ≤ 50)) = true ∧ Q (.bl (!es.any fun z => PyData.eqv z d)) H

theorem op_cmp (hu : X.A.units + 60 < cLine) : ∀ o : CmpOp, OpR X (compareOp o) (rCmp X.K o) := by
  intro o pins s σ H x w v u Q I rx ry h
  cases o with
  | Eq =>
    rcases h with ⟨d, e, hd, he, hf, q⟩ | h
    case inr => exact op_eqE (by omega) pins s σ H x w v u Q I rx ry h
    simp only [flatB, Bool.and_eq_true, decide_eq_true_eq] at hf
    obtain ⟨as, r1⟩ := Dp.reads I d x v hd rx
    obtain ⟨bs, r2⟩ := Dp.reads I e w u he ry
    exact PySem.SeqAt.eq_plain r1 r2 hf.1.1 hf.1.2 (by omega) ⟨.bl _, H, I, rfl, q⟩
  | NotEq =>
    rcases h with ⟨d, e, hd, he, hf, q⟩ | h
    case inr => exact op_neE (by omega) pins s σ H x w v u Q I rx ry h
    simp only [flatB, Bool.and_eq_true, decide_eq_true_eq] at hf
    obtain ⟨as, r1⟩ := Dp.reads I d x v hd rx
    obtain ⟨bs, r2⟩ := Dp.reads I e w u he ry
    exact PySem.SeqAt.ne_plain r1 r2 hf.1.1 hf.1.2 (by omega) ⟨.bl _, H, I, rfl, q⟩
  | Lt =>
    rcases h with h | ⟨d, e, hd, he, hf, q⟩
    · exact op_lt pins s σ H x w v u Q I rx ry h
    · simp only [ordB, Bool.and_eq_true, decide_eq_true_eq] at hf
      obtain ⟨as, r1⟩ := Dp.reads I d x v hd rx
      obtain ⟨bs, r2⟩ := Dp.reads I e w u he ry
      exact PySem.W.lt_data r1 r2 hf.1.1.1 (by rintro rfl; simp at hf) (by omega) ⟨.bl _, H, I, rfl, q⟩
  | LtE =>
    rcases h with h | ⟨d, e, hd, he, hf, q⟩
    · exact op_le pins s σ H x w v u Q I rx ry h
    · simp only [ordB, Bool.and_eq_true, decide_eq_true_eq] at hf
      obtain ⟨as, r1⟩ := Dp.reads I d x v hd rx
      obtain ⟨bs, r2⟩ := Dp.reads I e w u he ry
      exact PySem.W.le_data r1 r2 hf.1.1.1 (by rintro rfl; simp at hf) (by omega) ⟨.bl _, H, I, rfl, q⟩
  | Gt =>
    rcases h with h | ⟨d, e, hd, he, hf, q⟩
    · exact op_gt pins s σ H x w v u Q I rx ry h
    · simp only [ordB, Bool.and_eq_true, decide_eq_true_eq] at hf
      obtain ⟨as, r1⟩ := Dp.reads I d x v hd rx
      obtain ⟨bs, r2⟩ := Dp.reads I e w u he ry
      exact PySem.W.gt_data r1 r2 hf.1.1.1 (by rintro rfl; simp at hf) (by omega) ⟨.bl _, H, I, rfl, q⟩
  | GtE =>
    rcases h with h | ⟨d, e, hd, he, hf, q⟩
    · exact op_ge pins s σ H x w v u Q I rx ry h
    · simp only [ordB, Bool.and_eq_true, decide_eq_true_eq] at hf
      obtain ⟨as, r1⟩ := Dp.reads I d x v hd rx
      obtain ⟨bs, r2⟩ := Dp.reads I e w u he ry
      exact PySem.W.ge_data r1 r2 hf.1.1.1 (by rintro rfl; simp at hf) (by omega) ⟨.bl _, H, I, rfl, q⟩
  | Is =>
    rcases h with h | h
    · exact op_isBl pins s σ H x w v u Q I rx ry h
    · exact op_isN pins s σ H x w v u Q I rx ry h
  | IsNot =>
    rcases h with h | h
    · exact op_notBl pins s σ H x w v u Q I rx ry h
    · exact op_notN pins s σ H x w v u Q I rx ry h
  | In =>
    rcases h with h | ⟨d, es, hd, he, hf, q⟩
    case inl => exact op_inG (by omega) pins s σ H x w v u Q I rx ry h
    simp only [Bool.and_eq_true, decide_eq_true_eq] at hf
    obtain ⟨as, r1⟩ := Dp.reads I d x v hd rx
    rcases he with he | he
    · obtain ⟨bs, r2⟩ := Dp.reads I _ w u he ry
      exact PySem.SeqAt.in_list_data r2 r1 hf.1.2 hf.1.1 (by omega) ⟨.bl _, H, I, rfl, q⟩
    · obtain ⟨bs, r2⟩ := Dp.reads I _ w u he ry
      exact PySem.SeqAt.in_tuple_data r2 r1 hf.1.2 hf.1.1 (by omega) ⟨.bl _, H, I, rfl, q⟩
  | NotIn =>
    rcases h with h | ⟨d, es, hd, he, hf, q⟩
    case inl => exact op_notInG (by omega) pins s σ H x w v u Q I rx ry h
    simp only [Bool.and_eq_true, decide_eq_true_eq] at hf
    obtain ⟨as, r1⟩ := Dp.reads I d x v hd rx
    rcases he with he | he
    · obtain ⟨bs, r2⟩ := Dp.reads I _ w u he ry
      exact PySem.SeqAt.notIn_list_data r2 r1 hf.1.2 hf.1.1 (by omega) ⟨.bl _, H, I, rfl, q⟩
    · obtain ⟨bs, r2⟩ := Dp.reads I _ w u he ry
      exact PySem.SeqAt.notIn_tuple_data r2 r1 hf.1.2 hf.1.1 (by omega) ⟨.bl _, H, I, rfl, q⟩

theorem Rv.isNon {v : V} {d : PyData} (h : Rv y m O H v d) : decide (v = .non) = (match d with | .none => true | _ => false) := by
  rcases h with h | ⟨_, a, rfl, p⟩
  · cases h <;> simp [tTown, tExc]
  · cases p.is <;> simp
theorem Rv.dlen {v : V} {kds : List (PyData × PyData)} (h : Rv y m O H v (.dict kds)) (ok : okDict kds = true) : ∃ a, v = .ref a ∧ DLen H a kds.length := by
  rcases h.dict ok with ⟨a, ks, vs, ds, rfl, h1, h2, h3, rfl, h5⟩ | ⟨a, ks, vs, ds, rfl, h1, h2, h3, h4, rfl, h5⟩
  · refine ⟨a, rfl, .inl ⟨_, h1, ?_⟩⟩
    have := h5.length
    simp only [List.length_zip, List.length_map]
    omega
  · refine ⟨a, rfl, .inr ⟨_, h1, ?_⟩⟩
    have := h5.length
    simp only [List.length_zip, List.length_map]
    omega
theorem cmp_ok {o : CmpOp} {a b : PyData} {k : Bool} {v w : V} (r : Rel y env t σ H O) (ha : Rv y true O H v a) (hb : Rv y true O H w b) (e : cmpD o a b = some k) (q : Q (.bl k) H) : rCmp y.K o v w H Q := by
  unfold cmpD at e
  split at e
  · split at e
    · split at e
      · rename_i ok
        cases e
        obtain ⟨p, rfl, hp⟩ := ha.dlen ok
        obtain ⟨p', rfl, hp'⟩ := hb.dlen rfl
        exact .inr ⟨p, p', _, rfl, rfl, hp, hp', by simpa using q⟩
      · cases e
    · split at e
      · rename_i hf
        cases e
        have hf' := hf
        simp only [flatB, Bool.and_eq_true] at hf'
        exact .inl ⟨_, _, (ha.full hf'.1.1).dp hf'.1.1, (hb.full hf'.1.2).dp hf'.1.2, hf, q⟩
      · cases e
  · split at e
    · split at e
      · rename_i ok
        cases e
        obtain ⟨p, rfl, hp⟩ := ha.dlen ok
        obtain ⟨p', rfl, hp'⟩ := hb.dlen rfl
        exact .inr ⟨p, p', _, rfl, rfl, hp, hp', by simpa using q⟩
      · cases e
    · split at e
      · rename_i hf
        cases e
        have hf' := hf
        simp only [flatB, Bool.and_eq_true] at hf'
        exact .inl ⟨_, _, (ha.full hf'.1.1).dp hf'.1.1, (hb.full hf'.1.2).dp hf'.1.2, hf, q⟩
      · cases e
  all_goals first
    | (split at e
       · cases e
         obtain rfl := ha.int; obtain rfl := hb.int
         exact .inl ⟨_, _, rfl, rfl, q⟩
       · split at e
         · rename_i hf
           cases e
           have hf' := hf
           simp only [ordB, Bool.and_eq_true] at hf'
           exact .inr ⟨_, _, (ha.full hf'.1.1.2.1).dp hf'.1.1.2.1, (hb.full hf'.1.1.2.2).dp hf'.1.1.2.2, hf, q⟩
         · cases e)
    | (split at e
       · cases e
         obtain rfl := ha.bool; obtain rfl := hb.bool
         exact .inl ⟨_, _, rfl, rfl, q⟩
       · cases e
         obtain rfl := hb.none
         refine .inr ⟨rfl, ?_⟩
         have z := ha.isNon
         rw [z]
         first
         | exact q
         | (cases a <;> exact q)
       · cases e)
    | (split at e
       · split at e
         · rename_i hf
           cases e
           have hf' := hf
           simp only [Bool.and_eq_true] at hf'
           have pb := (show (PyData.list _).plain = true by simpa [PyData.plain] using hf'.1.2)
           exact .inr ⟨_, _, (ha.full hf'.1.1).dp hf'.1.1, .inl ((hb.full pb).dp pb), hf, q⟩
         · cases e
       · split at e
         · rename_i hf
           cases e
           have hf' := hf
           simp only [Bool.and_eq_true] at hf'
           have pb := (show (PyData.tuple _).plain = true by simpa [PyData.plain] using hf'.1.2)
           exact .inr ⟨_, _, (ha.full hf'.1.1).dp hf'.1.1, .inr ((hb.full pb).dp pb), hf, q⟩
         · cases e
       · first
           | (unfold inD at e
              split at e
              · rename_i hf
                cases e
                obtain ⟨p, o, rfl, g, z⟩ := dget_ok hb ha hf
                refine .inl ⟨p, o, rfl, g, ?_⟩
                rcases z with ⟨z1, z2⟩ | ⟨d, u, z1, z2, _⟩ <;> simpa [z1, z2] using q
              · cases e)
           | (unfold inD at e
              split at e
              · rename_i hf
                simp only [Option.map_some, Option.some.injEq] at e
                cases e
                obtain ⟨p, o, rfl, g, z⟩ := dget_ok hb ha hf
                refine .inl ⟨p, o, rfl, g, ?_⟩
                rcases z with ⟨z1, z2⟩ | ⟨d, u, z1, z2, _⟩ <;> simpa [z1, z2] using q
              · cases e)
       · cases e)
end
end Wv

set_option maxHeartbeats 1000000
namespace Wv
open PySem L2

/-! ### plain forms of syntax -/
def ordE : Expr → Bool
  | .Starred .. => false
  | .Slice .. => false
  | .Set .. => false
  | _ => true
theorem star_ord {e : Expr} {es : List Expr} {env : PySem.Env} (h : ordE e = true) : starEach (e :: es) env = (false, eval e env) :: starEach es env := by
  cases e <;> first | rfl | cases h
theorem ix_ord {e : Expr} (h : ordE e = true) : PlainIx e := by
  cases e <;> first | exact fun _ _ => rfl | cases h
theorem mark_ord {op : CmpOp} {e : Expr} (h : ordE e = true) : behindInMarks op e = false := by
  cases e <;> first | rfl | cases h
theorem fold_ord {e : Expr} {env : PySem.Env} {x : Value} (h : ordE e = true) : foldedSetIterable e env x = pure x := by
  cases e <;> first | rfl | cases h
theorem stars_ord {pos : Pos} {env : PySem.Env} : ∀ {es : List Expr}, es.all ordE = true → (backTo pos (starEach es env)).any (·.1) = false
  | [], _ => rfl
  | e :: es, h => by
    simp only [List.all_cons, Bool.and_eq_true] at h
    rw [star_ord h.1]
    have := stars_ord (pos := pos) (env := env) h.2
    simpa [backTo] using this

def biNames : List Str := ["len", "any", "all", "sum", "min", "max", "sorted", "tuple", "list", "str", "int", "zip", "isinstance", "range", "enumerate", "bool", "ValueError", "dict", "set"]

/-- the frame of a walk: X runs a body (or a block in it) whose scope is sc -/
structure Ctx (X : Cx) (y : Cy) (N : List Str) (sc : Scope) : Prop where
  scope : X.env.scope = sc
  names : X.N = N
  K : X.K = y.K
  calm : X.calm = true
  nd : N.Nodup
  units : X.A.units + 200 < cLine
  tk : Takes X y.W
  free : ∀ x, x ∈ biNames → X.mg x = none

def visB (sc : Scope) (x : Str) : Bool := match sc.names.lookup x with
  | some .local => true
  | some .cell => true
  | some .free => true
  | _ => false
def glB (sc : Scope) (x : Str) : Bool := match sc.names.lookup x with
  | some .globalImplicit => true
  | _ => false
theorem vis_of {sc : Scope} {x : Str} (h : visB sc x = true) : Vis sc x := by
  unfold visB at h
  split at h
  · rename_i e; exact .inl e
  · rename_i e; exact .inr (.inl e)
  · rename_i e; exact .inr (.inr e)
  · cases h
theorem gl_of {X : Cx} {x : Str} (h : glB X.env.scope x = true) : Gl X x := by
  unfold glB at h
  split at h
  · rename_i e; exact e
  · cases h

section
variable {X : Cx} {y : Cy} {N : List Str} {sc : Scope} {m : Bool} {F : Nat → List PyData → Tw → R PyData}

theorem R.of_none {α : Type} {t : Tw} : R.of (none : Option α) t = .bad := rfl

theorem snd_var {i : Nat} {x : Str} {pos : Pos} (C : Ctx X y N sc) (hN : N[i]? = some x) (hv : visB sc x = true) (hd : (x == ("__debug__" : Str)) = false) (hcd : (x == ("__classdict__" : Str)) = false) :
    PE X (.Name x pos) (tE y m (evalE F m (.var i))) := by
  refine PE.imp (pe_var (i := i) (by rw [C.names]; exact hN) (by rw [C.scope]; exact vis_of hv) hd hcd) fun σ H Q h => ?_
  obtain ⟨env, t, O, r, h⟩ := h
  unfold evalE at h
  split at h
  · rename_i d t' e
    split at e
    · rename_i o d' e2
      split at e
      · rename_i hm
        cases e
        cases o with
        | false =>
          obtain ⟨v, e3, p⟩ := r.sh i _ e2
          exact ⟨v, e3, h v H Grow.refl r.tw (.inl p)⟩
        | true =>
          obtain ⟨a, e3, p⟩ := r.ow i _ e2
          refine ⟨.ref a, e3, h _ H Grow.refl r.tw (.inr ⟨?_, a, rfl, p⟩)⟩
          simpa using hm
      · cases e
    · cases e
  · rename_i e
    split at e
    · split at e <;> cases e
    · cases e
  · exact h.elim

theorem snd_const {e : Expr} {v : V} {d : PyData} (h : PE X e (tC v)) (p : ∀ H, Rp y.K y.z H v d) : PE X e (tE y m fun _ t => .ok d t) := by
  refine PE.imp h fun σ H Q h => ?_
  obtain ⟨env, t, O, r, h⟩ := h
  exact h v H Grow.refl r.tw (.inl (p _))

theorem snd_bin {o : Operator} {ea eb : Expr} {pos : Pos} {ra rb : Env → Tw → R PyData} (C : Ctx X y N sc) (ha : PE X ea (tE y true ra)) (hb : PE X eb (tE y true rb)) :
    PE X (.BinOp ea o eb pos) (tE y m fun env t => (ra env t).bind fun x t => (rb env t).bind fun w t => R.of (binD o x w) t) := by
  refine PE.imp (pe_op (op_bin o) ha hb) fun σ H Q h => ?_
  obtain ⟨env, t, O, r, h⟩ := h
  refine tE.then r h fun d1 t1 v H1 e1 g1 r1 rv1 h1 => ?_
  refine tE.then r1 h1 fun d2 t2 w H2 e2 g2 r2 rv2 h2 => ?_
  rw [C.K]
  cases e : binD o d1 d2 with
  | none => rw [e] at h2; exact h2.elim
  | some d => rw [e] at h2; exact bin_ok r2 (rv1.after r1 g2) rv2 e h2

theorem snd_neg {ea : Expr} {pos : Pos} {ra : Env → Tw → R PyData} (ha : PE X ea (tE y true ra)) :
    PE X (.UnaryOp .USub ea pos) (tE y m fun env t => (ra env t).bind fun x t => match x with
      | .int i => .ok (.int (-i)) t
      | _ => .bad) := by
  refine PE.imp (pe_un un_neg ha) fun σ H Q h => ?_
  obtain ⟨env, t, O, r, h⟩ := h
  refine tE.then r h fun d1 t1 v H1 e1 g1 r1 rv1 h1 => ?_
  cases d1 with
  | int i =>
    obtain rfl := rv1.int
    exact ⟨i, rfl, h1 _ H1 Grow.refl r1.tw (.inl (.int _))⟩
  | _ => exact h1.elim

theorem snd_cmp {o : CmpOp} {ea eb : Expr} {pos : Pos} {ra rb : Env → Tw → R PyData} (C : Ctx X y N sc) (ho : ordE eb = true) (ha : PE X ea (tE y true ra)) (hb : PE X eb (tE y true rb)) :
    PE X (.Compare ea [o] [eb] pos) (tE y m fun env t => (ra env t).bind fun x t => (rb env t).bind fun w t => R.of ((cmpD o x w).map .bool) t) := by
  refine PE.imp (pe_cmpR (op_cmp (by have := C.units; omega) o) ha hb (mark_ord ho)) fun σ H Q h => ?_
  obtain ⟨env, t, O, r, h⟩ := h
  refine tE.then r h fun d1 t1 v H1 e1 g1 r1 rv1 h1 => ?_
  refine tE.then r1 h1 fun d2 t2 w H2 e2 g2 r2 rv2 h2 => ?_
  rw [C.K]
  cases e : cmpD o d1 d2 with
  | none => rw [e] at h2; exact h2.elim
  | some k => rw [e] at h2; exact cmp_ok r2 (rv1.after r1 g2) rv2 e (h2 _ H2 Grow.refl r2.tw (.inl (.bl k)))

/-- a test's reading -/
def tT (y : Cy) (run : Env → Tw → R PyData) : TT := fun σ H Q => ∃ env t O, Rel y env t σ H O ∧ match run env t with
  | .ok d t' => ∃ b, d = .bool b ∧ ∀ H', Grow y.z H H' → TwOk y.z H' t' → Q b H'
  | .exc c t' => ∀ H', Grow y.z H H' → TwOk y.z H' t' → y.W (.ref (y.z.cls c)) none σ H'
  | .bad => False

theorem tT_val {run : Env → Tw → R PyData} {m : Bool} {σ : St} {H : Hp} {Q : Bool → Hp → Prop} (h : tT y run σ H Q) : tE y m run σ H fun x H' => ∃ k, x = .bl k ∧ Q k H' := by
  obtain ⟨env, t, O, r, h⟩ := h
  refine ⟨env, t, O, r, ?_⟩
  cases e : run env t with
  | bad => rw [e] at h; exact h
  | exc c t' => rw [e] at h; exact h
  | ok d t' =>
    rw [e] at h
    obtain ⟨b, rfl, h⟩ := h
    intro v H' g w rv
    exact ⟨b, rv.bool, h H' g w⟩
theorem tst_cmp {o : CmpOp} {ea eb : Expr} {pos : Pos} {ra rb : Env → Tw → R PyData} (C : Ctx X y N sc) (ho : ordE eb = true) (ha : PE X ea (tE y true ra)) (hb : PE X eb (tE y true rb)) :
    PT X (.Compare ea [o] [eb] pos) (tT y fun env t => (ra env t).bind fun x t => (rb env t).bind fun w t => R.of ((cmpD o x w).map .bool) t) := by
  refine PT.imp (pt_cmpR (op_cmp (by have := C.units; omega) o) ha hb (mark_ord ho)) fun σ H Q h => ?_
  have h := tT_val (m := true) h
  obtain ⟨env, t, O, r, h⟩ := h
  refine tE.then r h fun d1 t1 v H1 e1 g1 r1 rv1 h1 => ?_
  refine tE.then r1 h1 fun d2 t2 w H2 e2 g2 r2 rv2 h2 => ?_
  rw [C.K]
  cases e : cmpD o d1 d2 with
  | none => rw [e] at h2; exact h2.elim
  | some k => rw [e] at h2; exact cmp_ok r2 (rv1.after r1 g2) rv2 e (h2 _ H2 Grow.refl r2.tw (.inl (.bl k)))

theorem chain_ok {o p : CmpOp} {ra rb rc : Env → Tw → R PyData} {σ : St} {H : Hp} {Q : VK} (h : tE y m (fun env t => (ra env t).bind fun x t => (rb env t).bind fun w t => match cmpD o x w with
      | some true => (rc env t).bind fun z t => R.of ((cmpD p w z).map .bool) t
      | some false => .ok (.bool false) t
      | none => .bad) σ H Q) : tChain (rCmp y.K o) (rCmp y.K p) (tE y true ra) (tE y true rb) (tE y true rc) σ H Q := by
  obtain ⟨env, t, O, r, h⟩ := h
  refine tE.then r h fun d1 t1 v H1 e1 g1 r1 rv1 h1 => ?_
  refine tE.then r1 h1 fun d2 t2 w H2 e2 g2 r2 rv2 h2 => ?_
  cases e : cmpD o d1 d2 with
  | none => rw [e] at h2; exact h2.elim
  | some k =>
    rw [e] at h2
    refine cmp_ok r2 (rv1.after r1 g2) rv2 e ⟨k, rfl, ?_⟩
    cases k with
    | false =>
      rw [if_neg Bool.false_ne_true]
      exact h2 _ H2 Grow.refl r2.tw (.inl (.bl _))
    | true =>
      rw [if_pos rfl]
      refine tE.then r2 h2 fun d3 t3 w3 H3 e3 g3 r3 rv3 h3 => ?_
      cases e : cmpD p d2 d3 with
      | none => rw [e] at h3; exact h3.elim
      | some k => rw [e] at h3; exact cmp_ok r3 (rv2.after r2 g3) rv3 e (h3 _ H3 Grow.refl r3.tw (.inl (.bl k)))
theorem lastm {o p : CmpOp} {eb ec : Expr} (ho : ordE ec = true) : lastMarks [o, p] [eb, ec] = false := mark_ord ho
theorem snd_chn {o p : CmpOp} {ea eb ec : Expr} {pos : Pos} {ra rb rc : Env → Tw → R PyData} (C : Ctx X y N sc) (ho : ordE ec = true) (ha : PE X ea (tE y true ra)) (hb : PE X eb (tE y true rb)) (hc : PE X ec (tE y true rc)) :
    PE X (.Compare ea [o, p] [eb, ec] pos) (tE y m fun env t => (ra env t).bind fun x t => (rb env t).bind fun w t => match cmpD o x w with
      | some true => (rc env t).bind fun z t => R.of ((cmpD p w z).map .bool) t
      | some false => .ok (.bool false) t
      | none => .bad) := by
  refine PE.imp (pe_chain (op_cmp (by have := C.units; omega) o) (op_cmp (by have := C.units; omega) p) ha hb hc (lastm ho)) fun σ H Q h => ?_
  rw [C.K]
  exact chain_ok h
theorem tst_chn {o p : CmpOp} {ea eb ec : Expr} {pos : Pos} {ra rb rc : Env → Tw → R PyData} (C : Ctx X y N sc) (ho : ordE ec = true) (ha : PE X ea (tE y true ra)) (hb : PE X eb (tE y true rb)) (hc : PE X ec (tE y true rc)) :
    PT X (.Compare ea [o, p] [eb, ec] pos) (tT y fun env t => (ra env t).bind fun x t => (rb env t).bind fun w t => match cmpD o x w with
      | some true => (rc env t).bind fun z t => R.of ((cmpD p w z).map .bool) t
      | some false => .ok (.bool false) t
      | none => .bad) := by
  refine PT.imp (pt_chain (op_cmp (by have := C.units; omega) o) (op_cmp (by have := C.units; omega) p) ha hb hc (lastm ho)) fun σ H Q h => ?_
  rw [C.K]
  exact chain_ok (m := true) (tT_val h)

/-! ### and, or, not, if else -/
theorem snd_and {ea eb : Expr} {rest : List Expr} {pos : Pos} {ra rb : Env → Tw → R PyData} (ha : PE X ea (tE y true ra)) (hb : PE X (.BoolOp .And (eb :: rest) pos) (tE y m rb)) :
    PE X (.BoolOp .And (ea :: eb :: rest) pos) (tE y m fun env t => (ra env t).bind fun x t => match x with
      | .bool true => rb env t
      | .bool false => .ok (.bool false) t
      | _ => .bad) := by
  refine PE.imp (pe_and ha hb) fun σ H Q h => ?_
  obtain ⟨env, t, O, r, h⟩ := h
  refine tE.then r h fun d1 t1 v H1 e1 g1 r1 rv1 h1 => ?_
  cases d1 with
  | bool b =>
    refine ⟨b, rv1.bool, ?_⟩
    cases b with
    | true => rw [if_pos rfl]; exact ⟨env, t1, O, r1, h1⟩
    | false => rw [if_neg Bool.false_ne_true]; exact h1 _ H1 Grow.refl r1.tw (.inl (.bl _))
  | _ => exact h1.elim
theorem snd_or {ea eb : Expr} {rest : List Expr} {pos : Pos} {ra rb : Env → Tw → R PyData} (ha : PE X ea (tE y true ra)) (hb : PE X (.BoolOp .Or (eb :: rest) pos) (tE y m rb)) :
    PE X (.BoolOp .Or (ea :: eb :: rest) pos) (tE y m fun env t => (ra env t).bind fun x t => match x with
      | .bool true => .ok (.bool true) t
      | .bool false => rb env t
      | _ => .bad) := by
  refine PE.imp (pe_or ha hb) fun σ H Q h => ?_
  obtain ⟨env, t, O, r, h⟩ := h
  refine tE.then r h fun d1 t1 v H1 e1 g1 r1 rv1 h1 => ?_
  cases d1 with
  | bool b =>
    refine ⟨b, rv1.bool, ?_⟩
    cases b with
    | true => rw [if_pos rfl]; exact h1 _ H1 Grow.refl r1.tw (.inl (.bl _))
    | false => rw [if_neg Bool.false_ne_true]; exact ⟨env, t1, O, r1, h1⟩
  | _ => exact h1.elim
theorem snd_not {ea : Expr} {pos : Pos} {ra : Env → Tw → R PyData} (ha : PE X ea (tE y true ra)) :
    PE X (.UnaryOp .Not ea pos) (tE y m fun env t => (ra env t).bind fun x t => match x with
      | .bool b => .ok (.bool (!b)) t
      | _ => .bad) := by
  refine PE.imp (pe_not ha) fun σ H Q h => ?_
  obtain ⟨env, t, O, r, h⟩ := h
  refine tE.then r h fun d1 t1 v H1 e1 g1 r1 rv1 h1 => ?_
  cases d1 with
  | bool b => exact ⟨b, rv1.bool, h1 _ H1 Grow.refl r1.tw (.inl (.bl _))⟩
  | _ => exact h1.elim
/-- what is asked of a run: of a value, of a test -/
def FinE (y : Cy) (m : Bool) (O : List Addr) (σ : St) (Q : VK) (H : Hp) : R PyData → Prop
  | .ok d t' => ∀ v H', Grow y.z H H' → TwOk y.z H' t' → Rv y m O H' v d → Q v H'
  | .exc c t' => ∀ H', Grow y.z H H' → TwOk y.z H' t' → y.W (.ref (y.z.cls c)) none σ H'
  | .bad => False
def FinT (y : Cy) (σ : St) (Q : Bool → Hp → Prop) (H : Hp) : R PyData → Prop
  | .ok d t' => ∃ b, d = .bool b ∧ ∀ H', Grow y.z H H' → TwOk y.z H' t' → Q b H'
  | .exc c t' => ∀ H', Grow y.z H H' → TwOk y.z H' t' → y.W (.ref (y.z.cls c)) none σ H'
  | .bad => False
theorem tE_fin {run : Env → Tw → R PyData} {σ : St} {H : Hp} {Q : VK} : tE y m run σ H Q ↔ ∃ env t O, Rel y env t σ H O ∧ FinE y m O σ Q H (run env t) := by
  unfold tE FinE
  constructor <;> (rintro ⟨env, t, O, r, h⟩; exact ⟨env, t, O, r, h⟩)
theorem tT_fin {run : Env → Tw → R PyData} {σ : St} {H : Hp} {Q : Bool → Hp → Prop} : tT y run σ H Q ↔ ∃ env t O, Rel y env t σ H O ∧ FinT y σ Q H (run env t) := by
  unfold tT FinT
  constructor <;> (rintro ⟨env, t, O, r, h⟩; exact ⟨env, t, O, r, h⟩)
theorem FinE.grow {O : List Addr} {σ : St} {Q : VK} {H H1 : Hp} {x : R PyData} (h : FinE y m O σ Q H x) (g : Grow y.z H H1) : FinE y m O σ Q H1 x := by
  cases x with
  | ok d t => exact fun v H' g' => h v H' (g.trans g')
  | exc c t => exact fun H' g' => h H' (g.trans g')
  | bad => exact h
theorem FinT.grow {σ : St} {Q : Bool → Hp → Prop} {H H1 : Hp} {x : R PyData} (h : FinT y σ Q H x) (g : Grow y.z H H1) : FinT y σ Q H1 x := by
  cases x with
  | ok d t =>
    obtain ⟨b, e, h⟩ := h
    exact ⟨b, e, fun H' g' => h H' (g.trans g')⟩
  | exc c t => exact fun H' g' => h H' (g.trans g')
  | bad => exact h
/-- a test, then what follows -/
theorem tT.then {ra : Env → Tw → R PyData} {σ : St} {H : Hp} {O : List Addr} {env : Env} {t : Tw} {k : PyData → Tw → R PyData} {C : Bool → Hp → Prop} {Z : Hp → R PyData → Prop}
    (r : Rel y env t σ H O) (h : Z H ((ra env t).bind k))
    (hk : ∀ d t, (∀ b, d ≠ .bool b) → k d t = .bad) (zb : Z H .bad → False) (zx : ∀ c t', Z H (.exc c t') → ∀ H', Grow y.z H H' → TwOk y.z H' t' → y.W (.ref (y.z.cls c)) none σ H')
    (zg : ∀ x H1, Z H x → Grow y.z H H1 → Z H1 x)
    (f : ∀ b t1 H1, ra env t = .ok (.bool b) t1 → Grow y.z H H1 → Rel y env t1 σ H1 O → Z H1 (k (.bool b) t1) → C b H1) : tT y ra σ H C := by
  refine ⟨env, t, O, r, ?_⟩
  cases e : ra env t with
  | bad => rw [e] at h; exact zb h
  | exc c t1 => rw [e] at h; exact zx c t1 h
  | ok d t1 =>
    rw [e] at h
    by_cases hb : ∃ b, d = .bool b
    · obtain ⟨b, rfl⟩ := hb
      exact ⟨b, rfl, fun H' g w => f b t1 H' e g (r.after g w) (zg _ _ h g)⟩
    · have h : Z H (k d t1) := h
      rw [hk d t1 fun b e => hb ⟨b, e⟩] at h
      exact (zb h).elim
theorem tst_and {ea eb : Expr} {rest : List Expr} {pos : Pos} {ra rb : Env → Tw → R PyData} (ha : PT X ea (tT y ra)) (hb : PW X (.BoolOp .And (eb :: rest) pos) (tT y rb)) :
    PW X (.BoolOp .And (ea :: eb :: rest) pos) (tT y fun env t => (ra env t).bind fun x t => match x with
      | .bool true => rb env t
      | .bool false => .ok (.bool false) t
      | _ => .bad) := by
  refine ⟨fun wh pins s σ H Q I h => (pw_and ha hb).run wh pins s σ H Q I ?_⟩
  obtain ⟨env, t, O, r, h⟩ := tT_fin.mp h
  refine tT.then (Z := FinT y σ Q) r h (fun d t n => ?_) (fun z => z) (fun c t' z => z) (fun x H1 z g => z.grow g) fun b t1 H1 e g r1 z => ?_
  · cases d with
    | bool b => exact absurd rfl (n b)
    | _ => rfl
  · cases b with
    | true => rw [if_pos rfl]; exact tT_fin.mpr ⟨env, t1, O, r1, z⟩
    | false =>
      rw [if_neg Bool.false_ne_true]
      obtain ⟨b, e, z⟩ := z
      cases e
      exact z H1 Grow.refl r1.tw
theorem tst_or {ea eb : Expr} {rest : List Expr} {pos : Pos} {ra rb : Env → Tw → R PyData} (ha : PT X ea (tT y ra)) (hb : PW X (.BoolOp .Or (eb :: rest) pos) (tT y rb)) :
    PW X (.BoolOp .Or (ea :: eb :: rest) pos) (tT y fun env t => (ra env t).bind fun x t => match x with
      | .bool true => .ok (.bool true) t
      | .bool false => rb env t
      | _ => .bad) := by
  refine ⟨fun wh pins s σ H Q I h => (pw_or ha hb).run wh pins s σ H Q I ?_⟩
  obtain ⟨env, t, O, r, h⟩ := tT_fin.mp h
  refine tT.then (Z := FinT y σ Q) r h (fun d t n => ?_) (fun z => z) (fun c t' z => z) (fun x H1 z g => z.grow g) fun b t1 H1 e g r1 z => ?_
  · cases d with
    | bool b => exact absurd rfl (n b)
    | _ => rfl
  · cases b with
    | false => rw [if_neg Bool.false_ne_true]; exact tT_fin.mpr ⟨env, t1, O, r1, z⟩
    | true =>
      rw [if_pos rfl]
      obtain ⟨b, e, z⟩ := z
      cases e
      exact z H1 Grow.refl r1.tw
theorem tst_not {ea : Expr} {pos : Pos} {ra : Env → Tw → R PyData} (ha : PT X ea (tT y ra)) :
    PT X (.UnaryOp .Not ea pos) (tT y fun env t => (ra env t).bind fun x t => match x with
      | .bool b => .ok (.bool (!b)) t
      | _ => .bad) := by
  refine PT.imp (pt_not ha) fun σ H Q h => ?_
  obtain ⟨env, t, O, r, h⟩ := tT_fin.mp h
  refine tT.then (Z := FinT y σ Q) r h (fun d t n => ?_) (fun z => z) (fun c t' z => z) (fun x H1 z g => z.grow g) fun b t1 H1 e g r1 z => ?_
  · cases d with
    | bool b => exact absurd rfl (n b)
    | _ => rfl
  · obtain ⟨b', e', z⟩ := z
    cases e'
    exact z H1 Grow.refl r1.tw
theorem snd_ite {ec ea eb : Expr} {pos : Pos} {rc ra rb : Env → Tw → R PyData} (hc : PT X ec (tT y rc)) (ha : PE X ea (tE y m ra)) (hb : PE X eb (tE y m rb)) :
    PE X (.IfExp ec ea eb pos) (tE y m fun env t => (rc env t).bind fun x t => match x with
      | .bool true => ra env t
      | .bool false => rb env t
      | _ => .bad) := by
  refine PE.imp (pe_ifExp hc ha hb) fun σ H Q h => ?_
  obtain ⟨env, t, O, r, h⟩ := tE_fin.mp h
  refine tT.then (Z := FinE y m O σ Q) r h (fun d t n => ?_) (fun z => z) (fun c t' z => z) (fun x H1 z g => z.grow g) fun b t1 H1 e g r1 z => ?_
  · cases d with
    | bool b => exact absurd rfl (n b)
    | _ => rfl
  · cases b with
    | true => rw [if_pos rfl]; exact tE_fin.mpr ⟨env, t1, O, r1, z⟩
    | false => rw [if_neg Bool.false_ne_true]; exact tE_fin.mpr ⟨env, t1, O, r1, z⟩
/-- a value as a test -/
theorem tst_val {e : Expr} {run : Env → Tw → R PyData} (h : PE X e (tE y true run)) (he : ∀ whole, isTrue e X.env whole = (do let v ← whole; standAt e.pos; holding [v] (truthy v))) : PT X e (tT y run) :=
  PT.imp (pt_val h he) fun σ H Q h => tT_val h

/-! ### places in lists, tuples, dicts -/
def rIxG (K : PySem.W.Frag) : R2 := fun x i H Q => rIx K x i H Q ∨ ∃ a u, x = .ref a ∧ DGet H a i (some u) ∧ Q u H
theorem ix_all (hu : X.A.units + 1 < cLine) : IxR X (rIxG X.K) := ix_seq.or (r' := fun x i H Q => ∃ a u, x = .ref a ∧ DGet H a i (some u) ∧ Q u H) fun value slice pins s σ H x w v u Q I rx ry h hs => by
  obtain ⟨a, z, rfl, g, q⟩ := h
  obtain rfl : v = Value.ref a := rx
  exact PyProof.Rows.tail_any (dict_typeIs I g) slot_dict_getitem.lookup (d_getItem hu I g ry fun w' s' I' r' => ⟨z, H, I', r', q⟩) hs
theorem ix_ok {a i d : PyData} {v w : V} {env : Env} {t : Tw} {σ : St} {H : Hp} {O : List Addr} {Q : VK} (r : Rel y env t σ H O) (ha : Rv y true O H v a) (hb : Rv y true O H w i) (e : ixD a i = some d) (q : Kn y m O t H d Q) : rIxG y.K v w H Q := by
  unfold ixD at e
  split at e
  · rename_i ds k
    obtain ⟨p, xs, rfl, h1, h2, h3⟩ := ha.items
    obtain rfl := hb.int
    unfold atI at e
    obtain ⟨j, e1, e2⟩ := Option.bind_eq_some_iff.mp e
    obtain ⟨v, e3, rv⟩ := h3.get e2
    refine .inl (.inl ⟨p, xs, _, v, rfl, rfl, SqL.of h1, ?_, q.here r rv⟩)
    unfold atI
    rw [h3.length, e1]
    exact e3
  · rename_i ds k
    obtain ⟨p, xs, rfl, h1, h2, h3, h4⟩ := ha.tuple
    obtain rfl := hb.int
    unfold atI at e
    obtain ⟨j, e1, e2⟩ := Option.bind_eq_some_iff.mp e
    obtain ⟨v, e3, rv⟩ := h3.get e2
    refine .inl (.inr (.inl ⟨p, xs, _, v, rfl, rfl, h1, ?_, q.here r rv⟩))
    unfold atI
    rw [h3.length, e1]
    exact e3
  · split at e
    · rename_i hf
      obtain ⟨p, o, rfl, g, z⟩ := dget_ok ha hb hf
      rcases z with ⟨z1, z2⟩ | ⟨d', u, z1, rfl, z3⟩
      · rw [z1] at e; cases e
      · rw [z1] at e
        cases e
        rcases g with g | ⟨g, _⟩
        · exact .inr ⟨p, u, rfl, g, q.here r z3⟩
        · cases g
    · cases e
  · cases e
theorem snd_ix {ea eb : Expr} {pos : Pos} {ra rb : Env → Tw → R PyData} (C : Ctx X y N sc) (ho : ordE eb = true) (ha : PE X ea (tE y true ra)) (hb : PE X eb (tE y true rb)) :
    PE X (.Subscript ea eb pos) (tE y m fun env t => (ra env t).bind fun x t => (rb env t).bind fun w t => R.of (ixD x w) t) := by
  refine PE.imp (pe_ix (ix_all (by have := C.units; omega)) ha hb (ix_ord ho)) fun σ H Q h => ?_
  obtain ⟨env, t, O, r, h⟩ := h
  refine tE.then r h fun d1 t1 v H1 e1 g1 r1 rv1 h1 => ?_
  refine tE.then r1 h1 fun d2 t2 w H2 e2 g2 r2 rv2 h2 => ?_
  rw [C.K]
  cases e : ixD d1 d2 with
  | none => rw [e] at h2; exact h2.elim
  | some d => rw [e] at h2; exact ix_ok r2 (rv1.after r1 g2) rv2 e h2

/-! ### slices -/
def tO (y : Cy) (run : Env → Tw → R (Option Int)) : TO := fun σ H Q => ∃ env t O, Rel y env t σ H O ∧ match run env t with
  | .ok d t' => ∀ H', Grow y.z H H' → TwOk y.z H' t' → Q d H'
  | .exc c t' => ∀ H', Grow y.z H H' → TwOk y.z H' t' → y.W (.ref (y.z.cls c)) none σ H'
  | .bad => False
theorem PO.imp {e : Option Expr} {t t' : TO} (h : PO X e t) (i : ∀ σ H Q, t' σ H Q → t σ H Q) : PO X e t' := ⟨fun pins s σ H Q I q => h.run pins s σ H Q I (i σ H Q q)⟩
theorem snd_o_none : PO X none (tO y fun _ t => .ok none t) := PO.imp po_none fun σ H Q h => by
  obtain ⟨env, t, O, r, h⟩ := h
  exact h H Grow.refl r.tw
theorem snd_o_some {e : Expr} {ra : Env → Tw → R PyData} (ha : PE X e (tE y true ra)) : PO X (some e) (tO y fun env t => (ra env t).bind fun d t => match d with
    | .int i => .ok (some i) t
    | _ => .bad) := by
  refine PO.imp (po_some ha) fun σ H Q h => ?_
  obtain ⟨env, t, O, r, h⟩ := h
  refine ⟨env, t, O, r, ?_⟩
  dsimp only at h
  cases e : ra env t with
  | bad => rw [e] at h; exact h
  | exc c t' => rw [e] at h; exact h
  | ok d t' =>
    rw [e] at h
    cases d with
    | int i =>
      intro v H' g w rv
      exact ⟨i, rv.int, h H' g w⟩
    | _ => exact False.elim h
theorem cut_map {K : PySem.W.Frag} {z : Cz} {H : Hp} {xs : List V} {ds : List PyData} (lo hi : Option Int) (h : RpAll K z H xs ds) : RpAll K z H (cutV xs lo hi) (cut ds lo hi) := by
  unfold cutV cut
  rw [h.length]
  exact (h.drop _).take _
theorem sl_ok {a d : PyData} {lo hi : Option Int} {v : V} {env : Env} {t : Tw} {σ : St} {H : Hp} {O : List Addr} {Q : VK} (r : Rel y env t σ H O) (ha : Rv y true O H v a) (e : slD a lo hi = some d) (q : Kn y m O t H d Q) :
    rSlL y.K v lo hi H Q ∨ rSlA y.K v lo hi H Q := by
  unfold slD at e
  split at e
  · cases e
    obtain ⟨p, xs, rfl, h1, h2, h3⟩ := ha.items
    exact .inl ⟨p, xs, rfl, SqL.of h1, fun p hp => q.list r hp (Nat.le_trans (cutV_length _ _ _) h2) (cut_map lo hi h3)⟩
  · cases e
    obtain ⟨p, xs, rfl, h1, h2, h3, h4⟩ := ha.tuple
    refine .inr ⟨p, xs, rfl, h1, fun w => ?_, fun _ p hp => q.tuple r hp (Nat.le_trans (cutV_length _ _ _) h2) (cut_map lo hi h3)⟩
    refine q.here r ?_
    have e : ∀ (zs : List PyData), RpAll y.K y.z (hide O H) xs zs → cut zs lo hi = zs := fun zs hz => by
      unfold cut
      rw [← hz.length, w.1, w.2, hz.length]
      simp
    rw [e _ h3]
    exact h4
  · cases e
theorem snd_sl {ea : Expr} {lo hi : Option Expr} {p2 pos : Pos} {ra : Env → Tw → R PyData} {rl rh : Env → Tw → R (Option Int)} (C : Ctx X y N sc) (ha : PE X ea (tE y true ra)) (hl : PO X lo (tO y rl)) (hh : PO X hi (tO y rh)) :
    PE X (.Subscript ea (.Slice lo hi none p2) pos) (tE y m fun env t => (ra env t).bind fun x t => (rl env t).bind fun l t => (rh env t).bind fun h t => R.of (slD x l h) t) := by
  refine PE.imp (pe_slice (sl_list.or sl_tupA) ha hl hh) fun σ H Q h => ?_
  obtain ⟨env, t, O, r, h⟩ := h
  refine tE.then r h fun d1 t1 v H1 e1 g1 r1 rv1 h1 => ?_
  refine ⟨env, t1, O, r1, ?_⟩
  cases e2 : rl env t1 with
  | bad => rw [e2] at h1; exact h1
  | exc c t' => rw [e2] at h1; exact h1
  | ok l t2 =>
    rw [e2] at h1
    intro H2 g2 w2
    have r2 := r1.after g2 w2
    refine ⟨env, t2, O, r2, ?_⟩
    simp only [R.bind] at h1
    cases e3 : rh env t2 with
    | bad => rw [e3] at h1; exact h1
    | exc c t' => rw [e3] at h1; exact fun H' g => h1 H' (g2.trans g)
    | ok hh t3 =>
      rw [e3] at h1
      intro H3 g3 w3
      have r3 := r2.after g3 w3
      simp only at h1
      rw [C.K]
      cases e : slD d1 l hh with
      | none => rw [e] at h1; exact h1.elim
      | some d =>
        rw [e] at h1
        exact sl_ok r3 ((rv1.after r1 g2).after r2 g3) e fun v H' g => h1 v H' ((g2.trans g3).trans g)
end
end Wv

set_option maxHeartbeats 1000000
namespace Wv
open PySem L2

section
variable {X : Cx} {y : Cy} {N : List Str} {sc : Scope} {m : Bool} {F : Nat → List PyData → Tw → R PyData}
variable {env : Env} {t : Tw} {σ : St} {H : Hp} {O : List Addr} {Q : VK}

/-! ### several expressions -/
theorem pair_share : ∀ {vs : List V} {ds : List PyData}, Paired (Rv y false O H) vs ds → RpAll y.K y.z (hide O H) vs ds
  | _, _, .nil => .nil
  | _, _, .cons a t => .cons a.share (pair_share t)
theorem pair_after {H' : Hp} (r : Rel y env t σ H O) (g : Grow y.z H H') : ∀ {vs : List V} {ds : List PyData}, Paired (Rv y m O H) vs ds → Paired (Rv y m O H') vs ds
  | _, _, .nil => .nil
  | _, _, .cons a t => .cons (a.after r g) (pair_after r g t)
theorem snd_nil : PA X [] (tL y m fun _ t => .ok [] t) := PA.imp pa_nil fun σ H Q h => by
  obtain ⟨env, t, O, r, h⟩ := h
  exact h [] H Grow.refl r.tw .nil
theorem snd_cons {e : Expr} {es : List Expr} {ra : Env → Tw → R PyData} {rs : Env → Tw → R (List PyData)} (ho : ordE e = true) (ha : PE X e (tE y m ra)) (hs : PA X es (tL y m rs)) :
    PA X (e :: es) (tL y m fun env t => (ra env t).bind fun d t => (rs env t).bind fun ds t => .ok (d :: ds) t) := by
  refine PA.imp (pa_cons ha hs (star_ord ho)) fun σ H Q h => ?_
  obtain ⟨env, t, O, r, h⟩ := h
  refine ⟨env, t, O, r, ?_⟩
  dsimp only at h
  cases e1 : ra env t with
  | bad => rw [e1] at h; exact h
  | exc c t' => rw [e1] at h; exact h
  | ok d t1 =>
    rw [e1] at h
    intro v H1 g1 w1 rv1
    have r1 := r.after g1 w1
    refine ⟨env, t1, O, r1, ?_⟩
    simp only [R.bind] at h
    cases e2 : rs env t1 with
    | bad => rw [e2] at h; exact h
    | exc c t' => rw [e2] at h; exact fun H' g => h H' (g1.trans g)
    | ok ds t2 =>
      rw [e2] at h
      intro vs H2 g2 w2 rv2
      exact h (v :: vs) H2 (g1.trans g2) w2 (.cons (rv1.after r1 g2) rv2)

/-- several values, then one more of them -/
theorem tL.then {ra : Env → Tw → R (List PyData)} {k : List PyData → Tw → R PyData} {m' : Bool} {C : List V → Hp → Prop}
    (r : Rel y env t σ H O) (h : FinE y m' O σ Q H ((ra env t).bind k))
    (f : ∀ ds t1 vs H1, ra env t = .ok ds t1 → Grow y.z H H1 → Rel y env t1 σ H1 O → Paired (Rv y m O H1) vs ds → FinE y m' O σ Q H1 (k ds t1) → C vs H1) : tL y m ra σ H C := by
  refine ⟨env, t, O, r, ?_⟩
  cases e : ra env t with
  | bad => rw [e] at h; exact h
  | exc c t1 => rw [e] at h; exact h
  | ok d t1 =>
    rw [e] at h
    intro vs H1 g w rv
    exact f d t1 vs H1 e g (r.after g w) rv (FinE.grow h g)

theorem snd_tup {es : List Expr} {x1 : Nat} {pos : Pos} {rs : Env → Tw → R (List PyData)} (h : PA X es (tL y false rs)) :
    PE X (.Tuple es x1 pos) (tE y m fun env t => (rs env t).bind fun ds t => R.of (okIf (decide (ds.length ≤ lineN)) (.tuple ds)) t) := by
  refine PE.imp (pe_tup h) fun σ H Q h => ?_
  obtain ⟨env, t, O, r, h⟩ := tE_fin.mp h
  refine tL.then r h fun ds t1 vs H1 e g r1 rv z => ?_
  by_cases hl : ds.length ≤ lineN
  · rw [okIf, if_pos (decide_eq_true hl)] at z
    have ps := pair_share rv
    have hv : vs.length ≤ lineN := by rw [ps.length]; exact hl
    exact ⟨by rw [line_eq]; exact hv, fun p hp => Kn.tuple r1 z hp hv ps⟩
  · rw [okIf, if_neg (by simpa using hl)] at z
    exact z.elim
theorem snd_lst {es : List Expr} {pos : Pos} {rs : Env → Tw → R (List PyData)} (h : PA X es (tL y false rs)) :
    PE X (.List es pos) (tE y m fun env t => (rs env t).bind fun ds t => R.of (okIf (decide (ds.length ≤ lineN)) (.list ds)) t) := by
  refine PE.imp (pe_lst h) fun σ H Q h => ?_
  obtain ⟨env, t, O, r, h⟩ := tE_fin.mp h
  refine tL.then r h fun ds t1 vs H1 e g r1 rv z => ?_
  by_cases hl : ds.length ≤ lineN
  · rw [okIf, if_pos (decide_eq_true hl)] at z
    have ps := pair_share rv
    have hv : vs.length ≤ lineN := by rw [ps.length]; exact hl
    exact ⟨by rw [line_eq]; exact hv, fun p hp => Kn.list r1 z hp hv ps⟩
  · rw [okIf, if_neg (by simpa using hl)] at z
    exact z.elim

/-! ### the sort -/
theorem leD_total : PySem.W.TotalLe leD := by
  have h := PySem.W.sortLe_total (PyProof.Rows.listOrd PyProof.Rows.itemOrd) false fun b : PyData => PySem.W.keyToks b
  exact h
theorem insD_split {le : PyData → PyData → Bool} {a : PyData} : ∀ {l1 l2 : List PyData}, (∀ b, b ∈ l1 → le a b = false) → (∀ b, b ∈ l2.head? → le a b = true) → insD le a (l1 ++ l2) = l1 ++ a :: l2
  | [], [], _, _ => rfl
  | [], c :: l2, _, h => by
    rw [List.nil_append, List.nil_append, insD, if_pos (h c (by simp))]
  | b :: l1, l2, h1, h2 => by
    rw [List.cons_append, List.cons_append, insD, if_neg (by rw [h1 b (by simp)]; decide), insD_split (fun c hc => h1 c (by simp [hc])) h2]
theorem mergeSort_sortD {le : PyData → PyData → Bool} (T : PySem.W.TotalLe le) : ∀ l : List PyData, l.mergeSort le = sortD le l
  | [] => by simp [sortD]
  | a :: l => by
    have tr : ∀ a b c, le a b = true → le b c = true → le a c = true := fun a b c h1 h2 => T.trans a b c h1 h2
    have to : ∀ a b, (le a b || le b a) = true := fun a b => Bool.or_eq_true_iff.mpr (T.total a b)
    obtain ⟨l1, l2, e1, e2, h⟩ := List.mergeSort_cons (le := le) tr to a l
    have ps := List.pairwise_mergeSort (le := le) tr to (a :: l)
    rw [e1] at ps
    rw [sortD, ← mergeSort_sortD T l, e1, e2]
    refine (insD_split (fun b hb => ?_) (fun b hb => ?_)).symm
    · have := h b hb
      simpa using this
    · have h3 := (List.pairwise_append.mp ps).2.1
      rw [List.pairwise_cons] at h3
      cases l2 with
      | nil => simp at hb
      | cons c l2 =>
        simp at hb
        subst hb
        exact h3.1 _ (by simp)

/-- pairs of a value and its datum -/
abbrev VD := V × PyData
theorem map_insD {le : PyData → PyData → Bool} (x : VD) : ∀ l : List VD, ∃ l1 l2, l = l1 ++ l2 ∧ insD le x.2 (l.map (·.2)) = (l1 ++ x :: l2).map (·.2)
  | [] => ⟨[], [], rfl, rfl⟩
  | c :: l => by
    rw [List.map_cons, insD]
    by_cases h : le x.2 c.2 = true
    · rw [if_pos h]
      exact ⟨[], c :: l, rfl, rfl⟩
    · rw [if_neg h]
      obtain ⟨l1, l2, e1, e2⟩ := map_insD (le := le) x l
      exact ⟨c :: l1, l2, by rw [e1]; rfl, by rw [e2]; rfl⟩
def rSortD (K : PySem.W.Frag) : List V → Hp → VK → Prop := fun vs H Q => ∃ (a : Addr) (bs : List VD), vs = [V.ref a] ∧ H a = some (.lst (bs.map (·.1))) ∧ (∀ b, b ∈ bs → Dp K H b.1 b.2) ∧ (sortOk (bs.map (·.2)) || oneB (bs.map (·.2))) = true ∧
  ∀ (cs : List VD) (p : Addr), cs.Perm bs → cs.map (·.2) = sortD leD (bs.map (·.2)) → H p = none → Q (.ref p) (upd H p (.lst (cs.map (·.1))))
theorem each_of {α β γ : Type} {Rr : α → γ → Prop} {f : β → γ} : ∀ {us : List α} {bs : List β}, Paired (fun (g : γ) (u : α) => Rr u g) (bs.map f) us → PySem.W.EachIs (fun u b => Rr u (f b)) us bs
  | [], [], _ => .nil
  | _, b :: bs, h => by
    cases h with
    | cons h t => exact .cons h (each_of t)
  | _ :: _, [], h => by cases h
theorem each_vals : ∀ {out : List Value} {cs : List VD}, PySem.W.EachIs (fun u (b : VD) => RelV b.1 u) out cs → Vals (cs.map (·.1)) out
  | _, _, .nil => .nil
  | _, _, .cons h t => .cons h (each_vals t)
theorem sortOk_parts {ds : List PyData} (h : sortOk ds = true) : PySem.W.AllAlike ds ∧ (∀ d, d ∈ ds → d.plain = true ∧ d.depth ≤ 50) ∧ PySem.W.Sortable ds := by
  simp only [sortOk, Bool.and_eq_true, Bool.or_eq_true, List.all_eq_true, decide_eq_true_eq] at h
  refine ⟨fun d hd d' hd' => ?_, h.1.2, ?_⟩
  · have h1 := h.1.1
    unfold allAlike at h1
    cases ds with
    | nil => cases hd
    | cons x r =>
      simp only [List.all_eq_true] at h1
      exact h1 d hd d' hd'
  · rcases h.2 with q | q
    · refine .inl fun d hd => ?_
      have := q d hd
      split at this
      · exact ⟨_, _, rfl⟩
      · cases this
    · refine .inr fun d hd => ?_
      have := q d hd
      refine ⟨?_, fun xs e => ?_⟩
      · rintro rfl; simp at this
      · rw [e] at this; simp at this
theorem oneB_eq {ds : List PyData} (h : oneB ds = true) : ds = [.tuple []] := by
  unfold oneB at h
  split at h
  · rfl
  · cases h
theorem sort_plain {ds : List PyData} (h : (sortOk ds || oneB ds) = true) : ∀ d, d ∈ ds → d.plain = true ∧ d.depth ≤ 50 := by
  rcases Bool.or_eq_true _ _ ▸ h with q | q
  · exact (sortOk_parts q).2.1
  · rw [oneB_eq q]
    intro d hd
    simp only [List.mem_singleton] at hd
    subst hd
    exact ⟨rfl, by decide⟩
theorem alike_one : PySem.W.AllAlike [.tuple []] := fun d hd d' hd' => by
  simp only [List.mem_singleton] at hd hd'
  subst hd hd'
  rfl
/-- one value that reads as the empty tuple can be sorted: nothing is asked of its kind -/
theorem sorts_one {prog : Program} {w : World} {A : Around} {s : Shared} {vs : List Value} (e : PySem.W.EachIs (fun v d => ∃ as, Reads s.heap v d as) vs [PyData.tuple []]) (hu : A.units < cLine) : PySem.W.SortsAt prog w A s (PySem.W.dataKind s.heap [.tuple []]) vs := by
  refine ⟨fun v hv => ?_, PyProof.Rows.tuples' false, ?_, fun h2 => ?_⟩
  · obtain ⟨d, hd, as, r⟩ := e.left v hv
    exact ⟨_, PySem.W.dataKind_some alike_one hd r⟩
  · intro E x y a b Q ha hb hq
    obtain ⟨d, as, hd, ra, rfl⟩ := PySem.W.dataKind_inv ha
    obtain ⟨d', as', hd', rb, rfl⟩ := PySem.W.dataKind_inv hb
    simp only [List.mem_singleton] at hd hd'
    subst hd hd'
    have hq' : Q (PySem.W.dataLt (.tuple []) (.tuple [])) s := hq
    rw [PySem.W.dataLt_tuple] at hq'
    cases ra with
    | @tuple l o xs n _ _ h1 h2 h3 h4 =>
      cases rb with
      | @tuple l' o' xs' n' _ _ k1 k2 k3 k4 =>
        have n1 : xs.size = 0 := by simpa using SeqAt.ReadsAll.length _ _ _ h4
        have n2 : xs'.size = 0 := by simpa using SeqAt.ReadsAll.length _ _ _ k4
        exact PySem.W.kat_lt h1 h3 k1 k3 (PySem.W.katLex_alike [] [] 0 _ _ _ _ h4 k4 rfl (by simpa [PyData.depthAll] using hu) (fun hb _ x r t ex => by cases ex) (by rw [n1, n2]; rfl) hq')
  · have := e.length
    simp at this
    omega
theorem cr_sortD (hu : X.A.units + 60 < cLine) : CallR X (.builtin "sorted") (rSortD X.K) := by
  intro pins s σ H vs us Q I r h
  obtain ⟨a, bs, rfl, ha, hd, hk, q⟩ := h
  have pl := sort_plain hk
  obtain ⟨its, rv, hl, hz⟩ := I.list (SqL.of ha)
  rw [Vals.ref1 r]
  have e1 : PySem.W.EachIs (fun u (b : VD) => RelV b.1 u) its bs := each_of (Rr := fun u v => RelV v u) (f := fun b : VD => b.1) rv
  have e2 : PySem.W.EachIs (fun u (b : VD) => ∃ as, Reads s.heap u b.2 as) its bs := by
    have all : ∀ (its : List Value) (cs : List VD), (∀ c, c ∈ cs → c ∈ bs) → PySem.W.EachIs (fun u (b : VD) => RelV b.1 u) its cs → PySem.W.EachIs (fun u (b : VD) => ∃ as, Reads s.heap u b.2 as) its cs := by
      intro its cs
      induction cs generalizing its with
      | nil => intro _ h; cases h; exact .nil
      | cons c cs ih =>
        intro hs h
        cases h with
        | cons h t => exact .cons (Dp.reads I c.2 c.1 _ (hd c (hs c (by simp))) h) (ih _ (fun d hd => hs d (by simp [hd])) t)
    exact all its bs (fun _ h => h) e1
  have fin : ∀ out : List Value, out.length = bs.length → PySem.W.EachIs (fun u (b : VD) => RelV b.1 u) out (bs.mergeSort (PySem.W.dataLe false fun b : VD => b.2)) → EP X pins σ Q (.ref (s.heap.objs.size + 1)) { s with heap := PyProof.Rows.sortedAll s.heap its out.toArray } := fun out ho he => by
    have perm : (bs.mergeSort (PySem.W.dataLe false fun b : VD => b.2)).Perm bs := List.mergeSort_perm _ _
    obtain ⟨ep, he'⟩ := PyProof.Rows.sortedAll_at s.heap its out.toArray
    have hlen : ((bs.mergeSort (PySem.W.dataLe false fun b : VD => b.2)).map (·.1)).length ≤ sizeLine := by
      rw [List.length_map, perm.length_eq]
      rw [List.length_map] at hz
      exact hz
    refine ⟨.ref _, upd H (s.heap.objs.size + 1) (.lst ((bs.mergeSort (PySem.W.dataLe false fun b : VD => b.2)).map (·.1))), I.laid (t' := s.toks) (fun _ _ => PyProof.Rows.sortedAll_old) (Nat.le_succ _) ⟨hlen, out, ep, each_vals he, he'⟩, rfl, q _ _ perm ?_ (I.hok.fresh (Nat.le_succ _))⟩
    rw [← mergeSort_sortD leD_total]
    exact PySem.W.sort_maps (fun b : VD => b.2) fun _ _ _ _ => rfl
  have hz' : bs.length ≤ sizeLine := by rw [List.length_map] at hz; exact hz
  rcases Bool.or_eq_true _ _ ▸ hk with hk | hk
  · obtain ⟨al, _, so⟩ := sortOk_parts hk
    refine PySem.W.sorted_data (bs := bs) (enc := fun b : VD => b.2) hl.isList e1 e2 al so hz' (fun b hb => ?_) fin
    have := (pl b.2 (List.mem_map.mpr ⟨b, hb, rfl⟩)).2
    omega
  · have ed := oneB_eq hk
    have er' : PySem.W.EachIs (fun u (b : VD) => ∃ as, Reads (PySem.W.sortingHeap (PySem.W.copyHeap s.heap its) (s.heap.objs.size + 1) its) u b.2 as) its bs := e2.mono fun _ _ ⟨as, r⟩ => ⟨as, PyProof.Rows.Reads.keeps (fun _ _ => PySem.W.sorting_copy_old) r⟩
    have em := PySem.W.each_map (R := fun u d => ∃ as, Reads (PySem.W.sortingHeap (PySem.W.copyHeap s.heap its) (s.heap.objs.size + 1) its) u d as) (fun b : VD => b.2) er'
    have al : PySem.W.AllAlike (bs.map fun b : VD => b.2) := by rw [ed]; exact alike_one
    have so := sorts_one (prog := X.prog) (w := X.w) (A := X.A.in1.in1) (s := { s with heap := PySem.W.sortingHeap (PySem.W.copyHeap s.heap its) (s.heap.objs.size + 1) its }) (vs := its) (by rw [← ed]; exact em) (by simp only [Around.in1]; omega)
    rw [← ed] at so
    exact PySem.W.sorted_vals hl.isList so (by rw [e1.length]; exact hz') (fin _ (by rw [PySem.W.sortVals_length false rfl]; exact e1.length) (PySem.W.sortVals_data false e1 er' al))
end
end Wv

set_option maxHeartbeats 1000000
namespace Wv
open PySem PySem.Calls PyProof.Rows PySem.Spec L2

/-! ### a dict's keys as values -/
def KeysAre (H : Hp) (a : Addr) (vs : List V) : Prop :=
  (∃ kvs, Rd H a (.dK kvs) ∧ vs = kvs.map fun p => kV p.1) ∨
  ∃ kvs, Rd H a (.dT kvs) ∧ Paired (fun (p : List Key × V) (v : V) => ∃ q, v = .ref q ∧ H q = some (.tup (p.1.map kV))) kvs vs
section
variable {X : Cx} {pins : List (Addr × Obj)} {σ : L2.St} {H : Hp} {s : Shared} {a : Addr}
theorem vals_pairs {P : Program} {w : World} : ∀ {es : List DictEntry} {vs : List (Key × Value)} {kvs : List (Key × V)}, Pairs (mixKind P w) es vs → KV kvs vs → Vals (kvs.map fun p => kV p.1) (es.map (·.key))
  | _, _, _, .nil, .nil => .nil
  | _, _, _, .cons h _ t, .cons r q => .cons (by
      obtain ⟨r1, _⟩ := r
      show L2.RelV (kV _) _
      rw [r1]
      exact relV_key h) (vals_pairs t q)
theorem keys_raw (I : Inv X pins σ H s) (d : IsD H a) : (a == sysModules) = false ∧ ∃ es ep vs, s.heap.DictRaw a es ep ∧ Vals vs (es.toList.map (·.key)) ∧ KeysAre H a vs ∧ es.size ≤ sizeLine := by
  rcases d with ⟨kvs, r⟩ | ⟨kvs, r⟩
  · obtain ⟨z, y, vs, kv, o, es, ep, h1, h2, h3, h4, h5, h6⟩ := dk_rd I.hok r
    refine ⟨y, es, ep, _, ⟨o, h1, h2, h3⟩, vals_pairs h5 kv, .inl ⟨kvs, r, rfl⟩, ?_⟩
    have l1 := h5.length
    have l2 : kvs.length = vs.length := kv.length
    rw [Array.length_toList] at l1
    omega
  · obtain ⟨z, y, xs, kv, o, es, ep, h1, h2, h3, h4, h5⟩ := (show ObjOk X.prog X.w H s.heap a (.dT kvs) from rd_of I.hok r)
    refine ⟨y, es, ep, xs.map fun p => .ref p.2.1, ⟨o, h1, h2, h3⟩, ?_, .inr ⟨kvs, r, ?_⟩, ?_⟩
    · rw [h4, List.map_map]
      exact vals_maps _ _ xs fun p _ => rfl
    · clear h4 h5 h3 h1 h2 z r
      induction kv with
      | nil => exact .nil
      | cons h t ih => exact .cons ⟨_, rfl, h.2.1⟩ ih
    · have l1 : es.size = xs.length := size_of_entries h4
      have l2 : kvs.length = xs.length := Paired.length kv
      omega

/-! ### len(d) -/
def rLenG : List V → Hp → VK → Prop := fun xs H Q => ∃ p n, xs = [.ref p] ∧ DLen H p n ∧ Q (.int ((n : Nat) : Int)) H
theorem call_lenG : CallR X (.builtin "len") rLenG := by
  intro pins s σ H xs us Q I r h
  obtain ⟨p, n, rfl, hp, q⟩ := h
  obtain ⟨u, rfl, rx⟩ := vals1 r
  obtain rfl : u = .ref p := rx
  rcases hp with ⟨kvs, r, rfl⟩ | ⟨kvs, r, rfl⟩
  · obtain ⟨z, y, vs, kv, dd⟩ := dk_rd I.hok r
    have l2 : kvs.length = vs.length := kv.length
    refine call_len_dict y dd (by rw [← l2]; rw [sizeLine_eq] at z; omega) ?_
    rw [← l2]
    exact ⟨.int _, H, I.tok _, ⟨_, rfl⟩, q⟩
  · obtain ⟨z, y, xs, kv, dd⟩ := dt_rd I.hok r
    have l2 : kvs.length = xs.length := Paired.length kv
    refine call_len_dictH y dd (by rw [← l2]; rw [sizeLine_eq] at z; omega) ?_
    rw [← l2]
    exact ⟨.int _, H, I.tok _, ⟨_, rfl⟩, q⟩

/-! ### sorted(d) -/
def rSortG (K : PySem.W.Frag) : List V → Hp → VK → Prop := fun xs H Q => ∃ (a : Addr) (ds : List PyData), xs = [.ref a] ∧ IsD H a ∧ sortOk ds = true ∧ (∀ vs, KeysAre H a vs → DpAll K H vs ds) ∧
  ∀ (bs cs : List VD) (p : Addr), KeysAre H a (bs.map (·.1)) → bs.map (·.2) = ds → cs.Perm bs → cs.map (·.2) = sortD leD ds → H p = none → Q (.ref p) (upd H p (.lst (cs.map (·.1))))
theorem dp_zip {K : PySem.W.Frag} : ∀ {vs : List V} {ds : List PyData}, DpAll K H vs ds → (vs.zip ds).map (·.1) = vs ∧ (vs.zip ds).map (·.2) = ds ∧ ∀ b, b ∈ vs.zip ds → Dp K H b.1 b.2
  | _, _, .nil => ⟨rfl, rfl, fun _ h => by simp at h⟩
  | _, _, .cons a t => by
    obtain ⟨h1, h2, h3⟩ := dp_zip t
    refine ⟨by simp [h1], by simp [h2], fun b hb => ?_⟩
    rw [List.zip_cons_cons, List.mem_cons] at hb
    rcases hb with rfl | hb
    · exact a
    · exact h3 b hb
theorem cr_sortG (hc : X.calm = true) (hu : X.A.units + 60 < cLine) : CallR X (.builtin "sorted") (rSortG X.K) := by
  intro pins s σ H xs us Q I r h
  obtain ⟨a, ds, rfl, isd, hk, hdp, q⟩ := h
  obtain ⟨u, rfl, rx⟩ := vals1 r
  obtain rfl : u = .ref a := rx
  obtain ⟨al, pl, so⟩ := sortOk_parts hk
  obtain ⟨lo, es, ep, vs, raw, rv, ka, hz⟩ := keys_raw I isd
  obtain ⟨z1, z2, z3⟩ := dp_zip (hdp vs ka)
  have hlen : (vs.zip ds).length = es.size := by
    have l1 : vs.length = (es.toList.map (·.key)).length := rv.length
    have l3 : (es.toList.map (·.key)).length = es.size := by rw [List.length_map]; exact Array.length_toList
    have l2 := congrArg List.length z1
    rw [List.length_map] at l2
    rw [l2, l1, l3]
  refine Calls.call_function_entry PyProof.Rows.kind_sorted PyProof.Rows.plain_sorted PyProof.Rows.entry_sorted (PyProof.Rows.args_sorted1 _) ?_
  unfold Builtin.«sorted»
  refine wpAny_bind (m := checkCount "sorted" 1 1 _) (wpAny_pure (wpAny_bind (PySem.W.kdu_collect (A := X.A.in1) (PySem.KdlSrc.rawDict (prog := X.prog) (w := X.w) (es := es) (ep := ep) lo) (I.ok.hd hc) raw hz fun h' tk acc hkeep hacc => ?_)))
  have hal : acc.toList.length = es.size := by rw [Array.length_toList, hacc.1]
  have hav : acc.toList = es.toList.map (·.key) := by
    apply List.ext_getElem?
    intro j
    rw [List.getElem?_map]
    by_cases hj : j < es.size
    · have hj' : j < acc.size := by rw [hacc.1]; exact hj
      obtain ⟨_, e2⟩ := hacc.2 j acc[j] (Array.getElem?_eq_getElem hj')
      rw [Array.getElem?_toList, Array.getElem?_toList, Array.getElem?_eq_getElem hj', Array.getElem?_eq_getElem hj, e2]
      rfl
    · rw [List.getElem?_eq_none (by rw [hal]; omega), List.getElem?_eq_none (by rw [Array.length_toList]; omega)]
      rfl
  have I1 : Inv X pins σ H { s with heap := h', toks := tk } := I.kept hkeep
  refine wpAny_bind (wpAny_newList ?_ (by rw [hal]; exact hz))
  generalize hvs : acc.toList = ws at hav hal
  have hoL : (h'.push (seqObj "list" ws.toArray 0)).get? h'.objs.size = some (seqObj "list" ws.toArray 0) := Heap.get?_push_size _ rfl
  show wpAny _ _ _ _ _ { s with heap := h'.push (seqObj "list" ws.toArray 0), toks := tk }
  have rv' : Vals vs ws := by rw [hav]; exact rv
  have e1 : PySem.W.EachIs (fun u (b : VD) => RelV b.1 u) ws (vs.zip ds) := each_of (Rr := fun u v => RelV v u) (f := fun b : VD => b.1) (by rw [z1]; exact rv')
  have e2 : PySem.W.EachIs (fun u (b : VD) => ∃ as, Reads (PySem.W.sortingHeap (h'.push (seqObj "list" ws.toArray 0)) h'.objs.size ws) u b.2 as) ws (vs.zip ds) := by
    have old : ∀ b o, h'.get? b = some o → (PySem.W.sortingHeap (h'.push (seqObj "list" ws.toArray 0)) h'.objs.size ws).get? b = some o := fun b o e => PySem.W.sortingHeap_old (Nat.ne_of_lt (Heap.lt_size e)) (Heap.get?_push_of_some _ e)
    have all : ∀ (its : List Value) (cs : List VD), (∀ c, c ∈ cs → c ∈ vs.zip ds) → PySem.W.EachIs (fun u (b : VD) => RelV b.1 u) its cs → PySem.W.EachIs (fun u (b : VD) => ∃ as, Reads (PySem.W.sortingHeap (h'.push (seqObj "list" ws.toArray 0)) h'.objs.size ws) u b.2 as) its cs := by
      intro its cs
      induction cs generalizing its with
      | nil => intro _ h; cases h; exact .nil
      | cons c cs ih =>
        intro hs h
        cases h with
        | cons h t =>
          obtain ⟨as, rd⟩ := Dp.reads I1 c.2 c.1 _ (z3 c (hs c (by simp))) h
          exact .cons ⟨as, PyProof.Rows.Reads.keeps old rd⟩ (ih _ (fun d hd => hs d (by simp [hd])) t)
    exact all ws _ (fun _ h => h) e1
  have al' : PySem.W.AllAlike ((vs.zip ds).map (·.2)) := by rw [z2]; exact al
  have so' : PySem.W.Sortable ((vs.zip ds).map (·.2)) := by rw [z2]; exact so
  have perm : ((vs.zip ds).mergeSort (PySem.W.dataLe false fun b : VD => b.2)).Perm (vs.zip ds) := List.mergeSort_perm _ _
  refine wpAny_bind (wpAny_holding (wpAny_call_entry PyProof.Rows.slot_list_sort ⟨_, hoL, rfl⟩ PyProof.Rows.entry_list_sort (PySem.W.list_sort_vals (s := { s with heap := h'.push (seqObj "list" ws.toArray 0), toks := tk }) (κ := PySem.W.dataKind (PySem.W.sortingHeap (h'.push (seqObj "list" ws.toArray 0)) h'.objs.size ws) ((vs.zip ds).map (·.2))) hoL (PySem.W.SortsAt.data (s := { s with heap := PySem.W.sortingHeap (h'.push (seqObj "list" ws.toArray 0)) h'.objs.size ws, toks := tk }) (PySem.W.each_map (R := fun v d => ∃ as, Reads (PySem.W.sortingHeap (h'.push (seqObj "list" ws.toArray 0)) h'.objs.size ws) v d as) (fun b : VD => b.2) e2) al' so' (fun d hd => ?_)) (by rw [hal]; exact hz) ⟨.none, rfl, ?_⟩) (PyProof.Rows.args_list_sort _)))
  · rw [z2] at hd
    have := (pl d hd).2
    show X.A.in1.in1.units + d.depth < cLine
    have : X.A.in1.in1.units = X.A.units + 2 := rfl
    omega
  · have ov := PySem.W.sortVals_data (h' := PySem.W.sortingHeap (h'.push (seqObj "list" ws.toArray 0)) h'.objs.size ws) (enc := fun b : VD => b.2) false e1 e2 al'
    generalize PySem.W.sortVals _ false ws ws = out at ov ⊢
    obtain ⟨e', he'⟩ := PyProof.Rows.sortedHeap_at (vs := ws) (out := out.toArray) hoL
    have hl2 : (((vs.zip ds).mergeSort (PySem.W.dataLe false fun b : VD => b.2)).map (·.1)).length ≤ sizeLine := by
      rw [List.length_map, perm.length_eq, hlen]
      exact hz
    refine wpAny_pure ⟨_, rfl, .ref h'.objs.size, upd H h'.objs.size (.lst (((vs.zip ds).mergeSort (PySem.W.dataLe false fun b : VD => b.2)).map (·.1))), I1.laid (t' := tk) (fun b u e => ?_) (Nat.le_refl _) ⟨hl2, out, e', each_vals ov, he'⟩, rfl, q (vs.zip ds) _ _ (by rw [z1]; exact ka) z2 perm ?_ (I1.hok.fresh (Nat.le_refl _))⟩
    · have hb : b < h'.objs.size := Heap.lt_size e
      rw [PyProof.Rows.sortedHeap_old (Nat.ne_of_lt hb) (by rw [size_push']; exact Nat.lt_succ_of_lt hb)]
      exact Heap.get?_push_of_some _ e
    · rw [← mergeSort_sortD leD_total]
      have z : ((vs.zip ds).mergeSort (PySem.W.dataLe false fun b : VD => b.2)).map (·.2) = ((vs.zip ds).map (·.2)).mergeSort leD := PySem.W.sort_maps (fun b : VD => b.2) fun _ _ _ _ => rfl
      rw [z, z2]
end
end Wv

set_option maxHeartbeats 1000000
namespace Wv
open PySem L2

def biName : Bi → Str
  | .len => "len" | .any => "any" | .all => "all" | .sum => "sum" | .min => "min" | .max => "max" | .min2 => "min" | .sorted => "sorted" | .tuple => "tuple" | .list => "list" | .str => "str" | .int => "int" | .lzip => "list"

section
variable {X : Cx} {y : Cy} {N : List Str} {sc : Scope} {m : Bool}
variable {env : Env} {t : Tw} {σ : St} {H : Hp} {O : List Addr} {Q : VK}

theorem pe_false {e : Expr} {run : Env → Tw → R PyData} (h : ∀ env t d t', run env t ≠ .ok d t') (h2 : ∀ env t c t', run env t ≠ .exc c t') : PE X e (tE y m run) := ⟨fun _ _ σ H Q I q => by
  obtain ⟨env, t, O, r, q⟩ := q
  cases e : run env t with
  | ok d t' => exact absurd e (h env t d t')
  | exc c t' => exact absurd e (h2 env t c t')
  | bad => rw [e] at q; exact q.elim⟩

theorem bools_ok {K : PySem.W.Frag} {z : Cz} {H : Hp} : ∀ {xs : List V} {ds : List PyData} {bs : List Bool}, RpAll K z H xs ds → boolsOf ds = some bs → xs = bs.map V.bl
  | _, _, _, .nil, e => by simp [boolsOf] at e; subst e; rfl
  | _, _, _, .cons (v := v) (d := d) a t, e => by
    cases d with
    | bool b =>
      simp only [boolsOf, Option.map_eq_some_iff] at e
      obtain ⟨bs', e1, rfl⟩ := e
      cases a
      rw [List.map_cons, bools_ok t e1]
    | _ => simp [boolsOf] at e
theorem ints_ok {K : PySem.W.Frag} {z : Cz} {H : Hp} : ∀ {xs : List V} {ds : List PyData} {bs : List Int}, RpAll K z H xs ds → intsOf ds = some bs → xs = bs.map V.int
  | _, _, _, .nil, e => by simp [intsOf] at e; subst e; rfl
  | _, _, _, .cons (v := v) (d := d) a t, e => by
    cases d with
    | int b =>
      simp only [intsOf, Option.map_eq_some_iff] at e
      obtain ⟨bs', e1, rfl⟩ := e
      cases a
      rw [List.map_cons, ints_ok t e1]
    | _ => simp [intsOf] at e

theorem pair1 {ds : PyData} {vs : List V} (h : Paired (Rv y m O H) vs [ds]) : ∃ v, vs = [v] ∧ Rv y m O H v ds := by
  cases h with
  | cons a t => cases t; exact ⟨_, rfl, a⟩
theorem pair2 {d e : PyData} {vs : List V} (h : Paired (Rv y m O H) vs [d, e]) : ∃ v w, vs = [v, w] ∧ Rv y m O H v d ∧ Rv y m O H w e := by
  cases h with
  | cons a t =>
    cases t with
    | cons b t => cases t; exact ⟨_, _, rfl, a, b⟩

theorem zip_pairs {K : PySem.W.Frag} {z : Cz} {H : Hp} : ∀ {xs : List V} {ds : List PyData}, RpAll K z H xs ds → (xs.zip ds).map (·.1) = xs ∧ (xs.zip ds).map (·.2) = ds ∧ ∀ b, b ∈ xs.zip ds → Rp K z H b.1 b.2
  | _, _, .nil => ⟨rfl, rfl, fun _ h => by simp at h⟩
  | _, _, .cons a t => by
    obtain ⟨h1, h2, h3⟩ := zip_pairs t
    refine ⟨by simp [h1], by simp [h2], fun b hb => ?_⟩
    rw [List.zip_cons_cons, List.mem_cons] at hb
    rcases hb with rfl | hb
    · exact a
    · exact h3 b hb
theorem rpAll_pairs {K : PySem.W.Frag} {z : Cz} {H : Hp} : ∀ {cs : List VD}, (∀ b, b ∈ cs → Rp K z H b.1 b.2) → RpAll K z H (cs.map (·.1)) (cs.map (·.2))
  | [], _ => .nil
  | c :: cs, h => .cons (h c (by simp)) (rpAll_pairs fun b hb => h b (by simp [hb]))

/-! ### a dict's keys -/
theorem rp_mem {K : PySem.W.Frag} {z : Cz} {H : Hp} : ∀ {cs : List VD}, RpAll K z H (cs.map (·.1)) (cs.map (·.2)) → ∀ b, b ∈ cs → Rp K z H b.1 b.2
  | [], _, b, hb => by cases hb
  | c :: cs, h, b, hb => by
    cases h with
    | cons a t =>
      rcases List.mem_cons.mp hb with rfl | hb
      · exact a
      · exact rp_mem t b hb
theorem plainAll_of : ∀ {ds : List PyData}, (∀ d, d ∈ ds → d.plain = true) → PyData.plainAll ds = true
  | [], _ => rfl
  | d :: ds, h => by
    simp only [PyData.plainAll, Bool.and_eq_true]
    exact ⟨h d (by simp), plainAll_of fun e he => h e (by simp [he])⟩
theorem rd_eqK {H : Hp} {a : Addr} {k k' : List (Key × V)} (h : Rd H a (.dK k)) (h' : Rd H a (.dK k')) : k = k' := by
  rcases h with h | ⟨o, h⟩ <;> rcases h' with h' | ⟨o', h'⟩ <;> rw [h] at h' <;> cases h' <;> rfl
theorem rd_eqT {H : Hp} {a : Addr} {k k' : List (List Key × V)} (h : Rd H a (.dT k)) (h' : Rd H a (.dT k')) : k = k' := by
  rcases h with h | ⟨o, h⟩ <;> rcases h' with h' | ⟨o', h'⟩ <;> rw [h] at h' <;> cases h' <;> rfl
theorem rd_kt {H : Hp} {a : Addr} {k : List (Key × V)} {k' : List (List Key × V)} (h : Rd H a (.dK k)) (h' : Rd H a (.dT k')) : False := by
  rcases h with h | ⟨o, h⟩ <;> rcases h' with h' | ⟨o', h'⟩ <;> rw [h] at h' <;> cases h'
theorem Rv.isD {v : V} {kds : List (PyData × PyData)} (h : Rv y m O H v (.dict kds)) (ok : okDict kds = true) : ∃ a, v = .ref a ∧ IsD H a := by
  rcases h.dict ok with ⟨a, ks, vs, ds, rfl, h1, _⟩ | ⟨a, ks, vs, ds, rfl, h1, _⟩
  · exact ⟨a, rfl, .inl ⟨_, h1⟩⟩
  · exact ⟨a, rfl, .inr ⟨_, h1⟩⟩
theorem Rv.dsize {v : V} {kds : List (PyData × PyData)} (h : Rv y m O H v (.dict kds)) (ok : okDict kds = true) : kds.length ≤ lineN := by
  rcases h.dict ok with ⟨a, ks, vs, ds, rfl, h1, h2, h3, rfl, h5⟩ | ⟨a, ks, vs, ds, rfl, h1, h2, h3, h4, rfl, h5⟩ <;> (simp only [List.length_zip, List.length_map]; omega)
theorem paired_keys {K : PySem.W.Frag} {z : Cz} {Hh : Hp} : ∀ {ks : List (List Key)} {vs vs' : List V}, ks.length = vs.length → (∀ q xs, H q = some (.tup xs) → Hh q = some (.tup xs)) → (∀ k, k ∈ ks → k.length ≤ lineN) → Paired (fun (p : List Key × V) (v : V) => ∃ q, v = .ref q ∧ H q = some (.tup (p.1.map kV))) (ks.zip vs) vs' → RpAll K z Hh vs' (ks.map keyT)
  | [], _, _, _, _, _, h => by cases h; exact .nil
  | k :: ks, v :: vs, _, e, hh, hl, h => by
    cases h with
    | cons a t =>
      obtain ⟨q, rfl, hq⟩ := a
      exact .cons (.tup (.inl (hh q _ hq)) (by rw [List.length_map]; exact hl k (by simp)) (keys_rp k)) (paired_keys (Nat.succ.inj e) hh (fun k' hk => hl k' (by simp [hk])) t)
theorem keys_rpAll {a : Addr} {kds : List (PyData × PyData)} {vs' : List V} (r : Rel y env t σ H O) (rv : Rv y m O H (.ref a) (.dict kds)) (ok : okDict kds = true) (z : KeysAre H a vs') : RpAll y.K y.z (hide O H) vs' (kds.map (·.1)) := by
  rcases rv.dict ok with ⟨a', ks, vs, ds, e, h1, h2, h3, rfl, h5⟩ | ⟨a', ks, vs, ds, e, h1, h2, h3, h4, rfl, h5⟩
  · cases e
    have ek : ((ks.map keyD).zip ds).map (·.1) = ks.map keyD := by
      have := h5.length
      exact List.map_fst_zip (by rw [List.length_map]; omega)
    rw [ek]
    rcases z with ⟨kvs, z1, rfl⟩ | ⟨kvs, z1, z2⟩
    · have e1 := rd_eqK z1 h1
      subst e1
      rw [show (fun p : Key × V => kV p.1) = kV ∘ Prod.fst from rfl, ← List.map_map, List.map_fst_zip (by omega)]
      exact keys_rp ks
    · exact (rd_kt h1 z1).elim
  · cases e
    have ek : ((ks.map keyT).zip ds).map (·.1) = ks.map keyT := by
      have := h5.length
      exact List.map_fst_zip (by rw [List.length_map]; omega)
    rw [ek]
    rcases z with ⟨kvs, z1, rfl⟩ | ⟨kvs, z1, z2⟩
    · exact (rd_kt z1 h1).elim
    · have e1 := rd_eqT z1 h1
      subst e1
      exact paired_keys h2 (fun q xs e => hide_of (fun hq => by have := r.dom q hq; rw [e] at this; exact this) e) (fun k hk => (h4 k hk).2) z2

/-- what a built-in asks of values -/
def rBi (K : PySem.W.Frag) : Bi → List V → Hp → VK → Prop
  | .len => fun xs H Q => (∃ x n, xs = [x] ∧ LenV K x H n ∧ Q (.int n) H) ∨ rLenG xs H Q
  | .any => rAny K
  | .all => rAll K
  | .sum => rSum K
  | .min2 => fun xs H Q => ∃ i j, xs = [.int i, .int j] ∧ Q (.int (if j < i then j else i)) H
  | .tuple => fun xs H Q => ∃ p ys, xs = [.ref p] ∧ ((SqL K H p ys ∧ ∀ l, H l = none → Q (.ref l) (upd H l (.tup ys))) ∨ (SqT K H p ys ∧ Q (.ref p) H))
  | .sorted => fun xs H Q => rSortD K xs H Q ∨ rSortG K xs H Q
  | .max => rMax K
  | .list => fun xs H Q => ∃ p ys, xs = [.ref p] ∧ (SqL K H p ys ∨ SqT K H p ys) ∧ ∀ l, H l = none → Q (.ref l) (upd H l (.lst ys))
  | _ => fun _ _ _ => False

theorem max_fold : ∀ {r : List Int} {n m : Int}, m ∈ n :: r → (∀ y, y ∈ n :: r → y ≤ m) → r.foldl (fun a b => if a < b then b else a) n = m
  | [], n, m, h, _ => by
    have e : m = n := by simpa using h
    exact e.symm
  | x :: r, n, m, h, hl => by
    rw [List.foldl_cons]
    refine max_fold ?_ fun y hy => ?_
    · have h1 := hl n (by simp)
      have h2 := hl x (by simp)
      simp only [List.mem_cons] at h ⊢
      split
      · rcases h with h | h | h
        · omega
        · exact .inl h
        · exact .inr h
      · rcases h with h | h | h
        · exact .inl h
        · left; omega
        · exact .inr h
    · simp only [List.mem_cons] at hy
      rcases hy with rfl | hy
      · split
        · exact hl x (by simp)
        · exact hl n (by simp)
      · exact hl y (by simp [hy])
theorem bi_ok {b : Bi} {ds : List PyData} {d : PyData} {vs : List V} (r : Rel y env t σ H O) (h : Paired (Rv y true O H) vs ds) (e : biD b ds = some d) (q : Kn y m O t H d Q) : rBi y.K b vs H Q := by
  unfold biD at e
  split at e
  · cases e
    obtain ⟨v, rfl, rv⟩ := pair1 h
    obtain ⟨a, xs, rfl, h1, h2, h3⟩ := rv.items
    refine .inl ⟨.ref a, _, rfl, .inl ⟨xs, SqL.of h1, rfl⟩, ?_⟩
    rw [h3.length]
    exact q.here r (.int _)
  · cases e
    obtain ⟨v, rfl, rv⟩ := pair1 h
    obtain ⟨a, xs, rfl, h1, h2, h3, _⟩ := rv.tuple
    refine .inl ⟨.ref a, _, rfl, .inr ⟨xs, h1, rfl⟩, ?_⟩
    rw [h3.length]
    exact q.here r (.int _)
  · split at e
    · rename_i ok
      cases e
      obtain ⟨v, rfl, rv⟩ := pair1 h
      obtain ⟨a, rfl, hl⟩ := rv.dlen ok
      exact .inr ⟨a, _, rfl, hl, q.here r (.int _)⟩
    · cases e
  · obtain ⟨bs, e1, rfl⟩ := Option.map_eq_some_iff.mp e
    obtain ⟨v, rfl, rv⟩ := pair1 h
    obtain ⟨a, xs, rfl, h1, h2, h3⟩ := rv.items
    obtain rfl := bools_ok h3 e1
    exact ⟨a, bs, rfl, SqL.of h1, q.here r (.bl _)⟩
  · obtain ⟨bs, e1, rfl⟩ := Option.map_eq_some_iff.mp e
    obtain ⟨v, rfl, rv⟩ := pair1 h
    obtain ⟨a, xs, rfl, h1, h2, h3⟩ := rv.items
    obtain rfl := bools_ok h3 e1
    exact ⟨a, bs, rfl, SqL.of h1, q.here r (.bl _)⟩
  · obtain ⟨bs, e1, rfl⟩ := Option.map_eq_some_iff.mp e
    obtain ⟨v, rfl, rv⟩ := pair1 h
    obtain ⟨a, xs, rfl, h1, h2, h3⟩ := rv.items
    obtain rfl := ints_ok h3 e1
    exact ⟨a, bs, rfl, SqL.of h1, q.here r (.int _)⟩
  · cases e
    obtain ⟨v, w, rfl, rv, rw'⟩ := pair2 h
    obtain rfl := rv.int
    obtain rfl := rw'.int
    exact ⟨_, _, rfl, q.here r (.int _)⟩
  · cases e
    obtain ⟨v, rfl, rv⟩ := pair1 h
    obtain ⟨a, xs, rfl, h1, h2, h3⟩ := rv.items
    exact ⟨a, xs, rfl, .inl ⟨SqL.of h1, fun l hl => q.tuple r hl h2 h3⟩⟩
  · obtain ⟨ok, rfl⟩ := okIf_some e
    obtain ⟨v, rfl, rv⟩ := pair1 h
    obtain ⟨a, xs, rfl, h1, h2, h3⟩ := rv.items
    obtain ⟨z1, z2, z3⟩ := zip_pairs h3
    have pl := sort_plain ok
    refine .inl ⟨a, xs.zip _, rfl, by rw [z1]; exact h1, fun b hb => ?_, by rw [z2]; exact ok, fun cs p perm e hp => ?_⟩
    · refine Rp.dp ((z3 b hb).mono hide_sub) (pl b.2 ?_).1
      rw [← z2]
      exact List.mem_map.mpr ⟨b, hb, rfl⟩
    · rw [z2] at e
      rw [← e] at q
      refine q.list r hp ?_ (rpAll_pairs fun b hb => z3 b (perm.mem_iff.mp hb))
      rw [List.length_map, perm.length_eq]
      have := congrArg List.length z1
      rw [List.length_map] at this
      rw [this]
      exact h2
  · obtain ⟨ok, rfl⟩ := okIf_some e
    obtain ⟨v, rfl, rv⟩ := pair1 h
    simp only [Bool.and_eq_true] at ok
    have pl := (sortOk_parts ok.2).2.1
    obtain ⟨a, rfl, isd⟩ := rv.isD ok.1
    refine .inr ⟨a, _, rfl, isd, ok.2, fun vs' z => ?_, fun bs cs p kb eb perm ec hp => ?_⟩
    · exact RpAll.dp ((keys_rpAll r rv ok.1 z).mono hide_sub) (plainAll_of fun d hd => (pl d hd).1)
    · rw [← ec] at q
      have hb := keys_rpAll r rv ok.1 kb
      rw [← eb] at hb
      have hl := rv.dsize ok.1
      refine q.list r hp ?_ (rpAll_pairs fun b hb' => rp_mem hb b (perm.mem_iff.mp hb'))
      rw [List.length_map, perm.length_eq]
      have := congrArg List.length eb
      rw [List.length_map, List.length_map] at this
      omega
  · cases e
    obtain ⟨v, rfl, rv⟩ := pair1 h
    obtain ⟨a, xs, rfl, h1, h2, h3⟩ := rv.items
    exact ⟨a, xs, rfl, .inl (SqL.of h1), fun l hl => q.list r hl h2 h3⟩
  · cases e
    obtain ⟨v, rfl, rv⟩ := pair1 h
    obtain ⟨a, xs, rfl, h1, h2, h3, _⟩ := rv.tuple
    exact ⟨a, xs, rfl, .inr h1, fun l hl => q.list r hl h2 h3⟩
  · obtain ⟨ns, e1, e2⟩ := Option.bind_eq_some_iff.mp e
    obtain ⟨v, rfl, rv⟩ := pair1 h
    obtain ⟨a, xs, rfl, h1, h2, h3⟩ := rv.items
    obtain rfl := ints_ok h3 e1
    cases ns with
    | nil => cases e2
    | cons n r' =>
      cases e2
      refine ⟨a, n :: r', rfl, SqL.of h1, by simp, fun m hm hle => ?_⟩
      rw [max_fold hm hle] at q
      exact q.here r (.int _)
  · cases e

theorem PE_CB {e : Expr} {es : List Expr} {r : List V → Hp → VK → Prop} {id : String} {x : Str} {p pos : Pos} {ta : TA} (C : Ctx X y N sc) (hc : CallR X (.builtin id) r) (hx : x ∈ biNames) (hg : glB sc x = true) (hv : bootBuiltins x = some (.builtin id)) (ho : (e :: es).all ordE = true) (ha : PA X (e :: es) ta)
    (hn : x ≠ "__name__") (hdb : (x == ("__debug__" : Str)) = false) : PE X (.Call (.Name x p) (e :: es) [] pos) (tCB r ta) := by
  simp only [List.all_cons, Bool.and_eq_true] at ho
  exact pe_callB hc (gl_of (by rw [C.scope]; exact hg)) (C.free x hx) hv ha hn hdb (star_ord ho.1) (stars_ord ho.2)
theorem PE_CT {e : Expr} {es : List Expr} {r : List V → Hp → VK → Prop} {id : String} {x : Str} {p pos : Pos} {ta : TA} (C : Ctx X y N sc) (hc : CallR X (.type id) r) (hx : x ∈ biNames) (hg : glB sc x = true) (hv : bootBuiltins x = some (.type id)) (ho : (e :: es).all ordE = true) (ha : PA X (e :: es) ta)
    (hn : x ≠ "__name__") (hdb : (x == ("__debug__" : Str)) = false) : PE X (.Call (.Name x p) (e :: es) [] pos) (tCB r ta) := by
  simp only [List.all_cons, Bool.and_eq_true] at ho
  exact pe_callTy hc (gl_of (by rw [C.scope]; exact hg)) (C.free x hx) hv ha hn hdb (star_ord ho.1) (stars_ord ho.2)

theorem bi_run {b : Bi} {rs : Env → Tw → R (List PyData)} {σ : St} {H : Hp} {Q : VK} (C : Ctx X y N sc) (h : tE y m (fun env t => (rs env t).bind fun ds t => R.of (biD b ds) t) σ H Q) : tCB (rBi X.K b) (tL y true rs) σ H Q := by
  obtain ⟨env, t, O, r, h⟩ := tE_fin.mp h
  refine tL.then r h fun ds t1 vs H1 e g r1 rv z => ?_
  rw [C.K]
  cases e : biD b ds with
  | none => rw [e] at z; exact z.elim
  | some d => rw [e] at z; exact bi_ok r1 rv e z
def biSup : Bi → Bool
  | .len | .any | .all | .sum | .min2 | .tuple | .sorted | .max | .list => true
  | _ => false
theorem snd_bi {b : Bi} {es : List Expr} {p pos : Pos} {rs : Env → Tw → R (List PyData)} (C : Ctx X y N sc) (hs : biSup b = true) (hg : glB sc (biName b) = true) (ne : es ≠ []) (ho : es.all ordE = true) (h : PA X es (tL y true rs)) :
    PE X (.Call (.Name (biName b) p) es [] pos) (tE y m fun env t => (rs env t).bind fun ds t => R.of (biD b ds) t) := by
  cases es with
  | nil => exact absurd rfl ne
  | cons e es =>
    cases b with
    | len => exact PE.imp (PE_CB C (call_len.or call_lenG) (by decide) hg boot_len ho h (by decide) (by decide)) fun σ H Q q => bi_run C q
    | any => exact PE.imp (PE_CB C (cr_any C.calm) (by decide) hg (by decide +kernel) ho h (by decide) (by decide)) fun σ H Q q => bi_run C q
    | all => exact PE.imp (PE_CB C (cr_all C.calm) (by decide) hg (by decide +kernel) ho h (by decide) (by decide)) fun σ H Q q => bi_run C q
    | sum => exact PE.imp (PE_CB C (cr_sum C.calm) (by decide) hg (by decide +kernel) ho h (by decide) (by decide)) fun σ H Q q => bi_run C q
    | min2 => exact PE.imp (PE_CB C (call_min2 C.calm) (by decide) hg (by decide +kernel) ho h (by decide) (by decide)) fun σ H Q q => bi_run C q
    | tuple => exact PE.imp (PE_CT C call_tuple_of (by decide) hg (by decide +kernel) ho h (by decide) (by decide)) fun σ H Q q => bi_run C q
    | max => exact PE.imp (PE_CB C (cr_max C.calm) (by decide) hg (by decide +kernel) ho h (by decide) (by decide)) fun σ H Q q => bi_run C q
    | list => exact PE.imp (PE_CT C call_list_of (by decide) hg (by decide +kernel) ho h (by decide) (by decide)) fun σ H Q q => bi_run C q
    | sorted => exact PE.imp (PE_CB C ((cr_sortD (by have := C.units; omega)).or (cr_sortG C.calm (by have := C.units; omega))) (by decide) hg (by decide +kernel) ho h (by decide) (by decide)) fun σ H Q q => bi_run C q
    | _ => cases hs

/-! ### isinstance -/
def tyName : Ty → String
  | .int => "int" | .bool => "bool" | .str => "str" | .tuple => "tuple" | .list => "list" | _ => "object"
def tyStr : Ty → Str
  | .int => "int" | .bool => "bool" | .str => "str" | .tuple => "tuple" | .list => "list" | _ => "object"
def tySup : Ty → Bool
  | .exc _ => false
  | .ve => false
  | _ => true
def tyOfD : PyData → String
  | .none => "NoneType" | .bool _ => "bool" | .int _ => "int" | .str _ => "str" | .list _ => "list" | .tuple _ => "tuple" | .dict _ => "dict"
theorem Rv.ty {v : V} {d : PyData} (h : Rv y true O H v d) (nd : ∀ kvs, d ≠ .dict kvs) : ∃ T : String, TyX y.K H v (.type T) ∧ T = tyOfD d := by
  have hf : Rp y.K y.z H v d := by
    rcases h with h | ⟨_, a, rfl, p⟩
    · exact h.mono hide_sub
    · cases p.is with
      | lst h1 h2 h4 => exact .lst h1 h2 (h4.mono hide_sub)
      | dk => exact absurd rfl (nd _)
      | dt => exact absurd rfl (nd _)
  cases hf with
  | non => exact ⟨_, .base .non, rfl⟩
  | bl b => exact ⟨_, .base (.bl b), rfl⟩
  | int i => exact ⟨_, .base (.int i), rfl⟩
  | str x => exact ⟨_, .base (.str x), rfl⟩
  | lst h1 h2 h3 => exact ⟨_, .base (.lst h1), rfl⟩
  | tup h1 h2 h3 =>
    rcases h1.sq with (h1 | ⟨o, h1⟩) | ⟨o, its, n, hk, hc, _⟩
    · exact ⟨_, .base (.tup h1), rfl⟩
    · exact ⟨_, .fTuple h1, rfl⟩
    · exact ⟨_, .kTuple hk hc, rfl⟩
  | dk => exact absurd rfl (nd _)
  | dt => exact absurd rfl (nd _)
  | town => exact absurd rfl (nd _)
  | exc c h => exact absurd rfl (nd _)
theorem isi_ok {ty : Ty} {d : PyData} {b : Bool} {v : V} (h : Rv y true O H v d) (e : isiD ty d = some b) (hs : tySup ty = true) : ∃ t, TyX y.K H v t ∧ PySem.W.kitOne y.K t (.type (tyName ty)) = some b := by
  have nd : ∀ kvs, d ≠ .dict kvs := fun kvs q => by
    rw [q] at e
    cases ty <;> first
      | (exact absurd hs Bool.false_ne_true)
      | (simp [isiD] at e)
  obtain ⟨T, h1, h2⟩ := h.ty nd
  refine ⟨_, h1, ?_⟩
  subst h2
  cases ty <;> first
    | (exact absurd hs Bool.false_ne_true)
    | (cases d <;> first
        | (simp [isiD] at e; subst e; simp only [tyOfD, tyName]; exact kit_ty (by decide +kernel))
        | (simp [isiD] at e))
theorem snd_isi {ty : Ty} {ea : Expr} {p p2 pos : Pos} {ra : Env → Tw → R PyData} (C : Ctx X y N sc) (hs : tySup ty = true) (hg : glB sc "isinstance" = true) (hg2 : glB sc (tyStr ty) = true) (ho : ordE ea = true) (ha : PE X ea (tE y true ra)) :
    PE X (.Call (.Name "isinstance" p) [ea, .Name (tyStr ty) p2] [] pos) (tE y m fun env t => (ra env t).bind fun x t => R.of ((isiD ty x).map .bool) t) := by
  have hT : PE X (.Name (tyStr ty) p2) (tC (.ty (tyName ty))) := by
    have hgl : Gl X (tyStr ty) := gl_of (by rw [C.scope]; exact hg2)
    cases ty with
    | exc c => cases hs
    | ve => cases hs
    | int => exact pe_bltn hgl (C.free "int" (by decide)) (u := .type "int") (by decide +kernel) rfl
    | bool => exact pe_bltn hgl (C.free "bool" (by decide)) (u := .type "bool") (by decide +kernel) rfl
    | str => exact pe_bltn hgl (C.free "str" (by decide)) (u := .type "str") (by decide +kernel) rfl
    | tuple => exact pe_bltn hgl (C.free "tuple" (by decide)) (u := .type "tuple") (by decide +kernel) rfl
    | list => exact pe_bltn hgl (C.free "list" (by decide)) (u := .type "list") (by decide +kernel) rfl
  refine PE.imp (PE_CB C call_isi (by decide) hg (by decide +kernel) (by rw [List.all_cons, ho]; rfl) (pa_cons ha (pa_cons hT pa_nil) (star_ord ho)) (by decide) (by decide)) fun σ H Q h => ?_
  obtain ⟨env, t, O, r, h⟩ := h
  refine tE.then r h fun d1 t1 v H1 e1 g1 r1 rv1 h1 => ?_
  rw [C.K]
  cases e : isiD ty d1 with
  | none => rw [e] at h1; exact h1.elim
  | some b =>
    rw [e] at h1
    obtain ⟨t, k1, k2⟩ := isi_ok rv1 e hs
    exact ⟨v, _, t, _, b, rfl, .ty _, k1, k2, h1 _ H1 Grow.refl r1.tw (.inl (.bl b))⟩
end
end Wv

set_option maxHeartbeats 1000000
namespace Wv
open PySem L2

/-! ### what stands stays -/
def Fut (O : List Addr) (H : Hp) (O' : List Addr) (H' : Hp) : Prop := ∀ a u, hide O H a = some u → hide O' H' a = some u
theorem Fut.refl {O : List Addr} {H : Hp} : Fut O H O H := fun _ _ h => h
theorem Fut.trans {O O1 O2 : List Addr} {H H1 H2 : Hp} (a : Fut O H O1 H1) (b : Fut O1 H1 O2 H2) : Fut O H O2 H2 := fun p u h => b p u (a p u h)

section
variable {X : Cx} {y : Cy} {N : List Str} {sc : Scope} {m : Bool}
variable {env env' : Env} {t t' : Tw} {σ σ' : St} {H H' : Hp} {O : List Addr} {Q : VK}

theorem Rel.fut (r : Rel y env t σ H O) (g : Grow y.z H H') : Fut O H O H' := r.mono g

/-- the same state under another wish -/
theorem Rel.wish (r : Rel y env t σ H O) (W : WX) : Rel { y with W := W } env t σ H O where
  len := r.len
  sh := r.sh
  ow := fun i d e => by
    obtain ⟨a, e1, p⟩ := r.ow i d e
    exact ⟨a, e1, ⟨p.mem, p.nT, p.nN, p.new, p.is⟩⟩
  inj := r.inj
  grow := r.grow
  sub := r.sub
  dom := r.dom
  tT := r.tT
  dom0 := r.dom0
  tN := r.tN
  ne := r.ne
  tw := r.tw
theorem Rel.unwish {W : WX} (r : Rel { y with W := W } env t σ H O) : Rel y env t σ H O where
  len := r.len
  sh := r.sh
  ow := fun i d e => by
    obtain ⟨a, e1, p⟩ := r.ow i d e
    exact ⟨a, e1, ⟨p.mem, p.nT, p.nN, p.new, p.is⟩⟩
  inj := r.inj
  grow := r.grow
  sub := r.sub
  dom := r.dom
  tT := r.tT
  dom0 := r.dom0
  tN := r.tN
  ne := r.ne
  tw := r.tw
theorem Rv.unwish {W : WX} {v : V} {d : PyData} (h : Rv { y with W := W } m O H v d) : Rv y m O H v d := by
  rcases h with h | ⟨e, a, e1, p⟩
  · exact .inl h
  · exact .inr ⟨e, a, e1, ⟨p.mem, p.nT, p.nN, p.new, p.is⟩⟩

/-- slots forgotten -/
theorem getSet {α : Type} {l : List (Option α)} {v : Nat} {i : Nat} {x : α} (h : (l.set v none)[i]? = some (some x)) : i ≠ v ∧ l[i]? = some (some x) := by
  by_cases e : v = i
  · subst e
    by_cases hl : v < l.length
    · rw [List.getElem?_set_self hl] at h; cases h
    · rw [List.getElem?_eq_none (by simpa using hl)] at h; cases h
  · rw [List.getElem?_set_ne e] at h
    exact ⟨Ne.symm e, h⟩
theorem Rel.forget (r : Rel y env t σ H O) (v : Nat) : Rel y (env.set v none) t (σ.set v none) H O where
  len := by rw [List.length_set, List.length_set]; exact r.len
  sh := fun i d e => by
    obtain ⟨n, e⟩ := getSet e
    obtain ⟨w, e1, p⟩ := r.sh i d e
    exact ⟨w, by rw [List.getElem?_set_ne (Ne.symm n)]; exact e1, p⟩
  ow := fun i d e => by
    obtain ⟨n, e⟩ := getSet e
    obtain ⟨w, e1, p⟩ := r.ow i d e
    exact ⟨w, by rw [List.getElem?_set_ne (Ne.symm n)]; exact e1, p⟩
  inj := fun i j d e a h1 h2 h3 h4 => by
    obtain ⟨n1, h1⟩ := getSet h1
    obtain ⟨n2, h2⟩ := getSet h2
    rw [List.getElem?_set_ne (Ne.symm n1)] at h3
    rw [List.getElem?_set_ne (Ne.symm n2)] at h4
    exact r.inj i j d e a h1 h2 h3 h4
  grow := r.grow
  sub := r.sub
  dom := r.dom
  tT := r.tT
  dom0 := r.dom0
  tN := r.tN
  ne := r.ne
  tw := r.tw
theorem Rel.wipe (r : Rel y env t σ H O) : ∀ vs : List Nat, Rel y (wipeE env vs) t (L2.wipe σ vs) H O
  | [] => r
  | v :: vs => (Rel.wipe r vs).forget v
/-- a shared value stored -/
theorem Rel.store {i : Nat} {v : V} {d : PyData} (r : Rel y env t σ H O) (h : Rp y.K y.z (hide O H) v d) : Rel y (env.set i (some (false, d))) t (σ.set i (some v)) H O where
  len := by rw [List.length_set, List.length_set]; exact r.len
  sh := fun j e q => by
    by_cases n : i = j
    · subst n
      by_cases hl : i < env.length
      · rw [List.getElem?_set_self hl] at q
        cases q
        exact ⟨v, by rw [List.getElem?_set_self (by rw [r.len]; exact hl)], h⟩
      · rw [List.getElem?_eq_none (by simpa using hl)] at q; cases q
    · rw [List.getElem?_set_ne n] at q ⊢
      exact r.sh j e q
  ow := fun j e q => by
    by_cases n : i = j
    · subst n
      by_cases hl : i < env.length
      · rw [List.getElem?_set_self hl] at q
        cases q
      · rw [List.getElem?_eq_none (by simpa using hl)] at q; cases q
    · rw [List.getElem?_set_ne n] at q ⊢
      exact r.ow j e q
  inj := fun j k d' e a h1 h2 h3 h4 => by
    have no : ∀ (k : Nat) d', (env.set i (some (false, d)))[k]? = some (some (true, d')) → i ≠ k := fun k d' q n => by
      subst n
      by_cases hl : i < env.length
      · rw [List.getElem?_set_self hl] at q; cases q
      · rw [List.getElem?_eq_none (by simpa using hl)] at q; cases q
    have n1 := no j _ h1
    have n2 := no k _ h2
    rw [List.getElem?_set_ne n1] at h1 h3
    rw [List.getElem?_set_ne n2] at h2 h4
    exact r.inj j k _ _ a h1 h2 h3 h4
  grow := r.grow
  sub := r.sub
  dom := r.dom
  tT := r.tT
  dom0 := r.dom0
  tN := r.tN
  ne := r.ne
  tw := r.tw

/-! ### targets -/
def setAll : List Nat → List V → St → St
  | i :: is, v :: vs, σ => setAll is vs (σ.set i (some v))
  | _, _, σ => σ
def setAllE : List Nat → List PyData → Env → Env
  | i :: is, d :: ds, env => setAllE is ds (env.set i (some (false, d)))
  | _, _, env => env
theorem foldl_setAllE : ∀ (is : List Nat) (ds : List PyData) (env : Env), (is.zip ds).foldl (fun e p => e.set p.1 (some (false, p.2))) env = setAllE is ds env
  | [], _, _ => rfl
  | _ :: _, [], _ => rfl
  | i :: is, d :: ds, env => by
    rw [List.zip_cons_cons, List.foldl_cons, setAllE]
    exact foldl_setAllE is ds _
theorem Rel.storeAll : ∀ {is : List Nat} {vs : List V} {ds : List PyData} {env : Env} {σ : St}, Rel y env t σ H O → RpAll y.K y.z (hide O H) vs ds → Rel y (setAllE is ds env) t (setAll is vs σ) H O
  | [], _, _, _, _, r, _ => r
  | _ :: _, _, _, _, _, r, .nil => r
  | i :: is, _, _, _, _, r, .cons a t => Rel.storeAll (is := is) (r.store a) t
/-- the state of the slots behind a target's store -/
def tgSet : Tg → V → List V → St → St
  | .name i, v, _, σ => σ.set i (some v)
  | .tup is, _, vs, σ => setAll is vs σ
def gTg (K : PySem.W.Frag) : Tg → TG
  | .name i => gName i
  | .tup is => gTup K is.length fun vs σ H Q => vs.length = is.length ∧ Q (setAll is vs σ) H
/-- from a value and its datum to the state with it -/
theorem tg_ok {tg : Tg} {v : V} {d : PyData} {Z : St → Hp → Prop} (h : Rp y.K y.z (hide O H) v d) (e : bindTg tg d env = some env')
    (q : ∀ vs, (∀ t2 H2 O2, Rel y env t2 σ H2 O2 → Fut O H O2 H2 → Rel y env' t2 (tgSet tg v vs σ) H2 O2) → Z (tgSet tg v vs σ) H) : gTg y.K tg v σ H Z := by
  cases tg with
  | name i =>
    simp only [bindTg, Option.some.injEq] at e
    subst e
    exact q [] fun t2 H2 O2 r f => r.store (h.mono f)
  | tup is =>
    cases d with
    | tuple ds =>
      simp only [bindTg] at e
      split at e
      · rename_i hl
        cases e
        cases h with
        | tup h1 h2 h3 =>
          refine ⟨_, _, rfl, SqT.mono hide_sub h1.sq, by rw [h3.length]; exact hl.symm, by rw [h3.length]; exact hl.symm, ?_⟩
          refine q _ fun t2 H2 O2 r f => ?_
          rw [foldl_setAllE]
          exact r.storeAll (h3.mono f)
      · cases e
    | _ => simp [bindTg] at e

def locB (sc : Scope) (x : Str) : Bool := match sc.names.lookup x with
  | some .local => true
  | some .cell => true
  | _ => false
def localB (sc : Scope) (x : Str) : Bool := match sc.names.lookup x with
  | some .local => true
  | _ => false
theorem loc_of {sc : Scope} {x : Str} (h : locB sc x = true) : Loc sc x := by
  unfold locB at h
  split at h
  · rename_i e; exact .inl e
  · rename_i e; exact .inr e
  · cases h
theorem local_of {sc : Scope} {x : Str} (h : localB sc x = true) : sc.names.lookup x = some .local := by
  unfold localB at h
  split at h
  · rename_i e; exact e
  · cases h
def chkName (N : List Str) (sc : Scope) (fnB : Str → Bool) (i : Nat) : Expr → Bool
  | .Name x _ => decide (N[i]? = some x) && locB sc x && (fnB x || localB sc x)
  | _ => false
def chkNames (N : List Str) (sc : Scope) (fnB : Str → Bool) : List Nat → List Expr → Bool
  | [], [] => true
  | i :: is, e :: es => chkName N sc fnB i e && chkNames N sc fnB is es
  | _, _ => false
def chkTg (N : List Str) (sc : Scope) (fnB : Str → Bool) : Tg → Expr → Bool
  | .name i, e => chkName N sc fnB i e
  | .tup is, .Tuple es _ _ => chkNames N sc fnB is es
  | _, _ => false
theorem pg_chk {fnB : Str → Bool} {i : Nat} {e : Expr} (C : Ctx X y N sc) (hf : ∀ x, fnB x = true → X.fn x = true) (h : chkName N sc fnB i e = true) : PG X e (gName i) := by
  cases e with
  | Name x p =>
    simp only [chkName, Bool.and_eq_true, Bool.or_eq_true, decide_eq_true_eq] at h
    refine pg_name (by rw [C.names]; exact C.nd) (by rw [C.names]; exact h.1.1) (by rw [C.scope]; exact loc_of h.1.2) ?_
    rcases h.2 with q | q
    · exact .inl (hf x q)
    · exact .inr (by rw [C.scope]; exact local_of q)
  | _ => cases h
theorem chkName_ord {fnB : Str → Bool} {i : Nat} {e : Expr} {es : List Expr} {env : PySem.Env} (h : chkName N sc fnB i e = true) : assignEach (e :: es) env = (false, assign e env) :: assignEach es env := by
  cases e with
  | Name x p => rfl
  | _ => cases h
theorem pgs_chk {fnB : Str → Bool} (C : Ctx X y N sc) (hf : ∀ x, fnB x = true → X.fn x = true) : ∀ {is : List Nat} {es : List Expr}, chkNames N sc fnB is es = true →
    PGs X es (fun vs σ H Q => vs.length = is.length ∧ Q (setAll is vs σ) H) ∧ (assignEach es X.env).length = is.length ∧ (assignEach es X.env).findIdx? (·.1) = none
  | [], [], _ => ⟨⟨fun pins s σ H vs us Q I r q => by
      obtain ⟨l, q⟩ := q
      have e : vs = [] := List.eq_nil_of_length_eq_zero l
      subst e
      exact pgs_nil.run pins s σ H [] us Q I r ⟨rfl, q⟩⟩, rfl, rfl⟩
  | i :: is, e :: es, h => by
    simp only [chkNames, Bool.and_eq_true] at h
    obtain ⟨p, l, f⟩ := pgs_chk C hf h.2
    have ea := chkName_ord (es := es) (env := X.env) h.1
    refine ⟨⟨fun pins s σ H vs us Q I r q => ?_⟩, by rw [ea, List.length_cons, l, List.length_cons], by rw [ea]; simp [List.findIdx?_cons, f]⟩
    obtain ⟨l', q⟩ := q
    cases vs with
    | nil => cases l'
    | cons v vs =>
      exact (pgs_cons (pg_chk C hf h.1) p (by rw [ea]; rfl)).run pins s σ H (v :: vs) us Q I r ⟨v, vs, rfl, by simpa using l', q⟩
  | [], _ :: _, h => by cases h
  | _ :: _, [], h => by cases h
theorem pg_tg {fnB : Str → Bool} {tg : Tg} {e : Expr} (C : Ctx X y N sc) (hf : ∀ x, fnB x = true → X.fn x = true) (h : chkTg N sc fnB tg e = true) : PG X e (gTg y.K tg) := by
  cases tg with
  | name i => exact pg_chk C hf h
  | tup is =>
    cases e with
    | Tuple es k p =>
      obtain ⟨p, l, f⟩ := pgs_chk C hf (is := is) h
      rw [← C.K]
      exact pg_tup C.calm p l f
    | _ => cases h

/-! ### what is walked -/
def Gives (y : Cy) (J : It) (O : List Addr) (H : Hp) (ds : List PyData) : Prop := ds.length ≤ lineN ∧ ∀ (i : Nat) (O' : List Addr) (H' : Hp), Fut O H O' H' → (∀ a, a ∈ O' → Wk (H' a)) →
  (ds.length = i → J.stop i H') ∧ ∀ d, ds[i]? = some d → J.go i H' ∧ ∀ x H'', J.yld i H' x H'' → (∀ a u, H' a = some u → H'' a = some u) ∧ Rp y.K y.z (hide O' H'') x d
def iI (y : Cy) (run : Env → Tw → R (List PyData)) : TI := fun σ H Z => ∃ env t O, Rel y env t σ H O ∧ match run env t with
  | .ok ds t' => ∀ J H', Grow y.z H H' → TwOk y.z H' t' → Gives y J O H' ds → Z J H'
  | .exc c t' => ∀ H', Grow y.z H H' → TwOk y.z H' t' → y.W (.ref (y.z.cls c)) none σ H'
  | .bad => False
theorem PI.imp2 {tg e : Expr} {w w1 w2 : TI} (h1 : PI X tg e w1) (h2 : PI X tg e w2) (i : ∀ σ H Z, w σ H Z → w1 σ H Z ∨ w2 σ H Z) : PI X tg e w := ⟨fun pins s σ H Z I q => by
  rcases i σ H Z q with q | q
  · exact h1.run pins s σ H Z I q
  · exact h2.run pins s σ H Z I q⟩
theorem gives_list {a : Addr} {xs : List V} {ds : List PyData} (h : hide O H a = some (.lst xs)) (l : xs.length ≤ lineN) (p : RpAll y.K y.z (hide O H) xs ds) : Gives y (Itl y.K a) O H ds := by
  refine ⟨by rw [← p.length]; exact l, fun i O' H' f dm => ⟨fun hi => ⟨xs, SqL.of (hide_sub _ _ (f _ _ h)), by rw [p.length]; exact Nat.le_of_eq hi⟩, fun d e => ?_⟩⟩
  obtain ⟨v, e1, pv⟩ := p.get e
  refine ⟨⟨xs, v, SqL.of (hide_sub _ _ (f _ _ h)), e1⟩, fun x H'' q => ?_⟩
  obtain ⟨rfl, q⟩ := q
  have := q xs (SqL.of (hide_sub _ _ (f _ _ h)))
  rw [e1] at this
  cases this
  exact ⟨fun _ _ h => h, pv.mono f⟩
theorem gives_tup {a : Addr} {xs : List V} {ds : List PyData} (h : SqT y.K (hide O H) a xs) (l : xs.length ≤ lineN) (p : RpAll y.K y.z (hide O H) xs ds) : Gives y (Itt y.K a) O H ds := by
  refine ⟨by rw [← p.length]; exact l, fun i O' H' f dm => ?_⟩
  have h' : SqT y.K H' a xs := SqT.mono (fun a u q => hide_sub _ _ (f a u q)) h
  refine ⟨fun hi => ⟨xs, h', by rw [p.length]; exact Nat.le_of_eq hi⟩, fun d e => ?_⟩
  obtain ⟨v, e1, pv⟩ := p.get e
  refine ⟨⟨xs, v, h', e1⟩, fun x H'' q => ?_⟩
  obtain ⟨rfl, q⟩ := q
  have := q xs h'
  rw [e1] at this
  cases this
  exact ⟨fun _ _ h => h, pv.mono f⟩
theorem gives_dk {a : Addr} {o : Obj} {ks : List Key} {vs : List V} (h : hide O H a = some (.frz o (.dK (ks.zip vs)))) (e : ks.length = vs.length) (l : ks.length ≤ lineN) : Gives y (Itk a o (ks.zip vs)) O H (ks.map keyD) := by
  have hz : (ks.zip vs).length = ks.length := by rw [List.length_zip]; omega
  refine ⟨by rw [List.length_map]; exact l, fun i O' H' f dm => ⟨fun hi => ⟨hide_sub _ _ (f _ _ h), by rw [List.length_map] at hi; omega⟩, fun d ed => ?_⟩⟩
  rw [List.getElem?_map] at ed
  obtain ⟨k, ek, rfl⟩ := Option.map_eq_some_iff.mp ed
  have hi : i < ks.length := (List.getElem?_eq_some_iff.mp ek).1
  refine ⟨⟨hide_sub _ _ (f _ _ h), by omega⟩, fun x H'' q => ?_⟩
  obtain ⟨rfl, k', v', e1, rfl⟩ := q
  have e2 := (List.getElem?_zip_eq_some.mp e1).1
  have e3 : k = k' := Option.some.inj (ek.symm.trans e2)
  subst e3
  exact ⟨fun _ _ h => h, key_rp k⟩
theorem gives_dt {a : Addr} {o : Obj} {ks : List (List Key)} {vs : List V} (h : hide O H a = some (.frz o (.dT (ks.zip vs)))) (e : ks.length = vs.length) (l : ks.length ≤ lineN) (ht : ∀ k, k ∈ ks → KyT k) : Gives y (Itkt a o (ks.zip vs)) O H (ks.map keyT) := by
  have hz : (ks.zip vs).length = ks.length := by rw [List.length_zip]; omega
  refine ⟨by rw [List.length_map]; exact l, fun i O' H' f dm => ⟨fun hi => ⟨hide_sub _ _ (f _ _ h), by rw [List.length_map] at hi; omega⟩, fun d ed => ?_⟩⟩
  rw [List.getElem?_map] at ed
  obtain ⟨k, ek, rfl⟩ := Option.map_eq_some_iff.mp ed
  have hi : i < ks.length := (List.getElem?_eq_some_iff.mp ek).1
  refine ⟨⟨hide_sub _ _ (f _ _ h), by omega⟩, fun x H'' q => ?_⟩
  obtain ⟨rfl, k', v', q, e1, rfl, hq⟩ := q
  have e2 := (List.getElem?_zip_eq_some.mp e1).1
  have e3 : k = k' := Option.some.inj (ek.symm.trans e2)
  subst e3
  refine ⟨fun _ _ h => h, .tup (.inl (hide_of (fun z => ?_) hq)) (by rw [List.length_map]; exact (ht k (List.mem_of_getElem? ek)).2) (keys_rp k)⟩
  have := dm q z
  rw [hq] at this
  exact this
theorem rngs_length (a s : Int) : ∀ n : Nat, (rngs a s n).length = n
  | 0 => rfl
  | n + 1 => by rw [rngs, List.length_cons, rngs_length]
theorem rngs_get (s : Int) : ∀ (n : Nat) (a : Int) (i : Nat) (d : PyData), (rngs a s n)[i]? = some d → i < n ∧ d = .int (a + i * s)
  | 0, a, i, d, h => by simp [rngs] at h
  | n + 1, a, 0, d, h => by
    simp [rngs] at h
    subst h
    exact ⟨Nat.succ_pos _, by simp⟩
  | n + 1, a, i + 1, d, h => by
    rw [rngs, List.getElem?_cons_succ] at h
    obtain ⟨h1, h2⟩ := rngs_get s n (a + s) i d h
    refine ⟨Nat.succ_lt_succ h1, ?_⟩
    rw [h2]
    congr 1
    have : ((i + 1 : Nat) : Int) * s = (i : Int) * s + s := by
      rw [Int.natCast_add, Int.add_mul]; simp
    rw [this]
    omega
theorem gives_range {a : Int} {n : Nat} (hn : n ≤ lineN) : Gives y (Itr a n) O H (rngs a 1 n) := by
  refine ⟨by rw [rngs_length]; exact hn, fun i O' H' f dm => ⟨fun hi => by rw [rngs_length] at hi; exact Nat.le_of_eq hi, fun d e => ?_⟩⟩
  obtain ⟨h1, rfl⟩ := rngs_get _ _ _ _ _ e
  refine ⟨h1, fun x H'' q => ?_⟩
  obtain ⟨rfl, rfl⟩ := q
  refine ⟨fun _ _ h => h, ?_⟩
  rw [Int.mul_one]
  exact .int _
theorem gives_rangeC {a c : Int} {n : Nat} (hn : n ≤ lineN) : Gives y (Itc a c n) O H (rngs a c n) := by
  refine ⟨by rw [rngs_length]; exact hn, fun i O' H' f dm => ⟨fun hi => by rw [rngs_length] at hi; exact Nat.le_of_eq hi, fun d e => ?_⟩⟩
  obtain ⟨h1, rfl⟩ := rngs_get _ _ _ _ _ e
  refine ⟨h1, fun x H'' q => ?_⟩
  obtain ⟨rfl, rfl⟩ := q
  exact ⟨fun _ _ h => h, .int _⟩

/-- one value, then what is walked -/
theorem tE.thenI {ra : Env → Tw → R PyData} {k : PyData → Tw → R (List PyData)} {Z : It → Hp → Prop} {C : V → Hp → Prop}
    (r : Rel y env t σ H O)
    (h : match (ra env t).bind k with
      | .ok ds t' => ∀ J H', Grow y.z H H' → TwOk y.z H' t' → Gives y J O H' ds → Z J H'
      | .exc c t' => ∀ H', Grow y.z H H' → TwOk y.z H' t' → y.W (.ref (y.z.cls c)) none σ H'
      | .bad => False)
    (f : ∀ d t1 v H1, ra env t = .ok d t1 → Grow y.z H H1 → Rel y env t1 σ H1 O → Rv y m O H1 v d →
      (match k d t1 with
      | .ok ds t' => ∀ J H', Grow y.z H1 H' → TwOk y.z H' t' → Gives y J O H' ds → Z J H'
      | .exc c t' => ∀ H', Grow y.z H1 H' → TwOk y.z H' t' → y.W (.ref (y.z.cls c)) none σ H'
      | .bad => False) → C v H1) : tE y m ra σ H C := by
  refine ⟨env, t, O, r, ?_⟩
  cases e : ra env t with
  | bad => rw [e] at h; exact h
  | exc c t1 => rw [e] at h; exact h
  | ok d t1 =>
    rw [e] at h
    intro v H1 g w rv
    refine f d t1 v H1 e g (r.after g w) rv ?_
    simp only [R.bind] at h
    cases q : k d t1 with
    | bad => rw [q] at h; exact h
    | exc c t2 =>
      rw [q] at h
      exact fun H' g' w' => h H' (g.trans g') w'
    | ok d2 t2 =>
      rw [q] at h
      exact fun J H' g' w' rv' => h J H' (g.trans g') w' rv'
theorem snd_i_val {tg e : Expr} {ra : Env → Tw → R PyData} (C : Ctx X y N sc) (ha : PE X e (tE y false ra)) : PI X tg e (iI y fun env t => (ra env t).bind fun d t => match d with
    | .list xs => .ok xs t
    | .tuple xs => .ok xs t
    | .dict kds => if okDict kds then .ok (kds.map (·.1)) t else .bad
    | _ => .bad) := by
  refine PI.imp2 (PI.imp2 (w := fun σ H Z => iList X.K (tE y false ra) σ H Z ∨ iKeys (tE y false ra) σ H Z) (pi_list ha) (pi_keys ha) fun σ H Z h => h) (pi_tup ha) fun σ H Z h => ?_
  obtain ⟨env, t, O, r, h⟩ := h
  rw [C.K]
  by_cases hd : ∃ kds t1, ra env t = .ok (.dict kds) t1
  · obtain ⟨kds, t1, e⟩ := hd
    refine .inl (.inr (tE.thenI r h fun d t1 v H1 e1 g1 r1 rv1 h1 => ?_))
    rw [e] at e1
    cases e1
    dsimp only at h1
    cases ok : okDict kds with
    | false => rw [ok] at h1; exact h1.elim
    | true =>
      rw [ok] at h1
      have p := rv1.share
      generalize hdd : PyData.dict kds = dd at p
      cases p with
      | @dk a o ks vs ds h1' h2 h3 h4 =>
        cases hdd
        have ek : ((ks.map keyD).zip ds).map (·.1) = ks.map keyD := List.map_fst_zip (by rw [List.length_map, h2, h4.length]; exact Nat.le_refl _)
        refine ⟨_, _, rfl, .inl ⟨_, hide_sub _ _ h1', h1 _ H1 Grow.refl r1.tw ?_⟩⟩
        rw [ek]
        exact gives_dk h1' h2 h3
      | @dt a o ks vs ds h1' h2 h3 h4 h5 =>
        cases hdd
        have ek : ((ks.map keyT).zip ds).map (·.1) = ks.map keyT := List.map_fst_zip (by rw [List.length_map, h2, h5.length]; exact Nat.le_refl _)
        refine ⟨_, _, rfl, .inr ⟨_, hide_sub _ _ h1', h1 _ H1 Grow.refl r1.tw ?_⟩⟩
        rw [ek]
        exact gives_dt h1' h2 h3 h4
      | town => cases hdd; cases ok
      | exc c h => cases hdd; cases ok
      | _ => cases hdd
  by_cases hl : ∃ xs t1, ra env t = .ok (.tuple xs) t1
  · obtain ⟨xs, t1, e⟩ := hl
    refine .inr (tE.thenI r h fun d t1 v H1 e1 g1 r1 rv1 h1 => ?_)
    rw [e] at e1
    cases e1
    have p := rv1.share
    cases p with
    | tup h1' h2 h3 => exact ⟨_, rfl, ⟨_, SqT.mono hide_sub h1'.sq⟩, h1 _ H1 Grow.refl r1.tw (gives_tup h1'.sq h2 h3)⟩
  · refine .inl (.inl (tE.thenI r h fun d t1 v H1 e1 g1 r1 rv1 h1 => ?_))
    cases d with
    | dict kds => exact absurd ⟨kds, t1, e1⟩ hd
    | list ds =>
      have p := rv1.share
      cases p with
      | lst h1' h2 h3 => exact ⟨_, rfl, ⟨_, SqL.of (hide_sub _ _ h1')⟩, h1 _ H1 Grow.refl r1.tw (gives_list h1' h2 h3)⟩
    | tuple ds => exact absurd ⟨ds, t1, e1⟩ hl
    | _ => exact h1.elim
theorem small_of {i : Int} (h : small i = true) : -1000000 ≤ i ∧ i ≤ 1000000 := by
  have := Nat.le_of_ble_eq_true h
  omega
theorem PI.imp {tg e : Expr} {w w1 : TI} (h1 : PI X tg e w1) (i : ∀ σ H Z, w σ H Z → w1 σ H Z) : PI X tg e w := PI.imp2 h1 h1 fun σ H Z q => .inl (i σ H Z q)
theorem snd_i_rng1 {tg ea : Expr} {p pos : Pos} {ra : Env → Tw → R PyData} (C : Ctx X y N sc) (hg : glB sc "range" = true) (ho : ordE ea = true) (ha : PE X ea (tE y true ra)) : PI X tg (.Call (.Name "range" p) [ea] [] pos) (iI y fun env t => (ra env t).bind fun x t => match x with
    | .int n => if small n then .ok (rngs 0 1 n.toNat) t else .bad
    | _ => .bad) := by
  refine PI.imp (pi_range1 (gl_of (by rw [C.scope]; exact hg)) (C.free "range" (by decide)) (pa_cons ha pa_nil (star_ord ho)) (star_ord ho)) fun σ H Z h => ?_
  obtain ⟨env, t, O, r, h⟩ := h
  refine tE.thenI r h fun d t1 v H1 e1 g1 r1 rv1 h1 => ?_
  cases d with
  | int n =>
    obtain rfl := rv1.int
    by_cases hs : small n = true
    · have hb := small_of hs
      simp only [hs, if_true] at h1
      refine ⟨n, rfl, by omega, by omega, h1 _ H1 Grow.refl r1.tw (gives_range ?_)⟩
      unfold lineN
      omega
    · simp only [hs] at h1
      exact h1.elim
  | _ => exact h1.elim
theorem snd_i_rng2 {tg ea eb : Expr} {p pos : Pos} {ra rb : Env → Tw → R PyData} (C : Ctx X y N sc) (hg : glB sc "range" = true) (ho : ordE ea = true) (ho2 : ordE eb = true) (ha : PE X ea (tE y true ra)) (hb : PE X eb (tE y true rb)) :
    PI X tg (.Call (.Name "range" p) [ea, eb] [] pos) (iI y fun env t => (ra env t).bind fun x t => (rb env t).bind fun w t => match x, w with
    | .int i, .int j => if small i && small j then .ok (rngs i 1 (j - i).toNat) t else .bad
    | _, _ => .bad) := by
  refine PI.imp (pi_range2 (gl_of (by rw [C.scope]; exact hg)) (C.free "range" (by decide)) (pa_cons ha (pa_cons hb pa_nil (star_ord ho2)) (star_ord ho)) (by rw [star_ord ho, star_ord ho2]; rfl) (star_ord ho2)) fun σ H Z h => ?_
  obtain ⟨env, t, O, r, h⟩ := h
  refine tE.thenI r h fun d t1 v H1 e1 g1 r1 rv1 h1 => ?_
  refine tE.thenI r1 h1 fun d2 t2 v2 H2 e2 g2 r2 rv2 h2 => ?_
  cases d with
  | int i =>
    cases d2 with
    | int j =>
      obtain rfl := rv1.int
      obtain rfl := rv2.int
      by_cases hs : (small i && small j) = true
      · have hb := hs
        simp only [Bool.and_eq_true] at hb
        have hb1 := small_of hb.1
        have hb2 := small_of hb.2
        simp only [hs, if_true] at h2
        refine ⟨i, j, rfl, ⟨by omega, by omega, by omega, by omega⟩, h2 _ H2 Grow.refl r2.tw (gives_range ?_)⟩
        unfold lineN
        omega
      · simp only [hs] at h2
        exact h2.elim
    | _ => exact h2.elim
  | _ => exact h2.elim
theorem snd_i_rng3 {tg ea eb ec : Expr} {p pos : Pos} {ra rb rc : Env → Tw → R PyData} (C : Ctx X y N sc) (hg : glB sc "range" = true) (ho : ordE ea = true) (ho2 : ordE eb = true) (ho3 : ordE ec = true) (ha : PE X ea (tE y true ra)) (hb : PE X eb (tE y true rb)) (hc : PE X ec (tE y true rc)) :
    PI X tg (.Call (.Name "range" p) [ea, eb, ec] [] pos) (iI y fun env t => (ra env t).bind fun x t => (rb env t).bind fun w t => (rc env t).bind fun z t => match x, w, z with
    | .int i, .int j, .int s => if small i && small j && decide (s = -1) then .ok (rngs i (-1) (i - j).toNat) t else .bad
    | _, _, _ => .bad) := by
  refine PI.imp (pi_range3 (gl_of (by rw [C.scope]; exact hg)) (C.free "range" (by decide)) (pa_cons ha (pa_cons hb (pa_cons hc pa_nil (star_ord ho3)) (star_ord ho2)) (star_ord ho)) (star_ord ho) (stars_ord (by simp [ho2, ho3]))) fun σ H Z h => ?_
  obtain ⟨env, t, O, r, h⟩ := h
  refine tE.thenI r h fun d t1 v H1 e1 g1 r1 rv1 h1 => ?_
  refine tE.thenI r1 h1 fun d2 t2 v2 H2 e2 g2 r2 rv2 h2 => ?_
  refine tE.thenI r2 h2 fun d3 t3 v3 H3 e3 g3 r3 rv3 h3 => ?_
  cases d with
  | int i =>
    cases d2 with
    | int j =>
      cases d3 with
      | int s =>
        obtain rfl := rv1.int
        obtain rfl := rv2.int
        obtain rfl := rv3.int
        by_cases hs : (small i && small j && decide (s = -1)) = true
        · have hb := hs
          simp only [Bool.and_eq_true, decide_eq_true_eq] at hb
          have hb1 := small_of hb.1.1
          have hb2 := small_of hb.1.2
          dsimp only at h3
          rw [if_pos hs] at h3
          obtain rfl := hb.2
          refine ⟨i, j, -1, (i - j).toNat, rfl, RgC.neg (by omega) (by omega) (by omega) (by omega), h3 _ H3 Grow.refl r3.tw (gives_rangeC ?_)⟩
          unfold lineN
          omega
        · simp only [hs] at h3
          exact h3.elim
      | _ => exact h3.elim
    | _ => exact h3.elim
  | _ => exact h3.elim
end
end Wv

set_option maxHeartbeats 4000000
namespace Wv
open PySem PySem.Spec PyProof.Rows L2
open Sem (wp)
open AutoSeq1 (wpAny_loadPart')

/-! ### enumerate over a tuple -/
theorem meets_enum1 {v : Value} {o : Obj} {Hh : Heap → Prop} (B : Begins v o Hh) :
    Meets (Builtin.«enumerate.__new__» ⟨[.type "enumerate", v], []⟩) (fun _ Rr s => Hh s.heap ∧
      Rr (.ok (.ret (.ref (s.heap.push o).objs.size))) { s with heap := (s.heap.push o).push { cls := .type "enumerate", data := .fields #[.none, .bool false, .ref s.heap.objs.size, rawInt 0, .none, .none] } }) :=
  .of_wp fun prog w A Rr s h => by
    obtain ⟨hp, gg, dd, tk, os⟩ := s
    obtain ⟨h1, h⟩ := h
    have hsub := sub_enumerate
    have it1 : ∀ {A' : Around} {E : Value → Shared → Prop} {Q : Value → Shared → Prop}, Q (.ref hp.objs.size) ⟨hp.push o, gg, dd, tk, os⟩ → wpAny (model prog w) A' (pyIter v) Q E ⟨hp, gg, dd, tk, os⟩ := fun q => B.iter prog w _ _ ⟨hp, gg, dd, tk, os⟩ _ h1 q
    wp_walk using it1
    refine wpAny_stack_any fun st => wpAny_pure ?_
    split
    · rename_i c _ _ _ _ _
      cases (c == Value.type "enumerate") <;> (wp_walk using it1; exact ⟨_, rfl, h⟩)
    · wp_walk using it1
      exact ⟨_, rfl, h⟩
theorem call_enum_tuple {prog : Program} {w : World} {A : Around} {E : Value → Shared → Prop} {s : Shared} {a : Addr} {items : Array Value} {Q : Value → Shared → Prop} (hT : s.heap.IsTuple a items)
    (h : ∀ h', IsEnum h' (s.heap.objs.size + 1) s.heap.objs.size 0 .none → h'.IsTupleIter s.heap.objs.size a 0 → (∀ b o, s.heap.get? b = some o → h'.get? b = some o) → Q (.ref (s.heap.objs.size + 1)) { s with heap := h' }) :
    wpAny (model prog w) A (call (.type "enumerate") [.ref a]) Q E s := by
  have B := begins_tuple a items
  refine callType_new F.called_enumerate (by decide) (F.typeCall_enumerate_1 _) (F.newCall_enumerate_1 _) (fun obj => F.args_object_init_2 obj _) F.entry_enumerate_new (meets_enum1 B) ⟨hT, ?_⟩
  have hz : (s.heap.push { cls := .type "tuple_iterator", data := .fields #[.ref a, .int 0 0] }).objs.size = s.heap.objs.size + 1 := Heap.size_push ..
  show _ ∧ _
  rw [hz]
  have he : IsEnum ((s.heap.push { cls := .type "tuple_iterator", data := .fields #[.ref a, .int 0 0] }).push { cls := .type "enumerate", data := .fields #[.none, .bool false, .ref s.heap.objs.size, rawInt 0, .none, .none] }) (s.heap.objs.size + 1) s.heap.objs.size 0 .none := by
    have q := Heap.get?_push_size (s.heap.push { cls := .type "tuple_iterator", data := .fields #[.ref a, .int 0 0] }) (o := { cls := .type "enumerate", data := .fields #[.none, .bool false, .ref s.heap.objs.size, rawInt 0, .none, .none] }) rfl
    rw [hz] at q
    exact q
  exact ⟨⟨_, he, rfl⟩, h _ he ⟨_, Heap.get?_push_of_some _ (Heap.get?_push_size _ rfl), rfl, rfl⟩ fun b o q => Heap.get?_push_of_some _ (Heap.get?_push_of_some _ q)⟩

/-- the tuple at a, its items in new pairs -/
def IteT (K : PySem.W.Frag) (a : Addr) : It where
  go := fun i H => ∃ (xs : List V) (v : V), SqT K H a xs ∧ xs[i]? = some v
  yld := fun i H v H' => ∃ T u, v = .ref T ∧ H T = none ∧ H' = upd H T (.tup [.int (i : Nat), u]) ∧ ∀ xs, SqT K H a xs → xs[i]? = some u
  stop := fun i H => ∃ xs : List V, SqT K H a xs ∧ xs.length = i
theorem turn_enumT {P : Program} {w : World} {K : PySem.W.Frag} {elts : List Expr} {kk : Nat} {tpos : Pos} (a e it : Addr) :
    Turn P w K (.Tuple elts kk tpos) (IteT K a) [e, it] e (fun i h => (∃ old, IsEnum h e it ((i : Nat) : Int) old) ∧ h.IsTupleIter it a i ∧ e ≠ it) where
  mem := by simp
  obj := fun i h st b hb => by
    obtain ⟨⟨old, he⟩, ⟨o, ho, hc, hd⟩, _⟩ := st
    rcases List.mem_cons.mp hb with q | q
    · rw [q]; exact ⟨_, he, fun v z => nomatch z⟩
    · rw [List.mem_singleton.mp q]; exact ⟨o, ho, fun v z => by rw [hd] at z; cases z⟩
  keep := fun i h h' st k => by
    obtain ⟨⟨old, he⟩, hi, hne⟩ := st
    exact ⟨⟨old, k e (by simp) _ he⟩, hi.at fun o q => k it (by simp) o q, hne⟩
  item := by
    intro X hP hw hK hc i pins s σ H E I hf st hg
    subst hP hw hK
    obtain ⟨⟨old, he⟩, hit, hne⟩ := st
    obtain ⟨xs, v, hq, hx⟩ := hg
    obtain ⟨its, rv, pt, hz⟩ := I.tuple hq
    obtain ⟨u, hu, ru⟩ := rv.get hx
    have ht : s.heap.IsTuple a its.toArray := pt
    have hla : i < its.toArray.size := by
      rw [List.size_toArray]
      exact (List.getElem?_eq_some_iff.mp hu).1
    have nai : a ≠ it := by
      rintro rfl
      obtain ⟨o1, e1, c1, _⟩ := hit
      obtain ⟨o2, e2, c2, _⟩ := ht
      rw [e1] at e2; cases e2
      rw [c1] at c2
      exact absurd (Value.type.inj c2) (by decide)
    have nea : e ≠ a := by
      rintro rfl
      obtain ⟨o2, e2, c2, _⟩ := ht
      have e1 : s.heap.get? e = some _ := he
      rw [e1] at e2; cases e2
      exact absurd (Value.type.inj c2) (by decide)
    have hel : e < s.heap.objs.size := Heap.lt_size he
    have hil : it < s.heap.objs.size := by obtain ⟨_, q, _⟩ := hit; exact Heap.lt_size q
    have hh : X.A.in1.handled = none := I.ok.hd hc
    refine wpAny_pyNext_enum_itemD (Draws.tuple hh it a nai its.toArray) he ⟨hit, ht⟩ hla hne (by simp [hne, nea]) fun ux h' tk hux ho hst hT hsz hk => ?_
    have hux' : ux = u := by
      have q : its.toArray[i]? = some u := by simpa using hu
      rw [q] at hux
      exact (Option.some.inj hux).symm
    subst hux'
    refine ⟨_, rfl, wpAny_letOwnedTupleGo_enum (s := { s with heap := h', toks := tk + 1 }) ho fun h2 he2 sb => ?_⟩
    have hT2 : h2.get? s.heap.objs.size = some { cls := .type "tuple", data := .seq #[.int i tk, ux] } := (sb.2 _ (Nat.ne_of_gt hel)).trans hT
    have made : ObjOk X.prog X.w (upd H s.heap.objs.size (.tup [.int (i : Nat), v])) h2 s.heap.objs.size (.tup [.int (i : Nat), v]) :=
      ⟨by show 2 ≤ sizeLine; decide, [.int i tk, ux], .cons ⟨_, rfl⟩ (.cons ru .nil), ⟨_, hT2, rfl, _, rfl⟩⟩
    have I1 : L2.Inv X pins σ (upd H s.heap.objs.size (.tup [.int (i : Nat), v])) { s with heap := h2, toks := tk + 1 } :=
      I.turnedNew (ch := [e, it]) (fun b ob hb q => (sb.2 b (fun z => hb (by simp [z]))).trans (hk b ob (fun z => hb (by simp [z])) (fun z => hb (by simp [z])) q)) hf (Nat.le_refl _) made
    refine ⟨.ref s.heap.objs.size, _, I1, rfl, ⟨_, v, rfl, I.hok.fresh (Nat.le_refl _), rfl, fun ys hy => by rw [I.tuple_inj hy hq]; exact hx⟩, ⟨⟨ux, ?_⟩, hst.1.at fun o q => (sb.2 it (Ne.symm hne)).trans q, hne⟩, fun b hb => ?_⟩
    · have e1 : ((i + 1 : Nat) : Int) = (i : Int) + 1 := by omega
      rw [e1]
      exact he2
    · have hb' : b < s.heap.objs.size := by
        rcases List.mem_cons.mp hb with z | z
        · rw [z]; exact hel
        · rw [List.mem_singleton.mp z]; exact hil
      rw [upd_ne (Nat.ne_of_lt hb')]
      exact (hf b hb).1
  done := by
    intro X hP hw hK hc i pins s σ H E I hf st hg
    subst hP hw hK
    obtain ⟨⟨old, he⟩, hit, hne⟩ := st
    obtain ⟨xs, hq, hx⟩ := hg
    obtain ⟨its, rv, pt, hz⟩ := I.tuple hq
    have ht : s.heap.IsTuple a its.toArray := pt
    obtain ⟨f0, f1, f2, f3, f4, f5⟩ := hf it (by simp)
    have hl := rv.length
    have hh : X.A.in1.handled = none := I.ok.hd hc
    have nai : a ≠ it := by
      rintro rfl
      obtain ⟨o1, e1, c1, _⟩ := hit
      obtain ⟨o2, e2, c2, _⟩ := ht
      rw [e1] at e2; cases e2
      rw [c1] at c2
      exact absurd (Value.type.inj c2) (by decide)
    have hn : its.toArray.size = i := by rw [List.size_toArray, ← hl]; exact hx
    subst hn
    exact wpAny_pyNext_enum_endD (Draws.tuple hh it a nai its.toArray) he ⟨hit, ht⟩ fun h' eb => ⟨rfl, I.turned (t' := s.toks) (fun b o hb q => eb b o hb q) f0 f1 f3 f4 f5⟩
  self := fun A i s Q E st h => by
    obtain ⟨⟨_, he⟩, _⟩ := st
    exact wpAny_pyIter_enum he h

section
variable {X : Cx} {y : Cy} {N : List Str} {sc : Scope} {m : Bool}
variable {env env' : Env} {t t' : Tw} {σ σ' : L2.St} {H H' : Hp} {O : List Addr} {Q : VK}
def iEnumT (K : PySem.W.Frag) (te : TE) : TI := fun σ H Z => te σ H fun v H1 => ∃ a xs, v = .ref a ∧ SqT K H1 a xs ∧ Z (IteT K a) H1
theorem pi_enumT {e : Expr} {te : TE} {p pos tpos : Pos} {elts : List Expr} {kk : Nat} (hg : Gl X "enumerate") (hm : X.mg "enumerate" = none) (he : PE X e te) (ho : ordE e = true) :
    PI X (.Tuple elts kk tpos) (.Call (.Name "enumerate" p) [e] [] pos) (iEnumT X.K te) := by
  have ha : PA X [e] (tCons te tNil) := pa_cons he pa_nil (star_ord ho)
  refine ⟨fun pins s σ H Z I h => ?_⟩
  refine Call_ (ld_blt I hg hm boot_enumerate (PyProof.Rows.callWith_type1 (thn (ha.run pos pins s σ H (fun vs H1 => match vs with
    | [v] => ∃ a xs, v = .ref a ∧ SqT X.K H1 a xs ∧ Z (IteT X.K a) H1
    | _ => False) I h) fun us s1 ⟨vs, H1, I1, r1, q1⟩ => ?_) (star_ord ho) rfl))
  dsimp only at q1
  split at q1
  · obtain ⟨a, xs, rfl, hq, q⟩ := q1
    cases r1 with
    | cons r rr =>
      cases rr
      cases r
      obtain ⟨its, rv, pt, hz⟩ := I1.tuple hq
      refine call_enum_tuple (show s1.heap.IsTuple a its.toArray from pt) fun h' hen hit hk => wpAny_pyIter_enum hen ?_
      have I2 : L2.Inv X pins σ H1 { s1 with heap := h' } := I1.kept (t' := s1.toks) hk
      refine ⟨s1.heap.objs.size + 1, [s1.heap.objs.size + 1, s1.heap.objs.size], _, _, H1, rfl, I2, turn_enumT a (s1.heap.objs.size + 1) s1.heap.objs.size, ⟨⟨.none, hen⟩, hit, Nat.succ_ne_self _⟩, fun b hb => ?_, q⟩
      have hle : s1.heap.objs.size ≤ b := by
        rcases List.mem_cons.mp hb with z | z
        · rw [z]; exact Nat.le_add_right _ _
        · rw [List.mem_singleton.mp z]; exact Nat.le_refl _
      exact I1.fpOk hle (I1.hok.fresh hle)
  · exact q1.elim
theorem zipIdx_get {α : Type} {xs : List α} {i : Nat} : (xs.zipIdx)[i]? = (xs[i]?).map fun x => (x, i) := by
  simp [List.getElem?_zipIdx]
theorem enum_new {a b : Addr} {v : V} {d : PyData} {H' : Hp} {O' : List Addr} {i : Nat} (dm : ∀ a, a ∈ O' → H' a ≠ none) (hb : H' b = none) (pv : Rp y.K y.z (hide O' H') v d) :
    (∀ a u, H' a = some u → upd H' b (.tup [.int (i : Nat), v]) a = some u) ∧ Rp y.K y.z (hide O' (upd H' b (.tup [.int (i : Nat), v]))) (.ref b) (.tuple [.int i, d]) := by
  have ext : ∀ a u, H' a = some u → upd H' b (.tup [.int (i : Nat), v]) a = some u := fun a u q => by rw [upd_ne (ne_of_none q hb)]; exact q
  refine ⟨ext, .tup (.inl (hide_of (fun q => dm b q hb) upd_same)) (by show 2 ≤ lineN; decide) (.cons (.int _) (.cons (pv.mono fun a u q => hide_of (hide_some q).1 (ext _ _ (hide_some q).2)) .nil))⟩
theorem gives_enumT {a : Addr} {xs : List V} {ds : List PyData} (h : SqT y.K (hide O H) a xs) (l : xs.length ≤ lineN) (p : RpAll y.K y.z (hide O H) xs ds) : Gives y (IteT y.K a) O H (ds.zipIdx.map fun q => .tuple [.int q.2, q.1]) := by
  refine ⟨by simp [← p.length]; exact l, fun i O' H' f dm => ?_⟩
  have h' : SqT y.K H' a xs := SqT.mono (fun a u q => hide_sub _ _ (f a u q)) h
  refine ⟨fun hi => ⟨xs, h', by simp at hi; rw [p.length]; exact hi⟩, fun d e => ?_⟩
  rw [List.getElem?_map, zipIdx_get] at e
  cases q : ds[i]? with
  | none => rw [q] at e; cases e
  | some d' =>
    rw [q] at e
    simp only [Option.map_some, Option.some.injEq] at e
    subst e
    obtain ⟨v, e1, pv⟩ := p.get q
    refine ⟨⟨xs, v, h', e1⟩, fun x H'' z => ?_⟩
    obtain ⟨T, u, rfl, hT, rfl, hu⟩ := z
    have := hu xs h'
    rw [e1] at this
    cases this
    exact enum_new (a := a) (fun a q => (dm a q).ne) hT (pv.mono f)
theorem gives_enumL {a : Addr} {xs : List V} {ds : List PyData} (h : hide O H a = some (.lst xs)) (l : xs.length ≤ lineN) (p : RpAll y.K y.z (hide O H) xs ds) : Gives y (Ite y.K a) O H (ds.zipIdx.map fun q => .tuple [.int q.2, q.1]) := by
  refine ⟨by simp [← p.length]; exact l, fun i O' H' f dm => ?_⟩
  have h' : SqL y.K H' a xs := SqL.of (hide_sub _ _ (f _ _ h))
  refine ⟨fun hi => ⟨xs, h', by simp at hi; rw [p.length]; exact Nat.le_of_eq hi⟩, fun d e => ?_⟩
  rw [List.getElem?_map, zipIdx_get] at e
  cases q : ds[i]? with
  | none => rw [q] at e; cases e
  | some d' =>
    rw [q] at e
    simp only [Option.map_some, Option.some.injEq] at e
    subst e
    obtain ⟨v, e1, pv⟩ := p.get q
    refine ⟨⟨xs, v, h', e1⟩, fun x H'' z => ?_⟩
    obtain ⟨T, u, rfl, hT, rfl, hu⟩ := z
    have := hu xs h'
    rw [e1] at this
    cases this
    exact enum_new (a := a) (fun a q => (dm a q).ne) hT (pv.mono f)
theorem snd_i_enm {e : Expr} {p pos tpos : Pos} {elts : List Expr} {kk : Nat} {ra : Env → Tw → R PyData} (C : Ctx X y N sc) (hg : glB sc "enumerate" = true) (ho : ordE e = true) (ha : PE X e (tE y false ra)) :
    PI X (.Tuple elts kk tpos) (.Call (.Name "enumerate" p) [e] [] pos) (iI y fun env t => (ra env t).bind fun d t => match d with
      | .list xs => .ok (xs.zipIdx.map fun p => .tuple [.int p.2, p.1]) t
      | .tuple xs => .ok (xs.zipIdx.map fun p => .tuple [.int p.2, p.1]) t
      | _ => .bad) := by
  have hgl : Gl X "enumerate" := gl_of (by rw [C.scope]; exact hg)
  refine PI.imp2 (pi_enum (elts := elts) (kk := kk) (tpos := tpos) hgl (C.free "enumerate" (by decide)) (pa_cons ha pa_nil (star_ord ho)) (star_ord ho)) (pi_enumT hgl (C.free "enumerate" (by decide)) ha ho) fun σ H Z h => ?_
  obtain ⟨env, t, O, r, h⟩ := h
  rw [C.K]
  by_cases hl : ∃ xs t1, ra env t = .ok (.tuple xs) t1
  · obtain ⟨xs, t1, e⟩ := hl
    refine .inr (tE.thenI r h fun d t1 v H1 e1 g1 r1 rv1 h1 => ?_)
    rw [e] at e1
    cases e1
    have p := rv1.share
    cases p with
    | tup h1' h2 h3 => exact ⟨_, _, rfl, SqT.mono hide_sub h1'.sq, h1 _ H1 Grow.refl r1.tw (gives_enumT h1'.sq h2 h3)⟩
  · refine .inl (tE.thenI r h fun d t1 v H1 e1 g1 r1 rv1 h1 => ?_)
    cases d with
    | list ds =>
      have p := rv1.share
      cases p with
      | lst h1' h2 h3 => exact ⟨_, _, rfl, SqL.of (hide_sub _ _ h1'), h1 _ H1 Grow.refl r1.tw (gives_enumL h1' h2 h3)⟩
    | tuple ds => exact absurd ⟨ds, t1, e1⟩ hl
    | _ => exact h1.elim
end
end Wv

set_option maxHeartbeats 1000000
namespace Wv
open PySem L2

theorem lcLoop_noexc {f : PyData → Tw → R (List PyData)} {c : Nat} {t' : Tw} : ∀ {xs : List PyData} {t : Tw}, lcLoop f xs t ≠ .exc c t'
  | [], t, h => by simp [lcLoop] at h
  | x :: xs, t, h => by
    unfold lcLoop at h
    split at h
    · split at h <;> cases h
    · cases h
theorem lcLoop_cons {f : PyData → Tw → R (List PyData)} {x : PyData} {xs zs : List PyData} {t t' : Tw} (h : lcLoop f (x :: xs) t = .ok zs t') : ∃ ys t1 ws, f x t = .ok ys t1 ∧ lcLoop f xs t1 = .ok ws t' ∧ zs = ys ++ ws := by
  unfold lcLoop at h
  split at h
  · rename_i ys t1 e
    split at h
    · rename_i ws t2 e2
      cases h
      exact ⟨ys, t1, ws, e, e2, rfl⟩
    · cases h
  · cases h

section
variable {X : Cx} {y : Cy} {N : List Str} {sc : Scope} {m : Bool}
variable {env env' : Env} {t t' : Tw} {σ σ' : St} {H H' : Hp} {O : List Addr} {Q : VK}

/-- the wish that nothing is raised -/
def nox (y : Cy) : Cy := { y with W := fun _ _ _ _ => False }
theorem Rel.nox (r : Rel y env t σ H O) : Rel (nox y) env t σ H O := r.wish _
theorem Rv.ofNox {v : V} {d : PyData} (h : Rv (nox y) m O H v d) : Rv y m O H v d := h.unwish

/-- a list that is being made is lent: the state leans on all else -/
theorem Rel.lend {D : Addr} (r : Rel y env t σ H O) (hD : H D = none) (g : Grow y.z H H') (w : TwOk y.z H' t') (hD' : Wk (H' D)) : Rel y env t' σ H' (D :: O) := by
  have r' := r.after g w
  have mo : ∀ a u, hide O H a = some u → hide (D :: O) H' a = some u := fun a u h => by
    obtain ⟨h1, h2⟩ := hide_some h
    refine hide_of (fun q => ?_) (hide_some (r.mono g a u h)).2
    rcases List.mem_cons.mp q with rfl | q
    · rw [hD] at h2; cases h2
    · exact h1 q
  exact {
    len := r.len
    sh := fun i d e => by
      obtain ⟨v, e1, p⟩ := r.sh i d e
      exact ⟨v, e1, p.mono mo⟩
    ow := fun i d e => by
      obtain ⟨a, e1, p⟩ := r.ow i d e
      exact ⟨a, e1, List.mem_cons_of_mem _ p.mem, p.nT, p.nN, p.new, p.is.mono mo fun u q => g _ _ q p.nT p.nN⟩
    inj := r.inj
    grow := r'.grow
    sub := fun a h => List.mem_cons_of_mem _ (r.sub a h)
    dom := fun a h => by
      rcases List.mem_cons.mp h with rfl | h
      · exact hD'
      · exact r'.dom a h
    tT := r.tT
    dom0 := r.dom0
    tN := r.tN
    ne := r.ne
    tw := w }
theorem hide_tail {D : Addr} : ∀ a u, hide (D :: O) H a = some u → hide O H a = some u := fun a u h => by
  obtain ⟨h1, h2⟩ := hide_some h
  exact hide_of (fun q => h1 (List.mem_cons_of_mem _ q)) h2
theorem hide_upd {D : Addr} {o : HO} : ∀ a u, hide (D :: O) H a = some u → hide (D :: O) (upd H D o) a = some u := fun a u h => by
  obtain ⟨h1, h2⟩ := hide_some h
  refine hide_of h1 ?_
  rw [upd_ne (fun e => h1 (by rw [e]; exact List.mem_cons_self))]
  exact h2
theorem Rel.notIn {D : Addr} (r : Rel y env t σ H O) (hD : H D = none) : D ∉ O := fun h => (r.dom D h).ne hD
theorem Rel.ne_town {D : Addr} (r : Rel y env t σ H O) (hD : H D = none) : D ≠ y.z.aT ∧ D ≠ y.z.aN := by
  constructor
  · rintro rfl; rw [r.tw.1] at hD; cases hD
  · rintro rfl; rw [r.tw.2.1] at hD; cases hD
theorem grow_ext (h : ∀ a u, H a = some u → H' a = some u) : Grow y.z H H' := fun a u q _ _ => h a u q
theorem tw_ext (w : TwOk y.z H t) (h : ∀ a u, H a = some u → H' a = some u) : TwOk y.z H' t := ⟨h _ _ w.1, h _ _ w.2.1, w.2.2⟩

/-! ### forgotten slots -/
theorem wipe_in {τ : St} {j : Nat} : ∀ {vs : List Nat}, j ∈ vs → j < τ.length → (L2.wipe τ vs)[j]? = some none
  | v :: vs, h, l => by
    unfold L2.wipe
    by_cases e : v = j
    · subst e
      rw [List.getElem?_set_self (by rw [wipe_length]; exact l)]
    · rw [List.getElem?_set_ne e]
      rcases List.mem_cons.mp h with q | q
      · exact absurd q.symm e
      · exact wipe_in q l
theorem wipe_same {τ τ' : St} {vs : List Nat} (l : τ.length = τ'.length) (h : ∀ j : Nat, j ∉ vs → τ[j]? = τ'[j]?) : L2.wipe τ vs = L2.wipe τ' vs := by
  apply List.ext_getElem?
  intro j
  by_cases hj : j ∈ vs
  · by_cases hl : j < τ.length
    · rw [wipe_in hj hl, wipe_in hj (by rw [← l]; exact hl)]
    · rw [List.getElem?_eq_none (by rw [wipe_length]; omega), List.getElem?_eq_none (by rw [wipe_length]; omega)]
  · rw [wipe_out hj, wipe_out hj]
    exact h j hj
def tgSlots : Tg → List Nat
  | .name i => [i]
  | .tup is => is
theorem setAll_length : ∀ (is : List Nat) (vs : List V) (τ : St), (setAll is vs τ).length = τ.length
  | [], _, _ => rfl
  | _ :: _, [], _ => rfl
  | i :: is, v :: vs, τ => by
    unfold setAll
    rw [setAll_length is vs, List.length_set]
theorem setAll_out {j : Nat} : ∀ (is : List Nat) (vs : List V) (τ : St), j ∉ is → (setAll is vs τ)[j]? = τ[j]?
  | [], _, _, _ => rfl
  | _ :: _, [], _, _ => rfl
  | i :: is, v :: vs, τ, h => by
    unfold setAll
    rw [setAll_out is vs _ (fun q => h (List.mem_cons_of_mem _ q)), List.getElem?_set_ne (fun e => h (by rw [e]; exact List.mem_cons_self))]
theorem tgSet_wipe {tg : Tg} {v : V} {ws : List V} {vs : List Nat} (h : ∀ i, i ∈ tgSlots tg → i ∈ vs) (τ : St) : L2.wipe (tgSet tg v ws (L2.wipe τ vs)) vs = L2.wipe τ vs := by
  have e : L2.wipe τ vs = L2.wipe (L2.wipe τ vs) vs := (wipe_same (by rw [wipe_length]) fun j hj => by rw [wipe_out hj]).symm
  rw [e]
  refine wipe_same ?_ fun j hj => ?_
  · cases tg with
    | name i => simp [tgSet, ← e]
    | tup is => simp [tgSet, setAll_length, ← e]
  · rw [← e]
    cases tg with
    | name i => exact List.getElem?_set_ne fun q => hj (by rw [← q]; exact h i (by simp [tgSlots]))
    | tup is => exact setAll_out is ws _ fun q => hj (h j q)

/-! ### a clause's tests -/
def tCd (y : Cy) (run : Env → Tw → R Bool) : TT := fun σ H Z => ∃ env t O, Rel y env t σ H O ∧ match run env t with
  | .ok b t' => ∀ H', Grow y.z H H' → TwOk y.z H' t' → Z b H'
  | .exc c t' => ∀ H', Grow y.z H H' → TwOk y.z H' t' → y.W (.ref (y.z.cls c)) none σ H'
  | .bad => False
theorem snd_c_none : PTs X [] (tCd y fun _ t => .ok true t) := ⟨fun pins s σ H Z I h => by
  obtain ⟨env, t, O, r, h⟩ := h
  exact pts_nil.run pins s σ H Z I (h H Grow.refl r.tw)⟩
theorem snd_c_some {e : Expr} {ra : Env → Tw → R PyData} (ha : PT X e (tT y ra)) : PTs X [e] (tCd y fun env t => (ra env t).bind fun d t => match d with
    | .bool b => .ok b t
    | _ => .bad) := ⟨fun pins s σ H Z I h => by
  refine (pts_one ha).run pins s σ H Z I ?_
  obtain ⟨env, t, O, r, h⟩ := h
  refine ⟨env, t, O, r, ?_⟩
  dsimp only at h
  cases e : ra env t with
  | bad => rw [e] at h; exact h
  | exc c t' => rw [e] at h; exact h
  | ok d t' =>
    rw [e] at h
    cases d with
    | bool b => exact ⟨b, rfl, h⟩
    | _ => exact False.elim h⟩

/-- the turn of a comprehension -/
abbrev lcTurn (tg : Tg) (vs : List Nat) (rc : Env → Tw → R Bool) (re : Env → Tw → R PyData) (env : Env) (x : PyData) (t : Tw) : R (List PyData) := match bindTg tg x (wipeE env vs) with
  | some env' => (rc env' t).bind fun b t => if b then (re env' t).bind fun d t => .ok [d] t else .ok [] t
  | none => .bad

/-- what is asked of a new list -/
def FinN (y : Cy) (O : List Addr) (σ : St) (Q : VK) (H : Hp) : R PyData → Prop
  | .ok d t' => ∃ ds, d = .list ds ∧ ∀ D acc H1 H2, Grow y.z H H1 → H1 D = none → D ∉ O → D ≠ y.z.aT → D ≠ y.z.aN → Grow y.z H1 H2 → TwOk y.z H2 t' → H2 D = some (.lst acc) → acc.length ≤ lineN → RpAll y.K y.z (hide (D :: O) H2) acc ds → Q (.ref D) H2
  | .exc c t' => ∀ H', Grow y.z H H' → TwOk y.z H' t' → y.W (.ref (y.z.cls c)) none σ H'
  | .bad => False
theorem FinN.of {Q : VK} {σ : St} (r : Rel y env t σ H O) {x : R PyData} (hx : ∀ d t', x = .ok d t' → ∃ ds, d = .list ds) (h : FinE y m O σ Q H x) : FinN y O σ Q H x := by
  cases x with
  | bad => exact h
  | exc c t' => exact h
  | ok d t' =>
    obtain ⟨ds, rfl⟩ := hx d t' rfl
    exact ⟨ds, rfl, fun D acc H1 H2 g1 hD nD _ _ g2 w hD2 l p => h _ H2 (g1.trans g2) w (.inl (.lst (hide_of nD hD2) l (p.mono hide_tail)))⟩
theorem lc1_core {tg : Tg} {vs : List Nat} {ri : Env → Tw → R (List PyData)} {rc : Env → Tw → R Bool} {re : Env → Tw → R PyData} {σ : St} {H : Hp} {Q : VK} (hsub : ∀ i, i ∈ tgSlots tg → i ∈ vs) (r : Rel y env t σ H O)
    (h : FinN y O σ Q H ((fun env t => (ri env t).bind fun xs t => (lcLoop (lcTurn tg vs rc re env) xs t).bind fun ys t => .ok (.list ys) t) env t)) :
    tLc (iI y ri) (gTg y.K tg) (tCd (nox y) rc) (tE (nox y) false re) vs σ H Q := by
  refine ⟨env, t, O, r, ?_⟩
  dsimp only at h
  cases e1 : ri env t with
  | bad => rw [e1] at h; exact h
  | exc c t1 => rw [e1] at h; exact h
  | ok ds t1 =>
    rw [e1] at h
    simp only [R.bind] at h
    intro J H1 g1 w1 gv D hD
    have r1 := r.after g1 w1
    cases e2 : lcLoop (lcTurn tg vs rc re env) ds t1 with
    | bad => rw [e2] at h; exact h.elim
    | exc c t2 => exact absurd e2 lcLoop_noexc
    | ok ys tf =>
      rw [e2] at h
      obtain ⟨_, hds, h⟩ := h
      cases hds
      have nD := r1.notIn hD
      obtain ⟨nT, nN⟩ := r1.ne_town hD
      have futD : ∀ H', Grow y.z H1 H' → Fut O H1 (D :: O) H' := fun H' g a u q => by
        obtain ⟨q1, q2⟩ := hide_some q
        refine hide_of (fun z => ?_) (hide_some (r1.mono g a u q)).2
        rcases List.mem_cons.mp z with rfl | z
        · rw [hD] at q2; cases q2
        · exact q1 z
      refine ⟨fun i k H' => k = ds.length - i ∧ i ≤ ds.length ∧ ∃ ti acc accd rest, lcLoop (lcTurn tg vs rc re env) (ds.drop i) ti = .ok rest tf ∧ accd ++ rest = ys ∧ Grow y.z H1 H' ∧ TwOk y.z H' ti ∧ H' D = some (.lst acc) ∧ acc.length ≤ i ∧ RpAll y.K y.z (hide (D :: O) H') acc accd, ?_, ?_⟩
      · obtain ⟨ga, wa, _⟩ := r1.new (o := .lst []) hD
        exact ⟨ds.length, by simp, Nat.zero_le _, t1, [], [], ys, by simpa using e2, rfl, ga, wa, upd_same, Nat.le_refl _, .nil⟩
      · rintro i k H2 ⟨rfl, hi, ti, acc, accd, rest, e3, rfl, g2, w2, hD2, hl, pa⟩
        have rl : Rel y env ti σ H2 (D :: O) := r1.lend hD g2 w2 (by rw [hD2]; exact True.intro)
        obtain ⟨gs, gn⟩ := gv.2 i (D :: O) H2 (futD H2 g2) rl.dom
        by_cases hlt : i < ds.length
        · obtain ⟨d, ed⟩ : ∃ d, ds[i]? = some d := ⟨ds[i], List.getElem?_eq_getElem hlt⟩
          obtain ⟨go, yl⟩ := gn d ed
          have edrop : ds.drop i = d :: ds.drop (i + 1) := by
            rw [List.drop_eq_getElem_cons hlt]
            congr 1
            rw [List.getElem?_eq_getElem hlt] at ed
            exact Option.some.inj ed
          rw [edrop] at e3
          obtain ⟨ys1, t2, ws, f1, f2, rfl⟩ := lcLoop_cons e3
          refine .inr ⟨go, fun H' => ds.length - (i + 1) = ds.length - (i + 1) ∧ i + 1 ≤ ds.length ∧ ∃ ti acc accd' rest, lcLoop (lcTurn tg vs rc re env) (ds.drop (i + 1)) ti = .ok rest tf ∧ accd' ++ rest = accd ++ (ys1 ++ ws) ∧ Grow y.z H1 H' ∧ TwOk y.z H' ti ∧ H' D = some (.lst acc) ∧ acc.length ≤ i + 1 ∧ RpAll y.K y.z (hide (D :: O) H') acc accd',
            fun H' q => ⟨ds.length - (i + 1), by omega, q⟩, fun x H3 q => ?_⟩
          obtain ⟨ext, px⟩ := yl x H3 q
          have g3 : Grow y.z H2 H3 := grow_ext ext
          have w3 : TwOk y.z H3 ti := tw_ext w2 ext
          have r3 : Rel y (wipeE env vs) ti (L2.wipe σ vs) H3 (D :: O) := (r1.lend hD (g2.trans g3) w3 (by rw [ext _ _ hD2]; exact True.intro)).wipe vs
          unfold lcTurn at f1
          cases eb : bindTg tg d (wipeE env vs) with
          | none => rw [eb] at f1; cases f1
          | some env' =>
            rw [eb] at f1
            simp only at f1
            refine tg_ok px eb fun ws' c4 => ⟨tgSet_wipe hsub σ, ?_⟩
            have r4 := c4 _ _ _ r3 Fut.refl
            refine ⟨env', ti, D :: O, r4.nox, ?_⟩
            cases ec : rc env' ti with
            | bad => rw [ec] at f1; cases f1
            | exc c t3 => rw [ec] at f1; cases f1
            | ok b t3 =>
              rw [ec] at f1
              simp only [R.bind] at f1
              intro H4 g4 w4
              have hD4 : H4 D = some (.lst acc) := g4 _ _ (ext _ _ hD2) nT nN
              cases b with
              | false =>
                rw [if_neg Bool.false_ne_true] at f1 ⊢
                cases f1
                refine ⟨rfl, hlt, _, acc, accd, ws, f2, by simp, (g2.trans g3).trans g4, w4, hD4, by omega, ?_⟩
                exact pa.mono fun a u q => (r4.mono g4) a u (hide_of (hide_some q).1 (ext _ _ (hide_some q).2))
              | true =>
                rw [if_pos rfl] at f1 ⊢
                refine ⟨env', t3, D :: O, (r4.after g4 w4).nox, ?_⟩
                cases ee : re env' t3 with
                | bad => rw [ee] at f1; cases f1
                | exc c t4 => rw [ee] at f1; cases f1
                | ok e t4 =>
                  rw [ee] at f1
                  cases f1
                  intro v H5 g5 w5 rv
                  have hD5 : H5 D = some (.lst acc) := g5 _ _ hD4 nT nN
                  have pv : Rp y.K y.z (hide (D :: O) H5) v e := rv.ofNox.share
                  have hn := gv.1
                  refine ⟨acc, hD5, by rw [line_eq]; omega, rfl, hlt, _, acc ++ [v], accd ++ [e], ws, f2, by simp, fun a u q n1 n2 => ?_, ⟨?_, ?_, w5.2.2⟩, upd_same, by simp; omega, ?_⟩
                  · rw [upd_ne (ne_of_none q hD)]
                    exact (((g2.trans g3).trans g4).trans g5) a u q n1 n2
                  · rw [upd_ne (Ne.symm nT)]; exact w5.1
                  · rw [upd_ne (Ne.symm nN)]; exact w5.2.1
                  · have p5 : RpAll y.K y.z (hide (D :: O) H5) acc accd := pa.mono fun a u q => ((r4.after g4 w4).mono g5) a u ((r4.mono g4) a u (hide_of (hide_some q).1 (ext _ _ (hide_some q).2)))
                    exact (p5.append (.cons pv .nil)).mono hide_upd
        · have ei : i = ds.length := by omega
          subst ei
          rw [List.drop_length] at e3
          simp only [lcLoop] at e3
          cases e3
          refine .inl ⟨gs rfl, h D acc H1 H2 g1 hD nD nT nN g2 w2 hD2 (Nat.le_trans hl gv.1) ?_⟩
          rw [List.append_nil]
          exact pa
theorem lc1_read {tg : Tg} {vs : List Nat} {ri : Env → Tw → R (List PyData)} {rc : Env → Tw → R Bool} {re : Env → Tw → R PyData} {σ : St} {H : Hp} {Q : VK} (hsub : ∀ i, i ∈ tgSlots tg → i ∈ vs)
    (h : tE y m (fun env t => (ri env t).bind fun xs t => (lcLoop (lcTurn tg vs rc re env) xs t).bind fun ys t => .ok (.list ys) t) σ H Q) :
    tLc (iI y ri) (gTg y.K tg) (tCd (nox y) rc) (tE (nox y) false re) vs σ H Q := by
  obtain ⟨env, t, O, r, h⟩ := tE_fin.mp h
  refine lc1_core hsub r (FinN.of r (fun d t' e => ?_) h)
  dsimp only at e
  cases e1 : ri env t with
  | bad => rw [e1] at e; cases e
  | exc c t1 => rw [e1] at e; cases e
  | ok ds t1 =>
    rw [e1] at e
    simp only [R.bind] at e
    cases e2 : lcLoop (lcTurn tg vs rc re env) ds t1 with
    | bad => rw [e2] at e; cases e
    | exc c t2 => rw [e2] at e; cases e
    | ok ys tf => rw [e2] at e; cases e; exact ⟨_, rfl⟩

/-- what stands behind a lent list stays while it is made longer -/
theorem fut_lent {D : Addr} {t1 : Tw} {H1 H2 : Hp} (r1 : Rel y env t1 σ H1 O) (hD : H1 D = none) (g : Grow y.z H1 H2) : Fut O H1 (D :: O) H2 := fun a u q => by
  obtain ⟨q1, q2⟩ := hide_some q
  refine hide_of (fun z => ?_) (hide_some (r1.mono g a u q)).2
  rcases List.mem_cons.mp z with rfl | z
  · rw [hD] at q2; cases q2
  · exact q1 z

abbrev lcTurn2 (tg : Tg) (vs : List Nat) (rc : Env → Tw → R Bool) (ri : Env → Tw → R (List PyData)) (f : Env → PyData → Tw → R (List PyData)) (env : Env) (x : PyData) (t : Tw) : R (List PyData) := match bindTg tg x (wipeE env vs) with
  | some env' => (rc env' t).bind fun b t => if b then (ri env' t).bind fun zs t => lcLoop (f env') zs t else .ok [] t
  | none => .bad

theorem lc2_core {tg tg2 : Tg} {vs vs2 : List Nat} {ri ri2 : Env → Tw → R (List PyData)} {rc rc2 : Env → Tw → R Bool} {re : Env → Tw → R PyData} {σ : St} {H : Hp} {Q : VK} (hsub : ∀ i, i ∈ tgSlots tg → i ∈ vs) (hsub2 : ∀ i, i ∈ tgSlots tg2 → i ∈ vs2) (r : Rel y env t σ H O)
    (h : FinN y O σ Q H ((fun env t => (ri env t).bind fun xs t => (lcLoop (lcTurn2 tg vs rc ri2 (fun env' => lcTurn tg2 vs2 rc2 re env') env) xs t).bind fun ys t => R.of (okIf (decide (ys.length ≤ lineN)) (.list ys)) t) env t)) :
    tLc2 (iI y ri) (gTg y.K tg) (tCd (nox y) rc) (iI (nox y) ri2) (gTg y.K tg2) (tCd (nox y) rc2) (tE (nox y) false re) vs vs2 σ H Q := by
  refine ⟨env, t, O, r, ?_⟩
  dsimp only at h
  cases e1 : ri env t with
  | bad => rw [e1] at h; exact h
  | exc c t1 => rw [e1] at h; exact h
  | ok ds t1 =>
    rw [e1] at h
    simp only [R.bind] at h
    intro J H1 g1 w1 gv D hD
    have r1 := r.after g1 w1
    cases e2 : lcLoop (lcTurn2 tg vs rc ri2 (fun env' => lcTurn tg2 vs2 rc2 re env') env) ds t1 with
    | bad => rw [e2] at h; exact h.elim
    | exc c t2 => exact absurd e2 lcLoop_noexc
    | ok ys tf =>
      rw [e2] at h
      simp only at h
      by_cases hys : ys.length ≤ lineN
      · rw [okIf, if_pos (decide_eq_true hys)] at h
        obtain ⟨_, hds, h⟩ := h
        cases hds
        have nD := r1.notIn hD
        obtain ⟨nT, nN⟩ := r1.ne_town hD
        refine ⟨fun i k H' => k = ds.length - i ∧ i ≤ ds.length ∧ ∃ ti acc accd rest, lcLoop (lcTurn2 tg vs rc ri2 (fun env' => lcTurn tg2 vs2 rc2 re env') env) (ds.drop i) ti = .ok rest tf ∧ accd ++ rest = ys ∧ Grow y.z H1 H' ∧ TwOk y.z H' ti ∧ H' D = some (.lst acc) ∧ RpAll y.K y.z (hide (D :: O) H') acc accd, ?_, ?_⟩
        · obtain ⟨ga, wa, _⟩ := r1.new (o := .lst []) hD
          exact ⟨ds.length, by simp, Nat.zero_le _, t1, [], [], ys, by simpa using e2, rfl, ga, wa, upd_same, .nil⟩
        · rintro i k H2 ⟨rfl, hi, ti, acc, accd, rest, e3, hrest, g2, w2, hD2, pa⟩
          have rl : Rel y env ti σ H2 (D :: O) := r1.lend hD g2 w2 (by rw [hD2]; exact True.intro)
          obtain ⟨gs, gn⟩ := gv.2 i (D :: O) H2 (fut_lent r1 hD g2) rl.dom
          by_cases hlt : i < ds.length
          · obtain ⟨d, ed⟩ : ∃ d, ds[i]? = some d := ⟨ds[i], List.getElem?_eq_getElem hlt⟩
            obtain ⟨go, yl⟩ := gn d ed
            have edrop : ds.drop i = d :: ds.drop (i + 1) := by
              rw [List.drop_eq_getElem_cons hlt]
              congr 1
              rw [List.getElem?_eq_getElem hlt] at ed
              exact Option.some.inj ed
            rw [edrop] at e3
            obtain ⟨ys1, t2, ws, f1, f2, rfl⟩ := lcLoop_cons e3
            refine .inr ⟨go, fun H' => ds.length - (i + 1) = ds.length - (i + 1) ∧ i + 1 ≤ ds.length ∧ ∃ ti acc accd' rest, lcLoop (lcTurn2 tg vs rc ri2 (fun env' => lcTurn tg2 vs2 rc2 re env') env) (ds.drop (i + 1)) ti = .ok rest tf ∧ accd' ++ rest = ys ∧ Grow y.z H1 H' ∧ TwOk y.z H' ti ∧ H' D = some (.lst acc) ∧ RpAll y.K y.z (hide (D :: O) H') acc accd',
              fun H' q => ⟨ds.length - (i + 1), by omega, q⟩, fun x H3 q => ?_⟩
            obtain ⟨ext, px⟩ := yl x H3 q
            have g3 : Grow y.z H2 H3 := grow_ext ext
            have w3 : TwOk y.z H3 ti := tw_ext w2 ext
            have r3 : Rel y (wipeE env vs) ti (L2.wipe σ vs) H3 (D :: O) := (r1.lend hD (g2.trans g3) w3 (by rw [ext _ _ hD2]; exact True.intro)).wipe vs
            have p3 : RpAll y.K y.z (hide (D :: O) H3) acc accd := pa.mono fun a u q => hide_of (hide_some q).1 (ext _ _ (hide_some q).2)
            unfold lcTurn2 at f1
            cases eb : bindTg tg d (wipeE env vs) with
            | none => rw [eb] at f1; cases f1
            | some env' =>
              rw [eb] at f1
              simp only at f1
              refine tg_ok px eb fun ws' c4 => ⟨tgSet_wipe hsub σ, ?_⟩
              have r4 := c4 _ _ _ r3 Fut.refl
              refine ⟨env', ti, D :: O, r4.nox, ?_⟩
              cases ec : rc env' ti with
              | bad => rw [ec] at f1; cases f1
              | exc c t3 => rw [ec] at f1; cases f1
              | ok b t3 =>
                rw [ec] at f1
                simp only [R.bind] at f1
                intro H4 g4 w4
                have hD4 : H4 D = some (.lst acc) := g4 _ _ (ext _ _ hD2) nT nN
                have p4 : RpAll y.K y.z (hide (D :: O) H4) acc accd := p3.mono (r4.mono g4)
                cases b with
                | false =>
                  rw [if_neg Bool.false_ne_true] at f1 ⊢
                  cases f1
                  exact ⟨rfl, hlt, _, acc, accd, ws, f2, by rw [← hrest]; simp, (g2.trans g3).trans g4, w4, hD4, p4⟩
                | true =>
                  rw [if_pos rfl] at f1 ⊢
                  have r4' := r4.after g4 w4
                  refine ⟨env', t3, D :: O, r4'.nox, ?_⟩
                  cases ei : ri2 env' t3 with
                  | bad => rw [ei] at f1; cases f1
                  | exc c t4 => rw [ei] at f1; cases f1
                  | ok zs t4 =>
                    rw [ei] at f1
                    simp only at f1
                    intro J2 H5 g5 w5 gv2
                    have hD5 : H5 D = some (.lst acc) := g5 _ _ hD4 nT nN
                    have r5 := r4'.after g5 w5
                    have p5 : RpAll y.K y.z (hide (D :: O) H5) acc accd := p4.mono (r4'.mono g5)
                    have g15 : Grow y.z H1 H5 := ((g2.trans g3).trans g4).trans g5
                    have f35 : Fut (D :: O) H3 (D :: O) H5 := Fut.trans (r4.mono g4) (r4'.mono g5)
                    refine ⟨fun j k H' => k = zs.length - j ∧ j ≤ zs.length ∧ ∃ tj acc accd' rest, lcLoop (lcTurn tg2 vs2 rc2 re env') (zs.drop j) tj = .ok rest t2 ∧ accd' ++ rest = accd ++ ys1 ∧ Grow y.z H1 H' ∧ Fut (D :: O) H5 (D :: O) H' ∧ TwOk y.z H' tj ∧ H' D = some (.lst acc) ∧ RpAll y.K y.z (hide (D :: O) H') acc accd',
                      ⟨zs.length, by simp, Nat.zero_le _, t4, acc, accd, ys1, by simpa using f1, rfl, g15, Fut.refl, w5, hD5, p5⟩, ?_⟩
                    rintro j k H6 ⟨rfl, hj, tj, acc6, accd6, rest6, e6, hr6, g16, f56, w6, hD6, p6⟩
                    have rl6 : Rel y env tj σ H6 (D :: O) := r1.lend hD g16 w6 (by rw [hD6]; exact True.intro)
                    obtain ⟨gs2, gn2⟩ := gv2.2 j (D :: O) H6 f56 rl6.dom
                    by_cases hlt2 : j < zs.length
                    · obtain ⟨z, ez⟩ : ∃ z, zs[j]? = some z := ⟨zs[j], List.getElem?_eq_getElem hlt2⟩
                      obtain ⟨go2, yl2⟩ := gn2 z ez
                      have edrop2 : zs.drop j = z :: zs.drop (j + 1) := by
                        rw [List.drop_eq_getElem_cons hlt2]
                        congr 1
                        rw [List.getElem?_eq_getElem hlt2] at ez
                        exact Option.some.inj ez
                      rw [edrop2] at e6
                      obtain ⟨ys2, t7, ws2, k1, k2, rfl⟩ := lcLoop_cons e6
                      refine .inr ⟨go2, fun H' => zs.length - (j + 1) = zs.length - (j + 1) ∧ j + 1 ≤ zs.length ∧ ∃ tj acc accd' rest, lcLoop (lcTurn tg2 vs2 rc2 re env') (zs.drop (j + 1)) tj = .ok rest t2 ∧ accd' ++ rest = accd ++ ys1 ∧ Grow y.z H1 H' ∧ Fut (D :: O) H5 (D :: O) H' ∧ TwOk y.z H' tj ∧ H' D = some (.lst acc) ∧ RpAll y.K y.z (hide (D :: O) H') acc accd',
                        fun H' q => ⟨zs.length - (j + 1), by omega, q⟩, fun x2 H7 q2 => ?_⟩
                      obtain ⟨ext7, px7⟩ := yl2 x2 H7 q2
                      have g67 : Grow y.z H6 H7 := grow_ext ext7
                      have w7 : TwOk y.z H7 tj := tw_ext w6 ext7
                      have f67 : Fut (D :: O) H6 (D :: O) H7 := fun a u q => hide_of (hide_some q).1 (ext7 _ _ (hide_some q).2)
                      have rb7 : Rel y (wipeE env vs) tj (L2.wipe σ vs) H7 (D :: O) := (r1.lend hD (g16.trans g67) w7 (by rw [ext7 _ _ hD6]; exact True.intro)).wipe vs
                      have r7 := (c4 _ _ _ rb7 ((f35.trans f56).trans f67)).wipe vs2
                      unfold lcTurn at k1
                      cases eb2 : bindTg tg2 z (wipeE env' vs2) with
                      | none => rw [eb2] at k1; cases k1
                      | some env2 =>
                        rw [eb2] at k1
                        simp only at k1
                        refine tg_ok px7 eb2 fun ws8 c8 => ⟨tgSet_wipe hsub2 _, ?_⟩
                        have r8 := c8 _ _ _ r7 Fut.refl
                        refine ⟨env2, tj, D :: O, r8.nox, ?_⟩
                        cases ec2 : rc2 env2 tj with
                        | bad => rw [ec2] at k1; cases k1
                        | exc c t9 => rw [ec2] at k1; cases k1
                        | ok b t9 =>
                          rw [ec2] at k1
                          simp only [R.bind] at k1
                          intro H9 g9 w9
                          have hD9 : H9 D = some (.lst acc6) := g9 _ _ (ext7 _ _ hD6) nT nN
                          have f69 : Fut (D :: O) H6 (D :: O) H9 := f67.trans (r8.mono g9)
                          cases b with
                          | false =>
                            rw [if_neg Bool.false_ne_true] at k1 ⊢
                            cases k1
                            exact ⟨rfl, hlt2, _, acc6, accd6, ws2, k2, by rw [← hr6]; simp, (g16.trans g67).trans g9, f56.trans f69, w9, hD9, p6.mono f69⟩
                          | true =>
                            rw [if_pos rfl] at k1 ⊢
                            have r9 := r8.after g9 w9
                            refine ⟨env2, t9, D :: O, r9.nox, ?_⟩
                            cases ee : re env2 t9 with
                            | bad => rw [ee] at k1; cases k1
                            | exc c t10 => rw [ee] at k1; cases k1
                            | ok e t10 =>
                              rw [ee] at k1
                              cases k1
                              intro v Hv gv' wv rv
                              have hDv : Hv D = some (.lst acc6) := gv' _ _ hD9 nT nN
                              have pv : Rp y.K y.z (hide (D :: O) Hv) v e := rv.ofNox.share
                              have fv : Fut (D :: O) H6 (D :: O) Hv := f69.trans (r9.mono gv')
                              have la : acc6.length < lineN := by
                                have e1 := congrArg List.length hrest
                                have e2 := congrArg List.length hr6
                                have e3 := p6.length
                                simp only [List.length_append, List.length_cons, List.length_nil] at e1 e2
                                omega
                              refine ⟨acc6, hDv, by rw [line_eq]; exact la, rfl, hlt2, _, acc6 ++ [v], accd6 ++ [e], ws2, k2, by rw [← hr6]; simp, fun a u q n1 n2 => ?_, fun a u q => hide_upd a u (f56.trans fv a u q), ⟨?_, ?_, wv.2.2⟩, upd_same, ?_⟩
                              · rw [upd_ne (ne_of_none q hD)]
                                exact (((g16.trans g67).trans g9).trans gv') a u q n1 n2
                              · rw [upd_ne (Ne.symm nT)]; exact wv.1
                              · rw [upd_ne (Ne.symm nN)]; exact wv.2.1
                              · exact ((p6.mono fv).append (.cons pv .nil)).mono hide_upd
                    · have ej : j = zs.length := by omega
                      subst ej
                      rw [List.drop_length] at e6
                      simp only [lcLoop] at e6
                      cases e6
                      refine .inl ⟨gs2 rfl, rfl, hlt, _, acc6, accd6, ws, f2, ?_, g16, w6, hD6, p6⟩
                      rw [List.append_nil] at hr6
                      rw [hr6, ← hrest]
                      simp
          · have ei : i = ds.length := by omega
            subst ei
            rw [List.drop_length] at e3
            simp only [lcLoop] at e3
            cases e3
            rw [List.append_nil] at hrest
            subst hrest
            exact .inl ⟨gs rfl, h D acc H1 H2 g1 hD nD nT nN g2 w2 hD2 (by rw [pa.length]; exact hys) pa⟩
      · rw [okIf, if_neg (by simpa using hys)] at h
        exact h.elim
theorem lc2_read {tg tg2 : Tg} {vs vs2 : List Nat} {ri ri2 : Env → Tw → R (List PyData)} {rc rc2 : Env → Tw → R Bool} {re : Env → Tw → R PyData} {σ : St} {H : Hp} {Q : VK} (hsub : ∀ i, i ∈ tgSlots tg → i ∈ vs) (hsub2 : ∀ i, i ∈ tgSlots tg2 → i ∈ vs2)
    (h : tE y m (fun env t => (ri env t).bind fun xs t => (lcLoop (lcTurn2 tg vs rc ri2 (fun env' => lcTurn tg2 vs2 rc2 re env') env) xs t).bind fun ys t => R.of (okIf (decide (ys.length ≤ lineN)) (.list ys)) t) σ H Q) :
    tLc2 (iI y ri) (gTg y.K tg) (tCd (nox y) rc) (iI (nox y) ri2) (gTg y.K tg2) (tCd (nox y) rc2) (tE (nox y) false re) vs vs2 σ H Q := by
  obtain ⟨env, t, O, r, h⟩ := tE_fin.mp h
  refine lc2_core hsub hsub2 r (FinN.of r (fun d t' e => ?_) h)
  dsimp only at e
  cases e1 : ri env t with
  | bad => rw [e1] at e; cases e
  | exc c t1 => rw [e1] at e; cases e
  | ok ds t1 =>
    rw [e1] at e
    simp only [R.bind] at e
    cases e2 : lcLoop (lcTurn2 tg vs rc ri2 (fun env' => lcTurn tg2 vs2 rc2 re env') env) ds t1 with
    | bad => rw [e2] at e; cases e
    | exc c t2 => rw [e2] at e; cases e
    | ok ys tf =>
      rw [e2] at e
      simp only at e
      by_cases hys : ys.length ≤ lineN
      · rw [okIf, if_pos (decide_eq_true hys)] at e
        cases e
        exact ⟨_, rfl⟩
      · rw [okIf, if_neg (by simpa using hys)] at e
        cases e
end
end Wv

set_option maxHeartbeats 2000000
namespace Wv
open PySem PySem.Spec PyProof.Rows L2

/-! ### a store into a dict that is being made; an empty one takes any kind of key -/
def PutG (H : Hp) (D : Addr) (k v : V) (H' : Hp) : Prop := DPut H D k v H' ∨ (H D = some (.dK []) ∧ ∃ (ks : List Key) (b : Addr), k = .ref b ∧ H b = some (.tup (ks.map kV)) ∧ H' = upd H D (.dT [(ks, v)])) ∨ (H D = some (.dT []) ∧ ∃ q : Key, k = kV q ∧ H' = upd H D (.dK [(q, v)]))
section
variable {X : Cx} {pins : List (Addr × Obj)} {σ : L2.St} {H H' : Hp} {s : Shared} {D : Addr} {k v : V} {u w : Value} {E : Value → Shared → Prop} {A : Around}
theorem Inv.asT (I : Inv X pins σ H s) (e : H D = some (.dK [])) : Inv X pins σ (upd H D (.dT [])) s := by
  have x := emp_k (I.hok D _ e)
  obtain ⟨_, _, _, _, o, _, _, h1, _⟩ := I.hok D _ e
  have n : ObjOk X.prog X.w (upd H D (.dT [])) s.heap D (.dT []) := x.stay (fun b u _ q => q) (fun b q => by rw [upd_ne (ne_of q e (fun z => nomatch z))]; exact q) fun b xs q => by rw [upd_ne (ne_of q e (fun z => nomatch z))]; exact q
  exact I.write (x := D) (e := D) (t' := s.toks) (h' := s.heap) (by rw [e]; exact True.intro) (.inl rfl) (fun _ _ _ q => q) ⟨o, h1⟩ n
theorem Inv.asK (I : Inv X pins σ H s) (e : H D = some (.dT [])) : Inv X pins σ (upd H D (.dK [])) s := by
  have x := emp_t (I.hok D _ e)
  obtain ⟨_, _, _, _, o, _, _, h1, _⟩ := I.hok D _ e
  have n : ObjOk X.prog X.w (upd H D (.dK [])) s.heap D (.dK []) := x.stay (fun b u _ q => q) (fun b q => by rw [upd_ne (ne_of q e (fun z => nomatch z))]; exact q) fun b xs q => by rw [upd_ne (ne_of q e (fun z => nomatch z))]; exact q
  exact I.write (x := D) (e := D) (t' := s.toks) (h' := s.heap) (by rw [e]; exact True.intro) (.inl rfl) (fun _ _ _ q => q) ⟨o, h1⟩ n
/-- in the one way or the other the store is a plain one -/
theorem PutG.plain (I : Inv X pins σ H s) (g : PutG H D k v H') : ∃ H1, Inv X pins σ H1 s ∧ DPut H1 D k v H' := by
  rcases g with g | ⟨e, ks, b, rfl, eb, rfl⟩ | ⟨e, q, rfl, rfl⟩
  · exact ⟨H, I, g⟩
  · have nb : b ≠ D := ne_of eb e (fun z => nomatch z)
    refine ⟨_, Inv.asT I e, .inr ⟨[], ks, b, upd_same, rfl, by rw [upd_ne nb]; exact eb, by rw [sizeLine_eq]; decide, ?_⟩⟩
    rw [upd_upd]; rfl
  · refine ⟨_, Inv.asK I e, .inl ⟨[], q, upd_same, rfl, by rw [sizeLine_eq]; decide, ?_⟩⟩
    rw [upd_upd]; rfl
theorem p_dictSet {Q : Unit → Shared → Prop} (hu : A.units + 1 < cLine) (I : Inv X pins σ H s) (g : DPut H D k v H') (rk : RelV k u) (rv : RelV v w) (h : ∀ s', Inv X pins σ H' s' → Q () s') : wpAny (model X.prog X.w) A (dictSet D u w) Q E s := by
  rcases g with ⟨kvs, q, e, rfl, l, rfl⟩ | ⟨kvs, q, b, e, rfl, eb, l, rfl⟩
  · obtain ⟨z, hd, vs, rel, dd⟩ := dk_of I.hok e
    have hl : (putK kvs q v).length ≤ sizeLine := by have := length_putK kvs q v; omega
    refine wpAny_dictSet_pairs (hsz := by rw [← rel.length]; exact z) (kV_is rk) dd fun h' d' hs => h _ (d_write I (by rw [e]; exact True.intro) hs ?_ (dk_new hl hd (rel.put q rv) d'))
    obtain ⟨o, _, _, ho, _⟩ := d'
    exact ⟨o, ho⟩
  · cases (show u = Value.ref b from rk)
    obtain ⟨z, hd, xs, rel, dd⟩ := dt_of I.hok e
    have hl : (putK kvs q v).length ≤ sizeLine := by have := length_putK kvs q v; omega
    have room : (tupleKind (mixKind X.prog X.w)).room A := show A.units < cLine by omega
    refine wpAny_dictSet_heap (hsz := by rw [← Paired.length rel]; exact z) room (key_of I.hok eb) dd fun h' d' hs => h _ ?_
    obtain ⟨o, es, ep, ho, h2, h3, h4, _, h5⟩ := d'
    refine d_write I (by rw [e]; exact True.intro) hs ⟨o, ho⟩ ⟨hl, hd, _, (rel.put q eb rv).keeps fun c ys ec => ?_, o, es, ep, ho, h2, h3, h4, h5⟩
    rw [upd_ne (ne_of ec e (fun z => nomatch z))]
    exact ec
theorem g_dictSet {Q : Unit → Shared → Prop} (hu : A.units + 1 < cLine) (I : Inv X pins σ H s) (g : PutG H D k v H') (rk : RelV k u) (rv : RelV v w) (h : ∀ s', Inv X pins σ H' s' → Q () s') : wpAny (model X.prog X.w) A (dictSet D u w) Q E s := by
  obtain ⟨H1, I1, g1⟩ := PutG.plain I g
  exact p_dictSet hu I1 g1 rk rv h
theorem g_setItem {Q : Unit → Shared → Prop} (hu : A.units + 1 < cLine) (I : Inv X pins σ H s) (g : PutG H D k v H') (rk : RelV k u) (rv : RelV v w) (h : ∀ s', Inv X pins σ H' s' → Q () s') : wpAny (model X.prog X.w) A (setItem (.ref D) u w) Q E s := by
  obtain ⟨H1, I1, g1⟩ := PutG.plain I g
  exact d_setItem hu I1 g1 rk rv h
end

/-! ### {k: v for t in i if ..} -/
def tDc1 (wi : TI) (g : TG) (tt : TT) (tk tv : TE) (vs : List Nat) : TE := fun σ H Q => wi σ H fun J H1 => ∀ D, H1 D = none → ∃ W : Nat → Nat → Hp → Prop, (∃ m, W 0 m (upd H1 D (.dK []))) ∧ ∀ i m H, W i m H →
  (J.stop i H ∧ Q (.ref D) H) ∨ (J.go i H ∧ ∃ Nx : Hp → Prop, (∀ H', Nx H' → ∃ m', m' < m ∧ W (i + 1) m' H') ∧ ∀ x H', J.yld i H x H' → g x (wipe σ vs) H' fun σ2 H2 => wipe σ2 vs = wipe σ vs ∧ tt σ2 H2 fun b H3 =>
    if b = true then tk σ2 H3 fun p H4 => tv σ2 H4 fun q H5 => ∃ H6, PutG H5 D p q H6 ∧ Nx H6 else Nx H3)
abbrev Blk (X : Cx) (scope : Scope) (P : Cx → Prop) : Prop := ∀ (s : Shared) (H : Hp) (C : Addr) (cl : List (Str × Addr)) (fp : List Addr), P (X.blk s H scope (compEnvC scope cl C X.env) fp)
section
variable {X : Cx}
theorem dc1_run {pins : List (Addr × Obj)} {s : Shared} {σ : L2.St} {H : Hp} {Q : VK} {kx vx tg iter : Expr} {ifs : List Expr} {scope : Scope} {own : List (Str × Nat)} {pos pos' : Pos} {wi : TI} {g : TG} {tt : TT} {tk tv : TE} {use : Option (Value → Sem Unit)} {Qf : Value → Shared → Prop}
    (hc : X.calm = true) (hN : X.N.Nodup) (hu : X.A.units + 1 < cLine) (I : Inv X pins σ H s) (hi : PI X tg iter wi) (ok : BlkOk X.N X.env.scope scope own) (hg : Blk X scope fun Y => PG Y tg g) (ht : Blk X scope fun Y => PTs Y ifs tt) (hk : Blk X scope fun Y => PE Y kx tk) (hv : Blk X scope fun Y => PE Y vx tv)
    (hs : ∀ x, foldedSetIterable iter X.env x = pure x) (h : tDc1 wi g tt tk tv (own.map (·.2)) σ H Q)
    (fin : ∀ D C s' m H', Inv X pins σ H' s' → Q (.ref D) H' → s'.heap.Ns C m → FpOk X pins H' C → compPost (model X.prog X.w) X.A X.xe use Qf (.ref D) C (.ok .next) s') :
    wpAny (model X.prog X.w) X.A (comprehension (.DictComp kx vx [⟨tg, iter, ifs, 0⟩] scope pos) scope X.env pos' newDict false (eval iter X.env) use) Qf X.xe s := by
  have fr : ∀ n ∈ scope.names, n.2 = .free → ∃ c, X.env.cells.lookup n.1 = some c := fun n hn e => (ok.free n hn e).elim (fun z => I.ok.has _ (.inl z)) (fun z => I.ok.has _ (.inr z))
  refine wpAny_comprehension_free (use := use) rfl hs (closure_ok fr) ok.kind (fun n hn e => by rw [ok.uniq n hn, e]) (thn (hi.run pins s σ H _ I h) fun xv s1 hx => thn hx fun itv s2 h2 => ?_)
  obtain ⟨it, fp, tn, J, H2, rfl, I2, T, st2, f2, q⟩ := h2
  refine wpAny_newObj_type (newEnv_comp ?_)
  generalize hD : s2.heap.objs.size = D
  obtain ⟨W, ⟨m0, w0⟩, turn⟩ := q D (I2.hok.fresh (Nat.le_of_eq hD))
  generalize hs3 : ({ s2 with heap := s2.heap.push { cls := .type "dict", data := .dict #[] } } : Shared) = s3
  have h3 : s3.heap = s2.heap.push { cls := .type "dict", data := .dict #[] } := by rw [← hs3]
  have I3 : Inv X pins σ (upd H2 D (.dK [])) s3 := by
    rw [← hs3]
    refine I2.laid (t' := s2.toks) (fun b o e => Heap.get?_push_of_some _ e) (Nat.le_of_eq hD) ?_
    rw [← hD]
    exact dk_empty s2.heap I2.big
  have f3 : ∀ b ∈ fp, FpOk X pins (upd H2 D (.dK [])) b ∧ b < s3.heap.objs.size := fun b hb => by
    obtain ⟨o, e, _⟩ := T.obj _ _ st2 b hb
    have lt := Heap.lt_size e
    have nD : b ≠ D := fun z => by rw [z, ← hD] at lt; exact Nat.lt_irrefl _ lt
    refine ⟨⟨?_, (f2 b hb).2⟩, by rw [h3, Heap.size_push]; exact Nat.lt_succ_of_lt lt⟩
    rw [upd_ne nD]
    exact (f2 b hb).1
  have st3 : tn 0 s3.heap := T.keep _ _ _ st2 fun b _ o e => by rw [h3]; exact Heap.get?_push_of_some _ e
  have I4 := block_start I3 ok hN f3
  have pg := hg s3 (upd H2 D (.dK [])) s3.heap.objs.size (cellsFrom (s3.heap.objs.size + 1) scope.names (cloFrom X.env.cells scope.names [])) fp
  have pt := ht s3 (upd H2 D (.dK [])) s3.heap.objs.size (cellsFrom (s3.heap.objs.size + 1) scope.names (cloFrom X.env.cells scope.names [])) fp
  have pk := hk s3 (upd H2 D (.dK [])) s3.heap.objs.size (cellsFrom (s3.heap.objs.size + 1) scope.names (cloFrom X.env.cells scope.names [])) fp
  have pv := hv s3 (upd H2 D (.dK [])) s3.heap.objs.size (cellsFrom (s3.heap.objs.size + 1) scope.names (cloFrom X.env.cells scope.names [])) fp
  have nfp : ∀ b ∈ fp, (upd H2 D (.dK [])) b = none := fun b hb => (f3 b hb).1.1
  show codeAny _ _ (.compStart (.DictComp kx vx [⟨tg, iter, ifs, 0⟩] scope pos) 0 (.ref it) (.ref D) (compEnvC scope (cellsFrom (s3.heap.objs.size + 1) scope.names (cloFrom X.env.cells scope.names [])) s3.heap.objs.size X.env)) (compPost (model X.prog X.w) X.A X.xe use Qf (.ref D) s3.heap.objs.size) { s3 with heap := pushCells (s3.heap.push { cls := .type "dict", data := .dict #[] }) scope.names }
  generalize hce : compEnvC scope (cellsFrom (s3.heap.objs.size + 1) scope.names (cloFrom X.env.cells scope.names [])) s3.heap.objs.size X.env = ce at I4 pg pt pk pv ⊢
  have cL : ce.locals = s3.heap.objs.size := by subst hce; rfl
  generalize hH3 : upd H2 D (.dK []) = H3 at I3 I4 pg pt pk pv w0 nfp f3
  generalize hs4 : ({ s3 with heap := pushCells (s3.heap.push { cls := .type "dict", data := .dict #[] }) scope.names } : Shared) = s4 at I4 ⊢
  have st4 : tn 0 s4.heap := T.keep _ _ _ st3 fun b _ o e => by rw [← hs4]; exact pushCells_keeps _ _ _ _ (Heap.get?_push_of_some _ e)
  have stat : ∀ {τ : L2.St} {H' : Hp} {s' : Shared}, Inv (X.blk s3 H3 scope ce fp) [] τ H' s' → (∀ b ∈ fp, H' b = none) → ∀ b ∈ fp, FpOk (X.blk s3 H3 scope ce fp) [] H' b := fun {τ H' s'} I' hn b hb =>
    ⟨hn b hb, (I'.ok.exf b hb).1, I'.ok.exfs b hb, .inl hb, fun x c e => (I'.ok.exf b hb).2 x c e, fun p hp => absurd (show p ∈ ([] : List (Addr × Obj)) ++ [] from hp) (by simp)⟩
  -- what holds ahead of each turn, and behind it
  have back : ∀ {n i : Nat} {τ : L2.St} {s7 s' : Shared} {H' : Hp} {Nx : Hp → Prop}, (∀ H', Nx H' → ∃ m', m' < n ∧ W (i + 1) m' H') → tn (i + 1) s7.heap → wipe τ (own.map (·.2)) = wipe σ (own.map (·.2)) → Inv (X.blk s3 H3 scope ce fp) ([] ++ pinsAt fp s7.heap) τ H' s' → Nx H' →
      ∃ m, m < n ∧ ∃ i H', Inv (X.blk s3 H3 scope ce fp) [] (wipe σ (own.map (·.2))) H' s' ∧ tn i s'.heap ∧ (∀ b ∈ fp, H' b = none) ∧ W i m H' := fun {n i τ s7 s' H' Nx} hNx st7 hw I' nx => by
    obtain ⟨m', hm, w'⟩ := hNx H' nx
    have pin : ∀ b ∈ fp, ∀ o, s7.heap.get? b = some o → s'.heap.get? b = some o ∧ H' b = none := fun b hb o e =>
      have z := I'.pin (b, o) (List.mem_append_right _ (List.mem_append_right _ (mem_pinsAt hb e)))
      ⟨z.1, z.2.1⟩
    refine ⟨m', hm, i + 1, H', (I'.unpinned (pins := [])).weak (by rw [← hw, wipe_length]) (fun j v e => by rw [← hw] at e; exact (wipe_some e).1), T.keep _ _ _ st7 fun b hb o e => (pin b hb o e).1, fun b hb => ?_, w'⟩
    obtain ⟨o, e, _⟩ := T.obj _ _ st7 b hb
    exact (pin b hb o e).2
  have loop : codeAny (model X.prog X.w) X.A (.compLoop (.DictComp kx vx [⟨tg, iter, ifs, 0⟩] scope pos) 0 (.ref it) (.ref D) ce) (compPost (model X.prog X.w) X.A X.xe use Qf (.ref D) s3.heap.objs.size) s4 := by
    refine compLoop_anyD (fun n s' => ∃ i H', Inv (X.blk s3 H3 scope ce fp) [] (wipe σ (own.map (·.2))) H' s' ∧ tn i s'.heap ∧ (∀ b ∈ fp, H' b = none) ∧ W i n H') ?_ m0 ⟨0, H3, I4, st4, nfp, w0⟩
    rintro n s5 ⟨i, H5, I5, st5, n5, w5⟩
    rcases turn i n H5 w5 with ⟨stop, qq⟩ | ⟨go, Nx, hNx, step⟩
    · refine thnF (T.done (X.blk s3 H3 scope ce fp) rfl rfl rfl hc i [] s5 _ H5 (fun _ _ => False) I5 (stat I5 n5) st5 stop) fun r s6 ⟨hr, I6⟩ => ?_
      subst hr
      have I7 : Inv X pins σ H5 s6 := I3.call' (ch := fp) I6.os I6.base I6.hok I6.bare fun b hb => ⟨(f3 b hb).1.2.2.2.1, (f3 b hb).1.2.1, (f3 b hb).1.2.2.2.2.1, (f3 b hb).1.2.2.2.2.2⟩
      have nC : H5 s3.heap.objs.size = none := by rw [← cL]; exact I6.free
      obtain ⟨m, hn, _⟩ := I6.loc
      refine fin D s3.heap.objs.size s6 m H5 I7 qq ?_ (I3.fpOk (Nat.le_refl _) nC)
      rw [← cL]
      exact hn
    · refine thnF (T.item (X.blk s3 H3 scope ce fp) rfl rfl rfl hc i [] s5 _ H5 (fun _ _ => False) I5 (stat I5 n5) st5 go) fun r s6 ⟨u, hr, h6⟩ => ?_
      subst hr
      refine thnF h6 fun _ s7 ⟨x, H7, I7, r7, y7, st7, n7⟩ => thnF (pg.run _ s7 _ H7 x u _ (I7.pinned (stat I7 n7) (T.obj _ _ st7)) r7 (step x H7 y7)) fun _ s8 ⟨σ8, H8, I8, hw8, q8⟩ => thnF (pt.run _ s8 σ8 H8 _ I8 q8) fun b s9 ⟨H9, I9, q9⟩ => ?_
      cases b with
      | false =>
        simp only [Bool.false_eq_true, if_false] at q9 ⊢
        exact back hNx st7 hw8 I9 q9
      | true =>
        simp only [if_true] at q9 ⊢
        refine thnF (pk.run _ s9 σ8 H9 _ I9 q9) fun z s10 ⟨yk, H10, I10, r10, q10⟩ => thnF (pv.run _ s10 σ8 H10 _ I10 q10) fun z2 s11 ⟨yv, H11, I11, r11, H12, put, nx⟩ => ?_
        exact g_dictSet (X := X.blk s3 H3 scope ce fp) hu I11 put r10 r11 fun s12 I12 => back hNx st7 hw8 I12 nx
  exact codeAny_compStart_dict loop (T.self X.A 0 _ _ _ st4 loop)
theorem pe_dc1 {kx vx tg iter : Expr} {ifs : List Expr} {scope : Scope} {own : List (Str × Nat)} {pos : Pos} {wi : TI} {g : TG} {tt : TT} {tk tv : TE} (hc : X.calm = true) (hN : X.N.Nodup) (hu : X.A.units + 1 < cLine) (hi : PI X tg iter wi) (ok : BlkOk X.N X.env.scope scope own) (hg : Blk X scope fun Y => PG Y tg g) (ht : Blk X scope fun Y => PTs Y ifs tt) (hk : Blk X scope fun Y => PE Y kx tk) (hv : Blk X scope fun Y => PE Y vx tv)
    (hs : ∀ x, foldedSetIterable iter X.env x = pure x) : PE X (.DictComp kx vx [⟨tg, iter, ifs, 0⟩] scope pos) (tDc1 wi g tt tk tv (own.map (·.2))) := by
  refine ⟨fun pins s σ H Q I h => ?_⟩
  rw [arm_eval_DictComp]
  refine dc1_run hc hN hu I hi ok hg ht hk hv hs h fun D C s' m H' I' q hn f => ⟨m, hn, fun h'' sb => ?_⟩
  obtain ⟨f0, f1, _, f3, f4, f5⟩ := f
  exact ⟨.ref D, H', I'.turned (t' := s'.toks) (fun b o hb e => (sb.2 b hb).trans e) f0 f1 f3 f4 f5, rfl, q⟩
theorem ps_dc1 {i : Nat} {y : Str} {py spos : Pos} {kx vx tg iter : Expr} {ifs : List Expr} {scope : Scope} {own : List (Str × Nat)} {pos : Pos} {wi : TI} {g : TG} {tt : TT} {tk tv : TE} (hc : X.calm = true) (hN : X.N.Nodup) (hu : X.A.units + 1 < cLine) (hy : X.N[i]? = some y) (hyl : X.env.scope.names.lookup y = some .local)
    (hsw : swapsWith (.DictComp kx vx [⟨tg, iter, ifs, 0⟩] scope pos) (some (.Name y py)) spos.line X.env = pure true) (hi : PI X tg iter wi) (ok : BlkOk X.N X.env.scope scope own) (hg : Blk X scope fun Y => PG Y tg g) (ht : Blk X scope fun Y => PTs Y ifs tt) (hk : Blk X scope fun Y => PE Y kx tk) (hv : Blk X scope fun Y => PE Y vx tv)
    (hs : ∀ x, foldedSetIterable iter X.env x = pure x) : PS X (.Assign [.Name y py] (.DictComp kx vx [⟨tg, iter, ifs, 0⟩] scope pos) spos) (tAsg (tDc1 wi g tt tk tv (own.map (·.2))) (gName i)) := by
  refine ⟨fun pins s σ H D I h => ?_⟩
  rw [exec_Assign_Name_used _ _ _ _ hsw]
  refine wpAny_bind (wpAny_standAt (wpAny_bind ?_))
  show wpAny _ X.A (do let _ ← comprehension (.DictComp kx vx [⟨tg, iter, ifs, 0⟩] scope pos) scope X.env (firstIterPos [⟨tg, iter, ifs, 0⟩] pos) newDict false (eval iter X.env) (some (assign (.Name y py) X.env))) _ _ s
  have h' : tDc1 wi g tt tk tv (own.map (·.2)) σ H (fun x H1 => gName i x σ H1 D.nx) := h
  refine wpAny_bind (thn (dc1_run (Qf := fun _ s' => SP X pins D .next s') hc hN hu I hi ok hg ht hk hv hs h' fun L C s' m H' I' q hn f => ?_) fun _ s' z => wpAny_pure (wpAny_pure z))
  show wpAny _ _ (assign (.Name y py) X.env (.ref L)) _ _ _
  refine wpAny_assign_Name (store_ok2 (v := V.ref L) I' hN hy (.inl hyl) rfl (fun s2 I2 ⟨a, sb, ha⟩ => ?_) (.inr hyl))
  obtain ⟨f0, f1, _, f3, f4, f5⟩ := f
  have na : C ≠ a := ha.elim (fun z => by rw [z]; exact f1) (fun z e => f4 y a z e.symm)
  exact ⟨m, hn.sameBut sb na, fun h3 sb3 => ⟨_, H', I2.turned (t' := s2.toks) (fun b o hb e => (sb3.2 b hb).trans e) f0 f1 f3 f4 f5, q⟩⟩
end

/-! ### {k: v for t in i if .. for t1 in i1 if ..} -/
section
variable {prog : Program} {w : World} {A : Around} {R : Result → Shared → Prop} {s : Shared} {kx vx t0 i0 t1 i1 : Expr} {ifs0 ifs1 : List Expr} {scope : Scope} {pos : Pos} {it : Value} {D : Addr} {env : PySem.Env}
abbrev dc2X (kx vx t0 i0 t1 i1 : Expr) (ifs0 ifs1 : List Expr) (scope : Scope) (pos : Pos) : Expr := .DictComp kx vx [⟨t0, i0, ifs0, 0⟩, ⟨t1, i1, ifs1, 0⟩] scope pos
abbrev tests (ifs : List Expr) (env : PySem.Env) : Sem Bool := forIn ifs true fun c r => if r = true then do let ok ← isTrue c env (eval c env); pure (ForInStep.yield ok) else pure (ForInStep.yield r)
abbrev Nt (prog : Program) (w : World) (A : Around) (env : PySem.Env) (R : Result → Shared → Prop) : Value → Shared → Prop := notedBy (model prog w) A env fun e s' => R (.error e) s'
theorem loopD_out (hs : ∀ x, foldedSetIterable i1 env x = pure x) (I : Nat → Shared → Prop)
    (turn : ∀ n s, I n s → wpAny (model prog w) A (pyNext it) (fun r s1 => match r with
      | none => R (.ok .next) s1
      | some v => wpAny (model prog w) A (letOwnedTupleGo t0 it v) (fun _ s1' => wpAny (model prog w) A (assign t0 env v) (fun _ s2 => wpAny (model prog w) A (tests ifs0 env) (fun ok s3 =>
            if ok = true then wpAny (model prog w) A (eval i1 env) (fun x s4 => wpAny (model prog w) A (pyIter x) (fun it1 s5 =>
              codeAny (model prog w) A (.compStart (dc2X kx vx t0 i0 t1 i1 ifs0 ifs1 scope pos) 1 it1 (.ref D) env) (fun r s' => match r with
                | .ok _ => ∃ m, m < n ∧ I m s'
                | .error _ => False) s5) (Nt prog w A env R) s4) (Nt prog w A env R) s3
            else ∃ m, m < n ∧ I m s3) (Nt prog w A env R) s2) (Nt prog w A env R) s1') (Nt prog w A env R) s1) (Nt prog w A env R) s)
    (n : Nat) (h : I n s) : codeAny (model prog w) A (.compLoop (dc2X kx vx t0 i0 t1 i1 ifs0 ifs1 scope pos) 0 it (.ref D) env) R s := by
  refine codeAny_loop rfl I (fun n s hI => ?_) n h
  show wpAny _ A ((compTurn (dc2X kx vx t0 i0 t1 i1 ifs0 ifs1 scope pos) 0 it (.ref D) env).onRaise (fun x => do noteFrame x env; theTreesLotGoes x)) _ _ s
  refine wpAny_noted ?_
  show wpAny _ _ (standAt i0.pos >>= fun _ => pyNext it >>= _) _ _ s
  refine wpAny_bind (wpAny_standAt (wpAny_bind (wpAny_mono (turn n s hI) (fun r s1 h1 => ?_) fun _ _ z => z)))
  cases r with
  | none => exact wpAny_pure h1
  | some v =>
    show wpAny _ _ (letOwnedTupleGo t0 it v >>= fun _ => assign t0 env v >>= fun _ => tests ifs0 env >>= _) _ _ s1
    refine wpAny_bind (wpAny_mono h1 (fun _ s1' h1' => wpAny_bind (wpAny_mono h1' (fun _ s2 h2 => wpAny_bind (wpAny_mono h2 (fun ok s3 h3 => ?_) fun _ _ z => z)) fun _ _ z => z)) fun _ _ z => z)
    cases ok with
    | false => exact wpAny_pure ⟨rfl, h3⟩
    | true =>
      refine wpAny_bind (wpAny_mono h3 (fun x s4 h4 => wpAny_bind (wpAny_standAt (wpAny_bind (wpAny_of_eq (hs x) (wpAny_bind (wpAny_holding (wpAny_mono h4 (fun it1 s5 h5 => wpAny_bind (wpAny_runOwn ?_)) fun _ _ z => z))))))) fun _ _ z => z)
      rw [Around.mark_none]
      refine codeAny_mono h5 fun r s' hr => ?_
      cases r with
      | ok f =>
        first
          | exact wpAny_pure ⟨rfl, hr⟩
          | exact wpAny_bind (wpAny_pure (wpAny_pure ⟨rfl, hr⟩))
      | error e => exact hr.elim
theorem loopD_in (I : Nat → Shared → Prop)
    (turn : ∀ n s, I n s → wpAny (model prog w) A (pyNext it) (fun r s1 => match r with
      | none => R (.ok .next) s1
      | some v => wpAny (model prog w) A (letOwnedTupleGo t1 it v) (fun _ s1' => wpAny (model prog w) A (assign t1 env v) (fun _ s2 => wpAny (model prog w) A (tests ifs1 env) (fun ok s3 =>
            if ok = true then wpAny (model prog w) A (eval kx env) (fun kv s4 => wpAny (model prog w) A (eval vx env) (fun vv s5 =>
              wpAny (model prog w) A (dictSet D kv vv) (fun _ s6 => ∃ m, m < n ∧ I m s6) (Nt prog w A env R) s5) (Nt prog w A env R) s4) (Nt prog w A env R) s3
            else ∃ m, m < n ∧ I m s3) (Nt prog w A env R) s2) (Nt prog w A env R) s1') (Nt prog w A env R) s1) (Nt prog w A env R) s)
    (n : Nat) (h : I n s) : codeAny (model prog w) A (.compLoop (dc2X kx vx t0 i0 t1 i1 ifs0 ifs1 scope pos) 1 it (.ref D) env) R s := by
  refine codeAny_loop rfl I (fun n s hI => ?_) n h
  show wpAny _ A ((compTurn (dc2X kx vx t0 i0 t1 i1 ifs0 ifs1 scope pos) 1 it (.ref D) env).onRaise (fun x => do noteFrame x env; theTreesLotGoes x)) _ _ s
  refine wpAny_noted ?_
  show wpAny _ _ (standAt i1.pos >>= fun _ => pyNext it >>= _) _ _ s
  refine wpAny_bind (wpAny_standAt (wpAny_bind (wpAny_mono (turn n s hI) (fun r s1 h1 => ?_) fun _ _ z => z)))
  cases r with
  | none => exact wpAny_pure h1
  | some v =>
    show wpAny _ _ (letOwnedTupleGo t1 it v >>= fun _ => assign t1 env v >>= fun _ => tests ifs1 env >>= _) _ _ s1
    refine wpAny_bind (wpAny_mono h1 (fun _ s1' h1' => wpAny_bind (wpAny_mono h1' (fun _ s2 h2 => wpAny_bind (wpAny_mono h2 (fun ok s3 h3 => ?_) fun _ _ z => z)) fun _ _ z => z)) fun _ _ z => z)
    cases ok with
    | false => exact wpAny_pure ⟨rfl, h3⟩
    | true => exact wpAny_bind (wpAny_bind (wpAny_mono h3 (fun kv s4 h4 => wpAny_bind (wpAny_holding (wpAny_mono h4 (fun vv s5 h5 => wpAny_bind (wpAny_standAt (wpAny_holding (wpAny_mono h5 (fun _ s6 h6 => wpAny_pure ⟨rfl, h6⟩) fun _ _ z => z)))) fun _ _ z => z))) fun _ _ z => z))
theorem startD1 (h0 : codeAny (model prog w) A (.compLoop (dc2X kx vx t0 i0 t1 i1 ifs0 ifs1 scope pos) 1 it (.ref D) env) R s)
    (h : wpAny (model prog w) A (pyIter it) (fun it' s' => codeAny (model prog w) A (.compLoop (dc2X kx vx t0 i0 t1 i1 ifs0 ifs1 scope pos) 1 it' (.ref D) env) R s') (Nt prog w A env R) s) :
    codeAny (model prog w) A (.compStart (dc2X kx vx t0 i0 t1 i1 ifs0 ifs1 scope pos) 1 it (.ref D) env) R s := by
  refine codeAny_of_tree ?_
  show wpAny _ _ ((compStart (dc2X kx vx t0 i0 t1 i1 ifs0 ifs1 scope pos) 1 it (.ref D) env).onRaise (fun x => do noteFrame x env; standAt theWindowsPlace)) _ _ s
  refine wpAny_notedAt ?_
  unfold compStart
  show wpAny _ _ (ask >>= _) _ _ s
  refine wpAny_bind (wpAny_askSetting (wpAny_ite ?_))
  split
  · first
      | exact wpAny_bind (wpAny_pure (wpAny_pure (And.intro rfl h0)))
      | exact wpAny_pure (And.intro rfl h0)
  · first
      | exact wpAny_bind (wpAny_rule (wpAny_bind (wpAny_standAt (wpAny_bind (wpAny_mono h (fun jt s' z => wpAny_pure (And.intro rfl z)) fun _ _ x => x)))))
      | (refine wpAny_bind (wpAny_rule ?_); show wpAny _ _ (standAt i1.pos >>= _) _ _ s; exact wpAny_bind (wpAny_standAt (wpAny_bind (wpAny_mono h (fun jt s' z => wpAny_pure (And.intro rfl z)) fun _ _ x => x))))
end
def tDc2 (wi : TI) (g : TG) (tt : TT) (wi1 : TI) (g1 : TG) (tt1 : TT) (tk tv : TE) (vs vs1 : List Nat) : TE := fun σ H Q => wi σ H fun J H1 => ∀ D, H1 D = none → ∃ W : Nat → Nat → Hp → Prop, (∃ m, W 0 m (upd H1 D (.dK []))) ∧ ∀ i m H, W i m H →
  (J.stop i H ∧ Q (.ref D) H) ∨ (J.go i H ∧ ∃ Nx : Hp → Prop, (∀ H', Nx H' → ∃ m', m' < m ∧ W (i + 1) m' H') ∧ ∀ x H', J.yld i H x H' → g x (wipe σ vs) H' fun σ2 H2 => wipe σ2 vs = wipe σ vs ∧ tt σ2 H2 fun b H3 =>
    if b = true then wi1 σ2 H3 fun J1 H4 => ∃ W1 : Nat → Nat → Hp → Prop, (∃ m, W1 0 m H4) ∧ ∀ j l H, W1 j l H →
      (J1.stop j H ∧ Nx H) ∨ (J1.go j H ∧ ∃ Nx1 : Hp → Prop, (∀ H', Nx1 H' → ∃ l', l' < l ∧ W1 (j + 1) l' H') ∧ ∀ x H', J1.yld j H x H' → g1 x (wipe σ2 vs1) H' fun σ3 H5 => wipe σ3 vs1 = wipe σ2 vs1 ∧ tt1 σ3 H5 fun b H6 =>
        if b = true then tk σ3 H6 fun p H7 => tv σ3 H7 fun q H8 => ∃ H9, PutG H8 D p q H9 ∧ Nx1 H9 else Nx1 H6)
    else Nx H3)
section
variable {X : Cx}
theorem dc2_run {pins : List (Addr × Obj)} {s : Shared} {σ : L2.St} {H : Hp} {Q : VK} {kx vx tg iter tg1 iter1 : Expr} {ifs ifs1 : List Expr} {scope : Scope} {own : List (Str × Nat)} {vs1 : List Nat} {pos pos' : Pos} {wi wi1 : TI} {g g1 : TG} {tt tt1 : TT} {tk tv : TE} {use : Option (Value → Sem Unit)} {Qf : Value → Shared → Prop}
    (hc : X.calm = true) (hN : X.N.Nodup) (hu : X.A.units + 1 < cLine) (I : Inv X pins σ H s) (hi : PI X tg iter wi) (ok : BlkOk X.N X.env.scope scope own) (hvs : ∀ i ∈ vs1, i ∈ own.map (·.2)) (hg : Blk X scope fun Y => PG Y tg g) (ht : Blk X scope fun Y => PTs Y ifs tt) (hk : Blk X scope fun Y => PE Y kx tk) (hv : Blk X scope fun Y => PE Y vx tv)
    (hi1 : Blk X scope fun Y => PI Y tg1 iter1 wi1) (hg1 : Blk X scope fun Y => PG Y tg1 g1) (ht1 : Blk X scope fun Y => PTs Y ifs1 tt1) (hs : ∀ x, foldedSetIterable iter X.env x = pure x) (hs1 : ∀ env x, foldedSetIterable iter1 env x = pure x) (h : tDc2 wi g tt wi1 g1 tt1 tk tv (own.map (·.2)) vs1 σ H Q)
    (fin : ∀ D C s' m H', Inv X pins σ H' s' → Q (.ref D) H' → s'.heap.Ns C m → FpOk X pins H' C → compPost (model X.prog X.w) X.A X.xe use Qf (.ref D) C (.ok .next) s') :
    wpAny (model X.prog X.w) X.A (comprehension (dc2X kx vx tg iter tg1 iter1 ifs ifs1 scope pos) scope X.env pos' newDict false (eval iter X.env) use) Qf X.xe s := by
  have fr : ∀ n ∈ scope.names, n.2 = .free → ∃ c, X.env.cells.lookup n.1 = some c := fun n hn e => (ok.free n hn e).elim (fun z => I.ok.has _ (.inl z)) (fun z => I.ok.has _ (.inr z))
  refine wpAny_comprehension_free (use := use) rfl hs (closure_ok fr) ok.kind (fun n hn e => by rw [ok.uniq n hn, e]) (thn (hi.run pins s σ H _ I h) fun xv s1 hx => thn hx fun itv s2 h2 => ?_)
  obtain ⟨it, fp, tn, J, H2, rfl, I2, T, st2, f2, q⟩ := h2
  refine wpAny_newObj_type (newEnv_comp ?_)
  generalize hD : s2.heap.objs.size = D
  obtain ⟨W, ⟨m0, w0⟩, turn⟩ := q D (I2.hok.fresh (Nat.le_of_eq hD))
  generalize hs3 : ({ s2 with heap := s2.heap.push { cls := .type "dict", data := .dict #[] } } : Shared) = s3
  have h3 : s3.heap = s2.heap.push { cls := .type "dict", data := .dict #[] } := by rw [← hs3]
  have I3 : Inv X pins σ (upd H2 D (.dK [])) s3 := by
    rw [← hs3]
    refine I2.laid (t' := s2.toks) (fun b o e => Heap.get?_push_of_some _ e) (Nat.le_of_eq hD) ?_
    rw [← hD]
    exact dk_empty s2.heap I2.big
  have f3 : ∀ b ∈ fp, FpOk X pins (upd H2 D (.dK [])) b ∧ b < s3.heap.objs.size := fun b hb => by
    obtain ⟨o, e, _⟩ := T.obj _ _ st2 b hb
    have lt := Heap.lt_size e
    have nD : b ≠ D := fun z => by rw [z, ← hD] at lt; exact Nat.lt_irrefl _ lt
    refine ⟨⟨?_, (f2 b hb).2⟩, by rw [h3, Heap.size_push]; exact Nat.lt_succ_of_lt lt⟩
    rw [upd_ne nD]
    exact (f2 b hb).1
  have st3 : tn 0 s3.heap := T.keep _ _ _ st2 fun b _ o e => by rw [h3]; exact Heap.get?_push_of_some _ e
  have I4 := block_start I3 ok hN f3
  have pg := hg s3 (upd H2 D (.dK [])) s3.heap.objs.size (cellsFrom (s3.heap.objs.size + 1) scope.names (cloFrom X.env.cells scope.names [])) fp
  have pt := ht s3 (upd H2 D (.dK [])) s3.heap.objs.size (cellsFrom (s3.heap.objs.size + 1) scope.names (cloFrom X.env.cells scope.names [])) fp
  have pk := hk s3 (upd H2 D (.dK [])) s3.heap.objs.size (cellsFrom (s3.heap.objs.size + 1) scope.names (cloFrom X.env.cells scope.names [])) fp
  have pv := hv s3 (upd H2 D (.dK [])) s3.heap.objs.size (cellsFrom (s3.heap.objs.size + 1) scope.names (cloFrom X.env.cells scope.names [])) fp
  have pi1 := hi1 s3 (upd H2 D (.dK [])) s3.heap.objs.size (cellsFrom (s3.heap.objs.size + 1) scope.names (cloFrom X.env.cells scope.names [])) fp
  have pg1 := hg1 s3 (upd H2 D (.dK [])) s3.heap.objs.size (cellsFrom (s3.heap.objs.size + 1) scope.names (cloFrom X.env.cells scope.names [])) fp
  have pt1 := ht1 s3 (upd H2 D (.dK [])) s3.heap.objs.size (cellsFrom (s3.heap.objs.size + 1) scope.names (cloFrom X.env.cells scope.names [])) fp
  have nfp : ∀ b ∈ fp, (upd H2 D (.dK [])) b = none := fun b hb => (f3 b hb).1.1
  show codeAny _ _ (.compStart (dc2X kx vx tg iter tg1 iter1 ifs ifs1 scope pos) 0 (.ref it) (.ref D) (compEnvC scope (cellsFrom (s3.heap.objs.size + 1) scope.names (cloFrom X.env.cells scope.names [])) s3.heap.objs.size X.env)) (compPost (model X.prog X.w) X.A X.xe use Qf (.ref D) s3.heap.objs.size) { s3 with heap := pushCells (s3.heap.push { cls := .type "dict", data := .dict #[] }) scope.names }
  generalize hce : compEnvC scope (cellsFrom (s3.heap.objs.size + 1) scope.names (cloFrom X.env.cells scope.names [])) s3.heap.objs.size X.env = ce at I4 pg pt pk pv pi1 pg1 pt1 ⊢
  have cL : ce.locals = s3.heap.objs.size := by subst hce; rfl
  generalize hH3 : upd H2 D (.dK []) = H3 at I3 I4 pg pt pk pv pi1 pg1 pt1 w0 nfp f3
  generalize hs4 : ({ s3 with heap := pushCells (s3.heap.push { cls := .type "dict", data := .dict #[] }) scope.names } : Shared) = s4 at I4 ⊢
  have st4 : tn 0 s4.heap := T.keep _ _ _ st3 fun b _ o e => by rw [← hs4]; exact pushCells_keeps _ _ _ _ (Heap.get?_push_of_some _ e)
  have stat : ∀ {τ : L2.St} {H' : Hp} {s' : Shared}, Inv (X.blk s3 H3 scope ce fp) [] τ H' s' → (∀ b ∈ fp, H' b = none) → ∀ b ∈ fp, FpOk (X.blk s3 H3 scope ce fp) [] H' b := fun {τ H' s'} I' hn b hb =>
    ⟨hn b hb, (I'.ok.exf b hb).1, I'.ok.exfs b hb, .inl hb, fun x c e => (I'.ok.exf b hb).2 x c e, fun p hp => absurd (show p ∈ ([] : List (Addr × Obj)) ++ [] from hp) (by simp)⟩
  have back : ∀ {n i : Nat} {τ : L2.St} {s7 s' : Shared} {H' : Hp} {Nx : Hp → Prop}, (∀ H', Nx H' → ∃ m', m' < n ∧ W (i + 1) m' H') → tn (i + 1) s7.heap → (wipe σ (own.map (·.2))).length = τ.length → (∀ (j : Nat) v, (wipe σ (own.map (·.2)))[j]? = some (some v) → τ[j]? = some (some v)) → Inv (X.blk s3 H3 scope ce fp) ([] ++ pinsAt fp s7.heap) τ H' s' → Nx H' →
      ∃ m, m < n ∧ ∃ i H', Inv (X.blk s3 H3 scope ce fp) [] (wipe σ (own.map (·.2))) H' s' ∧ tn i s'.heap ∧ (∀ b ∈ fp, H' b = none) ∧ W i m H' := fun {n i τ s7 s' H' Nx} hNx st7 hl hw I' nx => by
    obtain ⟨m', hm, w'⟩ := hNx H' nx
    have pin : ∀ b ∈ fp, ∀ o, s7.heap.get? b = some o → s'.heap.get? b = some o ∧ H' b = none := fun b hb o e =>
      have z := I'.pin (b, o) (List.mem_append_right _ (List.mem_append_right _ (mem_pinsAt hb e)))
      ⟨z.1, z.2.1⟩
    refine ⟨m', hm, i + 1, H', (I'.unpinned (pins := [])).weak hl hw, T.keep _ _ _ st7 fun b hb o e => (pin b hb o e).1, fun b hb => ?_, w'⟩
    obtain ⟨o, e, _⟩ := T.obj _ _ st7 b hb
    exact (pin b hb o e).2
  have loop : codeAny (model X.prog X.w) X.A (.compLoop (dc2X kx vx tg iter tg1 iter1 ifs ifs1 scope pos) 0 (.ref it) (.ref D) ce) (compPost (model X.prog X.w) X.A X.xe use Qf (.ref D) s3.heap.objs.size) s4 := by
    refine loopD_out (hs1 ce) (fun n s' => ∃ i H', Inv (X.blk s3 H3 scope ce fp) [] (wipe σ (own.map (·.2))) H' s' ∧ tn i s'.heap ∧ (∀ b ∈ fp, H' b = none) ∧ W i n H') ?_ m0 ⟨0, H3, I4, st4, nfp, w0⟩
    rintro n s5 ⟨i, H5, I5, st5, n5, w5⟩
    rcases turn i n H5 w5 with ⟨stop, qq⟩ | ⟨go, Nx, hNx, step⟩
    · refine thnF (T.done (X.blk s3 H3 scope ce fp) rfl rfl rfl hc i [] s5 _ H5 (fun _ _ => False) I5 (stat I5 n5) st5 stop) fun r s6 ⟨hr, I6⟩ => ?_
      subst hr
      have I7 : Inv X pins σ H5 s6 := I3.call' (ch := fp) I6.os I6.base I6.hok I6.bare fun b hb => ⟨(f3 b hb).1.2.2.2.1, (f3 b hb).1.2.1, (f3 b hb).1.2.2.2.2.1, (f3 b hb).1.2.2.2.2.2⟩
      have nC : H5 s3.heap.objs.size = none := by rw [← cL]; exact I6.free
      obtain ⟨m, hn, _⟩ := I6.loc
      refine fin D s3.heap.objs.size s6 m H5 I7 qq ?_ (I3.fpOk (Nat.le_refl _) nC)
      rw [← cL]
      exact hn
    · refine thnF (T.item (X.blk s3 H3 scope ce fp) rfl rfl rfl hc i [] s5 _ H5 (fun _ _ => False) I5 (stat I5 n5) st5 go) fun r s6 ⟨u, hr, h6⟩ => ?_
      subst hr
      refine thnF h6 fun _ s7 ⟨x, H7, I7, r7, y7, st7, n7⟩ => thnF (pg.run _ s7 _ H7 x u _ (I7.pinned (stat I7 n7) (T.obj _ _ st7)) r7 (step x H7 y7)) fun _ s8 ⟨σ8, H8, I8, hw8, q8⟩ => thnF (pt.run _ s8 σ8 H8 _ I8 q8) fun b s9 ⟨H9, I9, q9⟩ => ?_
      have hl8 : (wipe σ (own.map (·.2))).length = σ8.length := by rw [← hw8, wipe_length]
      have hk8 : ∀ (j : Nat) v, (wipe σ (own.map (·.2)))[j]? = some (some v) → σ8[j]? = some (some v) := fun j v e => by
        rw [← hw8] at e
        exact (wipe_some e).1
      have hk9 : ∀ (j : Nat) v, (wipe σ (own.map (·.2)))[j]? = some (some v) → (wipe σ8 vs1)[j]? = some (some v) := fun j v e => by
        rw [← hw8] at e
        rw [wipe_out fun z => (wipe_some e).2 (hvs j z)]
        exact (wipe_some e).1
      cases b with
      | false =>
        simp only [Bool.false_eq_true, if_false] at q9 ⊢
        exact back hNx st7 hl8 hk8 I9 q9
      | true =>
        simp only [if_true] at q9 ⊢
        refine thnF (pi1.run _ s9 σ8 H9 _ I9 q9) fun xv s10 hx => thnF hx fun itv s11 h11 => ?_
        obtain ⟨it1, fp1, tn1, J1, H11, rfl, I11, T1, st11, f11, W1, ⟨m1, w1⟩, turn1⟩ := h11
        have stat1 : ∀ {H' : Hp}, (∀ b ∈ fp1, H' b = none) → ∀ b ∈ fp1, FpOk (X.blk s3 H3 scope ce fp) ([] ++ pinsAt fp s7.heap) H' b := fun hn b hb => ⟨hn b hb, (f11 b hb).2⟩
        have inner : codeAny (model X.prog X.w) X.A (.compLoop (dc2X kx vx tg iter tg1 iter1 ifs ifs1 scope pos) 1 (.ref it1) (.ref D) ce) (fun r s' => match r with
            | .ok _ => ∃ m, m < n ∧ ∃ i H', Inv (X.blk s3 H3 scope ce fp) [] (wipe σ (own.map (·.2))) H' s' ∧ tn i s'.heap ∧ (∀ b ∈ fp, H' b = none) ∧ W i m H'
            | .error _ => False) s11 := by
          refine loopD_in (fun l s' => ∃ j H', Inv (X.blk s3 H3 scope ce fp) ([] ++ pinsAt fp s7.heap) (wipe σ8 vs1) H' s' ∧ tn1 j s'.heap ∧ (∀ b ∈ fp1, H' b = none) ∧ W1 j l H') ?_ m1 ⟨0, H11, I11.weak (wipe_length _ _) (fun j v e => (wipe_some e).1), st11, fun b hb => (f11 b hb).1, w1⟩
          rintro l s12 ⟨j, H12, I12, st12, n12, w12⟩
          rcases turn1 j l H12 w12 with ⟨stop1, nx1⟩ | ⟨go1, Nx1, hNx1, step1⟩
          · refine thnF (T1.done (X.blk s3 H3 scope ce fp) rfl rfl rfl hc j _ s12 (wipe σ8 vs1) H12 (fun _ _ => False) I12 (stat1 n12) st12 stop1) fun r s13 ⟨hr, I13⟩ => ?_
            subst hr
            exact back hNx st7 (hl8.trans (wipe_length σ8 vs1).symm) hk9 I13 nx1
          · refine thnF (T1.item (X.blk s3 H3 scope ce fp) rfl rfl rfl hc j _ s12 (wipe σ8 vs1) H12 (fun _ _ => False) I12 (stat1 n12) st12 go1) fun r s13 ⟨u1, hr, h13⟩ => ?_
            subst hr
            refine thnF h13 fun _ s14 ⟨x1, H14, I14, r14, y14, st14, n14⟩ => thnF (pg1.run _ s14 (wipe σ8 vs1) H14 x1 u1 _ (I14.pinned (stat1 n14) (T1.obj _ _ st14)) r14 (step1 x1 H14 y14)) fun _ s15 ⟨σ15, H15, I15, hw15, q15⟩ => thnF (pt1.run _ s15 σ15 H15 _ I15 q15) fun b1 s16 ⟨H16, I16, q16⟩ => ?_
            have back1 : ∀ {s' : Shared} {H' : Hp}, Inv (X.blk s3 H3 scope ce fp) (([] ++ pinsAt fp s7.heap) ++ pinsAt fp1 s14.heap) σ15 H' s' → Nx1 H' → ∃ m, m < l ∧ ∃ j H', Inv (X.blk s3 H3 scope ce fp) ([] ++ pinsAt fp s7.heap) (wipe σ8 vs1) H' s' ∧ tn1 j s'.heap ∧ (∀ b ∈ fp1, H' b = none) ∧ W1 j m H' := fun {s' H'} I' nx => by
              obtain ⟨m', hm, w'⟩ := hNx1 H' nx
              have pin : ∀ b ∈ fp1, ∀ o, s14.heap.get? b = some o → s'.heap.get? b = some o ∧ H' b = none := fun b hb o e =>
                have z := I'.pin (b, o) (List.mem_append_right _ (List.mem_append_right _ (mem_pinsAt hb e)))
                ⟨z.1, z.2.1⟩
              refine ⟨m', hm, j + 1, H', I'.unpinned.weak (by rw [← hw15, wipe_length]) (fun j v e => by rw [← hw15] at e; exact (wipe_some e).1), T1.keep _ _ _ st14 fun b hb o e => (pin b hb o e).1, fun b hb => ?_, w'⟩
              obtain ⟨o, e, _⟩ := T1.obj _ _ st14 b hb
              exact (pin b hb o e).2
            cases b1 with
            | false =>
              simp only [Bool.false_eq_true, if_false] at q16 ⊢
              exact back1 I16 q16
            | true =>
              simp only [if_true] at q16 ⊢
              refine thnF (pk.run _ s16 σ15 H16 _ I16 q16) fun z s17 ⟨yk, H17, I17, r17, q17⟩ => thnF (pv.run _ s17 σ15 H17 _ I17 q17) fun z2 s18 ⟨yv, H18, I18, r18, H19, put, nx⟩ => ?_
              exact g_dictSet (X := X.blk s3 H3 scope ce fp) hu I18 put r17 r18 fun s20 I20 => back1 I20 nx
        exact startD1 inner (T1.self X.A 0 _ _ _ st11 inner)
  exact codeAny_compStart_dict loop (T.self X.A 0 _ _ _ st4 loop)
theorem pe_dc2 {kx vx tg iter tg1 iter1 : Expr} {ifs ifs1 : List Expr} {scope : Scope} {own : List (Str × Nat)} {vs1 : List Nat} {pos : Pos} {wi wi1 : TI} {g g1 : TG} {tt tt1 : TT} {tk tv : TE} (hc : X.calm = true) (hN : X.N.Nodup) (hu : X.A.units + 1 < cLine) (hi : PI X tg iter wi) (ok : BlkOk X.N X.env.scope scope own) (hvs : ∀ i ∈ vs1, i ∈ own.map (·.2)) (hg : Blk X scope fun Y => PG Y tg g) (ht : Blk X scope fun Y => PTs Y ifs tt) (hk : Blk X scope fun Y => PE Y kx tk) (hv : Blk X scope fun Y => PE Y vx tv)
    (hi1 : Blk X scope fun Y => PI Y tg1 iter1 wi1) (hg1 : Blk X scope fun Y => PG Y tg1 g1) (ht1 : Blk X scope fun Y => PTs Y ifs1 tt1) (hs : ∀ x, foldedSetIterable iter X.env x = pure x) (hs1 : ∀ env x, foldedSetIterable iter1 env x = pure x) : PE X (dc2X kx vx tg iter tg1 iter1 ifs ifs1 scope pos) (tDc2 wi g tt wi1 g1 tt1 tk tv (own.map (·.2)) vs1) := by
  refine ⟨fun pins s σ H Q I h => ?_⟩
  rw [arm_eval_DictComp]
  refine dc2_run hc hN hu I hi ok hvs hg ht hk hv hi1 hg1 ht1 hs hs1 h fun D C s' m H' I' q hn f => ⟨m, hn, fun h'' sb => ?_⟩
  obtain ⟨f0, f1, _, f3, f4, f5⟩ := f
  exact ⟨.ref D, H', I'.turned (t' := s'.toks) (fun b o hb e => (sb.2 b hb).trans e) f0 f1 f3 f4 f5, rfl, q⟩
theorem ps_dc2 {i : Nat} {y : Str} {py spos : Pos} {kx vx tg iter tg1 iter1 : Expr} {ifs ifs1 : List Expr} {scope : Scope} {own : List (Str × Nat)} {vs1 : List Nat} {pos : Pos} {wi wi1 : TI} {g g1 : TG} {tt tt1 : TT} {tk tv : TE} (hc : X.calm = true) (hN : X.N.Nodup) (hu : X.A.units + 1 < cLine) (hy : X.N[i]? = some y) (hyl : X.env.scope.names.lookup y = some .local)
    (hsw : swapsWith (dc2X kx vx tg iter tg1 iter1 ifs ifs1 scope pos) (some (.Name y py)) spos.line X.env = pure true) (hi : PI X tg iter wi) (ok : BlkOk X.N X.env.scope scope own) (hvs : ∀ i ∈ vs1, i ∈ own.map (·.2)) (hg : Blk X scope fun Y => PG Y tg g) (ht : Blk X scope fun Y => PTs Y ifs tt) (hk : Blk X scope fun Y => PE Y kx tk) (hv : Blk X scope fun Y => PE Y vx tv)
    (hi1 : Blk X scope fun Y => PI Y tg1 iter1 wi1) (hg1 : Blk X scope fun Y => PG Y tg1 g1) (ht1 : Blk X scope fun Y => PTs Y ifs1 tt1) (hs : ∀ x, foldedSetIterable iter X.env x = pure x) (hs1 : ∀ env x, foldedSetIterable iter1 env x = pure x) : PS X (.Assign [.Name y py] (dc2X kx vx tg iter tg1 iter1 ifs ifs1 scope pos) spos) (tAsg (tDc2 wi g tt wi1 g1 tt1 tk tv (own.map (·.2)) vs1) (gName i)) := by
  refine ⟨fun pins s σ H D I h => ?_⟩
  rw [exec_Assign_Name_used _ _ _ _ hsw]
  refine wpAny_bind (wpAny_standAt (wpAny_bind ?_))
  show wpAny _ X.A (do let _ ← comprehension (dc2X kx vx tg iter tg1 iter1 ifs ifs1 scope pos) scope X.env (firstIterPos [⟨tg, iter, ifs, 0⟩, ⟨tg1, iter1, ifs1, 0⟩] pos) newDict false (eval iter X.env) (some (assign (.Name y py) X.env))) _ _ s
  have h' : tDc2 wi g tt wi1 g1 tt1 tk tv (own.map (·.2)) vs1 σ H (fun x H1 => gName i x σ H1 D.nx) := h
  refine wpAny_bind (thn (dc2_run (Qf := fun _ s' => SP X pins D .next s') hc hN hu I hi ok hvs hg ht hk hv hi1 hg1 ht1 hs hs1 h' fun L C s' m H' I' q hn f => ?_) fun _ s' z => wpAny_pure (wpAny_pure z))
  show wpAny _ _ (assign (.Name y py) X.env (.ref L)) _ _ _
  refine wpAny_assign_Name (store_ok2 (v := V.ref L) I' hN hy (.inl hyl) rfl (fun s2 I2 ⟨a, sb, ha⟩ => ?_) (.inr hyl))
  obtain ⟨f0, f1, _, f3, f4, f5⟩ := f
  have na : C ≠ a := ha.elim (fun z => by rw [z]; exact f1) (fun z e => f4 y a z e.symm)
  exact ⟨m, hn.sameBut sb na, fun h3 sb3 => ⟨_, H', I2.turned (t' := s2.toks) (fun b o hb e => (sb3.2 b hb).trans e) f0 f1 f3 f4 f5, q⟩⟩
end

/-! ### what was made is locked for good -/
def lockQ (Q : VK) : VK := fun v H' => ∃ d u, H' d = some u ∧ Mut (some u) ∧ ∀ od, Q v (upd H' d (.frz od u))
theorem pe_lockQ {X : Cx} {e : Expr} {t : TE} (h : PE X e t) : PE X e (fun σ H Q => t σ H (lockQ Q)) := ⟨fun pins s σ H Q I q => by
  refine thn (h.run pins s σ H _ I q) fun v s1 ⟨x, H1, I1, r, d, u, e2, mu, q1⟩ => ?_
  obtain ⟨od, I2⟩ := I1.lock e2 mu
  exact ⟨x, _, I2, r, q1 od⟩⟩
theorem ps_lockQ {X : Cx} {st : Stmt} {t : TE} {i : Nat} (h : PS X st (tAsg t (gName i))) : PS X st (fun D σ H => t σ H (lockQ fun v H' => D.nx (σ.set i (some v)) H')) := ⟨fun pins s σ H D I q => by
  refine thn (h.run pins s σ H { D with nx := fun σ' H' => ∃ d u, H' d = some u ∧ Mut (some u) ∧ ∀ od, D.nx σ' (upd H' d (.frz od u)) } I q) fun f s1 z => ?_
  cases f with
  | next =>
    obtain ⟨σ', H', I', d, u, e, mu, z⟩ := z
    obtain ⟨od, I2⟩ := I'.lock e mu
    exact ⟨σ', _, I2, z od⟩
  | brk => exact z
  | cont => exact z
  | ret v => exact z⟩
end Wv

set_option maxHeartbeats 2000000
namespace Wv
open PySem L2

section
variable {X : Cx} {y : Cy} {N : List Str} {sc : Scope} {m : Bool}
variable {env env' : Env} {t t' : Tw} {σ σ' : St} {H H' : Hp} {O : List Addr} {Q : VK}

/-! ### a dict that is being made takes a pair -/
theorem hide_in {D : Addr} {a : Addr} {u : HO} (h : hide (D :: O) H a = some u) : a ≠ D := fun e => (hide_some h).1 (by rw [e]; exact List.mem_cons_self)
theorem zip_len {α β : Type} {as : List α} {bs : List β} (e : as.length = bs.length) : (as.zip bs).length = as.length := by rw [List.length_zip]; omega
theorem own_put {K : PySem.W.Frag} {z : Cz} {D : Addr} {acc acc' : List (PyData × PyData)} {k v : PyData} {vk vv : V} (p : OwnIs K z (hide (D :: O) H) H D (.dict acc)) (e : putD acc k v = some acc') (pk : Rp K z (hide (D :: O) H) vk k) (pv : Rp K z (hide (D :: O) H) vv v) :
    ∃ o, PutG H D vk vv (upd H D o) ∧ OwnIs K z (hide (D :: O) (upd H D o)) (upd H D o) D (.dict acc') := by
  unfold putD at e
  split at e
  · rename_i hc
    cases e
    simp only [Bool.and_eq_true, decide_eq_true_eq] at hc
    obtain ⟨fit, hl⟩ := hc
    obtain ⟨b, eb⟩ := Option.isSome_iff_exists.mp (fit_kind fit)
    have mo : ∀ (o : HO) a u, hide (D :: O) H a = some u → hide (D :: O) (upd H D o) a = some u := fun o => hide_upd
    generalize hd : PyData.dict acc = d at p
    cases p with
    | lst => cases hd
    | @dk ks vs ds h1 h2 h3 h4 =>
      cases hd
      have hlen : ks.length < lineN := by
        rw [List.length_zip, List.length_map, ← h4.length, ← h2] at hl
        omega
      cases b with
      | false =>
        obtain ⟨q, rfl⟩ := kind_f eb
        obtain rfl := rp_key pk
        obtain ⟨ks', vs', ds', g1, g2, g3, g4, g5, g6⟩ := put_rel same_key pv (k := q) h2 h4
        refine ⟨.dK (ks'.zip vs'), .inl (.inl ⟨_, q, h1, rfl, by rw [zip_len h2, line_eq]; exact hlen, by rw [g1]⟩), ?_⟩
        rw [g3]
        exact .dk upd_same g2 (by omega) (g4.mono (mo _))
      | true =>
        obtain ⟨i, r, rfl⟩ := kind_t eb
        obtain ⟨c, rfl, hc⟩ := rp_keyT pk
        have kl : (.inl i :: r : List Key).length ≤ lineN := by
          unfold keyT at pk
          cases pk with
          | tup a1 a2 a3 => rw [a3.length] at a2; simpa using a2
        cases ks with
        | cons k0 ks =>
          cases ds with
          | nil => rw [h4.length] at h2; cases h2
          | cons d0 ds =>
            simp only [List.map_cons, List.zip_cons_cons, fitD, kind_key, eb, Bool.and_eq_true, decide_eq_true_eq] at fit
            cases fit.2
        | nil =>
          have e2 : vs = [] := List.eq_nil_of_length_eq_zero h2.symm
          subst e2
          refine ⟨.dT [(.inl i :: r, vv)], .inr (.inl ⟨h1, _, c, rfl, (hide_some hc).2, rfl⟩), ?_⟩
          exact OwnIs.dt (ks := [.inl i :: r]) (vs := [vv]) (ds := [v]) upd_same rfl (by show 1 ≤ lineN; decide) (fun k hk => by rw [List.mem_singleton.mp hk]; exact ⟨⟨i, r, rfl⟩, kl⟩) (.cons (pv.mono (mo _)) .nil)
    | @dt ks vs ds h1 h2 h3 h4 h5 =>
      cases hd
      have hlen : ks.length < lineN := by
        rw [List.length_zip, List.length_map, ← h5.length, ← h2] at hl
        omega
      cases b with
      | false =>
        obtain ⟨q, rfl⟩ := kind_f eb
        obtain rfl := rp_key pk
        cases ks with
        | cons k0 ks =>
          cases ds with
          | nil => rw [h5.length] at h2; cases h2
          | cons d0 ds =>
            obtain ⟨⟨i, r, rfl⟩, _⟩ := h4 k0 (List.mem_cons_self ..)
            simp only [List.map_cons, List.zip_cons_cons, fitD, kind_keyT, eb, Bool.and_eq_true, decide_eq_true_eq] at fit
            cases fit.2
        | nil =>
          have e2 : vs = [] := List.eq_nil_of_length_eq_zero h2.symm
          subst e2
          refine ⟨.dK [(q, vv)], .inr (.inr ⟨h1, q, rfl, rfl⟩), ?_⟩
          exact OwnIs.dk (ks := [q]) (vs := [vv]) (ds := [v]) upd_same rfl (by show 1 ≤ lineN; decide) (.cons (pv.mono (mo _)) .nil)
      | true =>
        obtain ⟨i, r, rfl⟩ := kind_t eb
        obtain ⟨c, rfl, hc⟩ := rp_keyT pk
        have kl : (.inl i :: r : List Key).length ≤ lineN := by
          unfold keyT at pk
          cases pk with
          | tup a1 a2 a3 => rw [a3.length] at a2; simpa using a2
        obtain ⟨ks', vs', ds', g1, g2, g3, g4, g5, g6⟩ := put_rel same_keyT pv (k := .inl i :: r) h2 h5
        refine ⟨.dT (ks'.zip vs'), .inl (.inr ⟨_, _, c, h1, rfl, (hide_some hc).2, by rw [zip_len h2, line_eq]; exact hlen, by rw [g1]⟩), ?_⟩
        rw [g3]
        refine .dt upd_same g2 (by omega) (fun k hk => ?_) (g4.mono (mo _))
        rcases g5 k hk with q | q
        · exact h4 k q
        · rw [q]; exact ⟨⟨i, r, rfl⟩, kl⟩
  · cases e

/-! ### one clause -/
abbrev dcTurn (tg : Tg) (vs : List Nat) (rc : Env → Tw → R Bool) (rk rv : Env → Tw → R PyData) (env : Env) (x : PyData) (acc : List (PyData × PyData)) (t : Tw) : R (List (PyData × PyData)) := match bindTg tg x (wipeE env vs) with
  | some env' => (rc env' t).bind fun b t => if b then (rk env' t).bind fun kd t => (rv env' t).bind fun vd t => putR acc kd vd t else .ok acc t
  | none => .bad
theorem dcLoop_noexc {f : PyData → List (PyData × PyData) → Tw → R (List (PyData × PyData))} : ∀ {xs : List PyData} {acc : List (PyData × PyData)} {t t' : Tw} {c : Nat}, dcLoop f xs acc t ≠ .exc c t'
  | [], acc, t, t', c => fun h => by cases h
  | x :: xs, acc, t, t', c => fun h => by
    simp only [dcLoop] at h
    split at h
    · exact dcLoop_noexc h
    · cases h
theorem dcLoop_cons {f : PyData → List (PyData × PyData) → Tw → R (List (PyData × PyData))} {x : PyData} {xs : List PyData} {acc out : List (PyData × PyData)} {t t' : Tw} (h : dcLoop f (x :: xs) acc t = .ok out t') : ∃ acc1 t1, f x acc t = .ok acc1 t1 ∧ dcLoop f xs acc1 t1 = .ok out t' := by
  simp only [dcLoop] at h
  split at h
  · exact ⟨_, _, by assumption, h⟩
  · cases h
theorem putR_ok {acc out : List (PyData × PyData)} {k v : PyData} {t t' : Tw} (h : putR acc k v t = .ok out t') : putD acc k v = some out ∧ t' = t := by
  unfold putR at h
  split at h
  · rename_i e
    cases h
    exact ⟨e, rfl⟩
  · cases h
/-- what is asked of a new dict -/
def FinD (y : Cy) (O : List Addr) (σ : St) (Q : VK) (H : Hp) : R PyData → Prop
  | .ok d t' => ∃ kds, d = .dict kds ∧ ∀ D H1 H2, Grow y.z H H1 → H1 D = none → D ∉ O → D ≠ y.z.aT → D ≠ y.z.aN → Grow y.z H1 H2 → TwOk y.z H2 t' → OwnIs y.K y.z (hide (D :: O) H2) H2 D (.dict kds) → Q (.ref D) H2
  | .exc c t' => ∀ H', Grow y.z H H' → TwOk y.z H' t' → y.W (.ref (y.z.cls c)) none σ H'
  | .bad => False
theorem upd_frz {D : Addr} {o : HO} {H1 H2 : Hp} (hD : H1 D = none) (g : Grow y.z H1 H2) : Grow y.z H1 (upd H2 D o) := fun a u q n1 n2 => by
  rw [upd_ne (ne_of_none q hD)]
  exact g a u q n1 n2
theorem FinD.of {x : R PyData} (hx : ∀ d t', x = .ok d t' → ∃ kds, d = .dict kds) (h : FinE y m O σ Q H x) : FinD y O σ (lockQ Q) H x := by
  cases x with
  | bad => exact h
  | exc c t' => exact h
  | ok d t' =>
    obtain ⟨kds, rfl⟩ := hx d t' rfl
    refine ⟨kds, rfl, fun D H1 H2 g1 hD nD nT nN g2 w p => ?_⟩
    have tw : ∀ o : HO, TwOk y.z (upd H2 D o) t' := fun o => ⟨by rw [upd_ne (Ne.symm nT)]; exact w.1, by rw [upd_ne (Ne.symm nN)]; exact w.2.1, w.2.2⟩
    have mo : ∀ (o : HO) a u, hide (D :: O) H2 a = some u → hide O (upd H2 D o) a = some u := fun o a u q => hide_tail a u (hide_upd a u q)
    generalize hd : PyData.dict kds = d at p h
    cases p with
    | lst => cases hd
    | dk h1 h2 h3 h4 => exact ⟨D, _, h1, True.intro, fun od => h _ _ (g1.trans (upd_frz hD g2)) (tw _) (.inl (.dk (hide_of nD upd_same) h2 h3 (h4.mono (mo _))))⟩
    | dt h1 h2 h3 h4 h5 => exact ⟨D, _, h1, True.intro, fun od => h _ _ (g1.trans (upd_frz hD g2)) (tw _) (.inl (.dt (hide_of nD upd_same) h2 h3 h4 (h5.mono (mo _))))⟩
theorem dc1_core {tg : Tg} {vs : List Nat} {ri : Env → Tw → R (List PyData)} {rc : Env → Tw → R Bool} {rk rv : Env → Tw → R PyData} (hsub : ∀ i, i ∈ tgSlots tg → i ∈ vs) (r : Rel y env t σ H O)
    (h : FinD y O σ Q H ((fun env t => (ri env t).bind fun xs t => (dcLoop (dcTurn tg vs rc rk rv env) xs [] t).bind fun kds t => .ok (.dict kds) t) env t)) :
    tDc1 (iI y ri) (gTg y.K tg) (tCd (nox y) rc) (tE (nox y) false rk) (tE (nox y) false rv) vs σ H Q := by
  refine ⟨env, t, O, r, ?_⟩
  dsimp only at h
  cases e1 : ri env t with
  | bad => rw [e1] at h; exact h
  | exc c t1 => rw [e1] at h; exact h
  | ok ds t1 =>
    rw [e1] at h
    simp only [R.bind] at h
    intro J H1 g1 w1 gv D hD
    have r1 := r.after g1 w1
    cases e2 : dcLoop (dcTurn tg vs rc rk rv env) ds [] t1 with
    | bad => rw [e2] at h; exact h.elim
    | exc c t2 => exact absurd e2 dcLoop_noexc
    | ok kds tf =>
      rw [e2] at h
      obtain ⟨_, hds, h⟩ := h
      cases hds
      have nD := r1.notIn hD
      obtain ⟨nT, nN⟩ := r1.ne_town hD
      refine ⟨fun i k H' => k = ds.length - i ∧ i ≤ ds.length ∧ ∃ ti acc, dcLoop (dcTurn tg vs rc rk rv env) (ds.drop i) acc ti = .ok kds tf ∧ Grow y.z H1 H' ∧ TwOk y.z H' ti ∧ OwnIs y.K y.z (hide (D :: O) H') H' D (.dict acc), ?_, ?_⟩
      · obtain ⟨ga, wa, _⟩ := r1.new (o := .dK []) hD
        exact ⟨ds.length, by simp, Nat.zero_le _, t1, [], by simpa using e2, ga, wa, OwnIs.dk (ks := []) (vs := []) (ds := []) upd_same rfl (Nat.zero_le _) .nil⟩
      · rintro i k H2 ⟨rfl, hi, ti, acc, e3, g2, w2, pa⟩
        have rl : Rel y env ti σ H2 (D :: O) := r1.lend hD g2 w2 pa.wk
        obtain ⟨gs, gn⟩ := gv.2 i (D :: O) H2 (fut_lent r1 hD g2) rl.dom
        by_cases hlt : i < ds.length
        · obtain ⟨d, ed⟩ : ∃ d, ds[i]? = some d := ⟨ds[i], List.getElem?_eq_getElem hlt⟩
          obtain ⟨go, yl⟩ := gn d ed
          have edrop : ds.drop i = d :: ds.drop (i + 1) := by
            rw [List.drop_eq_getElem_cons hlt]
            congr 1
            rw [List.getElem?_eq_getElem hlt] at ed
            exact Option.some.inj ed
          rw [edrop] at e3
          obtain ⟨acc1, t2, f1, f2⟩ := dcLoop_cons e3
          refine .inr ⟨go, fun H' => ds.length - (i + 1) = ds.length - (i + 1) ∧ i + 1 ≤ ds.length ∧ ∃ ti acc, dcLoop (dcTurn tg vs rc rk rv env) (ds.drop (i + 1)) acc ti = .ok kds tf ∧ Grow y.z H1 H' ∧ TwOk y.z H' ti ∧ OwnIs y.K y.z (hide (D :: O) H') H' D (.dict acc), fun H' q => ⟨ds.length - (i + 1), by omega, q⟩, fun x H3 q => ?_⟩
          obtain ⟨ext, px⟩ := yl x H3 q
          have g3 : Grow y.z H2 H3 := grow_ext ext
          have w3 : TwOk y.z H3 ti := tw_ext w2 ext
          have pa3 : OwnIs y.K y.z (hide (D :: O) H3) H3 D (.dict acc) := pa.mono (fun a u q => hide_of (hide_some q).1 (ext _ _ (hide_some q).2)) fun u q => ext _ _ q
          have r3 : Rel y (wipeE env vs) ti (L2.wipe σ vs) H3 (D :: O) := (r1.lend hD (g2.trans g3) w3 pa3.wk).wipe vs
          unfold dcTurn at f1
          cases eb : bindTg tg d (wipeE env vs) with
          | none => rw [eb] at f1; cases f1
          | some env' =>
            rw [eb] at f1
            simp only at f1
            refine tg_ok px eb fun ws' c4 => ⟨tgSet_wipe hsub σ, ?_⟩
            have r4 := c4 _ _ _ r3 Fut.refl
            refine ⟨env', ti, D :: O, r4.nox, ?_⟩
            cases ec : rc env' ti with
            | bad => rw [ec] at f1; cases f1
            | exc c t3 => rw [ec] at f1; cases f1
            | ok b t3 =>
              rw [ec] at f1
              simp only [R.bind] at f1
              intro H4 g4 w4
              have r5 := r4.after g4 w4
              have pa4 : OwnIs y.K y.z (hide (D :: O) H4) H4 D (.dict acc) := pa3.mono (r4.mono g4) fun u q => g4 _ _ q nT nN
              cases b with
              | false =>
                rw [if_neg Bool.false_ne_true] at f1 ⊢
                cases f1
                exact ⟨rfl, hlt, _, acc, f2, (g2.trans g3).trans g4, w4, pa4⟩
              | true =>
                rw [if_pos rfl] at f1 ⊢
                refine ⟨env', t3, D :: O, r5.nox, ?_⟩
                cases ek : rk env' t3 with
                | bad => rw [ek] at f1; cases f1
                | exc c t4 => rw [ek] at f1; cases f1
                | ok kd t4 =>
                  rw [ek] at f1
                  simp only at f1
                  intro vk H5 g5 w5 rvk
                  have r6 := r5.after g5 w5
                  have pk : Rp y.K y.z (hide (D :: O) H5) vk kd := rvk.ofNox.share
                  refine ⟨env', t4, D :: O, r6.nox, ?_⟩
                  cases ev : rv env' t4 with
                  | bad => rw [ev] at f1; cases f1
                  | exc c t5 => rw [ev] at f1; cases f1
                  | ok vd t5 =>
                    rw [ev] at f1
                    simp only at f1
                    obtain ⟨f3, rfl⟩ := putR_ok f1
                    intro vv H6 g6 w6 rvv
                    have pv : Rp y.K y.z (hide (D :: O) H6) vv vd := rvv.ofNox.share
                    have pa6 : OwnIs y.K y.z (hide (D :: O) H6) H6 D (.dict acc) := pa4.mono (fun a u q => r6.mono g6 a u (r5.mono g5 a u q)) fun u q => g6 _ _ (g5 _ _ q nT nN) nT nN
                    obtain ⟨o, put, pa7⟩ := own_put pa6 f3 (pk.mono (r6.mono g6)) pv
                    exact ⟨_, put, rfl, hlt, _, acc1, f2, upd_frz hD ((((g2.trans g3).trans g4).trans g5).trans g6), ⟨by rw [upd_ne (Ne.symm nT)]; exact w6.1, by rw [upd_ne (Ne.symm nN)]; exact w6.2.1, w6.2.2⟩, pa7⟩
        · have ei : i = ds.length := by omega
          subst ei
          rw [List.drop_length] at e3
          cases e3
          exact .inl ⟨gs rfl, h D H1 H2 g1 hD nD nT nN g2 w2 pa⟩

/-! ### two clauses -/
abbrev dcTurn2 (tg : Tg) (vs : List Nat) (rc : Env → Tw → R Bool) (ri : Env → Tw → R (List PyData)) (f : Env → PyData → List (PyData × PyData) → Tw → R (List (PyData × PyData))) (env : Env) (x : PyData) (acc : List (PyData × PyData)) (t : Tw) : R (List (PyData × PyData)) := match bindTg tg x (wipeE env vs) with
  | some env' => (rc env' t).bind fun b t => if b then (ri env' t).bind fun zs t => dcLoop (f env') zs acc t else .ok acc t
  | none => .bad
theorem dc2_core {tg tg2 : Tg} {vs vs2 : List Nat} {ri ri2 : Env → Tw → R (List PyData)} {rc rc2 : Env → Tw → R Bool} {rk rv : Env → Tw → R PyData} (hsub : ∀ i, i ∈ tgSlots tg → i ∈ vs) (hsub2 : ∀ i, i ∈ tgSlots tg2 → i ∈ vs2) (r : Rel y env t σ H O)
    (h : FinD y O σ Q H ((fun env t => (ri env t).bind fun xs t => (dcLoop (dcTurn2 tg vs rc ri2 (fun env' => dcTurn tg2 vs2 rc2 rk rv env') env) xs [] t).bind fun kds t => .ok (.dict kds) t) env t)) :
    tDc2 (iI y ri) (gTg y.K tg) (tCd (nox y) rc) (iI (nox y) ri2) (gTg y.K tg2) (tCd (nox y) rc2) (tE (nox y) false rk) (tE (nox y) false rv) vs vs2 σ H Q := by
  refine ⟨env, t, O, r, ?_⟩
  dsimp only at h
  cases e1 : ri env t with
  | bad => rw [e1] at h; exact h
  | exc c t1 => rw [e1] at h; exact h
  | ok ds t1 =>
    rw [e1] at h
    simp only [R.bind] at h
    intro J H1 g1 w1 gv D hD
    have r1 := r.after g1 w1
    cases e2 : dcLoop (dcTurn2 tg vs rc ri2 (fun env' => dcTurn tg2 vs2 rc2 rk rv env') env) ds [] t1 with
    | bad => rw [e2] at h; exact h.elim
    | exc c t2 => exact absurd e2 dcLoop_noexc
    | ok kds tf =>
      rw [e2] at h
      obtain ⟨_, hds, h⟩ := h
      cases hds
      have nD := r1.notIn hD
      obtain ⟨nT, nN⟩ := r1.ne_town hD
      refine ⟨fun i k H' => k = ds.length - i ∧ i ≤ ds.length ∧ ∃ ti acc, dcLoop (dcTurn2 tg vs rc ri2 (fun env' => dcTurn tg2 vs2 rc2 rk rv env') env) (ds.drop i) acc ti = .ok kds tf ∧ Grow y.z H1 H' ∧ TwOk y.z H' ti ∧ OwnIs y.K y.z (hide (D :: O) H') H' D (.dict acc), ?_, ?_⟩
      · obtain ⟨ga, wa, _⟩ := r1.new (o := .dK []) hD
        exact ⟨ds.length, by simp, Nat.zero_le _, t1, [], by simpa using e2, ga, wa, OwnIs.dk (ks := []) (vs := []) (ds := []) upd_same rfl (Nat.zero_le _) .nil⟩
      · rintro i k H2 ⟨rfl, hi, ti, acc, e3, g2, w2, pa⟩
        have rl : Rel y env ti σ H2 (D :: O) := r1.lend hD g2 w2 pa.wk
        obtain ⟨gs, gn⟩ := gv.2 i (D :: O) H2 (fut_lent r1 hD g2) rl.dom
        by_cases hlt : i < ds.length
        · obtain ⟨d, ed⟩ : ∃ d, ds[i]? = some d := ⟨ds[i], List.getElem?_eq_getElem hlt⟩
          obtain ⟨go, yl⟩ := gn d ed
          have edrop : ds.drop i = d :: ds.drop (i + 1) := by
            rw [List.drop_eq_getElem_cons hlt]
            congr 1
            rw [List.getElem?_eq_getElem hlt] at ed
            exact Option.some.inj ed
          rw [edrop] at e3
          obtain ⟨acc1, t2, f1, f2⟩ := dcLoop_cons e3
          refine .inr ⟨go, fun H' => ds.length - (i + 1) = ds.length - (i + 1) ∧ i + 1 ≤ ds.length ∧ ∃ ti acc, dcLoop (dcTurn2 tg vs rc ri2 (fun env' => dcTurn tg2 vs2 rc2 rk rv env') env) (ds.drop (i + 1)) acc ti = .ok kds tf ∧ Grow y.z H1 H' ∧ TwOk y.z H' ti ∧ OwnIs y.K y.z (hide (D :: O) H') H' D (.dict acc), fun H' q => ⟨ds.length - (i + 1), by omega, q⟩, fun x H3 q => ?_⟩
          obtain ⟨ext, px⟩ := yl x H3 q
          have g3 : Grow y.z H2 H3 := grow_ext ext
          have w3 : TwOk y.z H3 ti := tw_ext w2 ext
          have pa3 : OwnIs y.K y.z (hide (D :: O) H3) H3 D (.dict acc) := pa.mono (fun a u q => hide_of (hide_some q).1 (ext _ _ (hide_some q).2)) fun u q => ext _ _ q
          have r3 : Rel y (wipeE env vs) ti (L2.wipe σ vs) H3 (D :: O) := (r1.lend hD (g2.trans g3) w3 pa3.wk).wipe vs
          unfold dcTurn2 at f1
          cases eb : bindTg tg d (wipeE env vs) with
          | none => rw [eb] at f1; cases f1
          | some env' =>
            rw [eb] at f1
            simp only at f1
            refine tg_ok px eb fun ws' c4 => ⟨tgSet_wipe hsub σ, ?_⟩
            have r4 := c4 _ _ _ r3 Fut.refl
            refine ⟨env', ti, D :: O, r4.nox, ?_⟩
            cases ec : rc env' ti with
            | bad => rw [ec] at f1; cases f1
            | exc c t3 => rw [ec] at f1; cases f1
            | ok b t3 =>
              rw [ec] at f1
              simp only [R.bind] at f1
              intro H4 g4 w4
              have r4' := r4.after g4 w4
              have pa4 : OwnIs y.K y.z (hide (D :: O) H4) H4 D (.dict acc) := pa3.mono (r4.mono g4) fun u q => g4 _ _ q nT nN
              cases b with
              | false =>
                rw [if_neg Bool.false_ne_true] at f1 ⊢
                cases f1
                exact ⟨rfl, hlt, _, acc, f2, (g2.trans g3).trans g4, w4, pa4⟩
              | true =>
                rw [if_pos rfl] at f1 ⊢
                refine ⟨env', t3, D :: O, r4'.nox, ?_⟩
                cases ei : ri2 env' t3 with
                | bad => rw [ei] at f1; cases f1
                | exc c t4 => rw [ei] at f1; cases f1
                | ok zs t4 =>
                  rw [ei] at f1
                  simp only at f1
                  intro J2 H5 g5 w5 gv2
                  have pa5 : OwnIs y.K y.z (hide (D :: O) H5) H5 D (.dict acc) := pa4.mono (r4'.mono g5) fun u q => g5 _ _ q nT nN
                  have g15 : Grow y.z H1 H5 := ((g2.trans g3).trans g4).trans g5
                  have f35 : Fut (D :: O) H3 (D :: O) H5 := Fut.trans (r4.mono g4) (r4'.mono g5)
                  refine ⟨fun j k H' => k = zs.length - j ∧ j ≤ zs.length ∧ ∃ tj acc, dcLoop (dcTurn tg2 vs2 rc2 rk rv env') (zs.drop j) acc tj = .ok acc1 t2 ∧ Grow y.z H1 H' ∧ Fut (D :: O) H5 (D :: O) H' ∧ TwOk y.z H' tj ∧ OwnIs y.K y.z (hide (D :: O) H') H' D (.dict acc), ⟨zs.length, by simp, Nat.zero_le _, t4, acc, by simpa using f1, g15, Fut.refl, w5, pa5⟩, ?_⟩
                  rintro j k H6 ⟨rfl, hj, tj, acc6, e6, g16, f56, w6, p6⟩
                  have rl6 : Rel y env tj σ H6 (D :: O) := r1.lend hD g16 w6 p6.wk
                  obtain ⟨gs2, gn2⟩ := gv2.2 j (D :: O) H6 f56 rl6.dom
                  by_cases hlt2 : j < zs.length
                  · obtain ⟨z, ez⟩ : ∃ z, zs[j]? = some z := ⟨zs[j], List.getElem?_eq_getElem hlt2⟩
                    obtain ⟨go2, yl2⟩ := gn2 z ez
                    have edrop2 : zs.drop j = z :: zs.drop (j + 1) := by
                      rw [List.drop_eq_getElem_cons hlt2]
                      congr 1
                      rw [List.getElem?_eq_getElem hlt2] at ez
                      exact Option.some.inj ez
                    rw [edrop2] at e6
                    obtain ⟨acc7, t7, k1, k2⟩ := dcLoop_cons e6
                    refine .inr ⟨go2, fun H' => zs.length - (j + 1) = zs.length - (j + 1) ∧ j + 1 ≤ zs.length ∧ ∃ tj acc, dcLoop (dcTurn tg2 vs2 rc2 rk rv env') (zs.drop (j + 1)) acc tj = .ok acc1 t2 ∧ Grow y.z H1 H' ∧ Fut (D :: O) H5 (D :: O) H' ∧ TwOk y.z H' tj ∧ OwnIs y.K y.z (hide (D :: O) H') H' D (.dict acc), fun H' q => ⟨zs.length - (j + 1), by omega, q⟩, fun x2 H7 q2 => ?_⟩
                    obtain ⟨ext7, px7⟩ := yl2 x2 H7 q2
                    have g67 : Grow y.z H6 H7 := grow_ext ext7
                    have w7 : TwOk y.z H7 tj := tw_ext w6 ext7
                    have f67 : Fut (D :: O) H6 (D :: O) H7 := fun a u q => hide_of (hide_some q).1 (ext7 _ _ (hide_some q).2)
                    have p7 : OwnIs y.K y.z (hide (D :: O) H7) H7 D (.dict acc6) := p6.mono f67 fun u q => ext7 _ _ q
                    have rb7 : Rel y (wipeE env vs) tj (L2.wipe σ vs) H7 (D :: O) := (r1.lend hD (g16.trans g67) w7 p7.wk).wipe vs
                    have r7 := (c4 _ _ _ rb7 ((f35.trans f56).trans f67)).wipe vs2
                    unfold dcTurn at k1
                    cases eb2 : bindTg tg2 z (wipeE env' vs2) with
                    | none => rw [eb2] at k1; cases k1
                    | some env2 =>
                      rw [eb2] at k1
                      simp only at k1
                      refine tg_ok px7 eb2 fun ws8 c8 => ⟨tgSet_wipe hsub2 _, ?_⟩
                      have r8 := c8 _ _ _ r7 Fut.refl
                      refine ⟨env2, tj, D :: O, r8.nox, ?_⟩
                      cases ec2 : rc2 env2 tj with
                      | bad => rw [ec2] at k1; cases k1
                      | exc c t9 => rw [ec2] at k1; cases k1
                      | ok b t9 =>
                        rw [ec2] at k1
                        simp only [R.bind] at k1
                        intro H9 g9 w9
                        have r9 := r8.after g9 w9
                        have f69 : Fut (D :: O) H6 (D :: O) H9 := f67.trans (r8.mono g9)
                        have p9 : OwnIs y.K y.z (hide (D :: O) H9) H9 D (.dict acc6) := p7.mono (r8.mono g9) fun u q => g9 _ _ q nT nN
                        cases b with
                        | false =>
                          rw [if_neg Bool.false_ne_true] at k1 ⊢
                          cases k1
                          exact ⟨rfl, hlt2, _, acc6, k2, (g16.trans g67).trans g9, f56.trans f69, w9, p9⟩
                        | true =>
                          rw [if_pos rfl] at k1 ⊢
                          refine ⟨env2, t9, D :: O, r9.nox, ?_⟩
                          cases ek : rk env2 t9 with
                          | bad => rw [ek] at k1; cases k1
                          | exc c t10 => rw [ek] at k1; cases k1
                          | ok kd t10 =>
                            rw [ek] at k1
                            simp only at k1
                            intro vk Ha ga wa rvk
                            have ra := r9.after ga wa
                            have pk : Rp y.K y.z (hide (D :: O) Ha) vk kd := rvk.ofNox.share
                            refine ⟨env2, t10, D :: O, ra.nox, ?_⟩
                            cases ev : rv env2 t10 with
                            | bad => rw [ev] at k1; cases k1
                            | exc c t11 => rw [ev] at k1; cases k1
                            | ok vd t11 =>
                              rw [ev] at k1
                              simp only at k1
                              obtain ⟨f3, rfl⟩ := putR_ok k1
                              intro vv Hb gb wb rvv
                              have pv : Rp y.K y.z (hide (D :: O) Hb) vv vd := rvv.ofNox.share
                              have pb : OwnIs y.K y.z (hide (D :: O) Hb) Hb D (.dict acc6) := p9.mono (fun a u q => ra.mono gb a u (r9.mono ga a u q)) fun u q => gb _ _ (ga _ _ q nT nN) nT nN
                              obtain ⟨o, put, pc⟩ := own_put pb f3 (pk.mono (ra.mono gb)) pv
                              exact ⟨_, put, rfl, hlt2, _, acc7, k2, upd_frz hD ((((g16.trans g67).trans g9).trans ga).trans gb), fun a u q => hide_upd a u (ra.mono gb a u (r9.mono ga a u (f69 a u (f56 a u q)))), ⟨by rw [upd_ne (Ne.symm nT)]; exact wb.1, by rw [upd_ne (Ne.symm nN)]; exact wb.2.1, wb.2.2⟩, pc⟩
                  · have ej : j = zs.length := by omega
                    subst ej
                    rw [List.drop_length] at e6
                    cases e6
                    exact .inl ⟨gs2 rfl, rfl, hlt, _, acc1, f2, g16, w6, p6⟩
        · have ei : i = ds.length := by omega
          subst ei
          rw [List.drop_length] at e3
          cases e3
          exact .inl ⟨gs rfl, h D H1 H2 g1 hD nD nT nN g2 w2 pa⟩

/-! ### the readings -/
theorem dict_res {ri : Env → Tw → R (List PyData)} {f : PyData → List (PyData × PyData) → Tw → R (List (PyData × PyData))} {env : Env} {t : Tw} : ∀ (d : PyData) (t' : Tw), ((ri env t).bind fun xs t => (dcLoop f xs [] t).bind fun kds t => R.ok (PyData.dict kds) t) = .ok d t' → ∃ kds, d = PyData.dict kds := fun d t' e => by
  cases e1 : ri env t with
  | bad => rw [e1] at e; cases e
  | exc c t1 => rw [e1] at e; cases e
  | ok ds t1 =>
    rw [e1] at e
    simp only [R.bind] at e
    cases e2 : dcLoop f ds [] t1 with
    | bad => rw [e2] at e; cases e
    | exc c t2 => rw [e2] at e; cases e
    | ok ys tf => rw [e2] at e; cases e; exact ⟨_, rfl⟩
theorem dc1_read {tg : Tg} {vs : List Nat} {ri : Env → Tw → R (List PyData)} {rc : Env → Tw → R Bool} {rk rv : Env → Tw → R PyData} (hsub : ∀ i, i ∈ tgSlots tg → i ∈ vs)
    (h : tE y m (fun env t => (ri env t).bind fun xs t => (dcLoop (dcTurn tg vs rc rk rv env) xs [] t).bind fun kds t => .ok (.dict kds) t) σ H Q) :
    tDc1 (iI y ri) (gTg y.K tg) (tCd (nox y) rc) (tE (nox y) false rk) (tE (nox y) false rv) vs σ H (lockQ Q) := by
  obtain ⟨env, t, O, r, h⟩ := tE_fin.mp h
  exact dc1_core hsub r (FinD.of dict_res h)
theorem dc2_read {tg tg2 : Tg} {vs vs2 : List Nat} {ri ri2 : Env → Tw → R (List PyData)} {rc rc2 : Env → Tw → R Bool} {rk rv : Env → Tw → R PyData} (hsub : ∀ i, i ∈ tgSlots tg → i ∈ vs) (hsub2 : ∀ i, i ∈ tgSlots tg2 → i ∈ vs2)
    (h : tE y m (fun env t => (ri env t).bind fun xs t => (dcLoop (dcTurn2 tg vs rc ri2 (fun env' => dcTurn tg2 vs2 rc2 rk rv env') env) xs [] t).bind fun kds t => .ok (.dict kds) t) σ H Q) :
    tDc2 (iI y ri) (gTg y.K tg) (tCd (nox y) rc) (iI (nox y) ri2) (gTg y.K tg2) (tCd (nox y) rc2) (tE (nox y) false rk) (tE (nox y) false rv) vs vs2 σ H (lockQ Q) := by
  obtain ⟨env, t, O, r, h⟩ := tE_fin.mp h
  exact dc2_core hsub hsub2 r (FinD.of dict_res h)
/-- {} -/
theorem snd_dct0 {pos : Pos} : PE X (.Dict [] [] pos) (tE y m fun _ t => .ok (.dict []) t) := by
  refine PE.imp (pe_lockQ pe_dnewK) fun σ H Q h => ?_
  obtain ⟨env, t, O, r, h⟩ := h
  intro p hp
  obtain ⟨g, w, n⟩ := r.new (o := .dK []) hp
  refine ⟨p, _, upd_same, True.intro, fun od => ?_⟩
  rw [upd_upd]
  obtain ⟨g, w, n⟩ := r.new (o := .frz od (.dK [])) hp
  exact h _ _ g w (.inl (Rp.dk (ks := []) (vs := []) (ds := []) (hide_of n upd_same) rfl (Nat.zero_le _) .nil))
end
end Wv

set_option maxHeartbeats 1000000
namespace Wv
open PySem L2

/-! ### what a def promises -/
def spOf (K : PySem.W.Frag) (z : Cz) (np : Nat) (G : List PyData → Tw → R PyData) : Sp := fun vs H Q E => vs.length = np ∧ ∃ O ds t, (∀ a, a ∈ O → Wk (H a)) ∧ z.aT ∈ O ∧ z.aN ∈ O ∧ z.aT ≠ z.aN ∧ TwOk z H t ∧ RpAll K z (hide O H) vs ds ∧ match G ds t with
  | .ok d t' => ∀ v H', Grow z H H' → TwOk z H' t' → Rp K z (hide O H') v d → Q v H'
  | .exc c t' => ∀ H', Grow z H H' → TwOk z H' t' → E (.ref (z.cls c)) none H'
  | .bad => False

/-- how a def is called: all by place; or a last parameter 'liars' by its name, with a default -/
inductive Kd where
  | pos
  | kw
deriving DecidableEq

structure FnAt (P : Program) (w : World) (K : PySem.W.Frag) (mg : Str → Option Value) (base : Heap) (z : Cz) (k : Nat) (G : List PyData → Tw → R PyData) (x : Str) (np : Nat) (kd : Kd) : Prop where
  ex : ∃ (a : Addr) (fd : FuncData) (ps : List Str), mg x = some (.ref a) ∧ PySem.W.keepIn K (.ref a) = true ∧ FnOk P w K mg base (L2.CX P w) k a fd ps (spOf K z np G) ∧
    (kd = .pos → Binds K fd ps []) ∧
    (kd = .kw → (∃ (T : Addr) (ds : List Value), SqT K (fun _ => none) T [] ∧ Vals [.ref T] ds ∧ Binds K fd ps ds) ∧ ∃ n, n + 1 = ps.length ∧ KBn K fd ps n ["liars"] (fun us ws => us ++ ws) (fun us ws => us ++ ws))
  nm : (x == ("__debug__" : Str)) = false

/-- what stands behind a class of refusals -/
def veT : List Value := [.type "ValueError", .type "Exception", .type "BaseException", .type "object"]
structure Gt where
  fn : Nat → Option (Str × Nat × Kd)
  exc : Nat → Option Str
  cst : Str → Option PyData

/-- what is known of the classes of refusals; 0 is the one above all others -/
structure ExcF (K : PySem.W.Frag) (mg : Str → Option Value) (z : Cz) (exc : Nat → Option Str) : Prop where
  mgs : ∀ c x, exc c = some x → mg x = some (.ref (z.cls c)) ∧ (x == ("__debug__" : Str)) = false
  mks : ∀ c x, exc c = some x → PySem.W.excIn K (z.cls c) veT "ValueError.__new__" = true ∧ PySem.W.keepIn K (.ref (z.cls c)) = true ∧ PySem.W.subIn K (.ref (z.cls c)) (.type "BaseException") = some true ∧ PySem.W.typeIn K (.ref (z.cls c)) = some (.type "type")
  is : ∀ c x, exc c = some x → ExcC K (z.cls c)
  kit : ∀ c x c' x', exc c = some x → exc c' = some x' → PySem.W.kitOne K (.ref (z.cls c)) (.ref (z.cls c')) = some (decide (c' = 0) || decide (c = c'))
  ve : ∀ c x, exc c = some x → PySem.W.kitOne K (.ref (z.cls c)) (.type "ValueError") = some true
  exm : ∀ c x x', exc c = some x → exc 0 = some x' → PySem.W.exmOne K (.ref (z.cls c)) (.ref (z.cls 0)) = some true

structure Cxx (X : Cx) (y : Cy) (N : List Str) (sc : Scope) (g : Gt) (F : Nat → List PyData → Tw → R PyData) (k : Nat) : Prop extends Ctx X y N sc where
  fns : ∀ f x np kd, g.fn f = some (x, np, kd) → FnAt X.prog X.w X.K X.mg X.base y.z k (F f) x np kd
  csts : ∀ x d, g.cst x = some d → ∃ (u : Value) (v : V), X.mg x = some u ∧ RelV v u ∧ (∀ H, Rp y.K y.z H v d) ∧ (x == ("__debug__" : Str)) = false
  room : Room k X.A
  exf : ExcF X.K X.mg y.z g.exc

section
variable {X : Cx} {y : Cy} {N : List Str} {sc : Scope} {m : Bool} {g : Gt} {F : Nat → List PyData → Tw → R PyData} {k : Nat}
variable {env env' : Env} {t t' : Tw} {σ σ' : St} {H H' : Hp} {O : List Addr} {Q : VK}

/-- a block within -/
theorem Cxx.blk (C : Cxx X y N sc g F k) (scope : Scope) (s : Shared) (H : Hp) (c : Addr) (cl : List (Str × Addr)) (fp : List Addr) : Cxx (X.blk s H scope (compEnvC scope cl c X.env) fp) (nox y) N (relS scope sc) g F k where
  scope := by
    show relS scope X.env.scope = relS scope sc
    rw [C.scope]
  names := C.names
  K := C.K
  calm := C.calm
  nd := C.nd
  units := C.units
  tk := takes0
  free := C.free
  fns := C.fns
  csts := C.csts
  room := C.room
  exf := C.exf

theorem spOf_call {np : Nat} {G : List PyData → Tw → R PyData} {vs : List V} {ds : List PyData} (r : Rel y env t σ H O) (hl : vs.length = np) (h : RpAll y.K y.z (hide O H) vs ds) (q : FinE y m O σ Q H (G ds t)) : spOf y.K y.z np G vs H Q (WE y.W σ) := by
  refine ⟨hl, O, ds, t, r.dom, r.sub _ r.tT, r.sub _ r.tN, r.ne, r.tw, h, ?_⟩
  cases e : G ds t with
  | bad => rw [e] at q; exact q
  | exc c t' => rw [e] at q; exact q
  | ok d t' => rw [e] at q; exact fun v H' g w p => q v H' g w (.inl p)
/-- a call that is given another number of values than the def has comes to nothing -/
def Arity (g : Gt) (F : Nat → List PyData → Tw → R PyData) : Prop := ∀ f x np kd ds t, g.fn f = some (x, np, kd) → ds.length ≠ np → F f ds t = .bad

theorem snd_call {f : Nat} {x : Str} {np : Nat} {es : List Expr} {p pos : Pos} {rs : Env → Tw → R (List PyData)} (C : Cxx X y N sc g F k) (ar : Arity g F) (hf : g.fn f = some (x, np, .pos)) (hg : glB sc x = true) (ne : es ≠ []) (ho : es.all ordE = true) (h : PA X es (tL y false rs)) :
    PE X (.Call (.Name x p) es [] pos) (tE y m fun env t => (rs env t).bind fun ds t => F f ds t) := by
  cases es with
  | nil => exact absurd rfl ne
  | cons e es =>
    obtain ⟨⟨a, fd, ps, hm, hk, fo, hb, _⟩, nm⟩ := C.fns f x np .pos hf
    have ho' := ho
    simp only [List.all_cons, Bool.and_eq_true] at ho
    refine PE.imp (pe_callSD (E := WE y.W) fo C.room (gl_of (by rw [C.scope]; exact hg)) hm hk (hb rfl) .nil (fun σ => passAt C.tk σ) h nm (star_ord ho.1) (stars_ord ho.2)) fun σ H Q q => ?_
    obtain ⟨env, t, O, r, q⟩ := tE_fin.mp q
    refine tL.then r q fun ds t1 vs H1 e g1 r1 rv z => ?_
    rw [List.append_nil, C.K]
    have ps' := pair_share rv
    by_cases hn : ds.length = np
    · exact spOf_call r1 (by rw [ps'.length]; exact hn) ps' z
    · rw [ar f x np .pos ds t1 hf hn] at z
      exact z.elim
theorem snd_call0 {f : Nat} {x : Str} {p pos : Pos} (C : Cxx X y N sc g F k) (hf : g.fn f = some (x, 0, .pos)) (hg : glB sc x = true) :
    PE X (.Call (.Name x p) [] [] pos) (tE y m fun _ t => match F f [] t with
      | .ok d t => .ok d t
      | _ => .bad) := by
  obtain ⟨⟨a, fd, ps, hm, hk, fo, hb, _⟩, nm⟩ := C.fns f x 0 .pos hf
  refine PE.imp (pe_call0 (E := E0) fo C.room (gl_of (by rw [C.scope]; exact hg)) hm hk (hb rfl) .nil passL nm) fun σ H Q q => ?_
  obtain ⟨env, t, O, r, q⟩ := q
  refine ⟨rfl, O, [], t, r.dom, r.sub _ r.tT, r.sub _ r.tN, r.ne, r.tw, .nil, ?_⟩
  dsimp only at q
  rw [C.K]
  cases e : F f [] t with
  | bad => rw [e] at q; exact q
  | exc c t' => rw [e] at q; exact q.elim
  | ok d t' => rw [e] at q; exact fun v H' g w p => q v H' g w (.inl p)
theorem snd_callD {f : Nat} {x : Str} {np : Nat} {es : List Expr} {p pos : Pos} {rs : Env → Tw → R (List PyData)} (C : Cxx X y N sc g F k) (ar : Arity g F) (hf : g.fn f = some (x, np, .kw)) (hg : glB sc x = true) (ne : es ≠ []) (ho : es.all ordE = true) (h : PA X es (tL y false rs)) :
    PE X (.Call (.Name x p) es [] pos) (tE y m fun env t => (rs env t).bind fun ds t => F f (ds ++ [.tuple []]) t) := by
  cases es with
  | nil => exact absurd rfl ne
  | cons e es =>
    obtain ⟨⟨a, fd, ps, hm, hk, fo, _, hb⟩, nm⟩ := C.fns f x np .kw hf
    obtain ⟨⟨T, dv, hT, hv, hb⟩, _⟩ := hb rfl
    simp only [List.all_cons, Bool.and_eq_true] at ho
    refine PE.imp (pe_callSD (E := WE y.W) fo C.room (gl_of (by rw [C.scope]; exact hg)) hm hk hb hv (fun σ => passAt C.tk σ) h nm (star_ord ho.1) (stars_ord ho.2)) fun σ H Q q => ?_
    obtain ⟨env, t, O, r, q⟩ := tE_fin.mp q
    refine tL.then r q fun ds t1 vs H1 e g1 r1 rv z => ?_
    rw [C.K]
    rw [C.K] at hT
    have pT : Rp y.K y.z (hide O H1) (.ref T) (.tuple []) := .tup (.inr ⟨hT, fun i r e => by cases e⟩) (Nat.zero_le _) .nil
    have ps' := (pair_share rv).append (.cons pT .nil)
    by_cases hn : (ds ++ [PyData.tuple []]).length = np
    · exact spOf_call r1 (by rw [ps'.length]; exact hn) ps' z
    · rw [ar f x np .kw _ t1 hf hn] at z
      exact z.elim

/-- a call with one keyword, what is raised wished for at the slots -/
theorem pe_callKS {n : Nat} {a : Addr} {fd : FuncData} {ps : List Str} {sp : Sp} {E : St → XK} {x kn : Str} {p pos kp : Pos} {e ke : Expr} {es : List Expr} {ta : TA} {tk : TE} (fo : FnOk X.prog X.w X.K X.mg X.base (L2.CX X.prog X.w) k a fd ps sp) (hr : Room k X.A) (hg : Gl X x) (hm : X.mg x = some (.ref a)) (hk : PySem.W.keepIn X.K (.ref a) = true)
    (hn : n + 1 = ps.length) (hb : KBn X.K fd ps n [kn] (fun us ws => us ++ ws) (fun us ws => us ++ ws)) (hx : ∀ σ, PassesAt (L2.CX X.prog X.w) X σ (E σ)) (ha : PA X (e :: es) ta) (hke : PE X ke tk) (hdb : (x == ("__debug__" : Str)) = false)
    (he : starEach (e :: es) X.env = (false, eval e X.env) :: starEach es X.env) (hpl : (backTo pos (starEach es X.env)).any (·.1) = false) :
    PE X (.Call (.Name x p) (e :: es) [⟨some kn, ke, kp⟩] pos) (fun σ H Q => ta σ H fun vs H1 => tk σ H1 fun w H2 => sp (vs ++ [w]) H2 Q (E σ)) := by
  refine ⟨fun pins s σ H Q I h => ?_⟩
  have hkw : PK X [⟨some kn, ke, kp⟩] (tCons tk tNil) := pk_cons hke pk_nil
  refine wpAny_Call_Name_kw (ld_glob I hg hm ?_ hdb)
  have hany : ((backTo pos (starEach (e :: es) X.env)).any (·.1) || (backToKw pos (keywordEach [⟨some kn, ke, kp⟩] X.env)).any (·.1.isNone)) = false := by
    rw [he]
    simpa [backTo, backToKw, keywordEach] using hpl
  refine PySem.W.callWith_KW (h₀ := X.base) I.ok.mod.kin hk rfl (thn (ha.run pos pins s σ H _ I h) fun us s1 ⟨vs, H1, I1, r, q⟩ => ?_) hany he
  refine thn (hkw.run pos pins s1 σ H1 (fun zs H2 => match zs with
    | [w] => sp (vs ++ [w]) H2 Q (E σ)
    | _ => False) I1 q) fun ws s2 ⟨zs, H2, I2, rz, q2⟩ => ⟨I2.kIn, ?_⟩
  dsimp only at q2
  split at q2
  · rename_i w
    have q3 := q2
    have r3 : Vals (vs ++ [w]) (us ++ ws) := r.append rz
    have hl : (us ++ ws).length = ps.length := by rw [← r3.length]; exact fo.len _ _ _ _ q3
    refine wpAny_call (codeAny_mono (fo.run X.A X.stack s2 H2 ⟨us, [kn].zip ws⟩ (us ++ ws) (vs ++ [w]) Q (E σ) hr I2.env0 (hb.to s2 us ws I2.kIn (by have l1 := rz.length; rw [List.length_append, ← l1] at hl; simp only [List.length_cons, List.length_nil] at hl; omega) (by rw [← rz.length]; rfl)) r3 q3) fun fl s' hq => ?_)
    cases fl with
    | error u => exact hx σ pins H2 s2 u s' I2 hq
    | ok fw =>
      cases fw with
      | ret u => exact I2.after hq
      | _ => exact False.elim hq
  · exact q2.elim
theorem snd_callK {f : Nat} {x : Str} {np : Nat} {es : List Expr} {ke : Expr} {p pos kp : Pos} {rs : Env → Tw → R (List PyData)} {rk : Env → Tw → R PyData} (C : Cxx X y N sc g F k) (ar : Arity g F) (hf : g.fn f = some (x, np, .kw)) (hg : glB sc x = true) (ne : es ≠ []) (ho : es.all ordE = true) (h : PA X es (tL y false rs)) (hke : PE X ke (tE y false rk)) :
    PE X (.Call (.Name x p) es [⟨some "liars", ke, kp⟩] pos) (tE y m fun env t => (rs env t).bind fun ds t => (rk env t).bind fun d t => F f (ds ++ [d]) t) := by
  cases es with
  | nil => exact absurd rfl ne
  | cons e es =>
    obtain ⟨⟨a, fd, ps, hm, hk, fo, _, hb⟩, nm⟩ := C.fns f x np .kw hf
    obtain ⟨_, nn, hnn, hb⟩ := hb rfl
    simp only [List.all_cons, Bool.and_eq_true] at ho
    refine PE.imp (pe_callKS (E := WE y.W) fo C.room (gl_of (by rw [C.scope]; exact hg)) hm hk hnn hb (fun σ => passAt C.tk σ) h hke nm (star_ord ho.1) (stars_ord ho.2)) fun σ H Q q => ?_
    obtain ⟨env, t, O, r, q⟩ := tE_fin.mp q
    refine tL.then r q fun ds t1 vs H1 e g1 r1 rv z => ?_
    refine tE.then r1 z fun d t2 v H2 e2 g2 r2 rv2 z2 => ?_
    rw [C.K]
    have ps' := ((pair_share rv).mono (r1.mono g2)).append (.cons rv2.share .nil)
    by_cases hn : (ds ++ [d]).length = np
    · exact spOf_call r2 (by rw [ps'.length]; exact hn) ps' z2
    · rw [ar f x np .kw _ t2 hf hn] at z2
      exact z2.elim
end
end Wv

set_option maxHeartbeats 2000000
namespace Wv
open PySem L2

section
variable {X : Cx} {y : Cy} {N : List Str} {sc : Scope} {m : Bool} {g : Gt} {F : Nat → List PyData → Tw → R PyData} {k : Nat}
variable {env env' : Env} {t t' : Tw} {σ σ' : St} {H H' : Hp} {O : List Addr} {Q : VK}

/-! ### methods of lists -/
theorem findD_some {x : PyData} : ∀ {ys : List PyData} {j : Nat}, findD x ys = some j → ∃ z, ys[j]? = some z ∧ PyData.eqv z x = true ∧ ∀ (i : Nat) z', i < j → ys[i]? = some z' → PyData.eqv z' x = false
  | [], j, h => by simp [findD] at h
  | w :: ys, j, h => by
    unfold findD at h
    split at h
    · rename_i hw
      cases h
      exact ⟨w, rfl, hw, fun i z' hi => by omega⟩
    · rename_i hw
      obtain ⟨j', e, rfl⟩ := Option.map_eq_some_iff.mp h
      obtain ⟨z, h1, h2, h3⟩ := findD_some e
      refine ⟨z, by simpa using h1, h2, fun i z' hi hz => ?_⟩
      cases i with
      | zero =>
        simp at hz
        subst hz
        simpa using hw
      | succ i => exact h3 i z' (by omega) (by simpa using hz)
def rCountD (K : PySem.W.Frag) : V → List V → Hp → VK → Prop := fun x xs H Q => ∃ (a : Addr) (w : V) (d : PyData) (ds : List PyData), x = V.ref a ∧ xs = [w] ∧ Dp K H (V.ref a) (.list ds) ∧ Dp K H w d ∧ (d.plain && PyData.plainAll ds && decide (min (PyData.depthAll ds) d.depth ≤ 50)) = true ∧ Q (.int ((ds.countP fun z => PyData.eqv z d : Nat) : Int)) H
theorem mt_countD (hu : X.A.units + 60 < cLine) : MtR X "list.count" (rCountD X.K) := by
  intro pins s σ H x xs v us Q I rx rxs h
  obtain ⟨a, w, d, ds, rfl, rfl, hl, hw, hf, q⟩ := h
  simp only [Bool.and_eq_true, decide_eq_true_eq] at hf
  cases rx
  cases rxs with
  | cons rw' rt =>
    cases rt
    obtain ⟨bs, r1⟩ := Dp.reads I d w _ hw rw'
    cases hl with
    | lst hs ha =>
      obtain ⟨its, rv, pl, hz⟩ := I.list hs
      obtain ⟨as, h4⟩ := Dp.readsAll I ds _ its ha rv
      exact SeqAt.count_list_data pl.isList (show ReadsAll s.heap its.toArray.toList ds as from h4) r1 hf.1.2 hf.1.1 (by omega) ⟨.int _, H, I.tok _, ⟨_, rfl⟩, q⟩
def attrOrd : Expr → Bool
  | .Name _ _ => true
  | .Subscript _ _ _ => true
  | _ => false
theorem base_ord {o : Expr} {nm : Str} {env : PySem.Env} (h : attrOrd o = true) : attributeBase o nm env (eval o env) = eval o env := by
  cases o <;> first | rfl | cases h
def mtName : Mt → Str
  | .lcount => "count"
  | .lindex => "index"
theorem few_ord {e : Expr} {cpos : Pos} {env : PySem.Env} (h : ordE e = true) : ((backTo cpos (starEach [e] env)).all (fun x => !x.1) && (backToKw cpos (keywordEach [] env)).all (fun x => x.1.isSome) && decide ([e].length + ([] : List Keyword).length + (if ([] : List Keyword).isEmpty then 0 else 1) < 30)) = true := by
  rw [star_ord h]; rfl
mutual
theorem plain_of0 : ∀ d : PyData, d.canLay0 = true → d.plain = true
  | .none, _ => rfl
  | .bool _, _ => rfl
  | .int _, _ => rfl
  | .str _, _ => rfl
  | .list xs, h => by rw [PyData.plain]; exact plainAll_of0 xs (by simpa [PyData.canLay0] using h)
  | .tuple xs, h => by rw [PyData.plain]; exact plainAll_of0 xs (by simpa [PyData.canLay0] using h)
  | .dict _, h => by simp [PyData.canLay0] at h
theorem plainAll_of0 : ∀ ds : List PyData, PyData.canLayAll0 ds = true → PyData.plainAll ds = true
  | [], _ => rfl
  | d :: ds, h => by
    simp only [PyData.canLayAll0, Bool.and_eq_true] at h
    rw [PyData.plainAll, plain_of0 d h.1, plainAll_of0 ds h.2]
    rfl
end
theorem snd_mth {mt : Mt} {o e : Expr} {apos cpos : Pos} {ra rb : Env → Tw → R PyData} (C : Ctx X y N sc) (hb : attrOrd o = true) (hl : (apos.endLine == cpos.line) = true) (ho : ordE e = true) (ha : PE X o (tE y true ra)) (hs : PE X e (tE y true rb)) :
    PE X (.Call (.Attribute o (mtName mt) apos) [e] [] cpos) (tE y m fun env t => (ra env t).bind fun x t => match x with
      | .list xs => (rb env t).bind fun d t => R.of (mthD mt xs d) t
      | _ => .bad) := by
  have hu := C.units
  have hp := pa_cons hs pa_nil (star_ord ho)
  have core : ∀ (r2 : V → List V → Hp → VK → Prop), (∀ (env : Env) (t2 : Tw) (σ : St) (H2 : Hp) (O : List Addr) (Q : VK) a v2 xs d2 d, Rel y env t2 σ H2 O → Rv y true O H2 (.ref a) (.list xs) → Rv y true O H2 v2 d2 → mthD mt xs d2 = some d → Kn y m O t2 H2 d Q → r2 (.ref a) [v2] H2 Q) →
      ∀ σ H Q, tE y m (fun env t => (ra env t).bind fun x t => match x with
        | .list xs => (rb env t).bind fun d t => R.of (mthD mt xs d) t
        | _ => .bad) σ H Q → tBM X.K "list" r2 (tE y true ra) (tCons (tE y true rb) tNil) σ H Q := fun r2 hr σ H Q h => by
    obtain ⟨env, t, O, r, h⟩ := h
    refine tE.then r h fun d t1 v H1 e1 g1 r1 rv h1 => ?_
    cases d with
    | list xs =>
      obtain ⟨a, vs, rfl, h1', h2', h3'⟩ := rv.items
      refine ⟨.inl ⟨rfl, vs, SqL.of h1'⟩, ?_⟩
      refine tE.then r1 h1 fun d2 t2 v2 H2 e2 g2 r2 rv2 h2 => ?_
      cases e3 : mthD mt xs d2 with
      | none => rw [e3] at h2; exact h2.elim
      | some d => rw [e3] at h2; exact hr env t2 σ H2 O Q a v2 xs d2 d r2 (rv.after r1 g2) rv2 e3 h2
    | _ => exact h1.elim
  cases mt with
  | lcount =>
    refine PE.imp (pe_bm PySem.F.plainAttrs_list PySem.F.slot_list_count PySem.F.type_list_count (mt_countD (by omega)) ha hp (base_ord hb) (few_ord ho) hl (star_ord ho) rfl) (core _ fun env t2 σ H2 O Q a v2 xs d2 d r2 ra rv2 e3 q => ?_)
    rw [C.K]
    obtain ⟨hp, rfl⟩ := okIf_some e3
    have hp' := hp
    simp only [Bool.and_eq_true] at hp'
    exact ⟨a, v2, d2, xs, rfl, rfl, (ra.full (by simpa [PyData.plain] using hp'.1.2)).dp (by simpa [PyData.plain] using hp'.1.2), (rv2.full hp'.1.1).dp hp'.1.1, hp, q.here r2 (.int _)⟩
  | lindex =>
    refine PE.imp (pe_bm PySem.F.plainAttrs_list PySem.F.slot_list_index PySem.F.type_list_index (mt_indexD (by omega)) ha hp (base_ord hb) (few_ord ho) hl (star_ord ho) rfl) (core _ fun env t2 σ H2 O Q a v2 xs d2 d r2 ra rv2 e3 q => ?_)
    rw [C.K]
    simp only [mthD] at e3
    split at e3
    · rename_i hp
      simp only [Bool.and_eq_true] at hp
      obtain ⟨j, e4, rfl⟩ := Option.map_eq_some_iff.mp e3
      obtain ⟨z, z1, z2, z3⟩ := findD_some e4
      have pl : ∀ d : PyData, SeqAt.shaped d = true → d.plain = true := fun d h => plain_of0 d (SeqAt.canLay_of_shaped h)
      exact ⟨a, v2, d2, xs, j, z, rfl, rfl, (ra.full (pl _ hp.1)).dp (pl _ hp.1), (rv2.full (pl _ hp.2)).dp (pl _ hp.2), hp.1, hp.2, z1, z2, z3, q.here r2 (.int _)⟩
    · cases e3

/-! ### isinstance of a caught refusal -/
def excTyStr (g : Gt) : Ty → Option Str
  | .exc c => g.exc c
  | .ve => some "ValueError"
  | _ => none
def excAll (g : Gt) : Bool := (List.range 9).all fun c => (g.exc c).isSome
theorem Rv.exc {v : V} {i : Int} (h : Rv y true O H v (.dict [(.none, .int i)])) : ∃ (a : Addr) (c : Nat), v = .ref a ∧ (c : Int) = i ∧ H a = some (excAt a (y.z.cls c)) := by
  rcases h with h | ⟨_, a, rfl, p⟩
  · have hf := h.mono hide_sub
    generalize hd : PyData.dict [(PyData.none, PyData.int i)] = d at hf
    cases hf with
    | town => simp [tTown] at hd
    | exc c hc =>
      simp only [tExc, PyData.dict.injEq, List.cons.injEq, Prod.mk.injEq, PyData.int.injEq] at hd
      exact ⟨_, c, rfl, hd.1.2.symm, hc⟩
    | dk => exact (tok_dk hd).elim
    | dt => exact (tok_dt hd).elim
    | _ => cases hd
  · generalize hd : PyData.dict [(PyData.none, PyData.int i)] = d at p
    cases p.is with
    | lst => cases hd
    | dk => exact (tok_dk hd).elim
    | dt => exact (tok_dt hd).elim
def rIsX (K : PySem.W.Frag) : List V → Hp → VK → Prop := fun xs H Q => ∃ (a D : Addr) (c : V) (cv : Value) (b : Bool), xs = [.ref a, c] ∧ H a = some (excAt a D) ∧ ExcC K D ∧ (∀ u, RelV c u → u = cv) ∧ PySem.W.kitOne K (.ref D) cv = some b ∧ Q (.bl b) H
theorem call_isX : CallR X (.builtin "isinstance") (rIsX X.K) := by
  intro pins s σ H xs us Q I r h
  obtain ⟨a, Dd, c, cv, b, rfl, ha, C, hcv, e, q⟩ := h
  cases r with
  | cons rx rr =>
    cases rr with
    | cons rt rr =>
      cases rr
      cases rx
      have ec := hcv _ rt
      subst ec
      obtain ⟨⟨o, vs, h1, h2, h3, h4⟩, _⟩ := I.hok a _ ha
      have J : PySem.W.InstAt s.heap a o Dd none := by
        refine ⟨h1, h2, ?_, ?_⟩
        · unfold PySem.W.notCls
          rw [h4]
        · rw [h3]; trivial
      exact PySem.W.kia_one (PySem.W.handS_kitx_exc C.hg C.hk C.hs C.hd C.ha C.hn C.ht C.hm) I.kIn J e (fun z => nomatch z) fun tk => ⟨.bl b, H, I.kept (t' := tk) fun _ _ z => z, rfl, q⟩
theorem snd_isiX {ty : Ty} {x : Str} {ea : Expr} {p p2 pos : Pos} {ra : Env → Tw → R PyData} (C : Cxx X y N sc g F k) (hs : excTyStr g ty = some x) (hall : excAll g = true) (hg : glB sc "isinstance" = true) (hg2 : glB sc x = true) (ho : ordE ea = true) (ha : PE X ea (tE y true ra)) :
    PE X (.Call (.Name "isinstance" p) [ea, .Name x p2] [] pos) (tE y m fun env t => (ra env t).bind fun x t => R.of ((isiD ty x).map .bool) t) := by
  have hgl : Gl X x := gl_of (by rw [C.scope]; exact hg2)
  have hall' : ∀ c, c < 9 → ∃ x, g.exc c = some x := fun c hc => by
    simp only [excAll, List.all_eq_true] at hall
    exact Option.isSome_iff_exists.mp (hall c (List.mem_range.mpr hc))
  obtain ⟨cv, u, hT, hu, hk⟩ : ∃ (cv : V) (u : Value), PE X (.Name x p2) (tC cv) ∧ (∀ w, RelV cv w → w = u) ∧ ∀ (c : Nat) (b : Bool) (i : Int), (c : Int) = i → isiD ty (.dict [(.none, .int i)]) = some b → (∃ z, g.exc c = some z) ∧ PySem.W.kitOne X.K (.ref (y.z.cls c)) u = some b := by
    cases ty with
    | exc c' =>
      have hs' : g.exc c' = some x := hs
      obtain ⟨m1, m2⟩ := C.exf.mgs c' x hs'
      refine ⟨.ref (y.z.cls c'), .ref (y.z.cls c'), pe_glob hgl m1 rfl m2, fun w r => r, fun c b i e hb => ?_⟩
      simp only [isiD, excIs] at hb
      split at hb
      · rename_i hr
        cases hb
        have hc : c < 9 := by omega
        obtain ⟨z, hz⟩ := hall' c hc
        refine ⟨⟨z, hz⟩, ?_⟩
        rw [C.exf.kit c z c' x hz hs']
        congr 2
        subst e
        simp only [decide_eq_decide]
        omega
      · cases hb
    | ve =>
      cases hs
      refine ⟨.ty "ValueError", .type "ValueError", pe_bltn hgl (C.free "ValueError" (by decide)) (u := .type "ValueError") (by decide +kernel) rfl, fun w r => r, fun c b i e hb => ?_⟩
      simp only [isiD, excIs] at hb
      split at hb
      · rename_i hr
        cases hb
        have hc : c < 9 := by omega
        obtain ⟨z, hz⟩ := hall' c hc
        exact ⟨⟨z, hz⟩, C.exf.ve c z hz⟩
      · cases hb
    | _ => cases hs
  refine PE.imp (PE_CB C.toCtx call_isX (by decide) hg (by decide +kernel) (by rw [List.all_cons, ho]; rfl) (pa_cons ha (pa_cons hT pa_nil) (star_ord ho)) (by decide) (by decide)) fun σ H Q h => ?_
  obtain ⟨env, t, O, r, h⟩ := h
  refine tE.then r h fun d1 t1 v H1 e1 g1 r1 rv1 h1 => ?_
  cases e : isiD ty d1 with
  | none => rw [e] at h1; exact h1.elim
  | some b =>
    rw [e] at h1
    obtain ⟨i, rfl⟩ : ∃ i, d1 = .dict [(.none, .int i)] := by
      have hex : ∃ c, excIs c d1 = some b := by
        cases ty with
        | exc c' => exact ⟨c', e⟩
        | ve => exact ⟨0, e⟩
        | _ => cases hs
      obtain ⟨c, hc⟩ := hex
      unfold excIs at hc
      split at hc
      · exact ⟨_, rfl⟩
      · cases hc
    obtain ⟨a, c, rfl, ec, hc⟩ := rv1.exc
    obtain ⟨⟨z, hz⟩, hk⟩ := hk c b i ec e
    exact ⟨a, _, cv, u, b, rfl, hc, C.exf.is c z hz, hu, hk, h1 _ H1 Grow.refl r1.tw (.inl (.bl b))⟩
end
end Wv

set_option maxHeartbeats 4000000
namespace Wv
open PySem PySem.Spec PyProof.Rows L2 RZ

/-! ### list(zip(t, u)) of two tuples: each pair that was drawn stays out -/
section
variable {prog : Program} {w : World} {A : Around} {E : Value → Shared → Prop} {s : Shared}
/-- what stands of a zip of two tuples at a turn -/
structure ZSt (h : Heap) (z TI TO i1 i2 l1 l2 : Addr) (k : Nat) (xs ys : Array Value) : Prop where
  ti : IsPair h TI (.ref i1) (.ref i2)
  h1 : h.IsTupleIter i1 l1 k
  h2 : h.IsTupleIter i2 l2 k
  t1 : h.IsTuple l1 xs
  t2 : h.IsTuple l2 ys
theorem zt_item_held {z TI TO Tp i1 i2 l1 l2 : Addr} {fl : Bool} {oT : Obj} {k : Nat} {xs ys : Array Value} {x y : Value} {Q : Value → Shared → Prop} (D : ZipApart z TI TO i1 i2 l1 l2)
    (hz : IsZipHeld s.heap z TI TO Tp fl) (hT : s.heap.get? Tp = some oT) (st : ZSt s.heap z TI TO i1 i2 l1 l2 k xs ys) (hx : xs[k]? = some x) (hy : ys[k]? = some y)
    (hQ : ∀ h', IsZipHeld h' z TI TO Tp true → h'.IsTupleIter i1 l1 (k + 1) → h'.IsTupleIter i2 l2 (k + 1) → IsPair h' s.heap.objs.size x y → h'.objs.size = s.heap.objs.size + 1 → (∀ c o, c ≠ z → c ≠ i1 → c ≠ i2 → s.heap.get? c = some o → h'.get? c = some o) → Q (.ref s.heap.objs.size) { s with heap := h' }) :
    wpAny (model prog w) A (Builtin.«zip.__next__» ⟨[.ref z], []⟩) (fun fin s' => ∃ v, fin = .done (.ret v) ∧ Q v s') E s := by
  show wpAny _ _ (field (.ref z) 2 >>= _) _ _ _; refine wpAny_bind (wpAny_field hz rfl (x := .bool false) rfl ?_)
  show wpAny _ _ (field (.ref z) 3 >>= _) _ _ _; refine wpAny_bind (wpAny_field hz rfl (x := .ref TI) rfl (wpAny_bind (wpAny_seqItems st.ti rfl ?_)))
  show wpAny _ _ (Builtin.SmallTypes.ownedTupleIsFree (.ref z) >>= _) _ _ _; refine wpAny_bind (wpAny_tupleHeld_zip hz hT fun g1 z1 e1 => ?_)
  simp only [Bool.false_eq_true, if_false]; refine wpAny_bind ?_
  rw [← Array.forIn_toList]; simp only [List.forIn_cons, List.forIn_nil]
  refine wpAny_bind (wpAny_bind (wpAny_holding ?_)); show wpAny _ _ (Builtin.SmallTypes.nextOf (.ref i1) >>= _) _ _ _
  refine wpAny_bind (nextOf_tuple_item (s := { s with heap := g1 }) (st.h1.extBut e1.extBut D.i1z) (st.t1.extBut e1.extBut D.l1z) hx fun g2 j1 e2 => wpAny_pure (wpAny_pure ?_))
  refine wpAny_bind (wpAny_bind (wpAny_holding ?_)); show wpAny _ _ (Builtin.SmallTypes.nextOf (.ref i2) >>= _) _ _ _
  refine wpAny_bind (nextOf_tuple_item (s := { s with heap := g2 }) ((st.h2.extBut e1.extBut D.i2z).extBut e2.extBut D.i12.symm) ((st.t2.extBut e1.extBut D.l2z).extBut e2.extBut D.l2i1) hy fun g3 j2 e3 => wpAny_pure (wpAny_pure (wpAny_pure ?_)))
  show wpAny _ _ (newTuple [x, y] >>= _) _ _ _; refine wpAny_bind (wpAny_newTuple ?_)
  have sz : g3.objs.size = s.heap.objs.size := by rw [e3.1, e2.1, e1.1]
  have z3 : IsZipHeld g3 z TI TO Tp true := e3.extBut _ _ D.i2z.symm (e2.extBut _ _ D.i1z.symm z1)
  have kp : ∀ c o, c ≠ z → c ≠ i1 → c ≠ i2 → s.heap.get? c = some o → g3.get? c = some o := fun c o c1 c2 c3 e => e3.extBut _ _ c3 (e2.extBut _ _ c2 (e1.extBut _ _ c1 e))
  have j3 : g3.IsTupleIter i1 l1 (k + 1) := j1.extBut e3.extBut D.i12
  refine wpAny_pure ⟨_, rfl, ?_⟩; show Q (.ref g3.objs.size) _
  have pr : IsPair (g3.push { cls := .type "tuple", data := .seq #[x, y] }) g3.objs.size x y := Heap.get?_push_size _ rfl
  have s4 : (g3.push { cls := .type "tuple", data := .seq #[x, y] }).objs.size = g3.objs.size + 1 := Heap.size_push ..
  rw [sz] at pr s4 ⊢
  exact hQ _ (Heap.get?_push_of_some _ z3) (j3.at fun o e => Heap.get?_push_of_some _ e) (j2.at fun o e => Heap.get?_push_of_some _ e) pr s4 fun c o c1 c2 c3 e => Heap.get?_push_of_some _ (kp c o c1 c2 c3 e)
theorem zt_end_held {z TI TO Tp i1 i2 l1 l2 : Addr} {fl : Bool} {oT : Obj} {k : Nat} {xs ys : Array Value} {Q : PySem.Fin → Shared → Prop} (hh : A.handled = none) (D : ZipApart z TI TO i1 i2 l1 l2)
    (hz : IsZipHeld s.heap z TI TO Tp fl) (hT : s.heap.get? Tp = some oT) (st : ZSt s.heap z TI TO i1 i2 l1 l2 k xs ys) (hx : xs[k]? = none)
    (hE : ∀ h' e, (∀ c o, c ≠ z → c ≠ i1 → c ≠ i2 → s.heap.get? c = some o → h'.get? c = some o) → (∃ o, h'.get? e = some o ∧ o.cls = .type "StopIteration") → E (.ref e) { s with heap := h' }) :
    wpAny (model prog w) A (Builtin.«zip.__next__» ⟨[.ref z], []⟩) Q E s := by
  show wpAny _ _ (field (.ref z) 2 >>= _) _ _ _; refine wpAny_bind (wpAny_field hz rfl (x := .bool false) rfl ?_)
  show wpAny _ _ (field (.ref z) 3 >>= _) _ _ _; refine wpAny_bind (wpAny_field hz rfl (x := .ref TI) rfl (wpAny_bind (wpAny_seqItems st.ti rfl ?_)))
  show wpAny _ _ (Builtin.SmallTypes.ownedTupleIsFree (.ref z) >>= _) _ _ _; refine wpAny_bind (wpAny_tupleHeld_zip hz hT fun g1 z1 e1 => ?_)
  simp only [Bool.false_eq_true, if_false]; refine wpAny_bind ?_
  rw [← Array.forIn_toList]; simp only [List.forIn_cons, List.forIn_nil]
  refine wpAny_bind (wpAny_bind (wpAny_holding ?_)); show wpAny _ _ (Builtin.SmallTypes.nextOf (.ref i1) >>= _) _ _ _
  exact wpAny_bind (nextOf_tuple_end (s := { s with heap := g1 }) hh (st.h1.extBut e1.extBut D.i1z) (st.t1.extBut e1.extBut D.l1z) hx fun g2 e e2 he => hE g2 e (fun c o c1 c2 _ q => e2 _ _ c2 (e1.extBut _ _ c1 q)) he)
theorem zt_next_item {z TI TO Tp i1 i2 l1 l2 : Addr} {fl : Bool} {oT : Obj} {k : Nat} {xs ys : Array Value} {x y : Value} {Q : Option Value → Shared → Prop} (D : ZipApart z TI TO i1 i2 l1 l2)
    (hz : IsZipHeld s.heap z TI TO Tp fl) (hT : s.heap.get? Tp = some oT) (st : ZSt s.heap z TI TO i1 i2 l1 l2 k xs ys) (hx : xs[k]? = some x) (hy : ys[k]? = some y)
    (hQ : ∀ h', IsZipHeld h' z TI TO Tp true → h'.IsTupleIter i1 l1 (k + 1) → h'.IsTupleIter i2 l2 (k + 1) → IsPair h' s.heap.objs.size x y → h'.objs.size = s.heap.objs.size + 1 → (∀ c o, c ≠ z → c ≠ i1 → c ≠ i2 → s.heap.get? c = some o → h'.get? c = some o) → Q (some (.ref s.heap.objs.size)) { s with heap := h' }) :
    wpAny (model prog w) A (pyNext (.ref z)) Q E s := by
  have ty : s.TypeIs (.ref z) "zip" := ⟨_, hz, rfl⟩
  unfold pyNext
  exact wpAny_bind (wpAny_attempt (wpAny_callSpecial?_slot (name := Str.ofString "__next__") ty F.slot_zip_next (wpAny_call_entry F.slot_zip_next ty F.entry_zip_next (zt_item_held D hz hT st hx hy fun h' a1 a3 a4 a5 a6 a7 => wpAny_pure (hQ h' a1 a3 a4 a5 a6 a7)) (F.args_zip_next_1 _))))
theorem zt_next_end {z TI TO Tp i1 i2 l1 l2 : Addr} {fl : Bool} {oT : Obj} {k : Nat} {xs ys : Array Value} {Q : Option Value → Shared → Prop} (hh : A.handled = none) (D : ZipApart z TI TO i1 i2 l1 l2)
    (hz : IsZipHeld s.heap z TI TO Tp fl) (hT : s.heap.get? Tp = some oT) (st : ZSt s.heap z TI TO i1 i2 l1 l2 k xs ys) (hx : xs[k]? = none)
    (hQ : ∀ h', (∀ c o, c ≠ z → c ≠ i1 → c ≠ i2 → s.heap.get? c = some o → h'.get? c = some o) → Q none { s with heap := h' }) : wpAny (model prog w) A (pyNext (.ref z)) Q E s := by
  have ty : s.TypeIs (.ref z) "zip" := ⟨_, hz, rfl⟩
  unfold pyNext
  refine wpAny_bind (wpAny_attempt (wpAny_callSpecial?_slot (name := Str.ofString "__next__") ty F.slot_zip_next (wpAny_call_entry F.slot_zip_next ty F.entry_zip_next (zt_end_held hh D hz hT st hx fun h' e hk he => ?_) (F.args_zip_next_1 _))))
  obtain ⟨o, ho, hc⟩ := he
  exact wpAny_bind (wpAny_isInstance (T := "StopIteration") (b := true) ⟨o, ho, hc⟩ isSubtype_stop (wpAny_pure (hQ _ hk)))
end

/-- the pairs drawn so far, each where it was made -/
def PrsAt (h : Heap) (N : Nat) (acc : Array Value) (xs ys : Array Value) (i : Nat) : Prop := acc.size = i ∧ acc.toList.Nodup ∧ ∀ (j : Nat) (v : Value), acc[j]? = some v → ∃ (a : Addr) (x y : Value), v = Value.ref a ∧ N ≤ a ∧ xs[j]? = some x ∧ ys[j]? = some y ∧ IsPair h a x y
theorem PrsAt.keep {h h' : Heap} {N : Nat} {acc xs ys : Array Value} {i : Nat} (p : PrsAt h N acc xs ys i) (k : ∀ c o, N ≤ c → h.get? c = some o → h'.get? c = some o) : PrsAt h' N acc xs ys i :=
  ⟨p.1, p.2.1, fun j v e => by
    obtain ⟨a, x, y, q1, q2, q3, q4, q5⟩ := p.2.2 j v e
    exact ⟨a, x, y, q1, q2, q3, q4, k a _ q2 q5⟩⟩
theorem PrsAt.push {h : Heap} {N : Nat} {acc xs ys : Array Value} {i : Nat} {a : Addr} {x y : Value} (p : PrsAt h N acc xs ys i) (hnew : Value.ref a ∉ acc.toList) (ha : N ≤ a) (hx : xs[i]? = some x) (hy : ys[i]? = some y) (hp : IsPair h a x y) : PrsAt h N (acc.push (Value.ref a)) xs ys (i + 1) := by
  refine ⟨by rw [Array.size_push, p.1], ?_, fun j v e => ?_⟩
  · rw [Array.toList_push, List.nodup_append]
    exact ⟨p.2.1, by simp, fun b hb c hc => by simp at hc; rw [hc]; exact fun z => hnew (z ▸ hb)⟩
  rw [Array.getElem?_push] at e
  split at e
  · rename_i q
    rw [p.1] at q
    cases e
    exact ⟨a, x, y, rfl, ha, by rw [q]; exact hx, by rw [q]; exact hy, hp⟩
  · exact p.2.2 j v e
theorem PrsAt.fresh {h : Heap} {N : Nat} {acc xs ys : Array Value} {i : Nat} (p : PrsAt h N acc xs ys i) : Value.ref h.objs.size ∉ acc.toList := fun q => by
  obtain ⟨j, hj⟩ := List.getElem?_of_mem q
  obtain ⟨a, x, y, e, _, _, _, hp⟩ := p.2.2 j _ (by simpa using hj)
  cases e
  exact absurd (Heap.lt_size hp) (Nat.lt_irrefl _)
abbrev LstAt (h : Heap) (S : Addr) (acc : Array Value) (c : Nat) : Prop := h.get? S = some { cls := .type "list", dict := none, data := .seq acc c, slots := #[] }
section
variable {prog : Program} {w : World} {A : Around} {R : Result → Shared → Prop}
/-- the loop, a pair being out -/
theorem zt_loop {z TI TO i1 i2 l1 l2 S : Addr} {xs ys : Array Value} {N : Nat} {res : Value} (hh : A.handled = none) (D : ZipApart z TI TO i1 i2 l1 l2) (hsz : xs.size = ys.size) (hn : xs.size ≤ sizeLine)
    (b1 : z < N) (b2 : TI < N) (b3 : i1 < N) (b4 : i2 < N) (b5 : l1 < N) (b6 : l2 < N) (b7 : S < N) (n1 : S ≠ z) (n2 : S ≠ TI) (n3 : S ≠ i1) (n4 : S ≠ i2) (n5 : S ≠ l1) (n6 : S ≠ l2) :
    ∀ (k i : Nat) (s : Shared) (acc : Array Value) (c : Nat) (Tp : Addr) (fl : Bool), xs.size - i = k → i ≤ xs.size → N ≤ s.heap.objs.size → N ≤ Tp → (∃ oT, s.heap.get? Tp = some oT) → IsZipHeld s.heap z TI TO Tp fl → ZSt s.heap z TI TO i1 i2 l1 l2 i xs ys → LstAt s.heap S acc c → PrsAt s.heap N acc xs ys i →
    (∀ h' acc' c', (∀ b o, b ≠ S → b ≠ z → b ≠ i1 → b ≠ i2 → s.heap.get? b = some o → h'.get? b = some o) → LstAt h' S acc' c' → PrsAt h' N acc' xs ys xs.size → R (.ok (.ret res)) { s with heap := h' }) →
    codeAny (model prog w) A (.builtin "list.extend.loop" ⟨[.ref S, .ref z, res], []⟩) R s := by
  have ge : ∀ {a b : Addr}, a < N → N ≤ b → b ≠ a := fun h1 h2 => Nat.ne_of_gt (Nat.lt_of_lt_of_le h1 h2)
  intro k
  induction k with
  | zero =>
    intro i s acc c Tp fl hk hi hN hTN hT hz st hS hp hR
    obtain ⟨oT, hT⟩ := hT
    have hin : i = xs.size := by omega
    refine codeAny_builtin F.entry_extend_loop ?_; rw [Around.under_plainId F.plain_extend_loop _]
    show wpAny _ A.in1 (pyNext (.ref z) >>= _) _ _ s
    refine wpAny_bind (zt_next_end (A := A.in1) hh D hz hT st (by rw [hin]; simp) fun h' kp => wpAny_pure ?_)
    refine hR h' acc c (fun b o c0 c1 c2 c3 e => kp b o c1 c2 c3 e) (kp _ _ n1 n3 n4 hS) ?_
    rw [← hin]; exact hp.keep fun b o q e => kp b o (ge b1 q) (ge b3 q) (ge b4 q) e
  | succ k ih =>
    intro i s acc c Tp fl hk hi hN hTN hT hz st hS hp hR
    obtain ⟨oT, hT⟩ := hT
    have hlt : i < xs.size := by omega
    obtain ⟨x, hx⟩ : ∃ x, xs[i]? = some x := ⟨xs[i], by simp [hlt]⟩
    obtain ⟨y, hy⟩ : ∃ y, ys[i]? = some y := ⟨ys[i]'(by omega), by simp⟩
    refine codeAny_builtin F.entry_extend_loop ?_; rw [Around.under_plainId F.plain_extend_loop _]
    show wpAny _ A.in1 (pyNext (.ref z) >>= _) _ _ s
    refine wpAny_bind (zt_next_item (A := A.in1) D hz hT st hx hy fun h' z' j1 j2 pr sz kp => ?_)
    have hS' := kp _ _ n1 n3 n4 hS
    show wpAny _ A.in1 (updateSeq S (·.push (.ref s.heap.objs.size)) >>= _) _ _ _
    have oth : ∀ b o, b ≠ S → h'.get? b = some o → (h'.update S (Obj.mapSeq (·.push (.ref s.heap.objs.size)))).get? b = some o := fun b o hb e => (Heap.get?_update_other _ _ (Ne.symm hb)).trans e
    have fut : ∀ b o, b ≠ S → b ≠ z → b ≠ i1 → b ≠ i2 → s.heap.get? b = some o → (h'.update S (Obj.mapSeq (·.push (.ref s.heap.objs.size)))).get? b = some o := fun b o c0 c1 c2 c3 e => oth b o c0 (kp b o c1 c2 c3 e)
    refine wpAny_bind (wpAny_updateSeq hS' rfl (wpAny_pure ⟨plainId_quiet F.plain_extend_loop _, ih (i + 1) _ (acc.push (.ref s.heap.objs.size)) _ Tp true (by omega) hlt ?_ hTN ⟨oT, fut _ _ (ge b7 hTN) (ge b1 hTN) (ge b3 hTN) (ge b4 hTN) hT⟩ (oth _ _ n1.symm z') ⟨?_, ?_, ?_, ?_, ?_⟩ (Heap.get?_update_self _ hS' rfl) ?_ fun h2 acc' c' kp2 l2 p2 => ?_⟩)
      (by rw [hp.1]; omega) (by show (acc.push _).size ≤ sizeLine + 1; rw [Array.size_push, hp.1]; omega))
    · show N ≤ (h'.update S _).objs.size
      rw [Heap.size_update, sz]; omega
    · exact fut _ _ n2.symm D.TIz D.TIi1 D.TIi2 st.ti
    · exact j1.at fun o e => oth _ o n3.symm e
    · exact j2.at fun o e => oth _ o n4.symm e
    · exact st.t1.at fun o e => fut _ o n5.symm D.l1z D.l1i1 D.l1i2 e
    · exact st.t2.at fun o e => fut _ o n6.symm D.l2z D.l2i1 D.l2i2 e
    · refine PrsAt.push ?_ hp.fresh hN hx hy (oth _ _ (ge b7 hN) pr)
      exact hp.keep fun b o q e => fut b o (ge b7 q) (ge b1 q) (ge b3 q) (ge b4 q) e
    · exact hR h2 acc' c' (fun b o c0 c1 c2 c3 e => kp2 b o c0 c1 c2 c3 (fut b o c0 c1 c2 c3 e)) l2 p2
end
section
variable {prog : Program} {w : World} {A : Around} {R : Result → Shared → Prop} {s : Shared}
/-- the loop from the start on -/
theorem zt_first {z TI TO i1 i2 l1 l2 S : Addr} {xs ys : Array Value} {res a0 b0 : Value} {c : Nat} (hh : A.handled = none) (D : ZipApart z TI TO i1 i2 l1 l2) (hsz : xs.size = ys.size) (hn : xs.size ≤ sizeLine)
    (n1 : S ≠ z) (n2 : S ≠ TI) (n3 : S ≠ i1) (n4 : S ≠ i2) (n5 : S ≠ l1) (n6 : S ≠ l2) (n7 : S ≠ TO) (hz : IsZip s.heap z TI TO .none) (st : ZSt s.heap z TI TO i1 i2 l1 l2 0 xs ys) (hTO : IsPair s.heap TO a0 b0) (hS : LstAt s.heap S #[] c)
    (hR : ∀ h' acc' c', (∀ b o, b ≠ S → b ≠ z → b ≠ TO → b ≠ i1 → b ≠ i2 → s.heap.get? b = some o → h'.get? b = some o) → LstAt h' S acc' c' → PrsAt h' s.heap.objs.size acc' xs ys xs.size → R (.ok (.ret res)) { s with heap := h' }) :
    codeAny (model prog w) A (.builtin "list.extend.loop" ⟨[.ref S, .ref z, res], []⟩) R s := by
  refine codeAny_builtin F.entry_extend_loop ?_; rw [Around.under_plainId F.plain_extend_loop _]
  show wpAny _ A.in1 (pyNext (.ref z) >>= _) _ _ s
  by_cases h0 : xs.size = 0
  · refine wpAny_bind (pyNext_zipT_end (A := A.in1) hh D hz st.ti hTO st.h1 st.h2 st.t1 st.t2 (.inl (by simp [h0])) fun h' kp => wpAny_pure ?_)
    refine hR h' #[] c (fun b o _ c1 c2 c3 c4 e => kp b o c1 c2 c3 c4 e) (kp _ _ n1 n7 n3 n4 hS) ⟨h0.symm, by simp, fun j v e => by simp at e⟩
  · obtain ⟨x, hx⟩ : ∃ x, xs[0]? = some x := ⟨xs[0]'(by omega), by simp⟩
    obtain ⟨y, hy⟩ : ∃ y, ys[0]? = some y := ⟨ys[0]'(by omega), by simp⟩
    refine wpAny_bind (pyNext_zipT_item (A := A.in1) D hz st.ti hTO st.h1 st.h2 st.t1 st.t2 hx hy fun h' z' TO' j1 j2 pr sz kp => ?_)
    have hS' := kp _ _ n1 n7 n3 n4 hS
    show wpAny _ A.in1 (updateSeq S (·.push (.ref s.heap.objs.size)) >>= _) _ _ _
    have oth : ∀ b o, b ≠ S → h'.get? b = some o → (h'.update S (Obj.mapSeq (·.push (.ref s.heap.objs.size)))).get? b = some o := fun b o hb e => (Heap.get?_update_other _ _ (Ne.symm hb)).trans e
    have fut : ∀ b o, b ≠ S → b ≠ z → b ≠ TO → b ≠ i1 → b ≠ i2 → s.heap.get? b = some o → (h'.update S (Obj.mapSeq (·.push (.ref s.heap.objs.size)))).get? b = some o := fun b o c0 c1 c2 c3 c4 e => oth b o c0 (kp b o c1 c2 c3 c4 e)
    have lS := Heap.lt_size hS
    have lz := Heap.lt_size hz
    have lTI := Heap.lt_size st.ti
    have lTO := Heap.lt_size hTO
    have li1 : i1 < s.heap.objs.size := by obtain ⟨_, e, _⟩ := st.h1; exact Heap.lt_size e
    have li2 : i2 < s.heap.objs.size := by obtain ⟨_, e, _⟩ := st.h2; exact Heap.lt_size e
    have ll1 : l1 < s.heap.objs.size := by obtain ⟨_, e, _⟩ := id st.t1; exact Heap.lt_size e
    have ll2 : l2 < s.heap.objs.size := by obtain ⟨_, e, _⟩ := id st.t2; exact Heap.lt_size e
    have nS : s.heap.objs.size ≠ S := Nat.ne_of_gt lS
    refine wpAny_bind (wpAny_updateSeq hS' rfl (wpAny_pure ⟨plainId_quiet F.plain_extend_loop _, zt_loop (N := s.heap.objs.size) hh D hsz hn lz lTI li1 li2 ll1 ll2 lS n1 n2 n3 n4 n5 n6 (xs.size - 1) 1 _ (#[].push (.ref s.heap.objs.size)) _ s.heap.objs.size false rfl (by omega) ?_ (Nat.le_refl _) ⟨_, oth _ _ nS pr⟩ (oth _ _ n1.symm z') ⟨?_, ?_, ?_, ?_, ?_⟩ (Heap.get?_update_self _ hS' rfl) ?_ fun h2 acc' c' kp2 l2 p2 => ?_⟩)
      (by simp) (by show (Array.push #[] _).size ≤ sizeLine + 1; simp))
    · show s.heap.objs.size ≤ (h'.update S _).objs.size
      rw [Heap.size_update, sz]; omega
    · exact fut _ _ n2.symm D.TIz D.TITO D.TIi1 D.TIi2 st.ti
    · exact j1.at fun o e => oth _ o n3.symm e
    · exact j2.at fun o e => oth _ o n4.symm e
    · exact st.t1.at fun o e => fut _ o n5.symm D.l1z D.l1TO D.l1i1 D.l1i2 e
    · exact st.t2.at fun o e => fut _ o n6.symm D.l2z D.l2TO D.l2i1 D.l2i2 e
    · exact PrsAt.push ⟨rfl, by simp, fun j v e => by simp at e⟩ (by simp) (Nat.le_refl _) hx hy (oth _ _ nS pr)
    · exact hR h2 acc' c' (fun b o c0 c1 c2 c3 c4 e => kp2 b o c0 c1 c3 c4 (fut b o c0 c1 c2 c3 c4 e)) l2 p2
theorem zip_nolen : typeLookup (.type "zip") "__len__" = pure none := by rw [typeLookup_type, builtinLookup_eq_fast]; kernel_rfl
theorem zip_nohint : typeLookup (.type "zip") "__length_hint__" = pure none := by rw [typeLookup_type, builtinLookup_eq_fast]; kernel_rfl
theorem zt_init {z TI TO i1 i2 l1 l2 S : Addr} {xs ys : Array Value} {a0 b0 : Value} (hh : A.handled = none) (D : ZipApart z TI TO i1 i2 l1 l2) (hsz : xs.size = ys.size) (hn : xs.size ≤ sizeLine)
    (n1 : S ≠ z) (n2 : S ≠ TI) (n3 : S ≠ i1) (n4 : S ≠ i2) (n5 : S ≠ l1) (n6 : S ≠ l2) (n7 : S ≠ TO) (hz : IsZip s.heap z TI TO .none) (st : ZSt s.heap z TI TO i1 i2 l1 l2 0 xs ys) (hTO : IsPair s.heap TO a0 b0) (hS : LstAt s.heap S #[] 0)
    (hR : ∀ h' acc' c', (∀ b o, b ≠ S → b ≠ z → b ≠ TO → b ≠ i1 → b ≠ i2 → s.heap.get? b = some o → h'.get? b = some o) → LstAt h' S acc' c' → PrsAt h' s.heap.objs.size acc' xs ys xs.size → R (.ok (.ret .none)) { s with heap := h' }) :
    wpAny (model prog w) A.in1 (Builtin.«list.__init__» ⟨[.ref S, .ref z], []⟩) (fun fin s' => match fin with | .done f => R (.ok f) s' | .again c' => c'.quiet = true ∧ codeAny (model prog w) A c' R s') (fun e s' => R (.error e) s') s := by
  show wpAny _ A.in1 (do let old ← Builtin.List.listItems (.ref S); Builtin.List.listUpdate (.ref S) (fun _ => #[]); letGo old.toList.reverse; Builtin.List.listExtendWith (.ref S) (.ref z) .none) _ _ s
  refine wpAny_bind ?_; unfold Builtin.List.listItems; refine wpAny_bind (wpAny_seqItems hS rfl (wpAny_pure ?_))
  show wpAny _ A.in1 (updateSeq S (fun _ => #[]) >>= fun _ => letGo (#[] : Array Value).toList.reverse >>= fun _ => Builtin.List.listExtendWith (.ref S) (.ref z) .none) _ _ s
  refine wpAny_bind (wpAny_updateSeq hS rfl (wpAny_bind (wpAny_letGo ?_)))
  have hS2 := Heap.get?_update_self (Obj.mapSeq (fun _ => (#[] : Array Value))) hS rfl
  have oth : ∀ b o, b ≠ S → s.heap.get? b = some o → (s.heap.update S (Obj.mapSeq (fun _ => (#[] : Array Value)))).get? b = some o := fun b o hb e => (Heap.get?_update_other _ _ (Ne.symm hb)).trans e
  have hz2 : IsZip (s.heap.update S (Obj.mapSeq (fun _ => (#[] : Array Value)))) z TI TO .none := oth _ _ n1.symm hz
  have ty : ({ s with heap := s.heap.update S (Obj.mapSeq (fun _ => (#[] : Array Value))) } : Shared).TypeIs (.ref z) "zip" := ⟨_, hz2, rfl⟩
  unfold Builtin.List.listExtendWith
  refine wpAny_bind (wpAny_typeOf ty ?_)
  have e1 : Builtin.List.listSameRef (.ref S) (.ref z) = false := by simp [Builtin.List.listSameRef, n1]
  have e2 : (Value.type "zip" == Value.type "list") = false := by decide
  have e3 : (Value.type "zip" == Value.type "tuple") = false := by decide
  simp only [e1, e2, e3, Bool.or_false, Bool.false_eq_true, if_false]
  refine wpAny_bind (wpAny_pyIter_zip (s := { s with heap := s.heap.update S (Obj.mapSeq (fun _ => (#[] : Array Value))) }) hz2 (wpAny_bind (wpAny_holding ?_)))
  unfold Builtin.List.listLengthHint
  refine wpAny_bind (wpAny_specialOf ty zip_nolen ?_)
  show wpAny _ A.in1 (specialOf (Value.ref z) (Str.ofString "__length_hint__") >>= _) _ _ _
  refine wpAny_bind (wpAny_specialOf ty zip_nohint (wpAny_pure ?_))
  show wpAny _ A.in1 (rule "list.extend.makes-room" >>= fun _ => (updateSeq S (·.push .none) >>= fun _ => updateSeq S (·.pop)) >>= fun _ => again (.builtin "list.extend.loop" ⟨[.ref S, .ref z, .none], []⟩)) _ _ _
  refine wpAny_bind (wpAny_rule (wpAny_bind (wpAny_bind (wpAny_updateSeq hS2 rfl ?_))))
  have hS3 := Heap.get?_update_self (Obj.mapSeq (·.push Value.none)) hS2 rfl
  refine wpAny_updateSeq (hz := by seq_fits) hS3 rfl ?_
  have hS4 := Heap.get?_update_self (Obj.mapSeq (·.pop)) hS3 rfl
  have oth4 : ∀ b o, b ≠ S → s.heap.get? b = some o → (((s.heap.update S (Obj.mapSeq (fun _ => (#[] : Array Value)))).update S (Obj.mapSeq (·.push Value.none))).update S (Obj.mapSeq (·.pop))).get? b = some o :=
    fun b o hb e => (Heap.get?_update_other _ _ (Ne.symm hb)).trans ((Heap.get?_update_other _ _ (Ne.symm hb)).trans (oth b o hb e))
  have sz4 : (((s.heap.update S (Obj.mapSeq (fun _ => (#[] : Array Value)))).update S (Obj.mapSeq (·.push Value.none))).update S (Obj.mapSeq (·.pop))).objs.size = s.heap.objs.size := by rw [Heap.size_update, Heap.size_update, Heap.size_update]
  refine wpAny_pure ⟨plainId_quiet F.plain_extend_loop _, zt_first hh D hsz hn n1 n2 n3 n4 n5 n6 n7 (oth4 _ _ n1.symm hz) ⟨oth4 _ _ n2.symm st.ti, st.h1.at fun o e => oth4 _ o n3.symm e, st.h2.at fun o e => oth4 _ o n4.symm e, st.t1.at fun o e => oth4 _ o n5.symm e, st.t2.at fun o e => oth4 _ o n6.symm e⟩ (oth4 _ _ n7.symm hTO) hS4 fun h' acc' c' kp l p => hR h' acc' c' (fun b o c0 c1 c2 c3 c4 e => kp b o c0 c1 c2 c3 c4 (oth4 b o c0 e)) l ?_⟩
  have p' := p
  rw [show ({ s with heap := ((s.heap.update S (Obj.mapSeq (fun _ => (#[] : Array Value)))).update S (Obj.mapSeq (·.push Value.none))).update S (Obj.mapSeq (·.pop)) } : Shared).heap.objs.size = s.heap.objs.size from sz4] at p'
  exact p'
end
section
variable {prog : Program} {w : World} {A : Around} {E : Value → Shared → Prop} {s : Shared}
theorem call_list_zip {z TI TO i1 i2 l1 l2 : Addr} {xs ys : Array Value} {a0 b0 : Value} {Q : Value → Shared → Prop} (hh : A.handled = none) (D : ZipApart z TI TO i1 i2 l1 l2) (hsz : xs.size = ys.size) (hn : xs.size ≤ sizeLine)
    (hz : IsZip s.heap z TI TO .none) (st : ZSt s.heap z TI TO i1 i2 l1 l2 0 xs ys) (hTO : IsPair s.heap TO a0 b0)
    (hQ : ∀ h' acc' c', (∀ b o, b ≠ z → b ≠ TO → b ≠ i1 → b ≠ i2 → s.heap.get? b = some o → h'.get? b = some o) → LstAt h' s.heap.objs.size acc' c' → PrsAt h' (s.heap.objs.size + 1) acc' xs ys xs.size → Q (.ref s.heap.objs.size) { s with heap := h' }) :
    wpAny (model prog w) A (call (.type "list") [.ref z]) Q E s := by
  refine callType_codes (Q₁ := fun obj s₁ => obj = .ref s.heap.objs.size ∧ s₁ = { s with heap := s.heap.push { cls := .type "list", data := .seq #[] } }) F.called_list (F.typeCall_list_1 _) F.entry_list_init (code_list_new _ ⟨rfl, rfl⟩) fun obj s₁ h₁ => ?_
  obtain ⟨rfl, rfl⟩ := h₁
  have hS : (s.heap.push { cls := .type "list", data := .seq #[] }).get? s.heap.objs.size = some { cls := .type "list", data := .seq #[] } := Heap.get?_push_size _ rfl
  have up : ∀ b o, s.heap.get? b = some o → (s.heap.push { cls := .type "list", data := .seq #[] }).get? b = some o := fun b o e => Heap.get?_push_of_some _ e
  have li1 : i1 < s.heap.objs.size := by obtain ⟨_, e, _⟩ := st.h1; exact Heap.lt_size e
  have li2 : i2 < s.heap.objs.size := by obtain ⟨_, e, _⟩ := st.h2; exact Heap.lt_size e
  have ll1 : l1 < s.heap.objs.size := by obtain ⟨_, e, _⟩ := id st.t1; exact Heap.lt_size e
  have ll2 : l2 < s.heap.objs.size := by obtain ⟨_, e, _⟩ := id st.t2; exact Heap.lt_size e
  refine ⟨⟨_, hS, rfl⟩, F.args_list_init_2 _ _, zt_init (A := A.in1) hh D hsz hn (Nat.ne_of_gt (Heap.lt_size hz)) (Nat.ne_of_gt (Heap.lt_size st.ti)) (Nat.ne_of_gt li1) (Nat.ne_of_gt li2) (Nat.ne_of_gt ll1) (Nat.ne_of_gt ll2) (Nat.ne_of_gt (Heap.lt_size hTO)) (up _ _ hz) ⟨up _ _ st.ti, st.h1.at fun o e => up _ o e, st.h2.at fun o e => up _ o e, st.t1.at fun o e => up _ o e, st.t2.at fun o e => up _ o e⟩ (up _ _ hTO) hS fun h' acc' c' kp l p => ?_⟩
  refine ⟨rfl, hQ h' acc' c' (fun b o c1 c2 c3 c4 e => kp b o (Nat.ne_of_lt (Heap.lt_size e)) c1 c2 c3 c4 (up b o e)) l ?_⟩
  have p' := p
  rw [show ({ s with heap := s.heap.push { cls := .type "list", data := .seq #[] } } : Shared).heap.objs.size = s.heap.objs.size + 1 from Heap.size_push ..] at p'
  exact p'
end
/-! ### in the hand layer -/
section
variable {X : Cx} {pins : List (Addr × Obj)} {σ : L2.St} {H H' : Hp} {s : Shared} {h' : Heap}
/-- several new objects are tracked at once -/
theorem inv_many {t' : Nat} (I : L2.Inv X pins σ H s) (k : ∀ b o, s.heap.get? b = some o → h'.get? b = some o) (ext : ∀ b u, H b = some u → H' b = some u) (new : ∀ b u, H' b = some u → H b = none → s.heap.objs.size ≤ b ∧ ObjOk X.prog X.w H' h' b u) : L2.Inv X pins σ H' { s with heap := h', toks := t' } := by
  refine I.step (g' := s.gens) (d' := s.drawn) (ch := []) (fun b hb => by cases hb) (fun b o _ _ _ e _ => k b o e) (fun b o _ _ _ e _ => ⟨o.slots, k b o e⟩) (fun b o _ e n => ?_) (fun b o _ e => ⟨o, k b o e⟩) (fun b xs e => ext _ _ e) (fun b o u e => ext _ _ e) (fun b ps e => ⟨#[], ?_⟩) (fun m hm => ?_) (fun b u e => ?_) I.bare
  · cases q : H' b with
    | none => rfl
    | some u => exact absurd (new b u q n).1 (Nat.not_le_of_lt (Heap.lt_size e))
  · rw [ext _ _ e]; simp
  · obtain ⟨o, es, ep, ho, r⟩ := hm
    exact ⟨o, es, ep, k _ o ho, r⟩
  · cases q : H b with
    | none => exact (new b u e q).2
    | some u' =>
      have := ext _ _ q
      rw [this] at e
      cases e
      exact (I.hok b _ q).stay (fun c v _ z => k c v z) (fun c z => ext _ _ z) fun c xs z => ext _ _ z
theorem refs_of : ∀ {l : List Value}, (∀ v ∈ l, ∃ a, v = Value.ref a) → ∃ as : List Addr, l = as.map Value.ref
  | [], _ => ⟨[], rfl⟩
  | v :: l, h => by
    obtain ⟨a, rfl⟩ := h v (by simp)
    obtain ⟨as, rfl⟩ := refs_of (l := l) fun v hv => h v (by simp [hv])
    exact ⟨a :: as, rfl⟩
theorem refs_vals : ∀ as : List Addr, Vals (as.map V.ref) (as.map Value.ref)
  | [] => .nil
  | a :: as => .cons rfl (refs_vals as)
/-- where pairs stand -/
def prsH (H : Hp) : List Addr → List V → List V → Hp
  | a :: as, x :: xs, y :: ys => upd (prsH H as xs ys) a (.tup [x, y])
  | _, _, _ => H
theorem prsH_out {H : Hp} : ∀ {as : List Addr} {xs ys : List V} {b : Addr}, b ∉ as → prsH H as xs ys b = H b
  | [], _, _, _, _ => by simp [prsH]
  | a :: as, [], _, b, h => by simp [prsH]
  | a :: as, _ :: _, [], b, h => by simp [prsH]
  | a :: as, x :: xs, y :: ys, b, h => by
    simp only [List.mem_cons, not_or] at h
    rw [prsH, upd_ne h.1, prsH_out h.2]
theorem prsH_in {H : Hp} : ∀ {as : List Addr} {xs ys : List V} {j : Nat} {a : Addr} {x y : V}, as.Nodup → as[j]? = some a → xs[j]? = some x → ys[j]? = some y → prsH H as xs ys a = some (.tup [x, y])
  | [], _, _, j, a, x, y, _, e, _, _ => by simp at e
  | a0 :: as, [], _, j, a, x, y, _, _, e, _ => by simp at e
  | a0 :: as, _ :: _, [], j, a, x, y, _, _, _, e => by simp at e
  | a0 :: as, x0 :: xs, y0 :: ys, 0, a, x, y, _, e1, e2, e3 => by
    simp at e1 e2 e3
    subst e1 e2 e3
    rw [prsH, upd_same]
  | a0 :: as, x0 :: xs, y0 :: ys, j + 1, a, x, y, nd, e1, e2, e3 => by
    simp only [List.getElem?_cons_succ] at e1 e2 e3
    obtain ⟨n1, n2⟩ := List.nodup_cons.mp nd
    have ne : a ≠ a0 := fun z => n1 (by rw [← z]; exact List.mem_of_getElem? e1)
    rw [prsH, upd_ne ne, prsH_in n2 e1 e2 e3]
/-- the pairs of two rows, each a new tuple, in a new list -/
def Prs (H H' : Hp) (l : Addr) (as : List Addr) (xs ys : List V) : Prop := (∀ b u, H b = some u → H' b = some u) ∧ H l = none ∧ H' l = some (.lst (as.map V.ref)) ∧ as.length = xs.length ∧ ∀ (j : Nat) a, as[j]? = some a → H a = none ∧ ∃ x y, xs[j]? = some x ∧ ys[j]? = some y ∧ H' a = some (.tup [x, y])
def tZipL (K : PySem.W.Frag) (ta : TA) : TE := fun σ H Q => ta σ H fun vs H1 => ∃ a b xs ys, vs = [.ref a, .ref b] ∧ SqT K H1 a xs ∧ SqT K H1 b ys ∧ xs.length = ys.length ∧ ∀ H2 l as, Prs H1 H2 l as xs ys → Q (.ref l) H2
theorem pe_listZip {e1 e2 : Expr} {ta : TA} {p p2 pos pos2 : Pos} (hc : X.calm = true) (hg : Gl X "list") (hm : X.mg "list" = none) (hg2 : Gl X "zip") (hm2 : X.mg "zip" = none) (ha : PA X [e1, e2] ta)
    (hs : starEach [e1, e2] X.env = (false, eval e1 X.env) :: starEach [e2] X.env) (hpl : (backTo pos2 (starEach [e2] X.env)).any (·.1) = false) :
    PE X (.Call (.Name "list" p) [.Call (.Name "zip" p2) [e1, e2] [] pos2] [] pos) (tZipL X.K ta) := by
  refine ⟨fun pins s σ H Q I h => ?_⟩
  refine Call_ (ld_blt I hg hm boot_list (PyProof.Rows.callWith_type1 (args_cons ?_ rfl) rfl))
  refine Call_ (ld_blt I hg2 hm2 PyProof.Rows.boot_zip (PyProof.Rows.callWith_type1 (thn (ha.run pos2 pins s σ H _ I h) fun us s1 ⟨vs, H1, I1, r1, q1⟩ => ?_) hs hpl))
  obtain ⟨a, b, xs, ys, rfl, hqx, hqy, hlen, q⟩ := q1
  cases r1 with
  | cons r rr =>
    cases rr with
    | cons r' rr =>
      cases rr
      cases r
      cases r'
      obtain ⟨its, rv, p1, z1⟩ := I1.tuple hqx
      obtain ⟨its2, rv2, p2, z2⟩ := I1.tuple hqy
      obtain ⟨o1, ho1, _⟩ := id p1
      obtain ⟨o2, ho2, _⟩ := id p2
      have le1 := rv.length
      have le2 := rv2.length
      refine call_zipT (show s1.heap.IsTuple a its.toArray from p1) (show s1.heap.IsTuple b its2.toArray from p2) fun h' hz hTI hTO h1 h2 hsz hk => args_nil ?_
      have hD := PySem.W.ktu_apart s1.heap.objs.size a b (Heap.lt_size ho1) (Heap.lt_size ho2)
      refine call_list_zip (s := { s1 with heap := h' }) (xs := its.toArray) (ys := its2.toArray) (I1.ok.hd hc) hD (by simp; omega) (by simp; omega) hz ⟨hTI, h1, h2, Heap.IsTuple.at (show s1.heap.IsTuple a its.toArray from p1) fun o e => hk _ o e, Heap.IsTuple.at (show s1.heap.IsTuple b its2.toArray from p2) fun o e => hk _ o e⟩ hTO fun h2 acc c kp hl hp => ?_
      have hN : h'.objs.size = s1.heap.objs.size + 5 := hsz
      have kk : ∀ b o, s1.heap.get? b = some o → h2.get? b = some o := fun b o e => by
        have lt := Heap.lt_size e
        exact kp b o (Nat.ne_of_lt (Nat.lt_of_lt_of_le lt (Nat.le_add_right _ _))) (Nat.ne_of_lt (Nat.lt_of_lt_of_le lt (Nat.le_add_right _ _))) (Nat.ne_of_lt lt) (Nat.ne_of_lt (Nat.lt_of_lt_of_le lt (Nat.le_add_right _ _))) (hk b o e)
      have ho : ∀ v : Value, v ∈ acc.toList → ∃ a, v = Value.ref a := fun v hv => by
        obtain ⟨j, hj⟩ := List.getElem?_of_mem hv
        obtain ⟨a, x, y, e, _⟩ := hp.2.2 j v (by simpa using hj)
        exact ⟨a, e⟩
      obtain ⟨as, eas⟩ : ∃ as : List Addr, acc.toList = as.map Value.ref := refs_of ho
      have hnd : as.Nodup := by
        have := hp.2.1
        rw [eas] at this
        exact List.Pairwise.of_map Value.ref (fun a b h e => h (by rw [e])) this
      have hal : as.length = xs.length := by
        have := congrArg List.length eas
        have l1 := hp.1
        simp at this l1
        omega
      have hat : ∀ (j : Nat) (a : Addr), as[j]? = some a → h'.objs.size + 1 ≤ a ∧ ∃ x y u1 u2, xs[j]? = some x ∧ ys[j]? = some y ∧ RelV x u1 ∧ RelV y u2 ∧ IsPair h2 a u1 u2 := fun j a e => by
        have e2 : acc[j]? = some (.ref a) := by
          rw [← Array.getElem?_toList, eas, List.getElem?_map, e]; rfl
        obtain ⟨a', u1, u2, q1, q2, q3, q4, q5⟩ := hp.2.2 j _ e2
        cases q1
        have hj : j < xs.length := by
          have := (List.getElem?_eq_some_iff.mp e).1
          omega
        obtain ⟨v1, f1, r1⟩ := rv.get (List.getElem?_eq_getElem hj)
        obtain ⟨v2, f2, r2⟩ := rv2.get (List.getElem?_eq_getElem (show j < ys.length by omega))
        simp only [List.getElem?_toArray] at q3 q4
        rw [f1] at q3
        rw [f2] at q4
        cases q3
        cases q4
        exact ⟨q2, _, _, _, _, List.getElem?_eq_getElem hj, List.getElem?_eq_getElem (by omega), r1, r2, q5⟩
      have hlow : ∀ a, a ∈ as → h'.objs.size + 1 ≤ a := fun a ha => by
        obtain ⟨j, hj⟩ := List.getElem?_of_mem ha
        exact (hat j a hj).1
      have hfr : ∀ c, s1.heap.objs.size ≤ c → H1 c = none := fun c hc => I1.hok.fresh hc
      have nl : h'.objs.size ∉ as := fun z => absurd (hlow _ z) (by omega)
      have hle : s1.heap.objs.size ≤ h'.objs.size := by omega
      have fa : ∀ a, a ∈ as → H1 a = none := fun a ha => hfr a (by have := hlow a ha; omega)
      have fl : H1 h'.objs.size = none := hfr _ hle
      let H2 : Hp := upd (prsH H1 as xs ys) h'.objs.size (.lst (as.map V.ref))
      have ext : ∀ b u, H1 b = some u → H2 b = some u := fun b u e => by
        have n1 : b ≠ h'.objs.size := fun z => by rw [z, fl] at e; cases e
        have n2 : b ∉ as := fun z => by rw [fa b z] at e; cases e
        show upd _ _ _ b = _
        rw [upd_ne n1, prsH_out n2]
        exact e
      have inn : ∀ (j : Nat) (a : Addr) (x y : V), as[j]? = some a → xs[j]? = some x → ys[j]? = some y → H2 a = some (.tup [x, y]) := fun j a x y e1 e2 e3 => by
        have n1 : a ≠ h'.objs.size := fun z => nl (by rw [← z]; exact List.mem_of_getElem? e1)
        show upd _ _ _ a = _
        rw [upd_ne n1]
        exact prsH_in hnd e1 e2 e3
      refine ⟨.ref h'.objs.size, H2, inv_many (s := s1) (t' := s1.toks) (h' := h2) I1 kk ext (fun b u e n => ?_), rfl, q H2 _ as ⟨ext, fl, upd_same, hal, fun j a e => ?_⟩⟩
      · by_cases hb : b = h'.objs.size
        · subst hb
          have e' : H2 h'.objs.size = some (.lst (as.map V.ref)) := upd_same
          rw [e'] at e
          cases e
          refine ⟨hle, by simp; omega, as.map Value.ref, c, refs_vals as, ?_⟩
          have := hl
          rw [show acc = (as.map Value.ref).toArray by rw [← eas]] at this
          exact this
        · by_cases ha : b ∈ as
          · obtain ⟨j, hj⟩ := List.getElem?_of_mem ha
            obtain ⟨_, x, y, u1, u2, e1, e2, r1, r2, hpr⟩ := hat j b hj
            rw [inn j b x y hj e1 e2] at e
            cases e
            refine ⟨by have := hlow b ha; omega, by show 2 ≤ sizeLine; decide, [u1, u2], .cons r1 (.cons r2 .nil), ⟨_, hpr, rfl, _, rfl⟩⟩
          · have e' : H2 b = H1 b := by
              show upd _ _ _ b = _
              rw [upd_ne hb, prsH_out ha]
            rw [e', n] at e
            cases e
      · obtain ⟨_, x, y, _, _, e1, e2, _⟩ := hat j a e
        exact ⟨fa a (List.mem_of_getElem? e), x, y, e1, e2, inn j a x y e e1 e2⟩
end
end Wv

set_option maxHeartbeats 4000000
namespace Wv
open PySem PySem.Spec PyProof.Rows L2
section
variable {X : Cx} {pins : List (Addr × Obj)} {σ : L2.St} {H : Hp} {s : Shared} {a : Addr} {v d : V} {u r0 : Value} {o : Option V} {A : Around} {E : Value → Shared → Prop}
/-- d.get(k, x), any key of an empty one -/
theorem g_get2 {Q : Value → Shared → Prop} (hu : A.units + 1 < cLine) (I : L2.Inv X pins σ H s) (g : DG H a v o) (ry : RelV v u) (rd : RelV d r0) (h : ∀ w' s', L2.Inv X pins σ H s' → RelV (o.getD d) w' → Q w' s') : wpAny (model X.prog X.w) A (call (.builtin "dict.get") [.ref a, u, r0]) Q E s := by
  rcases g with g | ⟨rfl, ⟨r, k, b, rfl, eb⟩ | ⟨r, k, rfl⟩⟩
  · exact d_get2 hu I g ry rd h
  · cases (show u = Value.ref b from ry)
    obtain ⟨hd, dd⟩ := emp_h I r
    exact call_meetsIn PySem.F.slot_dict_get dd.typeIs PySem.F.entry_dict_get (PySem.F.args_dict_get_3 _ _ _) (meetsH_dict_get_default (tupleKind (mixKind X.prog X.w)) a b hd r0) ⟨tupleKind_room_in1 hu, k, [], key_of I.hok eb, dd, h _ _ (I.tok _) rd⟩
  · obtain ⟨hd, dd⟩ := emp_m I r
    exact call_meetsIn PySem.F.slot_dict_get dd.typeIs PySem.F.entry_dict_get (PySem.F.args_dict_get_3 _ _ _) (meets_dict_get_default (mixKind X.prog X.w) a (kV_is ry) hd r0) ⟨_, dd.mapOf, h _ _ (I.tok _) rd⟩
def tDGetG (td ty tx : TE) : TE := fun σ H Q => td σ H fun x H1 => ∃ a, x = .ref a ∧ IsD H1 a ∧ ty σ H1 fun y H2 => tx σ H2 fun z H3 => ∃ o, DG H3 a y o ∧ Q (o.getD z) H3
theorem pe_dgetG {e f ob : Expr} {apos cpos : Pos} {td ty tx : TE} (hu : X.A.units + 1 < cLine) (ho : PE X ob td) (he : PE X e ty) (hf : PE X f tx) (m : M2 X ob "get" apos e f cpos) : PE X (.Call (.Attribute ob "get" apos) [e, f] [] cpos) (tDGetG td ty tx) := by
  refine ⟨fun pins s σ H Q I h => ?_⟩
  refine wpAny_Call_method m.base m.few m.line PySem.F.plainAttrs_dict PySem.F.slot_dict_get PySem.F.type_dict_get (thn (ho.run pins s σ H _ I h) fun u s1 ⟨x, H1, I1, rx, a, ex, dd, q1⟩ => ?_)
  subst ex
  obtain rfl : u = Value.ref a := rx
  obtain ⟨t1, t2, _⟩ := isD_at I1 dd
  refine ⟨t1, t2, ?_⟩
  rw [m.trees]
  refine Calls.callWith_builtin rfl (Calls.evalArgs_plain (Calls.spliced_cons (thn (he.run pins s1 σ H1 _ I1 q1) fun iv s2 ⟨y, H2, I2, ry, q2⟩ => Calls.spliced_cons (thn (hf.run pins s2 σ H2 _ I2 q2) fun fv s3 ⟨z, H3, I3, rz, ov, g, q3⟩ => Calls.spliced_nil ?_))))
  exact g_get2 hu I3 g ry rz fun w' s4 I4 rw' => ⟨_, H3, I4, rw', q3⟩
end
theorem m2_ord {X : Cx} {ob e f : Expr} {apos cpos : Pos} (hb : attrOrd ob = true) (hl : (apos.endLine == cpos.line) = true) (h1 : ordE e = true) (h2 : ordE f = true) : M2 X ob "get" apos e f cpos where
  base := base_ord hb
  few := by rw [star_ord h1, star_ord h2]; rfl
  line := hl
  trees := by rw [star_ord h1, star_ord h2]; rfl
section
variable {X : Cx} {y : Cy} {N : List Str} {sc : Scope} {m : Bool}
variable {env : Env} {t : Tw} {σ : L2.St} {H : Hp} {O : List Addr} {Q : VK}
theorem pairs_rp {K : PySem.W.Frag} {z : Cz} {Hh : Hp} : ∀ {as : List Addr} {xs ys : List V} {ds es : List PyData}, as.length = xs.length → (∀ (j : Nat) a, as[j]? = some a → ∃ x y, xs[j]? = some x ∧ ys[j]? = some y ∧ Hh a = some (.tup [x, y])) → RpAll K z Hh xs ds → RpAll K z Hh ys es → xs.length = ys.length → RpAll K z Hh (as.map V.ref) (List.zipWith (fun x y => PyData.tuple [x, y]) ds es)
  | [], [], [], _, _, _, _, .nil, .nil, _ => .nil
  | [], _ :: _, _, _, _, h, _, _, _, _ => by cases h
  | _ :: _, [], _, _, _, h, _, _, _, _ => by cases h
  | _, [], _ :: _, _, _, _, _, _, _, h => by cases h
  | _, _ :: _, [], _, _, _, _, _, _, h => by cases h
  | a :: as, x :: xs, y :: ys, _, _, h, q, .cons p1 t1, .cons p2 t2, l => by
    obtain ⟨x', y', e1, e2, e3⟩ := q 0 a rfl
    simp at e1 e2
    subst e1 e2
    refine .cons (.tup (.inl e3) (by show 2 ≤ lineN; decide) (.cons p1 (.cons p2 .nil))) (pairs_rp (by simpa using h) (fun j a e => q (j + 1) a (by simpa using e)) t1 t2 (by simpa using l))
theorem RpAll.reverse {K : PySem.W.Frag} {z : Cz} {Hh : Hp} : ∀ {xs : List V} {ds : List PyData}, RpAll K z Hh xs ds → RpAll K z Hh xs.reverse ds.reverse
  | _, _, .nil => .nil
  | _, _, .cons a t => by
    rw [List.reverse_cons, List.reverse_cons]
    exact (RpAll.reverse t).append (.cons a .nil)
theorem snd_lzip {ea eb : Expr} {p p2 pos pos2 : Pos} {rs : Env → Tw → R (List PyData)} (C : Ctx X y N sc) (hg : glB sc "list" = true) (hg2 : glB sc "zip" = true) (h1 : ordE ea = true) (h2 : ordE eb = true) (h : PA X [ea, eb] (tL y true rs)) :
    PE X (.Call (.Name "list" p) [.Call (.Name "zip" p2) [ea, eb] [] pos2] [] pos) (tE y m fun env t => (rs env t).bind fun ds t => R.of (zipD ds) t) := by
  refine PE.imp (pe_listZip C.calm (gl_of (by rw [C.scope]; exact hg)) (C.free _ (by decide)) (gl_of (by rw [C.scope]; exact hg2)) (C.free _ (by decide)) h (star_ord h1) (stars_ord (by simp [h2]))) fun σ H Q q => ?_
  obtain ⟨env, t, O, r, q⟩ := tE_fin.mp q
  refine tL.then r q fun ds t1 vs H1 e g r1 rv z => ?_
  rw [C.K]
  cases ez : zipD ds with
  | none => rw [ez] at z; exact z.elim
  | some d =>
    rw [ez] at z
    unfold zipD at ez
    split at ez
    · rename_i xs ys
      split at ez
      · rename_i hl
        cases ez
        obtain ⟨v, w, rfl, rv1, rv2⟩ := pair2 rv
        obtain ⟨a, us, rfl, q1, q2, q3, _⟩ := rv1.tuple
        obtain ⟨b, ws, rfl, k1, k2, k3, _⟩ := rv2.tuple
        have l1 := q3.length
        have l2 := k3.length
        refine ⟨a, b, us, ws, rfl, q1, k1, by omega, fun H2 l as hp => ?_⟩
        obtain ⟨ext, fl, hl', hlen, hat⟩ := hp
        have nO : ∀ c, H1 c = none → c ∉ O := fun c hc => r1.notIn hc
        have mo : ∀ b u, hide O H1 b = some u → hide O H2 b = some u := fun b u q => hide_of (hide_some q).1 (ext _ _ (hide_some q).2)
        refine z _ H2 (grow_ext ext) (tw_ext r1.tw ext) (.inl (.lst (hide_of (nO _ fl) hl') (by rw [List.length_map]; omega) (pairs_rp hlen (fun j a e => ?_) (q3.mono mo) (k3.mono mo) (by omega))))
        obtain ⟨f, x, y, e1, e2, e3⟩ := hat j a e
        exact ⟨x, y, e1, e2, hide_of (nO _ f) e3⟩
      · cases ez
    · cases ez
theorem snd_rev {ea : Expr} {kk : Nat} {p1 p2 p3 pos : Pos} {ra : Env → Tw → R PyData} (C : Ctx X y N sc) (ha : PE X ea (tE y true ra)) :
    PE X (.Subscript ea (.Slice none none (some (.UnaryOp .USub (.Constant (.int 1) kk p1) p2)) p3) pos) (tE y m fun env t => (ra env t).bind fun x t => R.of (revD x) t) := by
  refine PE.imp (pe_revL ha) fun σ H Q q => ?_
  obtain ⟨env, t, O, r, q⟩ := tE_fin.mp q
  refine tE.then r q fun d t1 v H1 e g r1 rv z => ?_
  rw [C.K]
  cases ez : revD d with
  | none => rw [ez] at z; exact z.elim
  | some d' =>
    rw [ez] at z
    unfold revD at ez
    split at ez
    · cases ez
      obtain ⟨a, us, rfl, q1, q2, q3⟩ := rv.items
      refine ⟨a, us, rfl, SqL.of q1, fun p hp => Kn.list r1 z hp (by rw [List.length_reverse]; exact q2) (RpAll.reverse q3)⟩
    · cases ez
theorem rngs_rp {K : PySem.W.Frag} {z : Cz} {Hh : Hp} : ∀ (n : Nat) (a : Int), RpAll K z Hh ((List.range n).map fun i => V.int (a + (i : Nat))) (rngs a 1 n)
  | 0, a => .nil
  | n + 1, a => by
    rw [rngs, List.range_succ_eq_map, List.map_cons, List.map_map]
    refine .cons (by simpa using Rp.int a) ?_
    have := rngs_rp (K := K) (z := z) (Hh := Hh) n (a + 1)
    have e : ((fun i : Nat => V.int (a + (i : Nat))) ∘ Nat.succ) = fun i : Nat => V.int (a + 1 + (i : Nat)) := by
      funext i
      simp only [Function.comp]
      congr 1
      omega
    rw [e]
    exact this
theorem rg_rp {K : PySem.W.Frag} {z : Cz} {Hh : Hp} (n : Int) : RpAll K z Hh (rgV 0 n) (rngs 0 1 n.toNat) := by
  have := rngs_rp (K := K) (z := z) (Hh := Hh) n.toNat 0
  unfold rgV
  rw [Int.sub_zero]
  exact this
theorem rg_ok {n : Int} (h : small n = true) : RgOk 0 n ∧ (rgV 0 n).length ≤ lineN := by
  have h := Wv.small_of h
  refine ⟨⟨by decide, by decide, by omega, by omega, ?_⟩, ?_⟩
  · have : (2 : Nat) ^ 24 = 16777216 := by decide
    omega
  · rw [rgV_length]
    unfold lineN
    omega
theorem snd_lrng {ea : Expr} {p p2 pos pos2 : Pos} {ra : Env → Tw → R PyData} (C : Ctx X y N sc) (hg : glB sc "list" = true) (hg2 : glB sc "range" = true) (h1 : ordE ea = true) (ha : PE X ea (tE y true ra)) :
    PE X (.Call (.Name "list" p) [.Call (.Name "range" p2) [ea] [] pos2] [] pos) (tE y m fun env t => (ra env t).bind fun x t => match x with
      | .int n => if small n then .ok (.list (rngs 0 1 n.toNat)) t else .bad
      | _ => .bad) := by
  refine PE.imp (pe_listRg C.calm (gl_of (by rw [C.scope]; exact hg)) (C.free _ (by decide)) (prg_1 (gl_of (by rw [C.scope]; exact hg2)) (C.free _ (by decide)) ha (star_ord h1)) rfl) fun σ H Q q => ?_
  obtain ⟨env, t, O, r, q⟩ := tE_fin.mp q
  refine tE.then r q fun d t1 v H1 e g r1 rv z => ?_
  cases d with
  | int n =>
    obtain rfl := rv.int
    by_cases hn : small n = true
    · simp only [hn, if_true] at z
      obtain ⟨o1, o2⟩ := rg_ok hn
      exact ⟨n, rfl, o1, fun p hp => Kn.list r1 z hp o2 (rg_rp n)⟩
    · simp only [hn, if_false] at z
      exact z.elim
  | _ => exact z.elim
theorem snd_trng {ea : Expr} {p p2 pos pos2 : Pos} {ra : Env → Tw → R PyData} (C : Ctx X y N sc) (hg : glB sc "tuple" = true) (hg2 : glB sc "range" = true) (h1 : ordE ea = true) (ha : PE X ea (tE y true ra)) :
    PE X (.Call (.Name "tuple" p) [.Call (.Name "range" p2) [ea] [] pos2] [] pos) (tE y m fun env t => (ra env t).bind fun x t => match x with
      | .int n => if small n then .ok (.tuple (rngs 0 1 n.toNat)) t else .bad
      | _ => .bad) := by
  refine PE.imp (pe_tupRg C.calm (gl_of (by rw [C.scope]; exact hg)) (C.free _ (by decide)) (prg_1 (gl_of (by rw [C.scope]; exact hg2)) (C.free _ (by decide)) ha (star_ord h1)) rfl) fun σ H Q q => ?_
  obtain ⟨env, t, O, r, q⟩ := tE_fin.mp q
  refine tE.then r q fun d t1 v H1 e g r1 rv z => ?_
  cases d with
  | int n =>
    obtain rfl := rv.int
    by_cases hn : small n = true
    · simp only [hn, if_true] at z
      obtain ⟨o1, o2⟩ := rg_ok hn
      exact ⟨n, rfl, o1, fun p hp => Kn.tuple r1 z hp o2 (rg_rp n)⟩
    · simp only [hn, if_false] at z
      exact z.elim
  | _ => exact z.elim
theorem snd_dget {ea ek ed : Expr} {apos cpos : Pos} {ra rk rd : Env → Tw → R PyData} (C : Ctx X y N sc) (hb : attrOrd ea = true) (hl : (apos.endLine == cpos.line) = true) (h1 : ordE ek = true) (h2 : ordE ed = true) (ha : PE X ea (tE y true ra)) (hk : PE X ek (tE y true rk)) (hd : PE X ed (tE y false rd)) :
    PE X (.Call (.Attribute ea "get" apos) [ek, ed] [] cpos) (tE y m fun env t => (ra env t).bind fun x t => match x with
      | .dict kds => if okDict kds then (rk env t).bind fun y t => (rd env t).bind fun z t => if fitD y kds then .ok ((getL kds y).getD z) t else .bad else .bad
      | _ => .bad) := by
  refine PE.imp (pe_dgetG (by have := C.units; omega) ha hk hd (m2_ord hb hl h1 h2)) fun σ H Q q => ?_
  obtain ⟨env, t, O, r, q⟩ := tE_fin.mp q
  refine tE.then r q fun d t1 v H1 e g r1 rv z => ?_
  cases d with
  | dict kds =>
    by_cases hok : okDict kds = true
    case neg =>
      simp only [hok, if_false] at z
      exact z.elim
    simp only [hok, if_true] at z
    obtain ⟨a, rfl, hd⟩ := rv.isD hok
    refine ⟨a, rfl, hd, ?_⟩
    refine tE.then r1 z fun dk t2 vk H2 e2 g2 r2 rvk z2 => ?_
    refine tE.then r2 z2 fun dd t3 vd H3 e3 g3 r3 rvd z3 => ?_
    by_cases hf : fitD dk kds = true
    · simp only [hf, if_true] at z3
      obtain ⟨a', o, ea', hg, q⟩ := dget_ok ((rv.after r1 g2).after r2 g3) (rvk.after r2 g3) hf
      cases ea'
      refine ⟨o, hg, ?_⟩
      rcases q with ⟨q1, rfl⟩ | ⟨d, u, q1, rfl, q2⟩
      · rw [q1] at z3
        exact z3 _ H3 Grow.refl r3.tw (.inl rvd.share)
      · rw [q1] at z3
        exact z3 _ H3 Grow.refl r3.tw (.inl q2)
    · simp only [hf, if_false] at z3
      exact z3.elim
  | _ => exact z.elim
end
end Wv

set_option maxHeartbeats 4000000
namespace Wv
open PySem L2

/-! ### does a piece of syntax say what a core term says -/
def chkCst : PyData → Const → Bool
  | .none, .none => true
  | .bool b, .bool c => b == c
  | .int i, .int j => decide (i = j)
  | .str a, .str b => decide (a = b)
  | _, _ => false
def ownOf (N : List Str) (own : List Nat) : List (Str × Nat) := own.map fun i => (N.getD i "", i)
def isIf : Expr → Bool
  | .IfExp .. => true
  | _ => false
def cellB (scope : Scope) (x : Str) : Bool := match scope.names.lookup x with
  | some .cell => true
  | _ => false
def subB (a b : List Nat) : Bool := a.all fun i => b.contains i

mutual
theorem same_ok : ∀ {d e : PyData}, sameD d e = true → d = e
  | .none, e, h => by cases e <;> first | rfl | cases h
  | .bool b, e, h => by cases e <;> first | (simp [sameD] at h; rw [h]) | cases h
  | .int b, e, h => by cases e <;> first | (simp [sameD] at h; rw [h]) | cases h
  | .str b, e, h => by cases e <;> first | (simp [sameD] at h; rw [h]) | cases h
  | .list xs, e, h => by
    cases e with
    | list ys => rw [same_oks (show sameL xs ys = true from h)]
    | _ => cases h
  | .tuple xs, e, h => by
    cases e with
    | tuple ys => rw [same_oks (show sameL xs ys = true from h)]
    | _ => cases h
  | .dict xs, e, h => by cases e <;> cases h
theorem same_oks : ∀ {xs ys : List PyData}, sameL xs ys = true → xs = ys
  | [], [], _ => rfl
  | [], _ :: _, h => by cases h
  | _ :: _, [], h => by cases h
  | x :: xs, y :: ys, h => by
    simp only [sameL, Bool.and_eq_true] at h
    rw [same_ok h.1, same_oks h.2]
end

mutual
def chkE (g : Gt) (N : List Str) : CE → Scope → Expr → Bool
  | .var i, sc, e => (match e with
    | .Name x _ => decide (N[i]? = some x) && visB sc x && !(x == ("__debug__" : Str)) && !(x == ("__classdict__" : Str))
    | _ => false)
  | .cst d, sc, e => (match e with
    | .Constant c _ _ => chkCst d c
    | _ => false)
  | .glb x d, sc, e => (match e with
    | .Name x' _ => decide (x = x') && glB sc x && (match g.cst x with
      | some d' => sameD d d'
      | none => false)
    | _ => false)
  | .tup es, sc, e => (match e with
    | .Tuple es' _ _ => chkL g N es sc es'
    | _ => false)
  | .lst es, sc, e => (match e with
    | .List es' _ => chkL g N es sc es'
    | _ => false)
  | .bin o a b, sc, e => (match e with
    | .BinOp l o' r _ => decide (o = o') && chkE g N a sc l && chkE g N b sc r
    | _ => false)
  | .neg a, sc, e => (match e with
    | .UnaryOp .USub l _ => chkE g N a sc l
    | _ => false)
  | .cmp o a b, sc, e => (match e with
    | .Compare l [o'] [r] _ => decide (o = o') && ordE r && chkE g N a sc l && chkE g N b sc r
    | _ => false)
  | .chn o p a b c, sc, e => (match e with
    | .Compare l [o', p'] [r, r'] _ => decide (o = o') && decide (p = p') && ordE r' && chkE g N a sc l && chkE g N b sc r && chkE g N c sc r'
    | _ => false)
  | .and a b, sc, e => (match e with
    | .BoolOp .And (e1 :: e2 :: rest) pos => !isIf e1 && chkE g N a sc e1 && (match rest with
      | [] => !isIf e2 && chkE g N b sc e2
      | _ :: _ => chkE g N b sc (.BoolOp .And (e2 :: rest) pos))
    | _ => false)
  | .or a b, sc, e => (match e with
    | .BoolOp .Or (e1 :: e2 :: rest) pos => !isIf e1 && chkE g N a sc e1 && (match rest with
      | [] => !isIf e2 && chkE g N b sc e2
      | _ :: _ => chkE g N b sc (.BoolOp .Or (e2 :: rest) pos))
    | _ => false)
  | .not a, sc, e => (match e with
    | .UnaryOp .Not l _ => !isIf l && chkE g N a sc l
    | _ => false)
  | .ite c a b, sc, e => (match e with
    | .IfExp t b' o _ => !isIf t && chkE g N c sc t && chkE g N a sc b' && chkE g N b sc o
    | _ => false)
  | .ix a i, sc, e => (match e with
    | .Subscript v s _ => ordE s && chkE g N a sc v && chkE g N i sc s
    | _ => false)
  | .sl a lo hi, sc, e => (match e with
    | .Subscript v (.Slice l h none _) _ => chkE g N a sc v && chkO g N lo sc l && chkO g N hi sc h
    | _ => false)
  | .call f es, sc, e => (match e with
    | .Call (.Name x _) es' [] _ => (match g.fn f with
      | some (x', _, kd) => decide (x' = x) && decide (kd = .pos)
      | none => false) && glB sc x && !es'.isEmpty && es'.all ordE && chkL g N es sc es'
    | _ => false)
  | .call0 f, sc, e => (match e with
    | .Call (.Name x _) [] [] _ => (match g.fn f with
      | some (x', np, kd) => decide (x' = x) && decide (kd = .pos) && decide (np = 0)
      | none => false) && glB sc x
    | _ => false)
  | .callK f es k, sc, e => (match e with
    | .Call (.Name x _) es' [⟨some kn, ke, _⟩] _ => decide (kn = "liars") && (match g.fn f with
      | some (x', _, kd) => decide (x' = x) && decide (kd = .kw)
      | none => false) && glB sc x && !es'.isEmpty && es'.all ordE && chkL g N es sc es' && chkE g N k sc ke
    | _ => false)
  | .callD f es, sc, e => (match e with
    | .Call (.Name x _) es' [] _ => (match g.fn f with
      | some (x', _, kd) => decide (x' = x) && decide (kd = .kw)
      | none => false) && glB sc x && !es'.isEmpty && es'.all ordE && chkL g N es sc es'
    | _ => false)
  | .bi b es, sc, e => (match e with
    | .Call (.Name x _) es' [] _ => decide (x = biName b) && biSup b && glB sc x && !es'.isEmpty && es'.all ordE && chkL g N es sc es'
    | _ => false)
  | .isi a ty, sc, e => (match e with
    | .Call (.Name x _) [ea, .Name T _] [] _ => decide (x = "isinstance") && (decide (T = tyStr ty) && tySup ty || decide (excTyStr g ty = some T) && excAll g) && glB sc x && glB sc T && ordE ea && chkE g N a sc ea
    | _ => false)
  | .mth mt a b, sc, e => (match e with
    | .Call (.Attribute o n apos) [ea] [] cpos => decide (n = mtName mt) && attrOrd o && (apos.endLine == cpos.line) && ordE ea && chkE g N a sc o && chkE g N b sc ea
    | _ => false)
  | .lc1 e own tg it c, sc, ex => (match ex with
    | .ListComp elt [⟨te, iter, ifs, asy⟩] scope _ => decide (asy = 0) && blkC N sc scope (ownOf N own) && chkTg N (relS scope sc) (cellB scope) tg te && subB (tgSlots tg) own && ordE iter && chkI g N it sc te iter && chkC g N c (relS scope sc) ifs && chkE g N e (relS scope sc) elt
    | _ => false)
  | .lc2 e own own2 tg it c tg2 it2 c2, sc, ex => (match ex with
    | .ListComp elt [⟨te, iter, ifs, asy⟩, ⟨te2, iter2, ifs2, asy2⟩] scope _ => decide (asy = 0) && decide (asy2 = 0) && blkC N sc scope (ownOf N own) && chkTg N (relS scope sc) (cellB scope) tg te && subB (tgSlots tg) own && ordE iter && chkI g N it sc te iter && chkC g N c (relS scope sc) ifs &&
      chkTg N (relS scope sc) (cellB scope) tg2 te2 && subB (tgSlots tg2) own2 && subB own2 own && ordE iter2 && chkI g N it2 (relS scope sc) te2 iter2 && chkC g N c2 (relS scope sc) ifs2 && chkE g N e (relS scope sc) elt
    | _ => false)
  | .dc1 ck cv own tg it c, sc, ex => (match ex with
    | .DictComp kx vx [⟨te, iter, ifs, asy⟩] scope _ => decide (asy = 0) && blkC N sc scope (ownOf N own) && chkTg N (relS scope sc) (cellB scope) tg te && subB (tgSlots tg) own && ordE iter && chkI g N it sc te iter && chkC g N c (relS scope sc) ifs && chkE g N ck (relS scope sc) kx && chkE g N cv (relS scope sc) vx
    | _ => false)
  | .dc2 ck cv own own2 tg it c tg2 it2 c2, sc, ex => (match ex with
    | .DictComp kx vx [⟨te, iter, ifs, asy⟩, ⟨te2, iter2, ifs2, asy2⟩] scope _ => decide (asy = 0) && decide (asy2 = 0) && blkC N sc scope (ownOf N own) && chkTg N (relS scope sc) (cellB scope) tg te && subB (tgSlots tg) own && ordE iter && chkI g N it sc te iter && chkC g N c (relS scope sc) ifs &&
      chkTg N (relS scope sc) (cellB scope) tg2 te2 && subB (tgSlots tg2) own2 && subB own2 own && ordE iter2 && chkI g N it2 (relS scope sc) te2 iter2 && chkC g N c2 (relS scope sc) ifs2 && chkE g N ck (relS scope sc) kx && chkE g N cv (relS scope sc) vx
    | _ => false)
  | .dct0, _, ex => (match ex with
    | .Dict [] [] _ => true
    | _ => false)
  | .lzip es, sc, ex => (match ex with
    | .Call (.Name x _) [.Call (.Name x2 _) [ea, eb] [] _] [] _ => decide (x = "list") && decide (x2 = "zip") && glB sc x && glB sc x2 && ordE ea && ordE eb && chkL g N es sc [ea, eb]
    | _ => false)
  | .rev a, sc, ex => (match ex with
    | .Subscript ea (.Slice none none (some (.UnaryOp .USub (.Constant (.int i) _ _) _)) _) _ => decide (i = 1) && chkE g N a sc ea
    | _ => false)
  | .lrng a, sc, ex => (match ex with
    | .Call (.Name x _) [.Call (.Name x2 _) [ea] [] _] [] _ => decide (x = "list") && decide (x2 = "range") && glB sc x && glB sc x2 && ordE ea && chkE g N a sc ea
    | _ => false)
  | .trng a, sc, ex => (match ex with
    | .Call (.Name x _) [.Call (.Name x2 _) [ea] [] _] [] _ => decide (x = "tuple") && decide (x2 = "range") && glB sc x && glB sc x2 && ordE ea && chkE g N a sc ea
    | _ => false)
  | .dget a k d, sc, ex => (match ex with
    | .Call (.Attribute ea n apos) [ek, ed] [] cpos => decide (n = "get") && attrOrd ea && (apos.endLine == cpos.line) && ordE ek && ordE ed && chkE g N a sc ea && chkE g N k sc ek && chkE g N d sc ed
    | _ => false)
  | .hole, _, _ => true
def chkL (g : Gt) (N : List Str) : CL → Scope → List Expr → Bool
  | .nil, _, es => es.isEmpty
  | .cons c r, sc, es => (match es with
    | e :: es' => ordE e && chkE g N c sc e && chkL g N r sc es'
    | [] => false)
def chkO (g : Gt) (N : List Str) : CO → Scope → Option Expr → Bool
  | .none, _, o => o.isNone
  | .some c, sc, o => (match o with
    | some e => chkE g N c sc e
    | none => false)
def chkC (g : Gt) (N : List Str) : CO → Scope → List Expr → Bool
  | .none, _, es => es.isEmpty
  | .some c, sc, es => (match es with
    | [e] => !isIf e && chkE g N c sc e
    | _ => false)
def chkI (g : Gt) (N : List Str) : CI → Scope → Expr → Expr → Bool
  | .val c, sc, _, e => chkE g N c sc e
  | .rng1 a, sc, _, e => (match e with
    | .Call (.Name x _) [ea] [] _ => decide (x = "range") && glB sc x && ordE ea && chkE g N a sc ea
    | _ => false)
  | .rng2 a b, sc, _, e => (match e with
    | .Call (.Name x _) [ea, eb] [] _ => decide (x = "range") && glB sc x && ordE ea && ordE eb && chkE g N a sc ea && chkE g N b sc eb
    | _ => false)
  | .rng3 a b c, sc, _, e => (match e with
    | .Call (.Name x _) [ea, eb, ec] [] _ => decide (x = "range") && glB sc x && ordE ea && ordE eb && ordE ec && chkE g N a sc ea && chkE g N b sc eb && chkE g N c sc ec
    | _ => false)
  | .enm a, sc, tg, e => (match tg, e with
    | .Tuple _ _ _, .Call (.Name x _) [ea] [] _ => decide (x = "enumerate") && glB sc x && ordE ea && chkE g N a sc ea
    | _, _ => false)
end
end Wv

set_option maxHeartbeats 4000000
namespace Wv
open PySem L2

structure Snd (g : Gt) (N : List Str) (F : Nat → List PyData → Tw → R PyData) (k : Nat) (c : CE) : Prop where
  e : ∀ {X : Cx} {y : Cy} {sc : Scope} {ex : Expr} (m : Bool), Cxx X y N sc g F k → chkE g N c sc ex = true → PE X ex (tE y m (evalE F m c))
  t : ∀ {X : Cx} {y : Cy} {sc : Scope} {ex : Expr}, Cxx X y N sc g F k → chkE g N c sc ex = true → isIf ex = false → PT X ex (tT y (evalE F true c))
  w : ∀ {X : Cx} {y : Cy} {sc : Scope} {op : BoolOp} {es : List Expr} {pos : Pos}, Cxx X y N sc g F k → chkE g N c sc (.BoolOp op es pos) = true → PW X (.BoolOp op es pos) (tT y (evalE F true c))

/-- forms whose truth is looked at as a value -/
def plainT : Expr → Bool
  | .UnaryOp .Not _ _ => false
  | .BoolOp .. => false
  | .IfExp .. => false
  | .Compare .. => false
  | _ => true
theorem plainT_he {e : Expr} {env : PySem.Env} (h : plainT e = true) : ∀ whole, isTrue e env whole = (do let v ← whole; standAt e.pos; holding [v] (truthy v)) := by
  intro whole
  cases e with
  | UnaryOp op x p =>
    cases op with
    | Not => cases h
    | _ => rfl
  | BoolOp _ _ _ => cases h
  | IfExp _ _ _ _ => cases h
  | Compare _ _ _ _ => cases h
  | _ => rfl

section
variable {g : Gt} {N : List Str} {F : Nat → List PyData → Tw → R PyData} {k : Nat}
theorem Snd.plain {c : CE} (he : ∀ {X : Cx} {y : Cy} {sc : Scope} {ex : Expr} (m : Bool), Cxx X y N sc g F k → chkE g N c sc ex = true → PE X ex (tE y m (evalE F m c)))
    (hp : ∀ sc ex, chkE g N c sc ex = true → plainT ex = true ∨ ∃ t a b p, ex = .IfExp t a b p) : Snd g N F k c where
  e := he
  t := fun C h hi => by
    rcases hp _ _ h with q | ⟨t, a, b, p, rfl⟩
    · exact tst_val (he true C h) (plainT_he q)
    · cases hi
  w := fun C h => by
    rcases hp _ _ h with q | ⟨t, a, b, p, q⟩
    · cases q
    · cases q
theorem and_t {a b : Bool} (h : (a && b) = true) : a = true ∧ b = true := Bool.and_eq_true_iff.mp h

/-- the inductive step of each form -/
theorem st_var {i : Nat} : Snd g N F k (.var i) := by
  refine Snd.plain (fun {X y sc ex} m C h => ?_) fun sc ex h => ?_
  · unfold chkE at h
    split at h
    · simp only [Bool.and_eq_true, decide_eq_true_eq, Bool.not_eq_true'] at h
      exact snd_var C.toCtx h.1.1.1 h.1.1.2 h.1.2 h.2
    · cases h
  · unfold chkE at h
    split at h
    · exact .inl rfl
    · cases h
theorem st_cst {d : PyData} : Snd g N F k (.cst d) := by
  refine Snd.plain (fun {X y sc ex} m C h => ?_) fun sc ex h => ?_
  · unfold chkE at h
    split at h
    · rename_i c j p
      unfold chkCst at h
      split at h
      · exact snd_const pe_non fun H => .non
      · have e := eq_of_beq h
        subst e
        exact snd_const pe_bl fun H => .bl _
      · have e := of_decide_eq_true h
        subst e
        exact snd_const pe_int fun H => .int _
      · have e := of_decide_eq_true h
        subst e
        exact snd_const pe_str fun H => .str _
      · cases h
    · cases h
  · unfold chkE at h
    split at h
    · exact .inl rfl
    · cases h
theorem st_glb {x : Str} {d : PyData} : Snd g N F k (.glb x d) := by
  refine Snd.plain (fun {X y sc ex} m C h => ?_) fun sc ex h => ?_
  · unfold chkE at h
    split at h
    · simp only [Bool.and_eq_true, decide_eq_true_eq] at h
      obtain ⟨⟨rfl, h2⟩, h3⟩ := h
      split at h3
      · rename_i d' e
        have e' := same_ok h3
        subst e'
        obtain ⟨u, v, h4, h5, h6, h7⟩ := C.csts x d e
        exact snd_const (pe_glob (gl_of (by rw [C.scope]; exact h2)) h4 h5 h7) h6
      · cases h3
    · cases h
  · unfold chkE at h
    split at h
    · exact .inl rfl
    · cases h
theorem st_bin {o : Operator} {a b : CE} (ha : Snd g N F k a) (hb : Snd g N F k b) : Snd g N F k (.bin o a b) := by
  refine Snd.plain (fun {X y sc ex} m C h => ?_) fun sc ex h => ?_
  · unfold chkE at h
    split at h
    · simp only [Bool.and_eq_true, decide_eq_true_eq] at h
      obtain ⟨⟨rfl, h2⟩, h3⟩ := h
      exact snd_bin C.toCtx (ha.e true C h2) (hb.e true C h3)
    · cases h
  · unfold chkE at h
    split at h
    · exact .inl rfl
    · cases h
theorem st_neg {a : CE} (ha : Snd g N F k a) : Snd g N F k (.neg a) := by
  refine Snd.plain (fun {X y sc ex} m C h => ?_) fun sc ex h => ?_
  · unfold chkE at h
    split at h
    · exact snd_neg (ha.e true C h)
    · cases h
  · unfold chkE at h
    split at h
    · exact .inl rfl
    · cases h
theorem st_cmp {o : CmpOp} {a b : CE} (ha : Snd g N F k a) (hb : Snd g N F k b) : Snd g N F k (.cmp o a b) where
  e := fun {X y sc ex} m C h => by
    unfold chkE at h
    split at h
    · simp only [Bool.and_eq_true, decide_eq_true_eq] at h
      obtain ⟨⟨⟨rfl, h1⟩, h2⟩, h3⟩ := h
      exact snd_cmp C.toCtx h1 (ha.e true C h2) (hb.e true C h3)
    · cases h
  t := fun {X y sc ex} C h _ => by
    unfold chkE at h
    split at h
    · simp only [Bool.and_eq_true, decide_eq_true_eq] at h
      obtain ⟨⟨⟨rfl, h1⟩, h2⟩, h3⟩ := h
      exact tst_cmp C.toCtx h1 (ha.e true C h2) (hb.e true C h3)
    · cases h
  w := fun C h => by unfold chkE at h; cases h
theorem st_chn {o p : CmpOp} {a b c : CE} (ha : Snd g N F k a) (hb : Snd g N F k b) (hc : Snd g N F k c) : Snd g N F k (.chn o p a b c) where
  e := fun {X y sc ex} m C h => by
    unfold chkE at h
    split at h
    · simp only [Bool.and_eq_true, decide_eq_true_eq] at h
      obtain ⟨⟨⟨⟨⟨rfl, rfl⟩, h1⟩, h2⟩, h3⟩, h4⟩ := h
      exact snd_chn C.toCtx h1 (ha.e true C h2) (hb.e true C h3) (hc.e true C h4)
    · cases h
  t := fun {X y sc ex} C h _ => by
    unfold chkE at h
    split at h
    · simp only [Bool.and_eq_true, decide_eq_true_eq] at h
      obtain ⟨⟨⟨⟨⟨rfl, rfl⟩, h1⟩, h2⟩, h3⟩, h4⟩ := h
      exact tst_chn C.toCtx h1 (ha.e true C h2) (hb.e true C h3) (hc.e true C h4)
    · cases h
  w := fun C h => by unfold chkE at h; cases h
theorem and_pw {a b : CE} (ha : Snd g N F k a) (hb : Snd g N F k b) {X : Cx} {y : Cy} {sc : Scope} {op : BoolOp} {es : List Expr} {pos : Pos} (C : Cxx X y N sc g F k) (h : chkE g N (.and a b) sc (.BoolOp op es pos) = true) : PW X (.BoolOp op es pos) (tT y (evalE F true (.and a b))) := by
  unfold chkE at h
  split at h
  · rename_i e1 e2 rest p q
    cases q
    simp only [Bool.and_eq_true, Bool.not_eq_true'] at h
    obtain ⟨⟨h0, h1⟩, h2⟩ := h
    cases rest with
    | nil =>
      simp only [Bool.and_eq_true, Bool.not_eq_true'] at h2
      exact tst_and (ha.t C h1 h0) (pw_and1 (hb.t C h2.2 h2.1))
    | cons e3 rest => exact tst_and (ha.t C h1 h0) (hb.w C h2)
  · cases h
theorem or_pw {a b : CE} (ha : Snd g N F k a) (hb : Snd g N F k b) {X : Cx} {y : Cy} {sc : Scope} {op : BoolOp} {es : List Expr} {pos : Pos} (C : Cxx X y N sc g F k) (h : chkE g N (.or a b) sc (.BoolOp op es pos) = true) : PW X (.BoolOp op es pos) (tT y (evalE F true (.or a b))) := by
  unfold chkE at h
  split at h
  · rename_i e1 e2 rest p q
    cases q
    simp only [Bool.and_eq_true, Bool.not_eq_true'] at h
    obtain ⟨⟨h0, h1⟩, h2⟩ := h
    cases rest with
    | nil =>
      simp only [Bool.and_eq_true, Bool.not_eq_true'] at h2
      exact tst_or (ha.t C h1 h0) (pw_or1 (hb.t C h2.2 h2.1))
    | cons e3 rest => exact tst_or (ha.t C h1 h0) (hb.w C h2)
  · cases h
theorem st_and {a b : CE} (ha : Snd g N F k a) (hb : Snd g N F k b) : Snd g N F k (.and a b) where
  e := fun {X y sc ex} m C h => by
    unfold chkE at h
    split at h
    · rename_i e1 e2 rest p
      simp only [Bool.and_eq_true, Bool.not_eq_true'] at h
      obtain ⟨⟨h0, h1⟩, h2⟩ := h
      cases rest with
      | nil =>
        simp only [Bool.and_eq_true, Bool.not_eq_true'] at h2
        exact snd_and (ha.e true C h1) (pe_one (hb.e m C h2.2))
      | cons e3 rest => exact snd_and (ha.e true C h1) (hb.e m C h2)
    · cases h
  t := fun {X y sc ex} C h _ => by
    have h' := h
    unfold chkE at h'
    split at h'
    · exact (and_pw ha hb C h).pt
    · cases h'
  w := fun C h => and_pw ha hb C h
theorem st_or {a b : CE} (ha : Snd g N F k a) (hb : Snd g N F k b) : Snd g N F k (.or a b) where
  e := fun {X y sc ex} m C h => by
    unfold chkE at h
    split at h
    · rename_i e1 e2 rest p
      simp only [Bool.and_eq_true, Bool.not_eq_true'] at h
      obtain ⟨⟨h0, h1⟩, h2⟩ := h
      cases rest with
      | nil =>
        simp only [Bool.and_eq_true, Bool.not_eq_true'] at h2
        exact snd_or (ha.e true C h1) (pe_one (hb.e m C h2.2))
      | cons e3 rest => exact snd_or (ha.e true C h1) (hb.e m C h2)
    · cases h
  t := fun {X y sc ex} C h _ => by
    have h' := h
    unfold chkE at h'
    split at h'
    · exact (or_pw ha hb C h).pt
    · cases h'
  w := fun C h => or_pw ha hb C h
theorem st_not {a : CE} (ha : Snd g N F k a) : Snd g N F k (.not a) where
  e := fun {X y sc ex} m C h => by
    unfold chkE at h
    split at h
    · simp only [Bool.and_eq_true, Bool.not_eq_true'] at h
      exact snd_not (ha.e true C h.2)
    · cases h
  t := fun {X y sc ex} C h _ => by
    unfold chkE at h
    split at h
    · simp only [Bool.and_eq_true, Bool.not_eq_true'] at h
      exact tst_not (ha.t C h.2 h.1)
    · cases h
  w := fun C h => by unfold chkE at h; cases h
theorem st_ite {c a b : CE} (hc : Snd g N F k c) (ha : Snd g N F k a) (hb : Snd g N F k b) : Snd g N F k (.ite c a b) := by
  refine Snd.plain (fun {X y sc ex} m C h => ?_) fun sc ex h => ?_
  · unfold chkE at h
    split at h
    · simp only [Bool.and_eq_true, Bool.not_eq_true'] at h
      obtain ⟨⟨⟨h0, h1⟩, h2⟩, h3⟩ := h
      exact snd_ite (hc.t C h1 h0) (ha.e m C h2) (hb.e m C h3)
    · cases h
  · unfold chkE at h
    split at h
    · exact .inr ⟨_, _, _, _, rfl⟩
    · cases h
theorem st_ix {a b : CE} (ha : Snd g N F k a) (hb : Snd g N F k b) : Snd g N F k (.ix a b) := by
  refine Snd.plain (fun {X y sc ex} m C h => ?_) fun sc ex h => ?_
  · unfold chkE at h
    split at h
    · simp only [Bool.and_eq_true] at h
      exact snd_ix C.toCtx h.1.1 (ha.e true C h.1.2) (hb.e true C h.2)
    · cases h
  · unfold chkE at h
    split at h
    · exact .inl rfl
    · cases h
theorem st_isi {a : CE} {ty : Ty} (ha : Snd g N F k a) : Snd g N F k (.isi a ty) := by
  refine Snd.plain (fun {X y sc ex} m C h => ?_) fun sc ex h => ?_
  · unfold chkE at h
    split at h
    · simp only [Bool.and_eq_true, Bool.or_eq_true, decide_eq_true_eq] at h
      obtain ⟨⟨⟨⟨⟨rfl, h1⟩, h2⟩, h3⟩, h4⟩, h5⟩ := h
      rcases h1 with ⟨rfl, h1⟩ | ⟨h0, h1⟩
      · exact snd_isi C.toCtx h1 h2 h3 h4 (ha.e true C h5)
      · exact snd_isiX C h0 h1 h2 h3 h4 (ha.e true C h5)
    · cases h
  · unfold chkE at h
    split at h
    · exact .inl rfl
    · cases h
theorem st_mth {mt : Mt} {a b : CE} (ha : Snd g N F k a) (hb : Snd g N F k b) : Snd g N F k (.mth mt a b) := by
  refine Snd.plain (fun {X y sc ex} m C h => ?_) fun sc ex h => ?_
  · unfold chkE at h
    split at h
    · simp only [Bool.and_eq_true, decide_eq_true_eq] at h
      obtain ⟨⟨⟨⟨⟨rfl, h1⟩, h2⟩, h3⟩, h4⟩, h5⟩ := h
      exact snd_mth C.toCtx h1 h2 h3 (ha.e true C h4) (hb.e true C h5)
    · cases h
  · unfold chkE at h
    split at h
    · exact .inl rfl
    · cases h

/-! the parts of a form that is no expression -/
def SndL (g : Gt) (N : List Str) (F : Nat → List PyData → Tw → R PyData) (k : Nat) (c : CL) : Prop := ∀ {X : Cx} {y : Cy} {sc : Scope} {es : List Expr}, Cxx X y N sc g F k → chkL g N c sc es = true → PA X es (tL y false (evalL F c)) ∧ PA X es (tL y true (evalP F c))
def SndO (g : Gt) (N : List Str) (F : Nat → List PyData → Tw → R PyData) (k : Nat) (c : CO) : Prop := ∀ {X : Cx} {y : Cy} {sc : Scope}, Cxx X y N sc g F k → (∀ {o : Option Expr}, chkO g N c sc o = true → PO X o (tO y (evalO F c))) ∧ ∀ {es : List Expr}, chkC g N c sc es = true → PTs X es (tCd y (evalC F c))
def SndI (g : Gt) (N : List Str) (F : Nat → List PyData → Tw → R PyData) (k : Nat) (c : CI) : Prop := ∀ {X : Cx} {y : Cy} {sc : Scope} {tg e : Expr}, Cxx X y N sc g F k → chkI g N c sc tg e = true → PI X tg e (iI y (evalI F c))
theorem st_nil : SndL g N F k .nil := fun {X y sc es} C h => by
  unfold chkL at h
  cases es with
  | nil => exact ⟨snd_nil, snd_nil⟩
  | cons => cases h
theorem st_cons {c : CE} {r : CL} (hc : Snd g N F k c) (hr : SndL g N F k r) : SndL g N F k (.cons c r) := fun {X y sc es} C h => by
  unfold chkL at h
  split at h
  · simp only [Bool.and_eq_true] at h
    obtain ⟨p, q⟩ := hr C h.2
    exact ⟨snd_cons h.1.1 (hc.e false C h.1.2) p, snd_cons h.1.1 (hc.e true C h.1.2) q⟩
  · cases h
theorem st_onone : SndO g N F k .none := fun {X y sc} C => by
  constructor
  · intro o h
    unfold chkO at h
    cases o with
    | none => exact snd_o_none
    | some => cases h
  · intro es h
    unfold chkC at h
    cases es with
    | nil => exact snd_c_none
    | cons => cases h
theorem st_osome {c : CE} (hc : Snd g N F k c) : SndO g N F k (.some c) := fun {X y sc} C => by
  constructor
  · intro o h
    unfold chkO at h
    split at h
    · exact snd_o_some (hc.e true C h)
    · cases h
  · intro es h
    unfold chkC at h
    split at h
    · simp only [Bool.and_eq_true, Bool.not_eq_true'] at h
      exact snd_c_some (hc.t C h.2 h.1)
    · cases h
theorem st_ival {c : CE} (hc : Snd g N F k c) : SndI g N F k (.val c) := fun {X y sc tg e} C h => by
  unfold chkI at h
  exact snd_i_val C.toCtx (hc.e false C h)
theorem st_irng1 {a : CE} (ha : Snd g N F k a) : SndI g N F k (.rng1 a) := fun {X y sc tg e} C h => by
  unfold chkI at h
  split at h
  · simp only [Bool.and_eq_true, decide_eq_true_eq] at h
    obtain ⟨⟨⟨rfl, h1⟩, h2⟩, h3⟩ := h
    exact snd_i_rng1 C.toCtx h1 h2 (ha.e true C h3)
  · cases h
theorem st_irng2 {a b : CE} (ha : Snd g N F k a) (hb : Snd g N F k b) : SndI g N F k (.rng2 a b) := fun {X y sc tg e} C h => by
  unfold chkI at h
  split at h
  · simp only [Bool.and_eq_true, decide_eq_true_eq] at h
    obtain ⟨⟨⟨⟨⟨rfl, h1⟩, h2⟩, h3⟩, h4⟩, h5⟩ := h
    exact snd_i_rng2 C.toCtx h1 h2 h3 (ha.e true C h4) (hb.e true C h5)
  · cases h
theorem st_irng3 {a b c : CE} (ha : Snd g N F k a) (hb : Snd g N F k b) (hc : Snd g N F k c) : SndI g N F k (.rng3 a b c) := fun {X y sc tg e} C h => by
  unfold chkI at h
  split at h
  · simp only [Bool.and_eq_true, decide_eq_true_eq] at h
    obtain ⟨⟨⟨⟨⟨⟨⟨rfl, h1⟩, h2⟩, h3⟩, h4⟩, h5⟩, h6⟩, h7⟩ := h
    exact snd_i_rng3 C.toCtx h1 h2 h3 h4 (ha.e true C h5) (hb.e true C h6) (hc.e true C h7)
  · cases h
theorem st_ienm {a : CE} (ha : Snd g N F k a) : SndI g N F k (.enm a) := fun {X y sc tg e} C h => by
  unfold chkI at h
  split at h
  · simp only [Bool.and_eq_true, decide_eq_true_eq] at h
    obtain ⟨⟨⟨rfl, h1⟩, h2⟩, h3⟩ := h
    exact snd_i_enm C.toCtx h1 h2 (ha.e false C h3)
  · cases h
theorem st_tup {es : CL} (he : SndL g N F k es) : Snd g N F k (.tup es) := by
  refine Snd.plain (fun {X y sc ex} m C h => ?_) fun sc ex h => ?_
  · unfold chkE at h
    split at h
    · exact snd_tup (he C h).1
    · cases h
  · unfold chkE at h
    split at h
    · exact .inl rfl
    · cases h
theorem st_lst {es : CL} (he : SndL g N F k es) : Snd g N F k (.lst es) := by
  refine Snd.plain (fun {X y sc ex} m C h => ?_) fun sc ex h => ?_
  · unfold chkE at h
    split at h
    · exact snd_lst (he C h).1
    · cases h
  · unfold chkE at h
    split at h
    · exact .inl rfl
    · cases h
theorem st_sl {a : CE} {lo hi : CO} (ha : Snd g N F k a) (hl : SndO g N F k lo) (hh : SndO g N F k hi) : Snd g N F k (.sl a lo hi) := by
  refine Snd.plain (fun {X y sc ex} m C h => ?_) fun sc ex h => ?_
  · unfold chkE at h
    split at h
    · simp only [Bool.and_eq_true] at h
      exact snd_sl C.toCtx (ha.e true C h.1.1) ((hl C).1 h.1.2) ((hh C).1 h.2)
    · cases h
  · unfold chkE at h
    split at h
    · exact .inl rfl
    · cases h
theorem ne_of_isEmpty {α : Type} {l : List α} (h : (!l.isEmpty) = true) : l ≠ [] := by
  intro e; subst e; cases h
theorem st_bi {b : Bi} {es : CL} (he : SndL g N F k es) : Snd g N F k (.bi b es) := by
  refine Snd.plain (fun {X y sc ex} m C h => ?_) fun sc ex h => ?_
  · unfold chkE at h
    split at h
    · simp only [Bool.and_eq_true, decide_eq_true_eq] at h
      obtain ⟨⟨⟨⟨⟨rfl, h1⟩, h2⟩, h3⟩, h4⟩, h5⟩ := h
      exact snd_bi C.toCtx h1 h2 (ne_of_isEmpty h3) h4 (he C h5).2
    · cases h
  · unfold chkE at h
    split at h
    · exact .inl rfl
    · cases h
theorem fn_some {f : Nat} {x : Str} {kd : Kd} (h : (match g.fn f with
      | some (x', _, kd') => decide (x' = x) && decide (kd' = kd)
      | none => false) = true) : ∃ np, g.fn f = some (x, np, kd) := by
  split at h
  · rename_i x' np kd' e
    simp only [Bool.and_eq_true, decide_eq_true_eq] at h
    obtain ⟨rfl, rfl⟩ := h
    exact ⟨np, e⟩
  · cases h
theorem st_call {f : Nat} {es : CL} (ar : Arity g F) (he : SndL g N F k es) : Snd g N F k (.call f es) := by
  refine Snd.plain (fun {X y sc ex} m C h => ?_) fun sc ex h => ?_
  · unfold chkE at h
    split at h
    · simp only [Bool.and_eq_true] at h
      obtain ⟨⟨⟨⟨h1, h2⟩, h3⟩, h4⟩, h5⟩ := h
      obtain ⟨np, hf⟩ := fn_some h1
      exact snd_call C ar hf h2 (ne_of_isEmpty h3) h4 (he C h5).1
    · cases h
  · unfold chkE at h
    split at h
    · exact .inl rfl
    · cases h
theorem st_callD {f : Nat} {es : CL} (ar : Arity g F) (he : SndL g N F k es) : Snd g N F k (.callD f es) := by
  refine Snd.plain (fun {X y sc ex} m C h => ?_) fun sc ex h => ?_
  · unfold chkE at h
    split at h
    · simp only [Bool.and_eq_true] at h
      obtain ⟨⟨⟨⟨h1, h2⟩, h3⟩, h4⟩, h5⟩ := h
      obtain ⟨np, hf⟩ := fn_some h1
      exact snd_callD C ar hf h2 (ne_of_isEmpty h3) h4 (he C h5).1
    · cases h
  · unfold chkE at h
    split at h
    · exact .inl rfl
    · cases h
theorem st_call0 {f : Nat} : Snd g N F k (.call0 f) := by
  refine Snd.plain (fun {X y sc ex} m C h => ?_) fun sc ex h => ?_
  · unfold chkE at h
    split at h
    · simp only [Bool.and_eq_true] at h
      obtain ⟨h1, h2⟩ := h
      split at h1
      · rename_i e
        simp only [Bool.and_eq_true, decide_eq_true_eq] at h1
        obtain ⟨⟨rfl, rfl⟩, rfl⟩ := h1
        exact snd_call0 C e h2
      · cases h1
    · cases h
  · unfold chkE at h
    split at h
    · exact .inl rfl
    · cases h
theorem st_callK {f : Nat} {es : CL} {c : CE} (ar : Arity g F) (he : SndL g N F k es) (hc : Snd g N F k c) : Snd g N F k (.callK f es c) := by
  refine Snd.plain (fun {X y sc ex} m C h => ?_) fun sc ex h => ?_
  · unfold chkE at h
    split at h
    · simp only [Bool.and_eq_true, decide_eq_true_eq] at h
      obtain ⟨⟨⟨⟨⟨⟨rfl, h1⟩, h2⟩, h3⟩, h4⟩, h5⟩, h6⟩ := h
      obtain ⟨np, hf⟩ := fn_some h1
      exact snd_callK C ar hf h2 (ne_of_isEmpty h3) h4 (he C h5).1 (hc.e false C h6)
    · cases h
  · unfold chkE at h
    split at h
    · exact .inl rfl
    · cases h
theorem subB_ok {a b : List Nat} (h : subB a b = true) : ∀ i, i ∈ a → i ∈ b := fun i hi => by
  simp only [subB, List.all_eq_true] at h
  simpa using h i hi
theorem own_snd (own : List Nat) : (ownOf N own).map (·.2) = own := by simp [ownOf, Function.comp_def]
theorem cell_fn {X : Cx} {scope : Scope} {s : Shared} {H : Hp} {ce : PySem.Env} {fp : List Addr} : ∀ x, cellB scope x = true → (X.blk s H scope ce fp).fn x = true := fun x h => by
  unfold cellB at h
  show (scope.names.lookup x == some .cell) = true
  split at h
  · rename_i e; rw [e]; rfl
  · cases h
theorem st_lc1 {e : CE} {own : List Nat} {tg : Tg} {it : CI} {c : CO} (he : Snd g N F k e) (hi : SndI g N F k it) (hc : SndO g N F k c) : Snd g N F k (.lc1 e own tg it c) := by
  refine Snd.plain (fun {X y sc ex} m C h => ?_) fun sc ex h => ?_
  · unfold chkE at h
    split at h
    · rename_i elt te iter ifs asy scope pos
      simp only [Bool.and_eq_true, decide_eq_true_eq] at h
      obtain ⟨⟨⟨⟨⟨⟨⟨rfl, h1⟩, h2⟩, h3⟩, h4⟩, h5⟩, h6⟩, h7⟩ := h
      have B : BlkOk X.N X.env.scope scope (ownOf N own) := by rw [C.names, C.scope]; exact blkOk_by h1
      refine PE.imp (pe_lc (own := ownOf N own) (g := gTg y.K tg) (tt := tCd (nox y) (evalC F c)) (te := tE (nox y) false (evalE F false e)) C.calm (by rw [C.names]; exact C.nd) (hi C h5) B
        (fun s H c' cl fp => pg_tg (y := nox y) (C.blk scope s H c' cl fp).toCtx cell_fn h2) (fun s H c' cl fp => (hc (C.blk scope s H c' cl fp)).2 h6) (fun s H c' cl fp => he.e false (C.blk scope s H c' cl fp) h7) (fun x => fold_ord h4)) fun σ H Q q => ?_
      rw [own_snd]
      exact lc1_read (subB_ok h3) q
    · cases h
  · unfold chkE at h
    split at h
    · exact .inl rfl
    · cases h
theorem st_lc2 {e : CE} {own own2 : List Nat} {tg tg2 : Tg} {it it2 : CI} {c c2 : CO} (he : Snd g N F k e) (hi : SndI g N F k it) (hc : SndO g N F k c) (hi2 : SndI g N F k it2) (hc2 : SndO g N F k c2) : Snd g N F k (.lc2 e own own2 tg it c tg2 it2 c2) := by
  refine Snd.plain (fun {X y sc ex} m C h => ?_) fun sc ex h => ?_
  · unfold chkE at h
    split at h
    · rename_i elt te iter ifs asy te2 iter2 ifs2 asy2 scope pos
      simp only [Bool.and_eq_true, decide_eq_true_eq] at h
      obtain ⟨⟨⟨⟨⟨⟨⟨⟨⟨⟨⟨⟨⟨⟨rfl, rfl⟩, h1⟩, h2⟩, h3⟩, h4⟩, h5⟩, h6⟩, k1⟩, k2⟩, k3⟩, k4⟩, k5⟩, k6⟩, h7⟩ := h
      have B : BlkOk X.N X.env.scope scope (ownOf N own) := by rw [C.names, C.scope]; exact blkOk_by h1
      refine PE.imp (pe_lc2 (own := ownOf N own) (vs1 := own2) (g := gTg y.K tg) (tt := tCd (nox y) (evalC F c)) (wi1 := iI (nox y) (evalI F it2)) (g1 := gTg y.K tg2) (tt1 := tCd (nox y) (evalC F c2)) (te := tE (nox y) false (evalE F false e)) C.calm (by rw [C.names]; exact C.nd) (hi C h5) B
        (fun i hi => by rw [own_snd]; exact subB_ok k3 i hi)
        (fun s H c' cl fp => pg_tg (y := nox y) (C.blk scope s H c' cl fp).toCtx cell_fn h2) (fun s H c' cl fp => (hc (C.blk scope s H c' cl fp)).2 h6)
        (fun s H c' cl fp => hi2 (C.blk scope s H c' cl fp) k5)
        (fun s H c' cl fp => pg_tg (y := nox y) (C.blk scope s H c' cl fp).toCtx cell_fn k1) (fun s H c' cl fp => (hc2 (C.blk scope s H c' cl fp)).2 k6)
        (fun s H c' cl fp => he.e false (C.blk scope s H c' cl fp) h7) (fun x => fold_ord h4) (fun env x => fold_ord k4)) fun σ H Q q => ?_
      rw [own_snd]
      exact lc2_read (subB_ok h3) (subB_ok k2) q
    · cases h
  · unfold chkE at h
    split at h
    · exact .inl rfl
    · cases h

theorem st_dc1 {ck cv : CE} {own : List Nat} {tg : Tg} {it : CI} {c : CO} (hk : Snd g N F k ck) (hv : Snd g N F k cv) (hi : SndI g N F k it) (hc : SndO g N F k c) : Snd g N F k (.dc1 ck cv own tg it c) := by
  refine Snd.plain (fun {X y sc ex} m C h => ?_) fun sc ex h => ?_
  · unfold chkE at h
    split at h
    · rename_i kx vx te iter ifs asy scope pos
      simp only [Bool.and_eq_true, decide_eq_true_eq] at h
      obtain ⟨⟨⟨⟨⟨⟨⟨⟨rfl, h1⟩, h2⟩, h3⟩, h4⟩, h5⟩, h6⟩, h7⟩, h8⟩ := h
      have B : BlkOk X.N X.env.scope scope (ownOf N own) := by rw [C.names, C.scope]; exact blkOk_by h1
      refine PE.imp (pe_lockQ (pe_dc1 (own := ownOf N own) (g := gTg y.K tg) (tt := tCd (nox y) (evalC F c)) (tk := tE (nox y) false (evalE F false ck)) (tv := tE (nox y) false (evalE F false cv)) C.calm (by rw [C.names]; exact C.nd) (by have := C.units; omega) (hi C h5) B
        (fun s H c' cl fp => pg_tg (y := nox y) (C.blk scope s H c' cl fp).toCtx cell_fn h2) (fun s H c' cl fp => (hc (C.blk scope s H c' cl fp)).2 h6) (fun s H c' cl fp => hk.e false (C.blk scope s H c' cl fp) h7) (fun s H c' cl fp => hv.e false (C.blk scope s H c' cl fp) h8) (fun x => fold_ord h4))) fun σ H Q q => ?_
      rw [own_snd]
      exact dc1_read (subB_ok h3) q
    · cases h
  · unfold chkE at h
    split at h
    · exact .inl rfl
    · cases h
theorem st_dc2 {ck cv : CE} {own own2 : List Nat} {tg tg2 : Tg} {it it2 : CI} {c c2 : CO} (hk : Snd g N F k ck) (hv : Snd g N F k cv) (hi : SndI g N F k it) (hc : SndO g N F k c) (hi2 : SndI g N F k it2) (hc2 : SndO g N F k c2) : Snd g N F k (.dc2 ck cv own own2 tg it c tg2 it2 c2) := by
  refine Snd.plain (fun {X y sc ex} m C h => ?_) fun sc ex h => ?_
  · unfold chkE at h
    split at h
    · rename_i kx vx te iter ifs asy te2 iter2 ifs2 asy2 scope pos
      simp only [Bool.and_eq_true, decide_eq_true_eq] at h
      obtain ⟨⟨⟨⟨⟨⟨⟨⟨⟨⟨⟨⟨⟨⟨⟨rfl, rfl⟩, h1⟩, h2⟩, h3⟩, h4⟩, h5⟩, h6⟩, k1⟩, k2⟩, k3⟩, k4⟩, k5⟩, k6⟩, h7⟩, h8⟩ := h
      have B : BlkOk X.N X.env.scope scope (ownOf N own) := by rw [C.names, C.scope]; exact blkOk_by h1
      refine PE.imp (pe_lockQ (pe_dc2 (own := ownOf N own) (vs1 := own2) (g := gTg y.K tg) (tt := tCd (nox y) (evalC F c)) (wi1 := iI (nox y) (evalI F it2)) (g1 := gTg y.K tg2) (tt1 := tCd (nox y) (evalC F c2)) (tk := tE (nox y) false (evalE F false ck)) (tv := tE (nox y) false (evalE F false cv)) C.calm (by rw [C.names]; exact C.nd) (by have := C.units; omega) (hi C h5) B
        (fun i hi => by rw [own_snd]; exact subB_ok k3 i hi)
        (fun s H c' cl fp => pg_tg (y := nox y) (C.blk scope s H c' cl fp).toCtx cell_fn h2) (fun s H c' cl fp => (hc (C.blk scope s H c' cl fp)).2 h6)
        (fun s H c' cl fp => hk.e false (C.blk scope s H c' cl fp) h7) (fun s H c' cl fp => hv.e false (C.blk scope s H c' cl fp) h8)
        (fun s H c' cl fp => hi2 (C.blk scope s H c' cl fp) k5)
        (fun s H c' cl fp => pg_tg (y := nox y) (C.blk scope s H c' cl fp).toCtx cell_fn k1) (fun s H c' cl fp => (hc2 (C.blk scope s H c' cl fp)).2 k6)
        (fun x => fold_ord h4) (fun env x => fold_ord k4))) fun σ H Q q => ?_
      rw [own_snd]
      exact dc2_read (subB_ok h3) (subB_ok k2) q
    · cases h
  · unfold chkE at h
    split at h
    · exact .inl rfl
    · cases h
theorem st_dct0 : Snd g N F k .dct0 := by
  refine Snd.plain (fun {X y sc ex} m C h => ?_) fun sc ex h => ?_
  · unfold chkE at h
    split at h
    · exact snd_dct0
    · cases h
  · unfold chkE at h
    split at h
    · exact .inl rfl
    · cases h
theorem st_hole : Snd g N F k .hole where
  e := fun m C h => ⟨fun pins s σ H Q I q => by
    obtain ⟨env, t, O, r, q⟩ := q
    exact q.elim⟩
  t := fun C h hi => ⟨fun pins s σ H Q I q => by
    obtain ⟨env, t, O, r, q⟩ := q
    exact q.elim⟩
  w := fun C h => ⟨fun whole pins s σ H Q I q => by
    obtain ⟨env, t, O, r, q⟩ := q
    exact q.elim⟩
theorem st_lzip {es : CL} (he : SndL g N F k es) : Snd g N F k (.lzip es) := by
  refine Snd.plain (fun {X y sc ex} m C h => ?_) fun sc ex h => ?_
  · unfold chkE at h
    split at h
    · simp only [Bool.and_eq_true, decide_eq_true_eq] at h
      obtain ⟨⟨⟨⟨⟨⟨rfl, rfl⟩, h1⟩, h2⟩, h3⟩, h4⟩, h5⟩ := h
      exact snd_lzip C.toCtx h1 h2 h3 h4 (he C h5).2
    · cases h
  · unfold chkE at h
    split at h
    · exact .inl rfl
    · cases h
theorem st_rev {a : CE} (ha : Snd g N F k a) : Snd g N F k (.rev a) := by
  refine Snd.plain (fun {X y sc ex} m C h => ?_) fun sc ex h => ?_
  · unfold chkE at h
    split at h
    · simp only [Bool.and_eq_true, decide_eq_true_eq] at h
      obtain ⟨rfl, h1⟩ := h
      exact snd_rev C.toCtx (ha.e true C h1)
    · cases h
  · unfold chkE at h
    split at h
    · exact .inl rfl
    · cases h
theorem st_lrng {a : CE} (ha : Snd g N F k a) : Snd g N F k (.lrng a) := by
  refine Snd.plain (fun {X y sc ex} m C h => ?_) fun sc ex h => ?_
  · unfold chkE at h
    split at h
    · simp only [Bool.and_eq_true, decide_eq_true_eq] at h
      obtain ⟨⟨⟨⟨⟨rfl, rfl⟩, h1⟩, h2⟩, h3⟩, h4⟩ := h
      exact snd_lrng C.toCtx h1 h2 h3 (ha.e true C h4)
    · cases h
  · unfold chkE at h
    split at h
    · exact .inl rfl
    · cases h
theorem st_trng {a : CE} (ha : Snd g N F k a) : Snd g N F k (.trng a) := by
  refine Snd.plain (fun {X y sc ex} m C h => ?_) fun sc ex h => ?_
  · unfold chkE at h
    split at h
    · simp only [Bool.and_eq_true, decide_eq_true_eq] at h
      obtain ⟨⟨⟨⟨⟨rfl, rfl⟩, h1⟩, h2⟩, h3⟩, h4⟩ := h
      exact snd_trng C.toCtx h1 h2 h3 (ha.e true C h4)
    · cases h
  · unfold chkE at h
    split at h
    · exact .inl rfl
    · cases h
theorem st_dget {a kk d : CE} (ha : Snd g N F k a) (hk : Snd g N F k kk) (hd : Snd g N F k d) : Snd g N F k (.dget a kk d) := by
  refine Snd.plain (fun {X y sc ex} m C h => ?_) fun sc ex h => ?_
  · unfold chkE at h
    split at h
    · simp only [Bool.and_eq_true, decide_eq_true_eq] at h
      obtain ⟨⟨⟨⟨⟨⟨⟨rfl, h1⟩, h2⟩, h3⟩, h4⟩, h5⟩, h6⟩, h7⟩ := h
      exact snd_dget C.toCtx h1 h2 h3 h4 (ha.e true C h5) (hk.e true C h6) (hd.e false C h7)
    · cases h
  · unfold chkE at h
    split at h
    · exact .inl rfl
    · cases h
mutual
theorem sndE (ar : Arity g F) : ∀ c : CE, Snd g N F k c
  | .var i => st_var
  | .cst d => st_cst
  | .glb x d => st_glb
  | .tup es => st_tup (sndL ar es)
  | .lst es => st_lst (sndL ar es)
  | .bin o a b => st_bin (sndE ar a) (sndE ar b)
  | .neg a => st_neg (sndE ar a)
  | .cmp o a b => st_cmp (sndE ar a) (sndE ar b)
  | .chn o p a b c => st_chn (sndE ar a) (sndE ar b) (sndE ar c)
  | .and a b => st_and (sndE ar a) (sndE ar b)
  | .or a b => st_or (sndE ar a) (sndE ar b)
  | .not a => st_not (sndE ar a)
  | .ite c a b => st_ite (sndE ar c) (sndE ar a) (sndE ar b)
  | .ix a i => st_ix (sndE ar a) (sndE ar i)
  | .sl a lo hi => st_sl (sndE ar a) (sndO ar lo) (sndO ar hi)
  | .call f es => st_call ar (sndL ar es)
  | .call0 f => st_call0
  | .callK f es c => st_callK ar (sndL ar es) (sndE ar c)
  | .callD f es => st_callD ar (sndL ar es)
  | .bi b es => st_bi (sndL ar es)
  | .isi a ty => st_isi (sndE ar a)
  | .mth mt a b => st_mth (sndE ar a) (sndE ar b)
  | .lc1 e own tg it c => st_lc1 (sndE ar e) (sndI ar it) (sndO ar c)
  | .lc2 e own own2 tg it c tg2 it2 c2 => st_lc2 (sndE ar e) (sndI ar it) (sndO ar c) (sndI ar it2) (sndO ar c2)
  | .dc1 ck cv own tg it c => st_dc1 (sndE ar ck) (sndE ar cv) (sndI ar it) (sndO ar c)
  | .dc2 ck cv own own2 tg it c tg2 it2 c2 => st_dc2 (sndE ar ck) (sndE ar cv) (sndI ar it) (sndO ar c) (sndI ar it2) (sndO ar c2)
  | .dct0 => st_dct0
  | .lzip es => st_lzip (sndL ar es)
  | .rev a => st_rev (sndE ar a)
  | .lrng a => st_lrng (sndE ar a)
  | .trng a => st_trng (sndE ar a)
  | .dget a k d => st_dget (sndE ar a) (sndE ar k) (sndE ar d)
  | .hole => st_hole
theorem sndL (ar : Arity g F) : ∀ c : CL, SndL g N F k c
  | .nil => st_nil
  | .cons e r => st_cons (sndE ar e) (sndL ar r)
theorem sndO (ar : Arity g F) : ∀ c : CO, SndO g N F k c
  | .none => st_onone
  | .some e => st_osome (sndE ar e)
theorem sndI (ar : Arity g F) : ∀ c : CI, SndI g N F k c
  | .val e => st_ival (sndE ar e)
  | .rng1 a => st_irng1 (sndE ar a)
  | .rng2 a b => st_irng2 (sndE ar a) (sndE ar b)
  | .rng3 a b c => st_irng3 (sndE ar a) (sndE ar b) (sndE ar c)
  | .enm a => st_ienm (sndE ar a)
end
end
end Wv

set_option maxHeartbeats 4000000
namespace Wv
open PySem L2

/-- a body's own frame (no block of a comprehension) -/
structure Sxx (X : Cx) (y : Cy) (N : List Str) (sc : Scope) (g : Gt) (F : Nat → List PyData → Tw → R PyData) (k : Nat) : Prop extends Cxx X y N sc g F k where
  fnT : ∀ x, X.fn x = true
  po : PassesOwn (model X.prog X.w) X.A X.env X.xe
  kind : sc.kind = .function
  stk : X.stack = X.env :: X.outer
  frm : X.env.frame = some X.env.locals
  exn : X.ex = []

/-! ### readings of statements -/
def FinS (y : Cy) (O : List Addr) (H : Hp) (D : Ends) : SR → Prop
  | .next env' t' => ∀ σ' H' O', Rel y env' t' σ' H' O' → Fut O H O' H' → D.nx σ' H'
  | .ret d t' => ∀ v H', Grow y.z y.H0 H' → TwOk y.z H' t' → Rp y.K y.z (hide y.O0 H') v d → D.rt v H'
  | .exc c env' t' => ∀ σ' H' O', Rel y env' t' σ' H' O' → Fut O H O' H' → y.W (.ref (y.z.cls c)) none σ' H'
  | .bad => False
def tS (y : Cy) (run : Env → Tw → SR) : TS := fun D σ H => ∃ env t O, Rel y env t σ H O ∧ FinS y O H D (run env t)

theorem PS.imp {X : Cx} {s : Stmt} {t t' : TS} (h : PS X s t) (i : ∀ D σ H, t' D σ H → t D σ H) : PS X s t' := ⟨fun pins s σ H D I q => h.run pins s σ H D I (i D σ H q)⟩
theorem PSs.imp {X : Cx} {s : List Stmt} {t t' : TS} (h : PSs X s t) (i : ∀ D σ H, t' D σ H → t D σ H) : PSs X s t' := ⟨fun pins s σ H D I q => h.run pins s σ H D I (i D σ H q)⟩

section
variable {X : Cx} {y : Cy} {N : List Str} {sc : Scope} {m : Bool} {g : Gt} {F : Nat → List PyData → Tw → R PyData} {k : Nat}
variable {env env' : Env} {t t' : Tw} {σ σ' : St} {H H' : Hp} {O O' : List Addr} {D : Ends}

theorem FinS.fut {x : SR} (h : FinS y O H D x) (f : Fut O H O' H') : FinS y O' H' D x := by
  cases x with
  | next env t => exact fun σ' H' O' r f' => h σ' H' O' r (f.trans f')
  | ret d t => exact h
  | exc c env t => exact fun σ' H' O' r f' => h σ' H' O' r (f.trans f')
  | bad => exact h
theorem Rel.hideO0 (r : Rel y env t σ H O) : ∀ a u, hide O H a = some u → hide y.O0 H a = some u := fun a u h => by
  obtain ⟨h1, h2⟩ := hide_some h
  exact hide_of (fun q => h1 (r.sub a q)) h2

/-- an expression within a statement -/
theorem tE.thenS {ra : Env → Tw → R PyData} {f : PyData → Tw → SR} {C : V → Hp → Prop} (r : Rel y env t σ H O) (h : FinS y O H D (SR.of (ra env t) env f))
    (q : ∀ d t1 v H1, ra env t = .ok d t1 → Grow y.z H H1 → Rel y env t1 σ H1 O → Rv y m O H1 v d → FinS y O H1 D (f d t1) → C v H1) : tE y m ra σ H C := by
  refine ⟨env, t, O, r, ?_⟩
  cases e : ra env t with
  | bad => rw [e] at h; exact h
  | exc c t1 =>
    rw [e] at h
    exact fun H' g w => h σ H' O (r.after g w) (r.mono g)
  | ok d t1 =>
    rw [e] at h
    intro v H1 g w rv
    exact q d t1 v H1 e g (r.after g w) rv (FinS.fut h (r.mono g))
theorem tL.thenS {ra : Env → Tw → R (List PyData)} {f : List PyData → Tw → SR} {C : List V → Hp → Prop} (r : Rel y env t σ H O) (h : FinS y O H D (SR.of (ra env t) env f))
    (q : ∀ d t1 v H1, ra env t = .ok d t1 → Grow y.z H H1 → Rel y env t1 σ H1 O → Paired (Rv y m O H1) v d → FinS y O H1 D (f d t1) → C v H1) : tL y m ra σ H C := by
  refine ⟨env, t, O, r, ?_⟩
  cases e : ra env t with
  | bad => rw [e] at h; exact h
  | exc c t1 =>
    rw [e] at h
    exact fun H' g w => h σ H' O (r.after g w) (r.mono g)
  | ok d t1 =>
    rw [e] at h
    intro v H1 g w rv
    exact q d t1 v H1 e g (r.after g w) rv (FinS.fut h (r.mono g))

/-! ### blocks -/
theorem sst_nil : PSs X [] (tS y fun env t => .next env t) := PSs.imp pss_nil fun D σ H h => by
  obtain ⟨env, t, O, r, h⟩ := h
  exact h σ H O r Fut.refl
theorem sst_cons {st : Stmt} {rest : List Stmt} {rs rr : Env → Tw → SR} (h1 : PS X st (tS y rs)) (h2 : PSs X rest (tS y rr)) : PSs X (st :: rest) (tS y fun env t => match rs env t with
    | .next env' t' => rr env' t'
    | x => x) := PSs.imp (pss_cons h1 h2) fun D σ H h => by
  obtain ⟨env, t, O, r, h⟩ := h
  refine ⟨env, t, O, r, ?_⟩
  dsimp only at h
  cases e : rs env t with
  | next env' t' =>
    rw [e] at h
    exact fun σ' H' O' r' f => ⟨env', t', O', r', FinS.fut h f⟩
  | ret d t' => rw [e] at h; exact h
  | exc c env' t' => rw [e] at h; exact h
  | bad => rw [e] at h; exact h
/-- an owned thing is let go: H' differs from H at its place alone -/
theorem Rel.letgo {i : Nat} {d : PyData} {a : Addr} (r : Rel y env t σ H O) (hl : i < env.length) (e : env[i]? = some (some (true, d))) (ea : σ[i]? = some (some (.ref a))) (p : OwnAt y H O a d) (hs : ∀ b, b ≠ a → H' b = H b) (pa : Rp y.K y.z (hide (O.filter fun b => decide (b ≠ a)) H') (.ref a) d) :
    Rel y (env.set i (some (false, d))) t σ H' (O.filter fun b => decide (b ≠ a)) ∧ Fut O H (O.filter fun b => decide (b ≠ a)) H' := by
  have na : ∀ b, b ∈ y.O0 → b ≠ a := fun b hb n => by
    subst n
    exact r.dom0 _ hb p.new
  have mo : Fut O H (O.filter fun b => decide (b ≠ a)) H' := fun b u q => by
    obtain ⟨q1, q2⟩ := hide_some q
    refine hide_of (fun z => q1 (List.mem_filter.mp z).1) ?_
    rw [hs b (fun z => q1 (by rw [z]; exact p.mem))]
    exact q2
  refine ⟨?_, mo⟩
  exact {
    len := by rw [List.length_set]; exact r.len
    sh := fun j e' q => by
      by_cases n : i = j
      · subst n
        rw [List.getElem?_set_self hl] at q
        cases q
        exact ⟨.ref a, ea, pa⟩
      · rw [List.getElem?_set_ne n] at q
        obtain ⟨v, ev, pv⟩ := r.sh j e' q
        exact ⟨v, ev, pv.mono mo⟩
    ow := fun j e' q => by
      by_cases n : i = j
      · subst n
        rw [List.getElem?_set_self hl] at q
        cases q
      · rw [List.getElem?_set_ne n] at q
        obtain ⟨b, eb, pb⟩ := r.ow j e' q
        have nb : b ≠ a := fun z => by
          subst z
          exact n (r.inj i j _ _ b e q ea eb)
        exact ⟨b, eb, List.mem_filter.mpr ⟨pb.mem, by simpa using nb⟩, pb.nT, pb.nN, pb.new, pb.is.mono mo fun u q => by rw [hs b nb]; exact q⟩
    inj := fun j j' d1 d2 b q1 q2 q3 q4 => by
      have no : ∀ (j : Nat) d', (env.set i (some (false, d)))[j]? = some (some (true, d')) → i ≠ j := fun j d' q n => by
        subst n
        rw [List.getElem?_set_self hl] at q; cases q
      rw [List.getElem?_set_ne (no j _ q1)] at q1
      rw [List.getElem?_set_ne (no j' _ q2)] at q2
      exact r.inj j j' _ _ b q1 q2 q3 q4
    grow := fun b u q n1 n2 => by
      rw [hs b (fun z => by rw [z, p.new] at q; cases q)]
      exact r.grow b u q n1 n2
    sub := fun b hb => List.mem_filter.mpr ⟨r.sub b hb, by simpa using na b hb⟩
    dom := fun b hb => by
      obtain ⟨h1, h2⟩ := List.mem_filter.mp hb
      rw [hs b (by simpa using h2)]
      exact r.dom b h1
    tT := r.tT
    dom0 := r.dom0
    tN := r.tN
    ne := r.ne
    tw := ⟨by rw [hs _ (Ne.symm p.nT)]; exact r.tw.1, by rw [hs _ (Ne.symm p.nN)]; exact r.tw.2.1, r.tw.2.2⟩ }
/-- an owned thing is shared from here on -/
theorem Rel.share {i : Nat} {o : Bool} {d : PyData} (r : Rel y env t σ H O) (e : env[i]? = some (some (o, d))) : (∃ O', Rel y (env.set i (some (false, d))) t σ H O' ∧ Fut O H O' H) ∨
    ∃ a u, H a = some u ∧ Mut (some u) ∧ ∀ od, ∃ O', Rel y (env.set i (some (false, d))) t σ (upd H a (.frz od u)) O' ∧ Fut O H O' (upd H a (.frz od u)) := by
  have hl : i < env.length := by
    rcases Nat.lt_or_ge i env.length with h | h
    · exact h
    · rw [List.getElem?_eq_none h] at e; cases e
  cases o with
  | false =>
    have : env.set i (some (false, d)) = env := by
      apply List.ext_getElem?
      intro j
      by_cases n : i = j
      · subst n; rw [List.getElem?_set_self hl, e]
      · rw [List.getElem?_set_ne n]
    rw [this]
    exact .inl ⟨O, r, Fut.refl⟩
  | true =>
    obtain ⟨a, ea, p⟩ := r.ow i d e
    have nin : a ∉ O.filter fun b => decide (b ≠ a) := fun z => by
      have := (List.mem_filter.mp z).2
      simp at this
    have mo : ∀ o : HO, ∀ b u, hide O H b = some u → hide (O.filter fun b => decide (b ≠ a)) (upd H a o) b = some u := fun o b u q => by
      obtain ⟨q1, q2⟩ := hide_some q
      refine hide_of (fun z => q1 (List.mem_filter.mp z).1) ?_
      rw [upd_ne (fun z => q1 (by rw [z]; exact p.mem))]
      exact q2
    have pi := p.is
    cases pi with
    | lst h1 h2 h4 =>
      have mo : Fut O H (O.filter fun b => decide (b ≠ a)) H := fun b u q => by
        obtain ⟨q1, q2⟩ := hide_some q
        exact hide_of (fun z => q1 (List.mem_filter.mp z).1) q2
      have z := r.letgo hl e ea p (fun b _ => rfl) (.lst (hide_of nin h1) h2 (h4.mono mo))
      exact .inl ⟨_, z.1, z.2⟩
    | dk h1 h2 h3 h4 => exact .inr ⟨a, _, h1, True.intro, fun od => ⟨_, r.letgo hl e ea p (fun b n => upd_ne n) (.dk (hide_of nin upd_same) h2 h3 (h4.mono (mo _)))⟩⟩
    | dt h1 h2 h3 h4 h5 => exact .inr ⟨a, _, h1, True.intro, fun od => ⟨_, r.letgo hl e ea p (fun b n => upd_ne n) (.dt (hide_of nin upd_same) h2 h3 h4 (h5.mono (mo _)))⟩⟩
theorem pss_lockB {rest : List Stmt} {t : TS} (h : PSs X rest t) : PSs X rest (fun D σ H => t D σ H ∨ ∃ a u, H a = some u ∧ Mut (some u) ∧ ∀ od, t D σ (upd H a (.frz od u))) := ⟨fun pins s σ H D I q => by
  rcases q with q | ⟨a, u, e, mu, q⟩
  · exact h.run pins s σ H D I q
  · obtain ⟨od, I2⟩ := I.lock e mu
    exact h.run pins s σ _ D I2 (q od)⟩
theorem sst_shr {i : Nat} {rest : List Stmt} {rr : Env → Tw → SR} (h2 : PSs X rest (tS y rr)) : PSs X rest (tS y fun env t => match env[i]? with
    | some (some (_, d)) => rr (env.set i (some (false, d))) t
    | _ => .bad) := PSs.imp (pss_lockB h2) fun D σ H h => by
  obtain ⟨env, t, O, r, h⟩ := h
  dsimp only at h
  split at h
  · rename_i o d e
    rcases r.share e with ⟨O', r', f⟩ | ⟨a, u, ha, mu, z⟩
    · exact .inl ⟨_, t, O', r', FinS.fut h f⟩
    · refine .inr ⟨a, u, ha, mu, fun od => ?_⟩
      obtain ⟨O', r', f⟩ := z od
      exact ⟨_, t, O', r', FinS.fut h f⟩
  · exact h.elim

/-! ### small statements -/
theorem sst_ret {e : Expr} {pos : Pos} {ra : Env → Tw → R PyData} (he : PE X e (tE y false ra)) : PS X (.Return (some e) pos) (tS y fun env t => SR.of (ra env t) env fun d t => .ret d t) := PS.imp (ps_ret he) fun D σ H h => by
  obtain ⟨env, t, O, r, h⟩ := h
  refine tE.thenS r h fun d t1 v H1 e g r1 rv z => ?_
  exact z v H1 r1.grow r1.tw (rv.share.mono r1.hideO0)
/-- no comprehension -/
def noComp : Expr → Bool
  | .ListComp .. => false
  | .SetComp .. => false
  | .DictComp .. => false
  | _ => true
theorem swap_none {e : Expr} {tg : Option Expr} {l : Nat} {env : PySem.Env} (h : noComp e = true) : swapsWith e tg l env = pure false := by
  cases e <;> first | rfl | cases h
theorem sst_expr {e : Expr} {pos : Pos} {ra : Env → Tw → R PyData} (hn : noComp e = true) (he : PE X e (tE y true ra)) : PS X (.Expr e pos) (tS y fun env t => SR.of (ra env t) env fun _ t => .next env t) := PS.imp (ps_expr he (swap_none hn)) fun D σ H h => by
  obtain ⟨env, t, O, r, h⟩ := h
  refine tE.thenS r h fun d t1 v H1 e g r1 rv z => ?_
  exact z σ H1 O r1 Fut.refl
theorem sst_asg {i : Nat} {x : Str} {e : Expr} {pos pos' : Pos} {ra : Env → Tw → R PyData} (C : Sxx X y N sc g F k) (hi : N[i]? = some x) (hx : locB sc x = true) (hs : swapsWith e (some (.Name x pos')) pos.line X.env = pure false) (he : PE X e (tE y false ra)) :
    PS X (.Assign [.Name x pos'] e pos) (tS y fun env t => SR.of (ra env t) env fun d t => .next (env.set i (some (false, d))) t) := by
  refine PS.imp (ps_set (i := i) (by rw [C.names]; exact C.nd) (by rw [C.names]; exact hi) (by rw [C.scope]; exact loc_of hx) he hs (.inl (C.fnT x))) fun D σ H h => ?_
  obtain ⟨env, t, O, r, h⟩ := h
  refine tE.thenS r h fun d t1 v H1 e g r1 rv z => ?_
  exact z _ H1 O (r1.store rv.share) Fut.refl
theorem sst_asgT {is : List Nat} {tg e : Expr} {pos : Pos} {ra : Env → Tw → R PyData} (C : Sxx X y N sc g F k) (ht : chkTg N sc (fun _ => true) (.tup is) tg = true) (hn : noComp e = true) (hw : swappedStores [tg] e X.env = pure none) (he : PE X e (tE y false ra)) :
    PS X (.Assign [tg] e pos) (tS y fun env t => SR.of (ra env t) env fun d t => match bindTg (.tup is) d env with
      | some env' => .next env' t
      | none => .bad) := by
  have hg := pg_tg C.toCtx (fun x _ => C.fnT x) ht
  have h1 : (assignEach [tg] X.env).map (·.2) = [assign tg X.env] := by
    cases tg with
    | Tuple es kk p => rfl
    | _ => cases ht
  refine PS.imp (ps_asg he hg (swap_none hn) hw h1) fun D σ H h => ?_
  obtain ⟨env, t, O, r, h⟩ := h
  refine tE.thenS r h fun d t1 v H1 e g r1 rv z => ?_
  cases eb : bindTg (.tup is) d env with
  | none => rw [eb] at z; exact z.elim
  | some env' =>
    rw [eb] at z
    exact tg_ok rv.share eb fun ws c => z _ H1 O (c _ _ _ r1 Fut.refl) Fut.refl
end
end Wv

set_option maxHeartbeats 4000000
namespace Wv
open PySem L2

section
variable {X : Cx} {y : Cy} {N : List Str} {sc : Scope} {m : Bool} {g : Gt} {F : Nat → List PyData → Tw → R PyData} {k : Nat}
variable {env env' : Env} {t t' : Tw} {σ σ' : St} {H H' : Hp} {O O' : List Addr} {D : Ends}

/-! ### if -/
def lstB : Option HO → Bool
  | some (.lst _) => true
  | _ => false
/-- what stays owned while a test runs -/
def keepO (y : Cy) (H : Hp) (O : List Addr) : List Addr := O.filter fun a => decide (a ∈ y.O0) || !lstB (H a)
theorem borrow_get {i : Nat} {b : Bool} {d : PyData} (e : (borrow env)[i]? = some (some (b, d))) : ∃ o, env[i]? = some (some (o, d)) ∧ (o = false → b = false) ∧ (b = true → ∃ kds, d = .dict kds) ∧ (b = false → o = true → ∀ kds, d ≠ .dict kds) := by
  simp only [Wv.borrow, List.getElem?_map] at e
  cases q : env[i]? with
  | none => rw [q] at e; cases e
  | some o =>
    rw [q] at e
    cases o with
    | none => cases e
    | some p =>
      obtain ⟨o, d'⟩ := p
      simp only [Option.map_some, Option.some.injEq] at e
      cases d' with
      | dict kds =>
        simp only [borrowP, Prod.mk.injEq] at e
        obtain ⟨rfl, rfl⟩ := e
        exact ⟨o, rfl, fun z => z, fun _ => ⟨kds, rfl⟩, fun z1 z2 => by rw [z1] at z2; cases z2⟩
      | _ =>
        simp only [borrowP, Prod.mk.injEq] at e
        obtain ⟨rfl, rfl⟩ := e
        exact ⟨o, rfl, fun _ => rfl, fun z => (nomatch z), fun _ _ kds z => (nomatch z)⟩
theorem Rel.borrow (r : Rel y env t σ H O) : Rel y (borrow env) t σ H (keepO y H O) := by
  have mo : Fut O H (keepO y H O) H := fun a u h => by
    obtain ⟨h1, h2⟩ := hide_some h
    exact hide_of (fun q => h1 (List.mem_filter.mp q).1) h2
  exact {
    len := by rw [r.len]; simp [Wv.borrow]
    sh := fun i d e => by
      obtain ⟨o, q, q1, q2, q3⟩ := borrow_get e
      cases o with
      | false =>
        obtain ⟨v, ev, pv⟩ := r.sh i _ q
        exact ⟨v, ev, pv.mono mo⟩
      | true =>
        obtain ⟨a, ea, p⟩ := r.ow i _ q
        have pi := p.is
        cases pi with
        | lst h1 h2 h4 =>
          refine ⟨.ref a, ea, .lst (hide_of (fun z => ?_) h1) h2 (h4.mono mo)⟩
          have z := (List.mem_filter.mp z).2
          rw [h1] at z
          simp only [lstB, Bool.not_true, Bool.or_false, decide_eq_true_eq] at z
          exact r.dom0 a z p.new
        | dk => exact absurd rfl (q3 rfl rfl _)
        | dt => exact absurd rfl (q3 rfl rfl _)
    ow := fun i d e => by
      obtain ⟨o, q, q1, q2, q3⟩ := borrow_get e
      cases o with
      | false => cases q1 rfl
      | true =>
        obtain ⟨a, ea, p⟩ := r.ow i _ q
        obtain ⟨kds, rfl⟩ := q2 rfl
        refine ⟨a, ea, List.mem_filter.mpr ⟨p.mem, ?_⟩, p.nT, p.nN, p.new, p.is.mono mo fun u q => q⟩
        have pi := p.is
        generalize hd : PyData.dict kds = d at pi
        cases pi with
        | lst => cases hd
        | dk h1 => rw [h1]; simp [lstB]
        | dt h1 => rw [h1]; simp [lstB]
    inj := fun i j d e a q1 q2 q3 q4 => by
      obtain ⟨o1, z1, w1, _⟩ := borrow_get q1
      obtain ⟨o2, z2, w2, _⟩ := borrow_get q2
      cases o1 with
      | false => cases w1 rfl
      | true =>
        cases o2 with
        | false => cases w2 rfl
        | true => exact r.inj i j _ _ a z1 z2 q3 q4
    grow := r.grow
    sub := fun a h => List.mem_filter.mpr ⟨r.sub a h, by simp [h]⟩
    dom := fun a h => r.dom a (List.mem_filter.mp h).1
    tT := r.tT
    dom0 := r.dom0
    tN := r.tN
    ne := r.ne
    tw := r.tw }
theorem sst_ite {ec : Expr} {sa sb : List Stmt} {pos : Pos} {rc : Env → Tw → R PyData} {ra rb : Env → Tw → SR} (hc : PT X ec (tT y rc)) (ha : PSs X sa (tS y ra)) (hb : PSs X sb (tS y rb)) :
    PS X (.If ec sa sb pos) (tS y fun env t => SR.of (rc (borrow env) t) env fun x t => match x with
      | .bool true => ra env t
      | .bool false => rb env t
      | _ => .bad) := PS.imp (ps_if hc ha hb) fun D σ H h => by
  obtain ⟨env, t, O, r, h⟩ := h
  refine ⟨Wv.borrow env, t, keepO y H O, r.borrow, ?_⟩
  dsimp only at h
  cases e : rc (Wv.borrow env) t with
  | bad => rw [e] at h; exact h
  | exc c t1 => rw [e] at h; exact fun H' g w => h σ H' O (r.after g w) (r.mono g)
  | ok d t1 =>
    rw [e] at h
    cases d with
    | bool b =>
      refine ⟨b, rfl, fun H' g w => ?_⟩
      cases b with
      | true => rw [if_pos rfl]; exact ⟨env, t1, O, r.after g w, FinS.fut h (r.mono g)⟩
      | false => rw [if_neg Bool.false_ne_true]; exact ⟨env, t1, O, r.after g w, FinS.fut h (r.mono g)⟩
    | _ => exact False.elim h

/-! ### for -/
theorem fut_ext (h : ∀ a u, H a = some u → H' a = some u) : Fut O H O H' := fun a u q => hide_of (hide_some q).1 (h _ _ (hide_some q).2)
theorem sst_for {tg : Tg} {te iter : Expr} {body : List Stmt} {pos : Pos} {ri : Env → Tw → R (List PyData)} {rb : Env → Tw → SR} (C : Sxx X y N sc g F k) (ht : chkTg N sc (fun _ => true) tg te = true) (ho : ordE iter = true) (hi : PI X te iter (iI y ri)) (hb : PSs X body (tS y rb)) :
    PS X (.For te iter body [] pos) (tS y fun env t => SR.of (ri env t) env fun xs t => forLoop (fun x env t => match bindTg tg x env with
      | some env' => rb env' t
      | none => .bad) xs env t) := by
  refine PS.imp (ps_for C.po C.calm hi (pg_tg C.toCtx (fun x _ => C.fnT x) ht) hb (fun x => fold_ord ho)) fun D σ H h => ?_
  obtain ⟨env, t, O, r, h⟩ := h
  refine ⟨env, t, O, r, ?_⟩
  dsimp only at h
  cases e1 : ri env t with
  | bad => rw [e1] at h; exact h
  | exc c t1 => rw [e1] at h; exact fun H' g w => h σ H' O (r.after g w) (r.mono g)
  | ok ds t1 =>
    rw [e1] at h
    intro J H1 g1 w1 gv
    have r1 := r.after g1 w1
    have h := FinS.fut h (r.mono g1)
    generalize hf : (fun (x : PyData) (env : Env) (t : Tw) => match bindTg tg x env with
      | some env' => rb env' t
      | none => SR.bad) = f at h
    refine ⟨fun i k σ' H' => k = ds.length - i ∧ i ≤ ds.length ∧ ∃ env' t' O', Rel y env' t' σ' H' O' ∧ Fut O H1 O' H' ∧ FinS y O' H' D (forLoop f (ds.drop i) env' t'), ⟨ds.length, by simp, Nat.zero_le _, env, t1, O, r1, Fut.refl, by simpa using h⟩, ?_⟩
    rintro i k σ2 H2 ⟨rfl, hil, env2, t2, O2, r2, f2, h2⟩
    obtain ⟨gs, gn⟩ := gv.2 i O2 H2 f2 r2.dom
    by_cases hlt : i < ds.length
    · obtain ⟨d, ed⟩ : ∃ d, ds[i]? = some d := ⟨ds[i], List.getElem?_eq_getElem hlt⟩
      obtain ⟨go, yl⟩ := gn d ed
      have edrop : ds.drop i = d :: ds.drop (i + 1) := by
        rw [List.drop_eq_getElem_cons hlt]
        congr 1
        rw [List.getElem?_eq_getElem hlt] at ed
        exact Option.some.inj ed
      rw [edrop] at h2
      unfold forLoop at h2
      refine .inr ⟨go, fun σ' H' => ds.length - (i + 1) = ds.length - (i + 1) ∧ i + 1 ≤ ds.length ∧ ∃ env' t' O', Rel y env' t' σ' H' O' ∧ Fut O H1 O' H' ∧ FinS y O' H' D (forLoop f (ds.drop (i + 1)) env' t'), fun σ' H' q => ⟨ds.length - (i + 1), by omega, q⟩, fun x H3 q => ?_⟩
      obtain ⟨ext, px⟩ := yl x H3 q
      have r3 : Rel y env2 t2 σ2 H3 O2 := r2.after (grow_ext ext) (tw_ext r2.tw ext)
      have f3 : Fut O2 H2 O2 H3 := fut_ext ext
      have hfd : f d env2 t2 = match bindTg tg d env2 with
        | some env' => rb env' t2
        | none => SR.bad := by rw [← hf]
      rw [hfd] at h2
      cases eb : bindTg tg d env2 with
      | none => rw [eb] at h2; exact h2.elim
      | some env' =>
        rw [eb] at h2
        simp only at h2
        refine tg_ok px eb fun ws c => ⟨env', t2, O2, c _ _ _ r3 Fut.refl, ?_⟩
        cases er : rb env' t2 with
        | bad => rw [er] at h2; exact h2
        | ret v t4 => rw [er] at h2; exact h2
        | exc c env4 t4 =>
          rw [er] at h2
          exact fun σ' H' O' r' f' => h2 σ' H' O' r' (f3.trans f')
        | next env4 t4 =>
          rw [er] at h2
          exact fun σ' H' O' r' f' => ⟨rfl, hlt, env4, t4, O', r', (f2.trans f3).trans f', FinS.fut h2 (f3.trans f')⟩
    · have ei : i = ds.length := by omega
      subst ei
      rw [List.drop_length] at h2
      exact .inl ⟨gs rfl, h2 σ2 H2 O2 r2 Fut.refl⟩

/-! ### owned lists -/
theorem Rel.own {i : Nat} {a : Addr} {d : PyData} {H1 H2 : Hp} (r : Rel y env t σ H O) (g1 : Grow y.z H H1) (hD : H1 a = none) (nT : a ≠ y.z.aT) (nN : a ≠ y.z.aN) (g2 : Grow y.z H1 H2) (w : TwOk y.z H2 t') (p : OwnIs y.K y.z (hide (a :: O) H2) H2 a d) :
    Rel y (env.set i (some (true, d))) t' (σ.set i (some (.ref a))) H2 (a :: O) ∧ Fut O H (a :: O) H2 := by
  have hDH : H a = none := by
    cases q : H a with
    | none => rfl
    | some u => rw [g1 a u q nT nN] at hD; cases hD
  have hD0 : y.H0 a = none := by
    cases q : y.H0 a with
    | none => rfl
    | some u => rw [r.grow a u q nT nN] at hDH; cases hDH
  have rl : Rel y env t' σ H2 (a :: O) := r.lend hDH (g1.trans g2) w p.wk
  have nO := r.notIn hDH
  refine ⟨?_, fut_lent r hDH (g1.trans g2)⟩
  exact {
    len := by rw [List.length_set, List.length_set]; exact r.len
    sh := fun j e q => by
      by_cases n : i = j
      · subst n
        by_cases hl : i < env.length
        · rw [List.getElem?_set_self hl] at q; cases q
        · rw [List.getElem?_eq_none (by simpa using hl)] at q; cases q
      · rw [List.getElem?_set_ne n] at q ⊢
        exact rl.sh j e q
    ow := fun j e q => by
      by_cases n : i = j
      · subst n
        by_cases hl : i < env.length
        · rw [List.getElem?_set_self hl] at q
          cases q
          exact ⟨a, by rw [List.getElem?_set_self (by rw [r.len]; exact hl)], List.mem_cons_self, nT, nN, hD0, p⟩
        · rw [List.getElem?_eq_none (by simpa using hl)] at q; cases q
      · rw [List.getElem?_set_ne n] at q ⊢
        exact rl.ow j e q
    inj := fun j j' d1 d2 b q1 q2 q3 q4 => by
      have old : ∀ (j : Nat) d, env[j]? = some (some (true, d)) → σ[j]? = some (some (.ref b)) → b ≠ a := fun j d z1 z2 => by
        obtain ⟨b', eb, pb⟩ := r.ow j d z1
        rw [z2] at eb
        cases eb
        rintro rfl
        exact nO pb.mem
      by_cases n : i = j
      · by_cases n' : i = j'
        · exact n.symm.trans n'
        · subst n
          rw [List.getElem?_set_ne n'] at q2 q4
          by_cases hl : i < σ.length
          · rw [List.getElem?_set_self hl] at q3
            cases q3
            exact absurd rfl (old j' _ q2 q4)
          · rw [List.getElem?_eq_none (by simpa using hl)] at q3; cases q3
      · rw [List.getElem?_set_ne n] at q1 q3
        by_cases n' : i = j'
        · subst n'
          by_cases hl : i < σ.length
          · rw [List.getElem?_set_self hl] at q4
            cases q4
            exact absurd rfl (old j _ q1 q3)
          · rw [List.getElem?_eq_none (by simpa using hl)] at q4; cases q4
        · rw [List.getElem?_set_ne n'] at q2 q4
          exact r.inj j j' _ _ b q1 q2 q3 q4
    grow := rl.grow
    sub := rl.sub
    dom := rl.dom
    tT := r.tT
    dom0 := r.dom0
    tN := r.tN
    ne := r.ne
    tw := w }
theorem own_fin {i : Nat} {x : R PyData} (r : Rel y env t σ H O) (hx : ∀ d t', x = .ok d t' → ∃ ds, d = .list ds) (h : FinS y O H D (SR.of x env fun d t => .next (env.set i (some (true, d))) t)) :
    FinN y O σ (fun v H2 => D.nx (σ.set i (some v)) H2) H x := by
  cases x with
  | bad => exact h
  | exc c t' => exact fun H' g w => h σ H' O (r.after g w) (r.mono g)
  | ok d t' =>
    obtain ⟨ds, rfl⟩ := hx d t' rfl
    refine ⟨ds, rfl, fun a acc H1 H2 g1 hD nD nT nN g2 w hD2 l p => ?_⟩
    obtain ⟨ro, f⟩ := r.own (i := i) g1 hD nT nN g2 w (.lst hD2 l p)
    exact h _ H2 _ ro f
theorem own_finD {i : Nat} {x : R PyData} (r : Rel y env t σ H O) (hx : ∀ d t', x = .ok d t' → ∃ kds, d = .dict kds) (h : FinS y O H D (SR.of x env fun d t => .next (env.set i (some (true, d))) t)) :
    FinD y O σ (fun v H2 => D.nx (σ.set i (some v)) H2) H x := by
  cases x with
  | bad => exact h
  | exc c t' => exact fun H' g w => h σ H' O (r.after g w) (r.mono g)
  | ok d t' =>
    obtain ⟨ds, rfl⟩ := hx d t' rfl
    refine ⟨ds, rfl, fun a H1 H2 g1 hD nD nT nN g2 w p => ?_⟩
    obtain ⟨ro, f⟩ := r.own (i := i) g1 hD nT nN g2 w p
    exact h _ H2 _ ro f
theorem asg_fin {i : Nat} {x : R PyData} (r : Rel y env t σ H O) (h : FinS y O H D (SR.of x env fun d t => .next (env.set i (some (false, d))) t)) :
    FinE y false O σ (fun v H2 => D.nx (σ.set i (some v)) H2) H x := by
  cases x with
  | bad => exact h
  | exc c t' => exact fun H' g w => h σ H' O (r.after g w) (r.mono g)
  | ok d t' => exact fun v H' g w rv => h _ H' O ((r.after g w).store rv.share) (r.mono g)
theorem sst_ownL {i : Nat} {x : Str} {es : List Expr} {p pos pos' : Pos} {rs : Env → Tw → R (List PyData)} (C : Sxx X y N sc g F k) (hi : N[i]? = some x) (hx : locB sc x = true) (h : PA X es (tL y false rs)) :
    PS X (.Assign [.Name x pos'] (.List es p) pos) (tS y fun env t => SR.of ((rs env t).bind fun ds t => R.of (okIf (decide (ds.length ≤ lineN)) (.list ds)) t) env fun d t => .next (env.set i (some (true, d))) t) := by
  refine PS.imp (ps_set (i := i) (by rw [C.names]; exact C.nd) (by rw [C.names]; exact hi) (by rw [C.scope]; exact loc_of hx) (pe_lst h) (swap_none rfl) (.inl (C.fnT x))) fun D σ H h => ?_
  obtain ⟨env, t, O, r, h⟩ := h
  refine ⟨env, t, O, r, ?_⟩
  dsimp only at h
  cases e : rs env t with
  | bad => rw [e] at h; exact h
  | exc c t1 => rw [e] at h; exact fun H' g w => h σ H' O (r.after g w) (r.mono g)
  | ok ds t1 =>
    rw [e] at h
    intro vs H1 g w rv
    have ps := pair_share rv
    by_cases hl : ds.length ≤ lineN
    · simp only [R.bind] at h
      rw [okIf, if_pos (decide_eq_true hl)] at h
      have hv : vs.length ≤ lineN := by rw [ps.length]; exact hl
      refine ⟨by rw [line_eq]; exact hv, fun p hp => ?_⟩
      have r1 := r.after g w
      obtain ⟨gn, wn, nO⟩ := r1.new (o := .lst vs) hp
      obtain ⟨nT, nN⟩ := r1.ne_town hp
      obtain ⟨ro, f⟩ := r.own (i := i) (d := .list ds) g hp nT nN gn wn (.lst upd_same hv (ps.mono (fut_lent r1 hp gn)))
      exact h _ _ _ ro f
    · simp only [R.bind] at h
      rw [okIf, if_neg (by simpa using hl)] at h
      exact h.elim

/-- name = {} -/
theorem sst_ownD {i : Nat} {x : Str} {p pos pos' : Pos} (C : Sxx X y N sc g F k) (hi : N[i]? = some x) (hx : locB sc x = true) :
    PS X (.Assign [.Name x pos'] (.Dict [] [] p) pos) (tS y fun env t => .next (env.set i (some (true, .dict []))) t) := by
  refine PS.imp (ps_set (i := i) (by rw [C.names]; exact C.nd) (by rw [C.names]; exact hi) (by rw [C.scope]; exact loc_of hx) pe_dnewK (swap_none rfl) (.inl (C.fnT x))) fun D σ H h => ?_
  obtain ⟨env, t, O, r, h⟩ := h
  intro p hp
  obtain ⟨gn, wn, nO⟩ := r.new (o := .dK []) hp
  obtain ⟨nT, nN⟩ := r.ne_town hp
  obtain ⟨ro, f⟩ := r.own (i := i) (d := .dict []) Grow.refl hp nT nN gn wn (OwnIs.dk (ks := []) (vs := []) (ds := []) upd_same rfl (Nat.zero_le _) .nil)
  exact h _ _ _ ro f
/-! ### a comprehension given to a name -/
/-- whether the name is stored within the comprehension's frame -/
def swapB (sc scope : Scope) (x : Str) (px p : Pos) : Bool := localB sc x && (px.line == p.line) && !(scope.names.any fun (n, k) => n == x && (k == .local || k == .cell))
theorem swap_no {elt : Expr} {gs : List Comprehension} {scope : Scope} {p px : Pos} {x : Str} {l : Nat} {envp : PySem.Env} (hk : envp.scope.kind = .function) (h : swapB envp.scope scope x px p = false) : swapsWith (.ListComp elt gs scope p) (some (.Name x px)) l envp = pure false := by
  have hb : envp.blockKind = .function := by unfold Env.blockKind; rw [hk]; rfl
  have hkd : envp.kindOf x = envp.scope.names.lookup x := rfl
  unfold swapsWith
  simp only [hb, hkd, Expr.pos]
  unfold swapB localB at h
  cases q : envp.scope.names.lookup x with
  | none => rfl
  | some kd =>
    rw [q] at h
    cases kd <;> first
      | (simp only [Bool.true_and] at h
         show pure ((true && true) && (px.line == p.line) && !(scope.names.any fun (n, k) => n == x && (k == .local || k == .cell))) = pure false
         rw [Bool.true_and, Bool.true_and, h])
      | rfl
theorem swap_yes {elt : Expr} {gs : List Comprehension} {scope : Scope} {p px : Pos} {x : Str} {l : Nat} {envp : PySem.Env} (hk : envp.scope.kind = .function) (h : swapB envp.scope scope x px p = true) : swapsWith (.ListComp elt gs scope p) (some (.Name x px)) l envp = pure true := by
  simp only [swapB, Bool.and_eq_true, Bool.not_eq_true'] at h
  exact sw_true hk (local_of h.1.1) h.1.2 h.2
theorem swapD_no {kx vx : Expr} {gs : List Comprehension} {scope : Scope} {p px : Pos} {x : Str} {l : Nat} {envp : PySem.Env} (hk : envp.scope.kind = .function) (h : swapB envp.scope scope x px p = false) : swapsWith (.DictComp kx vx gs scope p) (some (.Name x px)) l envp = pure false := by
  have hb : envp.blockKind = .function := by unfold Env.blockKind; rw [hk]; rfl
  have hkd : envp.kindOf x = envp.scope.names.lookup x := rfl
  unfold swapsWith
  simp only [hb, hkd, Expr.pos]
  unfold swapB localB at h
  cases q : envp.scope.names.lookup x with
  | none => rfl
  | some kd =>
    rw [q] at h
    cases kd <;> first
      | (simp only [Bool.true_and] at h
         show pure ((true && true) && (px.line == p.line) && !(scope.names.any fun (n, k) => n == x && (k == .local || k == .cell))) = pure false
         rw [Bool.true_and, Bool.true_and, h])
      | rfl
theorem swapD_yes {kx vx : Expr} {gs : List Comprehension} {scope : Scope} {p px : Pos} {x : Str} {l : Nat} {envp : PySem.Env} (hk : envp.scope.kind = .function) (h : swapB envp.scope scope x px p = true) : swapsWith (.DictComp kx vx gs scope p) (some (.Name x px)) l envp = pure true := by
  simp only [swapB, Bool.and_eq_true, Bool.not_eq_true'] at h
  have ky : envp.kindOf x = some .local := local_of h.1.1
  have hb : envp.blockKind = .function := by unfold Env.blockKind; rw [hk]; rfl
  unfold swapsWith
  simp only [hb, ky, h.2, Expr.pos, h.1.2]
  rfl
end
end Wv

set_option maxHeartbeats 4000000
namespace Wv
open PySem L2

section
variable {X : Cx} {y : Cy} {N : List Str} {sc : Scope} {m : Bool} {g : Gt} {F : Nat → List PyData → Tw → R PyData} {k : Nat}
variable {env env' : Env} {t t' : Tw} {σ σ' : St} {H H' : Hp} {O O' : List Addr} {D : Ends}

/-- name = [..]: stored within the comprehension's frame or behind it -/
theorem ps_lc1 {i : Nat} {x : Str} {px pos : Pos} {e : CE} {own : List Nat} {tg : Tg} {it : CI} {c : CO} {ex : Expr} (ar : Arity g F) (C : Sxx X y N sc g F k) (hi : N[i]? = some x) (hx : locB sc x = true) (h : chkE g N (.lc1 e own tg it c) sc ex = true) :
    PS X (.Assign [.Name x px] ex pos) (tAsg (tLc (iI y (evalI F it)) (gTg y.K tg) (tCd (nox y) (evalC F c)) (tE (nox y) false (evalE F false e)) own) (gName i)) ∧ subB (tgSlots tg) own = true := by
  unfold chkE at h
  split at h
  · rename_i elt te iter ifs asy scope p
    simp only [Bool.and_eq_true, decide_eq_true_eq] at h
    obtain ⟨⟨⟨⟨⟨⟨⟨rfl, h1⟩, h2⟩, h3⟩, h4⟩, h5⟩, h6⟩, h7⟩ := h
    have B : BlkOk X.N X.env.scope scope (ownOf N own) := by rw [C.names, C.scope]; exact blkOk_by h1
    have hI := sndI (N := N) (k := k) ar it C.toCxx h5
    have hG := fun s H c' cl fp => pg_tg (y := nox y) (C.blk scope s H c' cl fp).toCtx cell_fn h2
    have hT := fun s H c' cl fp => (sndO (N := N) (k := k) ar c (C.blk scope s H c' cl fp)).2 h6
    have hE := fun s H c' cl fp => (sndE (N := N) (k := k) ar e).e false (C.blk scope s H c' cl fp) h7
    refine ⟨?_, h3⟩
    have hkd : X.env.scope.kind = .function := by rw [C.scope]; exact C.kind
    rw [← own_snd (N := N) own]
    by_cases hsw : swapB X.env.scope scope x px p = true
    · have hl : localB sc x = true := by
        simp only [swapB, Bool.and_eq_true] at hsw
        rw [← C.scope]; exact hsw.1.1
      exact ps_setLc (i := i) C.calm (by rw [C.names]; exact C.nd) (by rw [C.names]; exact hi) (by rw [C.scope]; exact local_of hl) (swap_yes hkd hsw) hI B hG hT hE (fun x => fold_ord h4)
    · exact ps_set (i := i) (by rw [C.names]; exact C.nd) (by rw [C.names]; exact hi) (by rw [C.scope]; exact loc_of hx) (pe_lc C.calm (by rw [C.names]; exact C.nd) hI B hG hT hE (fun x => fold_ord h4)) (swap_no hkd (by simpa using hsw)) (.inl (C.fnT x))
  · cases h
theorem ps_lc2 {i : Nat} {x : Str} {px pos : Pos} {e : CE} {own own2 : List Nat} {tg tg2 : Tg} {it it2 : CI} {c c2 : CO} {ex : Expr} (ar : Arity g F) (C : Sxx X y N sc g F k) (hi : N[i]? = some x) (hx : locB sc x = true) (h : chkE g N (.lc2 e own own2 tg it c tg2 it2 c2) sc ex = true) :
    PS X (.Assign [.Name x px] ex pos) (tAsg (tLc2 (iI y (evalI F it)) (gTg y.K tg) (tCd (nox y) (evalC F c)) (iI (nox y) (evalI F it2)) (gTg y.K tg2) (tCd (nox y) (evalC F c2)) (tE (nox y) false (evalE F false e)) own own2) (gName i)) ∧ subB (tgSlots tg) own = true ∧ subB (tgSlots tg2) own2 = true := by
  unfold chkE at h
  split at h
  · rename_i elt te iter ifs asy te2 iter2 ifs2 asy2 scope p
    simp only [Bool.and_eq_true, decide_eq_true_eq] at h
    obtain ⟨⟨⟨⟨⟨⟨⟨⟨⟨⟨⟨⟨⟨⟨rfl, rfl⟩, h1⟩, h2⟩, h3⟩, h4⟩, h5⟩, h6⟩, k1⟩, k2⟩, k3⟩, k4⟩, k5⟩, k6⟩, h7⟩ := h
    have B : BlkOk X.N X.env.scope scope (ownOf N own) := by rw [C.names, C.scope]; exact blkOk_by h1
    have hI := sndI (N := N) (k := k) ar it C.toCxx h5
    have hG := fun s H c' cl fp => pg_tg (y := nox y) (C.blk scope s H c' cl fp).toCtx cell_fn h2
    have hT := fun s H c' cl fp => (sndO (N := N) (k := k) ar c (C.blk scope s H c' cl fp)).2 h6
    have hI2 := fun s H c' cl fp => sndI (N := N) (k := k) ar it2 (C.blk scope s H c' cl fp) k5
    have hG2 := fun s H c' cl fp => pg_tg (y := nox y) (C.blk scope s H c' cl fp).toCtx cell_fn k1
    have hT2 := fun s H c' cl fp => (sndO (N := N) (k := k) ar c2 (C.blk scope s H c' cl fp)).2 k6
    have hE := fun s H c' cl fp => (sndE (N := N) (k := k) ar e).e false (C.blk scope s H c' cl fp) h7
    have hv : ∀ i, i ∈ own2 → i ∈ (ownOf N own).map (·.2) := fun i hi => by rw [own_snd]; exact subB_ok k3 i hi
    refine ⟨?_, h3, k2⟩
    have hkd : X.env.scope.kind = .function := by rw [C.scope]; exact C.kind
    rw [← own_snd (N := N) own]
    by_cases hsw : swapB X.env.scope scope x px p = true
    · have hl : localB sc x = true := by
        simp only [swapB, Bool.and_eq_true] at hsw
        rw [← C.scope]; exact hsw.1.1
      exact ps_setLc2 (i := i) C.calm (by rw [C.names]; exact C.nd) (by rw [C.names]; exact hi) (by rw [C.scope]; exact local_of hl) (swap_yes hkd hsw) hI B hv hG hT hI2 hG2 hT2 hE (fun x => fold_ord h4) (fun env x => fold_ord k4)
    · exact ps_set (i := i) (by rw [C.names]; exact C.nd) (by rw [C.names]; exact hi) (by rw [C.scope]; exact loc_of hx) (pe_lc2 C.calm (by rw [C.names]; exact C.nd) hI B hv hG hT hI2 hG2 hT2 hE (fun x => fold_ord h4) (fun env x => fold_ord k4)) (swap_no hkd (by simpa using hsw)) (.inl (C.fnT x))
  · cases h

/-- name = {..: ..} -/
theorem psD1 {i : Nat} {x : Str} {px pos : Pos} {ck cv : CE} {own : List Nat} {tg : Tg} {it : CI} {c : CO} {ex : Expr} (ar : Arity g F) (C : Sxx X y N sc g F k) (hi : N[i]? = some x) (hx : locB sc x = true) (h : chkE g N (.dc1 ck cv own tg it c) sc ex = true) :
    PS X (.Assign [.Name x px] ex pos) (tAsg (tDc1 (iI y (evalI F it)) (gTg y.K tg) (tCd (nox y) (evalC F c)) (tE (nox y) false (evalE F false ck)) (tE (nox y) false (evalE F false cv)) own) (gName i)) ∧ subB (tgSlots tg) own = true := by
  unfold chkE at h
  split at h
  · rename_i kx vx te iter ifs asy scope p
    simp only [Bool.and_eq_true, decide_eq_true_eq] at h
    obtain ⟨⟨⟨⟨⟨⟨⟨⟨rfl, h1⟩, h2⟩, h3⟩, h4⟩, h5⟩, h6⟩, h7⟩, h8⟩ := h
    have B : BlkOk X.N X.env.scope scope (ownOf N own) := by rw [C.names, C.scope]; exact blkOk_by h1
    have hI := sndI (N := N) (k := k) ar it C.toCxx h5
    have hG := fun s H c' cl fp => pg_tg (y := nox y) (C.blk scope s H c' cl fp).toCtx cell_fn h2
    have hT := fun s H c' cl fp => (sndO (N := N) (k := k) ar c (C.blk scope s H c' cl fp)).2 h6
    have hK := fun s H c' cl fp => (sndE (N := N) (k := k) ar ck).e false (C.blk scope s H c' cl fp) h7
    have hV := fun s H c' cl fp => (sndE (N := N) (k := k) ar cv).e false (C.blk scope s H c' cl fp) h8
    have hu : X.A.units + 1 < cLine := by have := C.units; omega
    refine ⟨?_, h3⟩
    have hkd : X.env.scope.kind = .function := by rw [C.scope]; exact C.kind
    rw [← own_snd (N := N) own]
    by_cases hsw : swapB X.env.scope scope x px p = true
    · have hl : localB sc x = true := by
        simp only [swapB, Bool.and_eq_true] at hsw
        rw [← C.scope]; exact hsw.1.1
      exact ps_dc1 (i := i) C.calm (by rw [C.names]; exact C.nd) hu (by rw [C.names]; exact hi) (by rw [C.scope]; exact local_of hl) (swapD_yes hkd hsw) hI B hG hT hK hV (fun x => fold_ord h4)
    · exact ps_set (i := i) (by rw [C.names]; exact C.nd) (by rw [C.names]; exact hi) (by rw [C.scope]; exact loc_of hx) (pe_dc1 C.calm (by rw [C.names]; exact C.nd) hu hI B hG hT hK hV (fun x => fold_ord h4)) (swapD_no hkd (by simpa using hsw)) (.inl (C.fnT x))
  · cases h
theorem psD2 {i : Nat} {x : Str} {px pos : Pos} {ck cv : CE} {own own2 : List Nat} {tg tg2 : Tg} {it it2 : CI} {c c2 : CO} {ex : Expr} (ar : Arity g F) (C : Sxx X y N sc g F k) (hi : N[i]? = some x) (hx : locB sc x = true) (h : chkE g N (.dc2 ck cv own own2 tg it c tg2 it2 c2) sc ex = true) :
    PS X (.Assign [.Name x px] ex pos) (tAsg (tDc2 (iI y (evalI F it)) (gTg y.K tg) (tCd (nox y) (evalC F c)) (iI (nox y) (evalI F it2)) (gTg y.K tg2) (tCd (nox y) (evalC F c2)) (tE (nox y) false (evalE F false ck)) (tE (nox y) false (evalE F false cv)) own own2) (gName i)) ∧ subB (tgSlots tg) own = true ∧ subB (tgSlots tg2) own2 = true := by
  unfold chkE at h
  split at h
  · rename_i kx vx te iter ifs asy te2 iter2 ifs2 asy2 scope p
    simp only [Bool.and_eq_true, decide_eq_true_eq] at h
    obtain ⟨⟨⟨⟨⟨⟨⟨⟨⟨⟨⟨⟨⟨⟨⟨rfl, rfl⟩, h1⟩, h2⟩, h3⟩, h4⟩, h5⟩, h6⟩, k1⟩, k2⟩, k3⟩, k4⟩, k5⟩, k6⟩, h7⟩, h8⟩ := h
    have B : BlkOk X.N X.env.scope scope (ownOf N own) := by rw [C.names, C.scope]; exact blkOk_by h1
    have hI := sndI (N := N) (k := k) ar it C.toCxx h5
    have hG := fun s H c' cl fp => pg_tg (y := nox y) (C.blk scope s H c' cl fp).toCtx cell_fn h2
    have hT := fun s H c' cl fp => (sndO (N := N) (k := k) ar c (C.blk scope s H c' cl fp)).2 h6
    have hI2 := fun s H c' cl fp => sndI (N := N) (k := k) ar it2 (C.blk scope s H c' cl fp) k5
    have hG2 := fun s H c' cl fp => pg_tg (y := nox y) (C.blk scope s H c' cl fp).toCtx cell_fn k1
    have hT2 := fun s H c' cl fp => (sndO (N := N) (k := k) ar c2 (C.blk scope s H c' cl fp)).2 k6
    have hK := fun s H c' cl fp => (sndE (N := N) (k := k) ar ck).e false (C.blk scope s H c' cl fp) h7
    have hV := fun s H c' cl fp => (sndE (N := N) (k := k) ar cv).e false (C.blk scope s H c' cl fp) h8
    have hu : X.A.units + 1 < cLine := by have := C.units; omega
    have hv : ∀ i, i ∈ own2 → i ∈ (ownOf N own).map (·.2) := fun i hi => by rw [own_snd]; exact subB_ok k3 i hi
    refine ⟨?_, h3, k2⟩
    have hkd : X.env.scope.kind = .function := by rw [C.scope]; exact C.kind
    rw [← own_snd (N := N) own]
    by_cases hsw : swapB X.env.scope scope x px p = true
    · have hl : localB sc x = true := by
        simp only [swapB, Bool.and_eq_true] at hsw
        rw [← C.scope]; exact hsw.1.1
      exact ps_dc2 (i := i) C.calm (by rw [C.names]; exact C.nd) hu (by rw [C.names]; exact hi) (by rw [C.scope]; exact local_of hl) (swapD_yes hkd hsw) hI B hv hG hT hK hV hI2 hG2 hT2 (fun x => fold_ord h4) (fun env x => fold_ord k4)
    · exact ps_set (i := i) (by rw [C.names]; exact C.nd) (by rw [C.names]; exact hi) (by rw [C.scope]; exact loc_of hx) (pe_dc2 C.calm (by rw [C.names]; exact C.nd) hu hI B hv hG hT hK hV hI2 hG2 hT2 (fun x => fold_ord h4) (fun env x => fold_ord k4)) (swapD_no hkd (by simpa using hsw)) (.inl (C.fnT x))
  · cases h

/-- what a comprehension comes to is a list -/
theorem lc1_list {e : CE} {own : List Nat} {tg : Tg} {it : CI} {c : CO} {m : Bool} : ∀ d t', evalE F m (.lc1 e own tg it c) env t = .ok d t' → ∃ ds, d = .list ds := fun d t' h => by
  rw [evalE] at h
  cases e1 : evalI F it env t with
  | bad => rw [e1] at h; cases h
  | exc c t1 => rw [e1] at h; cases h
  | ok ds t1 =>
    rw [e1] at h
    simp only [R.bind] at h
    split at h
    · cases h; exact ⟨_, rfl⟩
    · cases h
    · cases h
theorem lc2_list {e : CE} {own own2 : List Nat} {tg tg2 : Tg} {it it2 : CI} {c c2 : CO} {m : Bool} : ∀ d t', evalE F m (.lc2 e own own2 tg it c tg2 it2 c2) env t = .ok d t' → ∃ ds, d = .list ds := fun d t' h => by
  rw [evalE] at h
  cases e1 : evalI F it env t with
  | bad => rw [e1] at h; cases h
  | exc c t1 => rw [e1] at h; cases h
  | ok ds t1 =>
    rw [e1] at h
    simp only [R.bind] at h
    split at h
    · rename_i ys tf _
      by_cases hys : ys.length ≤ lineN
      · rw [okIf, if_pos (decide_eq_true hys)] at h
        cases h
        exact ⟨_, rfl⟩
      · rw [okIf, if_neg (by simpa using hys)] at h
        cases h
    · cases h
    · cases h

theorem dc1_dict {ck cv : CE} {own : List Nat} {tg : Tg} {it : CI} {c : CO} {m : Bool} : ∀ d t', evalE F m (.dc1 ck cv own tg it c) env t = .ok d t' → ∃ ds, d = .dict ds := fun d t' h => by
  rw [evalE] at h
  exact dict_res (ri := evalI F it) d t' h
theorem dc2_dict {ck cv : CE} {own own2 : List Nat} {tg tg2 : Tg} {it it2 : CI} {c c2 : CO} {m : Bool} : ∀ d t', evalE F m (.dc2 ck cv own own2 tg it c tg2 it2 c2) env t = .ok d t' → ∃ ds, d = .dict ds := fun d t' h => by
  rw [evalE] at h
  exact dict_res (ri := evalI F it) d t' h

/-- is it a comprehension -/
def isLc : CE → Bool
  | .lc1 .. => true
  | .lc2 .. => true
  | .dc1 .. => true
  | .dc2 .. => true
  | _ => false
theorem sst_asgC {i : Nat} {x : Str} {px pos : Pos} {c : CE} {ex : Expr} (ar : Arity g F) (C : Sxx X y N sc g F k) (hc : isLc c = true) (hi : N[i]? = some x) (hx : locB sc x = true) (h : chkE g N c sc ex = true) :
    PS X (.Assign [.Name x px] ex pos) (tS y fun env t => SR.of (evalE F false c env t) env fun d t => .next (env.set i (some (false, d))) t) := by
  cases c with
  | lc1 e own tg it c =>
    obtain ⟨hp, hs⟩ := ps_lc1 (px := px) (pos := pos) ar C hi hx h
    refine PS.imp hp fun D σ H q => ?_
    obtain ⟨env, t, O, r, q⟩ := q
    have q := FinN.of r (lc1_list (m := false)) (asg_fin r q)
    exact lc1_core (subB_ok hs) r q
  | lc2 e own own2 tg it c tg2 it2 c2 =>
    obtain ⟨hp, hs, hs2⟩ := ps_lc2 (px := px) (pos := pos) ar C hi hx h
    refine PS.imp hp fun D σ H q => ?_
    obtain ⟨env, t, O, r, q⟩ := q
    have q := FinN.of r (lc2_list (m := false)) (asg_fin r q)
    exact lc2_core (subB_ok hs) (subB_ok hs2) r q
  | dc1 ck cv own tg it c =>
    obtain ⟨hp, hs⟩ := psD1 (px := px) (pos := pos) ar C hi hx h
    refine PS.imp (ps_lockQ hp) fun D σ H q => ?_
    obtain ⟨env, t, O, r, q⟩ := q
    have q := FinD.of (dc1_dict (m := false)) (asg_fin r q)
    exact dc1_core (subB_ok hs) r q
  | dc2 ck cv own own2 tg it c tg2 it2 c2 =>
    obtain ⟨hp, hs, hs2⟩ := psD2 (px := px) (pos := pos) ar C hi hx h
    refine PS.imp (ps_lockQ hp) fun D σ H q => ?_
    obtain ⟨env, t, O, r, q⟩ := q
    have q := FinD.of (dc2_dict (m := false)) (asg_fin r q)
    exact dc2_core (subB_ok hs) (subB_ok hs2) r q
  | _ => cases hc
theorem sst_ownC {i : Nat} {x : Str} {px pos : Pos} {c : CE} {ex : Expr} (ar : Arity g F) (C : Sxx X y N sc g F k) (hc : isLc c = true) (hi : N[i]? = some x) (hx : locB sc x = true) (h : chkE g N c sc ex = true) :
    PS X (.Assign [.Name x px] ex pos) (tS y fun env t => SR.of (evalE F false c env t) env fun d t => .next (env.set i (some (true, d))) t) := by
  cases c with
  | lc1 e own tg it c =>
    obtain ⟨hp, hs⟩ := ps_lc1 (px := px) (pos := pos) ar C hi hx h
    refine PS.imp hp fun D σ H q => ?_
    obtain ⟨env, t, O, r, q⟩ := q
    exact lc1_core (subB_ok hs) r (own_fin r (lc1_list (m := false)) q)
  | lc2 e own own2 tg it c tg2 it2 c2 =>
    obtain ⟨hp, hs, hs2⟩ := ps_lc2 (px := px) (pos := pos) ar C hi hx h
    refine PS.imp hp fun D σ H q => ?_
    obtain ⟨env, t, O, r, q⟩ := q
    exact lc2_core (subB_ok hs) (subB_ok hs2) r (own_fin r (lc2_list (m := false)) q)
  | dc1 ck cv own tg it c =>
    obtain ⟨hp, hs⟩ := psD1 (px := px) (pos := pos) ar C hi hx h
    refine PS.imp hp fun D σ H q => ?_
    obtain ⟨env, t, O, r, q⟩ := q
    exact dc1_core (subB_ok hs) r (own_finD r (dc1_dict (m := false)) q)
  | dc2 ck cv own own2 tg it c tg2 it2 c2 =>
    obtain ⟨hp, hs, hs2⟩ := psD2 (px := px) (pos := pos) ar C hi hx h
    refine PS.imp hp fun D σ H q => ?_
    obtain ⟨env, t, O, r, q⟩ := q
    exact dc2_core (subB_ok hs) (subB_ok hs2) r (own_finD r (dc2_dict (m := false)) q)
  | _ => cases hc

/-! ### an owned list changed -/
theorem Rel.grown {i : Nat} {a : Addr} {d d' : PyData} {u : HO} (r : Rel y env t σ H O) (e : env[i]? = some (some (true, d))) (ea : σ[i]? = some (some (.ref a))) (p : OwnIs y.K y.z (hide O (upd H a u)) (upd H a u) a d') :
    Rel y (env.set i (some (true, d'))) t σ (upd H a u) O ∧ Fut O H O (upd H a u) := by
  obtain ⟨a', ea', pa⟩ := r.ow i d e
  rw [ea] at ea'
  cases ea'
  have hl : i < env.length := by
    rcases Nat.lt_or_ge i env.length with h | h
    · exact h
    · rw [List.getElem?_eq_none h] at e; cases e
  have mo : Fut O H O (upd H a u) := fun b u q => by
    obtain ⟨q1, q2⟩ := hide_some q
    refine hide_of q1 ?_
    rw [upd_ne (fun z => q1 (by rw [z]; exact pa.mem))]
    exact q2
  refine ⟨?_, mo⟩
  exact {
    len := by rw [List.length_set]; exact r.len
    sh := fun j e' q => by
      by_cases n : i = j
      · subst n
        rw [List.getElem?_set_self hl] at q; cases q
      · rw [List.getElem?_set_ne n] at q
        obtain ⟨v, ev, pv⟩ := r.sh j e' q
        exact ⟨v, ev, pv.mono mo⟩
    ow := fun j e' q => by
      by_cases n : i = j
      · subst n
        rw [List.getElem?_set_self hl] at q
        cases q
        exact ⟨a, ea, pa.mem, pa.nT, pa.nN, pa.new, p⟩
      · rw [List.getElem?_set_ne n] at q
        obtain ⟨b, eb, pb⟩ := r.ow j e' q
        have nb : b ≠ a := fun z => by
          subst z
          exact n (r.inj i j _ _ b e q ea eb)
        exact ⟨b, eb, pb.mem, pb.nT, pb.nN, pb.new, pb.is.mono mo fun u q => by rw [upd_ne nb]; exact q⟩
    inj := fun j j' d1 d2 b q1 q2 q3 q4 => by
      have ex : ∀ (j : Nat) d'', (env.set i (some (true, d')))[j]? = some (some (true, d'')) → ∃ d'', env[j]? = some (some (true, d'')) := fun j d'' q => by
        by_cases n : i = j
        · subst n; exact ⟨d, e⟩
        · rw [List.getElem?_set_ne n] at q; exact ⟨d'', q⟩
      obtain ⟨d1', q1⟩ := ex j _ q1
      obtain ⟨d2', q2⟩ := ex j' _ q2
      exact r.inj j j' _ _ b q1 q2 q3 q4
    grow := fun b u q n1 n2 => by
      rw [upd_ne (fun z => by rw [z, pa.new] at q; cases q)]
      exact r.grow b u q n1 n2
    sub := r.sub
    dom := fun b hb => by
      by_cases n : b = a
      · rw [n]; exact p.wk
      · rw [upd_ne n]; exact r.dom b hb
    tT := r.tT
    dom0 := r.dom0
    tN := r.tN
    ne := r.ne
    tw := ⟨by rw [upd_ne (Ne.symm pa.nT)]; exact r.tw.1, by rw [upd_ne (Ne.symm pa.nN)]; exact r.tw.2.1, r.tw.2.2⟩ }
theorem Rel.grownL {i : Nat} {a : Addr} {d : PyData} {xs : List V} {ds : List PyData} (r : Rel y env t σ H O) (e : env[i]? = some (some (true, d))) (ea : σ[i]? = some (some (.ref a))) (l : xs.length ≤ lineN) (p : RpAll y.K y.z (hide O H) xs ds) :
    Rel y (env.set i (some (true, .list ds))) t σ (upd H a (.lst xs)) O ∧ Fut O H O (upd H a (.lst xs)) := by
  obtain ⟨a', ea', pa⟩ := r.ow i d e
  have ea2 := ea
  rw [ea] at ea'
  cases ea'
  exact r.grown e ea2 (.lst upd_same l (p.mono fun b u q => by
    obtain ⟨q1, q2⟩ := hide_some q
    refine hide_of q1 ?_
    rw [upd_ne (fun z => q1 (by rw [z]; exact pa.mem))]
    exact q2))
theorem hide_mem {a : Addr} (h : a ∈ O) : hide (a :: O) H = hide O H := by
  funext b
  unfold hide
  by_cases e : b ∈ O
  · rw [if_pos e, if_pos (List.mem_cons_of_mem _ e)]
  · rw [if_neg e, if_neg]
    intro q
    rcases List.mem_cons.mp q with q | q
    · exact e (q ▸ h)
    · exact e q
theorem sst_app {i : Nat} {x : Str} {e : Expr} {p apos cpos pos : Pos} {ra : Env → Tw → R PyData} (C : Sxx X y N sc g F k) (hi : N[i]? = some x) (hv : visB sc x = true) (hd : (x == ("__debug__" : Str)) = false) (hcd : (x == ("__classdict__" : Str)) = false) (hl : (apos.endLine == cpos.line) = true) (ho : ordE e = true) (he : PE X e (tE y false ra)) :
    PS X (.Expr (.Call (.Attribute (.Name x p) "append" apos) [e] [] cpos) pos) (tS y fun env t => match env[i]? with
      | some (some (true, .list xs)) => SR.of (ra env t) env fun d t => if xs.length < lineN then .next (env.set i (some (true, .list (xs ++ [d])))) t else .bad
      | _ => .bad) := by
  have hv' : PE X (.Name x p) (tVar i) := pe_var (i := i) (by rw [C.names]; exact hi) (by rw [C.scope]; exact vis_of hv) hd hcd
  refine PS.imp (ps_expr (pe_bm PySem.F.plainAttrs_list PySem.F.slot_list_append PySem.F.type_list_append mt_append hv' (pa_cons he pa_nil (star_ord ho)) rfl (few_ord ho) hl (star_ord ho) rfl) (swap_none rfl)) fun D σ H h => ?_
  obtain ⟨env, t, O, r, h⟩ := h
  dsimp only at h
  split at h
  · rename_i ds eq
    obtain ⟨a, ea, pa⟩ := r.ow i _ eq
    have pi := pa.is
    cases pi with
    | @lst xs _ h1 h2 h4 =>
    refine ⟨.ref a, ea, .inl ⟨rfl, xs, SqL.of h1⟩, ?_⟩
    refine tE.thenS r h fun d t1 v H1 e1 g1 r1 rv z => ?_
    by_cases hlt : ds.length < lineN
    · rw [if_pos hlt] at z
      have hlx : xs.length < lineN := by rw [h4.length]; exact hlt
      refine ⟨a, xs, v, rfl, rfl, g1 _ _ h1 pa.nT pa.nN, by rw [line_eq]; exact hlx, ?_⟩
      obtain ⟨rg, f⟩ := r1.grownL (xs := xs ++ [v]) (ds := ds ++ [d]) eq ea (by rw [List.length_append]; exact hlx) ((h4.mono (r.mono g1)).append (.cons rv.share .nil))
      exact z _ _ _ rg f
    · rw [if_neg hlt] at z
      exact z.elim
  · exact h.elim
theorem RpAll.setN {K : PySem.W.Frag} {z : Cz} {H : Hp} {xs : List V} {ds : List PyData} {v : V} {d : PyData} (p : RpAll K z H xs ds) (q : Rp K z H v d) (n : Nat) : RpAll K z H (xs.set n v) (ds.set n d) := RpAll.set q n p
theorem PE.or {e : Expr} {t1 t2 : TE} (h1 : PE X e t1) (h2 : PE X e t2) : PE X e (fun σ H Q => t1 σ H Q ∨ t2 σ H Q) := ⟨fun pins s σ H Q I q => by
  rcases q with q | q
  · exact h1.run pins s σ H Q I q
  · exact h2.run pins s σ H Q I q⟩
def rSetA : TSet := fun o i v H Q => rSetL o i v H Q ∨ ∃ a H', o = .ref a ∧ PutG H a i v H' ∧ Q H'
theorem set_any (hu : X.A.units + 1 < cLine) : PSet X rSetA := by
  intro pins s σ H o i v ov iv u Q I ro ri rv h
  rcases h with h | ⟨a, H', rfl, g, q⟩
  · exact set_list pins s σ H o i v ov iv u Q I ro ri rv h
  · cases ro
    exact g_setItem hu I g ri rv fun s' I' => ⟨H', I', q⟩
theorem sst_setI {i : Nat} {x : Str} {ek ev : Expr} {p pos pos' : Pos} {rk rk' rv : Env → Tw → R PyData} (C : Sxx X y N sc g F k) (hi : N[i]? = some x) (hv : visB sc x = true) (hd : (x == ("__debug__" : Str)) = false) (hcd : (x == ("__classdict__" : Str)) = false) (hs : swapsWithSole [.Subscript (.Name x p) ek pos'] ev pos.line X.env = pure false) (hk : ordE ek = true) (hek : PE X ek (tE y true rk)) (hek' : PE X ek (tE y false rk')) (hev : PE X ev (tE y false rv)) :
    PS X (.Assign [.Subscript (.Name x p) ek pos'] ev pos) (tS y fun env t => SR.of (rv env t) env fun d t => match env[i]? with
      | some (some (true, .list xs)) => SR.of (rk env t) env fun j t => (match setD xs j d with
        | some x' => .next (env.set i (some (true, .list x'))) t
        | none => .bad)
      | some (some (true, .dict kds)) => SR.of (rk' env t) env fun j t => (match putD kds j d with
        | some x' => .next (env.set i (some (true, .dict x'))) t
        | none => .bad)
      | _ => .bad) := by
  have hv' : PE X (.Name x p) (tVar i) := pe_var (i := i) (by rw [C.names]; exact hi) (by rw [C.scope]; exact vis_of hv) hd hcd
  have hw : swappedStores [.Subscript (.Name x p) ek pos'] ev X.env = pure none := by
    cases ev <;> rfl
  refine PS.imp (ps_asg hev (pg_sub hv' (PE.or hek hek') (set_any (by have := C.units; omega)) (fun v => by cases ek <;> first | rfl | cases hk)) hs hw rfl) fun D σ H h => ?_
  obtain ⟨env, t, O, r, h⟩ := h
  refine tE.thenS r h fun d t1 v H1 e1 g1 r1 rv z => ?_
  split at z
  · rename_i ds eq
    obtain ⟨a, ea, pa⟩ := r1.ow i _ eq
    have pi := pa.is
    cases pi with
    | @lst xs _ h1 h2 h4 =>
    refine ⟨.ref a, ea, .inl ?_⟩
    refine tE.thenS r1 z fun j t2 w H2 e2 g2 r2 rw2 z2 => ?_
    cases e3 : setD ds j d with
    | none => rw [e3] at z2; exact z2.elim
    | some x' =>
      rw [e3] at z2
      unfold setD at e3
      split at e3
      · rename_i kk
        obtain ⟨n, e4, rfl⟩ := Option.map_eq_some_iff.mp e3
        obtain rfl := rw2.int
        refine .inl ⟨a, xs, kk, n, rfl, rfl, g2 _ _ h1 pa.nT pa.nN, by rw [h4.length]; exact e4, ?_⟩
        have rvs : Rp y.K y.z (hide O H2) v d := (rv.after r1 g2).share
        obtain ⟨rg, f⟩ := r2.grownL (xs := xs.set n v) (ds := ds.set n d) eq ea (by rw [List.length_set]; exact h2) (RpAll.setN (h4.mono (r1.mono g2)) rvs n)
        exact z2 _ _ _ rg f
      · cases e3
  · rename_i kds eq
    obtain ⟨a, ea, pa⟩ := r1.ow i _ eq
    refine ⟨.ref a, ea, .inr ?_⟩
    refine tE.thenS r1 z fun j t2 w H2 e2 g2 r2 rw2 z2 => ?_
    cases e3 : putD kds j d with
    | none => rw [e3] at z2; exact z2.elim
    | some x' =>
      rw [e3] at z2
      obtain ⟨a', ea', pa2⟩ := r2.ow i _ eq
      rw [ea] at ea'
      cases ea'
      have rvs : Rp y.K y.z (hide O H2) v d := (rv.after r1 g2).share
      have hm : hide (a :: O) H2 = hide O H2 := hide_mem pa.mem
      obtain ⟨o, gp, po⟩ := own_put (O := O) (D := a) (vk := w) (vv := v) (by rw [hm]; exact pa2.is) e3 (by rw [hm]; exact rw2.share) (by rw [hm]; exact rvs)
      rw [hide_mem pa.mem] at po
      refine .inr ⟨a, _, rfl, gp, ?_⟩
      obtain ⟨rg, f⟩ := r2.grown eq ea po
      exact z2 _ _ _ rg f
  · exact z.elim

/-! ### a, b = x, y -/
def isStar : Expr → Bool
  | .Starred .. => true
  | _ => false
theorem notStar {e : Expr} (h : ordE e = true) : isStar e = false := by
  cases e <;> first | rfl | cases h
theorem swapped_two {x z : Str} {px pz pt pv : Pos} {kt kv : Nat} {a b : Expr} {envp : PySem.Env} (hk : envp.scope.kind = .function) (hx : localB envp.scope x = true) (hz : localB envp.scope z = true) (hl : (px.line == pz.line) = true) (hne : x ≠ z)
    (ha : ordE a = true) (hb : ordE b = true) (hf : (foldedForSure 8 a && foldedForSure 8 b) = false) (hc : (constantsAlone 8 a && constantsAlone 8 b) = false) :
    swappedStores [.Tuple [.Name x px, .Name z pz] kt pt] (.Tuple [a, b] kv pv) envp = pure (some [x, z]) := by
  have hbk : envp.blockKind = .function := by unfold Env.blockKind; rw [hk]; rfl
  have kx : envp.kindOf x = some .local := local_of hx
  have kz : envp.kindOf z = some .local := local_of hz
  have hl2 : (pz.line == px.line) = true := by
    have := eq_of_beq hl
    rw [this]; exact beq_self_eq_true _
  have st : ([a, b].any fun | .Starred .. => true | _ => false) = false := by
    exact Bool.or_eq_false_iff.mpr ⟨notStar ha, Bool.or_eq_false_iff.mpr ⟨notStar hb, rfl⟩⟩
  have hed : ([x, z] : List Str).eraseDups = [x, z] := by
    have hn : (z == x) = false := by simpa using Ne.symm hne
    simp [List.eraseDups_cons, hn]
  unfold swappedStores
  dsimp only
  generalize hq : List.any [a, b] _ = q
  have hq' : q = false := by rw [← hq]; exact st
  subst hq'
  have hl3 : pz.line = px.line := eq_of_beq hl2
  simp [hbk, kx, kz, hl3, hed, hf, hc, Expr.pos, List.filterMap_cons]
end
end Wv

set_option maxHeartbeats 4000000
namespace Wv
open PySem PySem.Spec PyProof.Rows L2

/-! ### a caught refusal kept in a name -/
/-- an object that stands untracked is tracked from here on -/
theorem inv_track {X : Cx} {pins : List (Addr × Obj)} {σ : L2.St} {H : Hp} {s : Shared} {a C : Addr} {oe : Obj} {vs : Array Value} (I : L2.Inv X ((a, oe) :: pins) σ H s) (hc : oe.cls = .ref C) (hd : oe.dict = none) (hv : oe.data = .fields vs)
    (hnew : X.s_0.heap.get? a = none) (hp : ∀ p, p ∈ X.pn ++ pins → p.1 ≠ a) : L2.Inv X pins σ (upd H a (excAt a C)) s := by
  obtain ⟨ha, na, nL, nF, _⟩ := I.pin (a, oe) (List.mem_append_right _ List.mem_cons_self)
  simp only at ha na nL nF
  have old : ∀ b u, H b = some u → b ≠ a := fun b u q z => by rw [z, na] at q; cases q
  refine { ok := I.ok, os := I.os, bare := I.bare, base := ?_, loc := I.loc, cell := I.cell, free := ?_, freeC := ?_, pin := ?_, hok := ?_, len := I.len }
  · refine ⟨I.base.keep, I.base.slot, fun b o e n hx => ?_, I.base.there, fun b xs e => ?_, fun b o u e => ?_, fun b ps e => ?_⟩
    · rw [upd_ne (fun z => by rw [z, hnew] at e; cases e)]
      exact I.base.free b o e n hx
    · have q := I.base.tups b xs e
      rw [upd_ne (old b _ q)]; exact q
    · have q := I.base.frzs b o u e
      rw [upd_ne (old b _ q)]; exact q
    · obtain ⟨m, q⟩ := I.base.tbls b ps e
      exact ⟨m, by rw [upd_ne (old b _ q)]; exact q⟩
  · rw [upd_ne (Ne.symm nL)]; exact I.free
  · intro x c e
    obtain ⟨v, o, ho, hcd⟩ := I.cell x c e
    rw [upd_ne (fun z => by rw [z, ha] at ho; cases ho; rw [hv] at hcd; cases hcd)]
    exact I.freeC x c e
  · intro p hp'
    obtain ⟨e, n, k1, k2, k3⟩ := I.pin p (by
      rcases List.mem_append.mp hp' with z | z
      · exact List.mem_append_left _ z
      · exact List.mem_append_right _ (List.mem_cons_of_mem _ z))
    exact ⟨e, by rw [upd_ne (hp p hp')]; exact n, k1, k2, k3⟩
  · intro b u q
    by_cases hb : b = a
    · subst hb
      rw [upd_same] at q
      cases q
      refine ⟨⟨oe, vs, ha, hc, hd, hv⟩, ⟨oe, ha⟩, fun h1 h2 z k => ?_⟩
      obtain ⟨o, w, e1, e2⟩ := z
      exact ⟨o, w, k o e1, e2⟩
    · rw [upd_ne hb] at q
      refine (I.hok b u q).stay (fun c v _ r => r) (fun c r => ?_) fun c xs r => ?_
      · rw [upd_ne (old c _ r)]; exact r
      · rw [upd_ne (old c _ r)]; exact r

/-- what is wished of an exception of the body: it is caught, its object then stands in slot j -/
def wKeep (K : PySem.W.Frag) (c : Value) (i j : Nat) (D : Ends) : WX := fun cls d σ H => PySem.W.exmOne K cls c = some true ∧ ∃ C, cls = .ref C ∧ d = none ∧ ∀ a, H a = none → D.nx ((σ.set j (some (.ref a))).set i none) (upd H a (excAt a C))

section
variable {X : Cx} {x n cn : Str} {c : Value} {i j : Nat} {body : List Stmt} {np pos pos' pc pn' ps : Pos} {tb : WX → TS}
theorem ps_try_keep (hst : X.stack = X.env :: X.outer) (hfr : X.env.frame = some X.env.locals) (hN : X.N.Nodup) (hi : X.N[i]? = some n) (hj : X.N[j]? = some cn) (hn : X.env.kindOf n = some .local) (hcn : X.env.kindOf cn = some .local) (hx : Names X x c) (hdn : (n == ("__debug__" : Str)) = false) (hcd : (n == ("__classdict__" : Str)) = false) (hex : X.ex = [])
    (hb : ∀ (W : WX) (pn : List (Addr × Obj)) (xe : Value → Shared → Prop), Takes (X.tr pn xe) W → PassesOwn (model X.prog X.w) X.A X.env xe → PSs (X.tr pn xe) body (tb W)) :
    PS X (.Try body [.ExceptHandler (some (.Name x np)) (some n) [.Assign [.Name cn pc] (.Name n pn') ps] pos'] [] [] pos) (fun D σ H => tb (wKeep X.K c i j D) D σ H) := by
  refine ⟨fun pins s σ H D I h => ?_⟩
  have ok := I.ok
  have frames : X.A.frames = some (X.env :: X.outer) := by rw [ok.frames, hst]
  have hnc : n ≠ cn → i ≠ j := fun q z => q (by rw [z, hj] at hi; cases hi; rfl)
  refine wpAny_Try_except ?_
  refine wpAny_mono ((hb (wKeep X.K c i j D) (X.pn ++ pins) (fun e z1 => wpAny (model X.prog X.w) X.A (noteFrame e X.env) (fun _ z2 => wpAny (model X.prog X.w) X.A (setFlight e none) (fun _ z3 =>
    wpAny (model X.prog X.w) X.A (handleBy e X.env [.ExceptHandler (some (.Name x np)) (some n) [.Assign [.Name cn pc] (.Name n pn') ps] pos']) (SP X pins D) X.xe z3) X.xe z2) X.xe z1)
    (fun u z flight => ?_) PassesOwn.looking).run [] s σ H D (I.toTry _) h) (fun fl z1 q => ?_) (fun e z1 q => q)
  · obtain ⟨a, B, zI, pins', σ', H', cls, d, rfl, J', nb, up, sky, na, os, ag, caught, C, rfl, rfl, fin⟩ := flight
    have J : L2.Inv X pins σ' H' zI := J'.ofTry ok
    have sky' : Sky B (X.env :: X.outer) a (Zc (.ref C) none) X.env.locals z.heap := by rw [← hst]; exact sky
    have gone : B.get? a = none := by
      rcases sky' with ⟨_, q, _⟩ | ⟨_, q, _⟩ | ⟨_, q, _⟩ <;> exact q
    show wpAny (model X.prog X.w) X.A (noteFrame (.ref a) X.env) _ _ _
    refine Sky.land Zc.steady frames hfr sky' fun g3 fly3 up3 => ?_
    have J3 : L2.Inv X pins σ' H' { z with heap := g3 } := J.landed nb fly3.1 (up.trans up3) os ag
    obtain ⟨o3, w3, at3, cl3, dt3⟩ := fly3.there
    have outside : a ∉ frs (X.env :: X.outer) := fun hm => by
      obtain ⟨_, o', e', hnf⟩ := fly3.2.2.1.mem hm
      rw [at3] at e'; cases e'
      exact hnf _ dt3
    have nL : a ≠ X.env.locals := fun q => outside (List.mem_filterMap.mpr ⟨X.env, List.mem_cons_self, by rw [hfr, q]⟩)
    have nF : a ∉ X.fs := fun hm => by
      obtain ⟨e, he, q⟩ := List.mem_filterMap.mp hm
      exact outside (List.mem_filterMap.mpr ⟨e, List.mem_cons_of_mem _ he, q⟩)
    have notI : zI.heap.get? a = none := by
      cases q : zI.heap.get? a with
      | none => rfl
      | some o =>
        have := nb a o q (by rw [hst]; exact outside)
        rw [gone] at this; cases this
    have S3 := J3.suite at3 dt3 na nL nF
    refine wpAny_handleBy_cons (codeAny_handlers_test ?_) (by intro q; cases q)
    have LT : PySem.W.Looks (model X.prog X.w) g3 (typeOf (.ref a)) (.ref C) := fun A Q E s' kk q => wpAny_typeOf_ref (kk _ _ at3) (by rw [cl3.1]; exact q)
    have LM := PySem.W.exm_one (M := model X.prog X.w) J3.kIn LT caught
    have look : ∀ {Q : Value → Shared → Prop} {E : Value → Shared → Prop}, Q c { z with heap := g3 } → wpAny (model X.prog X.w) (X.A.mark (some (.ref a))) (eval (.Name x np) X.env) Q E { z with heap := g3 } := fun {Q E} q => by
      obtain ⟨k1, k2, k3 | ⟨k3, k4, k5⟩⟩ := hx
      · exact ld_glob (X := X.suite a ((a, o3) :: (X.pn ++ pins))) S3 k1 k3 q k2
      · exact ld_blt (X := X.suite a ((a, o3) :: (X.pn ++ pins))) S3 k1 k3 k4 q k5 k2
    refine look (LM.here ?_)
    refine codeAny_handlers_suite_as ?_
    refine HandSPX.lands_againZ fly3 fun g4 fly4 up4 => ?_
    have J4 : L2.Inv X pins σ' H' { z with heap := g4 } := J.landed nb fly4.1 ((up.trans up3).trans up4) os ag
    obtain ⟨o4, w4, at4, cl4, dt4⟩ := fly4.there
    have S4 := J4.suite at4 dt4 na nL nF
    refine store_ok (X := X.suite a ((a, o4) :: (X.pn ++ pins))) (v := .ref a) S4 hN hi (.inl hn) rfl (fun s5 S5 => ?_) (.inr hn)
    have hname : PE (X.suite a ((a, o4) :: (X.pn ++ pins))) (.Name n pn') (tVar i) := pe_var (i := i) hi (.inl hn) hdn hcd
    have hset : PS (X.suite a ((a, o4) :: (X.pn ++ pins))) (.Assign [.Name cn pc] (.Name n pn') ps) (tAsg (tVar i) (gName j)) := ps_set (i := j) hN hj (.inl hcn) hname rfl (.inr hcn)
    have hlen : i < σ'.length := by
      rw [J.len]
      exact (List.getElem?_eq_some_iff.mp hi).1
    refine wpAny_mono ((pss_one hset).run [] s5 _ H' { nx := fun σ6 H6 => σ6 = (σ'.set i (some (.ref a))).set j (some (.ref a)) ∧ H6 = H', rt := fun _ _ => False } S5 ⟨.ref a, by rw [List.getElem?_set_self hlen], rfl, rfl⟩) (fun fl s6 q => ?_) (fun _ _ q => False.elim q)
    cases fl with
    | next =>
      obtain ⟨σ6, H6, S6, rfl, rfl⟩ := q
      have K6 : L2.Inv X ((a, o4) :: pins) _ H6 s6 := ⟨ok, S6.os, S6.bare, S6.base, S6.loc, S6.cell, S6.free, S6.freeC, fun p hp => S6.pin p (by
        rw [List.append_nil]
        rcases List.mem_append.mp hp with q | q
        · exact List.mem_cons_of_mem _ (List.mem_append_left _ q)
        · rcases List.mem_cons.mp q with q | q
          · rw [q]; exact List.mem_cons_self
          · exact List.mem_cons_of_mem _ (List.mem_append_right _ q)), S6.hok, S6.len⟩
      show wpAny (model X.prog X.w) X.A (do bindName X.env n .none; unbindBehindTheSuite X.env n pos') _ X.xe s6
      refine gone_ok K6 hN hi hn fun s7 K7 => ?_
      have hnew : X.s_0.heap.get? a = none := by
        cases q : X.s_0.heap.get? a with
        | none => rfl
        | some o =>
          obtain ⟨o', q'⟩ := J.base.there a o q (by rw [hex]; simp)
          rw [notI] at q'; cases q'
      have T := inv_track (C := C) K7 cl4.1 cl4.2 dt4 hnew fun p hp q => by
        have := (J.pin p hp).1
        rw [q, notI] at this; cases this
      refine ⟨_, _, T, ?_⟩
      have hσ : ((σ'.set i (some (V.ref a))).set j (some (V.ref a))).set i none = (σ'.set j (some (V.ref a))).set i none := by
        apply List.ext_getElem?
        intro l
        by_cases h1 : i = l
        · subst h1
          by_cases h2 : i < σ'.length
          · rw [List.getElem?_set_self (by simpa using h2), List.getElem?_set_self (by simpa using h2)]
          · rw [List.getElem?_eq_none (by simpa using h2), List.getElem?_eq_none (by simpa using h2)]
        · rw [List.getElem?_set_ne h1, List.getElem?_set_ne h1]
          by_cases h2 : j = l
          · subst h2
            by_cases h3 : j < σ'.length
            · rw [List.getElem?_set_self (by simpa using h3), List.getElem?_set_self (by simpa using h3)]
            · rw [List.getElem?_eq_none (by simpa using h3), List.getElem?_eq_none (by simpa using h3)]
          · rw [List.getElem?_set_ne h2, List.getElem?_set_ne h2, List.getElem?_set_ne h1]
      rw [hσ]
      exact fin a na
    | brk => obtain ⟨_, _, _, q⟩ := q; exact False.elim q
    | cont => obtain ⟨_, _, _, q⟩ := q; exact False.elim q
    | ret u => obtain ⟨_, _, _, _, _, q⟩ := q; exact False.elim q
  · cases fl with
    | next =>
      obtain ⟨σ', H', J', q⟩ := q
      exact wpAny_execs_nil ⟨σ', H', J'.ofTry ok, q⟩
    | brk =>
      obtain ⟨σ', H', J', q⟩ := q
      exact ⟨σ', H', J'.ofTry ok, q⟩
    | cont =>
      obtain ⟨σ', H', J', q⟩ := q
      exact ⟨σ', H', J'.ofTry ok, q⟩
    | ret u =>
      obtain ⟨v, σ', H', J', r, q⟩ := q
      exact ⟨v, σ', H', J'.ofTry ok, r, q⟩
end
end Wv

set_option maxHeartbeats 4000000
namespace Wv
open PySem L2

section
variable {X : Cx} {y : Cy} {N : List Str} {sc : Scope} {m : Bool} {g : Gt} {F : Nat → List PyData → Tw → R PyData} {k : Nat}
variable {env env' : Env} {t t' : Tw} {σ σ' : St} {H H' : Hp} {O O' : List Addr} {D : Ends}

theorem swapped_none2 {x z : Str} {px pz pt pv : Pos} {kt kv : Nat} {a b : Expr} {envp : PySem.Env} (hk : envp.scope.kind = .function) (hl : (localB envp.scope x && localB envp.scope z) = false) (ha : ordE a = true) (hb : ordE b = true) :
    swappedStores [.Tuple [.Name x px, .Name z pz] kt pt] (.Tuple [a, b] kv pv) envp = pure none := by
  have hbk : envp.blockKind = .function := by unfold Env.blockKind; rw [hk]; rfl
  have st : ([a, b].any fun | .Starred .. => true | _ => false) = false := by
    exact Bool.or_eq_false_iff.mpr ⟨notStar ha, Bool.or_eq_false_iff.mpr ⟨notStar hb, rfl⟩⟩
  have kx : ∀ w, (envp.kindOf w == some .local) = localB envp.scope w := fun w => by
    show (envp.scope.names.lookup w == some .local) = _
    unfold localB
    cases q : envp.scope.names.lookup w with
    | none => rfl
    | some kd => cases kd <;> rfl
  unfold swappedStores
  dsimp only
  generalize hq : List.any [a, b] _ = q
  have hq' : q = false := by rw [← hq]; exact st
  subst hq'
  cases h1 : localB envp.scope x with
  | false =>
    have e1 : (envp.kindOf x == some .local) = false := by rw [kx, h1]
    have e1' : ¬ envp.kindOf x = some .local := by simpa using e1
    simp only [List.filterMap_cons, e1, Bool.false_and, if_neg Bool.false_ne_true]
    by_cases e2 : (envp.kindOf z == some .local && pz.line == px.line) = true
    · simp [hbk, e1', Expr.pos, List.filterMap_cons]
      split <;> simp
    · simp [hbk, e1', Expr.pos, List.filterMap_cons]
      split <;> simp
  | true =>
    rw [h1, Bool.true_and] at hl
    have e1 : (envp.kindOf z == some .local) = false := by rw [kx, hl]
    have e1' : ¬ envp.kindOf z = some .local := by simpa using e1
    simp [hbk, e1', Expr.pos, List.filterMap_cons]
    split <;> simp

theorem sst_asgP {i j : Nat} {x z : Str} {a b : Expr} {px pz pt pv pos : Pos} {kt kv : Nat} {rs : Env → Tw → R (List PyData)} (C : Sxx X y N sc g F k) (hi : N[i]? = some x) (hj : N[j]? = some z) (hij : i ≠ j) (hx : localB sc x = true) (hz : localB sc z = true) (hl : (px.line == pz.line) = true) (hne : x ≠ z)
    (ha : ordE a = true) (hb : ordE b = true) (hf : (foldedForSure 8 a && foldedForSure 8 b) = false) (hc : (constantsAlone 8 a && constantsAlone 8 b) = false) (h : PA X [a, b] (tL y false rs)) :
    PS X (.Assign [.Tuple [.Name x px, .Name z pz] kt pt] (.Tuple [a, b] kv pv) pos) (tS y fun env t => SR.of (rs env t) env fun ds t => if [i, j].length = ds.length then .next (([i, j].zip ds).foldl (fun e p => e.set p.1 (some (false, p.2))) env) t else .bad) := by
  have hkd : X.env.scope.kind = .function := by rw [C.scope]; exact C.kind
  refine PS.imp (ps_par (i := i) (j := j) C.calm (by rw [C.names]; exact C.nd) (by rw [C.names]; exact hi) (by rw [C.names]; exact hj) hij (by rw [C.scope]; exact local_of hx) (by rw [C.scope]; exact local_of hz) h
    (swapped_two hkd (by rw [C.scope]; exact hx) (by rw [C.scope]; exact hz) hl hne ha hb hf hc)) fun D σ H q => ?_
  obtain ⟨env, t, O, r, q⟩ := q
  refine tL.thenS r q fun ds t1 vs H1 e1 g1 r1 rv w => ?_
  by_cases hlen : [i, j].length = ds.length
  · rw [if_pos hlen] at w
    match ds, hlen, rv, w with
    | [d1, d2], _, rv, w =>
      obtain ⟨v1, v2, rfl, rv1, rv2⟩ := pair2 rv
      exact ⟨v1, v2, rfl, w _ H1 O ((r1.store rv1.share).store rv2.share) Fut.refl⟩
  · rw [if_neg hlen] at w
    exact w.elim
theorem sst_raise {c : Nat} {x ms : Str} {jj : Nat} {p p2 p3 pos : Pos} (C : Sxx X y N sc g F k) (hc : g.exc c = some x) (hg : glB sc x = true) : PS X (.Raise (some (.Call (.Name x p) [.Constant (.str ms) jj p2] [] p3)) none pos) (tS y fun env t => .exc c env t) := by
  obtain ⟨m1, m2⟩ := C.exf.mgs c x hc
  obtain ⟨k1, k2, k3, k4⟩ := C.exf.mks c x hc
  refine PS.imp (ps_raise C.calm C.tk (pmk_own PySem.F.excBase_ValueError k1 m1 k2 (raises_own k3 k4) (gl_of (by rw [C.scope]; exact hg)) m2)) fun D σ H h => ?_
  obtain ⟨env, t, O, r, h⟩ := h
  exact h σ H O r Fut.refl
/-- the frame of a try's body -/
theorem Sxx.tr (C : Sxx X y N sc g F k) {W : WX} {pn : List (Addr × Obj)} {xe : Value → Shared → Prop} (tk : Takes (X.tr pn xe) W) (po : PassesOwn (model X.prog X.w) X.A X.env xe) : Sxx (X.tr pn xe) { y with W := W } N sc g F k where
  scope := C.scope
  names := C.names
  K := C.K
  calm := C.calm
  nd := C.nd
  units := C.units
  tk := tk
  free := C.free
  fns := C.fns
  csts := C.csts
  room := C.room
  exf := C.exf
  fnT := C.fnT
  po := po
  kind := C.kind
  stk := C.stk
  frm := C.frm
  exn := C.exn
theorem sst_try {ie ic : Nat} {n cn x : Str} {body : List Stmt} {np pos pos' pc pn' ps : Pos} {rb : Env → Tw → SR} (C : Sxx X y N sc g F k) (hi : N[ie]? = some n) (hj : N[ic]? = some cn) (hn : localB sc n = true) (hcn : localB sc cn = true) (hx : g.exc 0 = some x) (hg : glB sc x = true) (hall : excAll g = true) (hdn : (n == ("__debug__" : Str)) = false) (hcd : (n == ("__classdict__" : Str)) = false)
    (hb : ∀ {X : Cx} {y : Cy}, Sxx X y N sc g F k → PSs X body (tS y rb)) :
    PS X (.Try body [.ExceptHandler (some (.Name x np)) (some n) [.Assign [.Name cn pc] (.Name n pn') ps] pos'] [] [] pos) (tS y fun env t => match rb env t with
      | .exc d env' t' => if d < 9 then .next ((env'.set ic (some (false, tExc d))).set ie none) t' else .bad
      | r => r) := by
  obtain ⟨m1, m2⟩ := C.exf.mgs 0 x hx
  have hNm : Names X x (.ref (y.z.cls 0)) := ⟨gl_of (by rw [C.scope]; exact hg), m2, .inl m1⟩
  refine PS.imp (ps_try_keep (i := ie) (j := ic) (tb := fun W => tS { y with W := W } rb) C.stk C.frm (by rw [C.names]; exact C.nd) (by rw [C.names]; exact hi) (by rw [C.names]; exact hj) (by show X.env.scope.names.lookup n = _; rw [C.scope]; exact local_of hn) (by show X.env.scope.names.lookup cn = _; rw [C.scope]; exact local_of hcn) hNm hdn hcd C.exn
    (fun W pn xe tk po => hb (C.tr tk po))) fun D σ H h => ?_
  obtain ⟨env, t, O, r, h⟩ := h
  refine ⟨env, t, O, r.wish _, ?_⟩
  dsimp only at h
  cases e : rb env t with
  | bad => rw [e] at h; exact h
  | ret d t' => rw [e] at h; exact h
  | next env' t' =>
    rw [e] at h
    exact fun σ' H' O' r' f => h σ' H' O' r'.unwish f
  | exc c env' t' =>
    rw [e] at h
    intro σ' H' O' r' f
    have r' := r'.unwish
    by_cases hc : c < 9
    · simp only [hc, if_true] at h
      simp only [excAll, List.all_eq_true] at hall
      obtain ⟨xc, hxc⟩ := Option.isSome_iff_exists.mp (hall c (List.mem_range.mpr hc))
      refine ⟨C.exf.exm c xc x hxc hx, y.z.cls c, rfl, rfl, fun a na => ?_⟩
      obtain ⟨gn, wn, nO⟩ := r'.new (o := excAt a (y.z.cls c)) na
      have r2 := r'.after gn wn
      refine h _ _ O' ((r2.store (.exc c (hide_of nO upd_same))).forget ie) (f.trans (r'.mono gn))
    · simp only [hc, if_false] at h
      exact h.elim

/-! ### does a statement say what a core one says -/
def noSwapT (sc : Scope) : Expr → Expr → Bool
  | tg, .Tuple vs _ _ => (match tg, vs with
    | .Tuple [.Name x _, .Name z _] _ _, [a, b] => !(localB sc x && localB sc z) && ordE a && ordE b
    | _, _ => false)
  | _, _ => true
theorem noSwapT_ok {tg e : Expr} (C : Sxx X y N sc g F k) {is : List Nat} (ht : chkTg N sc (fun _ => true) (.tup is) tg = true) (h : noSwapT sc tg e = true) : swappedStores [tg] e X.env = pure none := by
  have hkd : X.env.scope.kind = .function := by rw [C.scope]; exact C.kind
  cases tg with
  | Tuple es kk p =>
    cases e with
    | Tuple vs kk2 p2 =>
      simp only [noSwapT] at h
      split at h
      · rename_i q1
        cases q1
        simp only [Bool.and_eq_true, Bool.not_eq_true'] at h
        exact swapped_none2 hkd (by rw [C.scope]; exact h.1.1) h.1.2 h.2
      · cases h
    | _ => rfl
  | _ => cases ht

def dbgB (x : Str) : Bool := !(x == ("__debug__" : Str)) && !(x == ("__classdict__" : Str))

mutual
def chkS (g : Gt) (N : List Str) (sc : Scope) : CS → Stmt → Bool
  | .asg i c, st => (match st with
    | .Assign [.Name x _] ex _ => decide (N[i]? = some x) && locB sc x && (isLc c || noComp ex) && chkE g N c sc ex
    | _ => false)
  | .own i c, st => (match st with
    | .Assign [.Name x _] ex _ => decide (N[i]? = some x) && locB sc x && (match c, ex with
      | .lst es, .List es' _ => chkL g N es sc es'
      | .dct0, .Dict [] [] _ => true
      | c, ex => isLc c && chkE g N c sc ex)
    | _ => false)
  | .asgT is c, st => (match st with
    | .Assign [tg] ex _ => chkTg N sc (fun _ => true) (.tup is) tg && noComp ex && noSwapT sc tg ex && chkE g N c sc ex
    | _ => false)
  | .asgP is es, st => (match is, st with
    | [i, j], .Assign [.Tuple [.Name x px, .Name z pz] _ _] (.Tuple [a, b] _ _) _ => decide (N[i]? = some x) && decide (N[j]? = some z) && decide (i ≠ j) && localB sc x && localB sc z && (px.line == pz.line) && decide (x ≠ z) && ordE a && ordE b && !(foldedForSure 8 a && foldedForSure 8 b) && !(constantsAlone 8 a && constantsAlone 8 b) && chkL g N es sc [a, b]
    | _, _ => false)
  | .app i c, st => (match st with
    | .Expr (.Call (.Attribute (.Name x _) nm apos) [e] [] cpos) _ => decide (nm = "append") && decide (N[i]? = some x) && visB sc x && dbgB x && (apos.endLine == cpos.line) && ordE e && chkE g N c sc e
    | _ => false)
  | .setI i kc vc, st => (match st with
    | .Assign [.Subscript (.Name x _) ek _] ev _ => decide (N[i]? = some x) && visB sc x && dbgB x && ordE ek && chkE g N kc sc ek && chkE g N vc sc ev
    | _ => false)
  | .expr c, st => (match st with
    | .Expr e _ => noComp e && chkE g N c sc e
    | _ => false)
  | .ret c, st => (match st with
    | .Return (some e) _ => chkE g N c sc e
    | _ => false)
  | .raise c, st => (match st with
    | .Raise (some (.Call (.Name x _) [.Constant (.str _) _ _] [] _)) none _ => decide (g.exc c = some x) && glB sc x
    | _ => false)
  | .ite c a b, st => (match st with
    | .If e sa sb _ => !isIf e && chkE g N c sc e && chkB g N sc a sa && chkB g N sc b sb
    | _ => false)
  | .for_ tg it b, st => (match st with
    | .For te iter body [] _ => chkTg N sc (fun _ => true) tg te && ordE iter && chkI g N it sc te iter && chkB g N sc b body
    | _ => false)
  | .try_ b ie ic, st => (match st with
    | .Try body [.ExceptHandler (some (.Name x _)) (some n) [.Assign [.Name cn _] (.Name n' _) _] _] [] [] _ => decide (n' = n) && decide (N[ie]? = some n) && decide (N[ic]? = some cn) && localB sc n && localB sc cn && decide (g.exc 0 = some x) && glB sc x && excAll g && dbgB n && chkB g N sc b body
    | _ => false)
  | .hole, _ => true
def chkB (g : Gt) (N : List Str) (sc : Scope) : CB → List Stmt → Bool
  | .nil, sts => sts.isEmpty
  | .cons c r, sts => (match sts with
    | st :: rest => chkS g N sc c st && chkB g N sc r rest
    | [] => false)
  | .shr _ r, sts => chkB g N sc r sts
  | .hole, _ => true
end
def SndS (g : Gt) (N : List Str) (sc : Scope) (F : Nat → List PyData → Tw → R PyData) (k : Nat) (c : CS) : Prop := ∀ {X : Cx} {y : Cy} {st : Stmt}, Sxx X y N sc g F k → chkS g N sc c st = true → PS X st (tS y (execS F c))
def SndB (g : Gt) (N : List Str) (sc : Scope) (F : Nat → List PyData → Tw → R PyData) (k : Nat) (c : CB) : Prop := ∀ {X : Cx} {y : Cy} {sts : List Stmt}, Sxx X y N sc g F k → chkB g N sc c sts = true → PSs X sts (tS y (execB F c))
theorem dbg_ok {x : Str} (h : dbgB x = true) : (x == ("__debug__" : Str)) = false ∧ (x == ("__classdict__" : Str)) = false := by
  simpa [dbgB] using h
theorem ss_asg {i : Nat} {c : CE} (ar : Arity g F) : SndS g N sc F k (.asg i c) := fun {X y st} C h => by
  unfold chkS at h
  split at h
  · simp only [Bool.and_eq_true, Bool.or_eq_true, decide_eq_true_eq] at h
    obtain ⟨⟨⟨h1, h2⟩, h3⟩, h4⟩ := h
    by_cases hl : isLc c = true
    · exact sst_asgC ar C hl h1 h2 h4
    · rcases h3 with h3 | h3
      · exact absurd h3 hl
      · exact sst_asg C h1 h2 (swap_none h3) ((sndE ar c).e false C.toCxx h4)
  · cases h
theorem ss_own {i : Nat} {c : CE} (ar : Arity g F) : SndS g N sc F k (.own i c) := fun {X y st} C h => by
  unfold chkS at h
  split at h
  · simp only [Bool.and_eq_true, decide_eq_true_eq] at h
    obtain ⟨⟨h1, h2⟩, h3⟩ := h
    split at h3
    · exact sst_ownL C h1 h2 (sndL ar _ C.toCxx h3).1
    · exact PS.imp (sst_ownD C h1 h2) fun D σ H q => q
    · simp only [Bool.and_eq_true] at h3
      exact sst_ownC ar C h3.1 h1 h2 h3.2
  · cases h
theorem ss_asgT {is : List Nat} {c : CE} (ar : Arity g F) : SndS g N sc F k (.asgT is c) := fun {X y st} C h => by
  unfold chkS at h
  split at h
  · simp only [Bool.and_eq_true] at h
    obtain ⟨⟨⟨h1, h2⟩, h3⟩, h4⟩ := h
    exact sst_asgT C h1 h2 (noSwapT_ok C h1 h3) ((sndE ar c).e false C.toCxx h4)
  · cases h
theorem ss_asgP {is : List Nat} {es : CL} (ar : Arity g F) : SndS g N sc F k (.asgP is es) := fun {X y st} C h => by
  unfold chkS at h
  split at h
  · simp only [Bool.and_eq_true, decide_eq_true_eq, Bool.not_eq_true'] at h
    obtain ⟨⟨⟨⟨⟨⟨⟨⟨⟨⟨⟨h1, h2⟩, h3⟩, h4⟩, h5⟩, h6⟩, h7⟩, h8⟩, h9⟩, ha⟩, hb⟩, hc⟩ := h
    exact sst_asgP C h1 h2 h3 h4 h5 h6 h7 h8 h9 ha hb (sndL ar es C.toCxx hc).1
  · cases h
theorem ss_app {i : Nat} {c : CE} (ar : Arity g F) : SndS g N sc F k (.app i c) := fun {X y st} C h => by
  unfold chkS at h
  split at h
  · simp only [Bool.and_eq_true, decide_eq_true_eq] at h
    obtain ⟨⟨⟨⟨⟨⟨rfl, h1⟩, h2⟩, h3⟩, h4⟩, h5⟩, h6⟩ := h
    obtain ⟨d1, d2⟩ := dbg_ok h3
    exact sst_app C h1 h2 d1 d2 h4 h5 ((sndE ar c).e false C.toCxx h6)
  · cases h
theorem swap_sub {x : Str} {p pos' : Pos} {ek ev : Expr} {l : Nat} {envp : PySem.Env} : swapsWithSole [.Subscript (.Name x p) ek pos'] ev l envp = pure false := by
  cases ev <;> rfl
theorem ss_setI {i : Nat} {kc vc : CE} (ar : Arity g F) : SndS g N sc F k (.setI i kc vc) := fun {X y st} C h => by
  unfold chkS at h
  split at h
  · simp only [Bool.and_eq_true, decide_eq_true_eq] at h
    obtain ⟨⟨⟨⟨⟨h1, h2⟩, h3⟩, h4⟩, h5⟩, h6⟩ := h
    obtain ⟨d1, d2⟩ := dbg_ok h3
    exact sst_setI C h1 h2 d1 d2 swap_sub h4 ((sndE ar kc).e true C.toCxx h5) ((sndE ar kc).e false C.toCxx h5) ((sndE ar vc).e false C.toCxx h6)
  · cases h
theorem ss_expr {c : CE} (ar : Arity g F) : SndS g N sc F k (.expr c) := fun {X y st} C h => by
  unfold chkS at h
  split at h
  · simp only [Bool.and_eq_true] at h
    exact sst_expr h.1 ((sndE ar c).e true C.toCxx h.2)
  · cases h
theorem ss_ret {c : CE} (ar : Arity g F) : SndS g N sc F k (.ret c) := fun {X y st} C h => by
  unfold chkS at h
  split at h
  · exact sst_ret ((sndE ar c).e false C.toCxx h)
  · cases h
theorem ss_raise {c : Nat} : SndS g N sc F k (.raise c) := fun {X y st} C h => by
  unfold chkS at h
  split at h
  · simp only [Bool.and_eq_true, decide_eq_true_eq] at h
    exact sst_raise C h.1 h.2
  · cases h
theorem ss_ite {c : CE} {a b : CB} (ar : Arity g F) (ha : SndB g N sc F k a) (hb : SndB g N sc F k b) : SndS g N sc F k (.ite c a b) := fun {X y st} C h => by
  unfold chkS at h
  split at h
  · simp only [Bool.and_eq_true, Bool.not_eq_true'] at h
    obtain ⟨⟨⟨h1, h2⟩, h3⟩, h4⟩ := h
    exact sst_ite ((sndE ar c).t C.toCxx h2 h1) (ha C h3) (hb C h4)
  · cases h
theorem ss_for {tg : Tg} {it : CI} {b : CB} (ar : Arity g F) (hb : SndB g N sc F k b) : SndS g N sc F k (.for_ tg it b) := fun {X y st} C h => by
  unfold chkS at h
  split at h
  · simp only [Bool.and_eq_true] at h
    obtain ⟨⟨⟨h1, h2⟩, h3⟩, h4⟩ := h
    exact sst_for C h1 h2 (sndI ar it C.toCxx h3) (hb C h4)
  · cases h
theorem ss_try {b : CB} {ie ic : Nat} (hb : SndB g N sc F k b) : SndS g N sc F k (.try_ b ie ic) := fun {X y st} C h => by
  unfold chkS at h
  split at h
  · simp only [Bool.and_eq_true, decide_eq_true_eq] at h
    obtain ⟨⟨⟨⟨⟨⟨⟨⟨⟨rfl, h1⟩, h2⟩, h3⟩, h4⟩, h5⟩, h6⟩, h7⟩, h8⟩, h9⟩ := h
    obtain ⟨d1, d2⟩ := dbg_ok h8
    exact sst_try C h1 h2 h3 h4 h5 h6 h7 d1 d2 fun C' => hb C' h9
  · cases h
theorem sb_nil : SndB g N sc F k .nil := fun {X y sts} C h => by
  unfold chkB at h
  cases sts with
  | nil => exact sst_nil
  | cons => cases h
theorem sb_cons {c : CS} {r : CB} (hc : SndS g N sc F k c) (hr : SndB g N sc F k r) : SndB g N sc F k (.cons c r) := fun {X y sts} C h => by
  unfold chkB at h
  split at h
  · simp only [Bool.and_eq_true] at h
    exact sst_cons (hc C h.1) (hr C h.2)
  · cases h
theorem sb_shr {i : Nat} {r : CB} (hr : SndB g N sc F k r) : SndB g N sc F k (.shr i r) := fun {X y sts} C h => by
  unfold chkB at h
  exact sst_shr (hr C h)
theorem ss_hole : SndS g N sc F k .hole := fun {X y st} C h => ⟨fun pins s σ H D I q => by
  obtain ⟨env, t, O, r, q⟩ := q
  exact q.elim⟩
theorem sb_hole : SndB g N sc F k .hole := fun {X y sts} C h => ⟨fun pins s σ H D I q => by
  obtain ⟨env, t, O, r, q⟩ := q
  exact q.elim⟩
mutual
theorem sndS (ar : Arity g F) : ∀ c : CS, SndS g N sc F k c
  | .asg i c => ss_asg ar
  | .own i c => ss_own ar
  | .asgT is c => ss_asgT ar
  | .asgP is es => ss_asgP ar
  | .app i c => ss_app ar
  | .setI i kc vc => ss_setI ar
  | .expr c => ss_expr ar
  | .ret c => ss_ret ar
  | .raise c => ss_raise
  | .ite c a b => ss_ite ar (sndB ar a) (sndB ar b)
  | .for_ tg it b => ss_for ar (sndB ar b)
  | .try_ b ie ic => ss_try (sndB ar b)
  | .hole => ss_hole
theorem sndB (ar : Arity g F) : ∀ c : CB, SndB g N sc F k c
  | .nil => sb_nil
  | .cons s r => sb_cons (sndS ar s) (sndB ar r)
  | .shr i r => sb_shr (sndB ar r)
  | .hole => sb_hole
end
end
end Wv

set_option maxHeartbeats 4000000
namespace Wv
open PySem L2

/-! ### a def keeps its promise -/
/-- all that a walk knows of the module -/
structure Gfx (P : Program) (w : World) (K : PySem.W.Frag) (mg : Str → Option Value) (base : Heap) (z : Cz) (g : Gt) (F : Nat → List PyData → Tw → R PyData) (k : Nat) : Prop where
  free : ∀ x, x ∈ biNames → mg x = none
  fns : ∀ f x np kd, g.fn f = some (x, np, kd) → FnAt P w K mg base z k (F f) x np kd
  csts : ∀ x d, g.cst x = some d → ∃ (u : Value) (v : V), mg x = some u ∧ RelV v u ∧ (∀ H, Rp K z H v d) ∧ (x == ("__debug__" : Str)) = false
  exf : ExcF K mg z g.exc

theorem start_env {K : PySem.W.Frag} {z : Cz} {H : Hp} {n : Nat} : ∀ {vs : List V} {ds : List PyData}, RpAll K z H vs ds → ∀ (i : Nat) (b : Bool) (d : PyData), (ds.map (fun v => some (false, v)) ++ List.replicate n none)[i]? = some (some (b, d)) → b = false ∧ ∃ v, (vs.map some ++ List.replicate n none)[i]? = some (some v) ∧ Rp K z H v d
  | _, _, .nil, i, b, d, e => by
    simp only [List.map_nil, List.nil_append] at e
    rw [List.getElem?_replicate] at e
    split at e <;> cases e
  | _, _, .cons a t, 0, b, d, e => by
    simp only [List.map_cons, List.cons_append, List.getElem?_cons_zero, Option.some.injEq, Prod.mk.injEq] at e
    obtain ⟨rfl, rfl⟩ := e
    exact ⟨rfl, _, rfl, a⟩
  | _, _, .cons a t, i + 1, b, d, e => by
    simp only [List.map_cons, List.cons_append, List.getElem?_cons_succ] at e ⊢
    exact start_env t i b d e

section
variable {P : Program} {w : World} {K : PySem.W.Frag} {mg : Str → Option Value} {base : Heap} {z : Cz} {g : Gt} {F : Nat → List PyData → Tw → R PyData} {k : Nat}
theorem rel_start {N : List Str} {H : Hp} {O : List Addr} {W : WX} {vs : List V} {ds : List PyData} {t : Tw} (hl : vs.length ≤ N.length) (dom : ∀ a, a ∈ O → Wk (H a)) (tT : z.aT ∈ O) (tN : z.aN ∈ O) (ne : z.aT ≠ z.aN) (tw : TwOk z H t) (h : RpAll K z (hide O H) vs ds) :
    Rel ⟨K, z, H, O, W⟩ (ds.map (fun v => some (false, v)) ++ List.replicate (N.length - vs.length) none) t (start N vs) H O where
  len := by simp [L2.start, h.length]
  sh := fun i d e => (start_env h i false d e).2
  ow := fun i d e => by cases (start_env h i true d e).1
  inj := fun i j d e a q => by cases (start_env h i true d q).1
  grow := Grow.refl
  sub := fun a q => q
  dom := dom
  tT := tT
  dom0 := fun a h => (dom a h).ne
  tN := tN
  ne := ne
  tw := tw
theorem fn_ok {x qual : Str} {params : Arguments} {body : List Stmt} {scope : Scope} {dvs : List V} {kws : List (Str × V)} {f : Addr} {fd : FuncData} {N ps : List Str} {c : CB} (G : Gfx P w K mg base z g F k) (ar : Arity g F) (Fd : FunD K x qual params body scope dvs kws f fd) (S : FnScope N ps scope) (hl : ps.length ≤ N.length) (hc : chkB g N scope c body = true) :
    FnOk P w K mg base (L2.CX P w) (k + 1) f fd ps (spOf K z ps.length fun ds t => runDf F (.code ps.length N.length c) ds t) := by
  refine Fd.ok S (fun vs H Q E h => h.1) (fun cdv A outer s H vs Q E hr h => ?_)
  obtain ⟨hv, O, ds, t, dom, tT, tN, ne, tw, hp, q⟩ := h
  let y : Cy := ⟨K, z, H, O, fun cls d _ H' => E cls d H'⟩
  have C : Sxx (cxOf (L2.CX P w) P w K mg base N qual scope f cdv A outer s H E) y N scope g F k := {
    scope := rfl
    names := rfl
    K := rfl
    calm := rfl
    nd := S.nd
    units := by have := hr.un; show (A.deeper _).units + 200 < cLine; omega
    tk := takes_of rfl rfl rfl rfl
    free := G.free
    fns := G.fns
    csts := G.csts
    room := hr
    exf := G.exf
    fnT := fun _ => rfl
    po := passes_of rfl
    kind := S.kind
    stk := rfl
    frm := rfl
    exn := rfl }
  refine ⟨tS y (execB F c), sndB ar c C hc, ?_⟩
  have hds : ds.length = ps.length := by rw [← hp.length]; exact hv
  refine ⟨_, t, O, rel_start (W := y.W) (by rw [hv]; exact hl) dom tT tN ne tw hp, ?_⟩
  unfold runDf at q
  simp only [hds, if_true] at q
  rw [hv]
  cases e : execB F c (ds.map (fun v => some (false, v)) ++ List.replicate (N.length - ps.length) none) t with
  | bad => rw [e] at q; exact q
  | ret d t' => rw [e] at q; exact fun v H' g w p => q v H' g w p
  | exc cc env' t' => rw [e] at q; exact fun σ' H' O' r f => q H' r.grow r.tw
  | next env' t' => rw [e] at q; exact fun σ' H' O' r f => q .non H' r.grow r.tw .non

/-! ### the defs, level by level -/
def callN (T : Nat → Option Df) : Nat → Nat → List PyData → Tw → R PyData
  | 0, _, _, _ => .bad
  | n + 1, f, vs, t => match T f with
    | some d => runDf (callN T n) d vs t
    | none => .bad

/-- one def of the text: its core, its names, where it stands -/
structure DefOk (P : Program) (w : World) (K : PySem.W.Frag) (mg : Str → Option Value) (base : Heap) (g : Gt) (T : Nat → Option Df) (f : Nat) (x : Str) (np : Nat) (kd : Kd) : Prop where
  at_ : ∃ (a : Addr) (fd : FuncData) (ps : List Str), ps.length = np ∧ mg x = some (.ref a) ∧ PySem.W.keepIn K (.ref a) = true ∧ (kd = .pos → Binds K fd ps []) ∧
    (kd = .kw → (∃ (Ta : Addr) (ds : List Value), SqT K (fun _ => none) Ta [] ∧ Vals [.ref Ta] ds ∧ Binds K fd ps ds) ∧ ∃ n, n + 1 = ps.length ∧ KBn K fd ps n ["liars"] (fun us ws => us ++ ws) (fun us ws => us ++ ws)) ∧
    ∃ d, T f = some d ∧ ∀ (z : Cz) (F : Nat → List PyData → Tw → R PyData) (k : Nat), Gfx P w K mg base z g F k → Arity g F → FnOk P w K mg base (L2.CX P w) (k + 1) a fd ps (spOf K z np fun ds t => runDf F d ds t)
  nm : (x == ("__debug__" : Str)) = false
theorem arity_N {T : Nat → Option Df} (h : ∀ f x np kd, g.fn f = some (x, np, kd) → ∃ d, T f = some d ∧ ∀ F ds t, ds.length ≠ np → runDf F d ds t = .bad) : ∀ n, Arity g (callN T n)
  | 0, f, x, np, kd, ds, t, _, _ => rfl
  | n + 1, f, x, np, kd, ds, t, hf, hl => by
    obtain ⟨d, e, q⟩ := h f x np kd hf
    show (match T f with
      | some d => runDf (callN T n) d ds t
      | none => .bad) = .bad
    rw [e]
    exact q _ ds t hl
theorem gfx_N {T : Nat → Option Df} {cls : Nat → Addr} (free : ∀ x, x ∈ biNames → mg x = none)
    (csts : ∀ z : Cz, ∀ x d, g.cst x = some d → ∃ (u : Value) (v : V), mg x = some u ∧ RelV v u ∧ (∀ H, Rp K z H v d) ∧ (x == ("__debug__" : Str)) = false)
    (exf : ∀ aT aN, ExcF K mg ⟨aT, aN, cls⟩ g.exc)
    (ar : ∀ n, Arity g (callN T n))
    (defs : ∀ f x np kd, g.fn f = some (x, np, kd) → DefOk P w K mg base g T f x np kd) (aT aN : Addr) : ∀ n, Gfx P w K mg base ⟨aT, aN, cls⟩ g (callN T n) n
  | 0 => ⟨free, fun f x np kd hf => by
      obtain ⟨⟨a, fd, ps, h1, h2, h3, h4, h5, d, h6, h7⟩, nm⟩ := defs f x np kd hf
      refine ⟨⟨a, fd, ps, h2, h3, ⟨fun vs H Q E h => by rw [h1]; exact h.1, fun A outer s H args us vs Q E _ _ _ _ h => ?_⟩, h4, h5⟩, nm⟩
      obtain ⟨_, O, ds, t, _, _, _, _, _, _, q⟩ := h
      exact False.elim q, csts _, exf aT aN⟩
  | n + 1 => ⟨free, fun f x np kd hf => by
      obtain ⟨⟨a, fd, ps, h1, h2, h3, h4, h5, d, h6, h7⟩, nm⟩ := defs f x np kd hf
      have ih := gfx_N free csts exf ar defs aT aN n
      have q := h7 ⟨aT, aN, cls⟩ (callN T n) n ih (ar n)
      refine ⟨⟨a, fd, ps, h2, h3, ?_, h4, h5⟩, nm⟩
      have e : (fun ds t => runDf (callN T n) d ds t) = callN T (n + 1) f := by
        funext ds t
        show _ = (match T f with
          | some d => runDf (callN T n) d ds t
          | none => .bad)
        rw [h6]
      rw [← e]
      exact q, csts _, exf aT aN⟩
end
end Wv

set_option maxHeartbeats 4000000
namespace Wv
open PySem L2

/-! ### the draw -/
def rLenV (K : PySem.W.Frag) : List V → Hp → VK → Prop := fun xs H Q => ∃ x n, xs = [x] ∧ LenV K x H n ∧ Q (.int n) H
abbrev oAdd : R2 := rI0 fun i j => .int (i + j)
abbrev oMul : R2 := rI CMul fun i j => .int (i * j)
abbrev oDiv : R2 := rI CDiv fun i j => .int (i / j)
abbrev oMod : R2 := rI (fun _ j => 0 < j) fun i j => .int (i % j)
abbrev oPow : R2 := rI CPow fun i j => .int (i ^ j.toNat)
abbrev oGe : R2 := rI0 fun i j => .bl (decide (j ≤ i))
def tDraw (K : PySem.W.Frag) : TS :=
  tSeq (tAsg (tOp (rIx K) (tVar 0) (tC (.int 0))) (gName 2))
  (tSeq (tAsg (tOp oAdd (tOp (rIx K) (tVar 0) (tC (.int 1))) (tC (.int 1))) (gSub (tVar 0) (tC (.int 1)) rSetL))
  (tSeq (tAsg (tOp oMod (tOp (rIx K) (tVar 0) (tC (.int 1))) (tCB (rLenV K) (tCons (tVar 2) tNil))) (gName 3))
  (tSeq (tAsg (tOp (rIx K) (tVar 2) (tVar 3)) (gName 4))
  (tSeq (tIfS (tTest (tOp oGe (tVar 4) (tC (.int 1000000000000000000))))
    (tSeq (tAsg (tOp oDiv (tVar 4) (tVar 1)) (gSub (tVar 2) (tVar 3) rSetL)) (tRet (tOp oMod (tVar 4) (tVar 1)))) tNext)
  (tSeq (tAsg (tOp oMod (tOp oAdd (tVar 4) (tOp oMul (tC (.int 104729)) (tOp (rIx K) (tVar 0) (tC (.int 1))))) (tC (.int 4294967291))) (gName 5))
  (tSeq (tAsg (tOp oMod (tOp oPow (tVar 5) (tC (.int 5))) (tC (.int 4294967279))) (gName 5))
  (tRet (tOp oMod (tOp oDiv (tOp oMod (tOp oAdd (tOp oMul (tOp oDiv (tVar 5) (tC (.int 64))) (tC (.int 69621))) (tVar 5)) (tC (.int 4294967231))) (tC (.int 8))) (tVar 1)))))))))

theorem at_nat {α : Type} {xs : List α} {i : Nat} {x : α} (h : xs[i]? = some x) : atI xs (i : Int) = some x := by
  have hl := (List.getElem?_eq_some_iff.mp h).1
  unfold atI ixN
  rw [if_pos (by omega), if_pos (by omega)]
  simpa using h
theorem ix_nat {n i : Nat} (h : i < n) : ixN n (i : Int) = some i := by
  unfold ixN
  rw [if_pos (by omega), if_pos (by omega)]
  simp
theorem draw_ok {F : Nat → List PyData → Tw → R PyData} {ds : List PyData} {t t' : Tw} {d : PyData} (h : runDf F .draw ds t = .ok d t') : ∃ c r, ds = [tTown, .int c] ∧ drawT t c = some (r, t') ∧ d = .int r := by
  unfold runDf at h
  dsimp only at h
  split at h
  · rename_i c
    split at h
    · rename_i r t2 e
      cases h
      exact ⟨c, r, rfl, e, rfl⟩
    · cases h
  · cases h
theorem draw_noexc {F : Nat → List PyData → Tw → R PyData} {ds : List PyData} {t t' : Tw} {c : Nat} : runDf F .draw ds t ≠ .exc c t' := fun h => by
  unfold runDf at h
  dsimp only at h
  split at h
  · split at h <;> cases h
  · cases h
section
variable {K : PySem.W.Frag} {z : Cz}
theorem rIx_lst {H : Hp} {a : Addr} {xs : List V} {i : Nat} {v : V} {Q : VK} (h : H a = some (.lst xs)) (e : xs[i]? = some v) (q : Q v H) : rIx K (.ref a) (.int (i : Int)) H Q := .inl ⟨a, xs, _, v, rfl, rfl, SqL.of h, at_nat e, q⟩
theorem draw_read {F : Nat → List PyData → Tw → R PyData} {vs : List V} {H : Hp} {Q : VK} {E : XK} (h : spOf K z 2 (fun ds t => runDf F .draw ds t) vs H Q E) : tDraw K { nx := fun _ H' => Q .non H', rt := Q } (L2.start ["town", "count", "numbers", "at", "cell", "mixed"] vs) H := by
  obtain ⟨hv, O, ds, t, dom, tT, tN, ne, tw, hp, q⟩ := h
  obtain ⟨wT, wN, wne, wl⟩ := tw
  dsimp only at q
  cases er : runDf F .draw ds t with
  | bad => rw [er] at q; exact q.elim
  | exc c t' => exact absurd er draw_noexc
  | ok d t' =>
    rw [er] at q
    obtain ⟨c, r, rfl, ed, rfl⟩ := draw_ok er
    cases hp with
    | cons p1 hp =>
      cases hp with
      | cons p2 hp =>
        cases hp
        cases p2
        rename_i v1
        have hv1 : v1 = V.ref z.aT := by
          generalize hd : tTown = d at p1
          cases p1 with
          | town => rfl
          | exc c h => simp [tExc, tTown] at hd
          | dk => exact (tok_dk hd).elim
          | dt => exact (tok_dt hd).elim
          | _ => cases hd
        subst hv1
        · unfold drawT at ed
          by_cases hc : 0 < c ∧ c < 1000000
          · rw [if_pos hc] at ed
            have hn : 0 < t.ns.length := List.length_pos_iff.mpr wne
            have hlt : (t.k + 1) % t.ns.length < t.ns.length := Nat.mod_lt _ hn
            obtain ⟨cell, ecell⟩ : ∃ cell, t.ns[(t.k + 1) % t.ns.length]? = some cell := ⟨_, List.getElem?_eq_getElem hlt⟩
            rw [ecell] at ed
            simp only at ed
            have eV : (t.ns.map V.int)[(t.k + 1) % t.ns.length]? = some (.int cell) := by rw [List.getElem?_map, ecell]; rfl
            -- numbers = town[0]
            refine ⟨_, rfl, rIx_lst (i := 0) wT rfl ?_⟩
            -- town[1] = town[1] + 1
            refine ⟨_, rfl, rIx_lst (i := 1) wT rfl ⟨_, _, rfl, rfl, ?_⟩⟩
            refine ⟨_, rfl, z.aT, _, _, 1, rfl, rfl, wT, rfl, ?_⟩
            have nNT : z.aN ≠ z.aT := Ne.symm ne
            generalize hH1 : upd H z.aT (.lst ([V.ref z.aN, V.int t.k].set 1 (V.int ((t.k : Int) + 1)))) = H1
            have w1T : H1 z.aT = some (.lst [.ref z.aN, .int ((t.k + 1 : Nat) : Int)]) := by rw [← hH1, upd_same]; rfl
            have w1N : H1 z.aN = some (.lst (t.ns.map V.int)) := by rw [← hH1, upd_ne nNT]; exact wN
            have g1 : Grow z H H1 := fun a u q n1 n2 => by rw [← hH1, upd_ne n1]; exact q
            -- at = town[1] % len(numbers)
            refine ⟨_, rfl, rIx_lst (i := 1) w1T rfl ?_⟩
            refine ⟨_, rfl, .ref z.aN, t.ns.length, rfl, .inl ⟨_, SqL.of w1N, by simp⟩, _, _, rfl, rfl, by omega, ?_⟩
            have eat : (((t.k + 1 : Nat) : Int) % (t.ns.length : Int)) = (((t.k + 1) % t.ns.length : Nat) : Int) := by simp
            show gName 3 (V.int (((t.k + 1 : Nat) : Int) % (t.ns.length : Int))) _ _ _
            rw [eat]
            -- cell = numbers[at]
            refine ⟨_, rfl, _, rfl, rIx_lst w1N eV ?_⟩
            -- if
            refine ⟨_, rfl, _, _, rfl, rfl, _, rfl, ?_⟩
            show ite (decide ((1000000000000000000 : Int) ≤ cell) = true) _ _
            by_cases hb : (1000000000000000000 : Int) ≤ cell
            · rw [if_pos (decide_eq_true hb)]
              rw [if_pos hb] at ed
              cases ed
              refine ⟨_, rfl, _, rfl, _, _, rfl, rfl, ⟨hc.1, by omega⟩, ?_⟩
              refine ⟨_, rfl, _, rfl, z.aN, _, _, _, rfl, rfl, w1N, ix_nat (by rw [List.length_map]; exact hlt), ?_⟩
              refine ⟨_, rfl, _, rfl, _, _, rfl, rfl, hc.1, ?_⟩
              refine q _ _ (fun a u hq n1 n2 => ?_) ⟨?_, ?_, ?_, ?_⟩ (.int _)
              · rw [upd_ne n2]; exact g1 a u hq n1 n2
              · rw [upd_ne ne]; exact w1T
              · rw [upd_same, List.map_set]
              · simp [wne]
              · rw [List.length_set]; exact wl
            · rw [if_neg (by simpa using hb)]
              rw [if_neg hb] at ed
              cases ed
              refine ⟨_, rfl, _, rfl, rIx_lst (i := 1) w1T rfl ⟨_, _, rfl, rfl, .inl ⟨by omega, by omega⟩, _, _, rfl, rfl, _, _, rfl, rfl, by omega, ?_⟩⟩
              have hm1 : 0 ≤ (cell + 104729 * ((t.k + 1 : Nat) : Int)) % 4294967291 := Int.emod_nonneg _ (by omega)
              have hm2 : (cell + 104729 * ((t.k + 1 : Nat) : Int)) % 4294967291 < 4294967291 := Int.emod_lt_of_pos _ (by omega)
              refine ⟨_, rfl, _, _, rfl, rfl, ⟨by omega, by omega, by omega⟩, _, _, rfl, rfl, by omega, ?_⟩
              generalize hm : ((cell + 104729 * ((t.k + 1 : Nat) : Int)) % 4294967291) ^ (5 : Int).toNat % 4294967279 = m2
              have hq1 : 0 ≤ m2 := by rw [← hm]; exact Int.emod_nonneg _ (by omega)
              have hq2 : m2 < 4294967279 := by rw [← hm]; exact Int.emod_lt_of_pos _ (by omega)
              refine ⟨_, rfl, _, _, rfl, rfl, ⟨by omega, by omega⟩, _, _, rfl, rfl, .inr ⟨by omega, by omega⟩, _, rfl, _, _, rfl, rfl, _, _, rfl, rfl, by omega, _, _, rfl, rfl, ⟨by omega, by omega⟩, _, rfl, _, _, rfl, rfl, hc.1, ?_⟩
              have em : m2 = ((cell + 104729 * ((t.k : Int) + 1)) % 4294967291) ^ 5 % 4294967279 := by
                rw [← hm]
                simp
              subst em
              exact q _ _ g1 ⟨w1T, w1N, wne, wl⟩ (.int _)
          · rw [if_neg hc] at ed
            cases ed
end
end Wv

set_option maxHeartbeats 4000000
namespace Wv
open PySem PyProof.Rows L2
theorem SqL_mono {K : PySem.W.Frag} {H H' : Hp} {a : Addr} {xs : List V} (m : ∀ a u, H a = some u → H' a = some u) (h : SqL K H a xs) : SqL K H' a xs := by
  rcases h with h | h
  · rcases h with h | ⟨o, h⟩
    · exact .inl (.inl (m _ _ h))
    · exact .inl (.inr ⟨o, m _ _ h⟩)
  · exact .inr h
abbrev drawN : List Str := ["town", "count", "numbers", "at", "cell", "mixed"]
def drawSc (sc : Scope) : Bool := drawN.all (fun x => visB sc x && locB sc x) && glB sc "len"
section
variable {X : Cx} {y : Cy} {sc : Scope} {g : Gt} {F : Nat → List PyData → Tw → R PyData} {k : Nat}
theorem draw_pss (C : Sxx X y drawN sc g F k) (hs : drawSc sc = true) {p1 p2 p3 p4 p5 p6 p7 p8 p9 p10 p11 p12 p13 p14 p15 p16 p17 p18 p19 p20 p21 p22 p23 p24 p25 p26 p27 p28 p29 p30 p31 p32 p33 p34 p35 p36 p37 p38 p39 p40 p41 p42 p43 p44 p45 p46 p47 p48 p49 p50 p51 p52 p53 p54 p55 p56 p57 p58 p59 p60 p61 p62 p63 p64 p65 p66 p67 p68 p69 p70 p71 p72 p73 p74 p75 : Pos} {k1 k2 k3 k4 k5 k6 k7 k8 k9 k10 k11 k12 k13 k14 k15 : Nat} : PSs X [.Assign [(.Name "numbers" p1)] (.Subscript (.Name "town" p2) (.Constant (.int 0) k1 p3) p4) p5,
    .Assign [(.Subscript (.Name "town" p6) (.Constant (.int 1) k2 p7) p8)] (.BinOp (.Subscript (.Name "town" p9) (.Constant (.int 1) k3 p10) p11) .Add (.Constant (.int 1) k4 p12) p13) p14,
    .Assign [(.Name "at" p15)] (.BinOp (.Subscript (.Name "town" p16) (.Constant (.int 1) k5 p17) p18) .Mod (.Call (.Name "len" p20) [(.Name "numbers" p19)] [] p21) p22) p23,
    .Assign [(.Name "cell" p24)] (.Subscript (.Name "numbers" p25) (.Name "at" p26) p27) p28,
    .If (.Compare (.Name "cell" p29) [.GtE] [(.Constant (.int 1000000000000000000) k6 p30)] p31) [.Assign [(.Subscript (.Name "numbers" p32) (.Name "at" p33) p34)] (.BinOp (.Name "cell" p35) .FloorDiv (.Name "count" p36) p37) p38, .Return (some (.BinOp (.Name "cell" p39) .Mod (.Name "count" p40) p41)) p42] [] p43,
    .Assign [(.Name "mixed" p44)] (.BinOp (.BinOp (.Name "cell" p45) .Add (.BinOp (.Constant (.int 104729) k7 p46) .Mult (.Subscript (.Name "town" p47) (.Constant (.int 1) k8 p48) p49) p50) p51) .Mod (.Constant (.int 4294967291) k9 p52) p53) p54,
    .Assign [(.Name "mixed" p55)] (.BinOp (.BinOp (.Name "mixed" p56) .Pow (.Constant (.int 5) k10 p57) p58) .Mod (.Constant (.int 4294967279) k11 p59) p60) p61,
    .Return (some (.BinOp (.BinOp (.BinOp (.BinOp (.BinOp (.BinOp (.Name "mixed" p62) .FloorDiv (.Constant (.int 64) k12 p63) p64) .Mult (.Constant (.int 69621) k13 p65) p66) .Add (.Name "mixed" p67) p68) .Mod (.Constant (.int 4294967231) k14 p69) p70) .FloorDiv (.Constant (.int 8) k15 p71) p72) .Mod (.Name "count" p73) p74)) p75] (tDraw X.K) := by
  simp only [drawSc, Bool.and_eq_true, List.all_eq_true] at hs
  have pv : ∀ (i : Nat) (x : Str) (p : Pos), drawN[i]? = some x → PE X (.Name x p) (tVar i) := fun i x p h => by
    have m := hs.1 x (List.mem_of_getElem? h)
    have nd : dbgB x = true := List.all_eq_true.mp (show (drawN.all fun x => dbgB x) = true by decide +kernel) x (List.mem_of_getElem? h)
    obtain ⟨d1, d2⟩ := dbg_ok nd
    exact pe_var (i := i) (by rw [C.names]; exact h) (by rw [C.scope]; exact vis_of m.1) d1 d2
  have pset : ∀ (i : Nat) (x : Str) (p p' : Pos) (e : Expr) (te : TE), drawN[i]? = some x → noComp e = true → PE X e te → PS X (.Assign [.Name x p] e p') (tAsg te (gName i)) := fun i x p p' e te h hn he => by
    have m := hs.1 x (List.mem_of_getElem? h)
    exact ps_set (i := i) (by rw [C.names]; exact C.nd) (by rw [C.names]; exact h) (by rw [C.scope]; exact loc_of m.2) he (swap_none hn) (.inl (C.fnT x))
  have pix : ∀ (a i : Expr) (ta ti : TE) (p : Pos), ordE i = true → PE X a ta → PE X i ti → PE X (.Subscript a i p) (tOp (rIx X.K) ta ti) := fun a i ta ti p ho ha hi => pe_ix ix_seq ha hi (ix_ord ho)
  refine pss_cons (pset 2 _ _ _ _ _ rfl rfl (pix _ _ _ _ _ rfl (pv 0 _ _ rfl) pe_int)) ?_
  refine pss_cons (ps_asg (pe_op op_add (pix _ _ _ _ _ rfl (pv 0 _ _ rfl) pe_int) pe_int) (pg_sub (pv 0 _ _ rfl) pe_int set_list (fun v => rfl)) rfl rfl rfl) ?_
  refine pss_cons (pset 3 _ _ _ _ _ rfl rfl (pe_op op_mod (pix _ _ _ _ _ rfl (pv 0 _ _ rfl) pe_int) (pe_callB (r := rLenV X.K) call_len (gl_of (by rw [C.scope]; exact hs.2)) (C.free _ (by decide +kernel)) boot_len (pa_cons (pv 2 _ _ rfl) pa_nil)))) ?_
  refine pss_cons (pset 4 _ _ _ _ _ rfl rfl (pix _ _ _ _ _ rfl (pv 2 _ _ rfl) (pv 3 _ _ rfl))) ?_
  refine pss_cons (ps_if (pt_cmpR op_ge (pv 4 _ _ rfl) pe_int rfl) (pss_cons (ps_asg (pe_op op_fdiv (pv 4 _ _ rfl) (pv 1 _ _ rfl)) (pg_sub (pv 2 _ _ rfl) (pv 3 _ _ rfl) set_list (fun v => rfl)) rfl rfl rfl) (pss_one (ps_ret (pe_op op_mod (pv 4 _ _ rfl) (pv 1 _ _ rfl))))) pss_nil) ?_
  refine pss_cons (pset 5 _ _ _ _ _ rfl rfl (pe_op op_mod (pe_op op_add (pv 4 _ _ rfl) (pe_op op_mul pe_int (pix _ _ _ _ _ rfl (pv 0 _ _ rfl) pe_int))) pe_int)) ?_
  refine pss_cons (pset 5 _ _ _ _ _ rfl rfl (pe_op op_mod (pe_op op_pow (pv 5 _ _ rfl) pe_int) pe_int)) ?_
  exact pss_one (ps_ret (pe_op op_mod (pe_op op_fdiv (pe_op op_mod (pe_op op_add (pe_op op_mul (pe_op op_fdiv (pv 5 _ _ rfl) pe_int) pe_int) (pv 5 _ _ rfl)) pe_int) pe_int) (pv 1 _ _ rfl)))

/-! ### the town -/
def townSc (sc : Scope) : Bool := visB sc "script" && glB sc "list"
def rListOf (K : PySem.W.Frag) : List V → Hp → VK → Prop := fun xs H Q => ∃ p ys, xs = [.ref p] ∧ (SqL K H p ys ∨ SqT K H p ys) ∧ ∀ l, H l = none → Q (.ref l) (upd H l (.lst ys))
def tTownS (K : PySem.W.Frag) : TS := tRet (tLst (tCons (tIf (tTest (tOp (rCmp K .NotEq) (tVar 0) (tLst tNil))) (tCB (rListOf K) (tCons (tVar 0) tNil)) (tLst (tCons (tC (.int 0)) tNil))) (tCons (tC (.int 0)) tNil)))
theorem town_pss (hN : X.N = ([("script" : Str)] : List Str)) (hsc : X.env.scope = sc) (hu : X.A.units + 60 < cLine) (hm : X.mg "list" = none) (hs : townSc sc = true) {p1 p2 p3 p4 p5 p6 p7 p8 p9 p10 p11 p12 : Pos} {k1 k2 : Nat} : PSs X [.Return (some (.List [(.IfExp (.Compare (.Name "script" p1) [.NotEq] [.List [] p2] p3) (.Call (.Name "list" p5) [(.Name "script" p4)] [] p6) (.List [(.Constant (.int 0) k1 p7)] p8) p9), (.Constant (.int 0) k2 p10)] p11)) p12] (tTownS X.K) := by
  simp only [townSc, Bool.and_eq_true] at hs
  have pv : ∀ (p : Pos), PE X (.Name "script" p) (tVar 0) := fun p => pe_var (i := 0) (by rw [hN]; rfl) (by rw [hsc]; exact vis_of hs.1)
  exact pss_one (ps_ret (pe_lst (pa_cons (pe_ifExp (pt_cmpR (op_cmp hu .NotEq) (pv _) (pe_lst pa_nil) rfl) (pe_callTy (r := rListOf X.K) call_list_of (gl_of (by rw [hsc]; exact hs.2)) hm PySem.Pv.boot_list (pa_cons (pv _) pa_nil)) (pe_lst (pa_cons pe_int pa_nil))) (pa_cons pe_int pa_nil))))
end

/-- the numbers that are drawn from -/
def nums0 (ns : List Int) : List Int := if ns = [] then [0] else ns
def spTown (K : PySem.W.Frag) : Sp := fun vs H Q _ => ∃ (a : Addr) (ns : List Int), vs = [.ref a] ∧ ns.length ≤ 63 ∧ SqL K H a (ns.map V.int) ∧
  ∀ p q H1, H1 p = some (.lst ((nums0 ns).map V.int)) → H1 q = some (.lst [.ref p, .int 0]) → q ≠ p → Q (.ref q) H1
theorem dp_ints {K : PySem.W.Frag} {H : Hp} : ∀ ns : List Int, DpAll K H (ns.map V.int) (ns.map PyData.int)
  | [] => .nil
  | n :: ns => .cons (.int n) (dp_ints ns)
theorem plain_ints : ∀ ns : List Int, PyData.plainAll (ns.map PyData.int) = true
  | [] => rfl
  | n :: ns => by
    simp only [List.map_cons, PyData.plainAll, plain_ints ns, Bool.and_true]
    rfl
theorem town_read {K : PySem.W.Frag} {vs : List V} {H : Hp} {Q : VK} {E : XK} (h : spTown K vs H Q E) : tTownS K { nx := fun _ H' => Q .non H', rt := Q } (L2.start ["script"] vs) H := by
  obtain ⟨a, ns, rfl, hl, hS, q⟩ := h
  refine ⟨_, rfl, by show 0 ≤ _; exact Nat.zero_le _, fun p0 h0 => ?_⟩
  have g0 : ∀ b u, H b = some u → upd H p0 (.lst []) b = some u := fun b u e => by
    rw [upd_ne (fun c => by rw [c, h0] at e; cases e)]
    exact e
  have hS1 := SqL_mono g0 hS
  refine .inl ⟨.list (ns.map .int), .list [], .lst hS1 (dp_ints ns), .lst (SqL.of upd_same) .nil, ?_, _, rfl, ?_⟩
  · unfold flatB
    simp only [Bool.and_eq_true, decide_eq_true_eq]
    refine ⟨⟨?_, rfl⟩, ?_⟩
    · show PyData.plainAll (ns.map .int) = true
      exact plain_ints ns
    · exact Nat.le_trans (Nat.min_le_right _ _) (by decide)
  · have fin : ∀ (l : Addr) (H2 : Hp), H2 l = some (.lst ((nums0 ns).map V.int)) → tCons (tC (.int 0)) tNil (L2.start ["script"] [V.ref a]) H2 fun xs H1 => ([V.ref l] ++ xs).length ≤ sizeLine ∧ ∀ p, H1 p = none → Q (.ref p) (upd H1 p (.lst ([V.ref l] ++ xs))) := fun l H2 e => by
      refine ⟨by rw [line_eq]; show 2 ≤ lineN; decide, fun p hp => q l p _ ?_ upd_same ?_⟩
      · rw [upd_ne (fun c => by rw [← c, e] at hp; cases hp)]
        exact e
      · intro c
        rw [c, e] at hp
        cases hp
    cases ns with
    | nil =>
      refine ⟨by rw [line_eq]; decide, fun l hl' => ?_⟩
      exact fin l _ upd_same
    | cons n ns =>
      refine ⟨_, rfl, a, _, rfl, .inl hS1, fun l hl' => ?_⟩
      exact fin l _ upd_same
section
variable {P : Program} {w : World} {K : PySem.W.Frag} {mg : Str → Option Value} {base : Heap} {z : Cz} {g : Gt} {F : Nat → List PyData → Tw → R PyData} {k : Nat} {qual : Str} {params : Arguments} {body : List Stmt} {scope : Scope} {dvs : List V} {kws : List (Str × V)} {f : Addr} {fd : FuncData} {x : Str}
theorem sxx_of {N ps : List Str} {s : Shared} {H H0 : Hp} {O : List Addr} {E : XK} {cdv : Value} {A : Around} {outer : List PySem.Env} (G : Gfx P w K mg base z g F k) (S : FnScope N ps scope) (hr : Room k (A.deeper (envOfC qual scope s.heap.objs.size f cdv))) :
    Sxx (cxOf (L2.CX P w) P w K mg base N qual scope f cdv A outer s H E) ⟨K, z, H0, O, fun cls d _ H' => E cls d H'⟩ N scope g F k := {
    scope := rfl
    names := rfl
    K := rfl
    calm := rfl
    nd := S.nd
    units := by have := hr.un; show (A.deeper _).units + 200 < cLine; omega
    tk := takes_of rfl rfl rfl rfl
    free := G.free
    fns := G.fns
    csts := G.csts
    room := hr
    exf := G.exf
    fnT := fun _ => rfl
    po := passes_of rfl
    kind := S.kind
    stk := rfl
    frm := rfl
    exn := rfl }
theorem draw_fn (G : Gfx P w K mg base z g F k) (Fd : FunD K x qual params body scope dvs kws f fd) (S : FnScope drawN ["town", "count"] scope) (hs : drawSc scope = true)
    (hb : ∀ {X : Cx} {y : Cy}, Sxx X y drawN scope g F k → PSs X body (tDraw X.K)) :
    FnOk P w K mg base (L2.CX P w) (k + 1) f fd ["town", "count"] (spOf K z 2 fun ds t => runDf F .draw ds t) := by
  refine Fd.ok S (fun vs H Q E h => h.1) (fun cdv A outer s H vs Q E hr h => ⟨_, hb (sxx_of (H0 := H) (O := []) G S hr), ?_⟩)
  exact draw_read h
theorem town_fn (hm : mg "list" = none) (Fd : FunD K x qual params body scope dvs kws f fd) (S : FnScope ["script"] ["script"] scope)
    (hb : ∀ {X : Cx}, X.N = ([("script" : Str)] : List Str) → X.env.scope = scope → X.A.units + 60 < cLine → X.mg "list" = none → PSs X body (tTownS X.K)) :
    FnOk P w K mg base (L2.CX P w) (k + 1) f fd ["script"] (spTown K) := by
  refine Fd.ok S (fun vs H Q E h => ?_) (fun cdv A outer s H vs Q E hr h => ⟨_, hb rfl rfl (by have := hr.un; show (A.deeper _).units + 60 < cLine; omega) hm, town_read h⟩)
  obtain ⟨a, ns, rfl, _⟩ := h
  rfl
/-! ### the law -/
def spL (K : PySem.W.Frag) : Sp := fun vs H Q _ => ∃ (a : Addr) (ns : List Int), vs = [.ref a] ∧ ns.length ≤ 63 ∧ SqL K H a (ns.map V.int) ∧ ∀ H', Q (.bl true) H'
theorem law_fn {cls : Nat → Addr} {N : List Str} {c : CB} {rest : List Stmt} {fT : Addr} {fdT : FuncData} {p1 p2 p3 p4 p5 : Pos} (G : ∀ aT aN, Gfx P w K mg base ⟨aT, aN, cls⟩ g F k) (ar : Arity g F) (Fd : FunD K x qual params body scope dvs kws f fd) (S : FnScope ("script" :: "town" :: N) ["script"] scope)
    (FT : FnOk P w K mg base (L2.CX P w) k fT fdT ["script"] (spTown K)) (kT : PySem.W.keepIn K (.ref fT) = true) (bT : Binds K fdT ["script"] []) (mT : mg "_law_town" = some (.ref fT))
    (hsc : (visB scope "script" && locB scope "town" && glB scope "_law_town") = true)
    (eb : body = .Assign [.Name "town" p1] (.Call (.Name "_law_town" p2) [.Name "script" p3] [] p4) p5 :: rest)
    (hc : chkB g ("script" :: "town" :: N) scope c rest = true)
    (run : ∀ ns : List Int, ns.length ≤ 63 → ∃ t, execB F c (none :: some (false, tTown) :: List.replicate N.length none) ⟨nums0 ns, 0⟩ = .ret (.bool true) t) :
    FnOk P w K mg base (L2.CX P w) (k + 1) f fd ["script"] (spL K) := by
  refine Fd.ok S (fun vs H Q E h => ?_) (fun cdv A outer s H vs Q E hr h => ?_)
  · obtain ⟨a, ns, rfl, _⟩ := h
    rfl
  · simp only [Bool.and_eq_true] at hsc
    obtain ⟨⟨s1, s2⟩, s3⟩ := hsc
    let X := cxOf (L2.CX P w) P w K mg base ("script" :: "town" :: N) qual scope f cdv A outer s H E
    have C0 : ∀ aT aN H0 O, Sxx X ⟨K, ⟨aT, aN, cls⟩, H0, O, fun cls d _ H' => E cls d H'⟩ ("script" :: "town" :: N) scope g F k := fun aT aN H0 O => sxx_of (G aT aN) S hr
    have hv : PE X (.Name "script" p3) (tVar 0) := pe_var (i := 0) rfl (vis_of s1)
    have hcall : PE X (.Call (.Name "_law_town" p2) [.Name "script" p3] [] p4) (fun σ H Q => tCons (tVar 0) tNil σ H fun vs H1 => spTown K (vs ++ []) H1 Q (WE (fun cls d _ H' => E cls d H') σ)) := pe_callSD (E := WE (fun cls d _ H' => E cls d H')) FT hr (gl_of s3) mT kT bT .nil (fun σ => passAt (C0 0 0 H []).tk σ) (pa_cons hv pa_nil) (by decide) rfl rfl
    have hset := ps_set (X := X) (i := 1) (pos := p5) (pos' := p1) (C0 0 0 H []).nd rfl (loc_of s2) hcall rfl (.inl rfl)
    have hrest : PSs X rest (fun D σ H => ∃ aT aN H0 O, tS ⟨K, ⟨aT, aN, cls⟩, H0, O, fun cls d _ H' => E cls d H'⟩ (execB F c) D σ H) := ⟨fun pins s σ H D I ⟨aT, aN, H0, O, h⟩ => (sndB ar c (C0 aT aN H0 O) hc).run pins s σ H D I h⟩
    refine ⟨_, by rw [eb]; exact pss_cons hset hrest, ?_⟩
    obtain ⟨a, ns, rfl, hl, hS, q⟩ := h
    refine ⟨_, rfl, a, ns, rfl, hl, hS, fun p r H1 hp hr' ne => ?_⟩
    refine ⟨r, p, H1, [r, p], none :: some (false, tTown) :: List.replicate N.length none, ⟨nums0 ns, 0⟩, [r, p], ?_, ?_⟩
    · have tw : TwOk ⟨r, p, cls⟩ H1 ⟨nums0 ns, 0⟩ := by
        refine ⟨hr', hp, ?_, ?_⟩
        · unfold nums0
          split
          · simp
          · assumption
        · unfold nums0
          split
          · show 1 ≤ 1000; omega
          · show ns.length ≤ 1000; omega
      refine ⟨?_, ?_, ?_, ?_, Grow.refl, fun a q => q, ?_, by simp, ?_, by simp, ne, tw⟩
      · simp [L2.start]
      · intro i d e
        match i, e with
        | 0, e => simp at e
        | 1, e =>
          simp only [List.getElem?_cons_succ, List.getElem?_cons_zero, Option.some.injEq, Prod.mk.injEq, true_and] at e
          subst e
          exact ⟨.ref r, rfl, .town⟩
        | i + 2, e =>
          simp only [List.getElem?_cons_succ, List.getElem?_replicate] at e
          split at e <;> cases e
      · intro i d e
        match i, e with
        | 0, e => simp at e
        | 1, e => simp at e
        | i + 2, e =>
          simp only [List.getElem?_cons_succ, List.getElem?_replicate] at e
          split at e <;> cases e
      · intro i j d e' a e
        match i, e with
        | 0, e => simp at e
        | 1, e => simp at e
        | i + 2, e =>
          simp only [List.getElem?_cons_succ, List.getElem?_replicate] at e
          split at e <;> cases e
      · intro b hb
        simp only [List.mem_cons, List.not_mem_nil, or_false] at hb
        rcases hb with rfl | rfl
        · rw [hr']; exact True.intro
        · rw [hp]; exact True.intro
      · intro b hb
        simp only [List.mem_cons, List.not_mem_nil, or_false] at hb
        rcases hb with rfl | rfl
        · show H1 _ ≠ none; rw [hr']; simp
        · show H1 _ ≠ none; rw [hp]; simp
    · obtain ⟨t', et⟩ := run ns hl
      rw [et]
      intro v H' _ _ pv
      cases pv
      exact q H'
end
end Wv

set_option maxHeartbeats 4000000
namespace Wv
open PySem L2 He

/-! ### the head's Hook, with a look of our own -/
def obsW (fa : List Fa) (fn : List DefD) (ck : PySem.W.Frag → Bool) (K : PySem.W.Frag) : AlD × Bool := (obsD fa fn K, ck K)
def hookW (n : Nat) (fa : List Fa) (fn : List DefD) (ck : PySem.W.Frag → Bool) : PySem.W.Hook where
  α := AlD × Bool
  obs := fun s => obsW fa fn ck (frG s.heap.get? (asD s.heap.get? n))
  val := fun _ => (valD fn, true)
  says := fun _ h => ∃ K : PySem.W.Frag, K.In h ∧ SaysD fa fn K ∧ ck K = true
  of := fun _ _ e => ⟨_, frG_in, congrArg Prod.fst e, congrArg Prod.snd e⟩
  keeps := fun _ _ _ ⟨K, hK, c⟩ k => ⟨K, PySem.W.Frag.In.keeps hK k, c⟩
def obW (n : Nat) (fa : List Fa) (fn : List DefD) (ck : PySem.W.Frag → Bool) (s : PySem.W.SharedT) : AlD × Bool := obsW fa fn ck (frG (HandSHeadRun.getT s) (asD (HandSHeadRun.getT s) n))
theorem obW_eq {n : Nat} {fa : List Fa} {fn : List DefD} {ck : PySem.W.Frag → Bool} (s : PySem.W.SharedT) : obW n fa fn ck s = (hookW n fa fn ck).obs s.abs := by
  have e : HandSHeadRun.getT s = s.abs.heap.get? := funext (HandSHeadRun.getT_eq s)
  unfold obW
  rw [e]
  rfl

/-! ### the classes of refusals: 0 above all others -/
def excNames : List Str := ["WhereError", "BadHouse", "BadFolk", "BadBeat", "BadRoom", "BadBook", "BadPaper", "BadText", "NoneSuch"]
/-- those that stand in the text -/
def excW (ex : List Nat) (c : Nat) : Option Str := if ex.contains c then excNames[c]? else none
def clsW (K : PySem.W.Frag) (c : Nat) : Addr := ga K (excNames.getD c "")
def ckCls (K : PySem.W.Frag) (x : Str) : Bool :=
  eqO (PySem.W.nsIn K mainGlobals x) (some (some (.ref (ga K x)))) &&
  (PySem.W.excIn K (ga K x) veT "ValueError.__new__" &&
  (PySem.W.keepIn K (.ref (ga K x)) &&
  (decide (PySem.W.subIn K (.ref (ga K x)) (.type "BaseException") = some true) &&
  (decide (PySem.W.typeIn K (.ref (ga K x)) = some (.type "type")) &&
  (eqO (PySem.W.findIn K (.ref (ga K x)) "__getattribute__") (some (some (.builtin "BaseException.__getattribute__"))) &&
  (eqO (PySem.W.findIn K (.ref (ga K x)) "__getattr__") (some none) &&
  (PySem.W.hasDictIn K (ga K x) &&
  (eqO (PySem.W.findIn K (.ref (ga K x)) "__class__") (some (some (.builtin "object.__class__"))) &&
  (eqO (PySem.W.specialIn K (.builtin "object.__class__") "__get__") (some (some (.builtin "getset_descriptor.__get__"))) &&
  (decide (PySem.W.takesIn K (.builtin "object.__class__") = some true) &&
  (decide (PySem.W.mroIn K (ga K x) (.type "object") = some true) &&
  (decide (PySem.W.kitOne K (.ref (ga K x)) (.type "ValueError") = some true) &&
  decide (PySem.W.exmOne K (.ref (ga K x)) (.ref (ga K "WhereError")) = some true)))))))))))))
def ckKit (ex : List Nat) (K : PySem.W.Frag) : Bool := ex.all fun c => ex.all fun c' => decide (PySem.W.kitOne K (.ref (clsW K c)) (.ref (clsW K c')) = some (decide (c' = 0) || decide (c = c')))
def ckExc (ex : List Nat) (K : PySem.W.Frag) : Bool := (ex.all fun c => ckCls K (excNames.getD c "")) && ckKit ex K
theorem exc_mem {ex : List Nat} {c : Nat} {x : Str} (h : excW ex c = some x) : x ∈ excNames ∧ excNames.getD c "" = x ∧ c ∈ ex := by
  unfold excW at h
  split at h
  · rename_i hc
    refine ⟨List.mem_of_getElem? h, ?_, by simpa using hc⟩
    rw [List.getD_eq_getElem?_getD, h]
    rfl
  · cases h
theorem excF_of {K : PySem.W.Frag} {h : Heap} {mg : Str → Option Value} (X : K.In h) (G : h.Ns mainGlobals mg) {ex : List Nat} (ck : ckExc ex K = true) (aT aN : Addr) : ExcF K mg ⟨aT, aN, clsW K⟩ (excW ex) := by
  obtain ⟨c1, c2⟩ := Bool.and_eq_true_iff.mp ck
  have A : ∀ c x, excW ex c = some x → ckCls K x = true ∧ clsW K c = ga K x := fun c x e => by
    obtain ⟨m, q, hc⟩ := exc_mem e
    have := List.all_eq_true.mp c1 c hc
    rw [q] at this
    exact ⟨this, by unfold clsW; rw [q]⟩
  have nd : ∀ c x, excW ex c = some x → (x == ("__debug__" : Str)) = false := fun c x e => by
    have : (excNames.all fun x => !(x == ("__debug__" : Str))) = true := by decide +kernel
    simpa using List.all_eq_true.mp this x (exc_mem e).1
  refine ⟨fun c x e => ?_, fun c x e => ?_, fun c x e => ?_, fun c x c' x' e e' => ?_, fun c x e => ?_, fun c x x' e e' => ?_⟩
  · obtain ⟨q, r⟩ := A c x e
    unfold ckCls at q
    simp only [Bool.and_eq_true, decide_eq_true_eq] at q
    refine ⟨?_, nd c x e⟩
    show mg x = some (.ref (clsW K c))
    rw [r]
    exact PySem.W.mg_of X G (eqO_ok q.1)
  · obtain ⟨q, r⟩ := A c x e
    unfold ckCls at q
    simp only [Bool.and_eq_true, decide_eq_true_eq] at q
    show PySem.W.excIn K (clsW K c) veT "ValueError.__new__" = true ∧ PySem.W.keepIn K (.ref (clsW K c)) = true ∧ PySem.W.subIn K (.ref (clsW K c)) (.type "BaseException") = some true ∧ PySem.W.typeIn K (.ref (clsW K c)) = some (.type "type")
    rw [r]
    exact ⟨q.2.1, q.2.2.1, q.2.2.2.1, q.2.2.2.2.1⟩
  · obtain ⟨q, r⟩ := A c x e
    unfold ckCls at q
    simp only [Bool.and_eq_true, decide_eq_true_eq] at q
    show ExcC K (clsW K c)
    rw [r]
    obtain ⟨_, _, _, q4, _, q6, q7, q8, q9, q10, q11, q12, _⟩ := q
    exact ⟨eqO_ok q6, eqO_ok q7, q4, q8, eqO_ok q9, eqO_ok q10, q11, q12⟩
  · have k := List.all_eq_true.mp (List.all_eq_true.mp c2 c (exc_mem e).2.2) c' (exc_mem e').2.2
    exact of_decide_eq_true k
  · obtain ⟨q, r⟩ := A c x e
    unfold ckCls at q
    simp only [Bool.and_eq_true, decide_eq_true_eq] at q
    show PySem.W.kitOne K (.ref (clsW K c)) (.type "ValueError") = some true
    rw [r]
    obtain ⟨_, _, _, _, _, _, _, _, _, _, _, _, q13, _⟩ := q
    exact q13
  · obtain ⟨q, r⟩ := A c x e
    unfold ckCls at q
    simp only [Bool.and_eq_true, decide_eq_true_eq] at q
    show PySem.W.exmOne K (.ref (clsW K c)) (.ref (clsW K 0)) = some true
    rw [r]
    obtain ⟨_, _, _, _, _, _, _, _, _, _, _, _, _, q14⟩ := q
    exact q14
end Wv

set_option maxHeartbeats 4000000
namespace Wv
open PySem L2 He

/-! ### what is looked at behind the top -/
/-- where the default of 'liars' lies -/
def kwAt (K : PySem.W.Frag) (x : Str) : Addr := match K.lookup (ga K x) with
  | some ⟨_, _, .func fd, _⟩ => (match fd.kwdefaults with
    | .ref D => (match PySem.W.nsIn K D "liars" with
      | some (some (.ref a)) => a
      | _ => 0)
    | _ => 0)
  | _ => 0
def tupAt (K : PySem.W.Frag) (a : Addr) (vs : List V) : Bool := match K.lookup a with
  | some ⟨.type c, _, .seq its _, _⟩ => decide (c = "tuple") && (decide (its.size ≤ sizeLine) && relAll vs its.toList)
  | _ => false
theorem tupAt_ok {K : PySem.W.Frag} {a : Addr} {vs : List V} (h : tupAt K a vs = true) (H : Hp) : SqT K H a vs := by
  unfold tupAt at h
  cases q : K.lookup a with
  | none =>
    rw [q] at h
    cases h
  | some o =>
    obtain ⟨oc, od, dt, osl⟩ := o
    rw [q] at h
    cases oc with
    | type c =>
      cases dt with
      | seq its n =>
        obtain ⟨h1, h2⟩ := ba (show (decide (c = "tuple") && (decide (its.size ≤ sizeLine) && relAll vs its.toList)) = true from h)
        obtain ⟨h3, h4⟩ := ba h2
        exact .inr ⟨_, its, n, q, congrArg Value.type (of_decide_eq_true h1), rfl, of_decide_eq_true h3, relAll_ok h4⟩
      | _ => cases h
    | _ => cases dt <;> cases h
/-- plain values of constants -/
def vOf : PyData → V
  | .int i => .int i
  | .str x => .str x
  | _ => .non
def flatC : PyData → Bool
  | .int _ => true
  | .str _ => true
  | .none => true
  | _ => false
def noInt : List PyData → Bool
  | .int _ :: _ => false
  | _ => true
theorem noInt_ok {ds : List PyData} (h : noInt ds = true) (i : Int) (r : List V) : ds.map vOf ≠ .int i :: r := fun e => by
  cases ds with
  | nil => cases e
  | cons d ds =>
    cases d with
    | int j => cases h
    | _ => cases e
def ckCst (K : PySem.W.Frag) (p : Str × PyData) : Bool := !(p.1 == ("__debug__" : Str)) && match p.2 with
  | .int i => (Fa.int p.1 i).ok K
  | .tuple ds => (Fa.glo p.1).ok K && (ds.all flatC && (decide (ds.length ≤ lineN) && (noInt ds && tupAt K (ga K p.1) (ds.map vOf))))
  | _ => false
def ckAll (ex : List Nat) (K : PySem.W.Frag) (names kws : List Str) (consts : List (Str × PyData)) : Bool :=
  ckExc ex K && ((names.all fun x => (Fa.glo x).ok K) && ((biNames.all fun x => (Fa.free x).ok K) && ((kws.all fun x => tupAt K (kwAt K x) []) && consts.all fun p => ckCst K p)))
section
variable {K : PySem.W.Frag} {h : Heap} {mg : Str → Option Value} {ex : List Nat} {names kws : List Str} {consts : List (Str × PyData)}
theorem ck_exc (q : ckAll ex K names kws consts = true) : ckExc ex K = true := (ba q).1
theorem glo_all (X : K.In h) (G : h.Ns mainGlobals mg) (q : ckAll ex K names kws consts = true) {x : Str} (hx : names.contains x = true) : mg x = some (.ref (ga K x)) := by
  have := List.all_eq_true.mp (ba (ba q).2).1 x (by simpa using hx)
  exact glo_ok X G this
theorem free_all (X : K.In h) (G : h.Ns mainGlobals mg) (q : ckAll ex K names kws consts = true) : ∀ x, x ∈ biNames → mg x = none := fun x hx => by
  have := List.all_eq_true.mp (ba (ba (ba q).2).2).1 x hx
  exact free_ok X G this
theorem emp_all (q : ckAll ex K names kws consts = true) {x : Str} (hx : kws.contains x = true) (H : Hp) : SqT K H (kwAt K x) [] := by
  have := List.all_eq_true.mp (ba (ba (ba (ba q).2).2).2).1 x (by simpa using hx)
  exact tupAt_ok this H
theorem vOf_ok {z : Cz} {H : Hp} : ∀ {ds : List PyData}, ds.all flatC = true → RpAll K z H (ds.map vOf) ds
  | [], _ => .nil
  | d :: ds, q => by
    simp only [List.all_cons, Bool.and_eq_true] at q
    refine .cons ?_ (vOf_ok q.2)
    cases d with
    | int i => exact .int i
    | str x => exact .str x
    | none => exact .non
    | _ => cases q.1
theorem lookup_memS {x : Str} {d : PyData} : ∀ {l : List (Str × PyData)}, l.lookup x = some d → (x, d) ∈ l
  | [], e => by cases e
  | (y, e) :: r, q => by
    rw [List.lookup_cons] at q
    cases hb : (x == y) with
    | true =>
      rw [hb] at q
      have e1 : e = d := Option.some.inj q
      have e2 : x = y := by simpa using hb
      rw [e1, e2]
      exact List.mem_cons_self ..
    | false =>
      rw [hb] at q
      exact List.mem_cons_of_mem _ (lookup_memS q)
theorem csts_all (X : K.In h) (G : h.Ns mainGlobals mg) (q : ckAll ex K names kws consts = true) : ∀ z : Cz, ∀ x d, consts.lookup x = some d → ∃ (u : Value) (v : V), mg x = some u ∧ RelV v u ∧ (∀ H, Rp K z H v d) ∧ (x == ("__debug__" : Str)) = false := fun z x d e => by
  have c := List.all_eq_true.mp (ba (ba (ba (ba q).2).2).2).2 _ (lookup_memS e)
  obtain ⟨c1, c2⟩ := ba c
  have nd : (x == ("__debug__" : Str)) = false := by simpa using c1
  cases d with
  | int i =>
    obtain ⟨t, m⟩ := int_ok X G (x := x) (i := i) c2
    exact ⟨_, .int i, m, ⟨t, rfl⟩, fun H => .int i, nd⟩
  | tuple ds =>
    obtain ⟨g1, c3⟩ := ba (show ((Fa.glo x).ok K && (ds.all flatC && (decide (ds.length ≤ lineN) && (noInt ds && tupAt K (ga K x) (ds.map vOf))))) = true from c2)
    obtain ⟨c4, c5⟩ := ba c3
    obtain ⟨c6, c7⟩ := ba c5
    obtain ⟨c8, c7⟩ := ba c7
    exact ⟨_, .ref (ga K x), glo_ok X G g1, rfl, fun H => .tup (.inr ⟨tupAt_ok c7 _, noInt_ok c8⟩) (by rw [List.length_map]; exact of_decide_eq_true c6) (vOf_ok c4), nd⟩
  | _ => cases c2
end

/-! ### all places of a table -/
inductive AllI {α : Type} (p : Nat → α → Prop) : Nat → List α → Prop
  | nil {i : Nat} : AllI p i []
  | cons {i : Nat} {a : α} {l : List α} : p i a → AllI p (i + 1) l → AllI p i (a :: l)
theorem AllI.get {α : Type} {p : Nat → α → Prop} : ∀ {i : Nat} {l : List α}, AllI p i l → ∀ {j : Nat} {a : α}, l[j]? = some a → p (i + j) a
  | _, _, .nil, j, a, e => by simp at e
  | _, _, .cons h t, 0, a, e => by
    simp only [List.getElem?_cons_zero, Option.some.injEq] at e
    subst e
    exact h
  | i, _, .cons h t, j + 1, a, e => by
    simp only [List.getElem?_cons_succ] at e
    have := t.get e
    rwa [show i + 1 + j = i + (j + 1) by omega] at this
theorem AllI.get0 {α : Type} {p : Nat → α → Prop} {l : List α} (h : AllI p 0 l) {j : Nat} {a : α} (e : l[j]? = some a) : p j a := by
  have := h.get e
  rwa [Nat.zero_add] at this
def arB : List (Str × Nat × Kd) → List Df → Bool
  | [], _ => true
  | (_, np, _) :: r, d :: ds => (match d with
    | .code n _ _ => decide (n = np)
    | .draw => decide (np = 2)) && arB r ds
  | _ :: _, [] => false
theorem arB_ok : ∀ {l : List (Str × Nat × Kd)} {ds : List Df}, arB l ds = true → ∀ (f : Nat) (x : Str) (np : Nat) (kd : Kd), l[f]? = some (x, np, kd) → ∃ d, ds[f]? = some d ∧ ∀ F vs t, vs.length ≠ np → runDf F d vs t = .bad
  | [], _, _, f, x, np, kd, e => by simp at e
  | _ :: _, [], h, _, _, _, _, _ => by cases h
  | (y, m, kd') :: r, d :: ds, h, 0, x, np, kd, e => by
    simp only [List.getElem?_cons_zero, Option.some.injEq, Prod.mk.injEq] at e
    obtain ⟨rfl, rfl, rfl⟩ := e
    simp only [arB, Bool.and_eq_true] at h
    refine ⟨d, rfl, fun F vs t hl => ?_⟩
    cases d with
    | code n ns b =>
      have e : n = m := of_decide_eq_true h.1
      subst e
      unfold runDf
      dsimp only
      rw [if_neg hl]
    | draw =>
      have e : m = 2 := of_decide_eq_true h.1
      subst e
      unfold runDf
      dsimp only
      split
      · exact absurd rfl hl
      · rfl
  | (y, m, kd') :: r, d :: ds, h, f + 1, x, np, kd, e => by
    simp only [List.getElem?_cons_succ] at e ⊢
    simp only [arB, Bool.and_eq_true] at h
    exact arB_ok h.2 f x np kd e
theorem ar_all {l : List (Str × Nat × Kd)} {ds : List Df} (h : arB l ds = true) : ∀ (f : Nat) (x : Str) (np : Nat) (kd : Kd), l[f]? = some (x, np, kd) → ∃ d, ds[f]? = some d ∧ ∀ F vs t, vs.length ≠ np → runDf F d vs t = .bad := arB_ok h

/-- all rows of a table -/
inductive AllG (p : Nat → Str → Nat → Kd → Prop) : List (Nat × Str × Nat × Kd) → Prop
  | nil : AllG p []
  | cons {i : Nat} {x : Str} {np : Nat} {kd : Kd} {l : List (Nat × Str × Nat × Kd)} : p i x np kd → AllG p l → AllG p ((i, x, np, kd) :: l)
theorem AllG.get {p : Nat → Str → Nat → Kd → Prop} : ∀ {l : List (Nat × Str × Nat × Kd)}, AllG p l → ∀ {f : Nat} {x : Str} {np : Nat} {kd : Kd}, l.lookup f = some (x, np, kd) → p f x np kd
  | _, .nil, f, x, np, kd, e => by cases e
  | _, .cons (i := i) h t, f, x, np, kd, e => by
    rw [List.lookup_cons] at e
    cases hb : (f == i) with
    | true =>
      rw [hb] at e
      cases e
      rw [show f = i by simpa using hb]
      exact h
    | false =>
      rw [hb] at e
      exact t.get e
def arG (T : Nat → Option Df) (l : List (Nat × Str × Nat × Kd)) : Bool := l.all fun p => match T p.1 with
  | some (.code n _ _) => decide (n = p.2.2.1)
  | some .draw => decide (p.2.2.1 = 2)
  | none => false
theorem lookup_memN {f : Nat} {d : Str × Nat × Kd} : ∀ {l : List (Nat × Str × Nat × Kd)}, l.lookup f = some d → (f, d) ∈ l
  | [], e => by cases e
  | (y, e) :: r, q => by
    rw [List.lookup_cons] at q
    cases hb : (f == y) with
    | true =>
      rw [hb] at q
      have e1 : e = d := Option.some.inj q
      have e2 : f = y := by simpa using hb
      rw [e1, e2]
      exact List.mem_cons_self ..
    | false =>
      rw [hb] at q
      exact List.mem_cons_of_mem _ (lookup_memN q)
theorem ar_allG {T : Nat → Option Df} {l : List (Nat × Str × Nat × Kd)} (h : arG T l = true) : ∀ (f : Nat) (x : Str) (np : Nat) (kd : Kd), l.lookup f = some (x, np, kd) → ∃ d, T f = some d ∧ ∀ F vs t, vs.length ≠ np → runDf F d vs t = .bad := fun f x np kd e => by
  have q := List.all_eq_true.mp h _ (lookup_memN e)
  cases e : T f with
  | none => rw [e] at q; cases q
  | some d =>
    rw [e] at q
    refine ⟨d, rfl, fun F vs t hl => ?_⟩
    cases d with
    | code n ns b =>
      have e : n = np := of_decide_eq_true q
      subst e
      unfold runDf
      dsimp only
      rw [if_neg hl]
    | draw =>
      have e : np = 2 := of_decide_eq_true q
      subst e
      unfold runDf
      dsimp only
      split
      · exact absurd rfl hl
      · rfl

/-! ### a def of the text -/
section
variable {P : Program} {w : World} {K : PySem.W.Frag} {mg : Str → Option Value} {base : Heap} {g : Gt} {T : Nat → Option Df} {i n : Nat} {x qual : Str} {params : Arguments} {body : List Stmt} {scope : Scope} {N ps : List Str} {c : CB}
theorem mk_pos (hd : ∃ fd, FunD K x qual params body scope [] [] (ga K x) fd) (hm : mg x = some (.ref (ga K x))) (S : FnScope N ps scope) (hl : ps.length ≤ N.length) (hc : chkB g N scope c body = true)
    (hb : ∀ (kV doc pm : Value) (an : Option Addr) (cdv ct : Value) (us : List Value), us.length = ps.length → bindArgs (PySem.W.fnOf x qual params body scope .none kV doc pm an cdv ct) ⟨us, []⟩ = pure (ps.zip us))
    (hT : T i = some (.code ps.length N.length c)) (nm : (x == ("__debug__" : Str)) = false) : DefOk P w K mg base g T i x ps.length .pos := by
  obtain ⟨fd, Fd⟩ := hd
  exact ⟨⟨_, fd, ps, rfl, hm, Fd.kp, fun _ => Fd.bindsN hb, fun q => (nomatch q), _, hT, fun z F k G ar => fn_ok G ar Fd S hl hc⟩, nm⟩
theorem mk_kw (hd : ∃ fd, FunD K x qual params body scope [] [("liars", .ref (kwAt K x))] (ga K x) fd) (hm : mg x = some (.ref (ga K x))) (he : ∀ H, SqT K H (kwAt K x) []) (S : FnScope N ps scope) (hl : ps.length ≤ N.length) (hc : chkB g N scope c body = true)
    (hb : ∀ (D : Addr) (doc pm : Value) (an : Option Addr) (cdv ct : Value) (us ks : List Value), us.length = n → ks.length = 1 → KwChain D ((["liars"] : List Str).zip ks) (bindArgs (PySem.W.fnOf x qual params body scope .none (.ref D) doc pm an cdv ct) ⟨us, []⟩) (ps.zip (us ++ ks)))
    (hk : ∀ (kV doc pm : Value) (an : Option Addr) (cdv ct : Value) (us ws : List Value), us.length = n → ws.length = 1 → bindArgs (PySem.W.fnOf x qual params body scope .none kV doc pm an cdv ct) ⟨us, (["liars"] : List Str).zip ws⟩ = pure (ps.zip (us ++ ws)))
    (hT : T i = some (.code ps.length N.length c)) (hn : n + 1 = ps.length) (nm : (x == ("__debug__" : Str)) = false) : DefOk P w K mg base g T i x ps.length .kw := by
  obtain ⟨fd, Fd⟩ := hd
  refine ⟨⟨_, fd, ps, rfl, hm, Fd.kp, fun q => (nomatch q), fun _ => ⟨?_, n, hn, ?_⟩, _, hT, fun z F k G ar => fn_ok G ar Fd S hl hc⟩, nm⟩
  · obtain ⟨ds, v, b⟩ := Fd.binds0 (ps := ps) n (by simp) hn hb
    exact ⟨kwAt K x, ds, he _, v, b⟩
  · obtain ⟨oc, od, dV, kV, doc, pm, an, cdv, ct, osl, rfl, lk, hcd, hD, hK⟩ := Fd.ex
    rcases hD with ⟨_, rfl⟩ | ⟨e, _⟩
    · exact ⟨fun s us ws X l1 l2 => BindsTo.of_eq (hk kV doc pm an cdv ct us ws l1 l2), fun r1 r2 => r1.append r2⟩
    · exact absurd rfl e
theorem mk_draw (hd : ∃ fd, FunD K x qual params body scope [] [] (ga K x) fd) (hm : mg x = some (.ref (ga K x))) (S : FnScope drawN ["town", "count"] scope) (hs : drawSc scope = true)
    (hp : ∀ {X : Cx} {y : Cy} {F : Nat → List PyData → Tw → R PyData} {k : Nat}, Sxx X y drawN scope g F k → PSs X body (tDraw X.K))
    (hb : ∀ (kV doc pm : Value) (an : Option Addr) (cdv ct : Value) (us : List Value), us.length = 2 → bindArgs (PySem.W.fnOf x qual params body scope .none kV doc pm an cdv ct) ⟨us, []⟩ = pure ((["town", "count"] : List Str).zip us))
    (hT : T i = some .draw) (nm : (x == ("__debug__" : Str)) = false) : DefOk P w K mg base g T i x 2 .pos := by
  obtain ⟨fd, Fd⟩ := hd
  exact ⟨⟨_, fd, ["town", "count"], rfl, hm, Fd.kp, fun _ => Fd.bindsN hb, fun q => (nomatch q), _, hT, fun z F k G ar => draw_fn G Fd S hs hp⟩, nm⟩
/-- what may be let out, of any world -/
def CXU (P : Program) : CXT := fun outer H s E u s' => ∃ w, L2.CX P w outer H s E u s'
theorem fn_cx {k : Nat} {f : Addr} {fd : FuncData} {sp : Sp} (F : FnOk P w K mg base (L2.CX P w) k f fd ps sp) : FnOk P w K mg base (CXU P) k f fd ps sp :=
  ⟨F.len, fun A outer s H args us vs Q E hr he hb hv hs => codeAny_mono (F.run A outer s H args us vs Q E hr he hb hv hs) fun r s' q => by
    cases r with
    | error u => exact ⟨w, q⟩
    | ok fl =>
      cases fl with
      | ret u => exact q
      | _ => exact q⟩
theorem cxu_no {H : Hp} {s : Shared} {e : Value} {s' : Shared} (h : CXU P [] H s (fun _ _ _ => False) e s') : False := by
  obtain ⟨w, a, B, H', cls, d, _, _, _, _, _, _, _, h⟩ := h
  exact h
end
end Wv

set_option maxHeartbeats 4000000
namespace Wv
open PySem L2
/-! ### runs, piece by piece -/
def takeB : Nat → CB → CB
  | 0, _ => .nil
  | n + 1, .cons s r => .cons s (takeB n r)
  | n + 1, .shr i r => .shr i (takeB n r)
  | _ + 1, c => c
def dropB : Nat → CB → CB
  | 0, c => c
  | n + 1, .cons _ r => dropB n r
  | n + 1, .shr _ r => dropB n r
  | _ + 1, _ => .nil
def SR.then (x : SR) (f : Env → Tw → SR) : SR := match x with
  | .next env t => f env t
  | x => x
theorem exec_split {F : Nat → List PyData → Tw → R PyData} : ∀ (n : Nat) (c : CB) (env : Env) (t : Tw), execB F c env t = (execB F (takeB n c) env t).then (execB F (dropB n c))
  | 0, c, env, t => by simp [takeB, dropB, execB, SR.then]
  | n + 1, .nil, env, t => by simp [takeB, dropB, execB, SR.then]
  | n + 1, .hole, env, t => by simp [takeB, dropB, execB, SR.then]
  | n + 1, .cons s r, env, t => by
    simp only [takeB, dropB, execB]
    cases execS F s env t with
    | next e t' => exact exec_split n r e t'
    | _ => rfl
  | n + 1, .shr i r, env, t => by
    simp only [takeB, dropB, execB]
    split
    · exact exec_split n r _ t
    · rfl
/-- the value of a run's surroundings -/
def envOf (x : SR) : Env := match x with
  | .next env _ => env
  | _ => []
def yes (x : SR) : Bool := match x with
  | .ret (.bool true) _ => true
  | _ => false
theorem yes_ok {x : SR} (h : yes x = true) : ∃ t, x = .ret (.bool true) t := by
  unfold yes at h
  split at h
  · exact ⟨_, rfl⟩
  · cases h
/-- each draw is one of those below the count -/
theorem draw_lt {t t' : Tw} {c r : Int} (h : drawT t c = some (r, t')) : 0 ≤ r ∧ r < c ∧ t'.ns ≠ [] ∨ t.ns = [] := by
  unfold drawT at h
  split at h
  · rename_i hc
    by_cases e : t.ns = []
    · exact .inr e
    · refine .inl ?_
      split at h
      · split at h
        · cases h
          refine ⟨Int.emod_nonneg _ (by omega), Int.emod_lt_of_pos _ hc.1, ?_⟩
          simpa using e
        · cases h
          exact ⟨Int.emod_nonneg _ (by omega), Int.emod_lt_of_pos _ hc.1, e⟩
      · cases h
  · cases h
theorem draw_some {t : Tw} {c : Int} (ht : t.ns ≠ []) (h1 : 0 < c) (h2 : c < 1000000) : ∃ r t', drawT t c = some (r, t') ∧ 0 ≤ r ∧ r < c ∧ t'.ns ≠ [] := by
  have hn : 0 < t.ns.length := List.length_pos_iff.mpr ht
  have hlt : (t.k + 1) % t.ns.length < t.ns.length := Nat.mod_lt _ hn
  have : ∃ r t', drawT t c = some (r, t') := by
    unfold drawT
    rw [if_pos ⟨h1, h2⟩, List.getElem?_eq_getElem hlt]
    dsimp only
    split
    · exact ⟨_, _, rfl⟩
    · exact ⟨_, _, rfl⟩
  obtain ⟨r, t', e⟩ := this
  refine ⟨r, t', e, ?_⟩
  rcases draw_lt e with q | q
  · exact q
  · exact absurd q ht
theorem nums_ne (ns : List Int) : nums0 ns ≠ [] := by
  unfold nums0
  split
  · simp
  · assumption
end Wv

set_option maxHeartbeats 0
namespace Wl
open PySem L2 Wv
-- 0 is_whole
def N_is_whole : List Str := ["thing", "low", "high"]
def c_is_whole : CB := (.cons (.ret (.and (.isi (.var 0) .int) (.and (.not (.isi (.var 0) .bool)) (.chn .LtE .LtE (.var 1) (.var 0) (.var 2))))) .nil)
-- 1 are_pairs
def N_are_pairs : List Str := ["thing", "first", "second", "k", "one"]
def c_are_pairs : CB := (.cons (.ite (.or (.not (.isi (.var 0) .tuple)) (.not (.bi .all (.cons (.lc1 (.and (.isi (.var 4) .tuple) (.cmp .Eq (.bi .len (.cons (.var 4) .nil)) (.cst (.int 2)))) [4] (.name 4) (.val (.var 0)) .none) .nil)))) (.cons (.ret (.cst (.bool false))) .nil) .nil) (.cons (.ite (.not (.bi .all (.cons (.lc1 (.and (.call 0 (.cons (.ix (.var 4) (.cst (.int 0))) (.cons (.cst (.int 0)) (.cons (.bin .Sub (.var 1) (.cst (.int 1))) .nil)))) (.call 0 (.cons (.ix (.var 4) (.cst (.int 1))) (.cons (.cst (.int 0)) (.cons (.bin .Sub (.var 2) (.cst (.int 1))) .nil))))) [4] (.name 4) (.val (.var 0)) .none) .nil))) (.cons (.ret (.cst (.bool false))) .nil) .nil) (.cons (.ret (.bi .all (.cons (.lc1 (.cmp .Lt (.ix (.var 0) (.var 3)) (.ix (.var 0) (.bin .Add (.var 3) (.cst (.int 1))))) [3] (.name 3) (.rng1 (.bin .Sub (.bi .len (.cons (.var 0) .nil)) (.cst (.int 1)))) .none) .nil))) .nil)))
-- 2 is_house
def N_is_house : List Str := ["thing", "rooms", "doors", "last", "shut", "dark", "one", "other"]
def c_is_house : CB := (.cons (.ite (.or (.not (.isi (.var 0) .tuple)) (.or (.cmp .NotEq (.bi .len (.cons (.var 0) .nil)) (.cst (.int 5))) (.not (.call 0 (.cons (.ix (.var 0) (.cst (.int 0))) (.cons (.cst (.int 1)) (.cons (.glb "MOST_ROOMS" (.int 6)) .nil))))))) (.cons (.ret (.cst (.bool false))) .nil) .nil) (.cons (.asgT [1, 2, 3, 4, 5] (.var 0)) (.cons (.ite (.or (.not (.call 1 (.cons (.var 2) (.cons (.var 1) (.cons (.var 1) .nil))))) (.bi .any (.cons (.lc1 (.cmp .GtE (.var 6) (.var 7)) [6, 7] (.tup [6, 7]) (.val (.var 2)) .none) .nil))) (.cons (.ret (.cst (.bool false))) .nil) .nil) (.cons (.ite (.not (.call 0 (.cons (.var 3) (.cons (.cst (.int 0)) (.cons (.glb "MOST_LAST" (.int 12)) .nil))))) (.cons (.ret (.cst (.bool false))) .nil) .nil) (.cons (.ret (.and (.call 1 (.cons (.var 4) (.cons (.bin .Add (.var 3) (.cst (.int 1))) (.cons (.bi .len (.cons (.var 2) .nil)) .nil)))) (.call 1 (.cons (.var 5) (.cons (.bin .Add (.var 3) (.cst (.int 1))) (.cons (.var 1) .nil)))))) .nil)))))
-- 3 look_house
def N_look_house : List Str := ["house", "many"]
def c_look_house : CB := (.cons (.ite (.or (.not (.call 2 (.cons (.var 0) .nil))) (.not (.call 0 (.cons (.var 1) (.cons (.cst (.int 1)) (.cons (.glb "MOST_FOLK" (.int 4)) .nil)))))) (.cons (.raise 1) .nil) .nil) .nil)
-- 4 look_beat
def N_look_beat : List Str := ["house", "thing"]
def c_look_beat : CB := (.cons (.ite (.not (.call 0 (.cons (.var 1) (.cons (.cst (.int 0)) (.cons (.ix (.var 0) (.cst (.int 2))) .nil))))) (.cons (.raise 3) .nil) .nil) .nil)
-- 5 look_room
def N_look_room : List Str := ["house", "thing"]
def c_look_room : CB := (.cons (.ite (.not (.call 0 (.cons (.var 1) (.cons (.cst (.int 0)) (.cons (.bin .Sub (.ix (.var 0) (.cst (.int 0))) (.cst (.int 1))) .nil))))) (.cons (.raise 4) .nil) .nil) .nil)
-- 6 open_doors
def N_open_doors : List Str := ["house", "beat", "k", "door"]
def c_open_doors : CB := (.cons (.ret (.lc1 (.var 3) [2, 3] (.tup [2, 3]) (.enm (.ix (.var 0) (.cst (.int 1)))) (.some (.cmp .NotIn (.tup (.cons (.var 1) (.cons (.var 2) .nil))) (.ix (.var 0) (.cst (.int 3))))))) .nil)
-- 7 beside
def N_beside : List Str := ["house", "room", "beat", "found", "one", "other"]
def c_beside : CB := (.cons (.own 3 (.lst .nil)) (.cons (.for_ (.tup [4, 5]) (.val (.call 6 (.cons (.var 0) (.cons (.var 2) .nil)))) (.cons (.ite (.cmp .In (.var 1) (.tup (.cons (.var 4) (.cons (.var 5) .nil)))) (.cons (.app 3 (.bin .Sub (.bin .Add (.var 4) (.var 5)) (.var 1))) .nil) .nil) .nil)) (.cons (.ret (.bi .sorted (.cons (.var 3) .nil))) .nil)))
-- 8 next_rooms
def N_next_rooms : List Str := ["house", "room", "beat"]
def c_next_rooms : CB := (.cons (.expr (.call 3 (.cons (.var 0) (.cons (.cst (.int 1)) .nil)))) (.cons (.expr (.call 5 (.cons (.var 0) (.cons (.var 1) .nil)))) (.cons (.expr (.call 4 (.cons (.var 0) (.cons (.var 2) .nil)))) (.cons (.ret (.bi .sorted (.cons (.bin .Add (.lst (.cons (.var 1) .nil)) (.call 7 (.cons (.var 0) (.cons (.var 1) (.cons (.var 2) .nil))))) .nil))) .nil))))
-- 9 is_stand
def N_is_stand : List Str := ["house", "many", "thing", "one"]
def c_is_stand : CB := (.cons (.ret (.and (.isi (.var 2) .tuple) (.and (.cmp .Eq (.bi .len (.cons (.var 2) .nil)) (.var 1)) (.bi .all (.cons (.lc1 (.call 0 (.cons (.var 3) (.cons (.cst (.int 0)) (.cons (.bin .Sub (.ix (.var 0) (.cst (.int 0))) (.cst (.int 1))) .nil)))) [3] (.name 3) (.val (.var 2)) .none) .nil))))) .nil)
-- 10 is_claim
def N_is_claim : List Str := ["house", "many", "thing", "word", "who", "beat", "what"]
def c_is_claim : CB := (.cons (.ite (.or (.not (.isi (.var 2) .tuple)) (.or (.cmp .NotEq (.bi .len (.cons (.var 2) .nil)) (.cst (.int 4))) (.or (.not (.isi (.ix (.var 2) (.cst (.int 0))) .str)) (.cmp .NotIn (.ix (.var 2) (.cst (.int 0))) (.glb "WORDS" (.tuple [(.str "at"), (.str "not"), (.str "saw"), (.str "missed"), (.str "alone"), (.str "heard")])))))) (.cons (.ret (.cst (.bool false))) .nil) .nil) (.cons (.asgT [3, 4, 5, 6] (.var 2)) (.cons (.ite (.or (.not (.call 0 (.cons (.var 4) (.cons (.cst (.int 0)) (.cons (.bin .Sub (.var 1) (.cst (.int 1))) .nil))))) (.not (.call 0 (.cons (.var 5) (.cons (.cst (.int 0)) (.cons (.ix (.var 0) (.cst (.int 2))) .nil)))))) (.cons (.ret (.cst (.bool false))) .nil) .nil) (.cons (.ite (.cmp .In (.var 3) (.tup (.cons (.cst (.str "at")) (.cons (.cst (.str "not")) .nil)))) (.cons (.ret (.call 0 (.cons (.var 6) (.cons (.cst (.int 0)) (.cons (.bin .Sub (.ix (.var 0) (.cst (.int 0))) (.cst (.int 1))) .nil))))) .nil) .nil) (.cons (.ite (.cmp .In (.var 3) (.tup (.cons (.cst (.str "alone")) (.cons (.cst (.str "heard")) .nil)))) (.cons (.ret (.cmp .Is (.var 6) (.cst .none))) .nil) .nil) (.cons (.ret (.and (.call 0 (.cons (.var 6) (.cons (.cst (.int 0)) (.cons (.bin .Sub (.var 1) (.cst (.int 1))) .nil)))) (.cmp .NotEq (.var 6) (.var 4)))) .nil))))))
-- 11 holds
def N_holds : List Str := ["house", "stand", "claim", "room", "others", "word", "who", "beat", "what", "one"]
def c_holds : CB := (.cons (.asgT [5, 6, 7, 8] (.var 2)) (.cons (.asg 3 (.ix (.var 1) (.var 6))) (.cons (.ite (.cmp .Eq (.var 5) (.cst (.str "at"))) (.cons (.ret (.cmp .Eq (.var 3) (.var 8))) .nil) .nil) (.cons (.ite (.cmp .Eq (.var 5) (.cst (.str "not"))) (.cons (.ret (.cmp .NotEq (.var 3) (.var 8))) .nil) .nil) (.cons (.ite (.cmp .Eq (.var 5) (.cst (.str "saw"))) (.cons (.ret (.and (.cmp .Eq (.ix (.var 1) (.var 8)) (.var 3)) (.cmp .NotIn (.tup (.cons (.var 7) (.cons (.var 3) .nil))) (.ix (.var 0) (.cst (.int 4)))))) .nil) .nil) (.cons (.ite (.cmp .Eq (.var 5) (.cst (.str "missed"))) (.cons (.ret (.cmp .NotEq (.ix (.var 1) (.var 8)) (.var 3))) .nil) .nil) (.cons (.asg 4 (.lc1 (.ix (.var 1) (.var 9)) [9] (.name 9) (.rng1 (.bi .len (.cons (.var 1) .nil))) (.some (.cmp .NotEq (.var 9) (.var 6))))) (.cons (.ite (.cmp .Eq (.var 5) (.cst (.str "alone"))) (.cons (.ret (.cmp .NotIn (.var 3) (.var 4))) .nil) .nil) (.cons (.ret (.bi .any (.cons (.lc1 (.cmp .In (.var 9) (.var 4)) [9] (.name 9) (.val (.call 7 (.cons (.var 0) (.cons (.var 3) (.cons (.var 7) .nil))))) .none) .nil))) .nil)))))))))
-- 12 is_so
def N_is_so : List Str := ["house", "many", "stand", "claim"]
def c_is_so : CB := (.cons (.expr (.call 3 (.cons (.var 0) (.cons (.var 1) .nil)))) (.cons (.ite (.not (.call 9 (.cons (.var 0) (.cons (.var 1) (.cons (.var 2) .nil))))) (.cons (.raise 4) .nil) .nil) (.cons (.ite (.not (.call 10 (.cons (.var 0) (.cons (.var 1) (.cons (.var 3) .nil))))) (.cons (.raise 5) .nil) .nil) (.cons (.ret (.call 11 (.cons (.var 0) (.cons (.var 2) (.cons (.var 3) .nil))))) .nil))))
-- 14 _law_pick
def N__law_pick : List Str := ["town", "some"]
def c__law_pick : CB := (.cons (.ret (.ix (.var 1) (.call 13 (.cons (.var 0) (.cons (.bi .len (.cons (.var 1) .nil)) .nil))))) .nil)
-- 15 _law_is
def N__law_is : List Str := ["told", "due"]
def c__law_is : CB := (.cons (.ret (.and (.isi (.var 0) .bool) (.cmp .Eq (.var 0) (.var 1)))) .nil)
-- 16 _law_house
def N__law_house : List Str := ["town", "rooms_of", "last", "doors_of", "closed_ones", "beat", "dark_ones", "k"]
def c__law_house : CB := (.cons (.asg 3 (.lc1 (.tup (.cons (.var 7) (.cons (.bin .Add (.var 7) (.cst (.int 1))) .nil))) [7] (.name 7) (.rng1 (.bin .Sub (.var 1) (.cst (.int 1)))) (.some (.cmp .Gt (.call 13 (.cons (.var 0) (.cons (.cst (.int 8)) .nil))) (.cst (.int 0)))))) (.cons (.ite (.and (.cmp .Gt (.var 1) (.cst (.int 2))) (.cmp .Eq (.call 13 (.cons (.var 0) (.cons (.cst (.int 3)) .nil))) (.cst (.int 0)))) (.cons (.asg 3 (.bin .Add (.lst (.cons (.tup (.cons (.cst (.int 0)) (.cons (.bin .Sub (.var 1) (.cst (.int 1))) .nil))) .nil)) (.var 3))) .nil) .nil) (.cons (.asg 3 (.bi .sorted (.cons (.var 3) .nil))) (.cons (.asg 4 (.lst .nil)) (.cons (.for_ (.name 5) (.rng1 (.bin .Add (.var 2) (.cst (.int 1)))) (.cons (.asg 4 (.bin .Add (.var 4) (.lc1 (.tup (.cons (.var 5) (.cons (.var 7) .nil))) [7] (.name 7) (.rng1 (.bi .len (.cons (.var 3) .nil))) (.some (.cmp .Eq (.call 13 (.cons (.var 0) (.cons (.cst (.int 4)) .nil))) (.cst (.int 0))))))) .nil)) (.cons (.asg 6 (.lst .nil)) (.cons (.for_ (.name 5) (.rng1 (.bin .Add (.var 2) (.cst (.int 1)))) (.cons (.asg 6 (.bin .Add (.var 6) (.lc1 (.tup (.cons (.var 5) (.cons (.var 7) .nil))) [7] (.name 7) (.rng1 (.var 1)) (.some (.cmp .Eq (.call 13 (.cons (.var 0) (.cons (.cst (.int 6)) .nil))) (.cst (.int 0))))))) .nil)) (.cons (.ret (.tup (.cons (.var 1) (.cons (.bi .tuple (.cons (.var 3) .nil)) (.cons (.var 2) (.cons (.bi .tuple (.cons (.var 4) .nil)) (.cons (.bi .tuple (.cons (.var 6) .nil)) .nil))))))) .nil))))))))
-- 17 _law_side
def N__law_side : List Str := ["house_here", "room_here", "beat", "found", "k", "one", "two"]
def c__law_side : CB := (.cons (.own 3 (.lst .nil)) (.cons (.for_ (.name 4) (.rng1 (.bi .len (.cons (.ix (.var 0) (.cst (.int 1))) .nil))) (.cons (.asgT [5, 6] (.ix (.ix (.var 0) (.cst (.int 1))) (.var 4))) (.cons (.ite (.and (.cmp .NotIn (.tup (.cons (.var 2) (.cons (.var 4) .nil))) (.ix (.var 0) (.cst (.int 3)))) (.cmp .In (.var 1) (.tup (.cons (.var 5) (.cons (.var 6) .nil))))) (.cons (.app 3 (.bin .Sub (.bin .Add (.var 5) (.var 6)) (.var 1))) .nil) .nil) .nil))) (.shr 3 (.cons (.ret (.var 3)) .nil))))
-- 18 _law_so
def N__law_so : List Str := ["house_here", "stand_here", "claim", "own", "others", "word", "who", "beat", "what", "k"]
def c__law_so : CB := (.cons (.asgT [5, 6, 7, 8] (.var 2)) (.cons (.asg 3 (.ix (.var 1) (.var 6))) (.cons (.ite (.cmp .In (.var 5) (.tup (.cons (.cst (.str "at")) (.cons (.cst (.str "not")) .nil)))) (.cons (.ret (.cmp .Eq (.cmp .Eq (.var 3) (.var 8)) (.cmp .Eq (.var 5) (.cst (.str "at"))))) .nil) .nil) (.cons (.ite (.cmp .Eq (.var 5) (.cst (.str "saw"))) (.cons (.ret (.and (.cmp .Eq (.ix (.var 1) (.var 8)) (.var 3)) (.cmp .NotIn (.tup (.cons (.var 7) (.cons (.var 3) .nil))) (.ix (.var 0) (.cst (.int 4)))))) .nil) .nil) (.cons (.ite (.cmp .Eq (.var 5) (.cst (.str "missed"))) (.cons (.ret (.cmp .NotEq (.ix (.var 1) (.var 8)) (.var 3))) .nil) .nil) (.cons (.asg 4 (.lc1 (.ix (.var 1) (.var 9)) [9] (.name 9) (.rng1 (.bi .len (.cons (.var 1) .nil))) (.some (.cmp .NotEq (.var 9) (.var 6))))) (.cons (.ite (.cmp .Eq (.var 5) (.cst (.str "alone"))) (.cons (.ret (.cmp .NotIn (.var 3) (.var 4))) .nil) .nil) (.cons (.ret (.cmp .NotEq (.lc1 (.var 9) [9] (.name 9) (.val (.call 17 (.cons (.var 0) (.cons (.var 3) (.cons (.var 7) .nil))))) (.some (.cmp .In (.var 9) (.var 4)))) (.lst .nil))) .nil))))))))
-- 19 _law_claim
def N__law_claim : List Str := ["town", "house_here", "count", "word", "who", "beat", "k"]
def c__law_claim : CB := (.cons (.asg 3 (.call 14 (.cons (.var 0) (.cons (.lst (.cons (.cst (.str "at")) (.cons (.cst (.str "not")) (.cons (.cst (.str "saw")) (.cons (.cst (.str "missed")) (.cons (.cst (.str "alone")) (.cons (.cst (.str "heard")) .nil))))))) .nil)))) (.cons (.asgT [4, 5] (.tup (.cons (.call 13 (.cons (.var 0) (.cons (.var 2) .nil))) (.cons (.call 13 (.cons (.var 0) (.cons (.bin .Add (.ix (.var 1) (.cst (.int 2))) (.cst (.int 1))) .nil))) .nil)))) (.cons (.ite (.cmp .In (.var 3) (.tup (.cons (.cst (.str "at")) (.cons (.cst (.str "not")) .nil)))) (.cons (.ret (.tup (.cons (.var 3) (.cons (.var 4) (.cons (.var 5) (.cons (.call 13 (.cons (.var 0) (.cons (.ix (.var 1) (.cst (.int 0))) .nil))) .nil)))))) .nil) .nil) (.cons (.ite (.or (.cmp .In (.var 3) (.tup (.cons (.cst (.str "alone")) (.cons (.cst (.str "heard")) .nil)))) (.cmp .Eq (.var 2) (.cst (.int 1)))) (.cons (.ret (.tup (.cons (.ite (.cmp .Eq (.var 2) (.cst (.int 1))) (.cst (.str "alone")) (.var 3)) (.cons (.var 4) (.cons (.var 5) (.cons (.cst .none) .nil)))))) .nil) .nil) (.cons (.ret (.tup (.cons (.var 3) (.cons (.var 4) (.cons (.var 5) (.cons (.call 14 (.cons (.var 0) (.cons (.lc1 (.var 6) [6] (.name 6) (.rng1 (.var 2)) (.some (.cmp .NotEq (.var 6) (.var 4)))) .nil))) .nil)))))) .nil)))))
-- 20 look_folk
def N_look_folk : List Str := ["many", "thing", "k", "one"]
def c_look_folk : CB := (.cons (.ite (.or (.not (.isi (.var 1) .tuple)) (.not (.bi .all (.cons (.lc1 (.call 0 (.cons (.var 3) (.cons (.cst (.int 0)) (.cons (.bin .Sub (.var 0) (.cst (.int 1))) .nil)))) [3] (.name 3) (.val (.var 1)) .none) .nil)))) (.cons (.raise 2) .nil) .nil) (.cons (.ite (.bi .any (.cons (.lc1 (.cmp .GtE (.ix (.var 1) (.var 2)) (.ix (.var 1) (.bin .Add (.var 2) (.cst (.int 1))))) [2] (.name 2) (.rng1 (.bin .Sub (.bi .len (.cons (.var 1) .nil)) (.cst (.int 1)))) .none) .nil)) (.cons (.raise 2) .nil) .nil) .nil))
-- 21 stands
def N_stands : List Str := ["house", "many", "found", "turn", "one", "room"]
def c_stands : CB := (.cons (.asg 2 (.lst (.cons (.tup .nil) .nil))) (.cons (.for_ (.name 3) (.rng1 (.var 1)) (.cons (.asg 2 (.lc2 (.bin .Add (.var 4) (.tup (.cons (.var 5) .nil))) [4, 5] [5] (.name 4) (.val (.var 2)) .none (.name 5) (.rng1 (.ix (.var 0) (.cst (.int 0)))) .none)) .nil)) (.cons (.ret (.var 2)) .nil)))
-- 22 is_binding
def N_is_binding : List Str := ["house", "many", "thing"]
def c_is_binding : CB := (.cons (.ite (.or (.not (.isi (.var 2) .tuple)) (.or (.cmp .NotEq (.bi .len (.cons (.var 2) .nil)) (.cst (.int 2))) (.not (.call 10 (.cons (.var 0) (.cons (.var 1) (.cons (.ix (.var 2) (.cst (.int 1))) .nil))))))) (.cons (.ret (.cst (.bool false))) .nil) .nil) (.cons (.ret (.or (.cmp .Is (.ix (.var 2) (.cst (.int 0))) (.cst .none)) (.call 0 (.cons (.ix (.var 2) (.cst (.int 0))) (.cons (.cst (.int 0)) (.cons (.bin .Sub (.var 1) (.cst (.int 1))) .nil)))))) .nil))
-- 23 is_book
def N_is_book : List Str := ["house", "many", "thing"]
def c_is_book : CB := (.cons (.expr (.call 3 (.cons (.var 0) (.cons (.var 1) .nil)))) (.cons (.ret (.call 24 (.cons (.var 0) (.cons (.var 1) (.cons (.var 2) .nil))))) .nil))
-- 24 book_fits
def N_book_fits : List Str := ["house", "many", "thing", "one"]
def c_book_fits : CB := (.cons (.ite (.or (.not (.isi (.var 2) .list)) (.cmp .Gt (.bi .len (.cons (.var 2) .nil)) (.glb "MOST_BINDINGS" (.int 30)))) (.cons (.ret (.cst (.bool false))) .nil) .nil) (.cons (.ret (.bi .all (.cons (.lc1 (.call 22 (.cons (.var 0) (.cons (.var 1) (.cons (.var 3) .nil)))) [3] (.name 3) (.val (.var 2)) .none) .nil))) .nil))
-- 25 look_book
def N_look_book : List Str := ["house", "many", "book"]
def c_look_book : CB := (.cons (.expr (.call 3 (.cons (.var 0) (.cons (.var 1) .nil)))) (.cons (.ite (.not (.call 24 (.cons (.var 0) (.cons (.var 1) (.cons (.var 2) .nil))))) (.cons (.raise 5) .nil) .nil) .nil))
-- 26 look_case
def N_look_case : List Str := ["house", "many", "book", "liars"]
def c_look_case : CB := (.cons (.expr (.call 25 (.cons (.var 0) (.cons (.var 1) (.cons (.var 2) .nil))))) (.cons (.expr (.call 20 (.cons (.var 1) (.cons (.var 3) .nil)))) .nil))
-- 27 claims_of
def N_claims_of : List Str := ["book", "liars", "teller", "claim"]
def c_claims_of : CB := (.cons (.ret (.lc1 (.var 3) [2, 3] (.tup [2, 3]) (.val (.var 0)) (.some (.cmp .NotIn (.var 2) (.var 1))))) .nil)
-- 28 binding
def N_binding : List Str := ["house", "many", "book", "liars", "k"]
def c_binding : CB := (.cons (.expr (.call 26 (.cons (.var 0) (.cons (.var 1) (.cons (.var 2) (.cons (.var 3) .nil)))))) (.cons (.ret (.lc1 (.var 4) [4] (.name 4) (.rng1 (.bi .len (.cons (.var 2) .nil))) (.some (.cmp .NotIn (.ix (.ix (.var 2) (.var 4)) (.cst (.int 0))) (.var 3))))) .nil))
-- 29 tellers
def N_tellers : List Str := ["house", "many", "book", "teller", "claim"]
def c_tellers : CB := (.cons (.expr (.call 25 (.cons (.var 0) (.cons (.var 1) (.cons (.var 2) .nil))))) (.cons (.ret (.bi .tuple (.cons (.bi .sorted (.cons (.dc1 (.var 3) (.cst (.bool true)) [3, 4] (.tup [3, 4]) (.val (.var 2)) (.some (.cmp .IsNot (.var 3) (.cst .none)))) .nil)) .nil))) .nil))
-- 30 let_at
def N_let_at : List Str := ["house", "many", "claims", "beat", "own", "claim", "one"]
def c_let_at : CB := (.cons (.asg 4 (.lc1 (.var 5) [5] (.name 5) (.val (.var 2)) (.some (.cmp .Eq (.ix (.var 5) (.cst (.int 2))) (.var 3))))) (.cons (.ret (.lc1 (.var 6) [6] (.name 6) (.val (.call 21 (.cons (.var 0) (.cons (.var 1) .nil)))) (.some (.bi .all (.cons (.lc1 (.call 11 (.cons (.var 0) (.cons (.var 6) (.cons (.var 5) .nil)))) [5] (.name 5) (.val (.var 4)) .none) .nil))))) .nil))
-- 31 led
def N_led : List Str := ["house", "lot", "beat", "found", "rooms", "who", "room", "one"]
def c_led : CB := (.cons (.asg 3 (.var 1)) (.cons (.asg 4 (.lc1 (.bin .Add (.lst (.cons (.var 6) .nil)) (.call 7 (.cons (.var 0) (.cons (.var 6) (.cons (.var 2) .nil))))) [6] (.name 6) (.rng1 (.ix (.var 0) (.cst (.int 0)))) .none)) (.cons (.for_ (.name 5) (.rng1 (.bi .max (.cons (.bin .Add (.lst (.cons (.cst (.int 0)) .nil)) (.lc1 (.bi .len (.cons (.var 7) .nil)) [7] (.name 7) (.val (.var 1)) .none)) .nil))) (.cons (.asg 3 (.dc2 (.bin .Add (.bin .Add (.sl (.var 7) .none (.some (.var 5))) (.tup (.cons (.var 6) .nil))) (.sl (.var 7) (.some (.bin .Add (.var 5) (.cst (.int 1)))) .none)) (.cst (.bool true)) [6, 7] [6] (.name 7) (.val (.var 3)) .none (.name 6) (.val (.ix (.var 4) (.ix (.var 7) (.var 5)))) .none)) .nil)) (.cons (.ret (.var 3)) .nil))))
-- 32 ahead_lots
def N_ahead_lots : List Str := ["house", "many", "claims", "found", "lot", "beat", "let", "one"]
def c_ahead_lots : CB := (.cons (.own 3 (.lst .nil)) (.cons (.asg 4 (.dc1 (.var 7) (.cst (.bool true)) [7] (.name 7) (.val (.call 21 (.cons (.var 0) (.cons (.var 1) .nil)))) .none)) (.cons (.for_ (.name 5) (.rng1 (.bin .Add (.ix (.var 0) (.cst (.int 2))) (.cst (.int 1)))) (.cons (.asg 6 (.call 30 (.cons (.var 0) (.cons (.var 1) (.cons (.var 2) (.cons (.var 5) .nil)))))) (.cons (.app 3 (.dc1 (.var 7) (.cst (.bool true)) [7] (.name 7) (.val (.var 6)) (.some (.cmp .In (.var 7) (.var 4))))) (.cons (.asg 4 (.call 31 (.cons (.var 0) (.cons (.ix (.var 3) (.neg (.cst (.int 1)))) (.cons (.var 5) .nil))))) .nil)))) (.shr 3 (.cons (.ret (.var 3)) .nil)))))
-- 33 behind_lots
def N_behind_lots : List Str := ["house", "many", "claims", "found", "lot", "beat", "let", "one"]
def c_behind_lots : CB := (.cons (.own 3 (.lst .nil)) (.cons (.asg 4 (.dc1 (.var 7) (.cst (.bool true)) [7] (.name 7) (.val (.call 21 (.cons (.var 0) (.cons (.var 1) .nil)))) .none)) (.cons (.for_ (.name 5) (.rng3 (.ix (.var 0) (.cst (.int 2))) (.neg (.cst (.int 1))) (.neg (.cst (.int 1)))) (.cons (.asg 6 (.call 30 (.cons (.var 0) (.cons (.var 1) (.cons (.var 2) (.cons (.var 5) .nil)))))) (.cons (.app 3 (.dc1 (.var 7) (.cst (.bool true)) [7] (.name 7) (.val (.var 6)) (.some (.cmp .In (.var 7) (.var 4))))) (.cons (.asg 4 (.call 31 (.cons (.var 0) (.cons (.ix (.var 3) (.neg (.cst (.int 1)))) (.cons (.bin .Sub (.var 5) (.cst (.int 1))) .nil))))) .nil)))) (.cons (.ret (.rev (.var 3))) .nil))))
-- 34 met_lots
def N_met_lots : List Str := ["house", "many", "claims", "ahead", "behind", "k", "one"]
def c_met_lots : CB := (.cons (.asg 3 (.call 32 (.cons (.var 0) (.cons (.var 1) (.cons (.var 2) .nil))))) (.cons (.asg 4 (.call 33 (.cons (.var 0) (.cons (.var 1) (.cons (.var 2) .nil))))) (.cons (.ret (.lc1 (.bi .sorted (.cons (.lc1 (.var 6) [6] (.name 6) (.val (.ix (.var 3) (.var 5))) (.some (.cmp .In (.var 6) (.ix (.var 4) (.var 5))))) .nil)) [5] (.name 5) (.rng1 (.bi .len (.cons (.var 3) .nil))) .none)) .nil)))
-- 35 lots
def N_lots : List Str := ["house", "many", "book", "liars"]
def c_lots : CB := (.cons (.expr (.call 26 (.cons (.var 0) (.cons (.var 1) (.cons (.var 2) (.cons (.var 3) .nil)))))) (.cons (.ret (.call 34 (.cons (.var 0) (.cons (.var 1) (.cons (.call 27 (.cons (.var 2) (.cons (.var 3) .nil))) .nil))))) .nil))
-- 36 is_step
def N_is_step : List Str := ["house", "one", "other", "beat", "pairs", "here", "there"]
def c_is_step : CB := (.cons (.asg 4 (.lzip (.cons (.var 1) (.cons (.var 2) .nil)))) (.cons (.ret (.bi .all (.cons (.lc1 (.or (.cmp .Eq (.var 5) (.var 6)) (.cmp .In (.var 6) (.call 7 (.cons (.var 0) (.cons (.var 5) (.cons (.var 3) .nil)))))) [5, 6] (.tup [5, 6]) (.val (.var 4)) .none) .nil))) .nil))
-- 37 first_of
def N_first_of : List Str := ["house", "many", "claims", "lot", "found", "beat", "one"]
def c_first_of : CB := (.cons (.asg 3 (.call 34 (.cons (.var 0) (.cons (.var 1) (.cons (.var 2) .nil))))) (.cons (.ite (.cmp .Eq (.ix (.var 3) (.cst (.int 0))) (.lst .nil)) (.cons (.ret (.cst .none)) .nil) .nil) (.cons (.own 4 (.lst (.cons (.ix (.ix (.var 3) (.cst (.int 0))) (.cst (.int 0))) .nil))) (.cons (.for_ (.name 5) (.rng2 (.cst (.int 1)) (.bi .len (.cons (.var 3) .nil))) (.cons (.app 4 (.ix (.lc1 (.var 6) [6] (.name 6) (.val (.ix (.var 3) (.var 5))) (.some (.call 36 (.cons (.var 0) (.cons (.ix (.var 4) (.neg (.cst (.int 1)))) (.cons (.var 6) (.cons (.bin .Sub (.var 5) (.cst (.int 1))) .nil))))))) (.cst (.int 0)))) .nil)) (.shr 4 (.cons (.ret (.var 4)) .nil))))))
-- 38 first_story
def N_first_story : List Str := ["house", "many", "book", "liars", "found"]
def c_first_story : CB := (.cons (.expr (.call 26 (.cons (.var 0) (.cons (.var 1) (.cons (.var 2) (.cons (.var 3) .nil)))))) (.cons (.asg 4 (.call 37 (.cons (.var 0) (.cons (.var 1) (.cons (.call 27 (.cons (.var 2) (.cons (.var 3) .nil))) .nil))))) (.cons (.ite (.cmp .Is (.var 4) (.cst .none)) (.cons (.raise 8) .nil) .nil) (.cons (.ret (.var 4)) .nil))))
-- 39 walks
def N_walks : List Str := ["house", "many", "thing", "k", "one"]
def c_walks : CB := (.cons (.ite (.or (.not (.isi (.var 2) .list)) (.cmp .NotEq (.bi .len (.cons (.var 2) .nil)) (.bin .Add (.ix (.var 0) (.cst (.int 2))) (.cst (.int 1))))) (.cons (.ret (.cst (.bool false))) .nil) .nil) (.cons (.ite (.not (.bi .all (.cons (.lc1 (.call 9 (.cons (.var 0) (.cons (.var 1) (.cons (.var 4) .nil)))) [4] (.name 4) (.val (.var 2)) .none) .nil))) (.cons (.ret (.cst (.bool false))) .nil) .nil) (.cons (.ret (.bi .all (.cons (.lc1 (.call 36 (.cons (.var 0) (.cons (.ix (.var 2) (.var 3)) (.cons (.ix (.var 2) (.bin .Add (.var 3) (.cst (.int 1)))) (.cons (.var 3) .nil))))) [3] (.name 3) (.rng1 (.bin .Sub (.bi .len (.cons (.var 2) .nil)) (.cst (.int 1)))) .none) .nil))) .nil)))
-- 40 fits
def N_fits : List Str := ["house", "many", "book", "story", "liars", "claim"]
def c_fits : CB := (.cons (.expr (.call 26 (.cons (.var 0) (.cons (.var 1) (.cons (.var 2) (.cons (.var 4) .nil)))))) (.cons (.ite (.not (.call 39 (.cons (.var 0) (.cons (.var 1) (.cons (.var 3) .nil))))) (.cons (.ret (.cst (.bool false))) .nil) .nil) (.cons (.ret (.bi .all (.cons (.lc1 (.call 11 (.cons (.var 0) (.cons (.ix (.var 3) (.ix (.var 5) (.cst (.int 2)))) (.cons (.var 5) .nil)))) [5] (.name 5) (.val (.call 27 (.cons (.var 2) (.cons (.var 4) .nil)))) .none) .nil))) .nil)))
-- 41 count_stories
def N_count_stories : List Str := ["house", "many", "book", "liars", "lot", "table", "beat", "fresh", "one", "here"]
def c_count_stories : CB := (.cons (.expr (.call 26 (.cons (.var 0) (.cons (.var 1) (.cons (.var 2) (.cons (.var 3) .nil)))))) (.cons (.asg 4 (.call 34 (.cons (.var 0) (.cons (.var 1) (.cons (.call 27 (.cons (.var 2) (.cons (.var 3) .nil))) .nil))))) (.cons (.asg 5 (.dc1 (.var 8) (.cst (.int 1)) [8] (.name 8) (.val (.ix (.var 4) (.cst (.int 0)))) .none)) (.cons (.for_ (.name 6) (.rng2 (.cst (.int 1)) (.bi .len (.cons (.var 4) .nil))) (.cons (.own 7 .dct0) (.cons (.for_ (.name 8) (.val (.ix (.var 4) (.var 6))) (.cons (.setI 7 (.var 8) (.bi .sum (.cons (.lc1 (.ix (.var 5) (.var 9)) [9] (.name 9) (.val (.var 5)) (.some (.call 36 (.cons (.var 0) (.cons (.var 9) (.cons (.var 8) (.cons (.bin .Sub (.var 6) (.cst (.int 1))) .nil))))))) .nil))) .nil)) (.shr 7 (.cons (.asg 5 (.var 7)) .nil))))) (.cons (.ret (.bi .sum (.cons (.lc1 (.ix (.var 5) (.var 8)) [8] (.name 8) (.val (.var 5)) .none) .nil))) .nil)))))
-- 42 _law_refusal
def N__law_refusal : List Str := ["caught", "sorts"]
def c__law_refusal : CB := (.cons (.asg 1 (.lst (.cons (.isi (.var 0) (.exc 1)) (.cons (.isi (.var 0) (.exc 2)) (.cons (.isi (.var 0) (.exc 3)) .nil))))) (.cons (.asg 1 (.bin .Add (.var 1) (.lst (.cons (.isi (.var 0) (.exc 4)) (.cons (.isi (.var 0) (.exc 5)) (.cons (.isi (.var 0) (.exc 6)) .nil)))))) (.cons (.asg 1 (.bin .Add (.var 1) (.lst (.cons (.isi (.var 0) (.exc 7)) (.cons (.isi (.var 0) (.exc 8)) .nil))))) (.cons (.ite (.or (.cmp .NotEq (.mth .lcount (.var 1) (.cst (.bool true))) (.cst (.int 1))) (.or (.not (.isi (.var 0) (.exc 0))) (.not (.isi (.var 0) .ve)))) (.cons (.ret (.cst (.str "odd"))) .nil) .nil) (.cons (.ret (.ix (.lst (.cons (.cst (.str "house")) (.cons (.cst (.str "folk")) (.cons (.cst (.str "beat")) (.cons (.cst (.str "room")) (.cons (.cst (.str "book")) (.cons (.cst (.str "paper")) (.cons (.cst (.str "text")) (.cons (.cst (.str "none")) .nil))))))))) (.mth .lindex (.var 1) (.cst (.bool true))))) .nil)))))
-- 43 _law_stands
def N__law_stands : List Str := ["house_here", "count", "found", "k", "longer", "one", "room_here"]
def c__law_stands : CB := (.cons (.asg 2 (.lst (.cons (.tup .nil) .nil))) (.cons (.for_ (.name 3) (.rng1 (.var 1)) (.cons (.asg 4 (.lst .nil)) (.cons (.for_ (.name 5) (.val (.var 2)) (.cons (.asg 4 (.bin .Add (.var 4) (.lc1 (.bin .Add (.var 5) (.tup (.cons (.var 6) .nil))) [6] (.name 6) (.rng1 (.ix (.var 0) (.cst (.int 0)))) .none))) .nil)) (.cons (.asg 2 (.var 4)) .nil)))) (.cons (.ret (.var 2)) .nil)))
-- 44 _law_steps
def N__law_steps : List Str := ["house_here", "one", "beat", "found", "room_here", "longer", "row", "to"]
def c__law_steps : CB := (.cons (.asg 3 (.lst (.cons (.tup .nil) .nil))) (.cons (.for_ (.name 4) (.val (.var 1)) (.cons (.asg 5 (.lst .nil)) (.cons (.for_ (.name 6) (.val (.var 3)) (.cons (.asg 5 (.bin .Add (.var 5) (.lc1 (.bin .Add (.var 6) (.tup (.cons (.var 7) .nil))) [7] (.name 7) (.val (.bi .sorted (.cons (.bin .Add (.lst (.cons (.var 4) .nil)) (.call 17 (.cons (.var 0) (.cons (.var 4) (.cons (.var 2) .nil))))) .nil))) .none))) .nil)) (.cons (.asg 3 (.var 5)) .nil)))) (.cons (.ret (.var 3)) .nil)))
-- 45 _law_binds
def N__law_binds : List Str := ["book_here", "some", "teller", "claim"]
def c__law_binds : CB := (.cons (.ret (.lc1 (.var 3) [2, 3] (.tup [2, 3]) (.val (.var 0)) (.some (.cmp .NotIn (.var 2) (.var 1))))) .nil)
-- 46 _law_lots
def N__law_lots : List Str := ["house_here", "count", "claims_here", "last", "good", "beat", "own", "come", "one", "on", "there", "claim", "k", "c"]
def c__law_lots : CB := (.cons (.asg 3 (.ix (.var 0) (.cst (.int 2)))) (.cons (.own 4 (.lst .nil)) (.cons (.for_ (.name 5) (.rng1 (.bin .Add (.var 3) (.cst (.int 1)))) (.cons (.asg 6 (.lc1 (.var 11) [11] (.name 11) (.val (.var 2)) (.some (.cmp .Eq (.ix (.var 11) (.cst (.int 2))) (.var 5))))) (.cons (.app 4 (.lc1 (.var 8) [8] (.name 8) (.val (.call 43 (.cons (.var 0) (.cons (.var 1) .nil)))) (.some (.cmp .Eq (.lc1 (.var 13) [13] (.name 13) (.val (.var 6)) (.some (.not (.call 18 (.cons (.var 0) (.cons (.var 8) (.cons (.var 13) .nil))))))) (.lst .nil))))) .nil))) (.cons (.for_ (.name 5) (.rng2 (.cst (.int 1)) (.bin .Add (.var 3) (.cst (.int 1)))) (.cons (.own 7 .dct0) (.cons (.for_ (.name 8) (.val (.ix (.var 4) (.bin .Sub (.var 5) (.cst (.int 1))))) (.cons (.for_ (.name 10) (.val (.call 44 (.cons (.var 0) (.cons (.var 8) (.cons (.bin .Sub (.var 5) (.cst (.int 1))) .nil))))) (.cons (.setI 7 (.var 10) (.cst (.bool true))) .nil)) .nil)) (.cons (.setI 4 (.var 5) (.lc1 (.var 8) [8] (.name 8) (.val (.ix (.var 4) (.var 5))) (.some (.cmp .In (.var 8) (.var 7))))) .nil)))) (.cons (.for_ (.name 5) (.rng3 (.bin .Sub (.var 3) (.cst (.int 1))) (.bin .Sub (.cst (.int 0)) (.cst (.int 1))) (.bin .Sub (.cst (.int 0)) (.cst (.int 1)))) (.cons (.own 9 .dct0) (.cons (.for_ (.name 8) (.val (.ix (.var 4) (.bin .Add (.var 5) (.cst (.int 1))))) (.cons (.setI 9 (.var 8) (.cst (.bool true))) .nil)) (.cons (.setI 4 (.var 5) (.lc1 (.var 8) [8] (.name 8) (.val (.ix (.var 4) (.var 5))) (.some (.cmp .NotEq (.lc1 (.var 12) [12] (.name 12) (.val (.call 44 (.cons (.var 0) (.cons (.var 8) (.cons (.var 5) .nil))))) (.some (.cmp .In (.var 12) (.var 9)))) (.lst .nil))))) .nil)))) (.shr 4 (.cons (.ret (.var 4)) .nil)))))))
-- 47 _law_first
def N__law_first : List Str := ["house_here", "count", "claims_here", "through", "found", "beat", "one"]
def c__law_first : CB := (.cons (.asg 3 (.call 46 (.cons (.var 0) (.cons (.var 1) (.cons (.var 2) .nil))))) (.cons (.ite (.cmp .Eq (.ix (.var 3) (.cst (.int 0))) (.lst .nil)) (.cons (.ret (.cst .none)) .nil) .nil) (.cons (.own 4 (.lst (.cons (.ix (.ix (.var 3) (.cst (.int 0))) (.cst (.int 0))) .nil))) (.cons (.for_ (.name 5) (.rng1 (.ix (.var 0) (.cst (.int 2)))) (.cons (.app 4 (.ix (.lc1 (.var 6) [6] (.name 6) (.val (.call 44 (.cons (.var 0) (.cons (.ix (.var 4) (.neg (.cst (.int 1)))) (.cons (.var 5) .nil))))) (.some (.cmp .In (.var 6) (.ix (.var 3) (.bin .Add (.var 5) (.cst (.int 1))))))) (.cst (.int 0)))) .nil)) (.shr 4 (.cons (.ret (.var 4)) .nil))))))
-- 48 _law_walk
def N__law_walk : List Str := ["town", "house_here", "count", "found", "beat", "k"]
def c__law_walk : CB := (.cons (.own 3 (.lst (.cons (.bi .tuple (.cons (.lc1 (.call 13 (.cons (.var 0) (.cons (.ix (.var 1) (.cst (.int 0))) .nil))) [5] (.name 5) (.rng1 (.var 2)) .none) .nil)) .nil))) (.cons (.for_ (.name 4) (.rng1 (.ix (.var 1) (.cst (.int 2)))) (.cons (.app 3 (.call 14 (.cons (.var 0) (.cons (.call 44 (.cons (.var 1) (.cons (.ix (.var 3) (.neg (.cst (.int 1)))) (.cons (.var 4) .nil)))) .nil)))) .nil)) (.shr 3 (.cons (.ret (.var 3)) .nil))))
-- 49 _law_book
def N__law_book : List Str := ["town", "house_here", "count", "much", "true_one", "found", "k", "claim", "turn_of"]
def c__law_book : CB := (.cons (.asg 4 (.call 48 (.cons (.var 0) (.cons (.var 1) (.cons (.var 2) .nil))))) (.cons (.own 5 (.lst .nil)) (.cons (.for_ (.name 6) (.rng1 (.call 13 (.cons (.var 0) (.cons (.bin .Add (.var 3) (.cst (.int 1))) .nil)))) (.cons (.asg 7 (.call 19 (.cons (.var 0) (.cons (.var 1) (.cons (.var 2) .nil))))) (.cons (.for_ (.name 8) (.rng1 (.cst (.int 3))) (.cons (.ite (.and (.not (.call 18 (.cons (.var 1) (.cons (.ix (.var 4) (.ix (.var 7) (.cst (.int 2)))) (.cons (.var 7) .nil))))) (.cmp .Gt (.call 13 (.cons (.var 0) (.cons (.cst (.int 5)) .nil))) (.cst (.int 0)))) (.cons (.asg 7 (.call 19 (.cons (.var 0) (.cons (.var 1) (.cons (.var 2) .nil))))) .nil) .nil) .nil)) (.cons (.app 5 (.tup (.cons (.call 14 (.cons (.var 0) (.cons (.bin .Add (.bin .Add (.lst (.cons (.cst .none) .nil)) (.lrng (.var 2))) (.lrng (.var 2))) .nil))) (.cons (.var 7) .nil)))) .nil)))) (.shr 5 (.cons (.ret (.var 5)) .nil)))))
-- 50 _law_some
def N__law_some : List Str := ["town", "count", "k"]
def c__law_some : CB := (.cons (.ret (.call 14 (.cons (.var 0) (.cons (.lst (.cons (.tup .nil) (.cons (.tup .nil) (.cons (.tup (.cons (.call 13 (.cons (.var 0) (.cons (.var 1) .nil))) .nil)) (.cons (.bi .tuple (.cons (.lc1 (.var 2) [2] (.name 2) (.rng1 (.var 1)) (.some (.cmp .Eq (.call 13 (.cons (.var 0) (.cons (.cst (.int 2)) .nil))) (.cst (.int 0))))) .nil)) .nil))))) .nil)))) .nil)
-- 51 _law_case
def N__law_case : List Str := ["town", "much", "count", "house_here"]
def c__law_case : CB := (.cons (.asg 2 (.call 14 (.cons (.var 0) (.cons (.lst (.cons (.cst (.int 1)) (.cons (.cst (.int 2)) (.cons (.cst (.int 2)) (.cons (.cst (.int 2)) (.cons (.cst (.int 3)) .nil)))))) .nil)))) (.cons (.asg 3 (.call 16 (.cons (.var 0) (.cons (.bin .Add (.cst (.int 2)) (.call 13 (.cons (.var 0) (.cons (.ite (.cmp .Eq (.var 2) (.cst (.int 3))) (.cst (.int 2)) (.cst (.int 3))) .nil)))) (.cons (.bin .Add (.cst (.int 1)) (.call 13 (.cons (.var 0) (.cons (.cst (.int 4)) .nil)))) .nil))))) (.cons (.ret (.tup (.cons (.var 3) (.cons (.var 2) (.cons (.call 49 (.cons (.var 0) (.cons (.var 3) (.cons (.var 2) (.cons (.var 1) .nil))))) .nil))))) .nil)))
-- 52 _law_told
def N__law_told : List Str := ["house_here", "count", "book_here", "some", "told", "caught", "e"]
def c__law_told : CB := (.cons (.asg 4 (.cst .none)) (.cons (.asg 5 (.cst .none)) (.cons (.try_ (.cons (.asg 4 (.callK 38 (.cons (.var 0) (.cons (.var 1) (.cons (.var 2) .nil))) (.var 3))) .nil) 6 5) (.cons (.ret (.ite (.cmp .Is (.var 5) (.cst .none)) (.var 4) (.call 42 (.cons (.var 5) .nil)))) .nil))))
-- 53 _law_number
def N__law_number : List Str := ["house_here", "through", "table", "one", "beat", "fresh", "there"]
def c__law_number : CB := (.cons (.own 2 .dct0) (.cons (.for_ (.name 3) (.val (.ix (.var 1) (.cst (.int 0)))) (.cons (.setI 2 (.var 3) (.cst (.int 1))) .nil)) (.cons (.for_ (.name 4) (.rng1 (.ix (.var 0) (.cst (.int 2)))) (.cons (.own 5 .dct0) (.shr 2 (.cons (.for_ (.name 3) (.val (.var 2)) (.cons (.for_ (.name 6) (.val (.call 44 (.cons (.var 0) (.cons (.var 3) (.cons (.var 4) .nil))))) (.cons (.ite (.cmp .In (.var 6) (.ix (.var 1) (.bin .Add (.var 4) (.cst (.int 1))))) (.cons (.setI 5 (.var 6) (.bin .Add (.dget (.var 5) (.var 6) (.cst (.int 0))) (.ix (.var 2) (.var 3)))) .nil) .nil) .nil)) .nil)) (.shr 5 (.cons (.asg 2 (.var 5)) .nil)))))) (.shr 2 (.cons (.ret (.bi .sum (.cons (.lc1 (.ix (.var 2) (.var 3)) [3] (.name 3) (.val (.var 2)) .none) .nil))) .nil)))))
-- 75 look_one
def N_look_one : List Str := ["many", "thing"]
def c_look_one : CB := (.cons (.ite (.not (.call 0 (.cons (.var 1) (.cons (.cst (.int 0)) (.cons (.bin .Sub (.var 0) (.cst (.int 1))) .nil))))) (.cons (.raise 2) .nil) .nil) .nil)
-- 76 places
def N_places : List Str := ["house", "many", "book", "who", "beat", "liars", "lot", "one"]
def c_places : CB := (.cons (.expr (.call 26 (.cons (.var 0) (.cons (.var 1) (.cons (.var 2) (.cons (.var 5) .nil)))))) (.cons (.expr (.call 75 (.cons (.var 1) (.cons (.var 3) .nil)))) (.cons (.expr (.call 4 (.cons (.var 0) (.cons (.var 4) .nil)))) (.cons (.asg 6 (.ix (.call 34 (.cons (.var 0) (.cons (.var 1) (.cons (.call 27 (.cons (.var 2) (.cons (.var 5) .nil))) .nil)))) (.var 4))) (.cons (.ret (.bi .sorted (.cons (.dc1 (.ix (.var 7) (.var 3)) (.cst (.bool true)) [7] (.name 7) (.val (.var 6)) .none) .nil))) .nil)))))
-- 78 look_claims
def N_look_claims : List Str := ["house", "many", "claims", "one"]
def c_look_claims : CB := (.cons (.ite (.or (.not (.isi (.var 2) .list)) (.not (.bi .all (.cons (.lc1 (.call 10 (.cons (.var 0) (.cons (.var 1) (.cons (.var 3) .nil)))) [3] (.name 3) (.val (.var 2)) .none) .nil)))) (.cons (.raise 5) .nil) .nil) .nil)
-- 80 may_be
def N_may_be : List Str := ["house", "many", "book", "wishes", "liars"]
def c_may_be : CB := (.cons (.expr (.call 26 (.cons (.var 0) (.cons (.var 1) (.cons (.var 2) (.cons (.var 4) .nil)))))) (.cons (.expr (.call 78 (.cons (.var 0) (.cons (.var 1) (.cons (.var 3) .nil))))) (.cons (.ret (.cmp .NotEq (.ix (.call 34 (.cons (.var 0) (.cons (.var 1) (.cons (.bin .Add (.call 27 (.cons (.var 2) (.cons (.var 4) .nil))) (.var 3)) .nil)))) (.cst (.int 0))) (.lst .nil))) .nil)))
-- 87 not_both
def N_not_both : List Str := ["house", "many", "book", "claims", "liars", "base", "alone", "found", "i", "j", "one"]
def c_not_both : CB := (.cons (.expr (.call 26 (.cons (.var 0) (.cons (.var 1) (.cons (.var 2) (.cons (.var 4) .nil)))))) (.cons (.expr (.call 78 (.cons (.var 0) (.cons (.var 1) (.cons (.var 3) .nil))))) (.cons (.asg 5 (.call 27 (.cons (.var 2) (.cons (.var 4) .nil)))) (.cons (.asg 6 (.lc1 (.cmp .NotEq (.ix (.call 34 (.cons (.var 0) (.cons (.var 1) (.cons (.bin .Add (.var 5) (.lst (.cons (.var 10) .nil))) .nil)))) (.cst (.int 0))) (.lst .nil)) [10] (.name 10) (.val (.var 3)) .none)) (.cons (.own 7 (.lst .nil)) (.cons (.for_ (.name 8) (.rng1 (.bi .len (.cons (.var 3) .nil))) (.cons (.for_ (.name 9) (.rng2 (.bin .Add (.var 8) (.cst (.int 1))) (.bi .len (.cons (.var 3) .nil))) (.cons (.ite (.and (.ix (.var 6) (.var 8)) (.and (.ix (.var 6) (.var 9)) (.cmp .Eq (.ix (.call 34 (.cons (.var 0) (.cons (.var 1) (.cons (.bin .Add (.var 5) (.lst (.cons (.ix (.var 3) (.var 8)) (.cons (.ix (.var 3) (.var 9)) .nil)))) .nil)))) (.cst (.int 0))) (.lst .nil)))) (.cons (.app 7 (.tup (.cons (.var 8) (.cons (.var 9) .nil)))) .nil) .nil) .nil)) .nil)) (.shr 7 (.cons (.ret (.var 7)) .nil))))))))
-- 100 look_wish
def N_look_wish : List Str := ["house", "many", "book", "wish", "liars"]
def c_look_wish : CB := (.cons (.expr (.call 26 (.cons (.var 0) (.cons (.var 1) (.cons (.var 2) (.cons (.var 4) .nil)))))) (.cons (.ite (.or (.cmp .Gt (.bi .len (.cons (.var 2) .nil)) (.glb "MOST_CORE_BOOK" (.int 12))) (.not (.call 10 (.cons (.var 0) (.cons (.var 1) (.cons (.var 3) .nil)))))) (.cons (.raise 5) .nil) .nil) .nil))
-- 101 lots_of
def N_lots_of : List Str := ["numbers", "size", "found", "one", "row"]
def c_lots_of : CB := (.cons (.asg 2 (.lst (.cons (.tup .nil) .nil))) (.cons (.for_ (.name 3) (.val (.var 0)) (.cons (.asg 2 (.bin .Add (.var 2) (.lc1 (.bin .Add (.var 4) (.tup (.cons (.var 3) .nil))) [4] (.name 4) (.val (.var 2)) (.some (.cmp .Lt (.bi .len (.cons (.var 4) .nil)) (.var 1)))))) .nil)) (.cons (.ret (.bi .sorted (.cons (.lc1 (.var 4) [4] (.name 4) (.val (.var 2)) (.some (.cmp .Eq (.bi .len (.cons (.var 4) .nil)) (.var 1)))) .nil))) .nil)))
-- 102 bars
def N_bars : List Str := ["house", "many", "book", "row", "wish", "k"]
def c_bars : CB := (.cons (.ret (.cmp .Eq (.ix (.call 34 (.cons (.var 0) (.cons (.var 1) (.cons (.bin .Add (.lc1 (.ix (.ix (.var 2) (.var 5)) (.cst (.int 1))) [5] (.name 5) (.val (.var 3)) .none) (.lst (.cons (.var 4) .nil))) .nil)))) (.cst (.int 0))) (.lst .nil))) .nil)
-- 103 core_of
def N_core_of : List Str := ["house", "many", "book", "wish", "liars", "numbers", "size", "row", "k"]
def c_core_of : CB := (.cons (.asg 5 (.lc1 (.var 8) [8] (.name 8) (.rng1 (.bi .len (.cons (.var 2) .nil))) (.some (.cmp .NotIn (.ix (.ix (.var 2) (.var 8)) (.cst (.int 0))) (.var 4))))) (.cons (.ite (.not (.call 102 (.cons (.var 0) (.cons (.var 1) (.cons (.var 2) (.cons (.var 5) (.cons (.var 3) .nil))))))) (.cons (.ret (.cst .none)) .nil) .nil) (.cons (.for_ (.name 6) (.rng1 (.bi .len (.cons (.var 5) .nil))) (.cons (.for_ (.name 7) (.val (.call 101 (.cons (.var 5) (.cons (.var 6) .nil)))) (.cons (.ite (.call 102 (.cons (.var 0) (.cons (.var 1) (.cons (.var 2) (.cons (.var 7) (.cons (.var 3) .nil)))))) (.cons (.ret (.var 7)) .nil) .nil) .nil)) .nil)) (.cons (.ret (.bi .tuple (.cons (.var 5) .nil))) .nil))))
-- 104 core
def N_core : List Str := ["house", "many", "book", "wish", "liars", "found"]
def c_core : CB := (.cons (.expr (.call 100 (.cons (.var 0) (.cons (.var 1) (.cons (.var 2) (.cons (.var 3) (.cons (.var 4) .nil))))))) (.cons (.asg 5 (.call 103 (.cons (.var 0) (.cons (.var 1) (.cons (.var 2) (.cons (.var 3) (.cons (.var 4) .nil))))))) (.cons (.ite (.cmp .Is (.var 5) (.cst .none)) (.cons (.raise 8) .nil) .nil) (.cons (.ret (.var 5)) .nil))))
-- 105 needed
def N_needed : List Str := ["house", "many", "book", "wish", "liars", "numbers", "k", "one"]
def c_needed : CB := (.cons (.expr (.call 100 (.cons (.var 0) (.cons (.var 1) (.cons (.var 2) (.cons (.var 3) (.cons (.var 4) .nil))))))) (.cons (.asg 5 (.lc1 (.var 6) [6] (.name 6) (.rng1 (.bi .len (.cons (.var 2) .nil))) (.some (.cmp .NotIn (.ix (.ix (.var 2) (.var 6)) (.cst (.int 0))) (.var 4))))) (.cons (.ite (.not (.call 102 (.cons (.var 0) (.cons (.var 1) (.cons (.var 2) (.cons (.var 5) (.cons (.var 3) .nil))))))) (.cons (.raise 8) .nil) .nil) (.cons (.ret (.lc1 (.var 6) [6] (.name 6) (.val (.var 5)) (.some (.not (.call 102 (.cons (.var 0) (.cons (.var 1) (.cons (.var 2) (.cons (.lc1 (.var 7) [7] (.name 7) (.val (.var 5)) (.some (.cmp .NotEq (.var 7) (.var 6)))) (.cons (.var 3) .nil)))))))))) .nil))))
-- 106 _law_told_k10
def N__law_told_k10 : List Str := ["sort_of", "house_here", "count", "book_here", "wish_of", "some", "told", "caught", "e"]
def c__law_told_k10 : CB := (.cons (.asg 6 (.cst .none)) (.cons (.asg 7 (.cst .none)) (.cons (.try_ (.cons (.ite (.cmp .Eq (.var 0) (.cst (.int 0))) (.cons (.asg 6 (.callK 104 (.cons (.var 1) (.cons (.var 2) (.cons (.var 3) (.cons (.var 4) .nil)))) (.var 5))) .nil) (.cons (.asg 6 (.callK 105 (.cons (.var 1) (.cons (.var 2) (.cons (.var 3) (.cons (.var 4) .nil)))) (.var 5))) .nil)) .nil) 8 7) (.cons (.ret (.ite (.cmp .Is (.var 7) (.cst .none)) (.var 6) (.call 42 (.cons (.var 7) .nil)))) .nil))))
-- 107 _law_bars
def N__law_bars : List Str := ["house_here", "count", "book_here", "row", "wish_of", "k"]
def c__law_bars : CB := (.cons (.ret (.cmp .Eq (.ix (.call 46 (.cons (.var 0) (.cons (.var 1) (.cons (.bin .Add (.lc1 (.ix (.ix (.var 2) (.var 5)) (.cst (.int 1))) [5] (.name 5) (.val (.var 3)) .none) (.lst (.cons (.var 4) .nil))) .nil)))) (.cst (.int 0))) (.lst .nil))) .nil)
def tabT : List Df := [.code 3 3 c_is_whole,
  .code 3 5 c_are_pairs,
  .code 1 8 c_is_house,
  .code 2 2 c_look_house,
  .code 2 2 c_look_beat,
  .code 2 2 c_look_room,
  .code 2 4 c_open_doors,
  .code 3 6 c_beside,
  .code 3 3 c_next_rooms,
  .code 3 4 c_is_stand,
  .code 3 7 c_is_claim,
  .code 3 10 c_holds,
  .code 4 4 c_is_so,
  .draw,
  .code 2 2 c__law_pick,
  .code 2 2 c__law_is,
  .code 3 8 c__law_house,
  .code 3 7 c__law_side,
  .code 3 10 c__law_so,
  .code 3 7 c__law_claim,
  .code 2 4 c_look_folk,
  .code 2 6 c_stands,
  .code 3 3 c_is_binding,
  .code 3 3 c_is_book,
  .code 3 4 c_book_fits,
  .code 3 3 c_look_book,
  .code 4 4 c_look_case,
  .code 2 4 c_claims_of,
  .code 4 5 c_binding,
  .code 3 5 c_tellers,
  .code 4 7 c_let_at,
  .code 3 8 c_led,
  .code 3 8 c_ahead_lots,
  .code 3 8 c_behind_lots,
  .code 3 7 c_met_lots,
  .code 4 4 c_lots,
  .code 4 7 c_is_step,
  .code 3 7 c_first_of,
  .code 4 5 c_first_story,
  .code 3 5 c_walks,
  .code 5 6 c_fits,
  .code 4 10 c_count_stories,
  .code 1 2 c__law_refusal,
  .code 2 7 c__law_stands,
  .code 3 8 c__law_steps,
  .code 2 4 c__law_binds,
  .code 3 14 c__law_lots,
  .code 3 7 c__law_first,
  .code 3 6 c__law_walk,
  .code 4 9 c__law_book,
  .code 2 3 c__law_some,
  .code 2 4 c__law_case,
  .code 4 7 c__law_told,
  .code 2 7 c__law_number,
  .draw,
  .draw,
  .draw,
  .draw,
  .draw,
  .draw,
  .draw,
  .draw,
  .draw,
  .draw,
  .draw,
  .draw,
  .draw,
  .draw,
  .draw,
  .draw,
  .draw,
  .draw,
  .draw,
  .draw,
  .draw,
  .code 2 2 c_look_one,
  .code 6 8 c_places,
  .draw,
  .code 3 4 c_look_claims,
  .draw,
  .code 5 5 c_may_be,
  .draw,
  .draw,
  .draw,
  .draw,
  .draw,
  .draw,
  .code 5 11 c_not_both,
  .draw,
  .draw,
  .draw,
  .draw,
  .draw,
  .draw,
  .draw,
  .draw,
  .draw,
  .draw,
  .draw,
  .draw,
  .code 5 5 c_look_wish,
  .code 2 5 c_lots_of,
  .code 5 6 c_bars,
  .code 5 9 c_core_of,
  .code 5 6 c_core,
  .code 5 8 c_needed,
  .code 6 9 c__law_told_k10,
  .code 5 6 c__law_bars,
  .draw,
  .draw,
  .draw,
  .draw,
  .draw,
  .draw,
  .draw,
  .draw,
  .draw,
  .draw,
  .draw,
  .draw,
  .draw,
  .draw,
  .draw,
  .draw,
  .draw,
  .draw,
  .draw,
  .draw,
  .draw,
  .draw,
  .draw,
  .draw,
  .draw,
  .draw,
  .draw,
  .draw,
  .draw,
  .draw,
  .draw,
  .draw,
  .draw,
  .draw,
  .draw,
  .draw,
  .draw,
  .draw,
  .draw,
  .draw,
  .draw,
  .draw,
  .draw,
  .draw,
  .draw,
  .draw,
  .draw,
  .draw,
  .draw,
  .draw,
  .draw,
  .draw,
  .draw,
  .draw,
  .draw,
  .draw,
  .draw,
  .draw,
  .draw,
  .draw,
  .draw,
  .draw,
  .draw,
  .draw,
  .draw,
  .draw,
  .draw,
  .draw,
  .draw,
  .draw,
  .draw]
def T (i : Nat) : Option Df := tabT[i]?
end Wl

namespace Wl
open PySem L2 Wv
def N_law : List Str := ["some", "numbers_of", "rows", "k", "turn_of", "house_here", "count", "book_here", "wish_of", "told", "due", "size", "must", "one", "rest", "row"]
def c_law : CB := (.cons (.asgT [7, 8, 9] (.call 51 (.cons (.var 1) (.cons (.cst (.int 6)) .nil)))) (.cons (.asg 2 (.call 50 (.cons (.var 1) (.cons (.var 8) .nil)))) (.cons (.asg 3 (.lc1 (.var 5) [5] (.name 5) (.rng1 (.bi .len (.cons (.var 9) .nil))) (.some (.cmp .NotIn (.ix (.ix (.var 9) (.var 5)) (.cst (.int 0))) (.var 2))))) (.cons (.asg 4 (.lst (.cons (.tup .nil) .nil))) (.cons (.for_ (.name 5) (.val (.var 3)) (.cons (.asg 4 (.bin .Add (.var 4) (.lc1 (.bin .Add (.var 15) (.tup (.cons (.var 5) .nil))) [15] (.name 15) (.val (.var 4)) .none))) .nil)) (.cons (.for_ (.name 6) (.rng1 (.cst (.int 2))) (.cons (.asg 10 (.call 19 (.cons (.var 1) (.cons (.var 7) (.cons (.var 8) .nil))))) (.cons (.ite (.not (.call 107 (.cons (.var 7) (.cons (.var 8) (.cons (.var 9) (.cons (.var 3) (.cons (.var 10) .nil))))))) (.cons (.asg 11 (.lc1 (.call 106 (.cons (.var 5) (.cons (.var 7) (.cons (.var 8) (.cons (.var 9) (.cons (.var 10) (.cons (.var 2) .nil))))))) [5] (.name 5) (.val (.tup (.cons (.cst (.int 0)) (.cons (.cst (.int 1)) .nil)))) .none)) (.cons (.ite (.cmp .NotEq (.var 11) (.lst (.cons (.cst (.str "none")) (.cons (.cst (.str "none")) .nil)))) (.cons (.ret (.cst (.bool false))) .nil) .nil) .nil)) (.cons (.asg 12 (.cst .none)) (.cons (.for_ (.name 13) (.rng1 (.bin .Add (.bi .len (.cons (.var 3) .nil)) (.cst (.int 1)))) (.cons (.for_ (.name 15) (.val (.bi .sorted (.cons (.lc1 (.var 17) [17] (.name 17) (.val (.var 4)) (.some (.cmp .Eq (.bi .len (.cons (.var 17) .nil)) (.var 13)))) .nil))) (.cons (.ite (.and (.cmp .Is (.var 12) (.cst .none)) (.call 107 (.cons (.var 7) (.cons (.var 8) (.cons (.var 9) (.cons (.var 15) (.cons (.var 10) .nil))))))) (.cons (.asg 12 (.var 15)) .nil) .nil) .nil)) .nil)) (.cons (.ite (.cmp .NotEq (.call 106 (.cons (.cst (.int 0)) (.cons (.var 7) (.cons (.var 8) (.cons (.var 9) (.cons (.var 10) (.cons (.var 2) .nil))))))) (.var 12)) (.cons (.ret (.cst (.bool false))) .nil) .nil) (.cons (.own 14 (.lst .nil)) (.cons (.for_ (.name 5) (.val (.var 3)) (.cons (.asg 16 (.lc1 (.var 15) [15] (.name 15) (.val (.var 3)) (.some (.cmp .NotEq (.var 15) (.var 5))))) (.cons (.ite (.not (.call 107 (.cons (.var 7) (.cons (.var 8) (.cons (.var 9) (.cons (.var 16) (.cons (.var 10) .nil))))))) (.cons (.app 14 (.var 5)) .nil) .nil) .nil))) (.shr 14 (.cons (.ite (.or (.cmp .NotEq (.call 106 (.cons (.cst (.int 1)) (.cons (.var 7) (.cons (.var 8) (.cons (.var 9) (.cons (.var 10) (.cons (.var 2) .nil))))))) (.var 14)) (.cmp .NotEq (.lc1 (.var 5) [5] (.name 5) (.val (.var 14)) (.some (.cmp .NotIn (.var 5) (.var 12)))) (.lst .nil))) (.cons (.ret (.cst (.bool false))) .nil) .nil) .nil)))))))) .nil))) (.cons (.ret (.cst (.bool true))) .nil)))))))
end Wl

set_option maxHeartbeats 1000000
namespace Wv
open PySem L2

/-! ### runs of the evaluator -/
def SR.done : SR → R PyData
  | .next _ t' => .ok .none t'
  | .ret d t' => .ok d t'
  | .exc c _ t' => .exc c t'
  | .bad => .bad
@[simp] theorem done_next (e : Env) (t : Tw) : (SR.next e t).done = .ok .none t := rfl
@[simp] theorem done_ret (d : PyData) (t : Tw) : (SR.ret d t).done = .ok d t := rfl
@[simp] theorem done_exc (c : Nat) (e : Env) (t : Tw) : (SR.exc c e t).done = .exc c t := rfl
theorem callN_code {T : Nat → Option Df} {n f np ns : Nat} {c : CB} {vs : List PyData} {t : Tw} (h : T f = some (.code np ns c)) (hl : vs.length = np) :
    callN T (n + 1) f vs t = (execB (callN T n) c (vs.map (fun v => some (false, v)) ++ List.replicate (ns - np) none) t).done := by
  show (match T f with
    | some d => runDf (callN T n) d vs t
    | none => .bad) = _
  rw [h]
  show (if vs.length = np then _ else _) = _
  rw [if_pos hl]
  cases execB (callN T n) c (vs.map (fun v => some (false, v)) ++ List.replicate (ns - np) none) t <;> rfl
inductive All2 {α β : Type} (P : α → β → Prop) : List α → List β → Prop
  | nil : All2 P [] []
  | cons {a : α} {b : β} {as : List α} {bs : List β} : P a b → All2 P as bs → All2 P (a :: as) (b :: bs)
theorem lcLoop_flat {α : Type} {f : PyData → Tw → R (List PyData)} {e : α → PyData} {g : α → List PyData} {t : Tw} : ∀ {xs : List α}, (∀ x ∈ xs, f (e x) t = .ok (g x) t) → lcLoop f (xs.map e) t = .ok (xs.flatMap g) t
  | [], _ => rfl
  | x :: xs, h => by
    rw [List.map_cons, lcLoop, h x (by simp)]
    dsimp only
    rw [lcLoop_flat fun z hz => h z (by simp [hz])]
    rfl
theorem lcLoop_filter {α : Type} {f : PyData → Tw → R (List PyData)} {e : α → PyData} {p : α → Bool} {v : α → PyData} {t : Tw} {xs : List α} (h : ∀ x ∈ xs, f (e x) t = if p x then .ok [v x] t else .ok [] t) : lcLoop f (xs.map e) t = .ok ((xs.filter p).map v) t := by
  rw [lcLoop_flat (g := fun x => if p x then [v x] else []) fun x hx => by rw [h x hx]; split <;> rfl]
  congr 1
  clear h
  induction xs with
  | nil => rfl
  | cons x xs ih =>
    rw [List.flatMap_cons, ih, List.filter_cons]
    split <;> rfl
theorem lcLoop_map {α : Type} {f : PyData → Tw → R (List PyData)} {e : α → PyData} {v : α → PyData} {t : Tw} {xs : List α} (h : ∀ x ∈ xs, f (e x) t = .ok [v x] t) : lcLoop f (xs.map e) t = .ok (xs.map v) t := by
  rw [lcLoop_flat (g := fun x => [v x]) h]
  congr 1
  clear h
  induction xs with
  | nil => rfl
  | cons x xs ih => rw [List.flatMap_cons, ih]; rfl
/-- a comprehension whose turns draw -/
theorem lcLoop_draws {α : Type} {f : PyData → Tw → R (List PyData)} {e : α → PyData} {P : α → List PyData → Prop} {G : Tw → Prop} : ∀ {xs : List α} {t : Tw}, (∀ x ∈ xs, ∀ t, G t → ∃ ys t', f (e x) t = .ok ys t' ∧ P x ys ∧ G t') → G t → ∃ zs t', lcLoop f (xs.map e) t = .ok zs t' ∧ G t' ∧ ∃ yss : List (List PyData), zs = yss.flatten ∧ All2 P xs yss
  | [], t, _, g => ⟨[], t, rfl, g, [], rfl, .nil⟩
  | x :: xs, t, h, g => by
    obtain ⟨ys, t1, e1, p1, g1⟩ := h x (by simp) t g
    obtain ⟨zs, t2, e2, g2, yss, rfl, q⟩ := lcLoop_draws (xs := xs) (fun z hz => h z (by simp [hz])) g1
    refine ⟨ys ++ yss.flatten, t2, ?_, g2, ys :: yss, rfl, .cons p1 q⟩
    rw [List.map_cons, lcLoop, e1]
    dsimp only
    rw [e2]
theorem forLoop_inv {α : Type} {f : PyData → Env → Tw → SR} {e : α → PyData} (I : List α → Env → Tw → Prop) : ∀ (xs done : List α) (env : Env) (t : Tw), (∀ d x r env t, done ++ xs = d ++ x :: r → I d env t → ∃ env' t', f (e x) env t = .next env' t' ∧ I (d ++ [x]) env' t') → I done env t → ∃ env' t', forLoop f (xs.map e) env t = .next env' t' ∧ I (done ++ xs) env' t'
  | [], done, env, t, _, i => ⟨env, t, rfl, by simpa using i⟩
  | x :: xs, done, env, t, h, i => by
    obtain ⟨env1, t1, e1, i1⟩ := h done x xs env t rfl i
    obtain ⟨env2, t2, e2, i2⟩ := forLoop_inv I xs (done ++ [x]) env1 t1 (fun d z r env t hz i => h d z r env t (by simpa using hz) i) i1
    refine ⟨env2, t2, ?_, by simpa using i2⟩
    rw [List.map_cons, forLoop, e1]
    exact e2
/-- a walk: what holds of what was walked, of the surroundings, of the town -/
theorem for_at {α : Type} {f : PyData → Env → Tw → SR} {l : List PyData} {env : Env} {t : Tw} {z : SR} (hz : forLoop f l env t = z) (e : α → PyData) (xs : List α) (hl : l = xs.map e) (I : List α → Env → Tw → Prop) (h0 : I [] env t) (h : ∀ d x r env t, xs = d ++ x :: r → I d env t → ∃ env' t', f (e x) env t = .next env' t' ∧ I (d ++ [x]) env' t') :
    ∃ env' t', z = .next env' t' ∧ I xs env' t' := by
  subst hl
  obtain ⟨env', t', e1, i⟩ := forLoop_inv (e := e) I xs [] env t (fun d x r env t hx i => h d x r env t (by simpa using hx) i) h0
  exact ⟨env', t', hz.symm.trans e1, by simpa using i⟩
theorem rngs_map : ∀ (n : Nat) (a : Int), rngs a 1 n = (List.range n).map fun k => PyData.int (a + (k : Nat))
  | 0, a => rfl
  | n + 1, a => by
    rw [rngs, rngs_map n (a + 1), List.range_succ_eq_map, List.map_cons, List.map_map]
    congr 1
    · simp
    · apply List.map_congr_left
      intro k _
      simp only [Function.comp]
      congr 1
      omega
theorem rngs0 (n : Nat) : rngs 0 1 n = (List.range n).map fun k => PyData.int (k : Nat) := by
  rw [rngs_map]
  apply List.map_congr_left
  intro k _
  congr 1
  omega

/-! ### encodings -/
structure GoodE {α : Type} [DecidableEq α] (e : α → PyData) : Prop where
  eqv : ∀ a b, PyData.eqv (e a) (e b) = decide (a = b)
  plain : ∀ a, (e a).plain = true
  depth : ∀ a, (e a).depth ≤ 20
def eP (p : Int × Int) : PyData := .tuple [.int p.1, .int p.2]
def eT (l : List Int) : PyData := .tuple (l.map .int)
theorem eqvAll_map {α : Type} [DecidableEq α] {e : α → PyData} (g : ∀ a b, PyData.eqv (e a) (e b) = decide (a = b)) : ∀ xs ys : List α, PyData.eqvAll (xs.map e) (ys.map e) = decide (xs = ys)
  | [], [] => rfl
  | [], _ :: _ => rfl
  | _ :: _, [] => rfl
  | x :: xs, y :: ys => by
    rw [List.map_cons, List.map_cons, PyData.eqvAll, g, eqvAll_map g xs ys]
    by_cases h1 : x = y <;> by_cases h2 : xs = ys <;> simp [h1, h2]
theorem plainAll_map {α : Type} {e : α → PyData} (g : ∀ a, (e a).plain = true) : ∀ xs : List α, PyData.plainAll (xs.map e) = true
  | [] => rfl
  | x :: xs => by rw [List.map_cons, PyData.plainAll, g, plainAll_map g xs]; rfl
theorem depthAll_map {α : Type} {e : α → PyData} {n : Nat} (g : ∀ a, (e a).depth ≤ n) : ∀ xs : List α, PyData.depthAll (xs.map e) ≤ n
  | [] => Nat.zero_le _
  | x :: xs => by
    rw [List.map_cons, PyData.depthAll]
    exact Nat.max_le.mpr ⟨g x, depthAll_map g xs⟩
theorem good_int : GoodE (fun i : Int => PyData.int i) := ⟨fun a b => by rw [PyData.eqv]; rfl, fun _ => rfl, fun _ => Nat.zero_le _⟩
end Wv

set_option maxHeartbeats 1000000
namespace Wv
open PySem L2
/-! ### more on encodings -/
theorem good_str : GoodE (fun i : Str => PyData.str i) := ⟨fun a b => by rw [PyData.eqv]; rfl, fun _ => rfl, fun _ => Nat.zero_le _⟩
theorem eqv_P (p q : Int × Int) : PyData.eqv (eP p) (eP q) = decide (p = q) := by
  obtain ⟨a, b⟩ := p
  obtain ⟨c, d⟩ := q
  simp only [eP, PyData.eqv, PyData.eqvAll, Prod.mk.injEq]
  by_cases h1 : a = c <;> by_cases h2 : b = d <;> simp [h1, h2]
theorem good_P : GoodE eP := ⟨eqv_P, fun _ => rfl, fun p => by
  show PyData.depth (.tuple [.int p.1, .int p.2]) ≤ 20
  simp [PyData.depth, PyData.depthAll]⟩
theorem good_T : GoodE eT := ⟨fun a b => by
    simp only [eT, PyData.eqv]
    exact eqvAll_map good_int.eqv a b, fun l => by
    simp only [eT, PyData.plain]
    exact plainAll_map good_int.plain l, fun l => by
    simp only [eT, PyData.depth]
    exact Nat.succ_le_succ (Nat.le_trans (depthAll_map (n := 0) (fun _ => Nat.le_refl _) l) (by decide))⟩
section
variable {α : Type} [DecidableEq α] {e : α → PyData}
theorem GoodE.any (g : GoodE e) (a : α) : ∀ l : List α, ((l.map e).any fun z => PyData.eqv z (e a)) = decide (a ∈ l)
  | [] => rfl
  | x :: l => by
    rw [List.map_cons, List.any_cons, g.eqv, GoodE.any g a l]
    by_cases h1 : x = a <;> by_cases h2 : a ∈ l <;> simp [h1, h2, eq_comm]
    exact fun q => h1 q.symm
theorem GoodE.inL (g : GoodE e) (a : α) (l : List α) : cmpD .In (e a) (.list (l.map e)) = some (decide (a ∈ l)) := by
  show (if _ then _ else _) = _
  rw [if_pos, g.any]
  rw [g.plain, plainAll_map g.plain, Bool.and_true, Bool.true_and, decide_eq_true_eq]
  exact Nat.le_trans (Nat.min_le_right _ _) (Nat.le_trans (g.depth a) (by decide))
theorem GoodE.inT (g : GoodE e) (a : α) (l : List α) : cmpD .In (e a) (.tuple (l.map e)) = some (decide (a ∈ l)) := by
  show (if _ then _ else _) = _
  rw [if_pos, g.any]
  rw [g.plain, plainAll_map g.plain, Bool.and_true, Bool.true_and, decide_eq_true_eq]
  exact Nat.le_trans (Nat.min_le_right _ _) (Nat.le_trans (g.depth a) (by decide))
theorem GoodE.niL (g : GoodE e) (a : α) (l : List α) : cmpD .NotIn (e a) (.list (l.map e)) = some (!decide (a ∈ l)) := by
  show (if _ then _ else _) = _
  rw [if_pos, g.any]
  rw [g.plain, plainAll_map g.plain, Bool.and_true, Bool.true_and, decide_eq_true_eq]
  exact Nat.le_trans (Nat.min_le_right _ _) (Nat.le_trans (g.depth a) (by decide))
theorem GoodE.niT (g : GoodE e) (a : α) (l : List α) : cmpD .NotIn (e a) (.tuple (l.map e)) = some (!decide (a ∈ l)) := by
  show (if _ then _ else _) = _
  rw [if_pos, g.any]
  rw [g.plain, plainAll_map g.plain, Bool.and_true, Bool.true_and, decide_eq_true_eq]
  exact Nat.le_trans (Nat.min_le_right _ _) (Nat.le_trans (g.depth a) (by decide))
end
/-! ### the evaluator's steps -/
section
variable {F : Nat → List PyData → Tw → R PyData} {m : Bool} {env env' : Env} {t t' : Tw}
def varR (m : Bool) (t : Tw) : Option (Option (Bool × PyData)) → R PyData
  | some (some (o, d)) => if m || !o then .ok d t else .bad
  | _ => .bad
@[simp] theorem varR_some (m o : Bool) (t : Tw) (d : PyData) : varR m t (some (some (o, d))) = if m || !o then .ok d t else .bad := rfl
@[simp] theorem ev_var {i : Nat} : evalE F m (.var i) env t = varR m t env[i]? := by
  rw [evalE]; unfold varR; rcases env[i]? with _ | _ | ⟨o, d⟩ <;> rfl
@[simp] theorem ev_cst {d : PyData} : evalE F m (.cst d) env t = .ok d t := by rw [evalE]
@[simp] theorem ev_glb {x : Str} {d : PyData} : evalE F m (.glb x d) env t = .ok d t := by rw [evalE]
@[simp] theorem ev_tup {es : CL} : evalE F m (.tup es) env t = (evalL F es env t).bind fun ds t => R.of (okIf (decide (ds.length ≤ lineN)) (.tuple ds)) t := by rw [evalE]
@[simp] theorem ev_lst {es : CL} : evalE F m (.lst es) env t = (evalL F es env t).bind fun ds t => R.of (okIf (decide (ds.length ≤ lineN)) (.list ds)) t := by rw [evalE]
@[simp] theorem ev_bin {o : Operator} {a b : CE} : evalE F m (.bin o a b) env t = (evalE F true a env t).bind fun x t => (evalE F true b env t).bind fun y t => R.of (binD o x y) t := by rw [evalE]
@[simp] theorem ev_cmp {o : CmpOp} {a b : CE} : evalE F m (.cmp o a b) env t = (evalE F true a env t).bind fun x t => (evalE F true b env t).bind fun y t => R.of ((cmpD o x y).map .bool) t := by rw [evalE]
def chnR (o : Option Bool) (t : Tw) (k : R PyData) : R PyData := match o with
  | some true => k
  | some false => .ok (.bool false) t
  | none => .bad
@[simp] theorem chnR_some (b : Bool) (t : Tw) (k : R PyData) : chnR (some b) t k = if b then k else .ok (.bool false) t := by cases b <;> rfl
@[simp] theorem ev_chn {o p : CmpOp} {a b c : CE} : evalE F m (.chn o p a b c) env t = (evalE F true a env t).bind fun x t => (evalE F true b env t).bind fun y t => chnR (cmpD o x y) t ((evalE F true c env t).bind fun z t => R.of ((cmpD p y z).map .bool) t) := by
  rw [evalE]; first | rfl | (congr 1; funext x t; congr 1; funext y t; unfold chnR; rcases cmpD o x y with _ | _ | _ <;> rfl)
def andR (x : PyData) (t : Tw) (k : Tw → R PyData) : R PyData := match x with
  | .bool true => k t
  | .bool false => .ok (.bool false) t
  | _ => .bad
def orR (x : PyData) (t : Tw) (k : Tw → R PyData) : R PyData := match x with
  | .bool true => .ok (.bool true) t
  | .bool false => k t
  | _ => .bad
@[simp] theorem andR_b (b : Bool) (t : Tw) (k : Tw → R PyData) : andR (.bool b) t k = if b then k t else .ok (.bool false) t := by cases b <;> rfl
@[simp] theorem orR_b (b : Bool) (t : Tw) (k : Tw → R PyData) : orR (.bool b) t k = if b then .ok (.bool true) t else k t := by cases b <;> rfl
@[simp] theorem ev_and {a b : CE} : evalE F m (.and a b) env t = (evalE F true a env t).bind fun x t => andR x t fun t => evalE F m b env t := by
  rw [evalE]; first | rfl | (congr 1; funext x t; rcases x with _ | b | _ | _ | _ | _ | _ <;> first | rfl | (cases b <;> rfl))
@[simp] theorem ev_or {a b : CE} : evalE F m (.or a b) env t = (evalE F true a env t).bind fun x t => orR x t fun t => evalE F m b env t := by
  rw [evalE]; first | rfl | (congr 1; funext x t; rcases x with _ | b | _ | _ | _ | _ | _ <;> first | rfl | (cases b <;> rfl))
def notR (t : Tw) : PyData → R PyData
  | .bool b => .ok (.bool (!b)) t
  | _ => .bad
@[simp] theorem notR_b (b : Bool) (t : Tw) : notR t (.bool b) = .ok (.bool (!b)) t := rfl
@[simp] theorem ev_not {a : CE} : evalE F m (.not a) env t = (evalE F true a env t).bind fun x t => notR t x := by
  rw [evalE]; first | rfl | (congr 1; funext x t; cases x <;> rfl)
def iteR {α : Type} (x : PyData) (a b : R α) : R α := match x with
  | .bool true => a
  | .bool false => b
  | _ => .bad
@[simp] theorem iteR_b {α : Type} (c : Bool) (a b : R α) : iteR (.bool c) a b = if c then a else b := by cases c <;> rfl
@[simp] theorem ev_ite {c a b : CE} : evalE F m (.ite c a b) env t = (evalE F true c env t).bind fun x t => iteR x (evalE F m a env t) (evalE F m b env t) := by
  rw [evalE]; first | rfl | (congr 1; funext x t; rcases x with _ | b | _ | _ | _ | _ | _ <;> first | rfl | (cases b <;> rfl))
def negR (t : Tw) : PyData → R PyData
  | .int i => .ok (.int (-i)) t
  | _ => .bad
@[simp] theorem negR_b (i : Int) (t : Tw) : negR t (.int i) = .ok (.int (-i)) t := rfl
@[simp] theorem ev_neg {a : CE} : evalE F m (.neg a) env t = (evalE F true a env t).bind fun x t => negR t x := by
  rw [evalE]; first | rfl | (congr 1; funext x t; cases x <;> rfl)
@[simp] theorem ev_ix {a i : CE} : evalE F m (.ix a i) env t = (evalE F true a env t).bind fun x t => (evalE F true i env t).bind fun y t => R.of (ixD x y) t := by rw [evalE]
@[simp] theorem ev_sl {a : CE} {lo hi : CO} : evalE F m (.sl a lo hi) env t = (evalE F true a env t).bind fun x t => (evalO F lo env t).bind fun l t => (evalO F hi env t).bind fun h t => R.of (slD x l h) t := by rw [evalE]
@[simp] theorem ev_call {f : Nat} {es : CL} : evalE F m (.call f es) env t = (evalL F es env t).bind fun ds t => F f ds t := by rw [evalE]
def call0R : R PyData → R PyData
  | .ok d t => .ok d t
  | _ => .bad
@[simp] theorem call0R_ok (d : PyData) (t : Tw) : call0R (.ok d t) = .ok d t := rfl
@[simp] theorem ev_call0 {f : Nat} : evalE F m (.call0 f) env t = call0R (F f [] t) := by
  rw [evalE]; cases F f [] t <;> rfl
@[simp] theorem ev_callK {f : Nat} {es : CL} {k : CE} : evalE F m (.callK f es k) env t = (evalL F es env t).bind fun ds t => (evalE F false k env t).bind fun d t => F f (ds ++ [d]) t := by rw [evalE]
@[simp] theorem ev_callD {f : Nat} {es : CL} : evalE F m (.callD f es) env t = (evalL F es env t).bind fun ds t => F f (ds ++ [.tuple []]) t := by rw [evalE]
@[simp] theorem ev_bi {b : Bi} {es : CL} : evalE F m (.bi b es) env t = (evalP F es env t).bind fun ds t => R.of (biD b ds) t := by rw [evalE]
@[simp] theorem ev_isi {a : CE} {ty : Ty} : evalE F m (.isi a ty) env t = (evalE F true a env t).bind fun x t => R.of ((isiD ty x).map .bool) t := by rw [evalE]
@[simp] theorem ev_dct0 : evalE F m .dct0 env t = .ok (.dict []) t := by rw [evalE]
@[simp] theorem evL_nil : evalL F .nil env t = .ok [] t := by rw [evalL]
@[simp] theorem evL_cons {e : CE} {r : CL} : evalL F (.cons e r) env t = (evalE F false e env t).bind fun d t => (evalL F r env t).bind fun ds t => .ok (d :: ds) t := by rw [evalL]
@[simp] theorem evP_nil : evalP F .nil env t = .ok [] t := by rw [evalP]
@[simp] theorem evP_cons {e : CE} {r : CL} : evalP F (.cons e r) env t = (evalE F true e env t).bind fun d t => (evalP F r env t).bind fun ds t => .ok (d :: ds) t := by rw [evalP]
@[simp] theorem evO_none : evalO F .none env t = .ok none t := by rw [evalO]
def intO (t : Tw) : PyData → R (Option Int)
  | .int i => .ok (some i) t
  | _ => .bad
@[simp] theorem intO_b (i : Int) (t : Tw) : intO t (.int i) = .ok (some i) t := rfl
@[simp] theorem evO_some {e : CE} : evalO F (.some e) env t = (evalE F true e env t).bind fun d t => intO t d := by
  rw [evalO]; first | rfl | (congr 1; funext x t; cases x <;> rfl)
@[simp] theorem evC_none : evalC F .none env t = .ok true t := by rw [evalC]
def boolC (t : Tw) : PyData → R Bool
  | .bool b => .ok b t
  | _ => .bad
@[simp] theorem boolC_b (i : Bool) (t : Tw) : boolC t (.bool i) = .ok i t := rfl
@[simp] theorem evC_some {e : CE} : evalC F (.some e) env t = (evalE F true e env t).bind fun d t => boolC t d := by
  rw [evalC]; first | rfl | (congr 1; funext x t; cases x <;> rfl)
def valI (t : Tw) : PyData → R (List PyData)
  | .list xs => .ok xs t
  | .tuple xs => .ok xs t
  | .dict kds => if okDict kds then .ok (kds.map (·.1)) t else .bad
  | _ => .bad
@[simp] theorem valI_l (xs : List PyData) (t : Tw) : valI t (.list xs) = .ok xs t := rfl
@[simp] theorem valI_t (xs : List PyData) (t : Tw) : valI t (.tuple xs) = .ok xs t := rfl
@[simp] theorem valI_d (kds : List (PyData × PyData)) (t : Tw) : valI t (.dict kds) = if okDict kds then .ok (kds.map (·.1)) t else .bad := rfl
@[simp] theorem evI_val {e : CE} : evalI F (.val e) env t = (evalE F false e env t).bind fun d t => valI t d := by
  rw [evalI]; first | rfl | (congr 1; funext x t; cases x <;> rfl)
def rng1R (t : Tw) : PyData → R (List PyData)
  | .int n => if small n then .ok (rngs 0 1 n.toNat) t else .bad
  | _ => .bad
@[simp] theorem rng1R_b (n : Int) (t : Tw) : rng1R t (.int n) = if small n then .ok (rngs 0 1 n.toNat) t else .bad := rfl
@[simp] theorem evI_rng1 {a : CE} : evalI F (.rng1 a) env t = (evalE F true a env t).bind fun x t => rng1R t x := by
  rw [evalI]; first | rfl | (congr 1; funext x t; cases x <;> rfl)
def rng2R (t : Tw) : PyData → PyData → R (List PyData)
  | .int i, .int j => if small i && small j then .ok (rngs i 1 (j - i).toNat) t else .bad
  | _, _ => .bad
@[simp] theorem rng2R_b (i j : Int) (t : Tw) : rng2R t (.int i) (.int j) = if small i && small j then .ok (rngs i 1 (j - i).toNat) t else .bad := rfl
def rng3R (t : Tw) : PyData → PyData → PyData → R (List PyData)
  | .int i, .int j, .int s => if small i && small j && decide (s = -1) then .ok (rngs i (-1) (i - j).toNat) t else .bad
  | _, _, _ => .bad
@[simp] theorem rng3R_b (i j s : Int) (t : Tw) : rng3R t (.int i) (.int j) (.int s) = if small i && small j && decide (s = -1) then .ok (rngs i (-1) (i - j).toNat) t else .bad := rfl
@[simp] theorem evI_rng3 {a b c : CE} : evalI F (.rng3 a b c) env t = (evalE F true a env t).bind fun x t => (evalE F true b env t).bind fun y t => (evalE F true c env t).bind fun z t => rng3R t x y z := by
  rw [evalI]; first | rfl | (congr 1; funext x t; congr 1; funext y t; congr 1; funext z t; cases x <;> cases y <;> cases z <;> rfl)
@[simp] theorem evI_rng2 {a b : CE} : evalI F (.rng2 a b) env t = (evalE F true a env t).bind fun x t => (evalE F true b env t).bind fun y t => rng2R t x y := by
  rw [evalI]; first | rfl | (congr 1; funext x t; congr 1; funext y t; cases x <;> cases y <;> rfl)
def enmR (t : Tw) : PyData → R (List PyData)
  | .list xs => .ok (xs.zipIdx.map fun p => .tuple [.int p.2, p.1]) t
  | .tuple xs => .ok (xs.zipIdx.map fun p => .tuple [.int p.2, p.1]) t
  | _ => .bad
@[simp] theorem enmR_l (xs : List PyData) (t : Tw) : enmR t (.list xs) = .ok (xs.zipIdx.map fun p => .tuple [.int p.2, p.1]) t := rfl
@[simp] theorem enmR_t (xs : List PyData) (t : Tw) : enmR t (.tuple xs) = .ok (xs.zipIdx.map fun p => .tuple [.int p.2, p.1]) t := rfl
@[simp] theorem evI_enm {e : CE} : evalI F (.enm e) env t = (evalE F false e env t).bind fun d t => enmR t d := by
  rw [evalI]; first | rfl | (congr 1; funext x t; cases x <;> rfl)
@[simp] theorem borrowP_false (d : PyData) : borrowP (false, d) = (false, d) := by cases d <;> rfl
@[simp] theorem borrowP_list (o : Bool) (xs : List PyData) : borrowP (o, .list xs) = (false, .list xs) := rfl
@[simp] theorem borrowP_dict (o : Bool) (xs : List (PyData × PyData)) : borrowP (o, .dict xs) = (o, .dict xs) := rfl
@[simp] theorem borrow_nil : borrow [] = [] := rfl
@[simp] theorem borrow_cons (o : Option (Bool × PyData)) (r : Env) : borrow (o :: r) = o.map borrowP :: borrow r := rfl
@[simp] theorem R_of_some {α : Type} (a : α) (t : Tw) : R.of (some a) t = .ok a t := rfl
@[simp] theorem R_of_none {α : Type} (t : Tw) : (R.of (none : Option α) t) = .bad := rfl
@[simp] theorem okIf_true (d : PyData) : okIf true d = some d := rfl
/-! statements -/
@[simp] theorem ex_nil : execB F .nil env t = .next env t := by rw [execB]
@[simp] theorem ex_cons {s : CS} {r : CB} : execB F (.cons s r) env t = (execS F s env t).then (execB F r) := by
  rw [execB]; cases execS F s env t <;> rfl
def shrR (k : PyData → SR) : Option (Option (Bool × PyData)) → SR
  | some (some (_, d)) => k d
  | _ => .bad
@[simp] theorem shrR_b (k : PyData → SR) (o : Bool) (d : PyData) : shrR k (some (some (o, d))) = k d := rfl
@[simp] theorem ex_shr {i : Nat} {r : CB} : execB F (.shr i r) env t = shrR (fun d => execB F r (env.set i (some (false, d))) t) env[i]? := by
  rw [execB]; rcases env[i]? with _ | _ | ⟨o, d⟩ <;> rfl
@[simp] theorem then_next (e : Env) (t : Tw) (f : Env → Tw → SR) : (SR.next e t).then f = f e t := rfl
@[simp] theorem then_ret (d : PyData) (t : Tw) (f : Env → Tw → SR) : (SR.ret d t).then f = .ret d t := rfl
@[simp] theorem then_exc (c : Nat) (e : Env) (t : Tw) (f : Env → Tw → SR) : (SR.exc c e t).then f = .exc c e t := rfl
@[simp] theorem xs_asg {i : Nat} {e : CE} : execS F (.asg i e) env t = SR.of (evalE F false e env t) env fun d t => .next (env.set i (some (false, d))) t := by rw [execS]
@[simp] theorem xs_own {i : Nat} {e : CE} : execS F (.own i e) env t = SR.of (evalE F false e env t) env fun d t => .next (env.set i (some (true, d))) t := by rw [execS]
def nxO (t : Tw) : Option Env → SR
  | some env' => .next env' t
  | none => .bad
@[simp] theorem nxO_some (t : Tw) (e : Env) : nxO t (some e) = .next e t := rfl
@[simp] theorem xs_asgT {is : List Nat} {e : CE} : execS F (.asgT is e) env t = SR.of (evalE F false e env t) env fun d t => nxO t (bindTg (.tup is) d env) := by
  rw [execS]; first | rfl | (congr 1; funext d t; cases bindTg (.tup is) d env <;> rfl)
@[simp] theorem xs_asgP {is : List Nat} {es : CL} : execS F (.asgP is es) env t = SR.of (evalL F es env t) env fun ds t => if is.length = ds.length then .next ((is.zip ds).foldl (fun e p => e.set p.1 (some (false, p.2))) env) t else .bad := by rw [execS]
def appR (k : List PyData → SR) : Option (Option (Bool × PyData)) → SR
  | some (some (true, .list xs)) => k xs
  | _ => .bad
@[simp] theorem appR_b (k : List PyData → SR) (xs : List PyData) : appR k (some (some (true, .list xs))) = k xs := rfl
@[simp] theorem xs_app {i : Nat} {e : CE} : execS F (.app i e) env t = appR (fun xs => SR.of (evalE F false e env t) env fun d t => if xs.length < lineN then .next (env.set i (some (true, .list (xs ++ [d])))) t else .bad) env[i]? := by
  rw [execS]; rcases env[i]? with _ | _ | ⟨o, d⟩ <;> first | rfl | (cases o <;> cases d <;> rfl)
@[simp] theorem xs_expr {e : CE} : execS F (.expr e) env t = SR.of (evalE F true e env t) env fun _ t => .next env t := by rw [execS]
@[simp] theorem xs_ret {e : CE} : execS F (.ret e) env t = SR.of (evalE F false e env t) env fun d t => .ret d t := by rw [execS]
@[simp] theorem xs_raise {c : Nat} : execS F (.raise c) env t = .exc c env t := by rw [execS]
def iteS (x : PyData) (a b : SR) : SR := match x with
  | .bool true => a
  | .bool false => b
  | _ => .bad
@[simp] theorem iteS_b (c : Bool) (a b : SR) : iteS (.bool c) a b = if c then a else b := by cases c <;> rfl
@[simp] theorem xs_ite {c : CE} {a b : CB} : execS F (.ite c a b) env t = SR.of (evalE F true c (borrow env) t) env fun x t => iteS x (execB F a env t) (execB F b env t) := by
  rw [execS]; first | rfl | (congr 1; funext x t; rcases x with _ | b | _ | _ | _ | _ | _ <;> first | rfl | (cases b <;> rfl))
def turnR (F : Nat → List PyData → Tw → R PyData) (tg : Tg) (b : CB) (x : PyData) (env : Env) (t : Tw) : SR := match bindTg tg x env with
  | some env' => execB F b env' t
  | none => .bad
def bindR (k : Env → SR) : Option Env → SR
  | some e => k e
  | none => .bad
@[simp] theorem bindR_some (k : Env → SR) (e : Env) : bindR k (some e) = k e := rfl
@[simp] theorem turnR_eq (F : Nat → List PyData → Tw → R PyData) (tg : Tg) (b : CB) (x : PyData) (env : Env) (t : Tw) : turnR F tg b x env t = bindR (fun env' => execB F b env' t) (bindTg tg x env) := by
  unfold turnR; cases bindTg tg x env <;> rfl
theorem turnR_of {tg : Tg} {b : CB} {x : PyData} (h : bindTg tg x env = some env') : turnR F tg b x env t = execB F b env' t := by unfold turnR; rw [h]
@[simp] theorem xs_for {tg : Tg} {it : CI} {b : CB} : execS F (.for_ tg it b) env t = SR.of (evalI F it env t) env fun xs t => forLoop (turnR F tg b) xs env t := by
  rw [execS]; rfl
@[simp] theorem bindTg_name (i : Nat) (d : PyData) (env : Env) : bindTg (.name i) d env = some (env.set i (some (false, d))) := rfl
@[simp] theorem bindTg_tup2 (i j : Nat) (a b : PyData) (env : Env) : bindTg (.tup [i, j]) (.tuple [a, b]) env = some ((env.set i (some (false, a))).set j (some (false, b))) := rfl
@[simp] theorem bindTg_tup3 (i j k : Nat) (a b c : PyData) (env : Env) : bindTg (.tup [i, j, k]) (.tuple [a, b, c]) env = some (((env.set i (some (false, a))).set j (some (false, b))).set k (some (false, c))) := rfl
@[simp] theorem bindTg_tup4 (i j k l : Nat) (a b c d : PyData) (env : Env) : bindTg (.tup [i, j, k, l]) (.tuple [a, b, c, d]) env = some ((((env.set i (some (false, a))).set j (some (false, b))).set k (some (false, c))).set l (some (false, d))) := rfl
@[simp] theorem bindTg_tup5 (i j k l m : Nat) (a b c d e : PyData) (env : Env) : bindTg (.tup [i, j, k, l, m]) (.tuple [a, b, c, d, e]) env = some (((((env.set i (some (false, a))).set j (some (false, b))).set k (some (false, c))).set l (some (false, d))).set m (some (false, e))) := rfl
@[simp] theorem wipeE_nil (env : Env) : wipeE env [] = env := rfl
@[simp] theorem wipeE_cons (env : Env) (v : Nat) (vs : List Nat) : wipeE env (v :: vs) = (wipeE env vs).set v none := rfl
/-- a comprehension of one clause, nothing drawn -/
theorem ev_lc1 {α : Type} {e : CE} {own : List Nat} {tg : Tg} {it : CI} {c : CO} {t1 : Tw} (enc : α → PyData) (xs : List α) (p : α → Bool) (v : α → PyData) (hi : evalI F it env t = .ok (xs.map enc) t1)
    (hb : ∀ x ∈ xs, ∃ env', bindTg tg (enc x) (wipeE env own) = some env' ∧ evalC F c env' t1 = .ok (p x) t1 ∧ (p x = true → evalE F false e env' t1 = .ok (v x) t1)) : evalE F m (.lc1 e own tg it c) env t = .ok (.list ((xs.filter p).map v)) t1 := by
  rw [evalE, hi]
  simp only [R.bind]
  rw [lcLoop_filter (p := p) (v := v) (e := enc)]
  intro x hx
  obtain ⟨env', h1, h2, h3⟩ := hb x hx
  rw [h1]
  dsimp only
  rw [h2]
  dsimp only
  cases q : p x with
  | false => rfl
  | true => rw [if_pos rfl, h3 q]; rfl
theorem ev_lc1n {α : Type} {e : CE} {own : List Nat} {tg : Tg} {it : CI} {t1 : Tw} (enc : α → PyData) (xs : List α) (v : α → PyData) (hi : evalI F it env t = .ok (xs.map enc) t1)
    (hb : ∀ x ∈ xs, ∃ env', bindTg tg (enc x) (wipeE env own) = some env' ∧ evalE F false e env' t1 = .ok (v x) t1) : evalE F m (.lc1 e own tg it .none) env t = .ok (.list (xs.map v)) t1 := by
  rw [ev_lc1 enc xs (fun _ => true) v hi fun x hx => by
    obtain ⟨env', h1, h2⟩ := hb x hx
    exact ⟨env', h1, by simp, fun _ => h2⟩]
  congr 3
  exact List.filter_eq_self.mpr fun _ _ => rfl
end
@[simp] theorem cmp_ni_P (a b : Int) (l : List (Int × Int)) : cmpD .NotIn (.tuple [.int a, .int b]) (.tuple (l.map eP)) = some (!decide ((a, b) ∈ l)) := (good_P.niT (a, b) l).trans (by simp)
theorem atI_pos {α : Type} {xs : List α} {k : Nat} (h : k < xs.length) : atI xs (k : Int) = xs[k]? := by
  unfold atI ixN
  rw [if_pos (by omega), if_pos (by omega)]
  rfl
@[simp] theorem ix0 (a : PyData) (l : List PyData) : ixD (.tuple (a :: l)) (.int 0) = some a := by simp [ixD, atI, ixN]
@[simp] theorem ix1 (a b : PyData) (l : List PyData) : ixD (.tuple (a :: b :: l)) (.int 1) = some b := by
  show atI _ ((1 : Nat) : Int) = _
  rw [atI_pos (by simp only [List.length_cons]; omega)]; rfl
@[simp] theorem ix2 (a b c : PyData) (l : List PyData) : ixD (.tuple (a :: b :: c :: l)) (.int 2) = some c := by
  show atI _ ((2 : Nat) : Int) = _
  rw [atI_pos (by simp only [List.length_cons]; omega)]; rfl
@[simp] theorem ix3 (a b c d : PyData) (l : List PyData) : ixD (.tuple (a :: b :: c :: d :: l)) (.int 3) = some d := by
  show atI _ ((3 : Nat) : Int) = _
  rw [atI_pos (by simp only [List.length_cons]; omega)]; rfl
@[simp] theorem ix4 (a b c d e : PyData) (l : List PyData) : ixD (.tuple (a :: b :: c :: d :: e :: l)) (.int 4) = some e := by
  show atI _ ((4 : Nat) : Int) = _
  rw [atI_pos (by simp only [List.length_cons]; omega)]; rfl
theorem zipIdx_map {α β : Type} (f : α → β) (l : List α) (n : Nat) : (l.map f).zipIdx n = (l.zipIdx n).map fun p => (f p.1, p.2) := by
  induction l generalizing n with
  | nil => rfl
  | cons x l ih => simp [List.zipIdx_cons, ih]
structure House where
  rooms : Int
  doors : List (Int × Int)
  last : Int
  shut : List (Int × Int)
  dark : List (Int × Int)
def eH (h : House) : PyData := .tuple [.int h.rooms, .tuple (h.doors.map eP), .int h.last, .tuple (h.shut.map eP), .tuple (h.dark.map eP)]
end Wv
namespace Wl
open PySem L2 Wv
def openDoors (h : House) (b : Int) : List (Int × Int) := ((h.doors.zipIdx.filter fun p => !decide ((b, (p.2 : Int)) ∈ h.shut)).map (·.1))
theorem open_doors_ev {n : Nat} {h : House} {b : Int} {t : Tw} (hn : 1 ≤ n) : callN T n 6 [eH h, .int b] t = .ok (.list ((openDoors h b).map eP)) t := by
  obtain ⟨n, rfl⟩ : ∃ m, n = m + 1 := ⟨n - 1, by omega⟩
  rw [callN_code (np := 2) (ns := 4) (c := c_open_doors) rfl rfl]
  simp [c_open_doors, eH]
  rw [ev_lc1 (t1 := t) (fun p => .tuple [.int p.2, eP p.1]) h.doors.zipIdx (fun p => !decide ((b, (p.2 : Int)) ∈ h.shut)) (fun p => eP p.1)]
  · simp [openDoors]
  · simp [zipIdx_map]
  · intro x hx
    refine ⟨_, rfl, ?_, ?_⟩
    · simp [lineN]
    · simp
end Wl

set_option maxHeartbeats 1000000
namespace Wv
open PySem L2

/-! ### sorting -/
def ins {α : Type} (le : α → α → Bool) (x : α) : List α → List α
  | [] => [x]
  | y :: r => if le x y then x :: y :: r else y :: ins le x r
def isort {α : Type} (le : α → α → Bool) : List α → List α
  | [] => []
  | x :: r => ins le x (isort le r)
theorem insD_map {α : Type} {e : α → PyData} {le : α → α → Bool} (h : ∀ a b, leD (e a) (e b) = le a b) (x : α) : ∀ l : List α, insD leD (e x) (l.map e) = (ins le x l).map e
  | [] => rfl
  | y :: r => by
    rw [List.map_cons, insD, ins, h]
    split
    · rfl
    · rw [insD_map h x r]; rfl
theorem sortD_map {α : Type} {e : α → PyData} {le : α → α → Bool} (h : ∀ a b, leD (e a) (e b) = le a b) : ∀ l : List α, sortD leD (l.map e) = (isort le l).map e
  | [] => rfl
  | x :: r => by rw [List.map_cons, sortD, isort, sortD_map h r, insD_map h]
theorem ins_perm {α : Type} (le : α → α → Bool) (x : α) : ∀ l : List α, (ins le x l).Perm (x :: l)
  | [] => .refl _
  | y :: r => by
    rw [ins]
    split
    · exact .refl _
    · exact ((ins_perm le x r).cons y).trans (.swap x y r)
theorem isort_perm {α : Type} (le : α → α → Bool) : ∀ l : List α, (isort le l).Perm l
  | [] => .refl _
  | x :: r => (ins_perm le x _).trans ((isort_perm le r).cons x)
theorem isort_length {α : Type} (le : α → α → Bool) (l : List α) : (isort le l).length = l.length := (isort_perm le l).length_eq
theorem isort_mem {α : Type} (le : α → α → Bool) (l : List α) (a : α) : a ∈ isort le l ↔ a ∈ l := (isort_perm le l).mem_iff
structure Lin {α : Type} (le : α → α → Bool) : Prop where
  total : ∀ a b, le a b = true ∨ le b a = true
  trans : ∀ a b c, le a b = true → le b c = true → le a c = true
  anti : ∀ a b, le a b = true → le b a = true → a = b
section
variable {α : Type} {le : α → α → Bool}
theorem Lin.ins (L : Lin le) (x : α) : ∀ l : List α, l.Pairwise (fun a b => le a b = true) → (ins le x l).Pairwise (fun a b => le a b = true)
  | [], _ => List.pairwise_singleton _ _
  | y :: r, h => by
    rw [Wv.ins]
    split
    · rename_i q
      refine .cons (fun z hz => ?_) h
      rcases List.mem_cons.mp hz with rfl | hz
      · exact q
      · exact L.trans _ _ _ q ((List.pairwise_cons.mp h).1 z hz)
    · rename_i q
      obtain ⟨h1, h2⟩ := List.pairwise_cons.mp h
      refine .cons (fun z hz => ?_) (L.ins x r h2)
      rcases List.mem_cons.mp ((ins_perm le x r).mem_iff.mp hz) with rfl | hz
      · exact (L.total y z).resolve_right (by simpa using q)
      · exact h1 z hz
theorem Lin.sorted (L : Lin le) : ∀ l : List α, (isort le l).Pairwise (fun a b => le a b = true)
  | [] => .nil
  | x :: r => L.ins x _ (L.sorted r)
theorem Lin.unique (L : Lin le) : ∀ {l m : List α}, l.Pairwise (fun a b => le a b = true) → m.Pairwise (fun a b => le a b = true) → l.Perm m → l = m
  | [], m, _, _, p => (List.nil_perm.mp p).symm
  | x :: l, [], _, _, p => by cases (List.perm_nil.mp p)
  | x :: l, y :: m, h1, h2, p => by
    obtain ⟨a1, a2⟩ := List.pairwise_cons.mp h1
    obtain ⟨b1, b2⟩ := List.pairwise_cons.mp h2
    have e : x = y := by
      have hx : x ∈ y :: m := p.mem_iff.mp (by simp)
      have hy : y ∈ x :: l := p.mem_iff.mpr (by simp)
      rcases List.mem_cons.mp hx with q | q
      · exact q
      · rcases List.mem_cons.mp hy with q' | q'
        · exact q'.symm
        · exact L.anti _ _ (a1 y q') (b1 x q)
    subst e
    rw [L.unique a2 b2 (List.perm_cons x |>.mp p)]
theorem Lin.sort_perm (L : Lin le) {l m : List α} (p : l.Perm m) : isort le l = isort le m := L.unique (L.sorted l) (L.sorted m) ((isort_perm le l).trans (p.trans (isort_perm le m).symm))
theorem Lin.sort_self (L : Lin le) {l : List α} (h : l.Pairwise (fun a b => le a b = true)) : isort le l = l := L.unique (L.sorted l) h (isort_perm le l)
end
def leI (a b : Int) : Bool := decide (a ≤ b)
theorem lin_I : Lin leI := ⟨fun a b => by simp [leI]; omega, fun a b c h1 h2 => by simp [leI] at *; omega, fun a b h1 h2 => by simp [leI] at *; omega⟩
theorem leD_int (a b : Int) : leD (.int a) (.int b) = leI a b := by
  show (!PySem.W.dataLt (.int b) (.int a)) = _
  rw [PySem.W.dataLt_int]
  unfold leI
  by_cases h : b < a
  · have : ¬ a ≤ b := by omega
    simp [h, this]
  · have : a ≤ b := by omega
    simp [h, this]
def ltP (p q : Int × Int) : Prop := p.1 < q.1 ∨ (p.1 = q.1 ∧ p.2 < q.2)
instance (p q : Int × Int) : Decidable (ltP p q) := by unfold ltP; exact inferInstance
def leP (p q : Int × Int) : Bool := decide (p.1 < q.1 ∨ (p.1 = q.1 ∧ p.2 ≤ q.2))
theorem lin_P : Lin leP := ⟨fun a b => by simp [leP]; omega, fun a b c h1 h2 => by simp [leP] at *; omega, fun a b h1 h2 => by
  obtain ⟨a1, a2⟩ := a
  obtain ⟨b1, b2⟩ := b
  simp [leP] at *
  omega⟩
theorem lt_P (p q : Int × Int) : PySem.W.dataLt (eP p) (eP q) = decide (ltP p q) := by
  show PySem.W.dataLt (.tuple [.int p.1, .int p.2]) (.tuple [.int q.1, .int q.2]) = _
  rw [PySem.W.dataLt_ii]
  rfl
theorem leD_P (p q : Int × Int) : leD (eP p) (eP q) = leP p q := by
  show (!PySem.W.dataLt (eP q) (eP p)) = _
  rw [lt_P]
  unfold leP ltP
  by_cases h : q.1 < p.1 ∨ (q.1 = p.1 ∧ q.2 < p.2)
  · have : ¬ (p.1 < q.1 ∨ (p.1 = q.1 ∧ p.2 ≤ q.2)) := by omega
    simp [h, this]
  · have : p.1 < q.1 ∨ (p.1 = q.1 ∧ p.2 ≤ q.2) := by omega
    simp [h, this]
theorem allAlike_of {xs : List PyData} (h : ∀ a ∈ xs, ∀ b ∈ xs, PySem.W.alike a b = true) : allAlike xs = true := by
  unfold allAlike
  split
  · rfl
  · rename_i x r
    simp only [List.all_eq_true]
    exact fun a ha b hb => h a ha b hb
theorem sortOk_int (l : List Int) : sortOk (l.map .int) = true := by
  unfold sortOk
  have h1 : allAlike (l.map PyData.int) = true := allAlike_of fun a ha b hb => by
    obtain ⟨i, _, rfl⟩ := List.mem_map.mp ha
    obtain ⟨j, _, rfl⟩ := List.mem_map.mp hb
    simp [PySem.W.alike]
  rw [h1]
  simp only [Bool.true_and, Bool.and_eq_true, Bool.or_eq_true, List.all_eq_true, List.mem_map]
  refine ⟨?_, .inr ?_⟩
  · rintro x ⟨i, _, rfl⟩
    simp [PyData.plain, PyData.depth]
  · rintro x ⟨i, _, rfl⟩
    rfl
theorem sortOk_P (l : List (Int × Int)) : sortOk (l.map eP) = true := by
  unfold sortOk
  have h1 : allAlike (l.map eP) = true := allAlike_of fun a ha b hb => by
    obtain ⟨i, _, rfl⟩ := List.mem_map.mp ha
    obtain ⟨j, _, rfl⟩ := List.mem_map.mp hb
    simp [eP, PySem.W.alike, PySem.W.alikeAll]
  rw [h1]
  simp only [Bool.true_and, Bool.and_eq_true, Bool.or_eq_true, List.all_eq_true, List.mem_map]
  refine ⟨?_, .inl ?_⟩
  · rintro x ⟨i, _, rfl⟩
    simp [eP, PyData.plain, PyData.plainAll, PyData.depth, PyData.depthAll]
  · rintro x ⟨i, _, rfl⟩
    rfl
@[simp] theorem bi_sort_int (l : List Int) : biD .sorted [.list (l.map .int)] = some (.list ((isort leI l).map .int)) := by
  show okIf (sortOk _ || oneB _) _ = _
  rw [sortOk_int, Bool.true_or, sortD_map leD_int]
  rfl
@[simp] theorem bi_sort_P (l : List (Int × Int)) : biD .sorted [.list (l.map eP)] = some (.list ((isort leP l).map eP)) := by
  show okIf (sortOk _ || oneB _) _ = _
  rw [sortOk_P, Bool.true_or, sortD_map leD_P]
  rfl

/-! ### built-ins, comparisons -/
theorem boolsOf_map {α : Type} (p : α → Bool) : ∀ l : List α, boolsOf (l.map fun x => .bool (p x)) = some (l.map p)
  | [] => rfl
  | x :: l => by rw [List.map_cons, boolsOf, boolsOf_map p l]; rfl
@[simp] theorem bi_all {α : Type} (p : α → Bool) (l : List α) : biD .all [.list (l.map fun x => .bool (p x))] = some (.bool (l.all p)) := by
  show (boolsOf _).map _ = _
  rw [boolsOf_map]
  simp [Function.comp_def]
@[simp] theorem bi_any {α : Type} (p : α → Bool) (l : List α) : biD .any [.list (l.map fun x => .bool (p x))] = some (.bool (l.any p)) := by
  show (boolsOf _).map _ = _
  rw [boolsOf_map]
  simp [Function.comp_def]
@[simp] theorem bi_len_l (l : List PyData) : biD .len [.list l] = some (.int l.length) := rfl
@[simp] theorem bi_len_t (l : List PyData) : biD .len [.tuple l] = some (.int l.length) := rfl
@[simp] theorem bi_tuple_l (l : List PyData) : biD .tuple [.list l] = some (.tuple l) := rfl
section
variable {α : Type} [DecidableEq α] {e : α → PyData}
theorem GoodE.flat (g : GoodE e) (a b : α) : flatB (e a) (e b) = true := by
  unfold flatB
  rw [g.plain, g.plain]
  simp only [Bool.and_self, Bool.true_and, decide_eq_true_eq]
  exact Nat.le_trans (Nat.min_le_left _ _) (Nat.le_trans (g.depth a) (by decide))
theorem cmp_eq_flat {x y : PyData} (h : flatB x y = true) : cmpD .Eq x y = some (PyData.eqv x y) := by
  show (match x, y with
    | .dict a, .dict [] => if okDict a then some (decide (a.length = 0)) else none
    | x, y => if flatB x y then some (PyData.eqv x y) else none) = _
  split
  · simp [flatB, PyData.plain] at h
  · rw [if_pos h]
theorem cmp_ne_flat {x y : PyData} (h : flatB x y = true) : cmpD .NotEq x y = some (!PyData.eqv x y) := by
  show (match x, y with
    | .dict a, .dict [] => if okDict a then some (!decide (a.length = 0)) else none
    | x, y => if flatB x y then some (!PyData.eqv x y) else none) = _
  split
  · simp [flatB, PyData.plain] at h
  · rw [if_pos h]
theorem GoodE.eq (g : GoodE e) (a b : α) : cmpD .Eq (e a) (e b) = some (decide (a = b)) := by rw [cmp_eq_flat (g.flat a b), g.eqv]
theorem GoodE.ne (g : GoodE e) (a b : α) : cmpD .NotEq (e a) (e b) = some (!decide (a = b)) := by rw [cmp_ne_flat (g.flat a b), g.eqv]
theorem GoodE.list (g : GoodE e) (hd : ∀ a, (e a).depth ≤ 19) : GoodE (fun l : List α => PyData.list (l.map e)) := ⟨fun a b => by
    simp only [PyData.eqv]
    exact eqvAll_map g.eqv a b, fun l => by
    simp only [PyData.plain]
    exact plainAll_map g.plain l, fun l => by
    simp only [PyData.depth]
    exact Nat.succ_le_succ (depthAll_map hd l)⟩
end
theorem good_LI : GoodE (fun l : List Int => PyData.list (l.map .int)) := good_int.list fun _ => Nat.zero_le _
theorem good_bool : GoodE (fun b : Bool => PyData.bool b) := ⟨fun a b => by rw [PyData.eqv]; cases a <;> cases b <;> rfl, fun _ => rfl, fun _ => Nat.zero_le _⟩
@[simp] theorem cmp_eq_int (a b : Int) : cmpD .Eq (.int a) (.int b) = some (decide (a = b)) := good_int.eq a b
@[simp] theorem cmp_ne_int (a b : Int) : cmpD .NotEq (.int a) (.int b) = some (!decide (a = b)) := good_int.ne a b
@[simp] theorem cmp_eq_bool (a b : Bool) : cmpD .Eq (.bool a) (.bool b) = some (decide (a = b)) := good_bool.eq a b
@[simp] theorem cmp_ne_bool (a b : Bool) : cmpD .NotEq (.bool a) (.bool b) = some (!decide (a = b)) := good_bool.ne a b
@[simp] theorem cmp_eq_LI (a b : List Int) : cmpD .Eq (.list (a.map .int)) (.list (b.map .int)) = some (decide (a = b)) := good_LI.eq a b
@[simp] theorem cmp_ne_LI (a b : List Int) : cmpD .NotEq (.list (a.map .int)) (.list (b.map .int)) = some (!decide (a = b)) := good_LI.ne a b
@[simp] theorem cmp_in_I (a : Int) (l : List Int) : cmpD .In (.int a) (.list (l.map .int)) = some (decide (a ∈ l)) := (good_int.inL a l).trans (by simp)
@[simp] theorem cmp_ni_I (a : Int) (l : List Int) : cmpD .NotIn (.int a) (.list (l.map .int)) = some (!decide (a ∈ l)) := (good_int.niL a l).trans (by simp)
@[simp] theorem cmp_in_2 (a b c : Int) : cmpD .In (.int a) (.tuple [.int b, .int c]) = some (decide (a = b ∨ a = c)) := (good_int.inT a [b, c]).trans (by simp)
@[simp] theorem cmp_lt_int (a b : Int) : cmpD .Lt (.int a) (.int b) = some (decide (a < b)) := rfl
@[simp] theorem cmp_le_int (a b : Int) : cmpD .LtE (.int a) (.int b) = some (decide (a ≤ b)) := rfl
@[simp] theorem cmp_gt_int (a b : Int) : cmpD .Gt (.int a) (.int b) = some (decide (b < a)) := rfl
@[simp] theorem cmp_ge_int (a b : Int) : cmpD .GtE (.int a) (.int b) = some (decide (b ≤ a)) := rfl
@[simp] theorem cmp_is_bool (a b : Bool) : cmpD .Is (.bool a) (.bool b) = some (decide (a = b)) := rfl
@[simp] theorem cmp_isn_bool (a b : Bool) : cmpD .IsNot (.bool a) (.bool b) = some (!decide (a = b)) := rfl
@[simp] theorem cmp_is_none : cmpD .Is .none .none = some true := rfl
@[simp] theorem cmp_is_none_i (i : Int) : cmpD .Is (.int i) .none = some false := rfl
theorem cmp_lt_P (p q : Int × Int) : cmpD .Lt (eP p) (eP q) = some (decide (ltP p q)) := by
  show (if ordB (eP p) (eP q) then some (PySem.W.dataLt (eP p) (eP q)) else none) = _
  rw [lt_P, if_pos]
  simp [ordB, eP, PySem.W.alike, PySem.W.alikeAll, PyData.plain, PyData.plainAll, PyData.depth, PyData.depthAll]
@[simp] theorem isi_int_i (i : Int) : isiD .int (.int i) = some true := rfl
@[simp] theorem isi_bool_i (i : Int) : isiD .bool (.int i) = some false := rfl
@[simp] theorem isi_bool_b (b : Bool) : isiD .bool (.bool b) = some true := rfl
@[simp] theorem isi_tuple_t (l : List PyData) : isiD .tuple (.tuple l) = some true := rfl
@[simp] theorem isi_list_l (l : List PyData) : isiD .list (.list l) = some true := rfl
@[simp] theorem isi_str_s (x : Str) : isiD .str (.str x) = some true := rfl
@[simp] theorem bin_sub (a b : Int) : binD .Sub (.int a) (.int b) = some (.int (a - b)) := rfl
@[simp] theorem bin_add (a b : Int) : binD .Add (.int a) (.int b) = some (.int (a + b)) := rfl
theorem bin_addL {xs ys : List PyData} (h : xs.length + ys.length ≤ lineN) : binD .Add (.list xs) (.list ys) = some (.list (xs ++ ys)) := by
  show okIf (decide _) _ = _
  rw [decide_eq_true h]
  rfl
theorem bin_addT {xs ys : List PyData} (h : xs.length + ys.length ≤ lineN) : binD .Add (.tuple xs) (.tuple ys) = some (.tuple (xs ++ ys)) := by
  show okIf (decide _) _ = _
  rw [decide_eq_true h]
  rfl
theorem ixT_map {α : Type} {e : α → PyData} {l : List α} {k : Nat} {x : α} (h : l[k]? = some x) : ixD (.tuple (l.map e)) (.int (k : Nat)) = some (e x) := by
  show atI _ _ = _
  have hl := (List.getElem?_eq_some_iff.mp h).1
  rw [atI_pos (by simpa using hl), List.getElem?_map, h]
  rfl
theorem ixL_map {α : Type} {e : α → PyData} {l : List α} {k : Nat} {x : α} (h : l[k]? = some x) : ixD (.list (l.map e)) (.int (k : Nat)) = some (e x) := by
  show atI _ _ = _
  have hl := (List.getElem?_eq_some_iff.mp h).1
  rw [atI_pos (by simpa using hl), List.getElem?_map, h]
  rfl
/-- the item of a row at a whole number -/
def at0 (l : List Int) (i : Int) : Int := l.getD i.toNat 0
theorem ixT_int {l : List Int} {i : Int} (h0 : 0 ≤ i) (h1 : i < l.length) : ixD (.tuple (l.map .int)) (.int i) = some (.int (at0 l i)) := by
  have e : ((i.toNat : Nat) : Int) = i := Int.toNat_of_nonneg h0
  have hl : i.toNat < l.length := by omega
  have q : l[i.toNat]? = some (at0 l i) := by
    unfold at0
    rw [List.getD_eq_getElem?_getD, List.getElem?_eq_getElem hl]
    rfl
  have := ixT_map (e := PyData.int) q
  rw [e] at this
  exact this
@[simp] theorem le_line0 : (0 ≤ lineN) = True := eq_true (by decide)
@[simp] theorem le_line1 : (1 ≤ lineN) = True := eq_true (by decide)
@[simp] theorem le_line2 : (2 ≤ lineN) = True := eq_true (by decide)
@[simp] theorem le_line3 : (3 ≤ lineN) = True := eq_true (by decide)
@[simp] theorem le_line4 : (4 ≤ lineN) = True := eq_true (by decide)
@[simp] theorem le_line5 : (5 ≤ lineN) = True := eq_true (by decide)
@[simp] theorem le_line6 : (6 ≤ lineN) = True := eq_true (by decide)
@[simp] theorem le_line7 : (7 ≤ lineN) = True := eq_true (by decide)
@[simp] theorem le_line8 : (8 ≤ lineN) = True := eq_true (by decide)
@[simp] theorem lt_line0 : (0 < lineN) = True := eq_true (by decide)
end Wv

set_option maxHeartbeats 4000000
namespace Wl
open PySem L2 Wv
/-! ### houses -/
structure House.Ok (h : House) : Prop where
  r1 : 1 ≤ h.rooms
  r6 : h.rooms ≤ 6
  dr : ∀ p ∈ h.doors, 0 ≤ p.1 ∧ p.1 < p.2 ∧ p.2 < h.rooms
  ds : h.doors.Pairwise ltP
  l0 : 0 ≤ h.last
  l12 : h.last ≤ 12
  sr : ∀ p ∈ h.shut, 0 ≤ p.1 ∧ p.1 ≤ h.last ∧ 0 ≤ p.2 ∧ p.2 < h.doors.length
  ss : h.shut.Pairwise ltP
  kr : ∀ p ∈ h.dark, 0 ≤ p.1 ∧ p.1 ≤ h.last ∧ 0 ≤ p.2 ∧ p.2 < h.rooms
  ks : h.dark.Pairwise ltP
  dl : h.doors.length ≤ 1000
  sl : h.shut.length ≤ 10000
  kl : h.dark.length ≤ 10000
@[simp] theorem ixH0 (h : House) : ixD (eH h) (.int 0) = some (.int h.rooms) := ix0 _ _
@[simp] theorem ixH1 (h : House) : ixD (eH h) (.int 1) = some (.tuple (h.doors.map eP)) := ix1 _ _ _
@[simp] theorem ixH2 (h : House) : ixD (eH h) (.int 2) = some (.int h.last) := ix2 _ _ _ _
@[simp] theorem ixH3 (h : House) : ixD (eH h) (.int 3) = some (.tuple (h.shut.map eP)) := ix3 _ _ _ _ _
@[simp] theorem ixH4 (h : House) : ixD (eH h) (.int 4) = some (.tuple (h.dark.map eP)) := ix4 _ _ _ _ _ _
theorem small_of {i : Int} (h1 : -1000000 ≤ i) (h2 : i ≤ 1000000) : small i = true := Nat.ble_eq_true_of_le (by omega)
theorem whole_ev {n : Nat} {i lo hi : Int} {t : Tw} (hn : 1 ≤ n) : callN T n 0 [.int i, .int lo, .int hi] t = .ok (.bool (decide (lo ≤ i) && decide (i ≤ hi))) t := by
  obtain ⟨n, rfl⟩ : ∃ m, n = m + 1 := ⟨n - 1, by omega⟩
  rw [callN_code (np := 3) (ns := 3) (c := c_is_whole) rfl rfl]
  simp [c_is_whole]
  by_cases h : lo ≤ i <;> simp [h]
theorem get_pair {α : Type} {R : α → α → Prop} : ∀ {l : List α}, l.Pairwise R → ∀ {k : Nat}, k + 1 < l.length → ∃ x y, l[k]? = some x ∧ l[k + 1]? = some y ∧ R x y
  | [], _, k, h => by simp at h
  | [_], _, k, h => by simp at h
  | x :: y :: r, p, 0, _ => ⟨x, y, rfl, rfl, (List.pairwise_cons.mp p).1 y (by simp)⟩
  | x :: y :: r, p, k + 1, h => by
    obtain ⟨a, b, h1, h2, h3⟩ := get_pair (List.pairwise_cons.mp p).2 (k := k) (by simpa using h)
    exact ⟨a, b, by simpa using h1, by simpa using h2, h3⟩
theorem pairs_ev {n : Nat} {l : List (Int × Int)} {a b : Int} {t : Tw} (hn : 2 ≤ n) (hr : ∀ p ∈ l, 0 ≤ p.1 ∧ p.1 < a ∧ 0 ≤ p.2 ∧ p.2 < b) (hs : l.Pairwise ltP) (hl : l.length ≤ 10000) : callN T n 1 [.tuple (l.map eP), .int a, .int b] t = .ok (.bool true) t := by
  obtain ⟨n, rfl⟩ : ∃ m, n = m + 1 := ⟨n - 1, by omega⟩
  rw [callN_code (np := 3) (ns := 5) (c := c_are_pairs) rfl rfl]
  simp [c_are_pairs]
  rw [ev_lc1n (t1 := t) eP l (fun _ => .bool true) (by simp) (fun x hx => ⟨_, rfl, by simp [eP]⟩)]
  simp
  rw [ev_lc1n (t1 := t) eP l (fun _ => .bool true) (by simp) (fun x hx => ⟨_, rfl, by
    have := hr x hx
    simp [eP]
    rw [whole_ev (by omega)]
    simp [this.1, show x.1 ≤ a - 1 by omega]
    rw [whole_ev (by omega)]
    simp [this.2.2.1, show x.2 ≤ b - 1 by omega]⟩)]
  simp
  rw [ev_lc1n (t1 := t) (fun k : Nat => .int (k : Nat)) (List.range (l.length - 1)) (fun _ => .bool true) (by
    simp
    rw [if_pos (small_of (by omega) (by omega)), rngs0]) (fun k hk => ⟨_, rfl, by
    have hk := List.mem_range.mp hk
    obtain ⟨x, y, h1, h2, h3⟩ := get_pair hs (k := k) (by omega)
    simp
    rw [ixT_map h1]
    simp only [R_of_some, R.bind]
    rw [show ((k : Int) + 1) = ((k + 1 : Nat) : Int) by omega, ixT_map h2]
    simp only [R_of_some, R.bind]
    rw [cmp_lt_P]
    simp [h3]⟩)]
  simp
theorem is_house_ev {n : Nat} {h : House} {t : Tw} (hn : 3 ≤ n) (ok : House.Ok h) : callN T n 2 [eH h] t = .ok (.bool true) t := by
  obtain ⟨n, rfl⟩ : ∃ m, n = m + 1 := ⟨n - 1, by omega⟩
  rw [callN_code (np := 1) (ns := 8) (c := c_is_house) rfl rfl]
  simp [c_is_house, eH]
  rw [whole_ev (by omega)]
  simp [ok.r1, ok.r6]
  rw [pairs_ev (by omega) (fun p hp => by have := ok.dr p hp; omega) ok.ds (by have := ok.dl; omega)]
  simp
  rw [ev_lc1n (t1 := t) eP h.doors (fun _ => .bool false) (by simp) (fun x hx => ⟨_, rfl, by
    have := ok.dr x hx
    simp
    omega⟩)]
  simp
  rw [whole_ev (by omega)]
  simp [ok.l0, ok.l12]
  rw [pairs_ev (by omega) (fun p hp => by have := ok.sr p hp; omega) ok.ss ok.sl]
  simp
  rw [pairs_ev (by omega) (fun p hp => by have := ok.kr p hp; omega) ok.ks ok.kl]
  simp
theorem look_house_ev {n : Nat} {h : House} {m : Int} {t : Tw} (hn : 4 ≤ n) (ok : House.Ok h) (h1 : 1 ≤ m) (h2 : m ≤ 4) : callN T n 3 [eH h, .int m] t = .ok .none t := by
  obtain ⟨n, rfl⟩ : ∃ m, n = m + 1 := ⟨n - 1, by omega⟩
  rw [callN_code (np := 2) (ns := 2) (c := c_look_house) rfl rfl]
  simp [c_look_house]
  rw [is_house_ev (by omega) ok]
  simp
  rw [whole_ev (by omega)]
  simp [h1, h2]
theorem look_beat_ev {n : Nat} {h : House} {b : Int} {t : Tw} (hn : 2 ≤ n) (h1 : 0 ≤ b) (h2 : b ≤ h.last) : callN T n 4 [eH h, .int b] t = .ok .none t := by
  obtain ⟨n, rfl⟩ : ∃ m, n = m + 1 := ⟨n - 1, by omega⟩
  rw [callN_code (np := 2) (ns := 2) (c := c_look_beat) rfl rfl]
  simp [c_look_beat, eH]
  rw [whole_ev (by omega)]
  simp [h1, h2]
theorem look_room_ev {n : Nat} {h : House} {b : Int} {t : Tw} (hn : 2 ≤ n) (h1 : 0 ≤ b) (h2 : b < h.rooms) : callN T n 5 [eH h, .int b] t = .ok .none t := by
  obtain ⟨n, rfl⟩ : ∃ m, n = m + 1 := ⟨n - 1, by omega⟩
  rw [callN_code (np := 2) (ns := 2) (c := c_look_room) rfl rfl]
  simp [c_look_room, eH]
  rw [whole_ev (by omega)]
  simp [h1, show b ≤ h.rooms - 1 by omega]
/-- the rooms beside one, door by door -/
def sideOf (r : Int) (d : List (Int × Int)) : List Int := (d.filter fun p => decide (r = p.1 ∨ r = p.2)).map fun p => p.1 + p.2 - r
theorem sideOf_snoc (r : Int) (d : List (Int × Int)) (p : Int × Int) : sideOf r (d ++ [p]) = if r = p.1 ∨ r = p.2 then sideOf r d ++ [p.1 + p.2 - r] else sideOf r d := by
  unfold sideOf
  rw [List.filter_append]
  by_cases h : r = p.1 ∨ r = p.2
  · simp [h]
  · simp [h]
theorem sideOf_length (r : Int) (d : List (Int × Int)) : (sideOf r d).length ≤ d.length := by
  unfold sideOf
  rw [List.length_map]
  exact List.length_filter_le _ _
def sideM (h : House) (r b : Int) : List Int := sideOf r (openDoors h b)
def besideM (h : House) (r b : Int) : List Int := isort leI (sideM h r b)
theorem openDoors_length (h : House) (b : Int) : (openDoors h b).length ≤ h.doors.length := by
  unfold openDoors
  rw [List.length_map]
  exact Nat.le_trans (List.length_filter_le _ _) (by simp)
theorem sideM_length (h : House) (r b : Int) : (sideM h r b).length ≤ h.doors.length := Nat.le_trans (sideOf_length _ _) (openDoors_length h b)
theorem besideM_length (h : House) (r b : Int) : (besideM h r b).length ≤ h.doors.length := by
  unfold besideM
  rw [isort_length]
  exact sideM_length h r b
theorem beside_ev {n : Nat} {h : House} {r b : Int} {t : Tw} (hn : 2 ≤ n) (ok : House.Ok h) : callN T n 7 [eH h, .int r, .int b] t = .ok (.list ((besideM h r b).map .int)) t := by
  obtain ⟨n, rfl⟩ : ∃ m, n = m + 1 := ⟨n - 1, by omega⟩
  rw [callN_code (np := 3) (ns := 6) (c := c_beside) rfl rfl]
  simp [c_beside, lineN]
  rw [open_doors_ev (by omega)]
  simp
  generalize hz : forLoop _ _ _ _ = z
  obtain ⟨env', t', rfl, x, y, rfl, rfl⟩ := for_at hz eP (openDoors h b) rfl (fun d env t' => ∃ x y, env = [some (false, eH h), some (false, .int r), some (false, .int b), some (true, .list ((sideOf r d).map .int)), x, y] ∧ t' = t) ⟨none, none, rfl, rfl⟩ (fun d p rs env t' hp ⟨x, y, e, e2⟩ => by
    subst e e2
    refine ⟨_, _, ?_, some (false, .int p.1), some (false, .int p.2), rfl, rfl⟩
    have l1 := sideOf_length r d
    have l2 : d.length ≤ (openDoors h b).length := by rw [hp]; simp
    have l3 := openDoors_length h b
    have l4 := ok.dl
    by_cases hc : r = p.1 ∨ r = p.2
    · simp [eP, lineN, sideOf_snoc, hc, show (sideOf r d).length < 16777216 by omega]
    · simp [eP, lineN, sideOf_snoc, hc])
  simp [besideM, sideM]
end Wl

set_option maxHeartbeats 4000000
namespace Wv
open PySem L2
@[simp] theorem we_at_at : cmpD .Eq (.str "at") (.str "at") = some true := by decide +kernel
@[simp] theorem we_at_not : cmpD .Eq (.str "at") (.str "not") = some false := by decide +kernel
@[simp] theorem we_at_saw : cmpD .Eq (.str "at") (.str "saw") = some false := by decide +kernel
@[simp] theorem we_at_missed : cmpD .Eq (.str "at") (.str "missed") = some false := by decide +kernel
@[simp] theorem we_at_alone : cmpD .Eq (.str "at") (.str "alone") = some false := by decide +kernel
@[simp] theorem we_at_heard : cmpD .Eq (.str "at") (.str "heard") = some false := by decide +kernel
@[simp] theorem wi_at_at : cmpD .In (.str "at") (.tuple [.str "at", .str "not"]) = some true := by decide +kernel
@[simp] theorem wi_at_alone : cmpD .In (.str "at") (.tuple [.str "alone", .str "heard"]) = some false := by decide +kernel
@[simp] theorem wi_at_saw : cmpD .In (.str "at") (.tuple [.str "saw", .str "missed"]) = some false := by decide +kernel
@[simp] theorem wn_at : cmpD .NotIn (.str "at") (.tuple [.str "at", .str "not", .str "saw", .str "missed", .str "alone", .str "heard"]) = some false := by decide +kernel
@[simp] theorem we_not_at : cmpD .Eq (.str "not") (.str "at") = some false := by decide +kernel
@[simp] theorem we_not_not : cmpD .Eq (.str "not") (.str "not") = some true := by decide +kernel
@[simp] theorem we_not_saw : cmpD .Eq (.str "not") (.str "saw") = some false := by decide +kernel
@[simp] theorem we_not_missed : cmpD .Eq (.str "not") (.str "missed") = some false := by decide +kernel
@[simp] theorem we_not_alone : cmpD .Eq (.str "not") (.str "alone") = some false := by decide +kernel
@[simp] theorem we_not_heard : cmpD .Eq (.str "not") (.str "heard") = some false := by decide +kernel
@[simp] theorem wi_not_at : cmpD .In (.str "not") (.tuple [.str "at", .str "not"]) = some true := by decide +kernel
@[simp] theorem wi_not_alone : cmpD .In (.str "not") (.tuple [.str "alone", .str "heard"]) = some false := by decide +kernel
@[simp] theorem wi_not_saw : cmpD .In (.str "not") (.tuple [.str "saw", .str "missed"]) = some false := by decide +kernel
@[simp] theorem wn_not : cmpD .NotIn (.str "not") (.tuple [.str "at", .str "not", .str "saw", .str "missed", .str "alone", .str "heard"]) = some false := by decide +kernel
@[simp] theorem we_saw_at : cmpD .Eq (.str "saw") (.str "at") = some false := by decide +kernel
@[simp] theorem we_saw_not : cmpD .Eq (.str "saw") (.str "not") = some false := by decide +kernel
@[simp] theorem we_saw_saw : cmpD .Eq (.str "saw") (.str "saw") = some true := by decide +kernel
@[simp] theorem we_saw_missed : cmpD .Eq (.str "saw") (.str "missed") = some false := by decide +kernel
@[simp] theorem we_saw_alone : cmpD .Eq (.str "saw") (.str "alone") = some false := by decide +kernel
@[simp] theorem we_saw_heard : cmpD .Eq (.str "saw") (.str "heard") = some false := by decide +kernel
@[simp] theorem wi_saw_at : cmpD .In (.str "saw") (.tuple [.str "at", .str "not"]) = some false := by decide +kernel
@[simp] theorem wi_saw_alone : cmpD .In (.str "saw") (.tuple [.str "alone", .str "heard"]) = some false := by decide +kernel
@[simp] theorem wi_saw_saw : cmpD .In (.str "saw") (.tuple [.str "saw", .str "missed"]) = some true := by decide +kernel
@[simp] theorem wn_saw : cmpD .NotIn (.str "saw") (.tuple [.str "at", .str "not", .str "saw", .str "missed", .str "alone", .str "heard"]) = some false := by decide +kernel
@[simp] theorem we_missed_at : cmpD .Eq (.str "missed") (.str "at") = some false := by decide +kernel
@[simp] theorem we_missed_not : cmpD .Eq (.str "missed") (.str "not") = some false := by decide +kernel
@[simp] theorem we_missed_saw : cmpD .Eq (.str "missed") (.str "saw") = some false := by decide +kernel
@[simp] theorem we_missed_missed : cmpD .Eq (.str "missed") (.str "missed") = some true := by decide +kernel
@[simp] theorem we_missed_alone : cmpD .Eq (.str "missed") (.str "alone") = some false := by decide +kernel
@[simp] theorem we_missed_heard : cmpD .Eq (.str "missed") (.str "heard") = some false := by decide +kernel
@[simp] theorem wi_missed_at : cmpD .In (.str "missed") (.tuple [.str "at", .str "not"]) = some false := by decide +kernel
@[simp] theorem wi_missed_alone : cmpD .In (.str "missed") (.tuple [.str "alone", .str "heard"]) = some false := by decide +kernel
@[simp] theorem wi_missed_saw : cmpD .In (.str "missed") (.tuple [.str "saw", .str "missed"]) = some true := by decide +kernel
@[simp] theorem wn_missed : cmpD .NotIn (.str "missed") (.tuple [.str "at", .str "not", .str "saw", .str "missed", .str "alone", .str "heard"]) = some false := by decide +kernel
@[simp] theorem we_alone_at : cmpD .Eq (.str "alone") (.str "at") = some false := by decide +kernel
@[simp] theorem we_alone_not : cmpD .Eq (.str "alone") (.str "not") = some false := by decide +kernel
@[simp] theorem we_alone_saw : cmpD .Eq (.str "alone") (.str "saw") = some false := by decide +kernel
@[simp] theorem we_alone_missed : cmpD .Eq (.str "alone") (.str "missed") = some false := by decide +kernel
@[simp] theorem we_alone_alone : cmpD .Eq (.str "alone") (.str "alone") = some true := by decide +kernel
@[simp] theorem we_alone_heard : cmpD .Eq (.str "alone") (.str "heard") = some false := by decide +kernel
@[simp] theorem wi_alone_at : cmpD .In (.str "alone") (.tuple [.str "at", .str "not"]) = some false := by decide +kernel
@[simp] theorem wi_alone_alone : cmpD .In (.str "alone") (.tuple [.str "alone", .str "heard"]) = some true := by decide +kernel
@[simp] theorem wi_alone_saw : cmpD .In (.str "alone") (.tuple [.str "saw", .str "missed"]) = some false := by decide +kernel
@[simp] theorem wn_alone : cmpD .NotIn (.str "alone") (.tuple [.str "at", .str "not", .str "saw", .str "missed", .str "alone", .str "heard"]) = some false := by decide +kernel
@[simp] theorem we_heard_at : cmpD .Eq (.str "heard") (.str "at") = some false := by decide +kernel
@[simp] theorem we_heard_not : cmpD .Eq (.str "heard") (.str "not") = some false := by decide +kernel
@[simp] theorem we_heard_saw : cmpD .Eq (.str "heard") (.str "saw") = some false := by decide +kernel
@[simp] theorem we_heard_missed : cmpD .Eq (.str "heard") (.str "missed") = some false := by decide +kernel
@[simp] theorem we_heard_alone : cmpD .Eq (.str "heard") (.str "alone") = some false := by decide +kernel
@[simp] theorem we_heard_heard : cmpD .Eq (.str "heard") (.str "heard") = some true := by decide +kernel
@[simp] theorem wi_heard_at : cmpD .In (.str "heard") (.tuple [.str "at", .str "not"]) = some false := by decide +kernel
@[simp] theorem wi_heard_alone : cmpD .In (.str "heard") (.tuple [.str "alone", .str "heard"]) = some true := by decide +kernel
@[simp] theorem wi_heard_saw : cmpD .In (.str "heard") (.tuple [.str "saw", .str "missed"]) = some false := by decide +kernel
@[simp] theorem wn_heard : cmpD .NotIn (.str "heard") (.tuple [.str "at", .str "not", .str "saw", .str "missed", .str "alone", .str "heard"]) = some false := by decide +kernel
inductive Clm where
  | at_ (w b r : Int)
  | not_ (w b r : Int)
  | saw (w b o : Int)
  | missed (w b o : Int)
  | alone (w b : Int)
  | heard (w b : Int)
deriving DecidableEq
def Clm.beat : Clm → Int
  | .at_ _ b _ => b
  | .not_ _ b _ => b
  | .saw _ b _ => b
  | .missed _ b _ => b
  | .alone _ b => b
  | .heard _ b => b
def Clm.who : Clm → Int
  | .at_ w _ _ => w
  | .not_ w _ _ => w
  | .saw w _ _ => w
  | .missed w _ _ => w
  | .alone w _ => w
  | .heard w _ => w
def eC : Clm → PyData
  | .at_ w b r => .tuple [.str "at", .int w, .int b, .int r]
  | .not_ w b r => .tuple [.str "not", .int w, .int b, .int r]
  | .saw w b r => .tuple [.str "saw", .int w, .int b, .int r]
  | .missed w b r => .tuple [.str "missed", .int w, .int b, .int r]
  | .alone w b => .tuple [.str "alone", .int w, .int b, .none]
  | .heard w b => .tuple [.str "heard", .int w, .int b, .none]
end Wv
namespace Wl
open PySem L2 Wv
def Clm.Ok (h : House) (m : Int) (c : Clm) : Prop := 0 ≤ c.who ∧ c.who < m ∧ 0 ≤ c.beat ∧ c.beat ≤ h.last ∧ match c with
  | .at_ _ _ r => 0 ≤ r ∧ r < h.rooms
  | .not_ _ _ r => 0 ≤ r ∧ r < h.rooms
  | .saw w _ o => 0 ≤ o ∧ o < m ∧ o ≠ w
  | .missed w _ o => 0 ≤ o ∧ o < m ∧ o ≠ w
  | _ => True
/-- a stand: a room for each of the folk -/
def StandOk (h : House) (m : Int) (s : List Int) : Prop := (s.length : Int) = m ∧ ∀ r ∈ s, 0 ≤ r ∧ r < h.rooms
theorem next_rooms_ev {n : Nat} {h : House} {r b : Int} {t : Tw} (hn : 5 ≤ n) (ok : House.Ok h) (r0 : 0 ≤ r) (r1 : r < h.rooms) (b0 : 0 ≤ b) (b1 : b ≤ h.last) : callN T n 8 [eH h, .int r, .int b] t = .ok (.list ((isort leI (r :: besideM h r b)).map .int)) t := by
  obtain ⟨n, rfl⟩ : ∃ m, n = m + 1 := ⟨n - 1, by omega⟩
  rw [callN_code (np := 3) (ns := 3) (c := c_next_rooms) rfl rfl]
  have l1 := besideM_length h r b
  have l2 := ok.dl
  simp [c_next_rooms, lineN]
  rw [look_house_ev (by omega) ok (by omega) (by omega)]
  simp
  rw [look_room_ev (by omega) r0 r1]
  simp
  rw [look_beat_ev (by omega) b0 b1]
  simp
  rw [beside_ev (by omega) ok]
  simp only [R.bind]
  rw [bin_addL (by simp [lineN]; omega)]
  simp only [R_of_some, R.bind, List.cons_append, List.nil_append]
  rw [show PyData.int r :: (besideM h r b).map PyData.int = (r :: besideM h r b).map PyData.int from rfl, bi_sort_int]
  simp
theorem is_stand_ev {n : Nat} {h : House} {m : Int} {s : List Int} {t : Tw} (hn : 2 ≤ n) (hs : StandOk h m s) : callN T n 9 [eH h, .int m, eT s] t = .ok (.bool true) t := by
  obtain ⟨n, rfl⟩ : ∃ m, n = m + 1 := ⟨n - 1, by omega⟩
  rw [callN_code (np := 3) (ns := 4) (c := c_is_stand) rfl rfl]
  simp [c_is_stand, eT, hs.1]
  rw [ev_lc1n (t1 := t) PyData.int s (fun _ => .bool true) (by simp) (fun x hx => ⟨_, rfl, by
    have := hs.2 x hx
    simp [eH]
    rw [whole_ev (by omega)]
    simp [this.1]
    omega⟩)]
  simp
theorem is_claim_ev {n : Nat} {h : House} {m : Int} {c : Clm} {t : Tw} (hn : 2 ≤ n) (hc : Clm.Ok h m c) : callN T n 10 [eH h, .int m, eC c] t = .ok (.bool true) t := by
  obtain ⟨n, rfl⟩ : ∃ m, n = m + 1 := ⟨n - 1, by omega⟩
  rw [callN_code (np := 3) (ns := 7) (c := c_is_claim) rfl rfl]
  obtain ⟨h1, h2, h3, h4, h5⟩ := hc
  cases c with
  | at_ w b r =>
    simp only [Clm.who, Clm.beat] at h1 h2 h3 h4 h5
    simp [c_is_claim, eC, eH, lineN, whole_ev (show 1 ≤ n by omega), h1, h3, h4, show w ≤ m - 1 by omega, h5.1, show r ≤ h.rooms - 1 by omega]
  | not_ w b r =>
    simp only [Clm.who, Clm.beat] at h1 h2 h3 h4 h5
    simp [c_is_claim, eC, eH, lineN, whole_ev (show 1 ≤ n by omega), h1, h3, h4, show w ≤ m - 1 by omega, h5.1, show r ≤ h.rooms - 1 by omega]
  | saw w b r =>
    simp only [Clm.who, Clm.beat] at h1 h2 h3 h4 h5
    simp [c_is_claim, eC, eH, lineN, whole_ev (show 1 ≤ n by omega), h1, h3, h4, show w ≤ m - 1 by omega, h5.1, show r ≤ m - 1 by omega, h5.2.2]
  | missed w b r =>
    simp only [Clm.who, Clm.beat] at h1 h2 h3 h4 h5
    simp [c_is_claim, eC, eH, lineN, whole_ev (show 1 ≤ n by omega), h1, h3, h4, show w ≤ m - 1 by omega, h5.1, show r ≤ m - 1 by omega, h5.2.2]
  | alone w b =>
    simp only [Clm.who, Clm.beat] at h1 h2 h3 h4 h5
    simp [c_is_claim, eC, eH, lineN, whole_ev (show 1 ≤ n by omega), h1, h3, h4, show w ≤ m - 1 by omega]
  | heard w b =>
    simp only [Clm.who, Clm.beat] at h1 h2 h3 h4 h5
    simp [c_is_claim, eC, eH, lineN, whole_ev (show 1 ≤ n by omega), h1, h3, h4, show w ≤ m - 1 by omega]
/-- the rooms of all others -/
def others (s : List Int) (w : Int) : List Int := ((List.range s.length).filter fun k : Nat => !decide ((k : Int) = w)).map fun k => s.getD k 0
def holdsM (h : House) (s : List Int) : Clm → Bool
  | .at_ w b r => decide (at0 s w = r)
  | .not_ w b r => !decide (at0 s w = r)
  | .saw w b o => decide (at0 s o = at0 s w) && !decide ((b, at0 s w) ∈ h.dark)
  | .missed w b o => !decide (at0 s o = at0 s w)
  | .alone w b => !decide (at0 s w ∈ others s w)
  | .heard w b => (besideM h (at0 s w) b).any fun r => decide (r ∈ others s w)
theorem others_lc {F : Nat → List PyData → Tw → R PyData} {m : Bool} {e : CE} {own : List Nat} {tg : Tg} {it : CI} {c : CO} {env : Wv.Env} {t : Tw} {s : List Int} {w : Int} (hi : evalI F it env t = .ok ((List.range s.length).map fun k => PyData.int (k : Nat)) t)
    (hb : ∀ k, k < s.length → ∃ env', bindTg tg (PyData.int (k : Nat)) (wipeE env own) = some env' ∧ evalC F c env' t = .ok (!decide ((k : Int) = w)) t ∧ evalE F false e env' t = .ok (.int (s.getD k 0)) t) : evalE F m (.lc1 e own tg it c) env t = .ok (.list ((others s w).map .int)) t := by
  rw [ev_lc1 (t1 := t) (fun k : Nat => .int (k : Nat)) (List.range s.length) (fun k : Nat => !decide ((k : Int) = w)) (fun k => .int (s.getD k 0)) hi fun k hk => by
    obtain ⟨env', h1, h2, h3⟩ := hb k (List.mem_range.mp hk)
    exact ⟨env', h1, h2, fun _ => h3⟩]
  simp [others]
theorem ixT_nat {s : List Int} {k : Nat} (h : k < s.length) : ixD (.tuple (s.map .int)) (.int (k : Nat)) = some (.int (s.getD k 0)) := by
  have q : s[k]? = some (s.getD k 0) := by
    rw [List.getD_eq_getElem?_getD, List.getElem?_eq_getElem h]
    rfl
  exact ixT_map (e := PyData.int) q
theorem holds_ev {n : Nat} {h : House} {m : Int} {s : List Int} {c : Clm} {t : Tw} (hn : 3 ≤ n) (ok : House.Ok h) (hs : StandOk h m s) (hm : m ≤ 4) (hc : Clm.Ok h m c) : callN T n 11 [eH h, eT s, eC c] t = .ok (.bool (holdsM h s c)) t := by
  obtain ⟨n, rfl⟩ : ∃ m, n = m + 1 := ⟨n - 1, by omega⟩
  rw [callN_code (np := 3) (ns := 10) (c := c_holds) rfl rfl]
  obtain ⟨h1, h2, h3, h4, h5⟩ := hc
  have hl := hs.1
  cases c with
  | at_ w b r =>
    simp only [Clm.who, Clm.beat] at h1 h2 h3 h4 h5
    simp [c_holds, eC, eT, ixT_int h1 (show w < s.length by omega), holdsM]
  | not_ w b r =>
    simp only [Clm.who, Clm.beat] at h1 h2 h3 h4 h5
    simp [c_holds, eC, eT, ixT_int h1 (show w < s.length by omega), holdsM]
  | saw w b r =>
    simp only [Clm.who, Clm.beat] at h1 h2 h3 h4 h5
    simp [c_holds, eC, eT, eH, ixT_int h1 (show w < s.length by omega), ixT_int h5.1 (show r < s.length by omega), holdsM, lineN]
    by_cases q : at0 s r = at0 s w <;> simp [q]
  | missed w b r =>
    simp only [Clm.who, Clm.beat] at h1 h2 h3 h4 h5
    simp [c_holds, eC, eT, ixT_int h1 (show w < s.length by omega), ixT_int h5.1 (show r < s.length by omega), holdsM]
  | alone w b =>
    simp only [Clm.who, Clm.beat] at h1 h2 h3 h4 h5
    simp [c_holds, eC, eT, ixT_int h1 (show w < s.length by omega)]
    rw [others_lc (s := s) (w := w) (by simp; rw [if_pos (small_of (by omega) (by omega)), rngs0]) (fun k hk => ⟨_, rfl, by simp, by simp [ixT_nat hk]⟩)]
    simp [holdsM]
  | heard w b =>
    simp only [Clm.who, Clm.beat] at h1 h2 h3 h4 h5
    simp [c_holds, eC, eT, ixT_int h1 (show w < s.length by omega)]
    rw [others_lc (s := s) (w := w) (by simp; rw [if_pos (small_of (by omega) (by omega)), rngs0]) (fun k hk => ⟨_, rfl, by simp, by simp [ixT_nat hk]⟩)]
    simp
    rw [ev_lc1n (t1 := t) PyData.int (besideM h (at0 s w) b) (fun r => .bool (decide (r ∈ others s w))) (by simp; rw [beside_ev (by omega) ok]; simp) (fun x hx => ⟨_, rfl, by simp⟩)]
    simp [holdsM]
theorem is_so_ev {n : Nat} {h : House} {m : Int} {s : List Int} {c : Clm} {t : Tw} (hn : 5 ≤ n) (ok : House.Ok h) (hs : StandOk h m s) (m1 : 1 ≤ m) (hm : m ≤ 4) (hc : Clm.Ok h m c) : callN T n 12 [eH h, .int m, eT s, eC c] t = .ok (.bool (holdsM h s c)) t := by
  obtain ⟨n, rfl⟩ : ∃ m, n = m + 1 := ⟨n - 1, by omega⟩
  rw [callN_code (np := 4) (ns := 4) (c := c_is_so) rfl rfl]
  simp [c_is_so]
  rw [look_house_ev (by omega) ok m1 hm]
  simp
  rw [is_stand_ev (by omega) hs]
  simp
  rw [is_claim_ev (by omega) hc]
  simp
  rw [holds_ev (by omega) ok hs hm hc]
  simp
end Wl

set_option maxHeartbeats 4000000
namespace Wv
open PySem L2
/-! ### draws -/
def Tg0 (t : Tw) : Prop := t.ns ≠ []
section
variable {F : Nat → List PyData → Tw → R PyData} {m : Bool} {env env' : Env} {t t' t1 : Tw}
theorem all2_sub {α : Type} {v : α → PyData} : ∀ {xs : List α} {yss : List (List PyData)}, All2 (fun x ys => ys = [] ∨ ys = [v x]) xs yss → ∃ sub : List α, sub.Sublist xs ∧ yss.flatten = sub.map v
  | _, _, .nil => ⟨[], .slnil, rfl⟩
  | _, _, .cons (a := a) h r => by
    obtain ⟨sub, s, e⟩ := all2_sub r
    rcases h with rfl | rfl
    · exact ⟨sub, s.cons _, by simpa using e⟩
    · exact ⟨_ :: sub, s.cons_cons _, by simp [e]⟩
theorem lc_at {α : Type} {f : PyData → Tw → R (List PyData)} {l : List PyData} {t : Tw} {w : R (List PyData)} (hw : lcLoop f l t = w) (e : α → PyData) (xs : List α) (hl : l = xs.map e) (P : α → List PyData → Prop) (G : Tw → Prop) (h : ∀ x ∈ xs, ∀ t, G t → ∃ ys t', f (e x) t = .ok ys t' ∧ P x ys ∧ G t') (g : G t) :
    ∃ zs t', w = .ok zs t' ∧ G t' ∧ ∃ yss : List (List PyData), zs = yss.flatten ∧ All2 P xs yss := by
  subst hl
  obtain ⟨zs, t', e1, g', q⟩ := lcLoop_draws (e := e) (P := P) h g
  exact ⟨zs, t', hw.symm.trans e1, g', q⟩
/-- a comprehension that draws whether an item stays -/
theorem lc1_drawn {α : Type} {e : CE} {own : List Nat} {tg : Tg} {it : CI} {c : CO} {z : R PyData} (hz : evalE F m (.lc1 e own tg it c) env t = z) (enc : α → PyData) (xs : List α) (v : α → PyData) (hi : evalI F it env t = .ok (xs.map enc) t1) (g : Tg0 t1)
    (hb : ∀ x ∈ xs, ∀ t, Tg0 t → ∃ env' b t', bindTg tg (enc x) (wipeE env own) = some env' ∧ evalC F c env' t = .ok b t' ∧ Tg0 t' ∧ evalE F false e env' t' = .ok (v x) t') : ∃ (sub : List α) (t' : Tw), z = .ok (.list (sub.map v)) t' ∧ sub.Sublist xs ∧ Tg0 t' := by
  rw [evalE, hi] at hz
  simp only [R.bind] at hz
  generalize hw : lcLoop _ _ _ = w at hz
  obtain ⟨zs, t2, rfl, g2, yss, rfl, q⟩ := lc_at hw enc xs rfl (fun x ys => ys = [] ∨ ys = [v x]) Tg0 (fun x hx t gt => by
    obtain ⟨env', b, t', h1, h2, h3, h4⟩ := hb x hx t gt
    rw [h1]
    simp only [h2]
    cases b with
    | false => exact ⟨[], t', rfl, .inl rfl, h3⟩
    | true => exact ⟨[v x], t', by rw [if_pos rfl, h4], .inr rfl, h3⟩) g
  obtain ⟨sub, hs, e2⟩ := all2_sub q
  refine ⟨sub, t2, ?_, hs, g2⟩
  rw [← hz, e2]
theorem all2_each {α β : Type} {P : β → Prop} {v : β → PyData} : ∀ {xs : List α} {yss : List (List PyData)}, All2 (fun _ ys => ∃ y, P y ∧ ys = [v y]) xs yss → ∃ ys : List β, ys.length = xs.length ∧ (∀ y ∈ ys, P y) ∧ yss.flatten = ys.map v
  | _, _, .nil => ⟨[], rfl, by simp, rfl⟩
  | _, _, .cons h r => by
    obtain ⟨ys, s, p, e⟩ := all2_each r
    obtain ⟨y, py, rfl⟩ := h
    refine ⟨y :: ys, by simp [s], fun z hz => ?_, by simp [e]⟩
    rcases List.mem_cons.mp hz with rfl | hz
    · exact py
    · exact p z hz
/-- a comprehension that draws its items -/
theorem lc1_items {α β : Type} {e : CE} {own : List Nat} {tg : Tg} {it : CI} {z : R PyData} (hz : evalE F m (.lc1 e own tg it .none) env t = z) (enc : α → PyData) (xs : List α) (v : β → PyData) (P : β → Prop) (hi : evalI F it env t = .ok (xs.map enc) t1) (g : Tg0 t1)
    (hb : ∀ x ∈ xs, ∀ t, Tg0 t → ∃ env' y t', bindTg tg (enc x) (wipeE env own) = some env' ∧ evalE F false e env' t = .ok (v y) t' ∧ P y ∧ Tg0 t') : ∃ (ys : List β) (t' : Tw), z = .ok (.list (ys.map v)) t' ∧ ys.length = xs.length ∧ (∀ y ∈ ys, P y) ∧ Tg0 t' := by
  rw [evalE, hi] at hz
  simp only [R.bind] at hz
  generalize hw : lcLoop _ _ _ = w at hz
  obtain ⟨zs, t2, rfl, g2, yss, rfl, q⟩ := lc_at hw enc xs rfl (fun _ ys => ∃ y, P y ∧ ys = [v y]) Tg0 (fun x hx t gt => by
    obtain ⟨env', y, t', h1, h2, h3, h4⟩ := hb x hx t gt
    rw [h1]
    simp only [evC_none, if_true]
    exact ⟨[v y], t', by rw [h2], ⟨y, h3, rfl⟩, h4⟩) g
  obtain ⟨ys, hs, hp, e2⟩ := all2_each q
  refine ⟨ys, t2, ?_, hs, hp, g2⟩
  rw [← hz, e2]
end
theorem sub_pairwise {α : Type} {R : α → α → Prop} {l s : List α} (h : s.Sublist l) (p : l.Pairwise R) : s.Pairwise R := p.sublist h
end Wv
namespace Wl
open PySem L2 Wv
theorem draw_ev {n : Nat} {c : Int} {t : Tw} (hn : 1 ≤ n) (g : Tg0 t) (h0 : 0 < c) (h1 : c < 1000000) : ∃ r t', callN T n 13 [tTown, .int c] t = .ok (.int r) t' ∧ 0 ≤ r ∧ r < c ∧ Tg0 t' := by
  obtain ⟨n, rfl⟩ : ∃ m, n = m + 1 := ⟨n - 1, by omega⟩
  obtain ⟨r, t', e, h1, h2, h3⟩ := draw_some g h0 h1
  refine ⟨r, t', ?_, h1, h2, h3⟩
  show (match drawT t c with
      | some (r, t') => R.ok (PyData.int r) t'
      | none => .bad) = _
  rw [e]
theorem pick_ev {α : Type} {n : Nat} {l : List α} {e : α → PyData} {t : Tw} (hn : 2 ≤ n) (g : Tg0 t) (h0 : l ≠ []) (h1 : l.length < 1000000) : ∃ x t', callN T n 14 [tTown, .list (l.map e)] t = .ok (e x) t' ∧ x ∈ l ∧ Tg0 t' := by
  obtain ⟨n, rfl⟩ : ∃ m, n = m + 1 := ⟨n - 1, by omega⟩
  have hl := List.length_pos_iff.mpr h0
  obtain ⟨r, t', e1, h1, h2, h3⟩ := draw_ev (n := n) (c := l.length) (t := t) (by omega) g (by omega) (by omega)
  obtain ⟨k, rfl⟩ : ∃ k : Nat, r = (k : Int) := ⟨r.toNat, by omega⟩
  have hk : k < l.length := by omega
  refine ⟨l[k], t', ?_, List.getElem_mem hk, h3⟩
  rw [callN_code (np := 2) (ns := 2) (c := c__law_pick) rfl rfl]
  simp [c__law_pick]
  rw [e1]
  simp
  rw [ixL_map (List.getElem?_eq_getElem hk)]
  simp
theorem is_ev {n : Nat} {a b : Bool} {t : Tw} (hn : 1 ≤ n) : callN T n 15 [.bool a, .bool b] t = .ok (.bool (decide (a = b))) t := by
  obtain ⟨n, rfl⟩ : ∃ m, n = m + 1 := ⟨n - 1, by omega⟩
  rw [callN_code (np := 2) (ns := 2) (c := c__law_is) rfl rfl]
  simp [c__law_is]
/-- the open ones of numbered doors -/
def opens (h : House) (b : Int) (d : List ((Int × Int) × Nat)) : List (Int × Int) := (d.filter fun p => !decide ((b, (p.2 : Int)) ∈ h.shut)).map (·.1)
theorem opens_snoc (h : House) (b : Int) (d : List ((Int × Int) × Nat)) (p : (Int × Int) × Nat) : opens h b (d ++ [p]) = if (b, (p.2 : Int)) ∈ h.shut then opens h b d else opens h b d ++ [p.1] := by
  unfold opens
  rw [List.filter_append]
  by_cases q : (b, (p.2 : Int)) ∈ h.shut <;> simp [q]
theorem opens_length (h : House) (b : Int) (d : List ((Int × Int) × Nat)) : (opens h b d).length ≤ d.length := by
  unfold opens
  rw [List.length_map]
  exact List.length_filter_le _ _
theorem range_zipIdx {α : Type} (l : List α) : List.range l.length = l.zipIdx.map (·.2) := by
  apply List.ext_getElem?
  intro i
  simp [List.getElem?_zipIdx]
  by_cases h : i < l.length <;> simp [h]
theorem side_ev {n : Nat} {h : House} {r b : Int} {t : Tw} (hn : 1 ≤ n) (ok : House.Ok h) : callN T n 17 [eH h, .int r, .int b] t = .ok (.list ((sideM h r b).map .int)) t := by
  obtain ⟨n, rfl⟩ : ∃ m, n = m + 1 := ⟨n - 1, by omega⟩
  rw [callN_code (np := 3) (ns := 7) (c := c__law_side) rfl rfl]
  have l4 := ok.dl
  simp [c__law_side, eH]
  rw [if_pos (small_of (by omega) (by omega)), rngs0, range_zipIdx, List.map_map]
  simp only []
  generalize hz : forLoop _ _ _ _ = z
  obtain ⟨env', t', rfl, x, y, w, rfl, rfl⟩ := for_at hz (fun p : (Int × Int) × Nat => .int (p.2 : Nat)) h.doors.zipIdx rfl (fun d env t' => ∃ x y w, env = [some (false, eH h), some (false, .int r), some (false, .int b), some (true, .list ((sideOf r (opens h b d)).map .int)), x, y, w] ∧ t' = t) ⟨none, none, none, rfl, rfl⟩ (fun d p rs env t' hp ⟨x, y, w, e, e2⟩ => by
    subst e e2
    refine ⟨_, _, ?_, some (false, .int (p.2 : Nat)), some (false, .int p.1.1), some (false, .int p.1.2), rfl, rfl⟩
    have l1 := sideOf_length r (opens h b d)
    have l2 := opens_length h b d
    have l3 : d.length ≤ h.doors.zipIdx.length := by rw [hp]; simp
    rw [List.length_zipIdx] at l3
    have hm : p ∈ h.doors.zipIdx := by rw [hp]; simp
    have hx : h.doors[p.2]? = some p.1 := by simpa using List.mem_zipIdx_iff_getElem?.mp hm
    simp [eH, ixT_map hx, eP, opens_snoc]
    by_cases hc : (b, (p.2 : Int)) ∈ h.shut
    · simp [hc]
    · by_cases hd : r = p.1.1 ∨ r = p.1.2
      · simp [hc, sideOf_snoc, hd, show (sideOf r (opens h b d)).length < lineN by unfold lineN; omega]
      · simp [hc, sideOf_snoc, hd])
  simp [sideM]
  rfl
theorem any_isort {α : Type} (le : α → α → Bool) (p : α → Bool) (l : List α) : (isort le l).any p = l.any p := by
  rw [Bool.eq_iff_iff]
  simp only [List.any_eq_true, isort_mem]
theorem filter_any (l : List Int) (p : Int → Bool) : (!decide (l.filter p = [])) = l.any p := by
  induction l with
  | nil => rfl
  | cons x l ih =>
    rw [List.filter_cons, List.any_cons, ← ih]
    cases p x <;> simp
theorem so_ev {n : Nat} {h : House} {m : Int} {s : List Int} {c : Clm} {t : Tw} (hn : 2 ≤ n) (ok : House.Ok h) (hs : StandOk h m s) (hm : m ≤ 4) (hc : Clm.Ok h m c) : callN T n 18 [eH h, eT s, eC c] t = .ok (.bool (holdsM h s c)) t := by
  obtain ⟨n, rfl⟩ : ∃ m, n = m + 1 := ⟨n - 1, by omega⟩
  rw [callN_code (np := 3) (ns := 10) (c := c__law_so) rfl rfl]
  obtain ⟨h1, h2, h3, h4, h5⟩ := hc
  have hl := hs.1
  cases c with
  | at_ w b r =>
    simp only [Clm.who, Clm.beat] at h1 h2 h3 h4 h5
    simp [c__law_so, eC, eT, ixT_int h1 (show w < s.length by omega), holdsM]
  | not_ w b r =>
    simp only [Clm.who, Clm.beat] at h1 h2 h3 h4 h5
    simp [c__law_so, eC, eT, ixT_int h1 (show w < s.length by omega), holdsM]
  | saw w b r =>
    simp only [Clm.who, Clm.beat] at h1 h2 h3 h4 h5
    simp [c__law_so, eC, eT, eH, ixT_int h1 (show w < s.length by omega), ixT_int h5.1 (show r < s.length by omega), holdsM, lineN]
    by_cases q : at0 s r = at0 s w <;> simp [q]
  | missed w b r =>
    simp only [Clm.who, Clm.beat] at h1 h2 h3 h4 h5
    simp [c__law_so, eC, eT, ixT_int h1 (show w < s.length by omega), ixT_int h5.1 (show r < s.length by omega), holdsM]
  | alone w b =>
    simp only [Clm.who, Clm.beat] at h1 h2 h3 h4 h5
    simp [c__law_so, eC, eT, ixT_int h1 (show w < s.length by omega)]
    rw [others_lc (s := s) (w := w) (by simp; rw [if_pos (small_of (by omega) (by omega)), rngs0]) (fun k hk => ⟨_, rfl, by simp, by simp [ixT_nat hk]⟩)]
    simp [holdsM]
  | heard w b =>
    simp only [Clm.who, Clm.beat] at h1 h2 h3 h4 h5
    simp [c__law_so, eC, eT, ixT_int h1 (show w < s.length by omega)]
    rw [others_lc (s := s) (w := w) (by simp; rw [if_pos (small_of (by omega) (by omega)), rngs0]) (fun k hk => ⟨_, rfl, by simp, by simp [ixT_nat hk]⟩)]
    simp
    rw [ev_lc1 (t1 := t) PyData.int (sideM h (at0 s w) b) (fun r => decide (r ∈ others s w)) PyData.int (by simp; rw [side_ev (by omega) ok]; simp) (fun x hx => ⟨_, rfl, by simp, by simp⟩)]
    simp
    rw [show PyData.list [] = PyData.list (([] : List Int).map PyData.int) from rfl, cmp_ne_LI]
    simp only [holdsM, besideM, any_isort, filter_any, R_of_some, Option.map_some, R.bind, SR.of, done_ret, then_ret]
end Wl

set_option maxHeartbeats 4000000
namespace Wl
open PySem L2 Wv
theorem lt_of_le_nodup : ∀ {l : List (Int × Int)}, l.Pairwise (fun a b => leP a b = true) → l.Nodup → l.Pairwise ltP
  | [], _, _ => .nil
  | x :: l, h, d => by
    obtain ⟨h1, h2⟩ := List.pairwise_cons.mp h
    obtain ⟨d1, d2⟩ := List.nodup_cons.mp d
    refine .cons (fun y hy => ?_) (lt_of_le_nodup h2 d2)
    have q := h1 y hy
    have n : x ≠ y := fun e => d1 (e ▸ hy)
    obtain ⟨x1, x2⟩ := x
    obtain ⟨y1, y2⟩ := y
    simp [leP] at q
    simp [ltP]
    have n' : ¬ (x1 = y1 ∧ x2 = y2) := fun e => n (by rw [e.1, e.2])
    omega
theorem ltP_nodup {l : List (Int × Int)} (h : l.Pairwise ltP) : l.Nodup := h.imp fun {a b} q e => by
  subst e
  simp [ltP] at q
theorem range_lt (n : Nat) : (List.range n).Pairwise (· < ·) := List.pairwise_lt_range
theorem sub_len {α : Type} {s l : List α} (h : s.Sublist l) : s.length ≤ l.length := h.length_le
/-- rows of pairs (beat, number), drawn beat by beat -/
theorem rows_lt {n : Nat} {b : Nat} {sub : List Nat} {acc : List (Int × Int)} (hs : sub.Sublist (List.range n)) (ha : acc.Pairwise ltP) (hb : ∀ p ∈ acc, p.1 < (b : Int)) : (acc ++ sub.map fun k : Nat => ((b : Int), (k : Int))).Pairwise ltP := by
  rw [List.pairwise_append]
  refine ⟨ha, ?_, fun p hp q hq => ?_⟩
  · rw [List.pairwise_map]
    exact ((range_lt n).sublist hs).imp fun {x y} q => .inr ⟨rfl, by simpa using q⟩
  · obtain ⟨k, _, rfl⟩ := List.mem_map.mp hq
    exact .inl (hb p hp)
theorem rows_walk {n : Nat} {N : Nat} {b : CB} {l : Int} {env0 : Wv.Env} {t : Tw} {z : SR} {env' : List (Int × Int) → Option (Bool × PyData) → Wv.Env} (hz : forLoop (turnR (callN T n) (.name 5) b) (rngs 0 1 (l + 1).toNat) env0 t = z) (l0 : 0 ≤ l) (l12 : l ≤ 12) (hN : N ≤ 100) (g : Tg0 t) (h0 : env0 = env' [] none)
    (hb : ∀ (acc : List (Int × Int)) (k : Nat) (x : Option (Bool × PyData)) (t : Tw), Tg0 t → acc.length ≤ 100 * k → k ≤ 12 → ∃ (sub : List Nat) (t' : Tw), turnR (callN T n) (.name 5) b (.int (k : Nat)) (env' acc x) t = .next (env' (acc ++ sub.map fun j : Nat => ((k : Int), (j : Int))) (some (false, .int (k : Nat)))) t' ∧ sub.Sublist (List.range N) ∧ Tg0 t') :
    ∃ (acc : List (Int × Int)) (x : Option (Bool × PyData)) (t' : Tw), z = .next (env' acc x) t' ∧ Tg0 t' ∧ acc.Pairwise ltP ∧ (∀ p ∈ acc, 0 ≤ p.1 ∧ p.1 ≤ l ∧ 0 ≤ p.2 ∧ p.2 < N) ∧ acc.length ≤ 1300 := by
  rw [rngs0] at hz
  obtain ⟨env2, t2, rfl, acc, x, rfl, g2, p1, p2, p3⟩ := for_at hz (fun k : Nat => .int (k : Nat)) (List.range (l + 1).toNat) rfl
    (fun d env t => ∃ acc x, env = env' acc x ∧ Tg0 t ∧ acc.Pairwise ltP ∧ (∀ p ∈ acc, 0 ≤ p.1 ∧ p.1 < d.length ∧ 0 ≤ p.2 ∧ p.2 < N) ∧ acc.length ≤ 100 * d.length) ⟨[], none, h0, g, .nil, by simp, by simp⟩ (fun d k rs env t hd ⟨acc, x, e, g, p1, p2, p3⟩ => by
      have hk : k = d.length := by
        have q := congrArg (fun l => l[d.length]?) hd
        have hl := congrArg List.length hd
        simp at q hl
        rw [List.getElem?_range (by omega)] at q
        simpa using q.symm
      subst hk
      subst e
      have hl := congrArg List.length hd
      simp at hl
      obtain ⟨sub, t', e1, hs, g'⟩ := hb acc d.length x t g p3 (by omega)
      refine ⟨_, t', e1, _, _, rfl, g', rows_lt hs p1 (fun p hp => (p2 p hp).2.1), fun p hp => ?_, ?_⟩
      · rcases List.mem_append.mp hp with q | q
        · have := p2 p q
          simp
          omega
        · obtain ⟨j, hj, rfl⟩ := List.mem_map.mp q
          have := List.mem_range.mp (hs.subset hj)
          simp
          omega
      · have := hs.length_le
        simp at this
        simp
        omega)
  refine ⟨acc, x, t2, rfl, g2, p1, fun p hp => ?_, ?_⟩
  · have := p2 p hp
    simp at this
    omega
  · simp at p3
    omega
theorem house_rest {n : Nat} {r l : Int} {t : Tw} {D : List (Int × Int)} (hn : 1 ≤ n) (g : Tg0 t) (r1 : 1 ≤ r) (r6 : r ≤ 6) (l0 : 0 ≤ l) (l12 : l ≤ 12) (hD : D.Nodup) (hp : ∀ p ∈ D, 0 ≤ p.1 ∧ p.1 < p.2 ∧ p.2 < r) (hl : D.length ≤ 7) :
    ∃ h t', (execB (callN T n) (dropB 2 c__law_house) [some (false, tTown), some (false, .int r), some (false, .int l), some (false, .list (D.map eP)), none, none, none, none] t).done = .ok (eH h) t' ∧ House.Ok h ∧ h.rooms = r ∧ h.last = l ∧ Tg0 t' := by
  have hlen : (isort leP D).length = D.length := isort_length _ _
  simp [c__law_house, dropB]
  rw [if_pos (small_of (by omega) (by omega))]
  simp only []
  generalize hz : forLoop _ _ _ _ = z
  obtain ⟨S, x, t1, rfl, g1, s1, s2, s3⟩ := rows_walk (N := D.length) (env' := fun acc x => [some (false, tTown), some (false, .int r), some (false, .int l), some (false, .list ((isort leP D).map eP)), some (false, .list (acc.map eP)), x, none, none]) hz l0 l12 (by omega) g rfl (fun acc k x t g ha hk => by
    simp
    generalize hz : evalE _ _ (.lc1 _ _ _ _ _) _ _ = z
    obtain ⟨sub, t1, rfl, hs, g1⟩ := lc1_drawn (t1 := t) hz (fun k : Nat => .int (k : Nat)) (List.range D.length) (fun j : Nat => eP ((k : Int), (j : Int))) (by
      simp [hlen]
      rw [if_pos (small_of (by omega) (by omega)), rngs0]) g (fun k hk t g => by
      obtain ⟨d, t', e, h1, h2, g'⟩ := draw_ev (n := n) (c := 4) (t := t) (by omega) g (by omega) (by omega)
      exact ⟨_, _, t', rfl, by simp; rw [e]; simp; rfl, g', by simp [eP]⟩)
    have hl1 := hs.length_le
    simp at hl1
    refine ⟨sub, t1, ?_, hs, g1⟩
    simp only [R.bind]
    rw [bin_addL (by simp [lineN]; omega)]
    simp)
  simp
  rw [if_pos (small_of (by omega) (by omega))]
  simp only []
  generalize hz : forLoop _ _ _ _ = z
  obtain ⟨K, x, t2, rfl, g2, k1, k2, k3⟩ := rows_walk (N := r.toNat) (env' := fun acc y => [some (false, tTown), some (false, .int r), some (false, .int l), some (false, .list ((isort leP D).map eP)), some (false, .list (S.map eP)), (match y with | none => x | some y => some y), some (false, .list (acc.map eP)), none]) hz l0 l12 (by omega) g1 rfl (fun acc k x t g ha hk => by
    simp
    generalize hz : evalE _ _ (.lc1 _ _ _ _ _) _ _ = z
    obtain ⟨sub, t1, rfl, hs, g1⟩ := lc1_drawn (t1 := t) hz (fun k : Nat => .int (k : Nat)) (List.range r.toNat) (fun j : Nat => eP ((k : Int), (j : Int))) (by
      simp
      rw [if_pos (small_of (by omega) (by omega)), rngs0]) g (fun k hk t g => by
      obtain ⟨d, t', e, h1, h2, g'⟩ := draw_ev (n := n) (c := 6) (t := t) (by omega) g (by omega) (by omega)
      exact ⟨_, _, t', rfl, by simp; rw [e]; simp; rfl, g', by simp [eP]⟩)
    have hl1 := hs.length_le
    simp at hl1
    refine ⟨sub, t1, ?_, hs, g1⟩
    simp only [R.bind]
    rw [bin_addL (by simp [lineN]; omega)]
    simp)
  refine ⟨⟨r, isort leP D, l, S, K⟩, t2, ?_, ⟨r1, r6, fun p q => hp p ((isort_mem _ _ _).mp q), lt_of_le_nodup (lin_P.sorted D) ((isort_perm _ _).nodup_iff.mpr hD), l0, l12, fun p q => ?_, s1, fun p q => ?_, k1, ?_, ?_, ?_⟩, rfl, rfl, g2⟩
  · simp [eH]
  · have := s2 p q
    simp [hlen]
    omega
  · have := k2 p q
    simp
    omega
  · simp [hlen]; omega
  · simp; omega
  · simp; omega
theorem law_house_ev {n : Nat} {r l : Int} {t : Tw} (hn : 2 ≤ n) (g : Tg0 t) (r1 : 1 ≤ r) (r6 : r ≤ 6) (l0 : 0 ≤ l) (l12 : l ≤ 12) : ∃ h t', callN T n 16 [tTown, .int r, .int l] t = .ok (eH h) t' ∧ House.Ok h ∧ h.rooms = r ∧ h.last = l ∧ Tg0 t' := by
  obtain ⟨n, rfl⟩ : ∃ m, n = m + 1 := ⟨n - 1, by omega⟩
  rw [callN_code (np := 3) (ns := 8) (c := c__law_house) rfl rfl]
  simp [c__law_house]
  -- doors
  generalize hz : evalE _ _ (.lc1 _ _ _ _ _) _ _ = z
  obtain ⟨sub, t1, rfl, hs, g1⟩ := lc1_drawn (t1 := t) hz (fun k : Nat => .int (k : Nat)) (List.range (r - 1).toNat) (fun k : Nat => eP ((k : Int), (k : Int) + 1)) (by
    simp
    rw [if_pos (small_of (by omega) (by omega)), rngs0]) g (fun k hk t g => by
    obtain ⟨d, t', e, h1, h2, g'⟩ := draw_ev (n := n) (c := 8) (t := t) (by omega) g (by omega) (by omega)
    exact ⟨_, _, t', rfl, by simp; rw [e]; simp; rfl, g', by simp [eP]⟩)
  simp
  have hl := hs.length_le
  simp at hl
  rw [show sub.map (fun k : Nat => eP ((k : Int), (k : Int) + 1)) = (sub.map fun k : Nat => ((k : Int), (k : Int) + 1)).map eP by simp]
  have hd : (sub.map fun k : Nat => ((k : Int), (k : Int) + 1)).Nodup := by
    refine ltP_nodup ?_
    rw [List.pairwise_map]
    exact ((range_lt _).sublist hs).imp fun {x y} q => Or.inl (by simpa using q)
  have hb : ∀ p ∈ (sub.map fun k : Nat => ((k : Int), (k : Int) + 1)), 0 ≤ p.1 ∧ p.1 < p.2 ∧ p.2 < r := fun p hp => by
    obtain ⟨k, hk, rfl⟩ := List.mem_map.mp hp
    have := List.mem_range.mp (hs.subset hk)
    simp
    omega
  by_cases h2 : 2 < r
  · simp only [h2, if_true]
    obtain ⟨d, t2, e, h1, h2', g2⟩ := draw_ev (n := n) (c := 3) (t := t1) (by omega) g1 (by omega) (by omega)
    rw [e]
    simp only [R.bind, cmp_eq_int, Option.map_some, R_of_some, iteS_b]
    by_cases h3 : d = 0
    · simp only [h3, decide_true, if_true]
      rw [bin_addL (by simp [lineN]; omega)]
      simp only [R_of_some, List.cons_append, List.nil_append, ex_nil, then_next]
      refine house_rest (D := (0, r - 1) :: sub.map fun k : Nat => ((k : Int), (k : Int) + 1)) (by omega) g2 r1 r6 l0 l12 ?_ ?_ ?_
      · refine List.nodup_cons.mpr ⟨fun q => ?_, hd⟩
        obtain ⟨k, hk, q⟩ := List.mem_map.mp q
        simp at q
        omega
      · intro p hp
        rcases List.mem_cons.mp hp with rfl | hp
        · simp; omega
        · exact hb p hp
      · simp; omega
    · simp only [h3, decide_false]
      exact house_rest (by omega) g2 r1 r6 l0 l12 hd hb (by simp; omega)
  · simp only [h2, if_false, iteS_b]
    exact house_rest (by omega) g1 r1 r6 l0 l12 hd hb (by simp; omega)
end Wl

set_option maxHeartbeats 4000000
namespace Wl
open PySem L2 Wv
def words : List Str := ["at", "not", "saw", "missed", "alone", "heard"]
theorem claim_ev {n : Nat} {h : House} {m : Int} {t : Tw} (hn : 3 ≤ n) (g : Tg0 t) (ok : House.Ok h) (m1 : 1 ≤ m) (m4 : m ≤ 4) : ∃ c t', callN T n 19 [tTown, eH h, .int m] t = .ok (eC c) t' ∧ Clm.Ok h m c ∧ Tg0 t' := by
  obtain ⟨n, rfl⟩ : ∃ m, n = m + 1 := ⟨n - 1, by omega⟩
  rw [callN_code (np := 3) (ns := 7) (c := c__law_claim) rfl rfl]
  have l0 := ok.l0
  have l12 := ok.l12
  have r1 := ok.r1
  have r6 := ok.r6
  simp [c__law_claim, eH]
  obtain ⟨w, t1, e1, hw, g1⟩ := pick_ev (n := n) (l := words) (e := PyData.str) (t := t) (by omega) g (by decide) (by decide)
  rw [show PyData.list (words.map PyData.str) = .list [.str "at", .str "not", .str "saw", .str "missed", .str "alone", .str "heard"] from rfl] at e1
  rw [e1]
  simp only [R.bind, SR.of, then_next, List.set]
  obtain ⟨who, t2, e2, w0, w1, g2⟩ := draw_ev (n := n) (c := m) (t := t1) (by omega) g1 (by omega) (by omega)
  simp
  rw [e2]
  simp
  obtain ⟨beat, t3, e3, b0, b1, g3⟩ := draw_ev (n := n) (c := h.last + 1) (t := t2) (by omega) g2 (by omega) (by omega)
  rw [e3]
  simp
  have hat : ∃ c t', Clm.Ok h m c ∧ Tg0 t' := ⟨.alone who beat, t3, ⟨w0, w1, b0, by simp [Clm.beat]; omega, trivial⟩, g3⟩
  have hroom := draw_ev (n := n) (c := h.rooms) (t := t3) (by omega) g3 (by omega) (by omega)
  obtain ⟨rm, t4, e4, rm0, rm1, g4⟩ := hroom
  have hpick : m ≠ 1 → ∃ o t', callN T n 14 [tTown, .list (((List.range m.toNat).filter fun k : Nat => !decide ((k : Int) = who)).map fun k : Nat => PyData.int (k : Nat))] t3 = .ok (.int o) t' ∧ 0 ≤ o ∧ o < m ∧ o ≠ who ∧ Tg0 t' := fun m2 => by
    obtain ⟨k, t', e, hk, g'⟩ := pick_ev (n := n) (l := (List.range m.toNat).filter fun k : Nat => !decide ((k : Int) = who)) (e := fun k : Nat => PyData.int (k : Nat)) (t := t3) (by omega) g3 (fun q => by
      have h0 : ∀ k : Nat, k < m.toNat → (k : Int) ≠ who → False := fun k hk hw => by
        have : k ∈ (List.range m.toNat).filter fun k : Nat => !decide ((k : Int) = who) := List.mem_filter.mpr ⟨List.mem_range.mpr hk, by simp [hw]⟩
        rw [q] at this
        cases this
      by_cases q0 : who = 0
      · exact h0 1 (by omega) (by omega)
      · exact h0 0 (by omega) (by omega)) (Nat.lt_of_le_of_lt (List.length_filter_le _ _) (by simp; omega))
    obtain ⟨h1, h2⟩ := List.mem_filter.mp hk
    have h1 := List.mem_range.mp h1
    simp at h2
    exact ⟨k, t', e, by omega, by omega, h2, g'⟩
  have hlc : ∀ env : Wv.Env, evalI (callN T n) (.rng1 (.var 2)) env t3 = .ok ((List.range m.toNat).map fun k : Nat => PyData.int (k : Nat)) t3 → True := fun _ _ => trivial
  simp only [words, List.mem_cons, List.not_mem_nil, or_false] at hw
  rcases hw with rfl | rfl | rfl | rfl | rfl | rfl
  · simp [e4]
    exact ⟨.at_ who beat rm, t4, ⟨rfl, rfl⟩, ⟨w0, w1, b0, by simp [Clm.beat]; omega, rm0, rm1⟩, g4⟩
  · simp [e4]
    exact ⟨.not_ who beat rm, t4, ⟨rfl, rfl⟩, ⟨w0, w1, b0, by simp [Clm.beat]; omega, rm0, rm1⟩, g4⟩
  · by_cases m2 : m = 1
    · simp [m2]
      exact ⟨.alone who beat, t3, ⟨rfl, rfl⟩, ⟨w0, by simp [Clm.who]; omega, b0, by simp [Clm.beat]; omega, trivial⟩, g3⟩
    · obtain ⟨o, t5, e5, o0, o1, o2, g5⟩ := hpick m2
      simp [m2]
      rw [ev_lc1 (t1 := t3) (fun k : Nat => .int (k : Nat)) (List.range m.toNat) (fun k : Nat => !decide ((k : Int) = who)) (fun k : Nat => .int (k : Nat)) (by simp; rw [if_pos (small_of (by omega) (by omega)), rngs0]) (fun k hk => ⟨_, rfl, by simp, by simp⟩)]
      simp only [R.bind]
      rw [e5]
      exact ⟨.saw who beat o, t5, by simp [eC], ⟨w0, w1, b0, by simp [Clm.beat]; omega, o0, o1, o2⟩, g5⟩
  · by_cases m2 : m = 1
    · simp [m2]
      exact ⟨.alone who beat, t3, ⟨rfl, rfl⟩, ⟨w0, by simp [Clm.who]; omega, b0, by simp [Clm.beat]; omega, trivial⟩, g3⟩
    · obtain ⟨o, t5, e5, o0, o1, o2, g5⟩ := hpick m2
      simp [m2]
      rw [ev_lc1 (t1 := t3) (fun k : Nat => .int (k : Nat)) (List.range m.toNat) (fun k : Nat => !decide ((k : Int) = who)) (fun k : Nat => .int (k : Nat)) (by simp; rw [if_pos (small_of (by omega) (by omega)), rngs0]) (fun k hk => ⟨_, rfl, by simp, by simp⟩)]
      simp only [R.bind]
      rw [e5]
      exact ⟨.missed who beat o, t5, by simp [eC], ⟨w0, w1, b0, by simp [Clm.beat]; omega, o0, o1, o2⟩, g5⟩
  · by_cases m2 : m = 1
    · simp [m2]
      exact ⟨.alone who beat, t3, ⟨rfl, rfl⟩, ⟨w0, by simp [Clm.who]; omega, b0, by simp [Clm.beat]; omega, trivial⟩, g3⟩
    · simp [m2]
      exact ⟨.alone who beat, t3, ⟨rfl, rfl⟩, ⟨w0, w1, b0, by simp [Clm.beat]; omega, trivial⟩, g3⟩
  · by_cases m2 : m = 1
    · simp [m2]
      exact ⟨.alone who beat, t3, ⟨rfl, rfl⟩, ⟨w0, by simp [Clm.who]; omega, b0, by simp [Clm.beat]; omega, trivial⟩, g3⟩
    · simp [m2]
      exact ⟨.heard who beat, t3, ⟨rfl, rfl⟩, ⟨w0, w1, b0, by simp [Clm.beat]; omega, trivial⟩, g3⟩
end Wl

set_option maxHeartbeats 1000000
namespace Wv
open PySem L2
/-! ### rows of whole numbers, in order -/
def ltL : List Int → List Int → Bool
  | _, [] => false
  | [], _ :: _ => true
  | a :: as, b :: bs => decide (a < b) || (decide (a = b) && ltL as bs)
theorem ltL_lt : ∀ a b : List Int, decide (a < b) = ltL a b
  | [], [] => by simp [ltL]
  | _ :: _, [] => by simp [ltL]
  | [], _ :: _ => by simp [ltL]
  | a :: as, b :: bs => by
    have ih := ltL_lt as bs
    rw [ltL, ← ih]
    simp only [List.cons_lt_cons_iff]
    by_cases h1 : a < b <;> by_cases h2 : a = b <;> by_cases h3 : as < bs <;> simp [h1, h2, h3]
def leT (a b : List Int) : Bool := !ltL b a
theorem ltL_irrefl : ∀ a : List Int, ltL a a = false
  | [] => rfl
  | a :: as => by simp [ltL, ltL_irrefl as]
theorem ltL_trans : ∀ {a b c : List Int}, ltL a b = true → ltL b c = true → ltL a c = true
  | _, [], _, h, _ => by simp [ltL] at h
  | _, _ :: _, [], _, h => by simp [ltL] at h
  | [], _ :: _, _ :: _, _, _ => rfl
  | a :: as, b :: bs, c :: cs, h1, h2 => by
    simp only [ltL, Bool.or_eq_true, Bool.and_eq_true, decide_eq_true_eq] at h1 h2 ⊢
    rcases h1 with h1 | ⟨h1, h1'⟩
    · rcases h2 with h2 | ⟨h2, _⟩
      · left; omega
      · left; omega
    · rcases h2 with h2 | ⟨h2, h2'⟩
      · left; omega
      · right; exact ⟨by omega, ltL_trans h1' h2'⟩
theorem ltL_total : ∀ a b : List Int, ltL a b = true ∨ a = b ∨ ltL b a = true
  | [], [] => .inr (.inl rfl)
  | _ :: _, [] => .inr (.inr rfl)
  | [], _ :: _ => .inl rfl
  | a :: as, b :: bs => by
    simp only [ltL, Bool.or_eq_true, Bool.and_eq_true, decide_eq_true_eq, List.cons.injEq]
    rcases Int.lt_trichotomy a b with h | h | h
    · exact .inl (.inl h)
    · rcases ltL_total as bs with q | q | q
      · exact .inl (.inr ⟨h, q⟩)
      · exact .inr (.inl ⟨h, q⟩)
      · exact .inr (.inr (.inr ⟨h.symm, q⟩))
    · exact .inr (.inr (.inl h))
theorem lin_T : Lin leT := ⟨fun a b => by
    unfold leT
    rcases ltL_total a b with h | h | h
    · left
      cases q : ltL b a with
      | false => rfl
      | true => exact absurd (ltL_trans h q) (by rw [ltL_irrefl]; simp)
    · subst h; left; simp [ltL_irrefl]
    · right
      cases q : ltL a b with
      | false => rfl
      | true => exact absurd (ltL_trans h q) (by rw [ltL_irrefl]; simp), fun a b c h1 h2 => by
    unfold leT at *
    cases q : ltL c a with
    | false => rfl
    | true =>
      rcases ltL_total a b with h | h | h
      · simp [ltL_trans q h] at h2
      · subst h; simp [q] at h2
      · simp [h] at h1, fun a b h1 h2 => by
    unfold leT at *
    rcases ltL_total a b with h | h | h
    · simp [h] at h2
    · exact h
    · simp [h] at h1⟩
theorem le_of_lt {a b : List Int} (h : ltL a b = true) : leT a b = true := by
  unfold leT
  cases q : ltL b a with
  | false => rfl
  | true => exact absurd (ltL_trans h q) (by rw [ltL_irrefl]; simp)
theorem sorted_of {l : List (List Int)} (h : l.Pairwise (fun a b => ltL a b = true)) : l.Pairwise (fun a b => leT a b = true) := h.imp le_of_lt
theorem nodup_of {l : List (List Int)} (h : l.Pairwise (fun a b => ltL a b = true)) : l.Nodup := h.imp fun {a b} q e => by
  subst e
  rw [ltL_irrefl] at q
  cases q
/-- rising rows with the same members are the same -/
theorem rising_eq {l m : List (List Int)} (h1 : l.Pairwise (fun a b => ltL a b = true)) (h2 : m.Pairwise (fun a b => ltL a b = true)) (h : ∀ a, a ∈ l ↔ a ∈ m) : l = m :=
  lin_T.unique (sorted_of h1) (sorted_of h2) ((List.perm_ext_iff_of_nodup (nodup_of h1) (nodup_of h2)).mpr h)
theorem lt_T (a b : List Int) : PySem.W.dataLt (eT a) (eT b) = ltL a b := by
  rw [← ltL_lt, ← PySem.W.dataLt_ints]
  rfl
theorem leD_T (a b : List Int) : leD (eT a) (eT b) = leT a b := by
  show (!PySem.W.dataLt (eT b) (eT a)) = _
  rw [lt_T]
  rfl
theorem alikeAll_ints : ∀ a b : List Int, PySem.W.alikeAll (a.map .int) (b.map .int) = true
  | [], _ => by simp [PySem.W.alikeAll]
  | _ :: _, [] => by simp [PySem.W.alikeAll]
  | a :: as, b :: bs => by simp [PySem.W.alikeAll, PySem.W.alike, alikeAll_ints as bs]
theorem alike_T (a b : List Int) : PySem.W.alike (eT a) (eT b) = true := by
  simp only [eT, PySem.W.alike]
  exact alikeAll_ints a b
theorem sortOk_T {l : List (List Int)} (h : ∀ a ∈ l, a ≠ []) : sortOk (l.map eT) = true := by
  unfold sortOk
  have h1 : allAlike (l.map eT) = true := allAlike_of fun a ha b hb => by
    obtain ⟨i, _, rfl⟩ := List.mem_map.mp ha
    obtain ⟨j, _, rfl⟩ := List.mem_map.mp hb
    exact alike_T i j
  rw [h1]
  simp only [Bool.true_and, Bool.and_eq_true, Bool.or_eq_true, List.all_eq_true, List.mem_map]
  refine ⟨?_, .inl ?_⟩
  · rintro x ⟨i, _, rfl⟩
    rw [good_T.plain]
    simp only [Bool.true_and, decide_eq_true_eq]
    exact ⟨trivial, Nat.le_trans (good_T.depth i) (by decide)⟩
  · rintro x ⟨i, hi, rfl⟩
    cases i with
    | nil => exact absurd rfl (h _ hi)
    | cons a as => rfl
theorem bi_sort_T {l : List (List Int)} (h : ∀ a ∈ l, a ≠ []) : biD .sorted [.list (l.map eT)] = some (.list ((isort leT l).map eT)) := by
  show okIf (sortOk _ || oneB _) _ = _
  rw [sortOk_T h, Bool.true_or, sortD_map leD_T]
  rfl

/-! ### all rows with items out of given lists -/
def prodL (ls : List (List Int)) : List (List Int) := ls.foldl (fun found rs => found.flatMap fun s => rs.map fun r => s ++ [r]) [[]]
theorem prodL_snoc (ls : List (List Int)) (rs : List Int) : prodL (ls ++ [rs]) = (prodL ls).flatMap fun s => rs.map fun r => s ++ [r] := by
  unfold prodL
  rw [List.foldl_append]
  rfl
theorem snoc_ind {α : Type} {P : List α → Prop} (h0 : P []) (h1 : ∀ l a, P l → P (l ++ [a])) : ∀ l, P l := fun l => by
  rw [← List.reverse_reverse l]
  induction l.reverse with
  | nil => exact h0
  | cons a l ih =>
    rw [List.reverse_cons]
    exact h1 _ _ ih
theorem all2_len {α β : Type} {P : α → β → Prop} : ∀ {as : List α} {bs : List β}, All2 P as bs → as.length = bs.length
  | _, _, .nil => rfl
  | _, _, .cons _ t => congrArg Nat.succ (all2_len t)
theorem all2_snoc {α β : Type} {P : α → β → Prop} : ∀ {as : List α} {bs : List β} {a : α} {b : β}, All2 P as bs → P a b → All2 P (as ++ [a]) (bs ++ [b])
  | _, _, _, _, .nil, h => .cons h .nil
  | _, _, _, _, .cons q t, h => .cons q (all2_snoc t h)
theorem all2_unsnoc {α β : Type} {P : α → β → Prop} : ∀ {as : List α} {bs : List β} {b : β}, All2 P as (bs ++ [b]) → ∃ as' a, as = as' ++ [a] ∧ All2 P as' bs ∧ P a b
  | _, [], b, .cons h t => by
    cases t
    exact ⟨[], _, rfl, .nil, h⟩
  | _, b0 :: bs, b, .cons h t => by
    obtain ⟨as', a, rfl, q1, q2⟩ := all2_unsnoc t
    exact ⟨_ :: as', a, rfl, .cons h q1, q2⟩
theorem prodL_mem : ∀ (ls : List (List Int)) (s : List Int), s ∈ prodL ls ↔ All2 (· ∈ ·) s ls := by
  refine snoc_ind (fun s => ?_) (fun ls rs ih s => ?_)
  · constructor
    · intro h
      simp [prodL] at h
      subst h
      exact .nil
    · intro h
      cases h
      simp [prodL]
  · rw [prodL_snoc]
    simp only [List.mem_flatMap, List.mem_map]
    constructor
    · rintro ⟨s0, h0, r, hr, rfl⟩
      exact all2_snoc ((ih s0).mp h0) hr
    · intro h
      obtain ⟨as', a, rfl, q1, q2⟩ := all2_unsnoc h
      exact ⟨as', (ih as').mpr q1, a, q2, rfl⟩
theorem ltL_app : ∀ {a b : List Int} {x y : Int}, a.length = b.length → ltL a b = true → ltL (a ++ [x]) (b ++ [y]) = true
  | _, [], _, _, _, h => by simp [ltL] at h
  | [], _ :: _, _, _, h, _ => by cases h
  | a :: as, b :: bs, x, y, l, h => by
    simp only [ltL, List.cons_append, Bool.or_eq_true, Bool.and_eq_true, decide_eq_true_eq] at h ⊢
    rcases h with h | ⟨h1, h2⟩
    · exact .inl h
    · exact .inr ⟨h1, ltL_app (by simpa using l) h2⟩
theorem ltL_last : ∀ (a : List Int) {x y : Int}, x < y → ltL (a ++ [x]) (a ++ [y]) = true
  | [], x, y, h => by simp [ltL, h]
  | a :: as, x, y, h => by simp [ltL, ltL_last as h]
theorem prodL_rising : ∀ (ls : List (List Int)), (∀ l ∈ ls, l.Pairwise (· < ·)) → (prodL ls).Pairwise (fun a b => ltL a b = true) := by
  refine snoc_ind (fun _ => ?_) (fun ls rs ih h => ?_)
  · simp [prodL]
  · rw [prodL_snoc]
    have i1 := ih fun l hl => h l (by simp [hl])
    have hr := h rs (by simp)
    rw [List.pairwise_flatMap]
    refine ⟨fun s _ => ?_, ?_⟩
    · rw [List.pairwise_map]
      exact hr.imp fun {x y} q => ltL_last s q
    · refine i1.imp_of_mem fun {a b} ha hb q x hx y hy => ?_
      obtain ⟨r, _, rfl⟩ := List.mem_map.mp hx
      obtain ⟨r', _, rfl⟩ := List.mem_map.mp hy
      have l1 := all2_len ((prodL_mem ls a).mp ha)
      have l2 := all2_len ((prodL_mem ls b).mp hb)
      exact ltL_app (l1.trans l2.symm) q
theorem prodL_len_le {k : Nat} : ∀ (ls : List (List Int)), (∀ l ∈ ls, l.length ≤ k) → (prodL ls).length ≤ k ^ ls.length := by
  refine snoc_ind (fun _ => ?_) (fun ls rs ih h => ?_)
  · simp [prodL]
  · rw [prodL_snoc]
    have i1 := ih fun l hl => h l (by simp [hl])
    have hr := h rs (by simp)
    rw [List.length_flatMap]
    simp only [List.length_map, List.map_const', List.sum_replicate_nat, List.length_append, List.length_singleton, Nat.pow_succ]
    exact Nat.mul_le_mul i1 hr
end Wv

set_option maxHeartbeats 1000000
namespace Wl
open PySem L2 Wv
/-! ### stands, steps -/
def roomsL (h : House) : List Int := (List.range h.rooms.toNat).map fun k : Nat => (k : Int)
def standsM (h : House) (m : Int) : List (List Int) := prodL (List.replicate m.toNat (roomsL h))
theorem roomsL_rising (h : House) : (roomsL h).Pairwise (· < ·) := by
  unfold roomsL
  rw [List.pairwise_map]
  exact (range_lt _).imp fun {x y} q => by omega
theorem roomsL_mem (h : House) (r : Int) : r ∈ roomsL h ↔ 0 ≤ r ∧ r < h.rooms := by
  unfold roomsL
  simp only [List.mem_map, List.mem_range]
  constructor
  · rintro ⟨k, h1, rfl⟩; omega
  · intro ⟨h1, h2⟩
    exact ⟨r.toNat, by omega, by omega⟩
theorem all2_repl {α β : Type} {P : α → β → Prop} {b : β} : ∀ {n : Nat} {as : List α}, All2 P as (List.replicate n b) ↔ as.length = n ∧ ∀ a ∈ as, P a b
  | 0, as => by
    constructor
    · intro h; cases h; simp
    · rintro ⟨h, _⟩
      cases as with
      | nil => exact .nil
      | cons => cases h
  | n + 1, as => by
    rw [List.replicate_succ]
    constructor
    · intro h
      cases h with
      | cons h t =>
        obtain ⟨l, q⟩ := all2_repl.mp t
        exact ⟨by simp [l], fun a ha => by rcases List.mem_cons.mp ha with rfl | ha; exact h; exact q a ha⟩
    · rintro ⟨h, q⟩
      cases as with
      | nil => cases h
      | cons a as => exact .cons (q a (by simp)) (all2_repl.mpr ⟨by simpa using h, fun b hb => q b (by simp [hb])⟩)
theorem standsM_mem (h : House) (m : Int) (hm : 0 ≤ m) (s : List Int) : s ∈ standsM h m ↔ StandOk h m s := by
  unfold standsM StandOk
  rw [prodL_mem, all2_repl]
  constructor
  · rintro ⟨h1, h2⟩
    exact ⟨by omega, fun r hr => (roomsL_mem h r).mp (h2 r hr)⟩
  · rintro ⟨h1, h2⟩
    exact ⟨by omega, fun r hr => (roomsL_mem h r).mpr (h2 r hr)⟩
theorem standsM_rising (h : House) (m : Int) : (standsM h m).Pairwise (fun a b => ltL a b = true) := prodL_rising _ fun l hl => by
  rw [List.eq_of_mem_replicate hl]
  exact roomsL_rising h
theorem standsM_len {h : House} (ok : House.Ok h) {m : Int} (hm : m ≤ 4) : (standsM h m).length ≤ 1296 := by
  have h1 := prodL_len_le (k := 6) (List.replicate m.toNat (roomsL h)) fun l hl => by
    rw [List.eq_of_mem_replicate hl]
    have := ok.r6
    simp [roomsL]
    omega
  rw [List.length_replicate] at h1
  refine Nat.le_trans h1 ?_
  have : m.toNat ≤ 4 := by omega
  calc 6 ^ m.toNat ≤ 6 ^ 4 := Nat.pow_le_pow_right (by decide) this
    _ = 1296 := by decide
/-- where one may be a beat on -/
def nextM (h : House) (r b : Int) : List Int := isort leI (r :: sideM h r b)
def stepB (h : House) (b : Int) : List Int → List Int → Bool
  | [], [] => true
  | r :: s, r' :: s' => (decide (r = r') || decide (r' ∈ sideM h r b)) && stepB h b s s'
  | _, _ => false
theorem openDoors_mem {h : House} {b : Int} {p : Int × Int} (hp : p ∈ openDoors h b) : p ∈ h.doors := by
  unfold openDoors at hp
  obtain ⟨q, hq, rfl⟩ := List.mem_map.mp hp
  have := (List.mem_filter.mp hq).1
  have q2 := List.mem_zipIdx_iff_getElem?.mp this
  exact List.mem_of_getElem? q2
theorem side_mem {h : House} {r b x : Int} : x ∈ sideM h r b ↔ ∃ p ∈ openDoors h b, (r = p.1 ∧ x = p.2) ∨ (r = p.2 ∧ x = p.1) := by
  unfold sideM sideOf
  simp only [List.mem_map, List.mem_filter, decide_eq_true_eq]
  constructor
  · rintro ⟨p, ⟨hp, hr⟩, rfl⟩
    refine ⟨p, hp, ?_⟩
    rcases hr with rfl | rfl
    · left; exact ⟨rfl, by omega⟩
    · right; exact ⟨rfl, by omega⟩
  · rintro ⟨p, hp, ⟨rfl, rfl⟩ | ⟨rfl, rfl⟩⟩
    · exact ⟨p, ⟨hp, .inl rfl⟩, by omega⟩
    · exact ⟨p, ⟨hp, .inr rfl⟩, by omega⟩
theorem side_sym {h : House} {r b x : Int} : x ∈ sideM h r b ↔ r ∈ sideM h x b := by
  rw [side_mem, side_mem]
  constructor
  · rintro ⟨p, hp, ⟨h1, h2⟩ | ⟨h1, h2⟩⟩
    · exact ⟨p, hp, .inr ⟨h2, h1⟩⟩
    · exact ⟨p, hp, .inl ⟨h2, h1⟩⟩
  · rintro ⟨p, hp, ⟨h1, h2⟩ | ⟨h1, h2⟩⟩
    · exact ⟨p, hp, .inr ⟨h2, h1⟩⟩
    · exact ⟨p, hp, .inl ⟨h2, h1⟩⟩
theorem side_ok {h : House} (ok : House.Ok h) {r b x : Int} (hx : x ∈ sideM h r b) : 0 ≤ x ∧ x < h.rooms ∧ x ≠ r := by
  obtain ⟨p, hp, ⟨rfl, rfl⟩ | ⟨rfl, rfl⟩⟩ := side_mem.mp hx
  · have := ok.dr p (openDoors_mem hp); omega
  · have := ok.dr p (openDoors_mem hp); omega
theorem step_sym {h : House} {b : Int} : ∀ s s' : List Int, stepB h b s s' = stepB h b s' s
  | [], [] => rfl
  | [], _ :: _ => rfl
  | _ :: _, [] => rfl
  | r :: s, r' :: s' => by
    rw [stepB, stepB, step_sym s s']
    have e : decide (r' ∈ sideM h r b) = decide (r ∈ sideM h r' b) := by rw [decide_eq_decide]; exact side_sym
    rw [e]
    have e2 : decide (r = r') = decide (r' = r) := by rw [decide_eq_decide]; exact eq_comm
    rw [e2]
theorem step_all2 {h : House} {b : Int} : ∀ {s s' : List Int}, stepB h b s s' = true ↔ All2 (fun r' l => r' ∈ l) s' (s.map fun r => nextM h r b)
  | [], [] => by simp only [stepB, List.map_nil, true_iff]; exact .nil
  | [], _ :: _ => by
    simp only [stepB, List.map_nil]
    exact ⟨fun h => (by cases h), fun h => (by cases h)⟩
  | _ :: _, [] => by
    simp only [stepB, List.map_cons]
    exact ⟨fun h => (by cases h), fun h => (by cases h)⟩
  | r :: s, r' :: s' => by
    simp only [stepB, List.map_cons, Bool.and_eq_true, Bool.or_eq_true, decide_eq_true_eq]
    have e : r' ∈ nextM h r b ↔ (r = r' ∨ r' ∈ sideM h r b) := by
      unfold nextM
      rw [isort_mem, List.mem_cons]
      constructor
      · rintro (h | h)
        · exact .inl h.symm
        · exact .inr h
      · rintro (h | h)
        · exact .inl h.symm
        · exact .inr h
    constructor
    · rintro ⟨h1, h2⟩
      exact .cons (e.mpr h1) (step_all2.mp h2)
    · intro q
      cases q with
      | cons q1 q2 => exact ⟨e.mp q1, step_all2.mpr q2⟩
def stepsM (h : House) (s : List Int) (b : Int) : List (List Int) := prodL (s.map fun r => nextM h r b)
theorem stepsM_mem {h : House} {s s' : List Int} {b : Int} : s' ∈ stepsM h s b ↔ stepB h b s s' = true := by
  unfold stepsM
  rw [prodL_mem, step_all2]
theorem step_len {h : House} {b : Int} : ∀ {s s' : List Int}, stepB h b s s' = true → s.length = s'.length
  | [], [], _ => rfl
  | [], _ :: _, h => by simp [stepB] at h
  | _ :: _, [], h => by simp [stepB] at h
  | r :: s, r' :: s', h => by
    simp only [stepB, Bool.and_eq_true] at h
    simp [step_len h.2]
theorem step_ok {h : House} (ok : House.Ok h) {b m : Int} {s s' : List Int} (hs : StandOk h m s) (q : stepB h b s s' = true) : StandOk h m s' := by
  refine ⟨by rw [← step_len q]; exact hs.1, ?_⟩
  have hr := hs.2
  clear hs
  induction s generalizing s' with
  | nil =>
    cases s' with
    | nil => simp
    | cons => simp [stepB] at q
  | cons r s ih =>
    cases s' with
    | nil => simp [stepB] at q
    | cons r' s' =>
      simp only [stepB, Bool.and_eq_true, Bool.or_eq_true, decide_eq_true_eq] at q
      intro x hx
      rcases List.mem_cons.mp hx with rfl | hx
      · rcases q.1 with e | e
        · rw [← e]; exact hr r (by simp)
        · have := side_ok ok e; exact ⟨this.1, this.2.1⟩
      · exact ih q.2 (fun r hr' => hr r (by simp [hr'])) x hx
/-! the doors of a house are apart: nobody is beside a room twice -/
theorem openDoors_sub (h : House) (b : Int) : (openDoors h b).Sublist h.doors := by
  unfold openDoors
  have : h.doors = h.doors.zipIdx.map (·.1) := by simp
  conv => rhs; rw [this]
  exact List.Sublist.map _ (List.filter_sublist)
theorem side_nodup {h : House} (ok : House.Ok h) (r b : Int) : (sideM h r b).Nodup := by
  unfold sideM sideOf
  have hp : (openDoors h b).Pairwise ltP := ok.ds.sublist (openDoors_sub h b)
  have hm : ∀ p ∈ openDoors h b, p.1 < p.2 := fun p hp => (ok.dr p (openDoors_mem hp)).2.1
  rw [List.Nodup, List.pairwise_map, List.pairwise_filter]
  refine hp.imp_of_mem fun {p q} h1 h2 l c1 c2 e => ?_
  simp only [decide_eq_true_eq] at c1 c2
  have m1 := hm p h1
  have m2 := hm q h2
  simp only [ltP] at l
  omega
theorem next_rising {h : House} (ok : House.Ok h) (r b : Int) : (nextM h r b).Pairwise (· < ·) := by
  have s := lin_I.sorted (r :: sideM h r b)
  have n : (nextM h r b).Nodup := (isort_perm _ _).nodup_iff.mpr (List.nodup_cons.mpr ⟨fun q => (side_ok ok q).2.2 rfl, side_nodup ok r b⟩)
  unfold nextM at *
  exact (s.and n).imp fun {x y} q => by
    have h1 := q.1
    have h2 := q.2
    simp [leI] at h1
    omega
theorem stepsM_rising {h : House} (ok : House.Ok h) (s : List Int) (b : Int) : (stepsM h s b).Pairwise (fun a b => ltL a b = true) := prodL_rising _ fun l hl => by
  obtain ⟨r, _, rfl⟩ := List.mem_map.mp hl
  exact next_rising ok r b
theorem next_len {h : House} (ok : House.Ok h) (r b : Int) : (nextM h r b).length ≤ 1001 := by
  unfold nextM
  rw [isort_length]
  have := sideM_length h r b
  have := ok.dl
  simp
  omega
/-! ### lots -/
def letM (h : House) (m : Int) (cl : List Clm) (b : Nat) : List (List Int) := (standsM h m).filter fun s => (cl.filter fun c => decide (c.beat = (b : Int))).all fun c => holdsM h s c
def aheadL (h : House) (m : Int) (cl : List Clm) : Nat → List (List Int)
  | 0 => letM h m cl 0
  | b + 1 => (letM h m cl (b + 1)).filter fun s => (aheadL h m cl b).any fun s0 => stepB h (b : Int) s0 s
/-- k beats ahead of the last one -/
def behindL (h : House) (m : Int) (cl : List Clm) (last : Nat) : Nat → List (List Int)
  | 0 => letM h m cl last
  | k + 1 => (letM h m cl (last - (k + 1))).filter fun s => (behindL h m cl last k).any fun s1 => stepB h ((last - (k + 1) : Nat) : Int) s s1
def metM (h : House) (m : Int) (cl : List Clm) (last b : Nat) : List (List Int) := (aheadL h m cl b).filter fun s => decide (s ∈ behindL h m cl last (last - b))
theorem letM_sub (h : House) (m : Int) (cl : List Clm) (b : Nat) : (letM h m cl b).Sublist (standsM h m) := List.filter_sublist
theorem aheadL_sub (h : House) (m : Int) (cl : List Clm) : ∀ b, (aheadL h m cl b).Sublist (letM h m cl b)
  | 0 => .refl _
  | b + 1 => List.filter_sublist
theorem behindL_sub (h : House) (m : Int) (cl : List Clm) (last : Nat) : ∀ k, (behindL h m cl last k).Sublist (letM h m cl (last - k))
  | 0 => .refl _
  | b + 1 => List.filter_sublist
theorem metM_sub (h : House) (m : Int) (cl : List Clm) (last b : Nat) : (metM h m cl last b).Sublist (standsM h m) := List.filter_sublist.trans ((aheadL_sub h m cl b).trans (letM_sub h m cl b))
theorem metM_rising (h : House) (m : Int) (cl : List Clm) (last b : Nat) : (metM h m cl last b).Pairwise (fun a b => ltL a b = true) := (standsM_rising h m).sublist (metM_sub h m cl last b)
/-- behind, by beats -/
theorem behind_at {h : House} {m : Int} {cl : List Clm} {last b : Nat} (hb : b < last) {s : List Int} : s ∈ behindL h m cl last (last - b) ↔ s ∈ letM h m cl b ∧ ∃ s1 ∈ behindL h m cl last (last - (b + 1)), stepB h (b : Int) s s1 = true := by
  obtain ⟨k, hk⟩ : ∃ k, last - b = k + 1 := ⟨last - b - 1, by omega⟩
  have e1 : last - (k + 1) = b := by omega
  have e2 : last - (b + 1) = k := by omega
  rw [hk, e2, behindL, e1]
  simp only [List.mem_filter, List.any_eq_true]
theorem ahead_at {h : House} {m : Int} {cl : List Clm} {b : Nat} {s : List Int} : s ∈ aheadL h m cl (b + 1) ↔ s ∈ letM h m cl (b + 1) ∧ ∃ s0 ∈ aheadL h m cl b, stepB h (b : Int) s0 s = true := by
  rw [aheadL]
  simp only [List.mem_filter, List.any_eq_true]
theorem met_mem {h : House} {m : Int} {cl : List Clm} {last b : Nat} {s : List Int} : s ∈ metM h m cl last b ↔ s ∈ aheadL h m cl b ∧ s ∈ behindL h m cl last (last - b) := by
  unfold metM
  simp only [List.mem_filter, decide_eq_true_eq]
/-- what is met goes on -/
theorem met_next {h : House} {m : Int} {cl : List Clm} {last b : Nat} (hb : b < last) {s : List Int} (hs : s ∈ metM h m cl last b) : ∃ s1 ∈ metM h m cl last (b + 1), stepB h (b : Int) s s1 = true := by
  obtain ⟨h1, h2⟩ := met_mem.mp hs
  obtain ⟨_, s1, q1, q2⟩ := (behind_at hb).mp h2
  have hl : s1 ∈ letM h m cl (b + 1) := by
    have := (behindL_sub h m cl last (last - (b + 1))).subset q1
    rwa [show last - (last - (b + 1)) = b + 1 by omega] at this
  exact ⟨s1, met_mem.mpr ⟨ahead_at.mpr ⟨hl, s, h1, q2⟩, q1⟩, q2⟩
theorem met_prev {h : House} {m : Int} {cl : List Clm} {last b : Nat} (hb : b < last) {s : List Int} (hs : s ∈ metM h m cl last (b + 1)) : ∃ s0 ∈ metM h m cl last b, stepB h (b : Int) s0 s = true := by
  obtain ⟨h1, h2⟩ := met_mem.mp hs
  obtain ⟨_, s0, q1, q2⟩ := ahead_at.mp h1
  exact ⟨s0, met_mem.mpr ⟨q1, (behind_at hb).mpr ⟨(aheadL_sub h m cl b).subset q1, s, h2, q2⟩⟩, q2⟩
/-- met lots, back from the last beat on -/
theorem met_back {h : House} {m : Int} {cl : List Clm} {last b : Nat} (hb : b < last) {s : List Int} : s ∈ metM h m cl last b ↔ s ∈ aheadL h m cl b ∧ ∃ s1 ∈ metM h m cl last (b + 1), stepB h (b : Int) s s1 = true := by
  constructor
  · intro hs
    exact ⟨(met_mem.mp hs).1, met_next hb hs⟩
  · rintro ⟨h1, s1, q1, q2⟩
    exact met_mem.mpr ⟨h1, (behind_at hb).mpr ⟨(aheadL_sub h m cl b).subset h1, s1, (met_mem.mp q1).2, q2⟩⟩
end Wl

set_option maxHeartbeats 1000000
namespace Wl
open PySem L2 Wv
theorem nodup_len {α : Type} [DecidableEq α] {k l : List α} (nk : k.Nodup) (nl : l.Nodup) (h : ∀ a ∈ k, a ∈ l) : k.length ≤ l.length := by
  have p : k.Perm (l.filter fun a => decide (a ∈ k)) := (List.perm_ext_iff_of_nodup nk (nl.sublist List.filter_sublist)).mpr fun a => by
    simp only [List.mem_filter, decide_eq_true_eq]
    exact ⟨fun q => ⟨h a q, q⟩, fun q => q.2⟩
  rw [p.length_eq]
  exact List.length_filter_le _ _
theorem side_len {h : House} (ok : House.Ok h) (r b : Int) : (sideM h r b).length ≤ 6 := by
  refine Nat.le_trans (nodup_len (side_nodup ok r b) ((roomsL_rising h).imp fun {x y} q e => by omega) fun a ha => (roomsL_mem h a).mpr ⟨(side_ok ok ha).1, (side_ok ok ha).2.1⟩) ?_
  have := ok.r6
  simp [roomsL]
  omega
theorem beside_mem {h : House} {r b x : Int} : x ∈ besideM h r b ↔ x ∈ sideM h r b := isort_mem _ _ _
theorem beside_len {h : House} (ok : House.Ok h) (r b : Int) : (besideM h r b).length ≤ 6 := by
  unfold besideM
  rw [isort_length]
  exact side_len ok r b
theorem stands_len {h : House} (ok : House.Ok h) {m : Int} (m0 : 0 ≤ m) (m4 : m ≤ 4) {K : List (List Int)} (nd : K.Nodup) (hK : ∀ s ∈ K, StandOk h m s) : K.length ≤ 1296 :=
  Nat.le_trans (nodup_len nd (nodup_of (standsM_rising h m)) fun s hs => (standsM_mem h m m0 s).mpr (hK s hs)) (standsM_len ok m4)
/-! ### steps, one of the folk at a time -/
theorem step_snoc {h : House} {b : Int} : ∀ {a c : List Int} {x y : Int}, a.length = c.length → stepB h b (a ++ [x]) (c ++ [y]) = (stepB h b a c && (decide (x = y) || decide (y ∈ sideM h x b)))
  | [], [], x, y, _ => by simp [stepB]
  | [], _ :: _, _, _, l => by cases l
  | _ :: _, [], _, _, l => by cases l
  | r :: a, r' :: c, x, y, l => by
    rw [List.cons_append, List.cons_append, stepB, stepB, step_snoc (by simpa using l), Bool.and_assoc]
def PStep (h : House) (b : Int) (k : Nat) (s s' : List Int) : Prop := s.length = s'.length ∧ stepB h b (s.take k) (s'.take k) = true ∧ s.drop k = s'.drop k
theorem pstep_0 {h : House} {b : Int} {s s' : List Int} : PStep h b 0 s s' ↔ s = s' := by
  unfold PStep
  simp only [List.take_zero, List.drop_zero, stepB, true_and]
  exact ⟨fun q => q.2, fun q => ⟨by rw [q], q⟩⟩
theorem pstep_all {h : House} {b : Int} {s s' : List Int} : PStep h b s.length s s' ↔ stepB h b s s' = true := by
  unfold PStep
  constructor
  · rintro ⟨h1, h2, _⟩
    rw [List.take_length] at h2
    rw [List.take_of_length_le (by omega)] at h2
    exact h2
  · intro q
    have l := step_len q
    refine ⟨l, ?_, ?_⟩
    · rw [List.take_length, List.take_of_length_le (by omega)]; exact q
    · rw [List.drop_length, List.drop_of_length_le (by omega)]
theorem pstep_succ {h : House} {b : Int} {k : Nat} {s s' : List Int} (hk : k < s.length) : PStep h b (k + 1) s s' ↔ ∃ u, PStep h b k s u ∧ ∃ r, (at0 u k = r ∨ r ∈ sideM h (at0 u k) b) ∧ s' = u.take k ++ [r] ++ u.drop (k + 1) := by
  have get : ∀ l : List Int, k < l.length → l.take (k + 1) = l.take k ++ [at0 l k] := fun l hl => by
    rw [List.take_succ, List.getElem?_eq_getElem hl]
    simp [at0, List.getD_eq_getElem?_getD, List.getElem?_eq_getElem hl]
  have drp : ∀ l : List Int, k < l.length → l.drop k = at0 l k :: l.drop (k + 1) := fun l hl => by
    rw [List.drop_eq_getElem_cons hl]
    simp [at0, List.getD_eq_getElem?_getD, List.getElem?_eq_getElem hl]
  constructor
  · rintro ⟨h1, h2, h3⟩
    have hk' : k < s'.length := by omega
    have lt : (s'.take k).length = k := by simp; omega
    have e1 : (s'.take k ++ s.drop k).take k = s'.take k := by
      rw [List.take_append_of_le_length (by omega), List.take_take]
      simp
    have e2 : (s'.take k ++ s.drop k).drop k = s.drop k := by
      rw [List.drop_append_of_le_length (by omega), List.drop_take]
      simp
    have e3 : at0 (s'.take k ++ s.drop k) k = at0 s k := by
      have q := drp s hk
      simp only [at0, Int.toNat_natCast, List.getD_eq_getElem?_getD]
      rw [List.getElem?_append_right (by omega), lt, q]
      simp [at0, List.getD_eq_getElem?_getD]
    have e4 : (s'.take k ++ s.drop k).drop (k + 1) = s.drop (k + 1) := by
      have : (s'.take k ++ s.drop k).drop (k + 1) = ((s'.take k ++ s.drop k).drop k).drop 1 := by rw [List.drop_drop]
      rw [this, e2, List.drop_drop]
    rw [get s hk, get s' hk', step_snoc (by simp; omega)] at h2
    simp only [Bool.and_eq_true, Bool.or_eq_true, decide_eq_true_eq] at h2
    refine ⟨s'.take k ++ s.drop k, ⟨by simp; omega, by rw [e1]; exact h2.1, by rw [e2]⟩, at0 s' k, by rw [e3]; exact h2.2, ?_⟩
    rw [e1, e4, h3, ← get s' hk', List.take_append_drop]
  · rintro ⟨u, ⟨h1, h2, h3⟩, r, hr, rfl⟩
    have hku : k < u.length := by omega
    have lt : (u.take k).length = k := by simp; omega
    have ed := drp s hk
    have eu := drp u hku
    rw [h3, eu] at ed
    simp only [List.cons.injEq] at ed
    have t1 : (u.take k ++ [r] ++ u.drop (k + 1)).take (k + 1) = u.take k ++ [r] := by
      rw [List.take_append_of_le_length (by simp; omega)]
      apply List.take_of_length_le
      simp
      omega
    have t2 : (u.take k ++ [r] ++ u.drop (k + 1)).drop (k + 1) = u.drop (k + 1) := by
      rw [List.drop_append_of_le_length (by simp; omega), List.drop_of_length_le (by simp; omega)]
      simp
    refine ⟨by simp; omega, ?_, by rw [t2]; exact ed.2.symm⟩
    rw [t1, get s hk, step_snoc (by simp; omega), h2, ← ed.1]
    simpa using hr
end Wl

set_option maxHeartbeats 4000000
namespace Wv
open PySem L2
/-! ### dicts whose keys are rows of whole numbers -/
section
variable {β : Type}
def eDV (ev : β → PyData) (l : List (List Int × β)) : List (PyData × PyData) := l.map fun p => (eT p.1, ev p.2)
def lookP (l : List (List Int × β)) (k : List Int) : Option β := (l.find? fun p => decide (p.1 = k)).map (·.2)
def putP (l : List (List Int × β)) (k : List Int) (v : β) : List (List Int × β) := if k ∈ l.map (·.1) then l.map (fun p => if p.1 = k then (p.1, v) else p) else l ++ [(k, v)]
theorem same_ints : ∀ a b : List Int, sameL (a.map PyData.int) (b.map PyData.int) = decide (a = b)
  | [], [] => rfl
  | [], _ :: _ => rfl
  | _ :: _, [] => rfl
  | x :: a, y :: b => by
    simp only [List.map_cons, sameL, sameD, same_ints a b, List.cons.injEq]
    by_cases h1 : x = y <;> by_cases h2 : a = b <;> simp [h1, h2]
theorem same_T (a b : List Int) : sameD (eT a) (eT b) = decide (a = b) := by
  simp only [eT, sameD]
  exact same_ints a b
theorem kind_T {k : List Int} (h : k ≠ []) : kindD (eT k) = some true := by
  cases k with
  | nil => exact absurd rfl h
  | cons x k =>
    simp only [eT, List.map_cons, kindD]
    rw [if_pos]
    simp [leafD]
theorem fit_T {ev : β → PyData} {l : List (List Int × β)} {k : List Int} (hk : k ≠ []) (hl : ∀ p ∈ l, p.1 ≠ []) : fitD (eT k) (eDV ev l) = true := by
  cases l with
  | nil => simp [eDV, fitD, kind_T hk]
  | cons p l => simp [eDV, fitD, kind_T hk, kind_T (hl p (by simp))]
theorem ok_DV {ev : β → PyData} {l : List (List Int × β)} (hl : ∀ p ∈ l, p.1 ≠ []) : okDict (eDV ev l) = true := by
  cases l with
  | nil => rfl
  | cons p l => simp [eDV, okDict, kind_T (hl p (by simp))]
theorem get_DV {ev : β → PyData} {k : List Int} : ∀ l : List (List Int × β), getL (eDV ev l) (eT k) = (lookP l k).map ev
  | [] => rfl
  | p :: l => by
    have ih := get_DV (ev := ev) (k := k) l
    unfold getL lookP eDV at *
    simp only [List.map_cons, List.find?_cons, same_T]
    by_cases h : p.1 = k
    · simp [h]
    · simp only [h, decide_false]
      exact ih
theorem any_DV {ev : β → PyData} {k : List Int} : ∀ l : List (List Int × β), ((eDV ev l).any fun p => sameD p.1 (eT k)) = decide (k ∈ l.map (·.1))
  | [] => rfl
  | p :: l => by
    have ih := any_DV (ev := ev) (k := k) l
    unfold eDV at *
    rw [List.map_cons, List.any_cons, ih]
    simp only [same_T, List.map_cons, List.mem_cons]
    by_cases h : p.1 = k <;> by_cases h2 : k ∈ l.map (·.1) <;> simp [h, h2, eq_comm]
    exact fun q => h q.symm
theorem put_DV {ev : β → PyData} {l : List (List Int × β)} {k : List Int} {v : β} (hk : k ≠ []) (hl : ∀ p ∈ l, p.1 ≠ []) (hn : l.length < lineN) : putD (eDV ev l) (eT k) (ev v) = some (eDV ev (putP l k v)) := by
  unfold putD
  rw [fit_T hk hl, Bool.true_and, if_pos (by simpa [eDV] using hn)]
  congr 1
  unfold putL putP
  rw [any_DV]
  by_cases h : k ∈ l.map (·.1)
  · rw [if_pos (by simpa using h), if_pos h]
    unfold eDV
    rw [List.map_map, List.map_map]
    apply List.map_congr_left
    intro p hp
    simp only [Function.comp, same_T]
    by_cases q : p.1 = k <;> simp [q]
  · rw [if_neg (by simpa using h), if_neg h]
    simp [eDV]
theorem putP_keys (l : List (List Int × β)) (k : List Int) (v : β) : (∀ a, a ∈ (putP l k v).map (·.1) ↔ a ∈ l.map (·.1) ∨ a = k) ∧ ((l.map (·.1)).Nodup → ((putP l k v).map (·.1)).Nodup) ∧ (putP l k v).length ≤ l.length + 1 := by
  unfold putP
  by_cases h : k ∈ l.map (·.1)
  · rw [if_pos h]
    have e : (l.map (fun p => if p.1 = k then (p.1, v) else p)).map (·.1) = l.map (·.1) := by
      rw [List.map_map]
      apply List.map_congr_left
      intro p _
      simp only [Function.comp]
      split <;> rfl
    rw [e]
    refine ⟨fun a => ⟨.inl, fun q => q.elim id fun q => by rw [q]; exact h⟩, id, by simp⟩
  · rw [if_neg h]
    refine ⟨fun a => by simp, fun nd => ?_, by simp⟩
    rw [List.map_append, List.nodup_append]
    exact ⟨nd, by simp, fun x hx y hy => by
      simp at hy
      rintro rfl
      exact h (by rw [← hy]; exact hx)⟩
theorem in_DV {ev : β → PyData} {l : List (List Int × β)} {k : List Int} (hk : k ≠ []) (hl : ∀ p ∈ l, p.1 ≠ []) : inD (eDV ev l) (eT k) = some (decide (k ∈ l.map (·.1))) := by
  unfold inD
  rw [if_pos (fit_T hk hl), get_DV]
  congr 1
  unfold lookP
  rw [Option.isSome_map, Option.isSome_map]
  induction l with
  | nil => rfl
  | cons p l ih =>
    rw [List.find?_cons]
    by_cases h : p.1 = k
    · simp [h]
    · have h' : ¬ k = p.1 := fun e => h e.symm
      simp only [h, decide_false, List.map_cons, List.mem_cons, h', false_or]
      exact ih fun p hp => hl p (by simp [hp])
theorem keys_DV {ev : β → PyData} (l : List (List Int × β)) : (eDV ev l).map (·.1) = (l.map (·.1)).map eT := by
  simp [eDV]
end
/-- a lot of stands, as a dict -/
def eS (ks : List (List Int)) : PyData := .dict (eDV PyData.bool (ks.map fun k => (k, true)))
theorem eS_keys (ks : List (List Int)) : (ks.map fun k => (k, true)).map (·.1) = ks := by simp [Function.comp_def]
theorem inS {ks : List (List Int)} {k : List Int} (hk : k ≠ []) (hl : ∀ a ∈ ks, a ≠ []) : cmpD .In (eT k) (eS ks) = some (decide (k ∈ ks)) := by
  show inD _ _ = _
  rw [in_DV hk (fun p hp => by obtain ⟨a, ha, rfl⟩ := List.mem_map.mp hp; exact hl a ha), eS_keys]
theorem valS {ks : List (List Int)} {t : Tw} (hl : ∀ a ∈ ks, a ≠ []) : valI t (eS ks) = .ok (ks.map eT) t := by
  show (if okDict _ then _ else _) = _
  rw [if_pos (ok_DV fun p hp => by obtain ⟨a, ha, rfl⟩ := List.mem_map.mp hp; exact hl a ha), keys_DV, eS_keys]

/-! ### the evaluator's steps, more -/
section
variable {F : Nat → List PyData → Tw → R PyData} {m : Bool} {env env' : Env} {t t' : Tw}
@[simp] theorem ev_lzip {es : CL} : evalE F m (.lzip es) env t = (evalP F es env t).bind fun ds t => R.of (zipD ds) t := by rw [evalE]
@[simp] theorem ev_rev {a : CE} : evalE F m (.rev a) env t = (evalE F true a env t).bind fun x t => R.of (revD x) t := by rw [evalE]
def lrngR (t : Tw) : PyData → R PyData
  | .int n => if small n then .ok (.list (rngs 0 1 n.toNat)) t else .bad
  | _ => .bad
@[simp] theorem lrngR_b (n : Int) (t : Tw) : lrngR t (.int n) = if small n then .ok (.list (rngs 0 1 n.toNat)) t else .bad := rfl
@[simp] theorem ev_lrng {a : CE} : evalE F m (.lrng a) env t = (evalE F true a env t).bind fun x t => lrngR t x := by
  rw [evalE]; first | rfl | (congr 1; funext x t; cases x <;> rfl)
def trngR (t : Tw) : PyData → R PyData
  | .int n => if small n then .ok (.tuple (rngs 0 1 n.toNat)) t else .bad
  | _ => .bad
@[simp] theorem trngR_b (n : Int) (t : Tw) : trngR t (.int n) = if small n then .ok (.tuple (rngs 0 1 n.toNat)) t else .bad := rfl
@[simp] theorem ev_trng {a : CE} : evalE F m (.trng a) env t = (evalE F true a env t).bind fun x t => trngR t x := by
  rw [evalE]; first | rfl | (congr 1; funext x t; cases x <;> rfl)
def dgetR (t : Tw) (k : List (PyData × PyData) → R PyData) : PyData → R PyData
  | .dict kds => if okDict kds then k kds else .bad
  | _ => .bad
@[simp] theorem dgetR_b (t : Tw) (k : List (PyData × PyData) → R PyData) (kds : List (PyData × PyData)) : dgetR t k (.dict kds) = if okDict kds then k kds else .bad := rfl
@[simp] theorem ev_dget {a k d : CE} : evalE F m (.dget a k d) env t = (evalE F true a env t).bind fun x t => dgetR t (fun kds => (evalE F true k env t).bind fun y t => (evalE F false d env t).bind fun z t => if fitD y kds then .ok ((getL kds y).getD z) t else .bad) x := by
  rw [evalE]; first | rfl | (congr 1; funext x t; cases x <;> rfl)
def setR (kl : List PyData → SR) (kd : List (PyData × PyData) → SR) : Option (Option (Bool × PyData)) → SR
  | some (some (true, .list xs)) => kl xs
  | some (some (true, .dict kds)) => kd kds
  | _ => .bad
@[simp] theorem setR_l (kl : List PyData → SR) (kd : List (PyData × PyData) → SR) (xs : List PyData) : setR kl kd (some (some (true, .list xs))) = kl xs := rfl
@[simp] theorem setR_d (kl : List PyData → SR) (kd : List (PyData × PyData) → SR) (xs : List (PyData × PyData)) : setR kl kd (some (some (true, .dict xs))) = kd xs := rfl
def nxL (i : Nat) (env : Env) (t : Tw) : Option (List PyData) → SR
  | some x' => .next (env.set i (some (true, .list x'))) t
  | none => .bad
@[simp] theorem nxL_some (i : Nat) (env : Env) (t : Tw) (x : List PyData) : nxL i env t (some x) = .next (env.set i (some (true, .list x))) t := rfl
def nxD (i : Nat) (env : Env) (t : Tw) : Option (List (PyData × PyData)) → SR
  | some x' => .next (env.set i (some (true, .dict x'))) t
  | none => .bad
@[simp] theorem nxD_some (i : Nat) (env : Env) (t : Tw) (x : List (PyData × PyData)) : nxD i env t (some x) = .next (env.set i (some (true, .dict x))) t := rfl
@[simp] theorem xs_setI {i : Nat} {k v : CE} : execS F (.setI i k v) env t = SR.of (evalE F false v env t) env fun d t => setR (fun xs => SR.of (evalE F true k env t) env fun j t => nxL i env t (setD xs j d)) (fun kds => SR.of (evalE F false k env t) env fun j t => nxD i env t (putD kds j d)) env[i]? := by
  rw [execS]; rfl
/-- a comprehension of two clauses, nothing drawn -/
theorem ev_lc2n {α β : Type} {e : CE} {own own2 : List Nat} {tg tg2 : Tg} {it it2 : CI} {t1 : Tw} (enc : α → PyData) (xs : List α) (enc2 : β → PyData) (ys : α → List β) (v : α → β → PyData) (hi : evalI F it env t = .ok (xs.map enc) t1)
    (hb : ∀ x ∈ xs, ∃ env', bindTg tg (enc x) (wipeE env own) = some env' ∧ evalI F it2 env' t1 = .ok ((ys x).map enc2) t1 ∧ ∀ z ∈ ys x, ∃ env2, bindTg tg2 (enc2 z) (wipeE env' own2) = some env2 ∧ evalE F false e env2 t1 = .ok (v x z) t1) (hl : (xs.flatMap fun x => (ys x).map (v x)).length ≤ lineN) :
    evalE F m (.lc2 e own own2 tg it .none tg2 it2 .none) env t = .ok (.list (xs.flatMap fun x => (ys x).map (v x))) t1 := by
  rw [evalE, hi]
  simp only [R.bind]
  rw [lcLoop_flat (g := fun x => (ys x).map (v x)) (e := enc)]
  · simp only [decide_eq_true hl, okIf_true, R_of_some]
  · intro x hx
    obtain ⟨env', h1, h2, h3⟩ := hb x hx
    rw [h1]
    simp only [evC_none, if_true, h2]
    rw [lcLoop_map (e := enc2) (v := v x)]
    intro z hz
    obtain ⟨env2, k1, k2⟩ := h3 z hz
    rw [k1]
    simp only [evC_none, if_true, k2]
theorem dcLoop_fold {α S : Type} {f : PyData → List (PyData × PyData) → Tw → R (List (PyData × PyData))} {e : α → PyData} {enc : S → List (PyData × PyData)} {step : S → α → S} {I : S → Nat → Prop} : ∀ {xs : List α} {s : S} {n : Nat}, (∀ s n x, x ∈ xs → I s (n + 1) → f (e x) (enc s) t = .ok (enc (step s x)) t ∧ I (step s x) n) → I s (n + xs.length) → dcLoop f (xs.map e) (enc s) t = .ok (enc (xs.foldl step s)) t ∧ I (xs.foldl step s) n
  | [], s, n, _, i => ⟨rfl, i⟩
  | x :: xs, s, n, h, i => by
    obtain ⟨h1, h2⟩ := h s (n + xs.length) x (by simp) (by rw [List.length_cons] at i; exact i)
    have := dcLoop_fold (xs := xs) (n := n) (fun s n z hz q => h s n z (by simp [hz]) q) h2
    rw [List.map_cons, dcLoop, h1]
    exact this
theorem dc_at {α S : Type} {f : PyData → List (PyData × PyData) → Tw → R (List (PyData × PyData))} {l : List PyData} {acc : List (PyData × PyData)} {w : R (List (PyData × PyData))} (hw : dcLoop f l acc t = w) (e : α → PyData) (xs : List α) (hl : l = xs.map e) (enc : S → List (PyData × PyData)) (s : S) (ha : acc = enc s) (step : S → α → S) (I : S → Nat → Prop) (n : Nat)
    (h : ∀ s n x, x ∈ xs → I s (n + 1) → f (e x) (enc s) t = .ok (enc (step s x)) t ∧ I (step s x) n) (i : I s (n + xs.length)) : w = .ok (enc (xs.foldl step s)) t ∧ I (xs.foldl step s) n := by
  subst hl ha
  obtain ⟨h1, h2⟩ := dcLoop_fold (t := t) (n := n) h i
  exact ⟨hw.symm.trans h1, h2⟩
theorem fold_filter {α S : Type} (p : α → Bool) (g : S → α → S) : ∀ (xs : List α) (s : S), xs.foldl (fun s x => if p x then g s x else s) s = (xs.filter p).foldl g s
  | [], s => rfl
  | x :: xs, s => by
    rw [List.foldl_cons, List.filter_cons]
    cases p x with
    | false => exact fold_filter p g xs s
    | true => exact fold_filter p g xs (g s x)
/-- a store into a dict being made -/
theorem put_step {β : Type} {ev : β → PyData} {l : List (List Int × β)} {k : List Int} {v : β} {n : Nat} {t : Tw} (hk : k ≠ []) (i : (∀ q ∈ l, q.1 ≠ []) ∧ l.length + (n + 1) ≤ 10000000) : putR (eDV ev l) (eT k) (ev v) t = .ok (eDV ev (putP l k v)) t ∧ (∀ q ∈ putP l k v, q.1 ≠ []) ∧ (putP l k v).length + n ≤ 10000000 := by
  obtain ⟨i1, i2⟩ := i
  refine ⟨?_, fun z hz => ?_, ?_⟩
  · unfold putR
    rw [put_DV hk i1 (by unfold lineN; omega)]
  · have := ((putP_keys l k v).1 z.1).mp (List.mem_map.mpr ⟨z, hz, rfl⟩)
    rcases this with w | w
    · obtain ⟨a, ha, e⟩ := List.mem_map.mp w
      rw [← e]
      exact i1 a ha
    · rw [w]; exact hk
  · have := (putP_keys l k v).2.2
    omega
/-- a dict comprehension of one clause, nothing drawn -/
theorem ev_dc1 {α β : Type} {k v : CE} {own : List Nat} {tg : Tg} {it : CI} {c : CO} {t1 : Tw} (enc : α → PyData) (xs : List α) (p : α → Bool) (kf : α → List Int) (ev : β → PyData) (vf : α → β) (hi : evalI F it env t = .ok (xs.map enc) t1) (hn : xs.length < 1000000)
    (hb : ∀ x ∈ xs, ∃ env', bindTg tg (enc x) (wipeE env own) = some env' ∧ evalC F c env' t1 = .ok (p x) t1 ∧ (p x = true → evalE F false k env' t1 = .ok (eT (kf x)) t1 ∧ evalE F false v env' t1 = .ok (ev (vf x)) t1 ∧ kf x ≠ [])) :
    evalE F m (.dc1 k v own tg it c) env t = .ok (.dict (eDV ev ((xs.filter p).foldl (fun l x => putP l (kf x) (vf x)) []))) t1 := by
  rw [evalE, hi]
  simp only [R.bind]
  generalize hw : dcLoop _ _ _ _ = w
  obtain ⟨rfl, _⟩ := dc_at hw enc xs rfl (eDV ev) [] rfl (fun l x => if p x then putP l (kf x) (vf x) else l) (fun l n => (∀ q ∈ l, q.1 ≠ []) ∧ l.length + n ≤ 10000000) 0 (fun l n x hx i => by
    obtain ⟨env', h1, h2, h3⟩ := hb x hx
    rw [h1]
    simp only [h2]
    cases q : p x with
    | false => exact ⟨rfl, i.1, by simp; omega⟩
    | true =>
      obtain ⟨q1, q2, q3⟩ := h3 q
      simp only [if_true, q1, q2]
      exact put_step q3 i) ⟨by simp, by simp; omega⟩
  rw [fold_filter]
/-- a dict comprehension of two clauses, nothing drawn -/
theorem ev_dc2n {α γ β : Type} {k v : CE} {own own2 : List Nat} {tg tg2 : Tg} {it it2 : CI} {t1 : Tw} (enc : α → PyData) (xs : List α) (enc2 : γ → PyData) (ys : α → List γ) (kf : α → γ → List Int) (ev : β → PyData) (vf : α → γ → β) (hi : evalI F it env t = .ok (xs.map enc) t1) (N : Nat) (hN : ∀ x ∈ xs, (ys x).length ≤ N) (hn : xs.length * N < 1000000)
    (hb : ∀ x ∈ xs, ∃ env', bindTg tg (enc x) (wipeE env own) = some env' ∧ evalI F it2 env' t1 = .ok ((ys x).map enc2) t1 ∧ ∀ z ∈ ys x, ∃ env2, bindTg tg2 (enc2 z) (wipeE env' own2) = some env2 ∧ evalE F false k env2 t1 = .ok (eT (kf x z)) t1 ∧ evalE F false v env2 t1 = .ok (ev (vf x z)) t1 ∧ kf x z ≠ []) :
    evalE F m (.dc2 k v own own2 tg it .none tg2 it2 .none) env t = .ok (.dict (eDV ev (xs.foldl (fun l x => (ys x).foldl (fun l z => putP l (kf x z) (vf x z)) l) []))) t1 := by
  rw [evalE, hi]
  simp only [R.bind]
  generalize hw : dcLoop _ _ _ _ = w
  obtain ⟨rfl, _⟩ := dc_at hw enc xs rfl (eDV ev) [] rfl (fun l x => (ys x).foldl (fun l z => putP l (kf x z) (vf x z)) l) (fun l n => (∀ q ∈ l, q.1 ≠ []) ∧ l.length + n * N ≤ 10000000) 0 (fun l n x hx i => by
    obtain ⟨env', h1, h2, h3⟩ := hb x hx
    rw [h1]
    simp only [evC_none, if_true, h2]
    generalize hw2 : dcLoop _ _ _ _ = w2
    have hN := hN x hx
    obtain ⟨rfl, j1, j2⟩ := dc_at hw2 enc2 (ys x) rfl (eDV ev) l rfl (fun l z => putP l (kf x z) (vf x z)) (fun l' n' => (∀ q ∈ l', q.1 ≠ []) ∧ l'.length + n' ≤ 10000000) (n * N) (fun l' n' z hz i' => by
      obtain ⟨env2, k1, k2, k3, k4⟩ := h3 z hz
      rw [k1]
      simp only [evC_none, if_true, k2, k3]
      exact put_step k4 i') ⟨i.1, by
        have := i.2
        rw [Nat.add_mul, Nat.one_mul] at this
        omega⟩
    exact ⟨rfl, j1, j2⟩) ⟨by simp, by simp; omega⟩
  rfl
end
/-- distinct keys are laid in turn -/
theorem fold_put {α β : Type} (kf : α → List Int) (vf : α → β) : ∀ (xs : List α) (l : List (List Int × β)), ((l.map (·.1)) ++ xs.map kf).Nodup → xs.foldl (fun l x => putP l (kf x) (vf x)) l = l ++ xs.map fun x => (kf x, vf x)
  | [], l, _ => by simp
  | x :: xs, l, h => by
    have hx : kf x ∉ l.map (·.1) := fun q => by
      rw [List.nodup_append] at h
      exact h.2.2 _ q _ (by simp) rfl
    have e : putP l (kf x) (vf x) = l ++ [(kf x, vf x)] := by
      unfold putP
      rw [if_neg hx]
    rw [List.foldl_cons, e, fold_put kf vf xs]
    · simp
    · simpa using h
theorem fold_keys {α β : Type} (kf : α → List Int) (vf : α → β) : ∀ (xs : List α) (l : List (List Int × β)), (∀ a, a ∈ (xs.foldl (fun l x => putP l (kf x) (vf x)) l).map (·.1) ↔ a ∈ l.map (·.1) ∨ ∃ x ∈ xs, a = kf x) ∧ ((l.map (·.1)).Nodup → ((xs.foldl (fun l x => putP l (kf x) (vf x)) l).map (·.1)).Nodup) ∧ (xs.foldl (fun l x => putP l (kf x) (vf x)) l).length ≤ l.length + xs.length
  | [], l => ⟨fun a => by simp, id, by simp⟩
  | x :: xs, l => by
    obtain ⟨h1, h2, h3⟩ := fold_keys kf vf xs (putP l (kf x) (vf x))
    obtain ⟨k1, k2, k3⟩ := putP_keys l (kf x) (vf x)
    rw [List.foldl_cons]
    refine ⟨fun a => ?_, fun nd => h2 (k2 nd), ?_⟩
    · rw [h1, k1]
      simp only [List.mem_cons, exists_eq_or_imp, or_assoc]
    · simp only [List.length_cons]
      omega
theorem fold2_keys {α γ β : Type} (ys : α → List γ) (kf : α → γ → List Int) (vf : α → γ → β) : ∀ (xs : List α) (l : List (List Int × β)), (∀ a, a ∈ (xs.foldl (fun l x => (ys x).foldl (fun l z => putP l (kf x z) (vf x z)) l) l).map (·.1) ↔ a ∈ l.map (·.1) ∨ ∃ x ∈ xs, ∃ z ∈ ys x, a = kf x z) ∧ ((l.map (·.1)).Nodup → ((xs.foldl (fun l x => (ys x).foldl (fun l z => putP l (kf x z) (vf x z)) l) l).map (·.1)).Nodup)
  | [], l => ⟨fun a => by simp, id⟩
  | x :: xs, l => by
    obtain ⟨k1, k2, _⟩ := fold_keys (kf x) (vf x) (ys x) l
    obtain ⟨h1, h2⟩ := fold2_keys ys kf vf xs ((ys x).foldl (fun l z => putP l (kf x z) (vf x z)) l)
    rw [List.foldl_cons]
    refine ⟨fun a => ?_, fun nd => h2 (k2 nd)⟩
    rw [h1, k1]
    simp only [List.mem_cons, exists_eq_or_imp, or_assoc]
/-- all of whose values are true -/
theorem fold2_true {α γ : Type} (ys : α → List γ) (kf : α → γ → List Int) : ∀ (xs : List α) (l : List (List Int × Bool)), (∀ p ∈ l, p.2 = true) → ∀ p ∈ (xs.foldl (fun l x => (ys x).foldl (fun l z => putP l (kf x z) true) l) l), p.2 = true := by
  have one : ∀ (l : List (List Int × Bool)) (k : List Int), (∀ p ∈ l, p.2 = true) → ∀ p ∈ putP l k true, p.2 = true := fun l k h p hp => by
    unfold putP at hp
    split at hp
    · obtain ⟨q, hq, rfl⟩ := List.mem_map.mp hp
      split
      · rfl
      · exact h q hq
    · rcases List.mem_append.mp hp with q | q
      · exact h p q
      · simp at q; rw [q]
  have many : ∀ (zs : List (List Int)) (l : List (List Int × Bool)), (∀ p ∈ l, p.2 = true) → ∀ p ∈ zs.foldl (fun l z => putP l z true) l, p.2 = true := fun zs => by
    induction zs with
    | nil => exact fun l h => h
    | cons z zs ih => exact fun l h => ih _ (one l z h)
  intro xs
  induction xs with
  | nil => exact fun l h => h
  | cons x xs ih =>
    intro l h
    rw [List.foldl_cons]
    refine ih _ ?_
    have := many ((ys x).map (kf x)) l h
    rw [List.foldl_map] at this
    exact this
theorem true_S {l : List (List Int × Bool)} (h : ∀ p ∈ l, p.2 = true) : .dict (eDV PyData.bool l) = eS (l.map (·.1)) := by
  unfold eS
  congr 2
  rw [List.map_map]
  conv => lhs; rw [← List.map_id l]
  apply List.map_congr_left
  intro p hp
  have := h p hp
  obtain ⟨a, b⟩ := p
  simp at this
  simp [this]
end Wv

set_option maxHeartbeats 4000000
namespace Wv
open PySem L2
def eO : Option Int → PyData
  | none => .none
  | some i => .int i
theorem good_O : GoodE eO := ⟨fun a b => by cases a <;> cases b <;> simp [eO, PyData.eqv] <;> rfl, fun a => by cases a <;> rfl, fun a => by cases a <;> exact Nat.zero_le _⟩
def eB (p : Option Int × Clm) : PyData := .tuple [eO p.1, eC p.2]
theorem cmp_ni_O (t : Option Int) (l : List Int) : cmpD .NotIn (eO t) (.tuple (l.map .int)) = some (!decide (t ∈ l.map some)) := by
  have := good_O.niT t (l.map some)
  rw [List.map_map] at this
  exact this.trans (by simp)
theorem beat_C (c : Clm) : ixD (eC c) (.int 2) = some (.int c.beat) := by cases c <;> exact ix2 _ _ _ _
theorem slT_to {u : List Int} {k : Nat} (hk : k ≤ u.length) : slD (eT u) none (some (k : Int)) = some (eT (u.take k)) := by
  show some (PyData.tuple (cut (u.map PyData.int) none (some (k : Int)))) = _
  unfold cut eT
  congr 2
  have e1 : HT.sIx (u.map PyData.int).length 0 none = 0 := rfl
  have e2 : HT.sIx (u.map PyData.int).length (u.map PyData.int).length (some (k : Int)) = k := by
    simp only [HT.sIx, List.length_map, if_neg (show ¬ (k : Int) < 0 by omega)]
    omega
  rw [e1, e2, List.drop_zero, Nat.sub_zero, List.map_take]
theorem slT_from {u : List Int} {k : Nat} (hk : k ≤ u.length) : slD (eT u) (some (k : Int)) none = some (eT (u.drop k)) := by
  show some (PyData.tuple (cut (u.map PyData.int) (some (k : Int)) none)) = _
  unfold cut eT
  congr 2
  have e1 : HT.sIx (u.map PyData.int).length 0 (some (k : Int)) = k := by
    simp only [HT.sIx, List.length_map, if_neg (show ¬ (k : Int) < 0 by omega)]
    omega
  have e2 : HT.sIx (u.map PyData.int).length (u.map PyData.int).length none = u.length := by simp [HT.sIx]
  rw [e1, e2, ← List.map_drop]
  apply List.take_of_length_le
  simp
end Wv
namespace Wl
open PySem L2 Wv
/-! ### books -/
def FolkOk (m : Int) (l : List Int) : Prop := l.Pairwise (· < ·) ∧ (∀ x ∈ l, 0 ≤ x ∧ x < m) ∧ l.length ≤ 1000
structure BookOk (h : House) (m : Int) (bk : List (Option Int × Clm)) : Prop where
  len : bk.length ≤ 30
  cl : ∀ p ∈ bk, Clm.Ok h m p.2
  te : ∀ p ∈ bk, ∀ i, p.1 = some i → 0 ≤ i ∧ i < m
def claimsM (bk : List (Option Int × Clm)) (l : List Int) : List Clm := (bk.filter fun p => !decide (p.1 ∈ l.map some)).map (·.2)
theorem claimsM_ok {h : House} {m : Int} {bk : List (Option Int × Clm)} {l : List Int} (ok : BookOk h m bk) : (∀ c ∈ claimsM bk l, Clm.Ok h m c) ∧ (claimsM bk l).length ≤ 30 := by
  unfold claimsM
  refine ⟨fun c hc => ?_, ?_⟩
  · obtain ⟨p, hp, rfl⟩ := List.mem_map.mp hc
    exact ok.cl p (List.mem_filter.mp hp).1
  · rw [List.length_map]
    exact Nat.le_trans (List.length_filter_le _ _) ok.len
theorem look_folk_ev {n : Nat} {m : Int} {l : List Int} {t : Tw} (hn : 2 ≤ n) (ok : FolkOk m l) : callN T n 20 [.int m, eT l] t = .ok .none t := by
  obtain ⟨n, rfl⟩ : ∃ m, n = m + 1 := ⟨n - 1, by omega⟩
  rw [callN_code (np := 2) (ns := 4) (c := c_look_folk) rfl rfl]
  obtain ⟨h1, h2, h3⟩ := ok
  simp [c_look_folk, eT]
  rw [ev_lc1n (t1 := t) PyData.int l (fun _ => .bool true) (by simp) (fun x hx => ⟨_, rfl, by
    have := h2 x hx
    simp
    rw [whole_ev (by omega)]
    simp [this.1]
    omega⟩)]
  simp
  rw [ev_lc1n (t1 := t) (fun k : Nat => .int (k : Nat)) (List.range (l.length - 1)) (fun _ => .bool false) (by
    simp
    rw [if_pos (small_of (by omega) (by omega)), rngs0]) (fun k hk => ⟨_, rfl, by
    have hk := List.mem_range.mp hk
    obtain ⟨x, y, q1, q2, q3⟩ := get_pair h1 (k := k) (by omega)
    simp
    rw [ixT_map (e := PyData.int) q1]
    simp only [R_of_some, R.bind]
    rw [show ((k : Int) + 1) = ((k + 1 : Nat) : Int) by omega, ixT_map (e := PyData.int) q2]
    simp
    omega⟩)]
  simp
theorem is_binding_ev {n : Nat} {h : House} {m : Int} {p : Option Int × Clm} {t : Tw} (hn : 3 ≤ n) (hc : Clm.Ok h m p.2) (ht : ∀ i, p.1 = some i → 0 ≤ i ∧ i < m) : callN T n 22 [eH h, .int m, eB p] t = .ok (.bool true) t := by
  obtain ⟨n, rfl⟩ : ∃ m, n = m + 1 := ⟨n - 1, by omega⟩
  rw [callN_code (np := 3) (ns := 3) (c := c_is_binding) rfl rfl]
  simp [c_is_binding, eB]
  rw [is_claim_ev (by omega) hc]
  simp
  cases q : p.1 with
  | none => simp [eO]
  | some i =>
    have := ht i q
    simp [eO]
    rw [whole_ev (by omega)]
    simp [this.1]
    omega
theorem book_fits_ev {n : Nat} {h : House} {m : Int} {bk : List (Option Int × Clm)} {t : Tw} (hn : 4 ≤ n) (ok : BookOk h m bk) : callN T n 24 [eH h, .int m, .list (bk.map eB)] t = .ok (.bool true) t := by
  obtain ⟨n, rfl⟩ : ∃ m, n = m + 1 := ⟨n - 1, by omega⟩
  rw [callN_code (np := 3) (ns := 4) (c := c_book_fits) rfl rfl]
  have hl := ok.len
  simp [c_book_fits, show ¬ (30 : Int) < bk.length by omega]
  rw [ev_lc1n (t1 := t) eB bk (fun _ => .bool true) (by simp) (fun x hx => ⟨_, rfl, by
    simp
    rw [is_binding_ev (by omega) (ok.cl x hx) (ok.te x hx)]⟩)]
  simp
theorem is_book_ev {n : Nat} {h : House} {m : Int} {bk : List (Option Int × Clm)} {t : Tw} (hn : 5 ≤ n) (hh : House.Ok h) (m1 : 1 ≤ m) (m4 : m ≤ 4) (ok : BookOk h m bk) : callN T n 23 [eH h, .int m, .list (bk.map eB)] t = .ok (.bool true) t := by
  obtain ⟨n, rfl⟩ : ∃ m, n = m + 1 := ⟨n - 1, by omega⟩
  rw [callN_code (np := 3) (ns := 3) (c := c_is_book) rfl rfl]
  simp [c_is_book]
  rw [look_house_ev (by omega) hh m1 m4]
  simp
  rw [book_fits_ev (by omega) ok]
  simp
theorem look_book_ev {n : Nat} {h : House} {m : Int} {bk : List (Option Int × Clm)} {t : Tw} (hn : 5 ≤ n) (hh : House.Ok h) (m1 : 1 ≤ m) (m4 : m ≤ 4) (ok : BookOk h m bk) : callN T n 25 [eH h, .int m, .list (bk.map eB)] t = .ok .none t := by
  obtain ⟨n, rfl⟩ : ∃ m, n = m + 1 := ⟨n - 1, by omega⟩
  rw [callN_code (np := 3) (ns := 3) (c := c_look_book) rfl rfl]
  simp [c_look_book]
  rw [look_house_ev (by omega) hh m1 m4]
  simp
  rw [book_fits_ev (by omega) ok]
  simp
theorem look_case_ev {n : Nat} {h : House} {m : Int} {bk : List (Option Int × Clm)} {l : List Int} {t : Tw} (hn : 6 ≤ n) (hh : House.Ok h) (m1 : 1 ≤ m) (m4 : m ≤ 4) (ok : BookOk h m bk) (hl : FolkOk m l) : callN T n 26 [eH h, .int m, .list (bk.map eB), eT l] t = .ok .none t := by
  obtain ⟨n, rfl⟩ : ∃ m, n = m + 1 := ⟨n - 1, by omega⟩
  rw [callN_code (np := 4) (ns := 4) (c := c_look_case) rfl rfl]
  simp [c_look_case]
  rw [look_book_ev (by omega) hh m1 m4 ok]
  simp
  rw [look_folk_ev (by omega) hl]
  simp
theorem claims_of_ev {n : Nat} {bk : List (Option Int × Clm)} {l : List Int} {t : Tw} (hn : 1 ≤ n) : callN T n 27 [.list (bk.map eB), eT l] t = .ok (.list ((claimsM bk l).map eC)) t := by
  obtain ⟨n, rfl⟩ : ∃ m, n = m + 1 := ⟨n - 1, by omega⟩
  rw [callN_code (np := 2) (ns := 4) (c := c_claims_of) rfl rfl]
  simp only [c_claims_of, List.map_cons, List.map_nil, List.cons_append, List.nil_append, ex_cons, xs_ret]
  rw [ev_lc1 (t1 := t) eB bk (fun p => !decide (p.1 ∈ l.map some)) (fun p => eC p.2) (by simp) (fun p hp => ⟨_, rfl, by
    simp [eT, cmp_ni_O], by simp⟩)]
  simp [claimsM]
theorem binding_ev {n : Nat} {h : House} {m : Int} {bk : List (Option Int × Clm)} {l : List Int} {t : Tw} (hn : 7 ≤ n) (hh : House.Ok h) (m1 : 1 ≤ m) (m4 : m ≤ 4) (ok : BookOk h m bk) (hl : FolkOk m l) : callN T n 28 [eH h, .int m, .list (bk.map eB), eT l] t = .ok (.list (((bk.zipIdx.filter fun p => !decide (p.1.1 ∈ l.map some)).map fun p => (p.2 : Int)).map .int)) t := by
  obtain ⟨n, rfl⟩ : ∃ m, n = m + 1 := ⟨n - 1, by omega⟩
  rw [callN_code (np := 4) (ns := 5) (c := c_binding) rfl rfl]
  have hlen := ok.len
  simp [c_binding]
  rw [look_case_ev (by omega) hh m1 m4 ok hl]
  simp
  rw [ev_lc1 (t1 := t) (fun p : (Option Int × Clm) × Nat => .int (p.2 : Nat)) bk.zipIdx (fun p => !decide (p.1.1 ∈ l.map some)) (fun p => .int (p.2 : Nat)) (by
    simp
    rw [if_pos (small_of (by omega) (by omega)), rngs0, range_zipIdx, List.map_map]
    rfl) (fun p hp => ⟨_, rfl, by
    have hx : bk[p.2]? = some p.1 := by simpa using List.mem_zipIdx_iff_getElem?.mp hp
    simp
    rw [ixL_map hx]
    simp [eB, eT, cmp_ni_O], by simp⟩)]
  simp
/-! ### stands, lots -/
theorem stands_ev {n : Nat} {h : House} {m : Int} {t : Tw} (hn : 1 ≤ n) (ok : House.Ok h) (m0 : 0 ≤ m) (m4 : m ≤ 4) : callN T n 21 [eH h, .int m] t = .ok (.list ((standsM h m).map eT)) t := by
  obtain ⟨n, rfl⟩ : ∃ m, n = m + 1 := ⟨n - 1, by omega⟩
  rw [callN_code (np := 2) (ns := 6) (c := c_stands) rfl rfl]
  have r6 := ok.r6
  have r1 := ok.r1
  simp [c_stands]
  rw [if_pos (small_of (by omega) (by omega)), rngs0]
  simp only []
  generalize hz : forLoop _ _ _ _ = z
  obtain ⟨env', t', rfl, x, y, w, rfl, rfl⟩ := for_at hz (fun k : Nat => .int (k : Nat)) (List.range m.toNat) rfl (fun d env t' => ∃ x y w, env = [some (false, eH h), some (false, .int m), some (false, .list ((prodL (List.replicate d.length (roomsL h))).map eT)), x, y, w] ∧ t' = t) ⟨none, none, none, rfl, rfl⟩ (fun d k rs env t' hp ⟨x, y, w, e, e2⟩ => by
    subst e e2
    have hd : d.length < 4 := by
      have := congrArg List.length hp
      simp at this
      omega
    refine ⟨_, _, ?_, some (false, .int (k : Nat)), y, w, rfl, rfl⟩
    have hbound : (prodL (List.replicate (d.length + 1) (roomsL h))).length ≤ 1296 := by
      refine Nat.le_trans (prodL_len_le (k := 6) _ fun l hl => ?_) ?_
      · rw [List.eq_of_mem_replicate hl]
        simp [roomsL]
        omega
      · rw [List.length_replicate]
        calc 6 ^ (d.length + 1) ≤ 6 ^ 4 := Nat.pow_le_pow_right (by decide) (by omega)
          _ = 1296 := by decide
    have hrep : List.replicate (d.length + 1) (roomsL h) = List.replicate d.length (roomsL h) ++ [roomsL h] := by rw [← List.replicate_succ']
    have hfl : (prodL (List.replicate d.length (roomsL h))).flatMap (fun s => (roomsL h).map fun r => eT (s ++ [r])) = (prodL (List.replicate (d.length + 1) (roomsL h))).map eT := by
      rw [hrep, prodL_snoc, List.map_flatMap]
      congr 1
      funext s
      rw [List.map_map]
      rfl
    simp
    rw [ev_lc2n (t1 := t') eT (prodL (List.replicate d.length (roomsL h))) PyData.int (fun _ => roomsL h) (fun s r => eT (s ++ [r])) (by simp) (fun s hs => ⟨_, rfl, by
      simp
      rw [if_pos (small_of (by omega) (by omega)), rngs0]
      simp [roomsL], fun r hr => ⟨_, rfl, by
      simp [eT]
      have hsl : s.length ≤ 4 := by
        have := all2_len ((prodL_mem _ s).mp hs)
        simp at this
        omega
      rw [bin_addT (by simp [lineN]; omega)]
      simp⟩⟩) (by rw [hfl, List.length_map]; unfold lineN; omega)]
    rw [hfl]
    simp)
  simp [standsM]
theorem let_at_ev {n : Nat} {h : House} {m : Int} {cl : List Clm} {b : Nat} {t : Tw} (hn : 4 ≤ n) (ok : House.Ok h) (m0 : 0 ≤ m) (m4 : m ≤ 4) (hc : ∀ c ∈ cl, Clm.Ok h m c) : callN T n 30 [eH h, .int m, .list (cl.map eC), .int (b : Nat)] t = .ok (.list ((letM h m cl b).map eT)) t := by
  obtain ⟨n, rfl⟩ : ∃ m, n = m + 1 := ⟨n - 1, by omega⟩
  rw [callN_code (np := 4) (ns := 7) (c := c_let_at) rfl rfl]
  simp [c_let_at]
  rw [ev_lc1 (t1 := t) eC cl (fun c => decide (c.beat = (b : Int))) eC (by simp) (fun c hc => ⟨_, rfl, by simp [beat_C], by simp⟩)]
  simp
  rw [ev_lc1 (t1 := t) eT (standsM h m) (fun s => (cl.filter fun c => decide (c.beat = (b : Int))).all fun c => holdsM h s c) eT (by
    simp
    rw [stands_ev (by omega) ok m0 m4]
    simp) (fun s hs => ⟨_, rfl, by
    simp
    rw [ev_lc1n (t1 := t) eC (cl.filter fun c => decide (c.beat = (b : Int))) (fun c => .bool (holdsM h s c)) (by simp) (fun c hcc => ⟨_, rfl, by
      simp
      rw [holds_ev (by omega) ok ((standsM_mem h m m0 s).mp hs) m4 (hc c (List.mem_filter.mp hcc).1)]⟩)]
    simp, by simp⟩)]
  simp [letM]
end Wl

set_option maxHeartbeats 4000000
namespace Wl
open PySem L2 Wv
theorem intsOf_map : ∀ l : List Int, intsOf (l.map .int) = some l
  | [] => rfl
  | x :: l => by rw [List.map_cons, intsOf, intsOf_map l]; rfl
theorem fold_max : ∀ (l : List Int) (m : Int), 0 ≤ m → l ≠ [] → (∀ x ∈ l, x = m) → l.foldl (fun a b => if a < b then b else a) 0 = m := by
  have key : ∀ (l : List Int) (m : Int), (∀ x ∈ l, x = m) → l.foldl (fun a b => if a < b then b else a) m = m := fun l => by
    induction l with
    | nil => exact fun _ _ => rfl
    | cons x l ih =>
      intro m h
      have e := h x (by simp)
      subst e
      rw [List.foldl_cons, if_neg (by omega)]
      exact ih x fun y hy => h y (by simp [hy])
  intro l m h0 hn h
  cases l with
  | nil => exact absurd rfl hn
  | cons x l =>
    have e := h x (by simp)
    subst e
    rw [List.foldl_cons]
    have : (if (0 : Int) < x then x else 0) = x := by
      by_cases q : (0 : Int) < x
      · rw [if_pos q]
      · rw [if_neg q]; omega
    rw [this]
    exact key l x fun y hy => h y (by simp [hy])
theorem bi_max {l : List Int} : biD .max [.list ((0 :: l).map .int)] = some (.int (l.foldl (fun a b => if a < b then b else a) 0)) := by
  show (intsOf ((0 :: l).map PyData.int)).bind _ = _
  rw [intsOf_map]
  rfl
theorem standOk_ne {h : House} {m : Int} {s : List Int} (m1 : 1 ≤ m) (hs : StandOk h m s) : s ≠ [] := fun e => by
  have := hs.1
  rw [e] at this
  simp at this
  omega
theorem led_ev {n : Nat} {h : House} {m b : Int} {ks : List (List Int)} {t : Tw} (hn : 3 ≤ n) (ok : House.Ok h) (m1 : 1 ≤ m) (m4 : m ≤ 4) (hk : ∀ s ∈ ks, StandOk h m s) (hl : ks.length ≤ 1296) (nd : ks.Nodup) : ∃ ks', callN T n 31 [eH h, eS ks, .int b] t = .ok (eS ks') t ∧ (∀ s', s' ∈ ks' ↔ ∃ s ∈ ks, stepB h b s s' = true) ∧ (∀ s ∈ ks', StandOk h m s) ∧ ks'.Nodup := by
  obtain ⟨n, rfl⟩ : ∃ m, n = m + 1 := ⟨n - 1, by omega⟩
  rw [callN_code (np := 3) (ns := 8) (c := c_led) rfl rfl]
  have r1 := ok.r1
  have r6 := ok.r6
  have dl := ok.dl
  have hne : ∀ s ∈ ks, s ≠ [] := fun s hs => standOk_ne m1 (hk s hs)
  simp [c_led]
  rw [ev_lc1n (t1 := t) (fun k : Nat => .int (k : Nat)) (List.range h.rooms.toNat) (fun k : Nat => .list (((k : Int) :: besideM h (k : Int) b).map .int)) (by
    simp
    rw [if_pos (small_of (by omega) (by omega)), rngs0]) (fun k hk => ⟨_, rfl, by
    simp
    rw [beside_ev (by omega) ok]
    simp only [R.bind]
    have := besideM_length h (k : Int) b
    rw [bin_addL (by simp [lineN]; omega)]
    simp⟩)]
  simp
  generalize hrooms : PyData.list ((List.range h.rooms.toNat).map fun k : Nat => PyData.list (PyData.int (k : Int) :: (besideM h (k : Int) b).map PyData.int)) = RM
  rw [ev_lc1n (t1 := t) eT ks (fun s => .int (s.length : Nat)) (by simp [valS hne]) (fun s hs => ⟨_, rfl, by simp [eT]⟩)]
  simp only [R.bind]
  rw [bin_addL (by simp [lineN]; omega)]
  simp only [R_of_some, R.bind, List.cons_append, List.nil_append]
  rw [show PyData.int 0 :: ks.map (fun s => PyData.int (s.length : Nat)) = (0 :: ks.map fun s => ((s.length : Nat) : Int)).map PyData.int by simp, bi_max]
  simp only [R_of_some, rng1R_b]
  have hmax : ∃ M : Nat, (ks.map fun s => ((s.length : Nat) : Int)).foldl (fun a b => if a < b then b else a) 0 = (M : Int) ∧ M ≤ 4 ∧ (ks ≠ [] → (M : Int) = m) ∧ (ks = [] → M = 0) := by
    by_cases e : ks = []
    · subst e
      exact ⟨0, rfl, by omega, fun q => absurd rfl q, fun _ => rfl⟩
    · refine ⟨m.toNat, ?_, by omega, fun _ => by omega, fun q => absurd q e⟩
      rw [fold_max _ m (by omega) (by simpa using e)]
      · omega
      · intro x hx
        obtain ⟨s, hs, rfl⟩ := List.mem_map.mp hx
        exact (hk s hs).1
  obtain ⟨M, eM, M4, hM, hM0⟩ := hmax
  rw [eM, if_pos (small_of (by omega) (by omega)), rngs0]
  simp only [Int.toNat_natCast]
  generalize hz : forLoop _ _ _ _ = z
  obtain ⟨env', t', rfl, K, x, rfl, rfl, j1, j2, j3⟩ := for_at hz (fun k : Nat => .int (k : Nat)) (List.range M) rfl (fun d env t' => ∃ K x, env = [some (false, eH h), some (false, eS ks), some (false, .int b), some (false, eS K), some (false, RM), x, none, none] ∧ t' = t ∧ (∀ s', s' ∈ K ↔ ∃ s ∈ ks, PStep h b d.length s s') ∧ (∀ s ∈ K, StandOk h m s) ∧ K.Nodup)
    ⟨ks, none, rfl, rfl, fun s' => by simp only [List.length_nil, pstep_0, exists_eq_right], hk, nd⟩ (fun d k rs env t' hp ⟨K, x, e, e2, j1, j2, j3⟩ => by
      subst e e2
      have hkd : k = d.length := by
        have q := congrArg (fun l => l[d.length]?) hp
        have hl := congrArg List.length hp
        simp at q hl
        rw [List.getElem?_range (by omega)] at q
        simpa using q.symm
      subst hkd
      have hdM : d.length < M := by
        have hl := congrArg List.length hp
        simp at hl
        omega
      have hksne : ks ≠ [] := fun q => by rw [hM0 q] at hdM; omega
      have hMm := hM hksne
      have hKne : ∀ s ∈ K, s ≠ [] := fun s hs => standOk_ne m1 (j2 s hs)
      have hKl : K.length ≤ 1296 := stands_len ok (by omega) m4 j3 j2
      have hns : ∀ u ∈ K, ∀ r, (at0 u (d.length : Int) = r ∨ r ∈ sideM h (at0 u (d.length : Int)) b) → StandOk h m (u.take d.length ++ [r] ++ u.drop (d.length + 1)) := fun u hu r hr => by
        have hs := j2 u hu
        have hlen := hs.1
        refine ⟨by simp; omega, fun x hx => ?_⟩
        simp only [List.mem_append, List.mem_singleton] at hx
        have hat : 0 ≤ at0 u (d.length : Int) ∧ at0 u (d.length : Int) < h.rooms := by
          refine hs.2 _ ?_
          unfold at0
          rw [Int.toNat_natCast, List.getD_eq_getElem?_getD, List.getElem?_eq_getElem (by omega)]
          exact List.getElem_mem _
        rcases hx with (hx | hx) | hx
        · exact hs.2 x (List.mem_of_mem_take hx)
        · subst hx
          rcases hr with q | q
          · rw [← q]; exact hat
          · have := side_ok ok q; exact ⟨this.1, this.2.1⟩
        · exact hs.2 x (List.mem_of_mem_drop hx)
      simp
      have hlen : ∀ u ∈ K, d.length < u.length := fun u hu => by have := (j2 u hu).1; omega
      have hat : ∀ u ∈ K, 0 ≤ at0 u (d.length : Int) ∧ at0 u (d.length : Int) < h.rooms := fun u hu => by
        refine (j2 u hu).2 _ ?_
        unfold at0
        rw [Int.toNat_natCast, List.getD_eq_getElem?_getD, List.getElem?_eq_getElem (hlen u hu)]
        exact List.getElem_mem _
      rw [ev_dc2n (t1 := t') eT K PyData.int (fun u => at0 u (d.length : Int) :: besideM h (at0 u (d.length : Int)) b) (fun u r => u.take d.length ++ [r] ++ u.drop (d.length + 1)) PyData.bool (fun _ _ => true) (by simp [valS hKne]) 7 (fun u hu => ?hN) ?hn (fun u hu => ⟨_, rfl, ?hI, fun r hr => ⟨_, rfl, ?hk, by simp, ?hne⟩⟩)]
      case hN =>
        have := beside_len ok (at0 u (d.length : Int)) b
        simp
        omega
      case hn => omega
      case hI =>
        obtain ⟨q1, q2⟩ := hat u hu
        have e1 : ixD (eT u) (.int (d.length : Nat)) = some (.int (at0 u (d.length : Int))) := ixT_int (by omega) (by have := hlen u hu; omega)
        have e2 : ixD RM (.int (at0 u (d.length : Int))) = some (.list ((at0 u (d.length : Int) :: besideM h (at0 u (d.length : Int)) b).map .int)) := by
          obtain ⟨r, hr⟩ : ∃ r : Nat, at0 u (d.length : Int) = (r : Int) := ⟨(at0 u (d.length : Int)).toNat, by omega⟩
          rw [hr, ← hrooms, ixL_map (List.getElem?_range (show r < h.rooms.toNat by omega))]
          simp
        simp [e1, e2]
      case hk =>
        have hl := hlen u hu
        have s1 := slT_to (u := u) (k := d.length) (by omega)
        have s2 := slT_from (u := u) (k := d.length + 1) (by omega)
        simp
        rw [s1]
        simp only [R_of_some, R.bind]
        have hl4 : u.length ≤ 4 := by have := (j2 u hu).1; omega
        rw [show eT (u.take d.length) = .tuple ((u.take d.length).map .int) from rfl, bin_addT (by simp [lineN]; omega)]
        simp only [R_of_some, R.bind]
        rw [show ((d.length : Int) + 1) = ((d.length + 1 : Nat) : Int) by omega, s2]
        simp only [R_of_some, R.bind]
        rw [show eT (u.drop (d.length + 1)) = .tuple ((u.drop (d.length + 1)).map .int) from rfl, bin_addT (by simp [lineN]; omega)]
        simp [eT]
      case hne => simp
      rw [true_S (fold2_true _ _ _ _ (by simp))]
      simp only []
      have fk := fold2_keys (fun u => at0 u (d.length : Int) :: besideM h (at0 u (d.length : Int)) b) (fun u r => u.take d.length ++ [r] ++ u.drop (d.length + 1)) (fun (_ : List Int) (_ : Int) => true) K []
      have mem : ∀ s', s' ∈ ((K.foldl (fun l x => (at0 x (d.length : Int) :: besideM h (at0 x (d.length : Int)) b).foldl (fun l z => putP l (x.take d.length ++ [z] ++ x.drop (d.length + 1)) true) l) []).map (·.1)) ↔ ∃ u ∈ K, ∃ r, (at0 u (d.length : Int) = r ∨ r ∈ sideM h (at0 u (d.length : Int)) b) ∧ s' = u.take d.length ++ [r] ++ u.drop (d.length + 1) := fun s' => by
        rw [fk.1]
        simp only [List.map_nil, List.not_mem_nil, false_or, List.mem_cons, beside_mem]
        constructor
        · rintro ⟨u, hu, r, hr, e⟩
          exact ⟨u, hu, r, hr.imp Eq.symm id, e⟩
        · rintro ⟨u, hu, r, hr, e⟩
          exact ⟨u, hu, r, hr.imp Eq.symm id, e⟩
      refine ⟨_, _, rfl, _, ⟨some (false, PyData.int (d.length : Nat)), rfl⟩, rfl, fun s' => ?_, fun s' hs' => ?_, fk.2 (by simp)⟩
      · rw [mem]
        constructor
        · rintro ⟨u, hu, r, hr, e⟩
          obtain ⟨s, hs, q⟩ := (j1 u).mp hu
          exact ⟨s, hs, (pstep_succ (by have := (hk s hs).1; omega)).mpr ⟨u, q, r, hr, e⟩⟩
        · rintro ⟨s, hs, q⟩
          obtain ⟨u, q1, r, hr, e⟩ := (pstep_succ (by have := (hk s hs).1; omega)).mp q
          exact ⟨u, (j1 u).mpr ⟨s, hs, q1⟩, r, hr, e⟩
      · obtain ⟨u, hu, r, hr, rfl⟩ := (mem s').mp hs'
        exact hns u hu r hr)
  refine ⟨K, by simp, fun s' => ?_, j2, j3⟩
  rw [j1, List.length_range]
  constructor
  · rintro ⟨s, hs, q⟩
    have hM' := hM (List.ne_nil_of_mem hs)
    have e : M = s.length := by have := (hk s hs).1; omega
    rw [e] at q
    exact ⟨s, hs, pstep_all.mp q⟩
  · rintro ⟨s, hs, q⟩
    have hM' := hM (List.ne_nil_of_mem hs)
    have e : M = s.length := by have := (hk s hs).1; omega
    refine ⟨s, hs, ?_⟩
    rw [e]
    exact pstep_all.mpr q
end Wl

set_option maxHeartbeats 4000000
namespace Wl
open PySem L2 Wv
theorem ixL_last (xs : List PyData) (x : PyData) : ixD (.list (xs ++ [x])) (.int (-1)) = some x := by
  show atI _ _ = _
  unfold atI ixN
  rw [if_neg (by omega), if_pos (by simp; omega)]
  simp only [Option.bind_some, List.length_append, List.length_singleton]
  have : ((-1 : Int) + ((xs.length + 1 : Nat) : Int)).toNat = xs.length := by omega
  rw [this]
  simp
theorem range_at {d rs : List Nat} {k n : Nat} (hp : List.range n = d ++ k :: rs) : k = d.length ∧ d.length < n := by
  have q := congrArg (fun l => l[d.length]?) hp
  have hl := congrArg List.length hp
  simp at q hl
  rw [List.getElem?_range (by omega)] at q
  exact ⟨by simpa using q.symm, by omega⟩
/-- a dict of all stands of a list -/
theorem ev_set {F : Nat → List PyData → Tw → R PyData} {m : Bool} {env : Wv.Env} {t t1 : Tw} {v : CE} {own : List Nat} {tg : Tg} {it : CI} {c : CO} {k : CE} (xs : List (List Int)) (p : List Int → Bool) (hi : evalI F it env t = .ok (xs.map eT) t1) (hn : xs.length < 1000000) (nd : xs.Nodup)
    (hb : ∀ x ∈ xs, ∃ env', bindTg tg (eT x) (wipeE env own) = some env' ∧ evalC F c env' t1 = .ok (p x) t1 ∧ evalE F false k env' t1 = .ok (eT x) t1 ∧ evalE F false v env' t1 = .ok (.bool true) t1 ∧ x ≠ []) :
    evalE F m (.dc1 k v own tg it c) env t = .ok (eS (xs.filter p)) t1 := by
  rw [ev_dc1 eT xs p id PyData.bool (fun _ => true) hi hn fun x hx => by
    obtain ⟨env', h1, h2, h3, h4, h5⟩ := hb x hx
    exact ⟨env', h1, h2, fun _ => ⟨h3, h4, h5⟩⟩]
  rw [fold_put id (fun _ => true) (xs.filter p) [] (by simpa using nd.sublist List.filter_sublist)]
  simp [eS]
theorem ahead_filter {h : House} {m : Int} {cl : List Clm} {ks : List (List Int)} {d : Nat} (hks : ∀ s ∈ letM h m cl d, (s ∈ ks ↔ d = 0 ∨ ∃ s0 ∈ aheadL h m cl (d - 1), stepB h ((d - 1 : Nat) : Int) s0 s = true)) : (letM h m cl d).filter (fun s => decide (s ∈ ks)) = aheadL h m cl d := by
  cases d with
  | zero =>
    rw [aheadL]
    refine List.filter_eq_self.mpr fun s hs => ?_
    simpa using (hks s hs).mpr (.inl rfl)
  | succ d =>
    rw [aheadL]
    refine List.filter_congr fun s hs => ?_
    have := hks s hs
    simp only [Nat.add_one_ne_zero, false_or, Nat.add_sub_cancel] at this
    rw [Bool.eq_iff_iff, decide_eq_true_eq, List.any_eq_true]
    exact this
theorem letM_ok {h : House} {m : Int} (m0 : 0 ≤ m) {cl : List Clm} {b : Nat} {s : List Int} (hs : s ∈ letM h m cl b) : StandOk h m s := (standsM_mem h m m0 s).mp ((letM_sub h m cl b).subset hs)
theorem letM_nodup (h : House) (m : Int) (cl : List Clm) (b : Nat) : (letM h m cl b).Nodup := (nodup_of (standsM_rising h m)).sublist (letM_sub h m cl b)
theorem aheadL_ok {h : House} {m : Int} (m0 : 0 ≤ m) {cl : List Clm} {b : Nat} {s : List Int} (hs : s ∈ aheadL h m cl b) : StandOk h m s := letM_ok m0 ((aheadL_sub h m cl b).subset hs)
theorem aheadL_nodup (h : House) (m : Int) (cl : List Clm) (b : Nat) : (aheadL h m cl b).Nodup := (letM_nodup h m cl b).sublist (aheadL_sub h m cl b)
theorem behindL_ok {h : House} {m : Int} (m0 : 0 ≤ m) {cl : List Clm} {l b : Nat} {s : List Int} (hs : s ∈ behindL h m cl l b) : StandOk h m s := letM_ok m0 ((behindL_sub h m cl l b).subset hs)
theorem behindL_nodup (h : House) (m : Int) (cl : List Clm) (l b : Nat) : (behindL h m cl l b).Nodup := (letM_nodup h m cl _).sublist (behindL_sub h m cl l b)
theorem ahead_lots_ev {n : Nat} {h : House} {m : Int} {cl : List Clm} {t : Tw} (hn : 5 ≤ n) (ok : House.Ok h) (m1 : 1 ≤ m) (m4 : m ≤ 4) (hc : ∀ c ∈ cl, Clm.Ok h m c) : callN T n 32 [eH h, .int m, .list (cl.map eC)] t = .ok (.list ((List.range (h.last.toNat + 1)).map fun b => eS (aheadL h m cl b))) t := by
  obtain ⟨n, rfl⟩ : ∃ m, n = m + 1 := ⟨n - 1, by omega⟩
  rw [callN_code (np := 3) (ns := 8) (c := c_ahead_lots) rfl rfl]
  have l0 := ok.l0
  have l12 := ok.l12
  have hst := standsM_len ok m4
  simp [c_ahead_lots]
  rw [ev_set (t1 := t) (standsM h m) (fun _ => true) (by simp; rw [stands_ev (by omega) ok (by omega) m4]; simp) (by omega) (nodup_of (standsM_rising h m)) (fun s hs => ⟨_, rfl, by simp, by simp, by simp, standOk_ne m1 ((standsM_mem h m (by omega) s).mp hs)⟩)]
  simp
  rw [if_pos (small_of (by omega) (by omega)), rngs0]
  simp only []
  generalize hz : forLoop _ _ _ _ = z
  obtain ⟨env', t', rfl, ks, x, y, rfl, rfl, _⟩ := for_at hz (fun k : Nat => .int (k : Nat)) (List.range (h.last + 1).toNat) rfl (fun d env t' => ∃ ks x y, env = [some (false, eH h), some (false, .int m), some (false, .list (cl.map eC)), some (true, .list ((List.range d.length).map fun b => eS (aheadL h m cl b))), some (false, eS ks), x, y, none] ∧ t' = t ∧ (∀ s ∈ ks, StandOk h m s) ∧ ∀ s ∈ letM h m cl d.length, (s ∈ ks ↔ d.length = 0 ∨ ∃ s0 ∈ aheadL h m cl (d.length - 1), stepB h ((d.length - 1 : Nat) : Int) s0 s = true))
    ⟨standsM h m, none, none, by rw [show (standsM h m).filter (fun _ => true) = standsM h m from List.filter_eq_self.mpr fun _ _ => rfl]; rfl, rfl, fun s hs => (standsM_mem h m (by omega) s).mp hs, fun s hs => ⟨fun _ => .inl rfl, fun _ => (letM_sub h m cl _).subset hs⟩⟩ (fun d k rs env t' hp ⟨ks, x, y, e, e2, j1, j2⟩ => by
      subst e e2
      obtain ⟨rfl, hd⟩ := range_at hp
      have hkne : ∀ s ∈ ks, s ≠ [] := fun s hs => standOk_ne m1 (j1 s hs)
      have hlen : (letM h m cl d.length).length ≤ 1296 := Nat.le_trans (letM_sub h m cl d.length).length_le hst
      obtain ⟨ks', e1, q1, q2, q3⟩ := led_ev (n := n) (b := (d.length : Int)) (t := t') (by omega) ok m1 m4 (fun s hs => aheadL_ok (b := d.length) (cl := cl) (by omega) hs) (stands_len ok (by omega) m4 (aheadL_nodup h m cl d.length) fun s hs => aheadL_ok (by omega) hs) (aheadL_nodup h m cl d.length)
      refine ⟨_, _, ?_, ks', some (false, .int (d.length : Nat)), some (false, .list ((letM h m cl d.length).map eT)), rfl, rfl, q2, fun s hs => ?_⟩
      · simp
        rw [let_at_ev (by omega) ok (by omega) m4 hc]
        simp
        rw [ev_set (t1 := t') (letM h m cl d.length) (fun s => decide (s ∈ ks)) (by simp) (by omega) (letM_nodup h m cl d.length) (fun s hs => ⟨_, rfl, by
          simp
          rw [inS (standOk_ne m1 (letM_ok (by omega) hs)) hkne]
          simp, by simp, by simp, standOk_ne m1 (letM_ok (by omega) hs)⟩)]
        rw [ahead_filter j2]
        simp [show d.length < lineN by unfold lineN; omega]
        rw [ixL_last]
        simp
        rw [e1]
        simp [List.range_succ]
      · rw [q1]
        simp)
  simp [show (h.last + 1).toNat = h.last.toNat + 1 by omega]
theorem rngs_down : ∀ (n : Nat) (a : Int), rngs a (-1) n = (List.range n).map fun k : Nat => PyData.int (a - (k : Nat))
  | 0, a => rfl
  | n + 1, a => by
    rw [rngs, rngs_down n (a + -1), List.range_succ_eq_map, List.map_cons, List.map_map]
    congr 1
    · simp
    · apply List.map_congr_left
      intro k _
      simp only [Function.comp]
      congr 1
      omega
theorem behind_filter {h : House} {m : Int} {cl : List Clm} {ks : List (List Int)} {L k : Nat} (hks : ∀ s ∈ letM h m cl (L - k), (s ∈ ks ↔ k = 0 ∨ ∃ s1 ∈ behindL h m cl L (k - 1), stepB h ((L - k : Nat) : Int) s s1 = true)) : (letM h m cl (L - k)).filter (fun s => decide (s ∈ ks)) = behindL h m cl L k := by
  cases k with
  | zero =>
    rw [behindL]
    refine List.filter_eq_self.mpr fun s hs => ?_
    simpa using (hks s hs).mpr (.inl rfl)
  | succ k =>
    rw [behindL]
    refine List.filter_congr fun s hs => ?_
    have := hks s hs
    simp only [Nat.add_one_ne_zero, false_or, Nat.add_sub_cancel] at this
    rw [Bool.eq_iff_iff, decide_eq_true_eq, List.any_eq_true]
    exact this
theorem rev_range {α : Type} (f : Nat → α) (L : Nat) : ((List.range (L + 1)).map f).reverse = (List.range (L + 1)).map fun b => f (L - b) := by
  apply List.ext_getElem?
  intro i
  by_cases h : i < L + 1
  · rw [List.getElem?_reverse (by simpa using h)]
    simp [h, show L + 1 - 1 - i < L + 1 by omega]
    exact ⟨L - i, by rw [List.getElem?_range (by omega)], rfl⟩
  · rw [List.getElem?_eq_none (by simp; omega), List.getElem?_eq_none (by simp; omega)]
theorem behind_lots_ev {n : Nat} {h : House} {m : Int} {cl : List Clm} {t : Tw} (hn : 5 ≤ n) (ok : House.Ok h) (m1 : 1 ≤ m) (m4 : m ≤ 4) (hc : ∀ c ∈ cl, Clm.Ok h m c) : callN T n 33 [eH h, .int m, .list (cl.map eC)] t = .ok (.list ((List.range (h.last.toNat + 1)).map fun b => eS (behindL h m cl h.last.toNat (h.last.toNat - b)))) t := by
  obtain ⟨n, rfl⟩ : ∃ m, n = m + 1 := ⟨n - 1, by omega⟩
  rw [callN_code (np := 3) (ns := 8) (c := c_behind_lots) rfl rfl]
  have l0 := ok.l0
  have l12 := ok.l12
  have hst := standsM_len ok m4
  generalize hL : h.last.toNat = L
  have hlast : h.last = (L : Int) := by omega
  simp [c_behind_lots]
  rw [ev_set (t1 := t) (standsM h m) (fun _ => true) (by simp; rw [stands_ev (by omega) ok (by omega) m4]; simp) (by omega) (nodup_of (standsM_rising h m)) (fun s hs => ⟨_, rfl, by simp, by simp, by simp, standOk_ne m1 ((standsM_mem h m (by omega) s).mp hs)⟩)]
  simp
  rw [if_pos ⟨small_of (by omega) (by omega), by decide⟩, rngs_down, show (h.last + 1).toNat = L + 1 by omega]
  rw [show (List.range (L + 1)).map (fun k : Nat => PyData.int (h.last - (k : Nat))) = (List.range (L + 1)).map fun k : Nat => PyData.int ((L - k : Nat) : Int) from List.map_congr_left fun k hk => by
    have := List.mem_range.mp hk
    congr 1
    omega]
  simp only []
  generalize hz : forLoop _ _ _ _ = z
  obtain ⟨env', t', rfl, ks, x, y, rfl, rfl, _⟩ := for_at hz (fun k : Nat => .int ((L - k : Nat) : Int)) (List.range (L + 1)) rfl (fun d env t' => ∃ ks x y, env = [some (false, eH h), some (false, .int m), some (false, .list (cl.map eC)), some (true, .list ((List.range d.length).map fun b => eS (behindL h m cl L b))), some (false, eS ks), x, y, none] ∧ t' = t ∧ (∀ s ∈ ks, StandOk h m s) ∧ (d.length ≤ L → ∀ s ∈ letM h m cl (L - d.length), (s ∈ ks ↔ d.length = 0 ∨ ∃ s1 ∈ behindL h m cl L (d.length - 1), stepB h ((L - d.length : Nat) : Int) s s1 = true)))
    ⟨standsM h m, none, none, by rw [show (standsM h m).filter (fun _ => true) = standsM h m from List.filter_eq_self.mpr fun _ _ => rfl]; rfl, rfl, fun s hs => (standsM_mem h m (by omega) s).mp hs, fun _ s hs => ⟨fun _ => .inl rfl, fun _ => (letM_sub h m cl _).subset hs⟩⟩ (fun d k rs env t' hp ⟨ks, x, y, e, e2, j1, j2⟩ => by
      subst e e2
      obtain ⟨rfl, hd⟩ := range_at hp
      have j2 := j2 (by omega)
      have hkne : ∀ s ∈ ks, s ≠ [] := fun s hs => standOk_ne m1 (j1 s hs)
      have hlen : (letM h m cl (L - d.length)).length ≤ 1296 := Nat.le_trans (letM_sub h m cl _).length_le hst
      obtain ⟨ks', e1, q1, q2, q3⟩ := led_ev (n := n) (b := ((L - d.length : Nat) : Int) - 1) (t := t') (by omega) ok m1 m4 (fun s hs => behindL_ok (b := d.length) (l := L) (cl := cl) (by omega) hs) (stands_len ok (by omega) m4 (behindL_nodup h m cl L d.length) fun s hs => behindL_ok (by omega) hs) (behindL_nodup h m cl L d.length)
      refine ⟨_, _, ?_, ks', some (false, .int ((L - d.length : Nat) : Int)), some (false, .list ((letM h m cl (L - d.length)).map eT)), rfl, rfl, q2, fun hle s hs => ?_⟩
      · simp
        rw [let_at_ev (by omega) ok (by omega) m4 hc]
        simp
        rw [ev_set (t1 := t') (letM h m cl (L - d.length)) (fun s => decide (s ∈ ks)) (by simp) (by omega) (letM_nodup h m cl _) (fun s hs => ⟨_, rfl, by
          simp
          rw [inS (standOk_ne m1 (letM_ok (by omega) hs)) hkne]
          simp, by simp, by simp, standOk_ne m1 (letM_ok (by omega) hs)⟩)]
        rw [behind_filter j2]
        simp [show d.length < lineN by unfold lineN; omega]
        rw [ixL_last]
        simp
        rw [e1]
        simp [List.range_succ]
      · rw [q1]
        simp at hle
        simp
        have eb : ((L - d.length : Nat) : Int) - 1 = ((L - (d.length + 1) : Nat) : Int) := by omega
        rw [eb]
        constructor
        · rintro ⟨s1, h1, h2⟩
          exact ⟨s1, h1, by rw [step_sym]; exact h2⟩
        · rintro ⟨s1, h1, h2⟩
          exact ⟨s1, h1, by rw [step_sym]; exact h2⟩)
  simp [revD]
  exact rev_range (fun b => eS (behindL h m cl L b)) L
end Wl

set_option maxHeartbeats 4000000
namespace Wl
open PySem L2 Wv
def eL (r : List (List Int)) : PyData := .list (r.map eT)
def eLL (rows : List (List (List Int))) : PyData := .list (rows.map eL)
theorem good_L : GoodE eL := good_T.list fun l => by
  simp only [eT, PyData.depth]
  exact Nat.succ_le_succ (Nat.le_trans (depthAll_map (n := 0) (fun _ => Nat.le_refl _) l) (by decide))
theorem eL_depth (l : List (List Int)) : (eL l).depth ≤ 19 := by
  simp only [eL, PyData.depth]
  exact Nat.succ_le_succ (depthAll_map (n := 18) (fun l => by
    simp only [eT, PyData.depth]
    exact Nat.succ_le_succ (Nat.le_trans (depthAll_map (n := 0) (fun _ => Nat.le_refl _) l) (by decide))) l)
theorem good_LL : GoodE eLL := good_L.list eL_depth
def lotsM (h : House) (m : Int) (cl : List Clm) : List (List (List Int)) := (List.range (h.last.toNat + 1)).map (metM h m cl h.last.toNat)
theorem metM_ok {h : House} {m : Int} (m0 : 0 ≤ m) {cl : List Clm} {l b : Nat} {s : List Int} (hs : s ∈ metM h m cl l b) : StandOk h m s := (standsM_mem h m m0 s).mp ((metM_sub h m cl l b).subset hs)
theorem isort_rising {l : List (List Int)} (h : l.Pairwise (fun a b => ltL a b = true)) : isort leT l = l := lin_T.sort_self (sorted_of h)
theorem met_lots_ev {n : Nat} {h : House} {m : Int} {cl : List Clm} {t : Tw} (hn : 6 ≤ n) (ok : House.Ok h) (m1 : 1 ≤ m) (m4 : m ≤ 4) (hc : ∀ c ∈ cl, Clm.Ok h m c) : callN T n 34 [eH h, .int m, .list (cl.map eC)] t = .ok (eLL (lotsM h m cl)) t := by
  obtain ⟨n, rfl⟩ : ∃ m, n = m + 1 := ⟨n - 1, by omega⟩
  rw [callN_code (np := 3) (ns := 7) (c := c_met_lots) rfl rfl]
  have l0 := ok.l0
  have l12 := ok.l12
  simp [c_met_lots]
  rw [ahead_lots_ev (by omega) ok m1 m4 hc]
  simp
  rw [behind_lots_ev (by omega) ok m1 m4 hc]
  simp
  rw [ev_lc1n (t1 := t) (fun k : Nat => .int (k : Nat)) (List.range (h.last.toNat + 1)) (fun b => eL (metM h m cl h.last.toNat b)) (by
    simp
    rw [if_pos (small_of (by omega) (by omega)), rngs0]
    rw [show (max h.last 0 + 1).toNat = h.last.toNat + 1 by omega]) (fun b hb => ⟨_, rfl, by
    have hb := List.mem_range.mp hb
    have hne : ∀ s ∈ behindL h m cl h.last.toNat (h.last.toNat - b), s ≠ [] := fun s hs => standOk_ne m1 (behindL_ok (by omega) hs)
    have hna : ∀ s ∈ aheadL h m cl b, s ≠ [] := fun s hs => standOk_ne m1 (aheadL_ok (by omega) hs)
    simp
    rw [ev_lc1 (t1 := t) eT (aheadL h m cl b) (fun s => decide (s ∈ behindL h m cl h.last.toNat (h.last.toNat - b))) eT (by
      simp
      rw [ixL_map (e := fun b => eS (aheadL h m cl b)) (List.getElem?_range hb)]
      simp [valS hna]) (fun s hs => ⟨_, rfl, by
      simp
      rw [ixL_map (e := fun b => eS (behindL h m cl h.last.toNat (h.last.toNat - b))) (List.getElem?_range hb)]
      simp
      rw [inS (hna s hs) hne]
      simp, by simp⟩)]
    simp only [R.bind]
    rw [show (aheadL h m cl b).filter (fun s => decide (s ∈ behindL h m cl h.last.toNat (h.last.toNat - b))) = metM h m cl h.last.toNat b from rfl]
    rw [bi_sort_T fun s hs => standOk_ne m1 (metM_ok (by omega) hs), isort_rising (metM_rising h m cl h.last.toNat b)]
    simp [eL]⟩)]
  simp [eLL, lotsM]
theorem lots_ev {n : Nat} {h : House} {m : Int} {bk : List (Option Int × Clm)} {l : List Int} {t : Tw} (hn : 7 ≤ n) (hh : House.Ok h) (m1 : 1 ≤ m) (m4 : m ≤ 4) (ok : BookOk h m bk) (hl : FolkOk m l) : callN T n 35 [eH h, .int m, .list (bk.map eB), eT l] t = .ok (eLL (lotsM h m (claimsM bk l))) t := by
  obtain ⟨n, rfl⟩ : ∃ m, n = m + 1 := ⟨n - 1, by omega⟩
  rw [callN_code (np := 4) (ns := 4) (c := c_lots) rfl rfl]
  simp [c_lots]
  rw [look_case_ev (by omega) hh m1 m4 ok hl]
  simp
  rw [claims_of_ev (by omega)]
  simp
  rw [met_lots_ev (by omega) hh m1 m4 (claimsM_ok ok).1]
  simp
/-! ### steps -/
theorem step_zip {h : House} {b : Int} : ∀ {s s' : List Int}, s.length = s'.length → (s.zip s').all (fun p => decide (p.1 = p.2) || decide (p.2 ∈ besideM h p.1 b)) = stepB h b s s'
  | [], [], _ => rfl
  | [], _ :: _, h => by cases h
  | _ :: _, [], h => by cases h
  | r :: s, r' :: s', l => by
    rw [List.zip_cons_cons, List.all_cons, stepB, step_zip (by simpa using l)]
    congr 2
    rw [decide_eq_decide]
    exact beside_mem
theorem is_step_ev {n : Nat} {h : House} {b : Int} {s s' : List Int} {t : Tw} (hn : 3 ≤ n) (ok : House.Ok h) (hl : s.length = s'.length) : callN T n 36 [eH h, eT s, eT s', .int b] t = .ok (.bool (stepB h b s s')) t := by
  obtain ⟨n, rfl⟩ : ∃ m, n = m + 1 := ⟨n - 1, by omega⟩
  rw [callN_code (np := 4) (ns := 7) (c := c_is_step) rfl rfl]
  simp [c_is_step, eT, zipD, hl]
  rw [show List.zipWith (fun x y => PyData.tuple [PyData.int x, PyData.int y]) s s' = (s.zip s').map fun p => PyData.tuple [.int p.1, .int p.2] by simp [List.zip, List.map_zipWith]]
  rw [ev_lc1n (t1 := t) (fun p : Int × Int => PyData.tuple [.int p.1, .int p.2]) (s.zip s') (fun p => .bool (decide (p.1 = p.2) || decide (p.2 ∈ besideM h p.1 b))) (by simp) (fun p hp => ⟨_, rfl, by
    simp
    by_cases q : p.1 = p.2
    · simp [q]
    · simp [q]
      rw [beside_ev (by omega) ok]
      simp⟩)]
  simp only [R.bind]
  rw [bi_all, step_zip hl]
  simp
end Wl

set_option maxHeartbeats 4000000
namespace Wl
open PySem L2 Wv
theorem repl_snoc {α : Type} (n : Nat) (a : α) : List.replicate (n + 1) a = List.replicate n a ++ [a] := by rw [← List.replicate_succ']
theorem flat_snoc {α β : Type} (f : α → List β) (d : List α) (x : α) : (d ++ [x]).flatMap f = d.flatMap f ++ f x := by simp
theorem flat_len_le {α β : Type} (f : α → List β) {d rs : List α} {x : α} {l : List α} (h : l = d ++ x :: rs) : (d.flatMap f).length + (f x).length ≤ (l.flatMap f).length := by
  subst h
  simp
theorem law_stands_ev {n : Nat} {h : House} {m : Int} {t : Tw} (hn : 1 ≤ n) (ok : House.Ok h) (m0 : 0 ≤ m) (m4 : m ≤ 4) : callN T n 43 [eH h, .int m] t = .ok (eL (standsM h m)) t := by
  obtain ⟨n, rfl⟩ : ∃ m, n = m + 1 := ⟨n - 1, by omega⟩
  rw [callN_code (np := 2) (ns := 7) (c := c__law_stands) rfl rfl]
  have r6 := ok.r6
  have r1 := ok.r1
  simp [c__law_stands]
  rw [if_pos (small_of (by omega) (by omega)), rngs0]
  simp only []
  generalize hz : forLoop _ _ _ _ = z
  obtain ⟨env', t', rfl, x, y, w, rfl, rfl⟩ := for_at hz (fun k : Nat => .int (k : Nat)) (List.range m.toNat) rfl (fun d env t' => ∃ x y w, env = [some (false, eH h), some (false, .int m), some (false, eL (prodL (List.replicate d.length (roomsL h)))), x, y, w, none] ∧ t' = t) ⟨none, none, none, rfl, rfl⟩ (fun d k rs env t' hp ⟨x, y, w, e, e2⟩ => by
    subst e e2
    obtain ⟨rfl, hd⟩ := range_at hp
    have hbound : (prodL (List.replicate (d.length + 1) (roomsL h))).length ≤ 1296 := by
      refine Nat.le_trans (prodL_len_le (k := 6) _ fun l hl => ?_) ?_
      · rw [List.eq_of_mem_replicate hl]
        simp [roomsL]
        omega
      · rw [List.length_replicate]
        calc 6 ^ (d.length + 1) ≤ 6 ^ 4 := Nat.pow_le_pow_right (by decide) (by omega)
          _ = 1296 := by decide
    rw [repl_snoc, prodL_snoc] at hbound
    simp [eL]
    generalize hz : forLoop _ _ _ _ = z
    obtain ⟨env', t', rfl, y, rfl, rfl⟩ := for_at hz eT (prodL (List.replicate d.length (roomsL h))) rfl (fun dd env t2 => ∃ y, env = [some (false, eH h), some (false, .int m), some (false, eL (prodL (List.replicate d.length (roomsL h)))), some (false, .int (d.length : Nat)), some (false, eL (dd.flatMap fun s => (roomsL h).map fun r => s ++ [r])), y, none] ∧ t2 = t') ⟨w, rfl, rfl⟩ (fun dd s rs env t2 hp ⟨y, e, e2⟩ => by
      subst e e2
      have hs : s ∈ prodL (List.replicate d.length (roomsL h)) := by rw [hp]; simp
      have hsl : s.length ≤ 4 := by
        have := all2_len ((prodL_mem _ s).mp hs)
        simp at this
        omega
      have hfl := flat_len_le (fun s => (roomsL h).map fun r => s ++ [r]) hp
      refine ⟨_, _, ?_, some (false, eT s), rfl, rfl⟩
      simp
      rw [ev_lc1n (t1 := t2) PyData.int (roomsL h) (fun r => eT (s ++ [r])) (by
        simp
        rw [if_pos (small_of (by omega) (by omega)), rngs0]
        simp [roomsL]) (fun r hr => ⟨_, rfl, by
        simp [eT]
        rw [bin_addT (by simp [lineN]; omega)]
        simp⟩)]
      simp only [R.bind, eL]
      rw [bin_addL (by simp only [List.length_map] at hfl ⊢; unfold lineN; omega)]
      simp [Function.comp_def])
    simp
    rw [repl_snoc, prodL_snoc]
    rfl)
  simp [standsM]
theorem law_steps_ev {n : Nat} {h : House} {s : List Int} {b : Int} {t : Tw} (hn : 2 ≤ n) (ok : House.Ok h) (hs : s.length ≤ 4) : callN T n 44 [eH h, eT s, .int b] t = .ok (eL (stepsM h s b)) t := by
  obtain ⟨n, rfl⟩ : ∃ m, n = m + 1 := ⟨n - 1, by omega⟩
  rw [callN_code (np := 3) (ns := 8) (c := c__law_steps) rfl rfl]
  simp [c__law_steps, eT]
  generalize hz : forLoop _ _ _ _ = z
  obtain ⟨env', t', rfl, x, y, w, rfl, rfl⟩ := for_at hz PyData.int s rfl (fun d env t' => ∃ x y w, env = [some (false, eH h), some (false, eT s), some (false, .int b), some (false, eL (prodL (d.map fun r => nextM h r b))), x, y, w, none] ∧ t' = t) ⟨none, none, none, rfl, rfl⟩ (fun d r rs env t' hp ⟨x, y, w, e, e2⟩ => by
    subst e e2
    have hd : d.length < 4 := by
      have := congrArg List.length hp
      simp at this
      omega
    have hnl : ∀ r, (nextM h r b).length ≤ 7 := fun r => by
      unfold nextM
      rw [isort_length]
      have := side_len ok r b
      simp
      omega
    have hbound : (prodL ((d ++ [r]).map fun r => nextM h r b)).length ≤ 2401 := by
      refine Nat.le_trans (prodL_len_le (k := 7) _ fun l hl => ?_) ?_
      · obtain ⟨r, _, rfl⟩ := List.mem_map.mp hl
        exact hnl r
      · rw [List.length_map, List.length_append, List.length_singleton]
        calc 7 ^ (d.length + 1) ≤ 7 ^ 4 := Nat.pow_le_pow_right (by decide) (by omega)
          _ = 2401 := by decide
    rw [List.map_append, List.map_singleton, prodL_snoc] at hbound
    simp [eL]
    generalize hz : forLoop _ _ _ _ = z
    obtain ⟨env', t', rfl, y, rfl, rfl⟩ := for_at hz eT (prodL (d.map fun r => nextM h r b)) rfl (fun dd env t2 => ∃ y, env = [some (false, eH h), some (false, eT s), some (false, .int b), some (false, eL (prodL (d.map fun r => nextM h r b))), some (false, .int r), some (false, eL (dd.flatMap fun s => (nextM h r b).map fun r => s ++ [r])), y, none] ∧ t2 = t') ⟨w, rfl, rfl⟩ (fun dd u rs env t2 hp ⟨y, e, e2⟩ => by
      subst e e2
      have hu : u ∈ prodL (d.map fun r => nextM h r b) := by rw [hp]; simp
      have hul : u.length ≤ 4 := by
        have := all2_len ((prodL_mem _ u).mp hu)
        simp at this
        omega
      have hfl := flat_len_le (fun s => (nextM h r b).map fun r => s ++ [r]) hp
      refine ⟨_, _, ?_, some (false, eT u), rfl, rfl⟩
      simp
      have lsd := sideM_length h r b
      have ldd := ok.dl
      rw [ev_lc1n (t1 := t2) PyData.int (nextM h r b) (fun r => eT (u ++ [r])) (by
        simp
        rw [side_ev (by omega) ok]
        simp only [R.bind]
        rw [bin_addL (by simp [lineN]; omega)]
        simp only [R_of_some, R.bind, List.cons_append, List.nil_append]
        rw [show PyData.int r :: (sideM h r b).map PyData.int = (r :: sideM h r b).map PyData.int from rfl, bi_sort_int]
        simp [nextM]) (fun r hr => ⟨_, rfl, by
        simp [eT]
        rw [bin_addT (by simp [lineN]; omega)]
        simp⟩)]
      simp only [R.bind, eL]
      rw [bin_addL (by simp only [List.length_map] at hfl ⊢; unfold lineN; omega)]
      simp [Function.comp_def])
    simp
    rw [prodL_snoc]
    rfl)
  simp [stepsM]
theorem law_binds_ev {n : Nat} {bk : List (Option Int × Clm)} {l : List Int} {t : Tw} (hn : 1 ≤ n) : callN T n 45 [.list (bk.map eB), eT l] t = .ok (.list ((claimsM bk l).map eC)) t := by
  obtain ⟨n, rfl⟩ : ∃ m, n = m + 1 := ⟨n - 1, by omega⟩
  rw [callN_code (np := 2) (ns := 4) (c := c__law_binds) rfl rfl]
  simp only [c__law_binds, List.map_cons, List.map_nil, List.cons_append, List.nil_append, ex_cons, xs_ret]
  rw [ev_lc1 (t1 := t) eB bk (fun p => !decide (p.1 ∈ l.map some)) (fun p => eC p.2) (by simp) (fun p hp => ⟨_, rfl, by
    simp [eT, cmp_ni_O], by simp⟩)]
  simp [claimsM]
end Wl

set_option maxHeartbeats 4000000
namespace Wv
open PySem L2
theorem eqvAll_nil (xs : List PyData) : PyData.eqvAll xs [] = xs.isEmpty := by cases xs <;> rfl
theorem flat_nil {xs : List PyData} (h : PyData.plainAll xs = true) : flatB (.list xs) (.list []) = true := by
  unfold flatB
  simp only [PyData.plain, h, Bool.true_and, Bool.and_eq_true, decide_eq_true_eq]
  exact ⟨rfl, Nat.le_trans (Nat.min_le_right _ _) (by decide)⟩
theorem cmp_eq_nil {xs : List PyData} (h : PyData.plainAll xs = true) : cmpD .Eq (.list xs) (.list []) = some xs.isEmpty := by
  rw [cmp_eq_flat (flat_nil h), PyData.eqv, eqvAll_nil]
theorem cmp_ne_nil {xs : List PyData} (h : PyData.plainAll xs = true) : cmpD .NotEq (.list xs) (.list []) = some (!xs.isEmpty) := by
  rw [cmp_ne_flat (flat_nil h), PyData.eqv, eqvAll_nil]
theorem plain_C (c : Clm) : (eC c).plain = true := by cases c <;> rfl
theorem isEmpty_filter {α : Type} (p : α → Bool) (e : α → PyData) : ∀ l : List α, ((l.filter p).map e).isEmpty = !l.any p
  | [] => rfl
  | x :: l => by
    rw [List.filter_cons, List.any_cons]
    cases p x with
    | true => rfl
    | false => simpa using isEmpty_filter p e l
def addK (ks : List (List Int)) (k : List Int) : List (List Int) := if k ∈ ks then ks else ks ++ [k]
theorem addK_mem {ks : List (List Int)} {k a : List Int} : a ∈ addK ks k ↔ a ∈ ks ∨ a = k := by
  unfold addK
  split
  · rename_i h
    exact ⟨.inl, fun q => q.elim id fun q => by rw [q]; exact h⟩
  · simp
theorem addK_nodup {ks : List (List Int)} {k : List Int} (h : ks.Nodup) : (addK ks k).Nodup := by
  unfold addK
  split
  · exact h
  · rename_i q
    rw [List.nodup_append]
    exact ⟨h, by simp, fun a ha b hb => by simp at hb; rw [hb]; exact fun e => q (e ▸ ha)⟩
theorem put_S {ks : List (List Int)} {k : List Int} (hk : k ≠ []) (hl : ∀ a ∈ ks, a ≠ []) (hn : ks.length < lineN) : putD (eDV PyData.bool (ks.map fun k => (k, true))) (eT k) (.bool true) = some (eDV PyData.bool ((addK ks k).map fun k => (k, true))) := by
  rw [put_DV (v := true) hk (fun p hp => by obtain ⟨a, ha, rfl⟩ := List.mem_map.mp hp; exact hl a ha) (by simpa using hn)]
  congr 2
  unfold putP addK
  rw [eS_keys]
  by_cases q : k ∈ ks
  · rw [if_pos q, if_pos q, List.map_map]
    apply List.map_congr_left
    intro a _
    simp only [Function.comp]
    split <;> rfl
  · rw [if_neg q, if_neg q]
    simp
theorem setD_nat {xs : List PyData} {k : Nat} {v : PyData} (h : k < xs.length) : setD xs (.int (k : Nat)) v = some (xs.set k v) := by
  show (L2.ixN _ _).map _ = _
  unfold L2.ixN
  rw [if_pos (by omega), if_pos (by omega)]
  simp
theorem set_range {α : Type} (f : Nat → α) (n k : Nat) (v : α) : ((List.range n).map f).set k v = (List.range n).map fun b => if b = k then v else f b := by
  apply List.ext_getElem?
  intro i
  rw [List.getElem?_set]
  by_cases h : i < n
  · by_cases q : k = i
    · subst q; simp [h]
    · have q' : ¬ i = k := fun e => q e.symm
      simp [h, q, q']
  · rw [List.getElem?_eq_none (by simp; omega), List.getElem?_eq_none (by simp; omega)]
    simp [show ¬ i < n from h]
    omega
end Wv
namespace Wl
open PySem L2 Wv
theorem met_last {h : House} {m : Int} {cl : List Clm} {L : Nat} : metM h m cl L L = aheadL h m cl L := by
  unfold metM
  refine List.filter_eq_self.mpr fun s hs => ?_
  rw [Nat.sub_self, behindL]
  simpa using (aheadL_sub h m cl L).subset hs
theorem met_filter {h : House} {m : Int} {cl : List Clm} {L b : Nat} (hb : b < L) : (aheadL h m cl b).filter (fun s => (stepsM h s (b : Int)).any fun s1 => decide (s1 ∈ metM h m cl L (b + 1))) = metM h m cl L b := by
  conv => rhs; unfold metM
  refine List.filter_congr fun s hs => ?_
  rw [Bool.eq_iff_iff, List.any_eq_true, decide_eq_true_eq]
  constructor
  · rintro ⟨s1, h1, h2⟩
    exact (met_mem.mp ((met_back hb).mpr ⟨hs, s1, by simpa using h2, stepsM_mem.mp h1⟩)).2
  · intro q
    obtain ⟨s1, h1, h2⟩ := met_next hb (met_mem.mpr ⟨hs, q⟩)
    exact ⟨s1, stepsM_mem.mpr h2, by simpa using h1⟩
/-- rows by beats -/
def rowsL (L : Nat) (f : Nat → List (List Int)) : List PyData := (List.range (L + 1)).map fun b => eL (f b)
theorem rowsL_congr {L : Nat} {f g : Nat → List (List Int)} (h : ∀ b, b ≤ L → f b = g b) : rowsL L f = rowsL L g := List.map_congr_left fun b hb => by rw [h b (by have := List.mem_range.mp hb; omega)]
theorem rowsL_ix {L b : Nat} {f : Nat → List (List Int)} (h : b ≤ L) : ixD (.list (rowsL L f)) (.int (b : Nat)) = some (eL (f b)) := ixL_map (e := fun b => eL (f b)) (List.getElem?_range (by omega))
theorem rowsL_set {L b : Nat} {f : Nat → List (List Int)} {r : List (List Int)} (h : b ≤ L) : setD (rowsL L f) (.int (b : Nat)) (eL r) = some (rowsL L fun c => if c = b then r else f c) := by
  rw [setD_nat (by simp [rowsL]; omega)]
  unfold rowsL
  rw [set_range]
  congr 1
  apply List.map_congr_left
  intro c _
  dsimp only
  split <;> rfl
@[simp] theorem setR_S (kl : List PyData → SR) (kd : List (PyData × PyData) → SR) (ks : List (List Int)) : setR kl kd (some (some (true, eS ks))) = kd (eDV PyData.bool (ks.map fun k => (k, true))) := rfl
/-- stands laid into a dict, one by one -/
theorem lay_walk {F : Nat → List PyData → Tw → R PyData} {j : Nat} {b : CB} {t : Tw} {z : SR} {h : House} {m : Int} {ss : List (List Int)} {mk : List (List Int) → Option (Bool × PyData) → Wv.Env} {ks0 : List (List Int)} {x0 : Option (Bool × PyData)} (hz : forLoop (turnR F (.name j) b) (ss.map eT) (mk ks0 x0) t = z) (ok : House.Ok h) (m1 : 1 ≤ m) (m4 : m ≤ 4) (hs : ∀ s ∈ ss, StandOk h m s) (h0 : ∀ s ∈ ks0, StandOk h m s) (n0 : ks0.Nodup)
    (hb : ∀ ks x s, s ∈ ss → (∀ a ∈ ks, StandOk h m a) → ks.Nodup → turnR F (.name j) b (eT s) (mk ks x) t = .next (mk (addK ks s) (some (false, eT s))) t) :
    ∃ ks x, z = .next (mk ks x) t ∧ (∀ s', s' ∈ ks ↔ s' ∈ ks0 ∨ s' ∈ ss) ∧ (∀ s ∈ ks, StandOk h m s) ∧ ks.Nodup := by
  obtain ⟨env', t', rfl, ks, x, rfl, rfl, j1, j2, j3⟩ := for_at hz eT ss rfl (fun d env t' => ∃ ks x, env = mk ks x ∧ t' = t ∧ (∀ s', s' ∈ ks ↔ s' ∈ ks0 ∨ s' ∈ d) ∧ (∀ s ∈ ks, StandOk h m s) ∧ ks.Nodup) ⟨ks0, x0, rfl, rfl, by simp, h0, n0⟩ (fun d s rs env t' hp ⟨ks, x, e, e2, j1, j2, j3⟩ => by
    subst e e2
    have hss : s ∈ ss := by rw [hp]; simp
    refine ⟨_, _, hb ks x s hss j2 j3, _, _, rfl, rfl, fun s' => ?_, fun a ha => ?_, addK_nodup j3⟩
    · rw [addK_mem, j1]
      simp [or_assoc]
    · rcases addK_mem.mp ha with q | q
      · exact j2 a q
      · rw [q]; exact hs s hss)
  exact ⟨ks, x, rfl, j1, j2, j3⟩
theorem law_lots_ev {n : Nat} {h : House} {m : Int} {cl : List Clm} {t : Tw} (hn : 4 ≤ n) (ok : House.Ok h) (m1 : 1 ≤ m) (m4 : m ≤ 4) (hc : ∀ c ∈ cl, Clm.Ok h m c) : callN T n 46 [eH h, .int m, .list (cl.map eC)] t = .ok (eLL (lotsM h m cl)) t := by
  obtain ⟨n, rfl⟩ : ∃ m, n = m + 1 := ⟨n - 1, by omega⟩
  rw [callN_code (np := 3) (ns := 14) (c := c__law_lots) rfl rfl]
  have l0 := ok.l0
  have l12 := ok.l12
  have hst := standsM_len ok m4
  unfold lotsM
  generalize hL : h.last.toNat = L
  have hlast : h.last = (L : Int) := by omega
  simp [c__law_lots]
  rw [if_pos (small_of (by omega) (by omega)), rngs0]
  rw [show (h.last + 1).toNat = L + 1 by omega]
  simp only []
  generalize hz : forLoop _ _ _ _ = z
  obtain ⟨env', t', rfl, x5, x6, rfl, rfl⟩ := for_at hz (fun k : Nat => .int (k : Nat)) (List.range (L + 1)) rfl (fun d env t' => ∃ x5 x6, env = [some (false, eH h), some (false, .int m), some (false, .list (cl.map eC)), some (false, .int h.last), some (true, .list ((List.range d.length).map fun b => eL (letM h m cl b))), x5, x6, none, none, none, none, none, none, none] ∧ t' = t) ⟨none, none, rfl, rfl⟩ (fun d k rs env t' hp ⟨x5, x6, e, e2⟩ => by
    subst e e2
    obtain ⟨rfl, hd⟩ := range_at hp
    refine ⟨_, _, ?_, some (false, .int (d.length : Nat)), some (false, .list ((cl.filter fun c => decide (c.beat = (d.length : Int))).map eC)), rfl, rfl⟩
    simp
    rw [ev_lc1 (t1 := t') eC cl (fun c => decide (c.beat = (d.length : Int))) eC (by simp) (fun c hc => ⟨_, rfl, by simp [beat_C], by simp⟩)]
    simp
    rw [ev_lc1 (t1 := t') eT (standsM h m) (fun s => (cl.filter fun c => decide (c.beat = (d.length : Int))).all fun c => holdsM h s c) eT (by
      simp
      rw [law_stands_ev (by omega) ok (by omega) m4]
      simp [eL]) (fun s hs => ⟨_, rfl, by
      simp
      rw [ev_lc1 (t1 := t') eC (cl.filter fun c => decide (c.beat = (d.length : Int))) (fun c => !holdsM h s c) eC (by simp) (fun c hcc => ⟨_, rfl, by
        simp
        rw [so_ev (by omega) ok ((standsM_mem h m (by omega) s).mp hs) m4 (hc c (List.mem_filter.mp hcc).1)]
        simp, by simp⟩)]
      simp only [R.bind]
      rw [cmp_eq_nil (plainAll_map plain_C _), isEmpty_filter]
      simp only [Option.map_some, R_of_some, boolC_b]
      congr 1
      rw [List.all_eq_not_any_not, List.any_filter]
      congr 2
      funext c
      cases decide (c.beat = (d.length : Int)) <;> cases holdsM h s c <;> rfl, by simp⟩)]
    simp [show d.length < lineN by unfold lineN; omega, List.range_succ, letM, eL])
  clear hz
  rw [show (List.range (List.range (L + 1)).length).map (fun b => eL (letM h m cl b)) = rowsL L (letM h m cl) by unfold rowsL; simp]
  simp
  rw [if_pos ⟨by decide, small_of (by omega) (by omega)⟩, rngs_map, show h.last.toNat = L from hL]
  rw [show (List.range L).map (fun k : Nat => PyData.int (1 + (k : Nat))) = (List.range L).map fun k : Nat => PyData.int ((k + 1 : Nat) : Int) from List.map_congr_left fun k _ => by congr 1; omega]
  simp only []
  generalize hz : forLoop _ _ _ _ = z
  obtain ⟨env', t'', rfl, x5, x7, x8, x10, rfl, rfl⟩ := for_at hz (fun k : Nat => .int ((k + 1 : Nat) : Int)) (List.range L) rfl (fun d env t2 => ∃ x5 x7 x8 x10, env = [some (false, eH h), some (false, .int m), some (false, .list (cl.map eC)), some (false, .int h.last), some (true, .list (rowsL L fun b => if b ≤ d.length then aheadL h m cl b else letM h m cl b)), x5, x6, x7, x8, none, x10, none, none, none] ∧ t2 = t')
    ⟨x5, none, none, none, by
      rw [rowsL_congr (f := letM h m cl) (g := fun b => if b ≤ ([] : List Nat).length then aheadL h m cl b else letM h m cl b) fun b _ => by
        by_cases hb : b ≤ 0
        · have : b = 0 := by omega
          subst this
          rfl
        · simp [show ¬ b = 0 by omega]], rfl⟩ (fun d k rs env t2 hp ⟨x5, x7, x8, x10, e, e2⟩ => by
      subst e e2
      obtain ⟨rfl, hd⟩ := range_at hp
      have e1 : ((d.length + 1 : Nat) : Int) - 1 = (d.length : Int) := by omega
      have ga : (fun b => if b ≤ d.length then aheadL h m cl b else letM h m cl b) d.length = aheadL h m cl d.length := by simp
      have hac : ∀ s ∈ aheadL h m cl d.length, StandOk h m s := fun s hs => aheadL_ok (by omega) hs
      simp [e1]
      rw [rowsL_ix (by omega)]
      simp only [ga, R_of_some, eL, valI_l, SR.of, R.bind]
      generalize hz : forLoop _ _ _ _ = z
      obtain ⟨env', t3, rfl, ks, y8, y10, rfl, rfl, j1, j2, j3⟩ := for_at hz eT (aheadL h m cl d.length) rfl (fun dd env t3 => ∃ ks y8 y10, env = [some (false, eH h), some (false, .int m), some (false, .list (cl.map eC)), some (false, .int h.last), some (true, .list (rowsL L fun b => if b ≤ d.length then aheadL h m cl b else letM h m cl b)), some (false, .int ((d.length + 1 : Nat) : Int)), x6, some (true, eS ks), y8, none, y10, none, none, none] ∧ t3 = t2 ∧ (∀ s', s' ∈ ks ↔ ∃ s ∈ dd, stepB h (d.length : Int) s s' = true) ∧ (∀ s ∈ ks, StandOk h m s) ∧ ks.Nodup)
        ⟨[], x8, x10, by simp; rfl, rfl, by simp, by simp, by simp⟩ (fun dd s rs env t3 hps ⟨ks, y8, y10, e, e2, j1, j2, j3⟩ => by
          subst e e2
          have hs : s ∈ aheadL h m cl d.length := by rw [hps]; simp
          have hso := hac s hs
          have hsl : s.length ≤ 4 := by have := hso.1; omega
          simp [e1]
          rw [law_steps_ev (by omega) ok hsl]
          simp only [R.bind, eL, valI_l, SR.of]
          generalize hz : forLoop _ _ _ _ = z
          obtain ⟨ks', y, rfl, k1, k2, k3⟩ := lay_walk (mk := fun ks x => [some (false, eH h), some (false, .int m), some (false, .list (cl.map eC)), some (false, .int h.last), some (true, .list (rowsL L fun b => if b ≤ d.length then aheadL h m cl b else letM h m cl b)), some (false, .int ((d.length + 1 : Nat) : Int)), x6, some (true, eS ks), some (false, eT s), none, x, none, none, none]) (ks0 := ks) (x0 := y10) hz ok m1 m4 (fun s' hs' => step_ok ok hso (stepsM_mem.mp hs')) j2 j3 (fun ks x s' hs' i2 i3 => by
            have hs'o := step_ok ok hso (stepsM_mem.mp hs')
            have hl := stands_len ok (by omega) m4 i3 i2
            simp
            rw [put_S (standOk_ne m1 hs'o) (fun a ha => standOk_ne m1 (i2 a ha)) (by unfold lineN; omega)]
            simp [eS])
          simp
          exact ⟨_, _, ⟨rfl, rfl⟩, ks', ⟨_, _, rfl⟩, rfl, fun s' => by rw [k1, j1, stepsM_mem], k2, k3⟩)
      have e2 : ((d.length : Int) + 1) = ((d.length + 1 : Nat) : Int) := by omega
      have gl : (if d.length + 1 ≤ d.length then aheadL h m cl (d.length + 1) else letM h m cl (d.length + 1)) = letM h m cl (d.length + 1) := if_neg (by omega)
      simp
      rw [ev_lc1 (t1 := t3) eT (letM h m cl (d.length + 1)) (fun s => decide (s ∈ ks)) eT (by
        simp
        rw [e2, rowsL_ix (by omega), gl]
        simp [eL]) (fun s hs => ⟨_, rfl, by
        simp
        rw [inS (standOk_ne m1 (letM_ok (by omega) hs)) (fun a ha => standOk_ne m1 (j2 a ha))]
        simp, by simp⟩)]
      rw [ahead_filter (d := d.length + 1) fun s hs => by
        rw [j1]
        simp]
      simp only [SR.of]
      rw [e2, show PyData.list ((aheadL h m cl (d.length + 1)).map eT) = eL (aheadL h m cl (d.length + 1)) from rfl, rowsL_set (by omega)]
      simp only [nxL_some, List.set, then_next, ex_nil]
      rw [rowsL_congr (g := fun b => if b ≤ d.length + 1 then aheadL h m cl b else letM h m cl b) fun b _ => by
        by_cases q1 : b = d.length + 1
        · subst q1; simp
        · by_cases q2 : b ≤ d.length
          · simp [q1, q2, show b ≤ d.length + 1 by omega]
          · simp [q1, q2, show ¬ b ≤ d.length + 1 by omega]]
      exact ⟨_, rfl, _, _, _, _, rfl⟩)
  clear hz
  rw [rowsL_congr (g := aheadL h m cl) fun b hb => by simp [hb]]
  simp
  rw [if_pos ⟨small_of (by omega) (by omega), by decide⟩]
  rw [rngs_down, show h.last.toNat = L from hL]
  rw [show (List.range L).map (fun k : Nat => PyData.int (h.last - 1 - (k : Nat))) = (List.range L).map fun k : Nat => PyData.int ((L - 1 - k : Nat) : Int) from List.map_congr_left fun k hk => by
    have := List.mem_range.mp hk
    congr 1
    omega]
  simp only []
  generalize hz : forLoop _ _ _ _ = z
  obtain ⟨env', t3, rfl, x5, x8, x9, rfl, rfl⟩ := for_at hz (fun k : Nat => .int ((L - 1 - k : Nat) : Int)) (List.range L) rfl (fun d env t2 => ∃ x5 x8 x9, env = [some (false, eH h), some (false, .int m), some (false, .list (cl.map eC)), some (false, .int h.last), some (true, .list (rowsL L fun b => if L ≤ b + d.length then metM h m cl L b else aheadL h m cl b)), x5, x6, x7, x8, x9, x10, none, none, none] ∧ t2 = t'')
    ⟨x5, x8, none, by
      rw [rowsL_congr (f := aheadL h m cl) (g := fun b => if L ≤ b + ([] : List Nat).length then metM h m cl L b else aheadL h m cl b) fun b hb => by
        by_cases q : L ≤ b
        · have : b = L := by omega
          subst this
          simp [met_last]
        · simp [q]], rfl⟩ (fun d k rs env t2 hp ⟨x5, x8, x9, e, e2⟩ => by
      subst e e2
      obtain ⟨rfl, hd⟩ := range_at hp
      generalize hB : L - 1 - d.length = B
      have hBL : B < L := by omega
      have e1 : ((B : Int) + 1) = ((B + 1 : Nat) : Int) := by omega
      have gm : (if L ≤ B + 1 + d.length then metM h m cl L (B + 1) else aheadL h m cl (B + 1)) = metM h m cl L (B + 1) := if_pos (by omega)
      have ga : (if L ≤ B + d.length then metM h m cl L B else aheadL h m cl B) = aheadL h m cl B := if_neg (by omega)
      simp
      rw [e1, rowsL_ix (by omega), gm]
      simp only [R_of_some, eL, valI_l, SR.of, R.bind]
      generalize hz : forLoop _ _ _ _ = z
      obtain ⟨ks, y, rfl, k1, k2, k3⟩ := lay_walk (mk := fun ks x => [some (false, eH h), some (false, .int m), some (false, .list (cl.map eC)), some (false, .int h.last), some (true, .list (rowsL L fun b => if L ≤ b + d.length then metM h m cl L b else aheadL h m cl b)), some (false, .int (B : Int)), x6, x7, x, some (true, eS ks), x10, none, none, none]) (ks0 := []) (x0 := x8) hz ok m1 m4 (fun s' hs' => metM_ok (by omega) hs') (by simp) (by simp) (fun ks x s' hs' i2 i3 => by
        have hl := stands_len ok (by omega) m4 i3 i2
        simp
        rw [put_S (standOk_ne m1 (metM_ok (by omega) hs')) (fun a ha => standOk_ne m1 (i2 a ha)) (by unfold lineN; omega)]
        simp [eS])
      simp
      rw [ev_lc1 (t1 := t2) eT (aheadL h m cl B) (fun s => (stepsM h s (B : Int)).any fun s1 => decide (s1 ∈ metM h m cl L (B + 1))) eT (by
        simp
        rw [rowsL_ix (by omega), ga]
        simp [eL]) (fun s hs => ⟨_, rfl, by
        have hso := aheadL_ok (by omega) hs
        have hsl : s.length ≤ 4 := by have := hso.1; omega
        simp
        rw [ev_lc1 (t1 := t2) eT (stepsM h s (B : Int)) (fun s1 => decide (s1 ∈ metM h m cl L (B + 1))) eT (by
          simp
          rw [law_steps_ev (by omega) ok hsl]
          simp [eL]) (fun s1 hs1 => ⟨_, rfl, by
          simp
          rw [inS (standOk_ne m1 (step_ok ok hso (stepsM_mem.mp hs1))) (fun a ha => standOk_ne m1 (k2 a ha))]
          simp
          rw [k1]
          simp, by simp⟩)]
        simp only [R.bind]
        rw [cmp_ne_nil (plainAll_map good_T.plain _), isEmpty_filter]
        simp, by simp⟩)]
      rw [met_filter hBL]
      simp only [SR.of]
      rw [show PyData.list ((metM h m cl L B).map eT) = eL (metM h m cl L B) from rfl, rowsL_set (by omega)]
      simp only [nxL_some, List.set, then_next, ex_nil]
      rw [rowsL_congr (g := fun b => if L ≤ b + (d.length + 1) then metM h m cl L b else aheadL h m cl b) fun b hb => by
        by_cases q1 : b = B
        · subst q1; simp; omega
        · by_cases q2 : L ≤ b + d.length
          · simp [q1, q2, show L ≤ b + (d.length + 1) by omega]
          · simp [q1, q2, show ¬ L ≤ b + (d.length + 1) by omega]]
      exact ⟨_, rfl, _, _, _, rfl⟩)
  rw [rowsL_congr (g := metM h m cl L) fun b hb => by simp]
  simp [eLL, rowsL]
end Wl

set_option maxHeartbeats 4000000
namespace Wl
open PySem L2 Wv
/-! ### the first story -/
def nxtM (h : House) (m : Int) (cl : List Clm) (L b : Nat) (s : List Int) : List Int := ((metM h m cl L (b + 1)).filter fun s1 => stepB h (b : Int) s s1).headD []
def storyM (h : House) (m : Int) (cl : List Clm) (L : Nat) : Nat → List Int
  | 0 => (metM h m cl L 0).headD []
  | b + 1 => nxtM h m cl L b (storyM h m cl L b)
def walkM (h : House) (m : Int) (cl : List Clm) (L : Nat) : List (List Int) := (List.range (L + 1)).map (storyM h m cl L)
def firstM (h : House) (m : Int) (cl : List Clm) : Option (List (List Int)) := if metM h m cl h.last.toNat 0 = [] then none else some (walkM h m cl h.last.toNat)
theorem headD_mem {α : Type} {l : List α} {a : α} (h : l ≠ []) : l.headD a ∈ l := by
  cases l with
  | nil => exact absurd rfl h
  | cons x l => simp
theorem head_ix {l : List (List Int)} (h : l ≠ []) : ixD (.list (l.map eT)) (.int 0) = some (eT (l.headD [])) := by
  cases l with
  | nil => exact absurd rfl h
  | cons x l => exact ixL_map (k := 0) rfl
theorem nxt_ne {h : House} {m : Int} {cl : List Clm} {L b : Nat} (hb : b < L) {s : List Int} (hs : s ∈ metM h m cl L b) : ((metM h m cl L (b + 1)).filter fun s1 => stepB h (b : Int) s s1) ≠ [] := by
  obtain ⟨s1, h1, h2⟩ := met_next hb hs
  exact List.ne_nil_of_mem (List.mem_filter.mpr ⟨h1, h2⟩)
theorem nxt_mem {h : House} {m : Int} {cl : List Clm} {L b : Nat} (hb : b < L) {s : List Int} (hs : s ∈ metM h m cl L b) : nxtM h m cl L b s ∈ metM h m cl L (b + 1) ∧ stepB h (b : Int) s (nxtM h m cl L b s) = true := by
  have := headD_mem (a := []) (nxt_ne hb hs)
  exact List.mem_filter.mp this
theorem story_mem {h : House} {m : Int} {cl : List Clm} {L : Nat} (h0 : metM h m cl L 0 ≠ []) : ∀ b, b ≤ L → storyM h m cl L b ∈ metM h m cl L b
  | 0, _ => headD_mem h0
  | b + 1, hb => (nxt_mem (by omega) (story_mem h0 b (by omega))).1
theorem story_step {h : House} {m : Int} {cl : List Clm} {L b : Nat} (h0 : metM h m cl L 0 ≠ []) (hb : b < L) : stepB h (b : Int) (storyM h m cl L b) (storyM h m cl L (b + 1)) = true := (nxt_mem hb (story_mem h0 b (by omega))).2
/-- steps that are met, in whichever way they are sought -/
theorem steps_met {h : House} (ok : House.Ok h) {m : Int} {cl : List Clm} {L b : Nat} (s : List Int) : (stepsM h s (b : Int)).filter (fun s1 => decide (s1 ∈ metM h m cl L (b + 1))) = (metM h m cl L (b + 1)).filter fun s1 => stepB h (b : Int) s s1 := by
  refine rising_eq ((stepsM_rising ok s _).sublist List.filter_sublist) ((metM_rising h m cl L (b + 1)).sublist List.filter_sublist) fun a => ?_
  simp only [List.mem_filter, decide_eq_true_eq, stepsM_mem]
  exact And.comm
theorem lots_ix {h : House} {m : Int} {cl : List Clm} {b : Nat} (hb : b ≤ h.last.toNat) : ixD (eLL (lotsM h m cl)) (.int (b : Nat)) = some (eL (metM h m cl h.last.toNat b)) := by
  unfold eLL lotsM
  rw [List.map_map]
  exact ixL_map (e := eL ∘ metM h m cl h.last.toNat) (List.getElem?_range (by omega))
theorem lots_ix0 {h : House} {m : Int} {cl : List Clm} : ixD (eLL (lotsM h m cl)) (.int 0) = some (eL (metM h m cl h.last.toNat 0)) := lots_ix (b := 0) (by omega)
def eW (o : Option (List (List Int))) : PyData := match o with
  | none => .none
  | some w => eL w
theorem cmp_eq_L0 (l : List (List Int)) : cmpD .Eq (eL l) (.list []) = some (decide (l = [])) := by
  unfold eL
  rw [cmp_eq_nil (plainAll_map good_T.plain _)]
  cases l <;> simp
theorem cmp_ne_L0 (l : List (List Int)) : cmpD .NotEq (eL l) (.list []) = some (!decide (l = [])) := by
  unfold eL
  rw [cmp_ne_nil (plainAll_map good_T.plain _)]
  cases l <;> simp
theorem bi_len_LL (h : House) (m : Int) (cl : List Clm) : biD .len [eLL (lotsM h m cl)] = some (.int ((h.last.toNat + 1 : Nat) : Int)) := by
  show some (PyData.int _) = _
  simp [lotsM]
theorem small_one : small 1 = true := by decide
theorem line_of {k : Nat} (h : k ≤ 100000) : k < lineN := Nat.lt_of_le_of_lt h (by decide)
theorem story_zero {h : House} {m : Int} {cl : List Clm} {L : Nat} : (metM h m cl L 0).headD [] = storyM h m cl L 0 := rfl
theorem story_succ {h : House} {m : Int} {cl : List Clm} {L b : Nat} : ((metM h m cl L (b + 1)).filter fun s1 => stepB h (b : Int) (storyM h m cl L b) s1).headD [] = storyM h m cl L (b + 1) := rfl
theorem first_of_ev {n : Nat} {h : House} {m : Int} {cl : List Clm} {t : Tw} (hn : 7 ≤ n) (ok : House.Ok h) (m1 : 1 ≤ m) (m4 : m ≤ 4) (hc : ∀ c ∈ cl, Clm.Ok h m c) : callN T n 37 [eH h, .int m, .list (cl.map eC)] t = .ok (eW (firstM h m cl)) t := by
  obtain ⟨n, rfl⟩ : ∃ m, n = m + 1 := ⟨n - 1, by omega⟩
  rw [callN_code (np := 3) (ns := 7) (c := c_first_of) rfl rfl]
  have l0 := ok.l0
  have l12 := ok.l12
  simp [c_first_of]
  rw [met_lots_ev (by omega) ok m1 m4 hc]
  simp
  rw [lots_ix0]
  simp only [R_of_some, R.bind]
  rw [cmp_eq_L0]
  simp
  unfold firstM
  by_cases h0 : metM h m cl h.last.toNat 0 = []
  · simp [h0, eW]
  · simp [h0]
    rw [lots_ix0]
    simp only [R_of_some, R.bind]
    rw [show eL (metM h m cl h.last.toNat 0) = .list ((metM h m cl h.last.toNat 0).map eT) from rfl, head_ix h0, story_zero]
    simp
    rw [bi_len_LL]
    simp
    rw [if_pos ⟨by decide, small_of (by omega) (by omega)⟩, rngs_map, show (max h.last 0).toNat = h.last.toNat by omega]
    generalize hL : h.last.toNat = L at *
    rw [show (List.range L).map (fun k : Nat => PyData.int (1 + (k : Nat))) = (List.range L).map fun k : Nat => PyData.int ((k + 1 : Nat) : Int) from List.map_congr_left fun k _ => congrArg PyData.int (by omega)]
    simp only []
    generalize hz : forLoop _ _ _ _ = z
    obtain ⟨env', t', rfl, x5, x6, rfl, rfl⟩ := for_at hz (fun k : Nat => .int ((k + 1 : Nat) : Int)) (List.range L) rfl (fun d env t2 => ∃ x5 x6, env = [some (false, eH h), some (false, .int m), some (false, .list (cl.map eC)), some (false, eLL (lotsM h m cl)), some (true, .list (((List.range (d.length + 1)).map (storyM h m cl L)).map eT)), x5, x6] ∧ t2 = t) ⟨none, none, rfl, rfl⟩ (fun d k rs env t2 hp ⟨x5, x6, e, e2⟩ => by
      subst e e2
      obtain ⟨rfl, hd⟩ := range_at hp
      have hm := story_mem h0 d.length (by omega)
      have hln : d.length + 1 < lineN := line_of (by omega)
      have hmo := metM_ok (m := m) (by omega) hm
      refine ⟨_, _, ?_, some (false, .int ((d.length + 1 : Nat) : Int)), x6, rfl, rfl⟩
      have e2 : ((d.length : Int) + 1) = ((d.length + 1 : Nat) : Int) := by omega
      simp
      rw [ev_lc1 (t1 := t2) eT (metM h m cl L (d.length + 1)) (fun s1 => stepB h (d.length : Int) (storyM h m cl L d.length) s1) eT (by
        simp
        rw [e2, lots_ix (by omega), hL]
        simp [eL]) (fun s1 hs1 => ⟨_, rfl, by
        have hs1o := metM_ok (m := m) (by omega) hs1
        simp
        rw [List.range_succ, List.map_append, List.map_singleton, ixL_last]
        simp
        rw [is_step_ev (by omega) ok (by have := hmo.1; have := hs1o.1; omega)]
        simp, by simp⟩)]
      simp only [R.bind]
      rw [head_ix (nxt_ne hd hm), story_succ]
      simp [hln]
      rw [List.range_succ (n := d.length + 1), List.map_append]
      rfl)
    simp [eW, walkM, eL]
end Wl

set_option maxHeartbeats 4000000
namespace Wl
open PySem L2 Wv
theorem good_mem {α : Type} [DecidableEq α] {e : α → PyData} (g : GoodE e) (a : α) (l : List α) : cmpD .In (e a) (.list (l.map e)) = some (decide (a ∈ l)) := (g.inL a l).trans (by simp)
theorem law_first_ev {n : Nat} {h : House} {m : Int} {cl : List Clm} {t : Tw} (hn : 5 ≤ n) (ok : House.Ok h) (m1 : 1 ≤ m) (m4 : m ≤ 4) (hc : ∀ c ∈ cl, Clm.Ok h m c) : callN T n 47 [eH h, .int m, .list (cl.map eC)] t = .ok (eW (firstM h m cl)) t := by
  obtain ⟨n, rfl⟩ : ∃ m, n = m + 1 := ⟨n - 1, by omega⟩
  rw [callN_code (np := 3) (ns := 7) (c := c__law_first) rfl rfl]
  have l0 := ok.l0
  have l12 := ok.l12
  simp [c__law_first]
  rw [law_lots_ev (by omega) ok m1 m4 hc]
  simp
  rw [lots_ix0]
  simp only [R_of_some, R.bind]
  rw [cmp_eq_L0]
  simp
  unfold firstM
  by_cases h0 : metM h m cl h.last.toNat 0 = []
  · simp [h0, eW]
  · simp [h0]
    rw [lots_ix0]
    simp only [R_of_some, R.bind]
    rw [show eL (metM h m cl h.last.toNat 0) = .list ((metM h m cl h.last.toNat 0).map eT) from rfl, head_ix h0, story_zero]
    simp
    rw [if_pos (small_of (by omega) (by omega)), rngs0]
    generalize hL : h.last.toNat = L at *
    simp only []
    generalize hz : forLoop _ _ _ _ = z
    obtain ⟨env', t', rfl, x5, x6, rfl, rfl⟩ := for_at hz (fun k : Nat => .int (k : Int)) (List.range L) rfl (fun d env t2 => ∃ x5 x6, env = [some (false, eH h), some (false, .int m), some (false, .list (cl.map eC)), some (false, eLL (lotsM h m cl)), some (true, .list (((List.range (d.length + 1)).map (storyM h m cl L)).map eT)), x5, x6] ∧ t2 = t) ⟨none, none, rfl, rfl⟩ (fun d k rs env t2 hp ⟨x5, x6, e, e2⟩ => by
      subst e e2
      obtain ⟨rfl, hd⟩ := range_at hp
      have hm := story_mem h0 d.length (by omega)
      have hln : d.length + 1 < lineN := line_of (by omega)
      have hmo := metM_ok (m := m) (by omega) hm
      refine ⟨_, _, ?_, some (false, .int (d.length : Int)), x6, rfl, rfl⟩
      simp
      rw [ev_lc1 (t1 := t2) eT (stepsM h (storyM h m cl L d.length) (d.length : Int)) (fun s1 => decide (s1 ∈ metM h m cl L (d.length + 1))) eT (by
        simp
        rw [List.range_succ, List.map_append, List.map_singleton, ixL_last]
        simp
        rw [law_steps_ev (by omega) ok (by have := hmo.1; omega)]
        simp [eL]) (fun s1 hs1 => ⟨_, rfl, by
        simp
        rw [show ((d.length : Int) + 1) = ((d.length + 1 : Nat) : Int) by omega, lots_ix (by omega), hL]
        simp only [R_of_some, R.bind]
        rw [show eL (metM h m cl L (d.length + 1)) = .list ((metM h m cl L (d.length + 1)).map eT) from rfl, good_mem good_T]
        simp, by simp⟩)]
      simp only [R.bind]
      rw [steps_met ok, head_ix (nxt_ne hd hm), story_succ]
      simp [hln]
      rw [List.range_succ (n := d.length + 1), List.map_append]
      rfl)
    simp [eW, walkM, eL]
end Wl

set_option maxHeartbeats 4000000
namespace Wl
open PySem L2 Wv
/-! ### stories -/
def atW (w : List (List Int)) (b : Nat) : List Int := w.getD b []
def walksB (h : House) (w : List (List Int)) : Bool := (List.range h.last.toNat).all fun b => stepB h (b : Int) (atW w b) (atW w (b + 1))
def hasAll (h : House) (w : List (List Int)) (cl : List Clm) : Bool := cl.all fun c => holdsM h (atW w c.beat.toNat) c
/-- a list of stands, one for each beat -/
structure RowOk (h : House) (m : Int) (w : List (List Int)) : Prop where
  len : w.length = h.last.toNat + 1
  st : ∀ s ∈ w, StandOk h m s
theorem RowOk.at {h : House} {m : Int} {w : List (List Int)} (r : RowOk h m w) {b : Nat} (hb : b ≤ h.last.toNat) : w[b]? = some (atW w b) ∧ StandOk h m (atW w b) := by
  have hl : b < w.length := by have := r.len; omega
  have e : w[b]? = some (atW w b) := by
    unfold atW
    rw [List.getD_eq_getElem?_getD, List.getElem?_eq_getElem hl]
    rfl
  exact ⟨e, r.st _ (List.mem_of_getElem? e)⟩
theorem ixW {h : House} {m : Int} {w : List (List Int)} (r : RowOk h m w) {b : Nat} (hb : b ≤ h.last.toNat) : ixD (eL w) (.int (b : Nat)) = some (eT (atW w b)) := ixL_map (r.at hb).1
theorem walks_ev {n : Nat} {h : House} {m : Int} {w : List (List Int)} {t : Tw} (hn : 4 ≤ n) (ok : House.Ok h) (r : RowOk h m w) : callN T n 39 [eH h, .int m, eL w] t = .ok (.bool (walksB h w)) t := by
  obtain ⟨n, rfl⟩ : ∃ m, n = m + 1 := ⟨n - 1, by omega⟩
  rw [callN_code (np := 3) (ns := 5) (c := c_walks) rfl rfl]
  have l0 := ok.l0
  have l12 := ok.l12
  have hl := r.len
  simp [c_walks, eL]
  rw [show ((w.length : Nat) : Int) = h.last + 1 by omega]
  simp
  rw [ev_lc1n (t1 := t) eT w (fun s => .bool true) (by simp) (fun s hs => ⟨_, rfl, by
    simp
    rw [is_stand_ev (by omega) (r.st s hs)]⟩)]
  simp only [R.bind]
  rw [bi_all (fun _ => true)]
  simp
  rw [ev_lc1n (t1 := t) (fun k : Nat => .int (k : Int)) (List.range h.last.toNat) (fun b => .bool (stepB h (b : Int) (atW w b) (atW w (b + 1)))) (by
    simp
    rw [show ((w.length : Nat) : Int) - 1 = h.last by omega, if_pos (small_of (by omega) (by omega)), rngs0]
    simp [hl]) (fun b hb => ⟨_, rfl, by
    have hb := List.mem_range.mp hb
    simp
    rw [show PyData.list (w.map eT) = eL w from rfl, ixW r (by omega)]
    simp
    rw [show ((b : Int) + 1) = ((b + 1 : Nat) : Int) by omega, ixW r (by omega)]
    simp
    rw [is_step_ev (by omega) ok (by have := (r.at (b := b) (by omega)).2.1; have := (r.at (b := b + 1) (by omega)).2.1; omega)]⟩)]
  simp only [R.bind]
  rw [bi_all fun b : Nat => stepB h (b : Int) (atW w b) (atW w (b + 1))]
  rfl
theorem fits_ev {n : Nat} {h : House} {m : Int} {bk : List (Option Int × Clm)} {l : List Int} {w : List (List Int)} {t : Tw} (hn : 7 ≤ n) (hh : House.Ok h) (m1 : 1 ≤ m) (m4 : m ≤ 4) (ok : BookOk h m bk) (hl : FolkOk m l) (r : RowOk h m w) : callN T n 40 [eH h, .int m, .list (bk.map eB), eL w, eT l] t = .ok (.bool (walksB h w && hasAll h w (claimsM bk l))) t := by
  obtain ⟨n, rfl⟩ : ∃ m, n = m + 1 := ⟨n - 1, by omega⟩
  rw [callN_code (np := 5) (ns := 6) (c := c_fits) rfl rfl]
  have l0 := hh.l0
  simp [c_fits]
  rw [look_case_ev (by omega) hh m1 m4 ok hl]
  simp
  rw [walks_ev (by omega) hh r]
  cases walksB h w with
  | false => simp
  | true =>
    simp
    rw [ev_lc1n (t1 := t) eC (claimsM bk l) (fun c => .bool (holdsM h (atW w c.beat.toNat) c)) (by
      simp
      rw [claims_of_ev (by omega)]
      simp) (fun c hc => ⟨_, rfl, by
      have hco := (claimsM_ok ok).1 c hc
      have hb : 0 ≤ c.beat ∧ c.beat ≤ h.last := ⟨hco.2.2.1, hco.2.2.2.1⟩
      simp
      rw [beat_C]
      simp
      rw [show PyData.int c.beat = .int ((c.beat.toNat : Nat) : Int) from congrArg _ (by omega), ixW r (by omega)]
      simp
      rw [holds_ev (by omega) hh (r.at (by omega)).2 m4 hco]⟩)]
    simp only [R.bind]
    rw [bi_all fun c : Clm => holdsM h (atW w c.beat.toNat) c]
    rfl
theorem first_story_ev {n : Nat} {h : House} {m : Int} {bk : List (Option Int × Clm)} {l : List Int} {t : Tw} (hn : 8 ≤ n) (hh : House.Ok h) (m1 : 1 ≤ m) (m4 : m ≤ 4) (ok : BookOk h m bk) (hl : FolkOk m l) : callN T n 38 [eH h, .int m, .list (bk.map eB), eT l] t = match firstM h m (claimsM bk l) with
    | none => .exc 8 t
    | some w => .ok (eL w) t := by
  obtain ⟨n, rfl⟩ : ∃ m, n = m + 1 := ⟨n - 1, by omega⟩
  rw [callN_code (np := 4) (ns := 5) (c := c_first_story) rfl rfl]
  simp [c_first_story]
  rw [look_case_ev (by omega) hh m1 m4 ok hl]
  simp
  rw [claims_of_ev (by omega)]
  simp
  rw [first_of_ev (by omega) hh m1 m4 (claimsM_ok ok).1]
  simp
  cases firstM h m (claimsM bk l) with
  | none => simp [eW]
  | some w =>
    simp [eW, eL]
    rfl
end Wl

set_option maxHeartbeats 4000000
namespace Wl
open PySem L2 Wv
/-! ### the first story fits -/
theorem let_holds {h : House} {m : Int} {cl : List Clm} {b : Nat} {s : List Int} (hs : s ∈ letM h m cl b) {c : Clm} (hc : c ∈ cl) (hb : c.beat = (b : Int)) : holdsM h s c = true := by
  unfold letM at hs
  have := (List.mem_filter.mp hs).2
  exact List.all_eq_true.mp this c (List.mem_filter.mpr ⟨hc, by simpa using hb⟩)
theorem met_let {h : House} {m : Int} {cl : List Clm} {L b : Nat} {s : List Int} (hs : s ∈ metM h m cl L b) : s ∈ letM h m cl b := (aheadL_sub h m cl b).subset (met_mem.mp hs).1
theorem atW_walk {h : House} {m : Int} {cl : List Clm} {L b : Nat} (hb : b ≤ L) : atW (walkM h m cl L) b = storyM h m cl L b := by
  unfold atW walkM
  rw [List.getD_eq_getElem?_getD, List.getElem?_map, List.getElem?_range (by omega)]
  rfl
theorem walk_row {h : House} {m : Int} {cl : List Clm} (m0 : 0 ≤ m) (h0 : metM h m cl h.last.toNat 0 ≠ []) : RowOk h m (walkM h m cl h.last.toNat) := ⟨by simp [walkM], fun s hs => by
  obtain ⟨b, hb, rfl⟩ := List.mem_map.mp hs
  exact metM_ok m0 (story_mem h0 b (by have := List.mem_range.mp hb; omega))⟩
theorem walk_walks {h : House} {m : Int} {cl : List Clm} (h0 : metM h m cl h.last.toNat 0 ≠ []) : walksB h (walkM h m cl h.last.toNat) = true := by
  unfold walksB
  rw [List.all_eq_true]
  intro b hb
  have hb := List.mem_range.mp hb
  rw [atW_walk (by omega), atW_walk (by omega)]
  exact story_step h0 hb
theorem walk_has {h : House} {m : Int} {cl : List Clm} (hc : ∀ c ∈ cl, Clm.Ok h m c) (h0 : metM h m cl h.last.toNat 0 ≠ []) : hasAll h (walkM h m cl h.last.toNat) cl = true := by
  unfold hasAll
  rw [List.all_eq_true]
  intro c hcc
  have hb : 0 ≤ c.beat ∧ c.beat ≤ h.last := ⟨(hc c hcc).2.2.1, (hc c hcc).2.2.2.1⟩
  rw [atW_walk (by omega)]
  exact let_holds (met_let (story_mem h0 _ (by omega))) hcc (by omega)
/-! ### tellers -/
def addI (ks : List Int) (k : Int) : List Int := if k ∈ ks then ks else ks ++ [k]
def eDI (ks : List Int) : List (PyData × PyData) := ks.map fun k => (.int k, .bool true)
theorem same_int (a b : Int) : sameD (.int a) (.int b) = decide (a = b) := by rw [sameD]
theorem addI_mem {ks : List Int} {k a : Int} : a ∈ addI ks k ↔ a ∈ ks ∨ a = k := by
  unfold addI
  split
  · exact ⟨.inl, fun q => q.elim id fun q => by rw [q]; assumption⟩
  · simp
theorem addI_nodup {ks : List Int} {k : Int} (h : ks.Nodup) : (addI ks k).Nodup := by
  unfold addI
  split
  · exact h
  · rw [List.nodup_append]
    exact ⟨h, by simp, fun x hx y hy e => by simp at hy; subst hy e; contradiction⟩
theorem addI_len (ks : List Int) (k : Int) : (addI ks k).length ≤ ks.length + 1 := by
  unfold addI
  split <;> simp
theorem fit_I (ks : List Int) (k : Int) : fitD (.int k) (eDI ks) = true := by cases ks <;> rfl
theorem any_I (ks : List Int) (k : Int) : ((eDI ks).any fun p => sameD p.1 (.int k)) = decide (k ∈ ks) := by
  induction ks with
  | nil => rfl
  | cons a ks ih =>
    unfold eDI at *
    rw [List.map_cons, List.any_cons, ih]
    simp only [same_int, List.mem_cons]
    by_cases h : a = k <;> by_cases h2 : k ∈ ks <;> simp [h, h2, eq_comm]
    exact fun q => h q.symm
theorem put_I {ks : List Int} {k : Int} (hn : ks.length < lineN) : putD (eDI ks) (.int k) (.bool true) = some (eDI (addI ks k)) := by
  unfold putD
  rw [fit_I, Bool.true_and, if_pos (by simpa [eDI] using hn)]
  congr 1
  unfold putL addI
  rw [any_I]
  by_cases h : k ∈ ks
  · rw [if_pos (by simpa using h), if_pos h]
    unfold eDI
    rw [List.map_map]
    apply List.map_congr_left
    intro a ha
    simp only [Function.comp, same_int]
    by_cases q : a = k <;> simp [q]
  · rw [if_neg (by simpa using h), if_neg h]
    simp [eDI]
theorem ev_dcI {F : Nat → List PyData → Tw → R PyData} {m : Bool} {env : Wv.Env} {t : Tw} {α : Type} {k v : CE} {own : List Nat} {tg : Tg} {it : CI} {c : CO} {t1 : Tw} (enc : α → PyData) (xs : List α) (p : α → Bool) (kf : α → Int) (hi : evalI F it env t = .ok (xs.map enc) t1) (hn : xs.length < 1000000)
    (hb : ∀ x ∈ xs, ∃ env', bindTg tg (enc x) (wipeE env own) = some env' ∧ evalC F c env' t1 = .ok (p x) t1 ∧ (p x = true → evalE F false k env' t1 = .ok (.int (kf x)) t1 ∧ evalE F false v env' t1 = .ok (.bool true) t1)) :
    evalE F m (.dc1 k v own tg it c) env t = .ok (.dict (eDI ((xs.filter p).foldl (fun l x => addI l (kf x)) []))) t1 := by
  rw [evalE, hi]
  simp only [R.bind]
  generalize hw : dcLoop _ _ _ _ = w
  obtain ⟨rfl, _⟩ := dc_at hw enc xs rfl eDI [] rfl (fun l x => if p x then addI l (kf x) else l) (fun l n => l.length + n ≤ 10000000) 0 (fun l n x hx i => by
    obtain ⟨env', h1, h2, h3⟩ := hb x hx
    rw [h1]
    simp only [h2]
    cases q : p x with
    | false => exact ⟨rfl, by simp; omega⟩
    | true =>
      obtain ⟨q1, q2⟩ := h3 q
      simp only [if_true, q1, q2]
      refine ⟨?_, by have := addI_len l (kf x); omega⟩
      unfold putR
      rw [put_I (by unfold lineN; omega)]) (by simp; omega)
  rw [fold_filter]
theorem foldI_mem {α : Type} (kf : α → Int) : ∀ (xs : List α) (l : List Int) (a : Int), (a ∈ xs.foldl (fun l x => addI l (kf x)) l ↔ a ∈ l ∨ ∃ x ∈ xs, a = kf x)
  | [], l, a => by simp
  | x :: xs, l, a => by
    rw [List.foldl_cons, foldI_mem kf xs, addI_mem]
    simp only [List.mem_cons, exists_eq_or_imp, or_assoc]
theorem foldI_nodup {α : Type} (kf : α → Int) : ∀ (xs : List α) (l : List Int), l.Nodup → (xs.foldl (fun l x => addI l (kf x)) l).Nodup
  | [], l, h => h
  | x :: xs, l, h => foldI_nodup kf xs _ (addI_nodup h)
theorem isort_nodup_rising {l : List Int} (h : l.Nodup) : (isort leI l).Pairwise (· < ·) := by
  have h1 := lin_I.sorted l
  have h2 : (isort leI l).Nodup := (isort_perm leI l).nodup_iff.mpr h
  exact (h1.and h2).imp fun {a b} q => by
    have := q.1
    have := q.2
    simp [leI] at *
    omega
theorem rising_ext : ∀ {l m : List Int}, l.Pairwise (· < ·) → m.Pairwise (· < ·) → (∀ a, a ∈ l ↔ a ∈ m) → l = m
  | [], [], _, _, _ => rfl
  | [], b :: m, _, _, h => absurd ((h b).mpr (by simp)) (by simp)
  | a :: l, [], _, _, h => absurd ((h a).mp (by simp)) (by simp)
  | a :: l, b :: m, h1, h2, h => by
    have h1' := List.pairwise_cons.mp h1
    have h2' := List.pairwise_cons.mp h2
    have e : a = b := by
      rcases List.mem_cons.mp ((h a).mp (by simp)) with q | q
      · exact q
      · rcases List.mem_cons.mp ((h b).mpr (by simp)) with q2 | q2
        · exact q2.symm
        · have := h1'.1 _ q2
          have := h2'.1 _ q
          omega
    subst e
    congr 1
    refine rising_ext h1'.2 h2'.2 fun x => ⟨fun q => ?_, fun q => ?_⟩
    · rcases List.mem_cons.mp ((h x).mp (by simp [q])) with w | w
      · have := h1'.1 _ q; omega
      · exact w
    · rcases List.mem_cons.mp ((h x).mpr (by simp [q])) with w | w
      · have := h2'.1 _ q; omega
      · exact w
def tellM (m : Int) (bk : List (Option Int × Clm)) : List Int := ((List.range m.toNat).map fun k : Nat => (k : Int)).filter fun k => bk.any fun p => decide (p.1 = some k)
theorem tellers_ev {n : Nat} {h : House} {m : Int} {bk : List (Option Int × Clm)} {t : Tw} (hn : 6 ≤ n) (hh : House.Ok h) (m1 : 1 ≤ m) (m4 : m ≤ 4) (ok : BookOk h m bk) : callN T n 29 [eH h, .int m, .list (bk.map eB)] t = .ok (eT (tellM m bk)) t := by
  obtain ⟨n, rfl⟩ : ∃ m, n = m + 1 := ⟨n - 1, by omega⟩
  rw [callN_code (np := 3) (ns := 5) (c := c_tellers) rfl rfl]
  have hbl := ok.len
  simp [c_tellers]
  rw [look_book_ev (by omega) hh m1 m4 ok]
  simp
  rw [ev_dcI (t1 := t) eB bk (fun p => p.1.isSome) (fun p => p.1.getD 0) (by simp) (by omega) (fun p hp => ⟨_, rfl, by
    obtain ⟨o, c⟩ := p
    cases o <;> simp [eO] <;> rfl, fun q => by
    obtain ⟨o, c⟩ := p
    cases o with
    | none => simp at q
    | some i => simp [eO]⟩)]
  simp only [R.bind]
  generalize hk : List.foldl _ _ _ = ks
  have hm : ∀ a, a ∈ ks ↔ ∃ p ∈ bk, p.1 = some a := fun a => by
    rw [← hk, foldI_mem]
    constructor
    · rintro (q | ⟨p, hp, e⟩)
      · simp at q
      · obtain ⟨h1, h2⟩ := List.mem_filter.mp hp
        exact ⟨p, h1, by cases q : p.1 <;> simp_all⟩
    · rintro ⟨p, hp, e⟩
      exact .inr ⟨p, List.mem_filter.mpr ⟨hp, by simp [e]⟩, by simp [e]⟩
  have hnd : ks.Nodup := by rw [← hk]; exact foldI_nodup _ _ _ (by simp)
  have e1 : biD .sorted [.dict (eDI ks)] = some (.list ((isort leI ks).map .int)) := by
    show okIf (okDict (eDI ks) && sortOk ((eDI ks).map (·.1))) (.list (sortD leD ((eDI ks).map (·.1)))) = _
    rw [show (eDI ks).map (·.1) = ks.map .int by simp [eDI], sortOk_int, sortD_map leD_int, show okDict (eDI ks) = true by cases ks <;> rfl]
    rfl
  rw [e1]
  simp
  unfold eT
  congr 3
  refine rising_ext (isort_nodup_rising hnd) ?_ fun a => ?_
  · unfold tellM
    refine List.Pairwise.sublist List.filter_sublist ?_
    rw [List.pairwise_map]
    exact List.pairwise_lt_range.imp fun {a b} q => by omega
  · rw [isort_mem, hm]
    unfold tellM
    simp only [List.mem_filter, List.any_eq_true, decide_eq_true_eq, List.mem_map, List.mem_range]
    constructor
    · rintro ⟨p, hp, e⟩
      have := ok.te p hp a e
      exact ⟨⟨a.toNat, by omega, by omega⟩, p, hp, e⟩
    · rintro ⟨_, p, hp, e⟩
      exact ⟨p, hp, e⟩
end Wl

set_option maxHeartbeats 4000000
namespace Wl
open PySem L2 Wv
/-! ### counting -/
def cntM (h : House) (m : Int) (cl : List Clm) (L : Nat) : Nat → List Int → Int
  | 0, _ => 1
  | b + 1, s => (((metM h m cl L b).filter fun s0 => stepB h (b : Int) s0 s).map fun s0 => cntM h m cl L b s0).sum
def totM (h : House) (m : Int) (cl : List Clm) : Int := ((metM h m cl h.last.toNat h.last.toNat).map (cntM h m cl h.last.toNat h.last.toNat)).sum
theorem perm_sum {l m : List Int} (p : l.Perm m) : l.sum = m.sum := by
  induction p with
  | nil => rfl
  | cons x _ ih => simp [ih]
  | swap x y l => simp; omega
  | trans _ _ h1 h2 => exact h1.trans h2
theorem perm_same {l m : List (List Int)} (h1 : l.Nodup) (h2 : m.Nodup) (h : ∀ a, a ∈ l ↔ a ∈ m) : l.Perm m := (List.perm_ext_iff_of_nodup h1 h2).mpr h
theorem look_put {β : Type} {k k' : List Int} {v : β} : ∀ (l : List (List Int × β)), lookP (putP l k v) k' = if k' = k then some v else lookP l k' := by
  have one : ∀ (l : List (List Int × β)), k ∈ l.map (·.1) → lookP (l.map fun p => if p.1 = k then (p.1, v) else p) k' = if k' = k then some v else lookP l k' := by
    intro l
    induction l with
    | nil => intro h; simp at h
    | cons p l ih =>
      intro hk
      unfold lookP at *
      rw [List.map_cons, List.find?_cons, List.find?_cons]
      by_cases h : p.1 = k
      · rw [if_pos h]
        by_cases h2 : k' = k
        · simp [h, h2]
        · have h3 : ¬ k = k' := fun e => h2 e.symm
          simp only [h, h3, decide_false, if_neg h2]
          by_cases h4 : k ∈ l.map (·.1)
          · have := ih h4
            rw [if_neg h2] at this
            exact this
          · congr 1
            have : l.map (fun p => if p.1 = k then (p.1, v) else p) = l := by
              conv => rhs; rw [← List.map_id l]
              apply List.map_congr_left
              intro q hq
              have : ¬ q.1 = k := fun e => h4 (List.mem_map.mpr ⟨q, hq, e⟩)
              simp [this]
            rw [this]
      · rw [if_neg h]
        have h4 : k ∈ l.map (·.1) := by
          rcases List.mem_cons.mp hk with q | q
          · exact absurd q.symm h
          · exact q
        by_cases h2 : p.1 = k'
        · have h3 : ¬ k' = k := fun e => h (h2.trans e)
          simp [h2, h3]
        · simp only [h2, decide_false]
          exact ih h4
  intro l
  unfold putP
  by_cases h : k ∈ l.map (·.1)
  · rw [if_pos h]; exact one l h
  · rw [if_neg h]
    unfold lookP
    rw [List.find?_append]
    by_cases h2 : k' = k
    · have : l.find? (fun p => decide (p.1 = k')) = none := by
        rw [List.find?_eq_none]
        intro p hp
        simp
        exact fun e => h (List.mem_map.mpr ⟨p, hp, e.trans h2⟩)
      rw [this, if_pos h2]
      simp [h2]
    · have h3 : ¬ k = k' := fun e => h2 e.symm
      rw [if_neg h2]
      simp [h3]
theorem look_mem {β : Type} {l : List (List Int × β)} {k : List Int} {v : β} (nd : (l.map (·.1)).Nodup) (h : (k, v) ∈ l) : lookP l k = some v := by
  unfold lookP
  induction l with
  | nil => simp at h
  | cons p l ih =>
    rw [List.find?_cons]
    rcases List.mem_cons.mp h with q | q
    · rw [← q]; simp
    · have hne : ¬ p.1 = k := fun e => by
        rw [List.map_cons] at nd
        have := (List.nodup_cons.mp nd).1
        exact this (by rw [e]; exact List.mem_map.mpr ⟨_, q, rfl⟩)
      simp only [hne, decide_false]
      rw [List.map_cons] at nd
      exact ih (List.nodup_cons.mp nd).2 q
theorem mem_look {β : Type} {l : List (List Int × β)} {k : List Int} {v : β} (h : lookP l k = some v) : (k, v) ∈ l := by
  unfold lookP at h
  cases q : l.find? (fun p => decide (p.1 = k)) with
  | none => rw [q] at h; simp at h
  | some p =>
    rw [q] at h
    have h1 := List.find?_some q
    have h2 := List.mem_of_find?_eq_some q
    simp at h h1
    rw [← h1, ← h]
    exact h2
theorem look_none {β : Type} {l : List (List Int × β)} {k : List Int} : lookP l k = none ↔ k ∉ l.map (·.1) := by
  unfold lookP
  rw [Option.map_eq_none_iff, List.find?_eq_none]
  constructor
  · intro h q
    obtain ⟨p, hp, e⟩ := List.mem_map.mp q
    have := h p hp
    simp [e] at this
  · intro h p hp
    simp
    exact fun e => h (List.mem_map.mpr ⟨p, hp, e⟩)
/-- a table of counts at a beat -/
structure TabOk (h : House) (m : Int) (cl : List Clm) (L b : Nat) (tb : List (List Int × Int)) : Prop where
  nd : (tb.map (·.1)).Nodup
  ks : ∀ k, k ∈ tb.map (·.1) ↔ k ∈ metM h m cl L b
  vs : ∀ p ∈ tb, p.2 = cntM h m cl L b p.1
theorem metM_nodup (h : House) (m : Int) (cl : List Clm) (L b : Nat) : (metM h m cl L b).Nodup := nodup_of (metM_rising h m cl L b)
theorem TabOk.perm {h : House} {m : Int} {cl : List Clm} {L b : Nat} {tb : List (List Int × Int)} (o : TabOk h m cl L b tb) : (tb.map (·.1)).Perm (metM h m cl L b) := perm_same o.nd (metM_nodup h m cl L b) o.ks
theorem TabOk.look {h : House} {m : Int} {cl : List Clm} {L b : Nat} {tb : List (List Int × Int)} (o : TabOk h m cl L b tb) {s : List Int} (hs : s ∈ metM h m cl L b) : lookP tb s = some (cntM h m cl L b s) := by
  obtain ⟨p, hp, e⟩ := List.mem_map.mp ((o.ks s).mpr hs)
  have := o.vs p hp
  rw [← e, ← this]
  exact look_mem o.nd hp
theorem TabOk.total {h : House} {m : Int} {cl : List Clm} {tb : List (List Int × Int)} (o : TabOk h m cl h.last.toNat h.last.toNat tb) : ((tb.map (·.1)).map (cntM h m cl h.last.toNat h.last.toNat)).sum = totM h m cl := perm_sum (o.perm.map _)
theorem tab_mk (h : House) (m : Int) (cl : List Clm) (L b : Nat) : TabOk h m cl L b ((metM h m cl L b).map fun s => (s, cntM h m cl L b s)) := ⟨by simpa [Function.comp_def] using metM_nodup h m cl L b, by simp [Function.comp_def], fun p hp => by
  obtain ⟨s, hs, rfl⟩ := List.mem_map.mp hp
  rfl⟩
/-- a table being filled from some stands of the beat ahead -/
structure FillOk (h : House) (m : Int) (cl : List Clm) (L b : Nat) (d : List (List Int)) (fr : List (List Int × Int)) : Prop where
  nd : (fr.map (·.1)).Nodup
  ks : ∀ k, k ∈ fr.map (·.1) ↔ k ∈ metM h m cl L (b + 1) ∧ ∃ s0 ∈ d, stepB h (b : Int) s0 k = true
  vs : ∀ k ∈ metM h m cl L (b + 1), (lookP fr k).getD 0 = ((d.filter fun s0 => stepB h (b : Int) s0 k).map fun s0 => cntM h m cl L b s0).sum
theorem FillOk.nil (h : House) (m : Int) (cl : List Clm) (L b : Nat) : FillOk h m cl L b [] [] := ⟨by simp, by simp, fun k _ => rfl⟩
/-- within one stand of the beat ahead -/
structure FillIn (h : House) (m : Int) (cl : List Clm) (L b : Nat) (d : List (List Int)) (s : List Int) (e : List (List Int)) (fr : List (List Int × Int)) : Prop where
  nd : (fr.map (·.1)).Nodup
  ks : ∀ k, k ∈ fr.map (·.1) ↔ k ∈ metM h m cl L (b + 1) ∧ ((∃ s0 ∈ d, stepB h (b : Int) s0 k = true) ∨ k ∈ e)
  vs : ∀ k ∈ metM h m cl L (b + 1), (lookP fr k).getD 0 = ((d.filter fun s0 => stepB h (b : Int) s0 k).map fun s0 => cntM h m cl L b s0).sum + if k ∈ e then cntM h m cl L b s else 0
theorem FillOk.into {h : House} {m : Int} {cl : List Clm} {L b : Nat} {d : List (List Int)} {fr : List (List Int × Int)} (o : FillOk h m cl L b d fr) (s : List Int) : FillIn h m cl L b d s [] fr := ⟨o.nd, by simpa using o.ks, fun k hk => by simpa using o.vs k hk⟩
theorem FillIn.skip {h : House} {m : Int} {cl : List Clm} {L b : Nat} {d : List (List Int)} {s x : List Int} {e : List (List Int)} {fr : List (List Int × Int)} (o : FillIn h m cl L b d s e fr) (hx : x ∉ metM h m cl L (b + 1)) : FillIn h m cl L b d s (e ++ [x]) fr := ⟨o.nd, fun k => by
    rw [o.ks]
    constructor
    · rintro ⟨h1, h2⟩
      exact ⟨h1, h2.imp id fun q => by simp [q]⟩
    · rintro ⟨h1, h2⟩
      refine ⟨h1, h2.imp id fun q => ?_⟩
      rcases List.mem_append.mp q with q | q
      · exact q
      · simp at q; subst q; contradiction, fun k hk => by
    rw [o.vs k hk]
    have : ¬ k = x := fun e => hx (e ▸ hk)
    simp [this]⟩
theorem FillIn.put {h : House} {m : Int} {cl : List Clm} {L b : Nat} {d : List (List Int)} {s x : List Int} {e : List (List Int)} {fr : List (List Int × Int)} (o : FillIn h m cl L b d s e fr) (hx : x ∈ metM h m cl L (b + 1)) (he : x ∉ e) : FillIn h m cl L b d s (e ++ [x]) (putP fr x ((lookP fr x).getD 0 + cntM h m cl L b s)) := by
  obtain ⟨p1, p2, _⟩ := putP_keys fr x ((lookP fr x).getD 0 + cntM h m cl L b s)
  refine ⟨p2 o.nd, fun k => ?_, fun k hk => ?_⟩
  · rw [p1, o.ks]
    constructor
    · rintro (⟨h1, h2⟩ | rfl)
      · exact ⟨h1, h2.imp id fun q => by simp [q]⟩
      · exact ⟨hx, .inr (by simp)⟩
    · rintro ⟨h1, h2 | h2⟩
      · exact .inl ⟨h1, .inl h2⟩
      · rcases List.mem_append.mp h2 with q | q
        · exact .inl ⟨h1, .inr q⟩
        · exact .inr (by simpa using q)
  · rw [look_put]
    by_cases q : k = x
    · subst q
      rw [if_pos rfl]
      have := o.vs k hk
      rw [if_neg he] at this
      simp
      omega
    · rw [if_neg q, o.vs k hk]
      simp [q]
theorem FillIn.out {h : House} {m : Int} {cl : List Clm} {L b : Nat} {d : List (List Int)} {s : List Int} {fr : List (List Int × Int)} (o : FillIn h m cl L b d s (stepsM h s (b : Int)) fr) : FillOk h m cl L b (d ++ [s]) fr := ⟨o.nd, fun k => by
    rw [o.ks, stepsM_mem]
    simp only [List.mem_append, List.mem_singleton, or_and_right, exists_or, exists_eq_left], fun k hk => by
    rw [o.vs k hk]
    simp only [stepsM_mem, List.filter_append, List.map_append, List.sum_append]
    congr 1
    by_cases q : stepB h (b : Int) s k = true <;> simp [q]⟩
theorem FillOk.tab {h : House} {m : Int} {cl : List Clm} {L b : Nat} {tb fr : List (List Int × Int)} (hb : b < L) (o : TabOk h m cl L b tb) (f : FillOk h m cl L b (tb.map (·.1)) fr) : TabOk h m cl L (b + 1) fr := by
  refine ⟨f.nd, fun k => ?_, fun p hp => ?_⟩
  · rw [f.ks]
    refine ⟨fun q => q.1, fun q => ⟨q, ?_⟩⟩
    obtain ⟨s0, h0, h1⟩ := met_prev hb q
    exact ⟨s0, (o.ks s0).mpr h0, h1⟩
  · have hk : p.1 ∈ metM h m cl L (b + 1) := ((f.ks p.1).mp (List.mem_map.mpr ⟨p, hp, rfl⟩)).1
    have := f.vs p.1 hk
    rw [look_mem f.nd hp] at this
    simp only [Option.getD_some] at this
    rw [this, cntM]
    exact perm_sum ((o.perm.filter _).map _)
end Wl

set_option maxHeartbeats 4000000
namespace Wl
open PySem L2 Wv
theorem ix_DV {β : Type} {ev : β → PyData} {l : List (List Int × β)} {k : List Int} (hk : k ≠ []) (hl : ∀ p ∈ l, p.1 ≠ []) : ixD (.dict (eDV ev l)) (eT k) = (lookP l k).map ev := by
  rw [← get_DV]
  show (if fitD (eT k) (eDV ev l) then getL (eDV ev l) (eT k) else none) = _
  rw [if_pos (fit_T hk hl)]
theorem val_DV {β : Type} {ev : β → PyData} {l : List (List Int × β)} {t : Tw} (hl : ∀ p ∈ l, p.1 ≠ []) : valI t (.dict (eDV ev l)) = .ok ((l.map (·.1)).map eT) t := by
  show (if okDict _ then _ else _) = _
  rw [if_pos (ok_DV hl), keys_DV]
theorem bi_sum {l : List Int} : biD .sum [.list (l.map .int)] = some (.int l.sum) := by
  show (intsOf (l.map .int)).map _ = _
  rw [intsOf_map]
  rfl
theorem put_new {β : Type} {l : List (List Int × β)} {k : List Int} {v : β} (h : k ∉ l.map (·.1)) : putP l k v = l ++ [(k, v)] := by
  unfold putP
  rw [if_neg h]
theorem bi_sum_map {α : Type} (f : α → Int) (l : List α) : biD .sum [.list (l.map fun x => .int (f x))] = some (.int (l.map f).sum) := by
  have := bi_sum (l := l.map f)
  rw [List.map_map] at this
  exact this
theorem cnt_succ {h : House} {m : Int} {cl : List Clm} {L b : Nat} {s : List Int} : (((metM h m cl L b).filter fun s0 => stepB h (b : Int) s0 s).map fun s0 => cntM h m cl L b s0).sum = cntM h m cl L (b + 1) s := rfl
def tabL (h : House) (m : Int) (cl : List Clm) (L b : Nat) : List (List Int × Int) := (metM h m cl L b).map fun s => (s, cntM h m cl L b s)
theorem tab_ne {h : House} {m : Int} {cl : List Clm} {L b : Nat} (m1 : 1 ≤ m) {tb : List (List Int × Int)} (o : TabOk h m cl L b tb) : ∀ p ∈ tb, p.1 ≠ [] := fun p hp => standOk_ne m1 (metM_ok (by omega) ((o.ks p.1).mp (List.mem_map.mpr ⟨p, hp, rfl⟩)))
theorem met_len {h : House} (ok : House.Ok h) {m : Int} (m4 : m ≤ 4) {cl : List Clm} {L b : Nat} : (metM h m cl L b).length ≤ 1296 := Nat.le_trans (metM_sub h m cl L b).length_le (standsM_len ok m4)
theorem count_stories_ev {n : Nat} {h : House} {m : Int} {bk : List (Option Int × Clm)} {l : List Int} {t : Tw} (hn : 7 ≤ n) (hh : House.Ok h) (m1 : 1 ≤ m) (m4 : m ≤ 4) (ok : BookOk h m bk) (hl : FolkOk m l) : callN T n 41 [eH h, .int m, .list (bk.map eB), eT l] t = .ok (.int (totM h m (claimsM bk l))) t := by
  obtain ⟨n, rfl⟩ : ∃ m, n = m + 1 := ⟨n - 1, by omega⟩
  rw [callN_code (np := 4) (ns := 10) (c := c_count_stories) rfl rfl]
  have l0 := hh.l0
  have l12 := hh.l12
  simp [c_count_stories]
  rw [look_case_ev (by omega) hh m1 m4 ok hl]
  simp
  rw [claims_of_ev (by omega)]
  simp
  have hcl := (claimsM_ok (l := l) ok).1
  rw [met_lots_ev (by omega) hh m1 m4 hcl]
  generalize claimsM bk l = cl at *
  simp
  generalize hL : h.last.toNat = L at *
  have hlen : ∀ b, (metM h m cl L b).length ≤ 1296 := fun b => met_len hh m4
  rw [ev_dc1 (t1 := t) eT (metM h m cl L 0) (fun _ => true) id PyData.int (fun _ => 1) (by
    simp
    rw [lots_ix0, hL]
    simp [eL]) (by have := hlen 0; omega) (fun s hs => ⟨_, rfl, by simp, fun _ => ⟨by simp, by simp, standOk_ne m1 (metM_ok (by omega) hs)⟩⟩), show (metM h m cl L 0).filter (fun _ => true) = metM h m cl L 0 by simp, fold_put id (fun _ => (1 : Int)) (metM h m cl L 0) [] (by simpa using metM_nodup h m cl L 0)]
  rw [show ([] ++ (metM h m cl L 0).map fun x => (id x, (1 : Int))) = tabL h m cl L 0 from by simp [tabL, cntM]]
  simp
  rw [bi_len_LL]
  simp
  rw [if_pos ⟨by decide, small_of (by omega) (by omega)⟩, rngs_map, show (max h.last 0).toNat = L by omega]
  rw [show (List.range L).map (fun k : Nat => PyData.int (1 + (k : Nat))) = (List.range L).map fun k : Nat => PyData.int ((k + 1 : Nat) : Int) from List.map_congr_left fun k _ => congrArg PyData.int (by omega)]
  simp only []
  generalize hz : forLoop _ _ _ _ = z
  obtain ⟨env', t', rfl, x6, x7, x8, x9, rfl, rfl⟩ := for_at hz (fun k : Nat => .int ((k + 1 : Nat) : Int)) (List.range L) rfl (fun d env t2 => ∃ x6 x7 x8 x9, env = [some (false, eH h), some (false, .int m), some (false, .list (bk.map eB)), some (false, eT l), some (false, eLL (lotsM h m cl)), some (false, .dict (eDV .int (tabL h m cl L d.length))), x6, x7, x8, x9] ∧ t2 = t) ⟨none, none, none, none, rfl, rfl⟩ (fun d k rs env t2 hp ⟨x6, x7, x8, x9, e, e2⟩ => by
    subst e e2
    obtain ⟨rfl, hd⟩ := range_at hp
    clear hz
    have oT := tab_mk h m cl L d.length
    have hne := tab_ne m1 oT
    simp
    rw [show ((d.length : Int) + 1) = ((d.length + 1 : Nat) : Int) by omega, lots_ix (by omega), hL]
    simp [eL]
    generalize hz : forLoop _ _ _ _ = z
    obtain ⟨env', t', rfl, x8, x9, rfl, rfl⟩ := for_at hz eT (metM h m cl L (d.length + 1)) rfl (fun e env t3 => ∃ x8 x9, env = [some (false, eH h), some (false, .int m), some (false, .list (bk.map eB)), some (false, eT l), some (false, eLL (lotsM h m cl)), some (false, .dict (eDV .int (tabL h m cl L d.length))), some (false, .int ((d.length : Int) + 1)), some (true, .dict (eDV .int (e.map fun s => (s, cntM h m cl L (d.length + 1) s)))), x8, x9] ∧ t3 = t2) ⟨x8, x9, rfl, rfl⟩ (fun e s rs2 env t3 hp2 ⟨x8, x9, e1, e2⟩ => by
      subst e1 e2
      clear hz
      have hsm : s ∈ metM h m cl L (d.length + 1) := by rw [hp2]; simp
      have hso := metM_ok (m := m) (by omega) hsm
      have hel : e.length ≤ 1296 := by
        have := hlen (d.length + 1)
        rw [hp2] at this
        simp at this
        omega
      have hen : ∀ a ∈ e, a ≠ [] := fun a ha => by
        have : a ∈ metM h m cl L (d.length + 1) := by rw [hp2]; simp [ha]
        exact standOk_ne m1 (metM_ok (by omega) this)
      have hse : s ∉ e := fun q => by
        have := metM_nodup h m cl L (d.length + 1)
        rw [hp2, List.nodup_append] at this
        exact this.2.2 s q s (by simp) rfl
      simp
      rw [ev_lc1 (t1 := t3) eT (metM h m cl L d.length) (fun s0 => stepB h (d.length : Int) s0 s) (fun s0 => .int (cntM h m cl L d.length s0)) (by
        simp only [evI_val, ev_var]
        simp
        have := val_DV (ev := PyData.int) (t := t3) hne
        simp [Function.comp_def] at this
        exact this) (fun s0 hs0 => ⟨_, rfl, by
        simp
        rw [is_step_ev (by omega) hh (by have := (metM_ok (m := m) (by omega) hs0).1; have := hso.1; omega)]
        simp, by
        simp
        have hs0o := metM_ok (m := m) (by omega) hs0
        have := ix_DV (ev := PyData.int) (standOk_ne m1 hs0o) hne
        rw [oT.look hs0] at this
        rw [tabL, this]
        simp⟩)]
      simp only [R.bind]
      rw [bi_sum_map, cnt_succ]
      simp only [R_of_some]
      rw [put_DV (standOk_ne m1 hso) (fun p hp => by obtain ⟨a, ha, rfl⟩ := List.mem_map.mp hp; exact hen a ha) (by rw [List.length_map]; exact line_of (by omega)), put_new (by simpa [Function.comp_def] using hse)]
      simp)
    clear hz
    simp
    rfl)
  clear hz
  have oT := tab_mk h m cl L L
  have hne := tab_ne m1 oT
  simp
  rw [ev_lc1n (t1 := t') eT (metM h m cl L L) (fun s => .int (cntM h m cl L L s)) (by
    simp
    have := val_DV (ev := PyData.int) (t := t') hne
    simp [Function.comp_def] at this
    exact this) (fun s hs => ⟨_, rfl, by
    simp
    have := ix_DV (ev := PyData.int) (standOk_ne m1 (metM_ok (by omega) hs)) hne
    rw [oT.look hs] at this
    rw [tabL, this]
    simp⟩)]
  simp only [R.bind]
  rw [bi_sum_map]
  subst hL
  rfl
end Wl

set_option maxHeartbeats 4000000
namespace Wl
open PySem L2 Wv
theorem FillIn.len {h : House} (hh : House.Ok h) {m : Int} (m4 : m ≤ 4) {cl : List Clm} {L b : Nat} {d : List (List Int)} {s : List Int} {e : List (List Int)} {fr : List (List Int × Int)} (o : FillIn h m cl L b d s e fr) : fr.length ≤ 1296 := by
  have := nodup_len o.nd (metM_nodup h m cl L (b + 1)) fun a ha => ((o.ks a).mp ha).1
  have := met_len hh m4 (cl := cl) (L := L) (b := b + 1)
  simp at *
  omega
theorem FillIn.ne {h : House} {m : Int} (m1 : 1 ≤ m) {cl : List Clm} {L b : Nat} {d : List (List Int)} {s : List Int} {e : List (List Int)} {fr : List (List Int × Int)} (o : FillIn h m cl L b d s e fr) : ∀ p ∈ fr, p.1 ≠ [] := fun p hp => standOk_ne m1 (metM_ok (by omega) ((o.ks p.1).mp (List.mem_map.mpr ⟨p, hp, rfl⟩)).1)
theorem getD_map {β γ : Type} (f : β → γ) (o : Option β) (b : β) : (o.map f).getD (f b) = f (o.getD b) := by cases o <;> rfl
theorem law_number_ev {n : Nat} {h : House} {m : Int} {cl : List Clm} {t : Tw} (hn : 3 ≤ n) (hh : House.Ok h) (m1 : 1 ≤ m) (m4 : m ≤ 4) : callN T n 53 [eH h, eLL (lotsM h m cl)] t = .ok (.int (totM h m cl)) t := by
  obtain ⟨n, rfl⟩ : ∃ m, n = m + 1 := ⟨n - 1, by omega⟩
  rw [callN_code (np := 2) (ns := 7) (c := c__law_number) rfl rfl]
  have l0 := hh.l0
  have l12 := hh.l12
  have hlen : ∀ L b, (metM h m cl L b).length ≤ 1296 := fun L b => met_len hh m4
  simp [c__law_number]
  rw [lots_ix0]
  simp [eL]
  generalize hL : h.last.toNat = L at *
  generalize hz : forLoop _ _ _ _ = z
  obtain ⟨env', t', rfl, x3, rfl, rfl⟩ := for_at hz eT (metM h m cl L 0) rfl (fun d env t2 => ∃ x3, env = [some (false, eH h), some (false, eLL (lotsM h m cl)), some (true, .dict (eDV .int (d.map fun s => (s, (1 : Int))))), x3, none, none, none] ∧ t2 = t) ⟨none, rfl, rfl⟩ (fun d s rs env t2 hp ⟨x3, e, e2⟩ => by
    subst e e2
    clear hz
    have hsm : s ∈ metM h m cl L 0 := by rw [hp]; simp
    have hel : d.length ≤ 1296 := by
      have := hlen L 0
      rw [hp] at this
      simp at this
      omega
    have hen : ∀ a ∈ d, a ≠ [] := fun a ha => by
      have : a ∈ metM h m cl L 0 := by rw [hp]; simp [ha]
      exact standOk_ne m1 (metM_ok (by omega) this)
    have hse : s ∉ d := fun q => by
      have := metM_nodup h m cl L 0
      rw [hp, List.nodup_append] at this
      exact this.2.2 s q s (by simp) rfl
    simp
    rw [put_DV (ev := PyData.int) (v := 1) (standOk_ne m1 (metM_ok (by omega) hsm)) (fun p hp => by obtain ⟨a, ha, rfl⟩ := List.mem_map.mp hp; exact hen a ha) (by rw [List.length_map]; exact line_of (by omega)), put_new (by simpa [Function.comp_def] using hse)]
    simp)
  clear hz
  have o0 : TabOk h m cl L 0 ((metM h m cl L 0).map fun s => (s, (1 : Int))) := tab_mk h m cl L 0
  generalize (metM h m cl L 0).map (fun s => (s, (1 : Int))) = tb0 at *
  simp
  rw [if_pos (small_of (by omega) (by omega)), rngs0, hL]
  simp only []
  generalize hz : forLoop _ _ _ _ = z
  obtain ⟨env', t2, rfl, o, tb, x3, x4, x5, x6, rfl, oT, rfl⟩ := for_at hz (fun k : Nat => .int (k : Int)) (List.range L) rfl (fun d env t2 => ∃ o tb x3 x4 x5 x6, env = [some (false, eH h), some (false, eLL (lotsM h m cl)), some (o, .dict (eDV .int tb)), x3, x4, x5, x6] ∧ TabOk h m cl L d.length tb ∧ t2 = t') ⟨true, tb0, x3, none, none, none, rfl, o0, rfl⟩ (fun d k rs env t2 hp ⟨o, tb, x3, x4, x5, x6, e, oT, e2⟩ => by
    subst e e2
    obtain ⟨rfl, hd⟩ := range_at hp
    clear hz
    have hne := tab_ne m1 oT
    simp
    rw [show (if okDict (eDV PyData.int tb) then R.ok ((eDV PyData.int tb).map (·.1)) t2 else R.bad) = R.ok ((tb.map (·.1)).map eT) t2 by rw [if_pos (ok_DV hne), keys_DV]]
    simp only []
    generalize hz : forLoop _ _ _ _ = z
    obtain ⟨env', t3, rfl, fr, x3, x6, rfl, oF, rfl⟩ := for_at hz eT (tb.map (·.1)) rfl (fun e env t3 => ∃ fr x3 x6, env = [some (false, eH h), some (false, eLL (lotsM h m cl)), some (false, .dict (eDV .int tb)), x3, some (false, .int (d.length : Int)), some (true, .dict (eDV .int fr)), x6] ∧ FillOk h m cl L d.length e fr ∧ t3 = t2) ⟨[], x3, x6, rfl, FillOk.nil _ _ _ _ _, rfl⟩ (fun e s rs2 env t3 hp2 ⟨fr, x3, x6, e1, oF, e2⟩ => by
      subst e1 e2
      clear hz
      have hsm : s ∈ metM h m cl L d.length := (oT.ks s).mp (by rw [hp2]; simp)
      have hso := metM_ok (m := m) (by omega) hsm
      simp
      rw [law_steps_ev (by omega) hh (by have := hso.1; omega)]
      simp [eL]
      generalize hz : forLoop _ _ _ _ = z
      have oI := oF.into s
      obtain ⟨env', t4, rfl, fr', x6, rfl, oI', rfl⟩ := for_at hz eT (stepsM h s (d.length : Int)) rfl (fun g env t4 => ∃ fr x6, env = [some (false, eH h), some (false, eLL (lotsM h m cl)), some (false, .dict (eDV .int tb)), some (false, eT s), some (false, .int (d.length : Int)), some (true, .dict (eDV .int fr)), x6] ∧ FillIn h m cl L d.length e s g fr ∧ t4 = t3) ⟨fr, x6, rfl, oI, rfl⟩ (fun g x rs3 env t4 hp3 ⟨fr, x6, e1, oI, e2⟩ => by
        subst e1 e2
        clear hz
        have hxg : x ∉ g := fun q => by
          have := nodup_of (stepsM_rising hh s (d.length : Int))
          rw [hp3, List.nodup_append] at this
          exact this.2.2 x q x (by simp) rfl
        simp
        rw [show ((d.length : Int) + 1) = ((d.length + 1 : Nat) : Int) by omega, lots_ix (by omega), hL]
        simp only [R_of_some]
        rw [show eL (metM h m cl L (d.length + 1)) = .list ((metM h m cl L (d.length + 1)).map eT) from rfl, good_mem good_T]
        by_cases hx : x ∈ metM h m cl L (d.length + 1)
        · have hxo := standOk_ne m1 (metM_ok (m := m) (by omega) hx)
          have hfr := oI.ne m1
          simp [hx]
          rw [if_pos (ok_DV hfr)]
          rw [if_pos (fit_T hxo hfr), get_DV, getD_map PyData.int (lookP fr x) 0]
          simp
          rw [ix_DV (standOk_ne m1 hso) hne, oT.look hsm]
          simp
          rw [put_DV (ev := PyData.int) hxo hfr (line_of (by have := oI.len hh m4; omega))]
          simp
          exact ⟨_, _, ⟨rfl, rfl⟩, _, ⟨_, rfl⟩, oI.put hx hxg, rfl⟩
        · simp [hx]
          exact ⟨_, _, ⟨rfl, rfl⟩, _, ⟨_, rfl⟩, oI.skip hx, rfl⟩)
      clear hz
      simp
      exact ⟨_, _, ⟨rfl, rfl⟩, _, ⟨_, _, rfl⟩, oI'.out, rfl⟩)
    clear hz
    simp
    exact ⟨_, _, ⟨rfl, rfl⟩, .inl ⟨_, ⟨_, _, _, _, rfl⟩, oF.tab hd oT, rfl⟩⟩)
  clear hz
  have hne := tab_ne m1 oT
  simp at oT
  simp
  rw [ev_lc1n (t1 := t2) eT (tb.map (·.1)) (fun s => .int (cntM h m cl L L s)) (by
    simp only [evI_val, ev_var]
    simp
    have := val_DV (ev := PyData.int) (t := t2) hne
    simp at this
    exact this) (fun s hs => ⟨_, rfl, by
    simp
    have hsm := (oT.ks s).mp hs
    have := ix_DV (ev := PyData.int) (standOk_ne m1 (metM_ok (by omega) hsm)) hne
    rw [oT.look hsm] at this
    rw [this]
    simp⟩)]
  simp only [R.bind]
  rw [bi_sum_map]
  subst hL
  rw [oT.total]
  rfl
end Wl

set_option maxHeartbeats 4000000
namespace Wl
open PySem L2 Wv
/-! ### things drawn -/
theorem step_refl {h : House} {b : Int} : ∀ s : List Int, stepB h b s s = true
  | [] => rfl
  | x :: s => by simp [stepB, step_refl s]
theorem atW_snoc {w : List (List Int)} {s : List Int} {b : Nat} (hb : b < w.length) : atW (w ++ [s]) b = atW w b := by
  unfold atW
  rw [List.getD_eq_getElem?_getD, List.getD_eq_getElem?_getD, List.getElem?_append_left hb]
theorem atW_last {w : List (List Int)} {s : List Int} : atW (w ++ [s]) w.length = s := by
  unfold atW
  rw [List.getD_eq_getElem?_getD, List.getElem?_append_right (Nat.le_refl _)]
  simp
theorem steps_le {h : House} (hh : House.Ok h) {m : Int} (m1 : 1 ≤ m) (m4 : m ≤ 4) {s : List Int} (hs : StandOk h m s) (b : Int) : (stepsM h s b).length ≤ 1296 := stands_len hh (by omega) m4 (nodup_of (stepsM_rising hh s b)) fun a ha => step_ok hh hs (stepsM_mem.mp ha)
theorem law_walk_ev {n : Nat} {h : House} {m : Int} {t : Tw} (hn : 3 ≤ n) (g : Tg0 t) (hh : House.Ok h) (m1 : 1 ≤ m) (m4 : m ≤ 4) : ∃ w t', callN T n 48 [tTown, eH h, .int m] t = .ok (eL w) t' ∧ RowOk h m w ∧ walksB h w = true ∧ Tg0 t' := by
  obtain ⟨n, rfl⟩ : ∃ m, n = m + 1 := ⟨n - 1, by omega⟩
  rw [callN_code (np := 3) (ns := 6) (c := c__law_walk) rfl rfl]
  have l0 := hh.l0
  have l12 := hh.l12
  have r1 := hh.r1
  have r6 := hh.r6
  simp [c__law_walk]
  generalize hz : evalE _ _ (CE.lc1 _ _ _ _ _) _ _ = z
  obtain ⟨s, t1, rfl, hsl, hsr, g1⟩ := lc1_items hz (fun k : Nat => .int (k : Nat)) (List.range m.toNat) PyData.int (fun r => 0 ≤ r ∧ r < h.rooms) (t1 := t) (by simp; rw [if_pos (small_of (by omega) (by omega)), rngs0]) g (fun k hk t gt => by
    obtain ⟨r, t', e, h1, h2, h3⟩ := draw_ev (n := n) (c := h.rooms) (t := t) (by omega) gt (by omega) (by omega)
    refine ⟨_, r, t', rfl, ?_, ⟨h1, h2⟩, h3⟩
    simp
    exact e)
  clear hz
  have hso : StandOk h m s := ⟨by simp at hsl; omega, hsr⟩
  simp
  rw [if_pos (small_of (by omega) (by omega)), rngs0]
  simp only []
  generalize hz : forLoop _ _ _ _ = z
  obtain ⟨env', t2, rfl, w, x4, x5, rfl, i1, i2, i3, g2⟩ := for_at hz (fun k : Nat => .int (k : Int)) (List.range h.last.toNat) rfl (fun d env t2 => ∃ w x4 x5, env = [some (false, tTown), some (false, eH h), some (false, .int m), some (true, .list (w.map eT)), x4, x5] ∧ w.length = d.length + 1 ∧ (∀ s ∈ w, StandOk h m s) ∧ (∀ b, b < d.length → stepB h (b : Int) (atW w b) (atW w (b + 1)) = true) ∧ Tg0 t2) ⟨[s], none, none, rfl, rfl, by simpa using hso, by simp, g1⟩ (fun d k rs env t2 hp ⟨w, x4, x5, e, i1, i2, i3, g2⟩ => by
    subst e
    obtain ⟨rfl, hd⟩ := range_at hp
    clear hz
    obtain ⟨w0, s0, rfl⟩ : ∃ w0 s0, w = w0 ++ [s0] := ⟨w.dropLast, w.getLast (by intro q; rw [q] at i1; simp at i1), (List.dropLast_concat_getLast _).symm⟩
    have hs0 : StandOk h m s0 := i2 s0 (by simp)
    have hl0 : w0.length = d.length := by simpa using i1
    obtain ⟨s1, t3, e3, h3, g3⟩ := pick_ev (n := n) (l := stepsM h s0 (d.length : Int)) (e := eT) (t := t2) (by omega) g2 (List.ne_nil_of_mem (stepsM_mem.mpr (step_refl s0))) (by have := steps_le hh m1 m4 hs0 (d.length : Int); omega)
    have hst := stepsM_mem.mp h3
    simp
    rw [ixL_last]
    simp
    rw [law_steps_ev (by omega) hh (by have := hs0.1; omega)]
    simp only [R.bind, eL]
    rw [e3]
    simp [show d.length + 1 < lineN from line_of (by omega), hl0]
    refine ⟨_, _, ⟨rfl, rfl⟩, w0 ++ [s0] ++ [s1], ⟨_, _, by simp; exact ⟨rfl, rfl⟩⟩, by simp [hl0], ?_, ?_, g3⟩
    · intro a ha
      rcases List.mem_append.mp ha with q | q
      · exact i2 a q
      · simp at q
        rw [q]
        exact step_ok hh hs0 hst
    · intro b hb
      by_cases q : b = d.length
      · subst q
        rw [atW_snoc (by simp; omega), show d.length + 1 = (w0 ++ [s0]).length by simp [hl0], atW_last, ← hl0, atW_last]
        rw [hl0]
        exact hst
      · rw [atW_snoc (w := w0 ++ [s0]) (s := s1) (b := b) (by simp; omega), atW_snoc (w := w0 ++ [s0]) (s := s1) (b := b + 1) (by simp; omega)]
        exact i3 b (by omega))
  clear hz
  simp
  refine ⟨w, t2, ⟨rfl, rfl⟩, ⟨by simpa using i1, i2⟩, ?_, g2⟩
  unfold walksB
  rw [List.all_eq_true]
  intro b hb
  have hb := List.mem_range.mp hb
  exact i3 b (by simpa using hb)
end Wl

set_option maxHeartbeats 4000000
namespace Wl
open PySem L2 Wv
theorem line_le {k : Nat} (h : k ≤ 100000) : k ≤ lineN := Nat.le_trans h (by decide)
def tellL (m : Int) : List (Option Int) := none :: (((List.range m.toNat).map fun k : Nat => some (k : Int)) ++ (List.range m.toNat).map fun k : Nat => some (k : Int))
theorem tellL_enc (m : Int) : (tellL m).map eO = [PyData.none] ++ ((List.range m.toNat).map fun k : Nat => PyData.int (k : Int)) ++ ((List.range m.toNat).map fun k : Nat => PyData.int (k : Int)) := by
  simp [tellL, eO, Function.comp_def]
theorem law_book_ev {n : Nat} {h : House} {m mu : Int} {t : Tw} (hn : 4 ≤ n) (g : Tg0 t) (hh : House.Ok h) (m1 : 1 ≤ m) (m4 : m ≤ 4) (u0 : 0 ≤ mu) (u1 : mu ≤ 30) : ∃ bk t', callN T n 49 [tTown, eH h, .int m, .int mu] t = .ok (.list (bk.map eB)) t' ∧ BookOk h m bk ∧ (bk.length : Int) ≤ mu ∧ Tg0 t' := by
  obtain ⟨n, rfl⟩ : ∃ m, n = m + 1 := ⟨n - 1, by omega⟩
  rw [callN_code (np := 4) (ns := 9) (c := c__law_book) rfl rfl]
  have l0 := hh.l0
  have l12 := hh.l12
  simp [c__law_book]
  obtain ⟨w, t1, e1, rw1, _, g1⟩ := law_walk_ev (n := n) (t := t) (by omega) g hh m1 m4
  rw [e1]
  simp
  obtain ⟨k, t2, e2, k0, k1, g2⟩ := draw_ev (n := n) (c := mu + 1) (t := t1) (by omega) g1 (by omega) (by omega)
  rw [e2]
  simp
  rw [if_pos (small_of (by omega) (by omega)), rngs0]
  simp only []
  generalize hz : forLoop _ _ _ _ = z
  obtain ⟨env', t3, rfl, bk, x6, x7, x8, rfl, i1, i2, i3, g3⟩ := for_at hz (fun k : Nat => .int (k : Int)) (List.range k.toNat) rfl (fun d env t3 => ∃ bk x6 x7 x8, env = [some (false, tTown), some (false, eH h), some (false, .int m), some (false, .int mu), some (false, eL w), some (true, .list (bk.map eB)), x6, x7, x8] ∧ bk.length = d.length ∧ (∀ p ∈ bk, Clm.Ok h m p.2) ∧ (∀ p ∈ bk, ∀ i, p.1 = some i → 0 ≤ i ∧ i < m) ∧ Tg0 t3) ⟨[], none, none, none, rfl, rfl, by simp, by simp, g2⟩ (fun d j rs env t3 hp ⟨bk, x6, x7, x8, e, i1, i2, i3, g3⟩ => by
    subst e
    obtain ⟨rfl, hd⟩ := range_at hp
    clear hz
    obtain ⟨c, t4, e4, hc, g4⟩ := claim_ev (n := n) (t := t3) (by omega) g3 hh m1 m4
    simp
    rw [e4]
    simp
    rw [if_pos (small_of (i := 3) (by omega) (by omega)), rngs0]
    simp only []
    generalize hz : forLoop _ _ _ _ = z
    obtain ⟨env', t5, rfl, c, x8, rfl, hc, g5⟩ := for_at hz (fun k : Nat => .int (k : Int)) (List.range (3 : Int).toNat) rfl (fun d' env t5 => ∃ c x8, env = [some (false, tTown), some (false, eH h), some (false, .int m), some (false, .int mu), some (false, eL w), some (true, .list (bk.map eB)), some (false, .int (d.length : Int)), some (false, eC c), x8] ∧ Clm.Ok h m c ∧ Tg0 t5) ⟨c, x8, rfl, hc, g4⟩ (fun d' j rs env t5 hp ⟨c, x8, e, hc, g5⟩ => by
      subst e
      clear hz
      have hb : 0 ≤ c.beat ∧ c.beat ≤ h.last := ⟨hc.2.2.1, hc.2.2.2.1⟩
      simp
      rw [beat_C]
      simp
      rw [show PyData.int c.beat = .int ((c.beat.toNat : Nat) : Int) from congrArg _ (by omega), ixW rw1 (by omega)]
      simp
      rw [so_ev (by omega) hh (rw1.at (by omega)).2 m4 hc]
      simp
      cases holdsM h (atW w c.beat.toNat) c with
      | true =>
        simp
        exact ⟨_, _, ⟨rfl, rfl⟩, _, ⟨_, rfl⟩, hc, g5⟩
      | false =>
        simp
        obtain ⟨r, t6, e6, r0, r1, g6⟩ := draw_ev (n := n) (c := 5) (t := t5) (by omega) g5 (by omega) (by omega)
        rw [e6]
        simp
        by_cases q : 0 < r
        · simp [q]
          obtain ⟨c', t7, e7, hc', g7⟩ := claim_ev (n := n) (t := t6) (by omega) g6 hh m1 m4
          rw [e7]
          simp
          exact ⟨_, _, ⟨rfl, rfl⟩, _, ⟨_, rfl⟩, hc', g7⟩
        · simp [q]
          exact ⟨_, _, ⟨rfl, rfl⟩, _, ⟨_, rfl⟩, hc, g6⟩)
    clear hz
    obtain ⟨o, t6, e6, ho, g6⟩ := pick_ev (n := n) (l := tellL m) (e := eO) (t := t5) (by omega) g5 (by simp [tellL]) (by simp [tellL]; omega)
    rw [tellL_enc] at e6
    simp
    rw [if_pos (small_of (by omega) (by omega)), rngs0]
    simp only []
    rw [bin_addL (line_le (by simp; omega))]
    simp only [R_of_some]
    rw [if_pos (small_of (by omega) (by omega))]
    simp only []
    rw [bin_addL (line_le (by simp; omega))]
    simp only [R_of_some]
    rw [e6]
    simp [show bk.length < lineN from line_of (by omega)]
    refine ⟨_, _, ⟨rfl, rfl⟩, bk ++ [(o, c)], ⟨_, _, _, by simp [eB]; exact ⟨rfl, rfl, rfl⟩⟩, by simp [i1], ?_, ?_, g6⟩
    · intro a b hp
      rcases List.mem_append.mp hp with q | q
      · exact i2 (a, b) q
      · simp at q
        rw [q.2]
        exact hc
    · intro a b hp
      rcases List.mem_append.mp hp with q | q
      · exact i3 (a, b) q
      · simp at q
        rw [q.1]
        intro i e
        subst e
        simp [tellL] at ho
        omega)
  clear hz
  simp
  refine ⟨bk, t3, ⟨rfl, rfl⟩, ⟨by simp at i1; omega, i2, i3⟩, by simp at i1; omega, g3⟩
end Wl

set_option maxHeartbeats 4000000
namespace Wl
open PySem L2 Wv
theorem law_some_ev {n : Nat} {m : Int} {t : Tw} (hn : 3 ≤ n) (g : Tg0 t) (m1 : 1 ≤ m) (m4 : m ≤ 4) : ∃ l t', callN T n 50 [tTown, .int m] t = .ok (eT l) t' ∧ FolkOk m l ∧ Tg0 t' := by
  obtain ⟨n, rfl⟩ : ∃ m, n = m + 1 := ⟨n - 1, by omega⟩
  rw [callN_code (np := 2) (ns := 3) (c := c__law_some) rfl rfl]
  simp [c__law_some]
  obtain ⟨r, t1, e1, r0, r1, g1⟩ := draw_ev (n := n) (c := m) (t := t) (by omega) g (by omega) (by omega)
  rw [e1]
  simp
  generalize hz : evalE _ _ (CE.lc1 _ _ _ _ _) _ _ = z
  obtain ⟨sub, t2, rfl, hs, g2⟩ := lc1_drawn hz (fun k : Nat => .int (k : Nat)) (List.range m.toNat) (fun k : Nat => .int (k : Nat)) (t1 := t1) (by simp; rw [if_pos (small_of (by omega) (by omega)), rngs0]) g1 (fun k hk t gt => by
    obtain ⟨r, t', e, h1, h2, h3⟩ := draw_ev (n := n) (c := 2) (t := t) (by omega) gt (by omega) (by omega)
    refine ⟨_, decide (r = 0), t', rfl, ?_, h3, ?_⟩
    · simp
      rw [e]
      simp
    · simp)
  clear hz
  simp
  have hsl : sub.length ≤ 4 := by have := hs.length_le; simp at this; omega
  have f0 : FolkOk m [] := ⟨by simp, by simp, by simp⟩
  have f1 : FolkOk m [r] := ⟨by simp, by simp; omega, by simp⟩
  have f2 : FolkOk m (sub.map fun k : Nat => (k : Int)) := ⟨by
    rw [List.pairwise_map]
    exact (List.pairwise_lt_range.sublist hs).imp fun {a b} q => by omega, fun x hx => by
    obtain ⟨k, hk, rfl⟩ := List.mem_map.mp hx
    have := List.mem_range.mp (hs.subset hk)
    omega, by simp; omega⟩
  obtain ⟨l, t3, e3, hl, g3⟩ := pick_ev (n := n) (l := [[], [], [r], sub.map fun k : Nat => (k : Int)]) (e := eT) (t := t2) (by omega) g2 (by simp) (by simp)
  simp [eT] at e3
  simp [Function.comp_def] at e3
  rw [e3]
  refine ⟨l, t3, by simp [eT], ?_, g3⟩
  simp at hl
  rcases hl with rfl | rfl | rfl
  · exact f0
  · exact f1
  · exact f2
theorem law_case_ev {n : Nat} {mu : Int} {t : Tw} (hn : 5 ≤ n) (g : Tg0 t) (u0 : 0 ≤ mu) (u1 : mu ≤ 30) : ∃ h m bk t', callN T n 51 [tTown, .int mu] t = .ok (.tuple [eH h, .int m, .list (bk.map eB)]) t' ∧ House.Ok h ∧ 1 ≤ m ∧ m ≤ 3 ∧ 1 ≤ h.last ∧ h.last ≤ 4 ∧ h.rooms ≤ 4 ∧ BookOk h m bk ∧ (bk.length : Int) ≤ mu ∧ Tg0 t' := by
  obtain ⟨n, rfl⟩ : ∃ m, n = m + 1 := ⟨n - 1, by omega⟩
  rw [callN_code (np := 2) (ns := 4) (c := c__law_case) rfl rfl]
  simp [c__law_case]
  obtain ⟨m, t1, e1, hm, g1⟩ := pick_ev (n := n) (l := [(1 : Int), 2, 2, 2, 3]) (e := PyData.int) (t := t) (by omega) g (by simp) (by simp)
  simp at e1
  rw [e1]
  have hm' : 1 ≤ m ∧ m ≤ 3 := by simp at hm; omega
  simp
  obtain ⟨r, t2, e2, r0, r1, g2⟩ := draw_ev (n := n) (c := if m = 3 then 2 else 3) (t := t1) (by omega) g1 (by split <;> omega) (by split <;> omega)
  have er : r < 3 := by split at r1 <;> omega
  rw [show (if m = 3 then R.ok (PyData.int 2) t1 else R.ok (PyData.int 3) t1) = R.ok (PyData.int (if m = 3 then 2 else 3)) t1 by split <;> rfl]
  simp only []
  rw [e2]
  simp
  obtain ⟨q, t3, e3, q0, q1, g3⟩ := draw_ev (n := n) (c := 4) (t := t2) (by omega) g2 (by omega) (by omega)
  rw [e3]
  simp
  obtain ⟨h, t4, e4, hh, hr, hl, g4⟩ := law_house_ev (n := n) (r := 2 + r) (l := 1 + q) (t := t3) (by omega) g3 (by omega) (by omega) (by omega) (by omega)
  rw [e4]
  simp
  obtain ⟨bk, t5, e5, hbk, hlen, g5⟩ := law_book_ev (n := n) (t := t4) (by omega) g4 hh hm'.1 (by omega) u0 u1
  rw [e5]
  simp
  exact ⟨h, m, bk, t5, ⟨⟨rfl, rfl, rfl⟩, rfl⟩, hh, hm'.1, hm'.2, by omega, by omega, by omega, hbk, hlen, g5⟩
def mthR (m : Mt) (t : Tw) (k : List PyData → R PyData) : PyData → R PyData
  | .list xs => k xs
  | _ => .bad
@[simp] theorem mthR_b (m : Mt) (t : Tw) (k : List PyData → R PyData) (xs : List PyData) : mthR m t k (.list xs) = k xs := rfl
@[simp] theorem ev_mth {F : Nat → List PyData → Tw → R PyData} {md : Bool} {env : Wv.Env} {t : Tw} {a b : CE} {mt : Mt} : evalE F md (.mth mt a b) env t = (evalE F true a env t).bind fun x t => mthR mt t (fun xs => (evalE F true b env t).bind fun y t => R.of (mthD mt xs y) t) x := by
  rw [evalE]; first | rfl | (congr 1; funext x t; cases x <;> rfl)
theorem eqv_bool (a b : Bool) : PyData.eqv (.bool a) (.bool b) = decide (a = b) := good_bool.eqv a b
def refName : Nat → Str
  | 1 => "house"
  | 2 => "folk"
  | 3 => "beat"
  | 4 => "room"
  | 5 => "book"
  | 6 => "paper"
  | 7 => "text"
  | 8 => "none"
  | _ => "odd"
theorem refusal_ev {n c : Nat} {t : Tw} (hn : 1 ≤ n) (c1 : 1 ≤ c) (c8 : c ≤ 8) : callN T n 42 [tExc c] t = .ok (.str (refName c)) t := by
  obtain ⟨n, rfl⟩ : ∃ m, n = m + 1 := ⟨n - 1, by omega⟩
  rw [callN_code (np := 1) (ns := 2) (c := c__law_refusal) rfl rfl]
  obtain rfl | rfl | rfl | rfl | rfl | rfl | rfl | rfl : c = 1 ∨ c = 2 ∨ c = 3 ∨ c = 4 ∨ c = 5 ∨ c = 6 ∨ c = 7 ∨ c = 8 := by omega
  all_goals
    simp [c__law_refusal, tExc, isiD, excIs]
    rw [bin_addL (line_le (by simp))]
    simp [isiD, excIs]
    rw [bin_addL (line_le (by simp))]
    simp [isiD, excIs]
    simp [mthD, PyData.plain, PyData.plainAll, eqv_bool, PyData.depthAll, PyData.depth, List.countP, List.countP.go]
    simp [mthD, SeqAt.shaped, findD, eqv_bool]
    rw [if_pos ⟨⟨by decide, by decide⟩, by decide, by decide⟩]
    rfl
def tryR (ie ic : Nat) (z : SR) : SR := match z with
  | .exc d env' t' => if d < 9 then .next ((env'.set ic (some (false, tExc d))).set ie none) t' else .bad
  | r => r
@[simp] theorem tryR_n (ie ic : Nat) (e : Wv.Env) (t : Tw) : tryR ie ic (.next e t) = .next e t := rfl
@[simp] theorem tryR_r (ie ic : Nat) (d : PyData) (t : Tw) : tryR ie ic (.ret d t) = .ret d t := rfl
@[simp] theorem tryR_e (ie ic d : Nat) (e : Wv.Env) (t : Tw) : tryR ie ic (.exc d e t) = if d < 9 then .next ((e.set ic (some (false, tExc d))).set ie none) t else .bad := rfl
@[simp] theorem xs_try {F : Nat → List PyData → Tw → R PyData} {env : Wv.Env} {t : Tw} {b : CB} {ie ic : Nat} : execS F (.try_ b ie ic) env t = tryR ie ic (execB F b env t) := by
  rw [execS]; cases execB F b env t <;> rfl
theorem is_exc (c : Nat) : cmpD .Is (tExc c) .none = some false := rfl
theorem told_ev {n : Nat} {h : House} {m : Int} {bk : List (Option Int × Clm)} {l : List Int} {t : Tw} (hn : 9 ≤ n) (hh : House.Ok h) (m1 : 1 ≤ m) (m4 : m ≤ 4) (ok : BookOk h m bk) (hl : FolkOk m l) : callN T n 52 [eH h, .int m, .list (bk.map eB), eT l] t = .ok (match firstM h m (claimsM bk l) with
    | none => .str "none"
    | some w => eL w) t := by
  obtain ⟨n, rfl⟩ : ∃ m, n = m + 1 := ⟨n - 1, by omega⟩
  rw [callN_code (np := 4) (ns := 7) (c := c__law_told) rfl rfl]
  simp [c__law_told]
  rw [first_story_ev (by omega) hh m1 m4 ok hl]
  cases firstM h m (claimsM bk l) with
  | none =>
    simp
    rw [is_exc]
    simp
    rw [refusal_ev (by omega) (by omega) (by omega)]
    rfl
  | some w =>
    simp
end Wl

set_option maxHeartbeats 4000000
namespace Wl
open PySem L2 Wv
/-! ### claims and books compared -/
def wrdC : Clm → Str
  | .at_ _ _ _ => "at"
  | .not_ _ _ _ => "not"
  | .saw _ _ _ => "saw"
  | .missed _ _ _ => "missed"
  | .alone _ _ => "alone"
  | .heard _ _ => "heard"
def whtC : Clm → Option Int
  | .at_ _ _ r => some r
  | .not_ _ _ r => some r
  | .saw _ _ r => some r
  | .missed _ _ r => some r
  | .alone _ _ => none
  | .heard _ _ => none
theorem eC_eq (c : Clm) : eC c = .tuple [.str (wrdC c), .int c.who, .int c.beat, eO (whtC c)] := by cases c <;> rfl
theorem clm_ext {a b : Clm} (h1 : wrdC a = wrdC b) (h2 : a.who = b.who) (h3 : a.beat = b.beat) (h4 : whtC a = whtC b) : a = b := by
  cases a <;> cases b <;> first
    | (dsimp only [wrdC] at h1; exact absurd h1 (by decide +kernel))
    | (simp only [Clm.who, Clm.beat, whtC, Option.some.injEq] at h2 h3 h4; subst h2 h3; first | rfl | (subst h4; rfl))
theorem eqv_C (a b : Clm) : PyData.eqv (eC a) (eC b) = decide (a = b) := by
  rw [eC_eq, eC_eq]
  simp only [PyData.eqv, PyData.eqvAll]
  rw [good_O.eqv, Bool.and_true]
  by_cases q : a = b
  · subst q; simp
  · rw [decide_eq_false q]
    by_cases h1 : wrdC a = wrdC b <;> by_cases h2 : a.who = b.who <;> by_cases h3 : a.beat = b.beat <;> by_cases h4 : whtC a = whtC b <;> simp [h1, h2, h3, h4]
    exact q (clm_ext h1 h2 h3 h4)
theorem depth_O (o : Option Int) : (eO o).depth = 0 := by cases o <;> rfl
theorem depth_C (c : Clm) : (eC c).depth = 1 := by
  rw [eC_eq]
  simp [PyData.depth, PyData.depthAll, depth_O]
theorem good_C : GoodE eC := ⟨eqv_C, plain_C, fun c => by rw [depth_C]; decide⟩
theorem good_B : GoodE eB := ⟨fun a b => by
    obtain ⟨o, c⟩ := a
    obtain ⟨o', c'⟩ := b
    simp only [eB, PyData.eqv, PyData.eqvAll, good_O.eqv, eqv_C, Bool.and_true, Prod.mk.injEq]
    by_cases h1 : o = o' <;> by_cases h2 : c = c' <;> simp [h1, h2], fun a => by
    obtain ⟨o, c⟩ := a
    simp only [eB, PyData.plain, PyData.plainAll, good_O.plain, plain_C]
    rfl, fun a => by
    obtain ⟨o, c⟩ := a
    simp [eB, PyData.depth, PyData.depthAll, depth_O, depth_C]⟩
theorem depth_B (p : Option Int × Clm) : (eB p).depth = 2 := by
  obtain ⟨o, c⟩ := p
  simp [eB, PyData.depth, PyData.depthAll, depth_O, depth_C]
def eK (bk : List (Option Int × Clm)) : PyData := .list (bk.map eB)
theorem good_K : GoodE eK := good_B.list fun p => by rw [depth_B]; decide
theorem good_CL : GoodE (fun l : List Clm => PyData.list (l.map eC)) := good_C.list fun p => by rw [depth_C]; decide
end Wl

set_option maxHeartbeats 4000000
namespace Wl
open PySem L2 Wv
/-! ### what may be -/
def mayB (h : House) (m : Int) (cl : List Clm) : Bool := !decide (metM h m cl h.last.toNat 0 = [])
theorem look_one_ev {n : Nat} {m i : Int} {t : Tw} (hn : 2 ≤ n) (h0 : 0 ≤ i) (h1 : i < m) : callN T n 75 [.int m, .int i] t = .ok .none t := by
  obtain ⟨n, rfl⟩ : ∃ m, n = m + 1 := ⟨n - 1, by omega⟩
  rw [callN_code (np := 2) (ns := 2) (c := c_look_one) rfl rfl]
  simp [c_look_one]
  rw [whole_ev (by omega)]
  simp [h0, show i ≤ m - 1 by omega]
theorem look_claims_ev {n : Nat} {h : House} {m : Int} {cs : List Clm} {t : Tw} (hn : 3 ≤ n) (hc : ∀ c ∈ cs, Clm.Ok h m c) : callN T n 78 [eH h, .int m, .list (cs.map eC)] t = .ok .none t := by
  obtain ⟨n, rfl⟩ : ∃ m, n = m + 1 := ⟨n - 1, by omega⟩
  rw [callN_code (np := 3) (ns := 4) (c := c_look_claims) rfl rfl]
  simp [c_look_claims]
  rw [ev_lc1n (t1 := t) eC cs (fun c => .bool true) (by simp) (fun c hcc => ⟨_, rfl, by
    simp
    rw [is_claim_ev (by omega) (hc c hcc)]⟩)]
  simp only [R.bind]
  rw [bi_all (fun _ => true)]
  simp
theorem addC {a b : List Clm} (ha : a.length ≤ 100) (hb : b.length ≤ 100) : binD .Add (.list (a.map eC)) (.list (b.map eC)) = some (.list ((a ++ b).map eC)) := by
  rw [bin_addL (line_le (by simp; omega)), List.map_append]
theorem may_be_ev {n : Nat} {h : House} {m : Int} {bk : List (Option Int × Clm)} {l : List Int} {cs : List Clm} {t : Tw} (hn : 7 ≤ n) (hh : House.Ok h) (m1 : 1 ≤ m) (m4 : m ≤ 4) (ok : BookOk h m bk) (hl : FolkOk m l) (hc : ∀ c ∈ cs, Clm.Ok h m c) (hcl : cs.length ≤ 100) : callN T n 80 [eH h, .int m, .list (bk.map eB), .list (cs.map eC), eT l] t = .ok (.bool (mayB h m (claimsM bk l ++ cs))) t := by
  obtain ⟨n, rfl⟩ : ∃ m, n = m + 1 := ⟨n - 1, by omega⟩
  rw [callN_code (np := 5) (ns := 5) (c := c_may_be) rfl rfl]
  obtain ⟨k1, k2⟩ := claimsM_ok (l := l) ok
  simp [c_may_be]
  rw [look_case_ev (by omega) hh m1 m4 ok hl]
  simp
  rw [look_claims_ev (by omega) hc]
  simp
  rw [claims_of_ev (by omega)]
  simp
  rw [addC (by omega) hcl]
  simp only [R_of_some]
  rw [met_lots_ev (by omega) hh m1 m4 (fun c q => (List.mem_append.mp q).elim (k1 c) (hc c))]
  simp only [R.bind]
  rw [lots_ix0]
  simp only [R_of_some]
  rw [cmp_ne_L0]
  simp [mayB]
def placM (h : House) (m : Int) (cl : List Clm) (who : Int) (b : Nat) : List Int := (roomsL h).filter fun r => (metM h m cl h.last.toNat b).any fun s => decide (at0 s who = r)
theorem sort_I {ks : List Int} : biD .sorted [.dict (eDI ks)] = some (.list ((isort leI ks).map .int)) := by
  show okIf (okDict (eDI ks) && sortOk ((eDI ks).map (·.1))) (.list (sortD leD ((eDI ks).map (·.1)))) = _
  rw [show (eDI ks).map (·.1) = ks.map .int by simp [eDI], sortOk_int, sortD_map leD_int, show okDict (eDI ks) = true by cases ks <;> rfl]
  rfl
theorem at0_ok {h : House} {m : Int} {s : List Int} (hs : StandOk h m s) {w : Int} (h0 : 0 ≤ w) (h1 : w < m) : 0 ≤ at0 s w ∧ at0 s w < h.rooms := by
  have hl := hs.1
  unfold at0
  rw [List.getD_eq_getElem?_getD, List.getElem?_eq_getElem (by omega)]
  exact hs.2 _ (List.getElem_mem _)
theorem places_ev {n : Nat} {h : House} {m : Int} {bk : List (Option Int × Clm)} {l : List Int} {who beat : Int} {t : Tw} (hn : 7 ≤ n) (hh : House.Ok h) (m1 : 1 ≤ m) (m4 : m ≤ 4) (ok : BookOk h m bk) (hl : FolkOk m l) (w0 : 0 ≤ who) (w1 : who < m) (b0 : 0 ≤ beat) (b1 : beat ≤ h.last) : callN T n 76 [eH h, .int m, .list (bk.map eB), .int who, .int beat, eT l] t = .ok (.list ((placM h m (claimsM bk l) who beat.toNat).map .int)) t := by
  obtain ⟨n, rfl⟩ : ∃ m, n = m + 1 := ⟨n - 1, by omega⟩
  rw [callN_code (np := 6) (ns := 8) (c := c_places) rfl rfl]
  obtain ⟨k1, k2⟩ := claimsM_ok (l := l) ok
  simp [c_places]
  rw [look_case_ev (by omega) hh m1 m4 ok hl]
  simp
  rw [look_one_ev (by omega) w0 w1]
  simp
  rw [look_beat_ev (by omega) b0 b1]
  simp
  rw [claims_of_ev (by omega)]
  simp
  rw [met_lots_ev (by omega) hh m1 m4 k1]
  simp only [R.bind]
  rw [show PyData.int beat = .int ((beat.toNat : Nat) : Int) from congrArg _ (by omega), lots_ix (by omega)]
  simp
  rw [ev_dcI (t1 := t) eT (metM h m (claimsM bk l) h.last.toNat beat.toNat) (fun _ => true) (fun s => at0 s who) (by simp [eL]) (by have := met_len hh m4 (cl := claimsM bk l) (L := h.last.toNat) (b := beat.toNat); omega) (fun s hs => ⟨_, rfl, by simp, fun _ => ⟨by
    have := (metM_ok (m := m) (by omega) hs).1
    simp [eT]
    rw [ixT_int w0 (by omega)]
    simp, by simp⟩⟩)]
  simp only [R.bind]
  rw [sort_I]
  simp
  congr 2
  refine rising_ext (isort_nodup_rising (foldI_nodup _ _ _ (by simp))) ((roomsL_rising h).sublist List.filter_sublist) fun a => ?_
  rw [isort_mem, foldI_mem]
  unfold placM
  simp only [List.mem_filter, List.any_eq_true, decide_eq_true_eq, roomsL_mem]
  constructor
  · rintro (q | ⟨s, hs, e⟩)
    · simp at q
    · have hs : s ∈ metM h m (claimsM bk l) h.last.toNat beat.toNat := by simpa using hs
      rw [e]
      exact ⟨at0_ok (metM_ok (by omega) hs) w0 w1, s, hs, rfl⟩
  · rintro ⟨_, s, hs, e⟩
    exact .inr ⟨s, by simpa using hs, e.symm⟩
end Wl

set_option maxHeartbeats 4000000
namespace Wl
open PySem L2 Wv
def clm0 : Clm := .alone 0 0
def atC (cs : List Clm) (i : Nat) : Clm := cs.getD i clm0
theorem atC_get {cs : List Clm} {i : Nat} (h : i < cs.length) : cs[i]? = some (atC cs i) ∧ atC cs i ∈ cs := by
  have e : cs[i]? = some (atC cs i) := by
    unfold atC
    rw [List.getD_eq_getElem?_getD, List.getElem?_eq_getElem h]
    rfl
  exact ⟨e, List.mem_of_getElem? e⟩
/-- each may be, but not both -/
def nbP (h : House) (m : Int) (ba cs : List Clm) (i j : Nat) : Bool := mayB h m (ba ++ [atC cs i]) && (mayB h m (ba ++ [atC cs j]) && !mayB h m (ba ++ [atC cs i, atC cs j]))
def nbI (h : House) (m : Int) (ba cs : List Clm) (i k : Nat) : List (Int × Int) := ((List.range k).filter fun k => nbP h m ba cs i (i + 1 + k)).map fun k => ((i : Int), ((i + 1 + k : Nat) : Int))
def nbM (h : House) (m : Int) (ba cs : List Clm) (n : Nat) : List (Int × Int) := (List.range n).flatMap fun i => nbI h m ba cs i (cs.length - (i + 1))
theorem nbI_succ (h : House) (m : Int) (ba cs : List Clm) (i k : Nat) : nbI h m ba cs i (k + 1) = nbI h m ba cs i k ++ if nbP h m ba cs i (i + 1 + k) then [((i : Int), ((i + 1 + k : Nat) : Int))] else [] := by
  unfold nbI
  rw [List.range_succ, List.filter_append, List.map_append]
  congr 1
  cases q : nbP h m ba cs i (i + 1 + k) <;> simp [q]
theorem nbM_succ (h : House) (m : Int) (ba cs : List Clm) (n : Nat) : nbM h m ba cs (n + 1) = nbM h m ba cs n ++ nbI h m ba cs n (cs.length - (n + 1)) := by
  unfold nbM
  rw [List.range_succ]
  simp
theorem nbI_len (h : House) (m : Int) (ba cs : List Clm) (i k : Nat) : (nbI h m ba cs i k).length ≤ k := by
  unfold nbI
  rw [List.length_map]
  exact Nat.le_trans (List.length_filter_le _ _) (by simp)
theorem nbM_len (h : House) (m : Int) (ba cs : List Clm) : ∀ n, (nbM h m ba cs n).length ≤ n * cs.length
  | 0 => by simp [nbM]
  | n + 1 => by
    rw [nbM_succ, List.length_append, Nat.add_mul]
    have := nbM_len h m ba cs n
    have := nbI_len h m ba cs n (cs.length - (n + 1))
    omega
theorem met0_ix {n : Nat} {h : House} {m : Int} {cl : List Clm} {t : Tw} (hn : 6 ≤ n) (ok : House.Ok h) (m1 : 1 ≤ m) (m4 : m ≤ 4) (hc : ∀ c ∈ cl, Clm.Ok h m c) : (callN T n 34 [eH h, .int m, .list (cl.map eC)] t).bind (fun x t => R.of (ixD x (.int 0)) t) = .ok (eL (metM h m cl h.last.toNat 0)) t := by
  rw [met_lots_ev hn ok m1 m4 hc]
  simp only [R.bind]
  rw [lots_ix0]
  rfl
theorem rng2_ok {i j : Int} {t : Tw} (h : -1000000 ≤ i ∧ i ≤ 1000000 ∧ -1000000 ≤ j ∧ j ≤ 1000000) : rng2R t (.int i) (.int j) = .ok ((List.range (j - i).toNat).map fun k : Nat => PyData.int (i + (k : Nat))) t := by
  rw [rng2R_b, small_of h.1 h.2.1, small_of h.2.2.1 h.2.2.2, ← rngs_map]
  rfl
theorem not_both_ev {n : Nat} {h : House} {m : Int} {bk : List (Option Int × Clm)} {l : List Int} {cs : List Clm} {t : Tw} (hn : 7 ≤ n) (hh : House.Ok h) (m1 : 1 ≤ m) (m4 : m ≤ 4) (ok : BookOk h m bk) (hl : FolkOk m l) (hc : ∀ c ∈ cs, Clm.Ok h m c) (hcl : cs.length ≤ 100) : callN T n 87 [eH h, .int m, .list (bk.map eB), .list (cs.map eC), eT l] t = .ok (.list ((nbM h m (claimsM bk l) cs cs.length).map eP)) t := by
  obtain ⟨n, rfl⟩ : ∃ m, n = m + 1 := ⟨n - 1, by omega⟩
  rw [callN_code (np := 5) (ns := 11) (c := c_not_both) rfl rfl]
  obtain ⟨k1, k2⟩ := claimsM_ok (l := l) ok
  simp [c_not_both]
  rw [look_case_ev (by omega) hh m1 m4 ok hl]
  simp
  rw [look_claims_ev (by omega) hc]
  simp
  rw [claims_of_ev (by omega)]
  simp
  generalize claimsM bk l = ba at *
  rw [ev_lc1n (t1 := t) eC cs (fun c => .bool (mayB h m (ba ++ [c]))) (by simp) (fun c hcc => ⟨_, rfl, by
    simp
    rw [show PyData.list [eC c] = .list ([c].map eC) from rfl, addC (by omega) (by simp)]
    simp only [R_of_some]
    rw [met_lots_ev (by omega) hh m1 m4 (fun x q => (List.mem_append.mp q).elim (k1 x) (fun q => by simp at q; rw [q]; exact hc c hcc))]
    simp only [R.bind]
    rw [lots_ix0]
    simp only [R_of_some]
    rw [cmp_ne_L0]
    simp [mayB]⟩)]
  simp
  rw [if_pos (small_of (by omega) (by omega)), rngs0]
  simp only [Int.toNat_natCast]
  generalize hz : forLoop _ _ _ _ = z
  obtain ⟨env', t', rfl, x8, x9, x10, rfl, rfl⟩ := for_at hz (fun k : Nat => .int (k : Int)) (List.range cs.length) rfl (fun d env t2 => ∃ x8 x9 x10, env = [some (false, eH h), some (false, .int m), some (false, .list (bk.map eB)), some (false, .list (cs.map eC)), some (false, eT l), some (false, .list (ba.map eC)), some (false, .list (cs.map fun c => .bool (mayB h m (ba ++ [c])))), some (true, .list ((nbM h m ba cs d.length).map eP)), x8, x9, x10] ∧ t2 = t) ⟨none, none, none, rfl, rfl⟩ (fun d k rs env t2 hp ⟨x8, x9, x10, e, e2⟩ => by
    subst e e2
    obtain ⟨rfl, hd⟩ := range_at hp
    clear hz
    obtain ⟨hi, hio⟩ := atC_get hd
    obtain ⟨D, hD⟩ : ∃ D : Int, D = (d.length : Int) := ⟨_, rfl⟩
    rw [← hD]
    simp [-rng2R_b]
    rw [rng2_ok (by omega)]
    subst hD
    rw [show ((cs.length : Int) - ((d.length : Int) + 1)).toNat = cs.length - (d.length + 1) by omega]
    rw [show (List.range (cs.length - (d.length + 1))).map (fun k : Nat => PyData.int ((d.length : Int) + 1 + (k : Nat))) = (List.range (cs.length - (d.length + 1))).map fun k : Nat => PyData.int ((d.length + 1 + k : Nat) : Int) from List.map_congr_left fun k _ => congrArg PyData.int (by omega)]
    simp only []
    generalize hz : forLoop _ _ _ _ = z
    obtain ⟨env', t', rfl, x9, x10, rfl, rfl⟩ := for_at hz (fun k : Nat => .int ((d.length + 1 + k : Nat) : Int)) (List.range (cs.length - (d.length + 1))) rfl (fun e env t3 => ∃ x9 x10, env = [some (false, eH h), some (false, .int m), some (false, .list (bk.map eB)), some (false, .list (cs.map eC)), some (false, eT l), some (false, .list (ba.map eC)), some (false, .list (cs.map fun c => .bool (mayB h m (ba ++ [c])))), some (true, .list ((nbM h m ba cs d.length ++ nbI h m ba cs d.length e.length).map eP)), some (false, .int (d.length : Int)), x9, x10] ∧ t3 = t2) ⟨x9, x10, by simp [nbI], rfl⟩ (fun e k rs2 env t3 hp2 ⟨x9, x10, e1, e2⟩ => by
      subst e1 e2
      obtain ⟨rfl, he⟩ := range_at hp2
      clear hz
      obtain ⟨hj, hjo⟩ := atC_get (cs := cs) (i := d.length + 1 + e.length) (by omega)
      have hln : (nbM h m ba cs d.length).length + (nbI h m ba cs d.length e.length).length < lineN := line_of (by
        have := nbM_len h m ba cs d.length
        have := nbI_len h m ba cs d.length e.length
        have : d.length * cs.length ≤ 100 * 100 := Nat.mul_le_mul (by omega) (by omega)
        omega)
      simp
      rw [ixL_map (e := fun c => PyData.bool (mayB h m (ba ++ [c]))) hi]
      rw [show ((d.length : Int) + 1 + (e.length : Int)) = ((d.length + 1 + e.length : Nat) : Int) by omega]
      rw [ixL_map (e := fun c => PyData.bool (mayB h m (ba ++ [c]))) hj, ixL_map (e := eC) hi, ixL_map (e := eC) hj]
      simp
      rw [show PyData.list [eC (atC cs d.length), eC (atC cs (d.length + 1 + e.length))] = .list ([atC cs d.length, atC cs (d.length + 1 + e.length)].map eC) from rfl, addC (by omega) (by simp)]
      simp only [R_of_some]
      rw [met_lots_ev (by omega) hh m1 m4 (fun x q => (List.mem_append.mp q).elim (k1 x) (fun q => by simp at q; rcases q with rfl | rfl; exact hc _ hio; exact hc _ hjo))]
      simp only []
      rw [lots_ix0]
      simp only [R_of_some]
      rw [cmp_eq_L0, nbI_succ]
      have hnb : nbP h m ba cs d.length (d.length + 1 + e.length) = (mayB h m (ba ++ [atC cs d.length]) && (mayB h m (ba ++ [atC cs (d.length + 1 + e.length)]) && decide (metM h m (ba ++ [atC cs d.length, atC cs (d.length + 1 + e.length)]) h.last.toNat 0 = []))) := by
        unfold nbP
        rw [show mayB h m (ba ++ [atC cs d.length, atC cs (d.length + 1 + e.length)]) = !decide (metM h m (ba ++ [atC cs d.length, atC cs (d.length + 1 + e.length)]) h.last.toNat 0 = []) from rfl, Bool.not_not]
      rw [hnb]
      cases mayB h m (ba ++ [atC cs d.length]) <;> cases mayB h m (ba ++ [atC cs (d.length + 1 + e.length)]) <;> cases decide (metM h m (ba ++ [atC cs d.length, atC cs (d.length + 1 + e.length)]) h.last.toNat 0 = []) <;> simp [eP, hln])
    clear hz
    simp
    rw [nbM_succ]
    simp)
  clear hz
  simp
end Wl

set_option maxHeartbeats 4000000
namespace Wl
open PySem L2 Wv
/-! ### lots are those of whole stories -/
/-- a story that has all claims -/
def FitS (h : House) (m : Int) (cl : List Clm) (w : List (List Int)) : Prop := RowOk h m w ∧ walksB h w = true ∧ hasAll h w cl = true
theorem walk_step {h : House} {w : List (List Int)} (hw : walksB h w = true) {b : Nat} (hb : b < h.last.toNat) : stepB h (b : Int) (atW w b) (atW w (b + 1)) = true := by
  unfold walksB at hw
  exact List.all_eq_true.mp hw b (List.mem_range.mpr hb)
theorem fit_let {h : House} {m : Int} (m0 : 0 ≤ m) {cl : List Clm} {w : List (List Int)} (f : FitS h m cl w) {b : Nat} (hb : b ≤ h.last.toNat) : atW w b ∈ letM h m cl b := by
  unfold letM
  refine List.mem_filter.mpr ⟨(standsM_mem h m m0 _).mpr (f.1.at hb).2, List.all_eq_true.mpr fun c hc => ?_⟩
  obtain ⟨h1, h2⟩ := List.mem_filter.mp hc
  have h2 : c.beat = (b : Int) := by simpa using h2
  have := List.all_eq_true.mp f.2.2 c h1
  rw [h2] at this
  simpa using this
theorem fit_ahead {h : House} {m : Int} (m0 : 0 ≤ m) {cl : List Clm} {w : List (List Int)} (f : FitS h m cl w) : ∀ b, b ≤ h.last.toNat → atW w b ∈ aheadL h m cl b
  | 0, hb => fit_let m0 f hb
  | b + 1, hb => ahead_at.mpr ⟨fit_let m0 f hb, _, fit_ahead m0 f b (by omega), walk_step f.2.1 (by omega)⟩
theorem fit_behind {h : House} {m : Int} (m0 : 0 ≤ m) {cl : List Clm} {w : List (List Int)} (f : FitS h m cl w) : ∀ k b, k + b = h.last.toNat → atW w b ∈ behindL h m cl h.last.toNat (h.last.toNat - b)
  | 0, b, e => by
    have : b = h.last.toNat := by omega
    subst this
    rw [Nat.sub_self]
    exact fit_let m0 f (Nat.le_refl _)
  | k + 1, b, e => (behind_at (by omega)).mpr ⟨fit_let m0 f (by omega), _, fit_behind m0 f k (b + 1) (by omega), walk_step f.2.1 (by omega)⟩
theorem fit_met {h : House} {m : Int} (m0 : 0 ≤ m) {cl : List Clm} {w : List (List Int)} (f : FitS h m cl w) {b : Nat} (hb : b ≤ h.last.toNat) : atW w b ∈ metM h m cl h.last.toNat b := met_mem.mpr ⟨fit_ahead m0 f b hb, fit_behind m0 f (h.last.toNat - b) b (by omega)⟩
theorem may_iff {h : House} {m : Int} (m0 : 0 ≤ m) {cl : List Clm} (hc : ∀ c ∈ cl, Clm.Ok h m c) : mayB h m cl = true ↔ ∃ w, FitS h m cl w := by
  unfold mayB
  constructor
  · intro q
    have q : metM h m cl h.last.toNat 0 ≠ [] := by simpa using q
    exact ⟨_, walk_row m0 q, walk_walks q, walk_has hc q⟩
  · rintro ⟨w, f⟩
    have := fit_met m0 f (b := 0) (Nat.zero_le _)
    have q : metM h m cl h.last.toNat 0 ≠ [] := List.ne_nil_of_mem this
    simpa using q
theorem FitS.mono {h : House} {m : Int} {cl cl' : List Clm} (hs : ∀ c ∈ cl', c ∈ cl) {w : List (List Int)} (f : FitS h m cl w) : FitS h m cl' w := ⟨f.1, f.2.1, List.all_eq_true.mpr fun c hc => List.all_eq_true.mp f.2.2 c (hs c hc)⟩
/-- with fewer claims what may be still may -/
theorem may_mono {h : House} {m : Int} (m0 : 0 ≤ m) {cl cl' : List Clm} (hc : ∀ c ∈ cl, Clm.Ok h m c) (hs : ∀ c ∈ cl', c ∈ cl) (q : mayB h m cl = true) : mayB h m cl' = true := by
  obtain ⟨w, f⟩ := (may_iff m0 hc).mp q
  exact (may_iff m0 fun c q => hc c (hs c q)).mpr ⟨w, f.mono hs⟩
/-- each stand that is met is one of a whole story -/
theorem met_story {h : House} {m : Int} (m0 : 0 ≤ m) {cl : List Clm} (hc : ∀ c ∈ cl, Clm.Ok h m c) {b : Nat} (hb : b ≤ h.last.toNat) {s : List Int} (hs : s ∈ metM h m cl h.last.toNat b) : ∃ w, FitS h m cl w ∧ atW w b = s := by
  -- on from b
  have on : ∀ k b, k + b = h.last.toNat → ∀ s ∈ metM h m cl h.last.toNat b, ∃ g : Nat → List Int, g b = s ∧ (∀ i, b ≤ i → i ≤ h.last.toNat → g i ∈ metM h m cl h.last.toNat i) ∧ ∀ i, b ≤ i → i < h.last.toNat → stepB h (i : Int) (g i) (g (i + 1)) = true := by
    intro k
    induction k with
    | zero => exact fun b e s hs => ⟨fun _ => s, rfl, fun i h1 h2 => by obtain rfl : i = b := (by omega); exact hs, fun i h1 h2 => by omega⟩
    | succ k ih =>
      intro b e s hs
      obtain ⟨s1, h1, h2⟩ := met_next (by omega) hs
      obtain ⟨g, g1, g2, g3⟩ := ih (b + 1) (by omega) s1 h1
      refine ⟨fun i => if i = b then s else g i, by simp, fun i j1 j2 => ?_, fun i j1 j2 => ?_⟩
      · by_cases q : i = b
        · subst q; simpa using hs
        · simp [q]; exact g2 i (by omega) j2
      · by_cases q : i = b
        · subst q; simp [g1]; exact h2
        · simp [q, show ¬ i + 1 = b by omega]; exact g3 i (by omega) j2
  -- back from b
  have bk : ∀ b, b ≤ h.last.toNat → ∀ s ∈ metM h m cl h.last.toNat b, ∃ g : Nat → List Int, g b = s ∧ (∀ i, i ≤ b → g i ∈ metM h m cl h.last.toNat i) ∧ ∀ i, i < b → stepB h (i : Int) (g i) (g (i + 1)) = true := by
    intro b
    induction b with
    | zero => exact fun _ s hs => ⟨fun _ => s, rfl, fun i hi => by obtain rfl : i = 0 := (by omega); exact hs, fun i hi => by omega⟩
    | succ b ih =>
      intro hb s hs
      obtain ⟨s0, h1, h2⟩ := met_prev (by omega) hs
      obtain ⟨g, g1, g2, g3⟩ := ih (by omega) s0 h1
      refine ⟨fun i => if i = b + 1 then s else g i, by simp, fun i j1 => ?_, fun i j1 => ?_⟩
      · by_cases q : i = b + 1
        · subst q; simpa using hs
        · simp [q]; exact g2 i (by omega)
      · by_cases q : i = b
        · subst q; simp [g1]; exact h2
        · simp [q, show ¬ i = b + 1 by omega]; exact g3 i (by omega)
  obtain ⟨g, g1, g2, g3⟩ := on (h.last.toNat - b) b (by omega) s hs
  obtain ⟨f, f1, f2, f3⟩ := bk b hb s hs
  let w := (List.range (h.last.toNat + 1)).map fun i => if i ≤ b then f i else g i
  have hw : ∀ i, i ≤ h.last.toNat → atW w i = if i ≤ b then f i else g i := fun i hi => by
    unfold atW
    rw [List.getD_eq_getElem?_getD, List.getElem?_map, List.getElem?_range (by omega)]
    rfl
  have hm : ∀ i, i ≤ h.last.toNat → atW w i ∈ metM h m cl h.last.toNat i := fun i hi => by
    rw [hw i hi]
    split
    · exact f2 i (by assumption)
    · exact g2 i (by omega) hi
  refine ⟨w, ⟨⟨by simp [w], fun s hs => ?_⟩, ?_, ?_⟩, by rw [hw b hb, if_pos (Nat.le_refl _), f1]⟩
  · obtain ⟨i, hi, rfl⟩ := List.mem_map.mp hs
    have hi := List.mem_range.mp hi
    have := hm i (by omega)
    rw [hw i (by omega)] at this
    exact metM_ok m0 this
  · unfold walksB
    rw [List.all_eq_true]
    intro i hi
    have hi := List.mem_range.mp hi
    rw [hw i (by omega), hw (i + 1) (by omega)]
    by_cases q : i + 1 ≤ b
    · rw [if_pos (by omega), if_pos q]; exact f3 i (by omega)
    · rw [if_neg q]
      by_cases q2 : i = b
      · subst q2; rw [if_pos (Nat.le_refl _), f1, ← g1]; exact g3 i (by omega) hi
      · rw [if_neg (by omega)]; exact g3 i (by omega) hi
  · unfold hasAll
    rw [List.all_eq_true]
    intro c hcc
    have hb : 0 ≤ c.beat ∧ c.beat ≤ h.last := ⟨(hc c hcc).2.2.1, (hc c hcc).2.2.2.1⟩
    exact let_holds (met_let (hm _ (by omega))) hcc (by omega)
end Wl

set_option maxHeartbeats 4000000
namespace Wl
open PySem L2 Wv
/-! ### lots of numbers -/
def subsF (ns : List Int) : List (List Int) := ns.foldl (fun f x => f ++ f.map fun r => r ++ [x]) [[]]
def lotsN (ns : List Int) (k : Nat) : List (List Int) := isort leT ((subsF ns).filter fun r => decide (r.length = k))
theorem subsF_snoc (ns : List Int) (x : Int) : subsF (ns ++ [x]) = subsF ns ++ (subsF ns).map fun r => r ++ [x] := by
  unfold subsF
  rw [List.foldl_append]
  rfl
theorem subsF_len (ns : List Int) : (subsF ns).length = 2 ^ ns.length := by
  induction ns using snoc_ind with
  | h0 => rfl
  | h1 l a ih => rw [subsF_snoc, List.length_append, List.length_map, ih, List.length_append, List.length_singleton, Nat.pow_succ]; omega
/-- a row of the list's items, in the list's order -/
theorem subsF_mem (ns : List Int) (r : List Int) : r ∈ subsF ns ↔ r.Sublist ns := by
  induction ns using snoc_ind generalizing r with
  | h0 => simp [subsF]
  | h1 l a ih =>
    rw [subsF_snoc, List.mem_append, ih]
    constructor
    · rintro (q | q)
      · exact q.trans (List.sublist_append_left _ _)
      · obtain ⟨r', h1, rfl⟩ := List.mem_map.mp q
        exact ((ih r').mp h1).append (List.Sublist.refl [a])
    · intro q
      obtain ⟨r1, r2, rfl, h1, h2⟩ := List.sublist_append_iff.mp q
      have h2' : r2 = [] ∨ r2 = [a] := by
        cases h2 with
        | cons _ h => exact .inl (by simpa using h)
        | cons_cons _ h => exact .inr (by rw [List.sublist_nil.mp h])
      rcases h2' with rfl | rfl
      · exact .inl (by simpa using h1)
      · exact .inr (List.mem_map.mpr ⟨r1, (ih r1).mpr h1, rfl⟩)
/-- only rows up to a size -/
def subsP (ns : List Int) (k : Int) : List (List Int) := ns.foldl (fun f x => f ++ (f.filter fun r => decide ((r.length : Int) < k)).map fun r => r ++ [x]) [[]]
theorem subsP_snoc (ns : List Int) (k : Int) (x : Int) : subsP (ns ++ [x]) k = subsP ns k ++ ((subsP ns k).filter fun r => decide ((r.length : Int) < k)).map fun r => r ++ [x] := by
  unfold subsP
  rw [List.foldl_append]
  rfl
theorem subsP_eq (ns : List Int) (k : Nat) : subsP ns (k : Int) = (subsF ns).filter fun r => decide (r.length ≤ k) := by
  induction ns using snoc_ind with
  | h0 => simp [subsP, subsF]
  | h1 l a ih =>
    rw [subsP_snoc, subsF_snoc, ih, List.filter_append, List.filter_map, List.filter_filter]
    congr 2
    apply List.filter_congr
    intro r _
    rw [Bool.eq_iff_iff]
    simp
    omega
theorem subsP_len (ns : List Int) (k : Nat) : (subsP ns (k : Int)).length ≤ 2 ^ ns.length := by
  rw [subsP_eq, ← subsF_len]
  exact List.length_filter_le _ _
theorem bi_sort_0 : biD .sorted [.list [.tuple []]] = some (.list [.tuple []]) := by rfl
theorem subs_zero (ns : List Int) : (subsF ns).filter (fun r => decide (r.length = 0)) = [[]] := by
  induction ns using snoc_ind with
  | h0 => rfl
  | h1 l a ih =>
    rw [subsF_snoc, List.filter_append, ih]
    simp
theorem sort_lots (ns : List Int) (k : Nat) : biD .sorted [.list (((subsF ns).filter fun r => decide (r.length = k)).map eT)] = some (.list ((lotsN ns k).map eT)) := by
  unfold lotsN
  by_cases h : k = 0
  · subst h
    rw [subs_zero]
    rfl
  · exact bi_sort_T fun a ha e => by
      obtain ⟨_, h2⟩ := List.mem_filter.mp ha
      simp [e] at h2
      omega
theorem lots_of_ev {n k : Nat} {ns : List Int} {t : Tw} (hn : 1 ≤ n) (hl : ns.length ≤ 12) : callN T n 101 [.list (ns.map .int), .int (k : Int)] t = .ok (.list ((lotsN ns k).map eT)) t := by
  obtain ⟨n, rfl⟩ : ∃ m, n = m + 1 := ⟨n - 1, by omega⟩
  rw [callN_code (np := 2) (ns := 5) (c := c_lots_of) rfl rfl]
  simp [c_lots_of]
  generalize hz : forLoop _ _ _ _ = z
  obtain ⟨env', t', rfl, x3, x4, rfl, rfl⟩ := for_at hz PyData.int ns rfl (fun d env t2 => ∃ x3 x4, env = [some (false, .list (ns.map .int)), some (false, .int (k : Int)), some (false, .list ((subsP d (k : Int)).map eT)), x3, x4] ∧ t2 = t) ⟨none, none, rfl, rfl⟩ (fun d x rs env t2 hp ⟨x3, x4, e, e2⟩ => by
    subst e e2
    clear hz
    have hd : d.length ≤ 11 := by
      have := congrArg List.length hp
      simp at this
      omega
    have hpl := subsP_len d k
    have h2 : 2 ^ d.length ≤ 2 ^ 11 := Nat.pow_le_pow_right (by omega) hd
    have hrl : ∀ r ∈ subsP d (k : Int), r.length ≤ 11 := fun r hr => by
      rw [subsP_eq] at hr
      have := ((subsF_mem d r).mp (List.mem_filter.mp hr).1).length_le
      omega
    simp
    rw [ev_lc1 (t1 := t2) eT (subsP d (k : Int)) (fun r => decide ((r.length : Int) < (k : Int))) (fun r => eT (r ++ [x])) (by simp) (fun r hr => ⟨_, rfl, by simp [eT], by
      simp
      rw [show eT r = .tuple (r.map .int) from rfl, bin_addT (line_le (by have := hrl r hr; simp; omega))]
      simp [eT]⟩)]
    simp only []
    rw [bin_addL (line_le (by
      have := List.length_filter_le (fun r : List Int => decide ((r.length : Int) < (k : Int))) (subsP d (k : Int))
      simp only [List.length_map]
      omega))]
    simp
    rw [subsP_snoc]
    simp [Function.comp_def])
  clear hz
  simp
  rw [ev_lc1 (t1 := t') eT (subsP ns (k : Int)) (fun r => decide (r.length = k)) eT (by simp) (fun r hr => ⟨_, rfl, by
    simp [eT]
    try omega, by simp⟩)]
  simp only [R.bind]
  rw [subsP_eq, List.filter_filter, show ((subsF ns).filter fun r => decide (r.length = k) && decide (r.length ≤ k)) = (subsF ns).filter fun r => decide (r.length = k) from List.filter_congr fun r _ => by simp; omega, sort_lots]
  simp
end Wl

set_option maxHeartbeats 4000000
namespace Wl
open PySem L2 Wv
/-! ### bindings that bar a wish -/
def atB (bk : List (Option Int × Clm)) (k : Int) : Option Int × Clm := bk.getD k.toNat (none, clm0)
def rowC (bk : List (Option Int × Clm)) (row : List Int) : List Clm := row.map fun k => (atB bk k).2
def barsB (h : House) (m : Int) (bk : List (Option Int × Clm)) (row : List Int) (c : Clm) : Bool := !mayB h m (rowC bk row ++ [c])
def RowIn (bk : List (Option Int × Clm)) (row : List Int) : Prop := (∀ k ∈ row, 0 ≤ k ∧ k < bk.length) ∧ row.length ≤ 30
theorem ixB {bk : List (Option Int × Clm)} {k : Int} (h0 : 0 ≤ k) (h1 : k < bk.length) : ixD (.list (bk.map eB)) (.int k) = some (eB (atB bk k)) ∧ atB bk k ∈ bk := by
  have e : bk[k.toNat]? = some (atB bk k) := by
    unfold atB
    rw [List.getD_eq_getElem?_getD, List.getElem?_eq_getElem (by omega)]
    rfl
  refine ⟨?_, List.mem_of_getElem? e⟩
  have := ixL_map (e := eB) e
  rwa [show ((k.toNat : Nat) : Int) = k by omega] at this
theorem rowC_ok {h : House} {m : Int} {bk : List (Option Int × Clm)} (ok : BookOk h m bk) {row : List Int} (hr : RowIn bk row) : ∀ c ∈ rowC bk row, Clm.Ok h m c := fun c hc => by
  obtain ⟨k, hk, rfl⟩ := List.mem_map.mp hc
  exact ok.cl _ (ixB (hr.1 k hk).1 (hr.1 k hk).2).2
theorem ixB1 (p : Option Int × Clm) : ixD (eB p) (.int 1) = some (eC p.2) := ix1 _ _ _
theorem ixB0 (p : Option Int × Clm) : ixD (eB p) (.int 0) = some (eO p.1) := ix0 _ _
/-- a row, as a list or as a tuple -/
def IsRow (d : PyData) (row : List Int) : Prop := d = .list (row.map .int) ∨ d = eT row
theorem IsRow.val {d : PyData} {row : List Int} (h : IsRow d row) (t : Tw) : valI t d = .ok (row.map .int) t := by
  rcases h with rfl | rfl <;> rfl
theorem bars_ev {n : Nat} {h : House} {m : Int} {bk : List (Option Int × Clm)} {row : List Int} {d : PyData} {c : Clm} {t : Tw} (hn : 7 ≤ n) (hh : House.Ok h) (m1 : 1 ≤ m) (m4 : m ≤ 4) (ok : BookOk h m bk) (hr : RowIn bk row) (hd : IsRow d row) (hc : Clm.Ok h m c) : callN T n 102 [eH h, .int m, .list (bk.map eB), d, eC c] t = .ok (.bool (barsB h m bk row c)) t := by
  obtain ⟨n, rfl⟩ : ∃ m, n = m + 1 := ⟨n - 1, by omega⟩
  rw [callN_code (np := 5) (ns := 6) (c := c_bars) rfl rfl]
  have hrl := hr.2
  simp [c_bars]
  rw [ev_lc1n (t1 := t) PyData.int row (fun k => eC (atB bk k).2) (by simp; exact hd.val t) (fun k hk => ⟨_, rfl, by
    simp
    rw [(ixB (hr.1 k hk).1 (hr.1 k hk).2).1]
    simp
    rw [ixB1]
    simp⟩)]
  simp only [R.bind]
  rw [show (row.map fun k => eC (atB bk k).2) = (rowC bk row).map eC by unfold rowC; rw [List.map_map]; rfl, show PyData.list [eC c] = .list ([c].map eC) from rfl, addC (by simp [rowC]; omega) (by simp)]
  simp only [R_of_some]
  rw [met_lots_ev (by omega) hh m1 m4 (fun x q => (List.mem_append.mp q).elim (rowC_ok ok hr x) (fun q => by simp at q; rw [q]; exact hc))]
  simp only []
  rw [lots_ix0]
  simp only [R_of_some]
  rw [cmp_eq_L0]
  simp [barsB, mayB]
theorem law_bars_ev {n : Nat} {h : House} {m : Int} {bk : List (Option Int × Clm)} {row : List Int} {d : PyData} {c : Clm} {t : Tw} (hn : 5 ≤ n) (hh : House.Ok h) (m1 : 1 ≤ m) (m4 : m ≤ 4) (ok : BookOk h m bk) (hr : RowIn bk row) (hd : IsRow d row) (hc : Clm.Ok h m c) : callN T n 107 [eH h, .int m, .list (bk.map eB), d, eC c] t = .ok (.bool (barsB h m bk row c)) t := by
  obtain ⟨n, rfl⟩ : ∃ m, n = m + 1 := ⟨n - 1, by omega⟩
  rw [callN_code (np := 5) (ns := 6) (c := c__law_bars) rfl rfl]
  have hrl := hr.2
  simp [c__law_bars]
  rw [ev_lc1n (t1 := t) PyData.int row (fun k => eC (atB bk k).2) (by simp; exact hd.val t) (fun k hk => ⟨_, rfl, by
    simp
    rw [(ixB (hr.1 k hk).1 (hr.1 k hk).2).1]
    simp
    rw [ixB1]
    simp⟩)]
  simp only [R.bind]
  rw [show (row.map fun k => eC (atB bk k).2) = (rowC bk row).map eC by unfold rowC; rw [List.map_map]; rfl, show PyData.list [eC c] = .list ([c].map eC) from rfl, addC (by simp [rowC]; omega) (by simp)]
  simp only [R_of_some]
  rw [law_lots_ev (by omega) hh m1 m4 (fun x q => (List.mem_append.mp q).elim (rowC_ok ok hr x) (fun q => by simp at q; rw [q]; exact hc))]
  simp only []
  rw [lots_ix0]
  simp only [R_of_some]
  rw [cmp_eq_L0]
  simp [barsB, mayB]
theorem look_wish_ev {n : Nat} {h : House} {m : Int} {bk : List (Option Int × Clm)} {l : List Int} {c : Clm} {t : Tw} (hn : 7 ≤ n) (hh : House.Ok h) (m1 : 1 ≤ m) (m4 : m ≤ 4) (ok : BookOk h m bk) (hl : FolkOk m l) (hbl : bk.length ≤ 12) (hc : Clm.Ok h m c) : callN T n 100 [eH h, .int m, .list (bk.map eB), eC c, eT l] t = .ok .none t := by
  obtain ⟨n, rfl⟩ : ∃ m, n = m + 1 := ⟨n - 1, by omega⟩
  rw [callN_code (np := 5) (ns := 5) (c := c_look_wish) rfl rfl]
  simp [c_look_wish]
  rw [look_case_ev (by omega) hh m1 m4 ok hl]
  simp
  rw [is_claim_ev (by omega) hc]
  simp
  rw [if_neg (by omega)]
  simp
/-- the numbers of what binds -/
def numsM (bk : List (Option Int × Clm)) (l : List Int) : List Int := (bk.zipIdx.filter fun p => !decide (p.1.1 ∈ l.map some)).map fun p => (p.2 : Int)
theorem numsM_in {bk : List (Option Int × Clm)} (hb : bk.length ≤ 30) (l : List Int) : RowIn bk (numsM bk l) ∧ (numsM bk l).length ≤ bk.length ∧ (numsM bk l).Pairwise (· < ·) := by
  unfold numsM
  refine ⟨⟨fun k hk => ?_, ?_⟩, ?_, ?_⟩
  · obtain ⟨p, hp, rfl⟩ := List.mem_map.mp hk
    have := List.mem_zipIdx_iff_getElem?.mp (List.mem_filter.mp hp).1
    have := (List.getElem?_eq_some_iff.mp this).1
    omega
  · rw [List.length_map]
    exact Nat.le_trans (List.length_filter_le _ _) (by simpa using hb)
  · rw [List.length_map]
    exact Nat.le_trans (List.length_filter_le _ _) (by simp)
  · rw [List.pairwise_map]
    refine List.Pairwise.sublist List.filter_sublist ?_
    have : (bk.zipIdx.map (·.2)).Pairwise (· < ·) := by rw [← range_zipIdx]; exact List.pairwise_lt_range
    rw [List.pairwise_map] at this
    exact this.imp fun {a b} q => by omega
end Wl

set_option maxHeartbeats 4000000
namespace Wl
open PySem L2 Wv
/-- a walk that may return, nothing drawn -/
theorem for_find {α : Type} {f : PyData → Wv.Env → Tw → SR} {t : Tw} (e : α → PyData) (p : α → Option PyData) (I : Wv.Env → Prop) : ∀ (xs : List α) {env : Wv.Env}, I env → (∀ x ∈ xs, ∀ env, I env → match p x with
      | none => ∃ env', f (e x) env t = .next env' t ∧ I env'
      | some d => f (e x) env t = .ret d t) → match xs.findSome? p with
    | none => ∃ env', forLoop f (xs.map e) env t = .next env' t ∧ I env'
    | some d => forLoop f (xs.map e) env t = .ret d t
  | [], env, h0, _ => ⟨env, rfl, h0⟩
  | x :: xs, env, h0, h => by
    have hx := h x (by simp) env h0
    rw [List.findSome?_cons]
    cases q : p x with
    | none =>
      rw [q] at hx
      obtain ⟨env', e1, i1⟩ := hx
      have ih := for_find e p I xs i1 fun z hz => h z (by simp [hz])
      simp only []
      rw [List.map_cons, forLoop, e1]
      exact ih
    | some d =>
      rw [q] at hx
      simp only []
      rw [List.map_cons, forLoop, hx]
theorem find_at {α : Type} {f : PyData → Wv.Env → Tw → SR} {l : List PyData} {env : Wv.Env} {t : Tw} {z : SR} (hz : forLoop f l env t = z) (e : α → PyData) (xs : List α) (hl : l = xs.map e) (p : α → Option PyData) (I : Wv.Env → Prop) (h0 : I env) (h : ∀ x ∈ xs, ∀ env, I env → match p x with
      | none => ∃ env', f (e x) env t = .next env' t ∧ I env'
      | some d => f (e x) env t = .ret d t) : match xs.findSome? p with
    | none => ∃ env', z = .next env' t ∧ I env'
    | some d => z = .ret d t := by
  subst hl hz
  exact for_find e p I xs h0 h
def seekM (h : House) (m : Int) (bk : List (Option Int × Clm)) (c : Clm) (ns : List Int) (n : Nat) : Option (List Int) := (List.range n).findSome? fun k => (lotsN ns k).find? fun r => barsB h m bk r c
def coreM (h : House) (m : Int) (bk : List (Option Int × Clm)) (c : Clm) (ns : List Int) : Option (List Int) := if barsB h m bk ns c then some ((seekM h m bk c ns ns.length).getD ns) else none
def eI (o : Option (List Int)) : PyData := match o with
  | none => .none
  | some r => eT r
theorem lotsN_mem {ns : List Int} {k : Nat} {r : List Int} : r ∈ lotsN ns k ↔ r.Sublist ns ∧ r.length = k := by
  unfold lotsN
  rw [isort_mem, List.mem_filter, subsF_mem]
  simp
theorem RowIn.sub {bk : List (Option Int × Clm)} {r ns : List Int} (h : RowIn bk ns) (s : r.Sublist ns) : RowIn bk r := ⟨fun k hk => h.1 k (s.subset hk), Nat.le_trans s.length_le h.2⟩
theorem find_map {α β : Type} (p : α → Bool) (f : α → β) : ∀ l : List α, l.findSome? (fun x => if p x then some (f x) else none) = (l.find? p).map f
  | [] => rfl
  | x :: l => by
    rw [List.findSome?_cons, List.find?_cons]
    cases p x <;> simp [find_map p f l]
theorem findSome_map {α β γ : Type} (g : α → Option β) (f : β → γ) : ∀ l : List α, l.findSome? (fun x => (g x).map f) = (l.findSome? g).map f
  | [] => rfl
  | x :: l => by
    rw [List.findSome?_cons, List.findSome?_cons]
    cases g x <;> simp [findSome_map g f l]
theorem core_of_ev {n : Nat} {h : House} {m : Int} {bk : List (Option Int × Clm)} {l : List Int} {c : Clm} {t : Tw} (hn : 8 ≤ n) (hh : House.Ok h) (m1 : 1 ≤ m) (m4 : m ≤ 4) (ok : BookOk h m bk) (hbl : bk.length ≤ 12) (hc : Clm.Ok h m c) : callN T n 103 [eH h, .int m, .list (bk.map eB), eC c, eT l] t = .ok (eI (coreM h m bk c (numsM bk l))) t := by
  obtain ⟨n, rfl⟩ : ∃ m, n = m + 1 := ⟨n - 1, by omega⟩
  rw [callN_code (np := 5) (ns := 9) (c := c_core_of) rfl rfl]
  obtain ⟨hr, hrl, hri⟩ := numsM_in (bk := bk) (by omega) l
  simp [c_core_of]
  rw [ev_lc1 (t1 := t) (fun p : (Option Int × Clm) × Nat => .int (p.2 : Nat)) bk.zipIdx (fun p => !decide (p.1.1 ∈ l.map some)) (fun p => .int (p.2 : Nat)) (by
    simp
    rw [if_pos (small_of (by omega) (by omega)), rngs0, range_zipIdx, List.map_map]
    rfl) (fun p hp => ⟨_, rfl, by
    have hx : bk[p.2]? = some p.1 := by simpa using List.mem_zipIdx_iff_getElem?.mp hp
    simp
    rw [ixL_map hx]
    simp [eB, eT, cmp_ni_O], by simp⟩)]
  rw [show ((bk.zipIdx.filter fun p => !decide (p.1.1 ∈ l.map some)).map fun p => PyData.int (p.2 : Nat)) = (numsM bk l).map PyData.int by unfold numsM; rw [List.map_map]; rfl]
  generalize numsM bk l = ns at *
  simp
  rw [bars_ev (by omega) hh m1 m4 ok hr (.inl rfl) hc]
  unfold coreM
  cases hB : barsB h m bk ns c with
  | false => simp [eI]
  | true =>
    simp
    rw [if_pos (small_of (by omega) (by omega)), rngs0]
    simp only [Int.toNat_natCast]
    generalize hz : forLoop _ _ _ _ = z
    have key := find_at hz (fun k : Nat => .int (k : Int)) (List.range ns.length) rfl (fun k => ((lotsN ns k).find? fun r => barsB h m bk r c).map eT) (fun env => ∃ x6 x7, env = [some (false, eH h), some (false, .int m), some (false, .list (bk.map eB)), some (false, eC c), some (false, eT l), some (false, .list (ns.map .int)), x6, x7, none]) ⟨none, none, rfl⟩ (fun k hk env ⟨x6, x7, e⟩ => by
      subst e
      clear hz
      have hk := List.mem_range.mp hk
      rw [← find_map]
      simp
      rw [lots_of_ev (by omega) (by omega)]
      simp
      generalize hz : forLoop _ _ _ _ = z
      have key := find_at hz eT (lotsN ns k) rfl (fun r => if barsB h m bk r c then some (eT r) else none) (fun env => ∃ x7, env = [some (false, eH h), some (false, .int m), some (false, .list (bk.map eB)), some (false, eC c), some (false, eT l), some (false, .list (ns.map .int)), some (false, .int (k : Int)), x7, none]) ⟨x7, rfl⟩ (fun r hr' env ⟨x7, e⟩ => by
        subst e
        clear hz
        have hs := lotsN_mem.mp hr'
        cases hq : barsB h m bk r c with
        | false =>
          simp
          rw [bars_ev (by omega) hh m1 m4 ok (hr.sub hs.1) (.inr rfl) hc, hq]
          simp
        | true =>
          simp
          rw [bars_ev (by omega) hh m1 m4 ok (hr.sub hs.1) (.inr rfl) hc, hq]
          simp)
      clear hz
      revert key
      cases (lotsN ns k).findSome? fun r => if barsB h m bk r c then some (eT r) else none with
      | none =>
        rintro ⟨env', rfl, x7, rfl⟩
        exact ⟨_, rfl, _, _, rfl⟩
      | some d =>
        rintro rfl
        rfl)
    clear hz
    rw [findSome_map] at key
    unfold seekM
    revert key
    cases (List.range ns.length).findSome? fun k => (lotsN ns k).find? fun r => barsB h m bk r c with
    | none =>
      rintro ⟨env', rfl, x6, x7, rfl⟩
      simp [eI, eT]
    | some d =>
      rintro rfl
      simp [eI]
theorem core_ev {n : Nat} {h : House} {m : Int} {bk : List (Option Int × Clm)} {l : List Int} {c : Clm} {t : Tw} (hn : 9 ≤ n) (hh : House.Ok h) (m1 : 1 ≤ m) (m4 : m ≤ 4) (ok : BookOk h m bk) (hl : FolkOk m l) (hbl : bk.length ≤ 12) (hc : Clm.Ok h m c) : callN T n 104 [eH h, .int m, .list (bk.map eB), eC c, eT l] t = match coreM h m bk c (numsM bk l) with
    | none => .exc 8 t
    | some r => .ok (eT r) t := by
  obtain ⟨n, rfl⟩ : ∃ m, n = m + 1 := ⟨n - 1, by omega⟩
  rw [callN_code (np := 5) (ns := 6) (c := c_core) rfl rfl]
  simp [c_core]
  rw [look_wish_ev (by omega) hh m1 m4 ok hl hbl hc]
  simp
  rw [core_of_ev (by omega) hh m1 m4 ok hbl hc]
  simp
  cases coreM h m bk c (numsM bk l) with
  | none => simp [eI]
  | some r =>
    simp [eI]
    rw [show cmpD .Is (eT r) .none = some false from rfl]
    simp
def needM (h : House) (m : Int) (bk : List (Option Int × Clm)) (c : Clm) (ns : List Int) : List Int := ns.filter fun k => !barsB h m bk (ns.filter fun j => !decide (j = k)) c
theorem needed_ev {n : Nat} {h : House} {m : Int} {bk : List (Option Int × Clm)} {l : List Int} {c : Clm} {t : Tw} (hn : 9 ≤ n) (hh : House.Ok h) (m1 : 1 ≤ m) (m4 : m ≤ 4) (ok : BookOk h m bk) (hl : FolkOk m l) (hbl : bk.length ≤ 12) (hc : Clm.Ok h m c) : callN T n 105 [eH h, .int m, .list (bk.map eB), eC c, eT l] t = if barsB h m bk (numsM bk l) c then .ok (.list ((needM h m bk c (numsM bk l)).map .int)) t else .exc 8 t := by
  obtain ⟨n, rfl⟩ : ∃ m, n = m + 1 := ⟨n - 1, by omega⟩
  rw [callN_code (np := 5) (ns := 8) (c := c_needed) rfl rfl]
  obtain ⟨hr, hrl, hri⟩ := numsM_in (bk := bk) (by omega) l
  simp [c_needed]
  rw [look_wish_ev (by omega) hh m1 m4 ok hl hbl hc]
  simp
  rw [ev_lc1 (t1 := t) (fun p : (Option Int × Clm) × Nat => .int (p.2 : Nat)) bk.zipIdx (fun p => !decide (p.1.1 ∈ l.map some)) (fun p => .int (p.2 : Nat)) (by
    simp
    rw [if_pos (small_of (by omega) (by omega)), rngs0, range_zipIdx, List.map_map]
    rfl) (fun p hp => ⟨_, rfl, by
    have hx : bk[p.2]? = some p.1 := by simpa using List.mem_zipIdx_iff_getElem?.mp hp
    simp
    rw [ixL_map hx]
    simp [eB, eT, cmp_ni_O], by simp⟩)]
  rw [show ((bk.zipIdx.filter fun p => !decide (p.1.1 ∈ l.map some)).map fun p => PyData.int (p.2 : Nat)) = (numsM bk l).map PyData.int by unfold numsM; rw [List.map_map]; rfl]
  generalize numsM bk l = ns at *
  simp
  rw [bars_ev (by omega) hh m1 m4 ok hr (.inl rfl) hc]
  cases hB : barsB h m bk ns c with
  | false => simp
  | true =>
    simp
    rw [ev_lc1 (t1 := t) PyData.int ns (fun k => !barsB h m bk (ns.filter fun j => !decide (j = k)) c) PyData.int (by simp) (fun k hk => ⟨_, rfl, by
      simp
      rw [ev_lc1 (t1 := t) PyData.int ns (fun j => !decide (j = k)) PyData.int (by simp) (fun j hj => ⟨_, rfl, by simp, by simp⟩)]
      simp only [R.bind]
      rw [bars_ev (by omega) hh m1 m4 ok (hr.sub List.filter_sublist) (.inl rfl) hc]
      simp, by simp⟩)]
    simp [needM]
end Wl

set_option maxHeartbeats 4000000
namespace Wl
open PySem L2 Wv
theorem told10_ev {n : Nat} {h : House} {m : Int} {bk : List (Option Int × Clm)} {l : List Int} {c : Clm} {t : Tw} (hn : 10 ≤ n) (hh : House.Ok h) (m1 : 1 ≤ m) (m4 : m ≤ 4) (ok : BookOk h m bk) (hl : FolkOk m l) (hbl : bk.length ≤ 12) (hc : Clm.Ok h m c) : (callN T n 106 [.int 0, eH h, .int m, .list (bk.map eB), eC c, eT l] t = .ok (match coreM h m bk c (numsM bk l) with
      | none => .str "none"
      | some r => eT r) t) ∧ callN T n 106 [.int 1, eH h, .int m, .list (bk.map eB), eC c, eT l] t = .ok (if barsB h m bk (numsM bk l) c then .list ((needM h m bk c (numsM bk l)).map .int) else .str "none") t := by
  obtain ⟨n, rfl⟩ : ∃ m, n = m + 1 := ⟨n - 1, by omega⟩
  constructor
  · rw [callN_code (np := 6) (ns := 9) (c := c__law_told_k10) rfl rfl]
    simp [c__law_told_k10]
    rw [core_ev (by omega) hh m1 m4 ok hl hbl hc]
    cases coreM h m bk c (numsM bk l) with
    | none =>
      simp
      rw [is_exc]
      simp
      rw [refusal_ev (by omega) (by omega) (by omega)]
      rfl
    | some w =>
      simp
  · rw [callN_code (np := 6) (ns := 9) (c := c__law_told_k10) rfl rfl]
    simp [c__law_told_k10]
    rw [needed_ev (by omega) hh m1 m4 ok hl hbl hc]
    cases barsB h m bk (numsM bk l) c with
    | false =>
      simp
      rw [is_exc]
      simp
      rw [refusal_ev (by omega) (by omega) (by omega)]
      rfl
    | true =>
      simp
/-! ### cores, in plain words -/
theorem rowC_sub {bk : List (Option Int × Clm)} {r r' : List Int} (hs : ∀ k ∈ r, k ∈ r') : ∀ c ∈ rowC bk r, c ∈ rowC bk r' := fun c hc => by
  obtain ⟨k, hk, rfl⟩ := List.mem_map.mp hc
  exact List.mem_map.mpr ⟨k, hs k hk, rfl⟩
/-- more bindings bar what fewer bar -/
theorem bars_mono {h : House} {m : Int} (m0 : 0 ≤ m) {bk : List (Option Int × Clm)} (ok : BookOk h m bk) {c : Clm} (hc : Clm.Ok h m c) {r r' : List Int} (hr' : RowIn bk r') (hs : ∀ k ∈ r, k ∈ r') (q : barsB h m bk r c = true) : barsB h m bk r' c = true := by
  unfold barsB at *
  rw [Bool.not_eq_true'] at *
  cases q2 : mayB h m (rowC bk r' ++ [c]) with
  | false => rfl
  | true =>
    have := may_mono m0 (cl := rowC bk r' ++ [c]) (cl' := rowC bk r ++ [c]) (fun x q => (List.mem_append.mp q).elim (rowC_ok ok hr' x) (fun q => by simp at q; rw [q]; exact hc)) (fun x hx => by
      rcases List.mem_append.mp hx with w | w
      · exact List.mem_append.mpr (.inl (rowC_sub hs x w))
      · exact List.mem_append.mpr (.inr w)) q2
    rw [q] at this
    cases this
theorem seek_bars {h : House} {m : Int} {bk : List (Option Int × Clm)} {c : Clm} {ns : List Int} {n : Nat} {r : List Int} (hs : seekM h m bk c ns n = some r) : r.Sublist ns ∧ barsB h m bk r c = true := by
  unfold seekM at hs
  obtain ⟨k, hk, e⟩ := List.exists_of_findSome?_eq_some hs
  have h1 := List.find?_some e
  have h2 := List.mem_of_find?_eq_some e
  exact ⟨(lotsN_mem.mp h2).1, h1⟩
/-- what is needed is in each core -/
theorem need_core {h : House} {m : Int} (m0 : 0 ≤ m) {bk : List (Option Int × Clm)} (ok : BookOk h m bk) {c : Clm} (hc : Clm.Ok h m c) {ns r : List Int} (hr : RowIn bk ns) (hk : coreM h m bk c ns = some r) : ∀ k ∈ needM h m bk c ns, k ∈ r := fun k hkn => by
  have hrs : r.Sublist ns ∧ barsB h m bk r c = true := by
    unfold coreM at hk
    split at hk
    · rename_i hb
      cases hq : seekM h m bk c ns ns.length with
      | none => rw [hq] at hk; simp at hk; subst hk; exact ⟨List.Sublist.refl _, hb⟩
      | some r' => rw [hq] at hk; simp at hk; subst hk; exact seek_bars hq
    · cases hk
  unfold needM at hkn
  obtain ⟨h1, h2⟩ := List.mem_filter.mp hkn
  by_cases q : k ∈ r
  · exact q
  · have := bars_mono m0 ok hc (r := r) (r' := ns.filter fun j => !decide (j = k)) (hr.sub List.filter_sublist) (fun j hj => List.mem_filter.mpr ⟨hrs.1.subset hj, by
      have : ¬ j = k := fun e => q (e ▸ hj)
      simp [this]⟩) hrs.2
    rw [this] at h2
    cases h2
/-- the law seeks up to the size of all -/
theorem seek_all {h : House} {m : Int} {bk : List (Option Int × Clm)} {c : Clm} {ns : List Int} (hb : barsB h m bk ns c = true) : seekM h m bk c ns (ns.length + 1) = some ((seekM h m bk c ns ns.length).getD ns) := by
  have hl : lotsN ns ns.length = [ns] := by
    unfold lotsN
    have hf : (subsF ns).filter (fun r => decide (r.length = ns.length)) = [ns] := by
      have : ∀ (l : List Int), (subsF l).filter (fun r => decide (r.length = l.length)) = [l] := by
        intro l
        induction l using snoc_ind with
        | h0 => rfl
        | h1 l a ih =>
          rw [subsF_snoc, List.filter_append, List.filter_map]
          have e1 : (subsF l).filter (fun r => decide (r.length = (l ++ [a]).length)) = [] := by
            rw [List.filter_eq_nil_iff]
            intro r hr
            have := ((subsF_mem l r).mp hr).length_le
            simp
            omega
          rw [e1, show ((subsF l).filter ((fun r => decide (r.length = (l ++ [a]).length)) ∘ fun r => r ++ [a])) = (subsF l).filter (fun r => decide (r.length = l.length)) from List.filter_congr fun r _ => by simp, ih]
          rfl
      exact this ns
    rw [hf]
    rfl
  unfold seekM
  rw [List.range_succ, List.findSome?_append]
  cases (List.range ns.length).findSome? fun k => (lotsN ns k).find? fun r => barsB h m bk r c with
  | some r => simp
  | none => simp [hl, hb]
end Wl

set_option maxHeartbeats 4000000
namespace Wl
open PySem L2 Wv
theorem ite_go {F : Nat → List PyData → Tw → R PyData} {c : CE} {b1 b2 : CB} {env : Wv.Env} {t t' : Tw} (b : Bool) (hc : evalE F true c (borrow env) t = .ok (.bool b) t') : execS F (.ite c b1 b2) env t = if b then execB F b1 env t' else execB F b2 env t' := by
  rw [xs_ite, hc]
  cases b <;> rfl
theorem is_T (r : List Int) : cmpD .Is (eT r) .none = some false := rfl
theorem seek_succ {h : House} {m : Int} {bk : List (Option Int × Clm)} {c : Clm} {ns : List Int} {n : Nat} : seekM h m bk c ns (n + 1) = (seekM h m bk c ns n).or ((lotsN ns n).find? fun r => barsB h m bk r c) := by
  unfold seekM
  rw [List.range_succ, List.findSome?_append]
  simp
theorem runs (ns : List Int) (hns : ns.length ≤ 63) : ∃ t, execB (callN T 14) c_law (none :: some (false, tTown) :: List.replicate N_law.length none) ⟨nums0 ns, 0⟩ = .ret (.bool true) t := by
  have g0 : Tg0 ⟨nums0 ns, 0⟩ := nums_ne ns
  generalize (⟨nums0 ns, 0⟩ : Tw) = t at g0
  rw [show N_law.length = 16 from rfl]
  simp [c_law]
  obtain ⟨h, m, bk, t1, e1, hh, m1, m3, la1, la4, ro4, hbk, hlen, g1⟩ := law_case_ev (n := 14) (mu := 6) (t := t) (by omega) g0 (by omega) (by omega)
  have m4 : m ≤ 4 := by omega
  have hbl := hbk.len
  rw [e1]
  simp
  obtain ⟨l, t2, e2, hl, g2⟩ := law_some_ev (n := 14) (t := t1) (by omega) g1 m1 m4
  rw [e2]
  simp
  rw [ev_lc1 (t1 := t2) (fun p : (Option Int × Clm) × Nat => .int (p.2 : Nat)) bk.zipIdx (fun p => !decide (p.1.1 ∈ l.map some)) (fun p => .int (p.2 : Nat)) (by
    simp
    rw [if_pos (small_of (by omega) (by omega)), rngs0, range_zipIdx, List.map_map]
    rfl) (fun p hp => ⟨_, rfl, by
    have hx : bk[p.2]? = some p.1 := by simpa using List.mem_zipIdx_iff_getElem?.mp hp
    simp
    rw [ixL_map hx]
    simp [eB, eT, cmp_ni_O], by simp⟩)]
  rw [show ((bk.zipIdx.filter fun p => !decide (p.1.1 ∈ l.map some)).map fun p => PyData.int (p.2 : Nat)) = (numsM bk l).map PyData.int by unfold numsM; rw [List.map_map]; rfl]
  obtain ⟨hr, hrl, hri⟩ := numsM_in (bk := bk) (by omega) l
  have told : ∀ (c : Clm) (t : Tw), Clm.Ok h m c → _ := fun c t hc => told10_ev (n := 14) (t := t) (by omega) hh m1 m4 hbk hl (by omega) hc
  generalize hns : numsM bk l = nn at *
  have hnl : nn.length ≤ 6 := by omega
  simp
  generalize hz : forLoop _ _ _ _ = z
  obtain ⟨env', t', rfl, x5, x15, rfl, rfl⟩ := for_at hz PyData.int nn rfl (fun d env t3 => ∃ x5 x15, env = [none, some (false, tTown), some (false, eT l), some (false, .list (nn.map .int)), some (false, .list ((subsF d).map eT)), x5, none, some (false, eH h), some (false, .int m), some (false, .list (bk.map eB)), none, none, none, none, none, x15, none, none] ∧ t3 = t2) ⟨none, none, rfl, rfl⟩ (fun d x rs env t3 hp ⟨x5, x15, e, e2⟩ => by
    subst e e2
    clear hz
    have hd : d.length ≤ 5 := by
      have := congrArg List.length hp
      simp at this
      omega
    have h2 : 2 ^ d.length ≤ 2 ^ 5 := Nat.pow_le_pow_right (by omega) hd
    have hsl := subsF_len d
    have hrl : ∀ r ∈ subsF d, r.length ≤ 5 := fun r hr => by
      have := ((subsF_mem d r).mp hr).length_le
      omega
    simp
    rw [ev_lc1n (t1 := t3) eT (subsF d) (fun r => eT (r ++ [x])) (by simp) (fun r hr => ⟨_, rfl, by
      simp
      rw [show eT r = .tuple (r.map .int) from rfl, bin_addT (line_le (by have := hrl r hr; simp; omega))]
      simp [eT]⟩)]
    simp only []
    rw [bin_addL (line_le (by simp only [List.length_map]; omega))]
    simp
    rw [subsF_snoc]
    simp [Function.comp_def])
  clear hz
  obtain ⟨N, hNe⟩ : ∃ N : Int, N = (nn.length : Int) := ⟨_, rfl⟩
  have hN : biD .len [.list (nn.map .int)] = some (.int N) := by rw [hNe]; simp
  simp [-bi_len_l, hN]
  rw [if_pos (small_of (i := 2) (by omega) (by omega)), rngs0]
  simp only []
  generalize hz : forLoop _ _ _ _ = z
  obtain ⟨env', t3, rfl, _⟩ := for_at hz (fun k : Nat => .int (k : Int)) (List.range (2 : Int).toNat) rfl (fun d env t3 => Tg0 t3 ∧ ∃ x5 x6 x10 x11 x12 x13 x14 x15 x16 x17, env = [none, some (false, tTown), some (false, eT l), some (false, .list (nn.map .int)), some (false, .list ((subsF nn).map eT)), x5, x6, some (false, eH h), some (false, .int m), some (false, .list (bk.map eB)), x10, x11, x12, x13, x14, x15, x16, x17]) ⟨g2, x5, none, none, none, none, none, none, x15, none, none, rfl⟩ (fun d k rs env t3 hp ⟨g3, x5, x6, x10, x11, x12, x13, x14, x15, x16, x17, e⟩ => by
    subst e
    clear hz
    obtain ⟨c, t4, e4, hc, g4⟩ := claim_ev (n := 14) (t := t3) (by omega) g3 hh m1 m4
    obtain ⟨told0, told1⟩ := told c t4 hc
    simp [-xs_ite]
    rw [e4]
    simp [-xs_ite]
    rw [ite_go (t' := t4) (!barsB h m bk nn c) (by
      simp
      rw [law_bars_ev (by omega) hh m1 m4 hbk hr (.inl rfl) hc]
      simp)]
    cases hB : barsB h m bk nn c with
    | false =>
      rw [hB] at told1
      have hcn : coreM h m bk c nn = none := by unfold coreM; rw [hB]; rfl
      rw [hcn] at told0
      simp
      rw [ev_lc1n (t1 := t4) PyData.int [0, 1] (fun _ => .str "none") (by simp) (fun k hk => ⟨_, rfl, by
        simp at hk
        rcases hk with rfl | rfl
        · simp
          rw [told0]
        · simp
          rw [told1]
          simp⟩)]
      have hs2 : cmpD .NotEq (.list [.str "none", .str "none"]) (.list [.str "none", .str "none"]) = some false := by decide +kernel
      simp [hs2]
      exact ⟨_, _, ⟨rfl, rfl⟩, g4, _, _, _, _, _, _, _, _, _, _, rfl⟩
    | true =>
      rw [hB] at told1
      have hcn : coreM h m bk c nn = seekM h m bk c nn (nn.length + 1) := by unfold coreM; rw [hB, seek_all hB]; rfl
      obtain ⟨due, hdue⟩ : ∃ r, coreM h m bk c nn = some r := by unfold coreM; rw [hB]; exact ⟨_, rfl⟩
      have hnc := need_core (by omega) hbk hc hr hdue
      rw [hdue] at told0 hcn
      simp [-xs_ite, -bi_len_l, hN]
      rw [if_pos (small_of (by omega) (by omega)), rngs0, show (N + 1).toNat = nn.length + 1 by omega]
      simp only []
      generalize hz : forLoop _ _ _ _ = z
      obtain ⟨env', t', rfl, x13, x15, x17, rfl, rfl⟩ := for_at hz (fun k : Nat => .int (k : Int)) (List.range (nn.length + 1)) rfl (fun d env t5 => ∃ x13 x15 x17, env = [none, some (false, tTown), some (false, eT l), some (false, .list (nn.map .int)), some (false, .list ((subsF nn).map eT)), x5, some (false, .int (k : Int)), some (false, eH h), some (false, .int m), some (false, .list (bk.map eB)), some (false, eC c), x11, some (false, eI (seekM h m bk c nn d.length)), x13, x14, x15, x16, x17] ∧ t5 = t4) ⟨_, _, _, rfl, rfl⟩ (fun d k2 rs2 env t5 hp2 ⟨x13, x15, x17, e, e5⟩ => by
        subst e e5
        obtain ⟨rfl, hd⟩ := range_at hp2
        clear hz
        simp [-xs_ite, -bi_len_l]
        rw [ev_lc1 (t1 := t5) eT (subsF nn) (fun r => decide (r.length = d.length)) eT (by simp) (fun r hr => ⟨_, rfl, by
          simp [eT]
          omega, by simp⟩)]
        simp only []
        rw [sort_lots]
        simp only [R_of_some, R.bind, valI_l, SR.of]
        generalize hz : forLoop _ _ _ _ = z
        obtain ⟨env', t', rfl, x15, rfl, rfl⟩ := for_at hz eT (lotsN nn d.length) rfl (fun d2 env t6 => ∃ x15, env = [none, some (false, tTown), some (false, eT l), some (false, .list (nn.map .int)), some (false, .list ((subsF nn).map eT)), x5, some (false, .int (k : Int)), some (false, eH h), some (false, .int m), some (false, .list (bk.map eB)), some (false, eC c), x11, some (false, eI ((seekM h m bk c nn d.length).or (d2.find? fun r => barsB h m bk r c))), some (false, .int (d.length : Int)), x14, x15, x16, x17] ∧ t6 = t5) ⟨x15, by simp, rfl⟩ (fun d2 r rs3 env t6 hp3 ⟨x15, e, e6⟩ => by
          subst e e6
          clear hz
          have hrow : RowIn bk r := hr.sub (lotsN_mem.mp (by rw [hp3]; simp)).1
          simp [-xs_ite]
          cases hq : (seekM h m bk c nn d.length).or (d2.find? fun r => barsB h m bk r c) with
          | some r' =>
            rw [ite_go (t' := t6) false (by simp [eI, is_T])]
            rw [← Option.or_assoc, hq]
            simp
          | none =>
            rw [ite_go (t' := t6) (barsB h m bk r c) (by
              simp [eI]
              rw [law_bars_ev (by omega) hh m1 m4 hbk hrow (.inr rfl) hc])]
            rw [← Option.or_assoc, hq]
            cases hb2 : barsB h m bk r c <;> simp [hb2, eI])
        clear hz
        simp
        rw [seek_succ])
      clear hz
      simp only [List.length_range]
      rw [← hcn]
      simp [-xs_ite]
      rw [ite_go (t' := t') false (by
        simp
        rw [told0]
        simp [eI]
        rw [good_T.ne]
        simp)]
      simp [-xs_ite]
      generalize hz : forLoop _ _ _ _ = z
      obtain ⟨env', t', rfl, x5, x16, rfl, rfl⟩ := for_at hz PyData.int nn rfl (fun d env t6 => ∃ x5 x16, env = [none, some (false, tTown), some (false, eT l), some (false, .list (nn.map .int)), some (false, .list ((subsF nn).map eT)), x5, some (false, .int (k : Int)), some (false, eH h), some (false, .int m), some (false, .list (bk.map eB)), some (false, eC c), x11, some (false, eT due), x13, some (true, .list ((d.filter fun k => !barsB h m bk (nn.filter fun j => !decide (j = k)) c).map .int)), x15, x16, x17] ∧ t6 = t') ⟨_, _, rfl, rfl⟩ (fun d x rs env t6 hp ⟨x5, x16, e, e2⟩ => by
        subst e e2
        clear hz
        have hln : (d.filter fun k => !barsB h m bk (nn.filter fun j => !decide (j = k)) c).length ≤ 6 := by
          have := congrArg List.length hp
          simp at this
          exact Nat.le_trans (List.length_filter_le _ _) (by omega)
        simp [-xs_ite]
        rw [ev_lc1 (t1 := t6) PyData.int nn (fun j => !decide (j = x)) PyData.int (by simp) (fun j hj => ⟨_, rfl, by simp, by simp⟩)]
        simp [-xs_ite]
        rw [ite_go (t' := t6) (!barsB h m bk (nn.filter fun j => !decide (j = x)) c) (by
          simp
          rw [law_bars_ev (by omega) hh m1 m4 hbk (hr.sub List.filter_sublist) (.inl rfl) hc]
          simp)]
        cases hb2 : barsB h m bk (nn.filter fun j => !decide (j = x)) c with
        | true => simp [List.filter_append, hb2]
        | false =>
          simp
          rw [if_pos (line_of (by omega))]
          simp [List.filter_append, hb2])
      clear hz
      simp [-xs_ite]
      rw [ite_go (t' := t') false (by
        simp
        rw [told1]
        simp
        rw [show (nn.filter fun k => !barsB h m bk (nn.filter fun j => !decide (j = k)) c) = needM h m bk c nn from rfl]
        simp
        rw [ev_lc1 (t1 := t') PyData.int (needM h m bk c nn) (fun k => !decide (k ∈ due)) PyData.int (by simp) (fun j hj => ⟨_, rfl, by
          simp [eT]
          rw [good_int.niT]
          simp, by simp⟩)]
        simp
        rw [cmp_ne_nil (plainAll_map good_int.plain _)]
        simp
        exact fun k hk => hnc k hk)]
      simp
      exact ⟨_, _, ⟨rfl, rfl⟩, g4, _, _, _, _, _, _, _, _, _, _, rfl⟩)
  clear hz
  simp
end Wl

namespace Wl
open PySem PySem.Spec PyProof.Rows L2 Wv
def top (i : Nat) : Stmt := PySem.Challenge.pw_wherewas_k10_whole_cores.main.body.getD i (.Pass ⟨0, 0, 0, 0⟩)
abbrev s_is_whole : Stmt := top 10
def d_is_whole : He.DefD := ⟨("is_whole", none), "is_whole", "is_whole", defArgs s_is_whole, defBody s_is_whole, defScope s_is_whole, [], []⟩
abbrev s_are_pairs : Stmt := top 16
def d_are_pairs : He.DefD := ⟨("are_pairs", none), "are_pairs", "are_pairs", defArgs s_are_pairs, defBody s_are_pairs, defScope s_are_pairs, [], []⟩
abbrev s_is_house : Stmt := top 17
def d_is_house : He.DefD := ⟨("is_house", none), "is_house", "is_house", defArgs s_is_house, defBody s_is_house, defScope s_is_house, [], []⟩
abbrev s_look_house : Stmt := top 18
def d_look_house : He.DefD := ⟨("look_house", none), "look_house", "look_house", defArgs s_look_house, defBody s_look_house, defScope s_look_house, [], []⟩
abbrev s_look_folk : Stmt := top 19
def d_look_folk : He.DefD := ⟨("look_folk", none), "look_folk", "look_folk", defArgs s_look_folk, defBody s_look_folk, defScope s_look_folk, [], []⟩
abbrev s_open_doors : Stmt := top 20
def d_open_doors : He.DefD := ⟨("open_doors", none), "open_doors", "open_doors", defArgs s_open_doors, defBody s_open_doors, defScope s_open_doors, [], []⟩
abbrev s_beside : Stmt := top 21
def d_beside : He.DefD := ⟨("beside", none), "beside", "beside", defArgs s_beside, defBody s_beside, defScope s_beside, [], []⟩
abbrev s_stands : Stmt := top 22
def d_stands : He.DefD := ⟨("stands", none), "stands", "stands", defArgs s_stands, defBody s_stands, defScope s_stands, [], []⟩
abbrev s_is_claim : Stmt := top 23
def d_is_claim : He.DefD := ⟨("is_claim", none), "is_claim", "is_claim", defArgs s_is_claim, defBody s_is_claim, defScope s_is_claim, [], []⟩
abbrev s_holds : Stmt := top 24
def d_holds : He.DefD := ⟨("holds", none), "holds", "holds", defArgs s_holds, defBody s_holds, defScope s_holds, [], []⟩
abbrev s_is_binding : Stmt := top 27
def d_is_binding : He.DefD := ⟨("is_binding", none), "is_binding", "is_binding", defArgs s_is_binding, defBody s_is_binding, defScope s_is_binding, [], []⟩
abbrev s_book_fits : Stmt := top 28
def d_book_fits : He.DefD := ⟨("book_fits", none), "book_fits", "book_fits", defArgs s_book_fits, defBody s_book_fits, defScope s_book_fits, [], []⟩
abbrev s_look_book : Stmt := top 29
def d_look_book : He.DefD := ⟨("look_book", none), "look_book", "look_book", defArgs s_look_book, defBody s_look_book, defScope s_look_book, [], []⟩
abbrev s_look_case : Stmt := top 30
def d_look_case : He.DefD := ⟨("look_case", none), "look_case", "look_case", defArgs s_look_case, defBody s_look_case, defScope s_look_case, [], []⟩
abbrev s_let_at : Stmt := top 32
def d_let_at : He.DefD := ⟨("let_at", none), "let_at", "let_at", defArgs s_let_at, defBody s_let_at, defScope s_let_at, [], []⟩
abbrev s_led : Stmt := top 33
def d_led : He.DefD := ⟨("led", none), "led", "led", defArgs s_led, defBody s_led, defScope s_led, [], []⟩
abbrev s_ahead_lots : Stmt := top 34
def d_ahead_lots : He.DefD := ⟨("ahead_lots", none), "ahead_lots", "ahead_lots", defArgs s_ahead_lots, defBody s_ahead_lots, defScope s_ahead_lots, [], []⟩
abbrev s_behind_lots : Stmt := top 35
def d_behind_lots : He.DefD := ⟨("behind_lots", none), "behind_lots", "behind_lots", defArgs s_behind_lots, defBody s_behind_lots, defScope s_behind_lots, [], []⟩
abbrev s_met_lots : Stmt := top 36
def d_met_lots : He.DefD := ⟨("met_lots", none), "met_lots", "met_lots", defArgs s_met_lots, defBody s_met_lots, defScope s_met_lots, [], []⟩
abbrev s_look_wish : Stmt := top 39
def d_look_wish : He.DefD := ⟨("look_wish", none), "look_wish", "look_wish", defArgs s_look_wish, defBody s_look_wish, defScope s_look_wish, [], []⟩
abbrev s_lots_of : Stmt := top 40
def d_lots_of : He.DefD := ⟨("lots_of", none), "lots_of", "lots_of", defArgs s_lots_of, defBody s_lots_of, defScope s_lots_of, [], []⟩
abbrev s_bars : Stmt := top 41
def d_bars : He.DefD := ⟨("bars", none), "bars", "bars", defArgs s_bars, defBody s_bars, defScope s_bars, [], []⟩
abbrev s_core_of : Stmt := top 42
def d_core_of : He.DefD := ⟨("core_of", none), "core_of", "core_of", defArgs s_core_of, defBody s_core_of, defScope s_core_of, [], []⟩
abbrev s_core : Stmt := top 43
def d_core : He.DefD := ⟨("core", none), "core", "core", defArgs s_core, defBody s_core, defScope s_core, [], [("liars", .adr fun K => kwAt K "core")]⟩
abbrev s_needed : Stmt := top 44
def d_needed : He.DefD := ⟨("needed", none), "needed", "needed", defArgs s_needed, defBody s_needed, defScope s_needed, [], [("liars", .adr fun K => kwAt K "needed")]⟩
abbrev s__law_draw : Stmt := top 47
def d__law_draw : He.DefD := ⟨("_law_draw", none), "_law_draw", "_law_draw", defArgs s__law_draw, defBody s__law_draw, defScope s__law_draw, [], []⟩
abbrev s__law_pick : Stmt := top 48
def d__law_pick : He.DefD := ⟨("_law_pick", none), "_law_pick", "_law_pick", defArgs s__law_pick, defBody s__law_pick, defScope s__law_pick, [], []⟩
abbrev s__law_refusal : Stmt := top 49
def d__law_refusal : He.DefD := ⟨("_law_refusal", none), "_law_refusal", "_law_refusal", defArgs s__law_refusal, defBody s__law_refusal, defScope s__law_refusal, [], []⟩
abbrev s__law_house : Stmt := top 50
def d__law_house : He.DefD := ⟨("_law_house", none), "_law_house", "_law_house", defArgs s__law_house, defBody s__law_house, defScope s__law_house, [], []⟩
abbrev s__law_side : Stmt := top 51
def d__law_side : He.DefD := ⟨("_law_side", none), "_law_side", "_law_side", defArgs s__law_side, defBody s__law_side, defScope s__law_side, [], []⟩
abbrev s__law_so : Stmt := top 52
def d__law_so : He.DefD := ⟨("_law_so", none), "_law_so", "_law_so", defArgs s__law_so, defBody s__law_so, defScope s__law_so, [], []⟩
abbrev s__law_stands : Stmt := top 53
def d__law_stands : He.DefD := ⟨("_law_stands", none), "_law_stands", "_law_stands", defArgs s__law_stands, defBody s__law_stands, defScope s__law_stands, [], []⟩
abbrev s__law_steps : Stmt := top 54
def d__law_steps : He.DefD := ⟨("_law_steps", none), "_law_steps", "_law_steps", defArgs s__law_steps, defBody s__law_steps, defScope s__law_steps, [], []⟩
abbrev s__law_lots : Stmt := top 55
def d__law_lots : He.DefD := ⟨("_law_lots", none), "_law_lots", "_law_lots", defArgs s__law_lots, defBody s__law_lots, defScope s__law_lots, [], []⟩
abbrev s__law_walk : Stmt := top 56
def d__law_walk : He.DefD := ⟨("_law_walk", none), "_law_walk", "_law_walk", defArgs s__law_walk, defBody s__law_walk, defScope s__law_walk, [], []⟩
abbrev s__law_claim : Stmt := top 57
def d__law_claim : He.DefD := ⟨("_law_claim", none), "_law_claim", "_law_claim", defArgs s__law_claim, defBody s__law_claim, defScope s__law_claim, [], []⟩
abbrev s__law_book : Stmt := top 58
def d__law_book : He.DefD := ⟨("_law_book", none), "_law_book", "_law_book", defArgs s__law_book, defBody s__law_book, defScope s__law_book, [], []⟩
abbrev s__law_some : Stmt := top 59
def d__law_some : He.DefD := ⟨("_law_some", none), "_law_some", "_law_some", defArgs s__law_some, defBody s__law_some, defScope s__law_some, [], []⟩
abbrev s__law_case : Stmt := top 60
def d__law_case : He.DefD := ⟨("_law_case", none), "_law_case", "_law_case", defArgs s__law_case, defBody s__law_case, defScope s__law_case, [], []⟩
abbrev s__law_told : Stmt := top 61
def d__law_told : He.DefD := ⟨("_law_told", none), "_law_told", "_law_told", defArgs s__law_told, defBody s__law_told, defScope s__law_told, [], []⟩
abbrev s__law_bars : Stmt := top 62
def d__law_bars : He.DefD := ⟨("_law_bars", none), "_law_bars", "_law_bars", defArgs s__law_bars, defBody s__law_bars, defScope s__law_bars, [], []⟩
abbrev s__law_town : Stmt := top 46
def d__law_town : He.DefD := ⟨("_law_town", none), "_law_town", "_law_town", defArgs s__law_town, defBody s__law_town, defScope s__law_town, [], []⟩
abbrev s_law : Stmt := top 63
def d_law : He.DefD := ⟨("law", none), "law", "law", defArgs s_law, defBody s_law, defScope s_law, [], []⟩
/-! ### tables -/
def consts : List (Str × PyData) := [("MOST_ROOMS", (.int 6)), ("MOST_LAST", (.int 12)), ("MOST_FOLK", (.int 4)), ("WORDS", (.tuple [(.str "at"), (.str "not"), (.str "saw"), (.str "missed"), (.str "alone"), (.str "heard")])), ("MOST_BINDINGS", (.int 30)), ("MOST_CORE_BOOK", (.int 12))]
def exs : List Nat := [0, 1, 2, 3, 4, 5, 6, 7, 8]
def tabG : List (Nat × Str × Nat × Kd) := [((0 : Nat), ("is_whole" : Str), (3 : Nat), Kd.pos), ((1 : Nat), ("are_pairs" : Str), (3 : Nat), Kd.pos), ((2 : Nat), ("is_house" : Str), (1 : Nat), Kd.pos), ((3 : Nat), ("look_house" : Str), (2 : Nat), Kd.pos), ((20 : Nat), ("look_folk" : Str), (2 : Nat), Kd.pos), ((6 : Nat), ("open_doors" : Str), (2 : Nat), Kd.pos), ((7 : Nat), ("beside" : Str), (3 : Nat), Kd.pos), ((21 : Nat), ("stands" : Str), (2 : Nat), Kd.pos), ((10 : Nat), ("is_claim" : Str), (3 : Nat), Kd.pos), ((11 : Nat), ("holds" : Str), (3 : Nat), Kd.pos), ((22 : Nat), ("is_binding" : Str), (3 : Nat), Kd.pos), ((24 : Nat), ("book_fits" : Str), (3 : Nat), Kd.pos), ((25 : Nat), ("look_book" : Str), (3 : Nat), Kd.pos), ((26 : Nat), ("look_case" : Str), (4 : Nat), Kd.pos), ((30 : Nat), ("let_at" : Str), (4 : Nat), Kd.pos), ((31 : Nat), ("led" : Str), (3 : Nat), Kd.pos), ((32 : Nat), ("ahead_lots" : Str), (3 : Nat), Kd.pos), ((33 : Nat), ("behind_lots" : Str), (3 : Nat), Kd.pos), ((34 : Nat), ("met_lots" : Str), (3 : Nat), Kd.pos), ((100 : Nat), ("look_wish" : Str), (5 : Nat), Kd.pos), ((101 : Nat), ("lots_of" : Str), (2 : Nat), Kd.pos), ((102 : Nat), ("bars" : Str), (5 : Nat), Kd.pos), ((103 : Nat), ("core_of" : Str), (5 : Nat), Kd.pos), ((104 : Nat), ("core" : Str), (5 : Nat), Kd.kw), ((105 : Nat), ("needed" : Str), (5 : Nat), Kd.kw), ((13 : Nat), ("_law_draw" : Str), (2 : Nat), Kd.pos), ((14 : Nat), ("_law_pick" : Str), (2 : Nat), Kd.pos), ((42 : Nat), ("_law_refusal" : Str), (1 : Nat), Kd.pos), ((16 : Nat), ("_law_house" : Str), (3 : Nat), Kd.pos), ((17 : Nat), ("_law_side" : Str), (3 : Nat), Kd.pos), ((18 : Nat), ("_law_so" : Str), (3 : Nat), Kd.pos), ((43 : Nat), ("_law_stands" : Str), (2 : Nat), Kd.pos), ((44 : Nat), ("_law_steps" : Str), (3 : Nat), Kd.pos), ((46 : Nat), ("_law_lots" : Str), (3 : Nat), Kd.pos), ((48 : Nat), ("_law_walk" : Str), (3 : Nat), Kd.pos), ((19 : Nat), ("_law_claim" : Str), (3 : Nat), Kd.pos), ((49 : Nat), ("_law_book" : Str), (4 : Nat), Kd.pos), ((50 : Nat), ("_law_some" : Str), (2 : Nat), Kd.pos), ((51 : Nat), ("_law_case" : Str), (2 : Nat), Kd.pos), ((106 : Nat), ("_law_told" : Str), (6 : Nat), Kd.pos), ((107 : Nat), ("_law_bars" : Str), (5 : Nat), Kd.pos)]
def g : Gt := ⟨fun i => tabG.lookup i, excW exs, fun x => consts.lookup x⟩
/-! ### the syntax says so -/
theorem k_is_whole : chkB g N_is_whole (defScope s_is_whole) c_is_whole (defBody s_is_whole) = true := by decide +kernel
theorem f_is_whole : FnScope N_is_whole ["thing", "low", "high"] (defScope s_is_whole) := ⟨rfl, rfl, rfl, by decide +kernel, rfl, by decide +kernel, by decide +kernel⟩
theorem k_are_pairs : chkB g N_are_pairs (defScope s_are_pairs) c_are_pairs (defBody s_are_pairs) = true := by decide +kernel
theorem f_are_pairs : FnScope N_are_pairs ["thing", "first", "second"] (defScope s_are_pairs) := ⟨rfl, rfl, rfl, by decide +kernel, rfl, by decide +kernel, by decide +kernel⟩
theorem k_is_house : chkB g N_is_house (defScope s_is_house) c_is_house (defBody s_is_house) = true := by decide +kernel
theorem f_is_house : FnScope N_is_house ["thing"] (defScope s_is_house) := ⟨rfl, rfl, rfl, by decide +kernel, rfl, by decide +kernel, by decide +kernel⟩
theorem k_look_house : chkB g N_look_house (defScope s_look_house) c_look_house (defBody s_look_house) = true := by decide +kernel
theorem f_look_house : FnScope N_look_house ["house", "many"] (defScope s_look_house) := ⟨rfl, rfl, rfl, by decide +kernel, rfl, by decide +kernel, by decide +kernel⟩
theorem k_look_folk : chkB g N_look_folk (defScope s_look_folk) c_look_folk (defBody s_look_folk) = true := by decide +kernel
theorem f_look_folk : FnScope N_look_folk ["many", "thing"] (defScope s_look_folk) := ⟨rfl, rfl, rfl, by decide +kernel, rfl, by decide +kernel, by decide +kernel⟩
theorem k_open_doors : chkB g N_open_doors (defScope s_open_doors) c_open_doors (defBody s_open_doors) = true := by decide +kernel
theorem f_open_doors : FnScope N_open_doors ["house", "beat"] (defScope s_open_doors) := ⟨rfl, rfl, rfl, by decide +kernel, rfl, by decide +kernel, by decide +kernel⟩
theorem k_beside : chkB g N_beside (defScope s_beside) c_beside (defBody s_beside) = true := by decide +kernel
theorem f_beside : FnScope N_beside ["house", "room", "beat"] (defScope s_beside) := ⟨rfl, rfl, rfl, by decide +kernel, rfl, by decide +kernel, by decide +kernel⟩
theorem k_stands : chkB g N_stands (defScope s_stands) c_stands (defBody s_stands) = true := by decide +kernel
theorem f_stands : FnScope N_stands ["house", "many"] (defScope s_stands) := ⟨rfl, rfl, rfl, by decide +kernel, rfl, by decide +kernel, by decide +kernel⟩
theorem k_is_claim : chkB g N_is_claim (defScope s_is_claim) c_is_claim (defBody s_is_claim) = true := by decide +kernel
theorem f_is_claim : FnScope N_is_claim ["house", "many", "thing"] (defScope s_is_claim) := ⟨rfl, rfl, rfl, by decide +kernel, rfl, by decide +kernel, by decide +kernel⟩
theorem k_holds : chkB g N_holds (defScope s_holds) c_holds (defBody s_holds) = true := by decide +kernel
theorem f_holds : FnScope N_holds ["house", "stand", "claim"] (defScope s_holds) := ⟨rfl, rfl, rfl, by decide +kernel, rfl, by decide +kernel, by decide +kernel⟩
theorem k_is_binding : chkB g N_is_binding (defScope s_is_binding) c_is_binding (defBody s_is_binding) = true := by decide +kernel
theorem f_is_binding : FnScope N_is_binding ["house", "many", "thing"] (defScope s_is_binding) := ⟨rfl, rfl, rfl, by decide +kernel, rfl, by decide +kernel, by decide +kernel⟩
theorem k_book_fits : chkB g N_book_fits (defScope s_book_fits) c_book_fits (defBody s_book_fits) = true := by decide +kernel
theorem f_book_fits : FnScope N_book_fits ["house", "many", "thing"] (defScope s_book_fits) := ⟨rfl, rfl, rfl, by decide +kernel, rfl, by decide +kernel, by decide +kernel⟩
theorem k_look_book : chkB g N_look_book (defScope s_look_book) c_look_book (defBody s_look_book) = true := by decide +kernel
theorem f_look_book : FnScope N_look_book ["house", "many", "book"] (defScope s_look_book) := ⟨rfl, rfl, rfl, by decide +kernel, rfl, by decide +kernel, by decide +kernel⟩
theorem k_look_case : chkB g N_look_case (defScope s_look_case) c_look_case (defBody s_look_case) = true := by decide +kernel
theorem f_look_case : FnScope N_look_case ["house", "many", "book", "liars"] (defScope s_look_case) := ⟨rfl, rfl, rfl, by decide +kernel, rfl, by decide +kernel, by decide +kernel⟩
theorem k_let_at : chkB g N_let_at (defScope s_let_at) c_let_at (defBody s_let_at) = true := by decide +kernel
theorem f_let_at : FnScope N_let_at ["house", "many", "claims", "beat"] (defScope s_let_at) := ⟨rfl, rfl, rfl, by decide +kernel, rfl, by decide +kernel, by decide +kernel⟩
theorem k_led : chkB g N_led (defScope s_led) c_led (defBody s_led) = true := by decide +kernel
theorem f_led : FnScope N_led ["house", "lot", "beat"] (defScope s_led) := ⟨rfl, rfl, rfl, by decide +kernel, rfl, by decide +kernel, by decide +kernel⟩
theorem k_ahead_lots : chkB g N_ahead_lots (defScope s_ahead_lots) c_ahead_lots (defBody s_ahead_lots) = true := by decide +kernel
theorem f_ahead_lots : FnScope N_ahead_lots ["house", "many", "claims"] (defScope s_ahead_lots) := ⟨rfl, rfl, rfl, by decide +kernel, rfl, by decide +kernel, by decide +kernel⟩
theorem k_behind_lots : chkB g N_behind_lots (defScope s_behind_lots) c_behind_lots (defBody s_behind_lots) = true := by decide +kernel
theorem f_behind_lots : FnScope N_behind_lots ["house", "many", "claims"] (defScope s_behind_lots) := ⟨rfl, rfl, rfl, by decide +kernel, rfl, by decide +kernel, by decide +kernel⟩
theorem k_met_lots : chkB g N_met_lots (defScope s_met_lots) c_met_lots (defBody s_met_lots) = true := by decide +kernel
theorem f_met_lots : FnScope N_met_lots ["house", "many", "claims"] (defScope s_met_lots) := ⟨rfl, rfl, rfl, by decide +kernel, rfl, by decide +kernel, by decide +kernel⟩
theorem k_look_wish : chkB g N_look_wish (defScope s_look_wish) c_look_wish (defBody s_look_wish) = true := by decide +kernel
theorem f_look_wish : FnScope N_look_wish ["house", "many", "book", "wish", "liars"] (defScope s_look_wish) := ⟨rfl, rfl, rfl, by decide +kernel, rfl, by decide +kernel, by decide +kernel⟩
theorem k_lots_of : chkB g N_lots_of (defScope s_lots_of) c_lots_of (defBody s_lots_of) = true := by decide +kernel
theorem f_lots_of : FnScope N_lots_of ["numbers", "size"] (defScope s_lots_of) := ⟨rfl, rfl, rfl, by decide +kernel, rfl, by decide +kernel, by decide +kernel⟩
theorem k_bars : chkB g N_bars (defScope s_bars) c_bars (defBody s_bars) = true := by decide +kernel
theorem f_bars : FnScope N_bars ["house", "many", "book", "row", "wish"] (defScope s_bars) := ⟨rfl, rfl, rfl, by decide +kernel, rfl, by decide +kernel, by decide +kernel⟩
theorem k_core_of : chkB g N_core_of (defScope s_core_of) c_core_of (defBody s_core_of) = true := by decide +kernel
theorem f_core_of : FnScope N_core_of ["house", "many", "book", "wish", "liars"] (defScope s_core_of) := ⟨rfl, rfl, rfl, by decide +kernel, rfl, by decide +kernel, by decide +kernel⟩
theorem k_core : chkB g N_core (defScope s_core) c_core (defBody s_core) = true := by decide +kernel
theorem f_core : FnScope N_core ["house", "many", "book", "wish", "liars"] (defScope s_core) := ⟨rfl, rfl, rfl, by decide +kernel, rfl, by decide +kernel, by decide +kernel⟩
theorem k_needed : chkB g N_needed (defScope s_needed) c_needed (defBody s_needed) = true := by decide +kernel
theorem f_needed : FnScope N_needed ["house", "many", "book", "wish", "liars"] (defScope s_needed) := ⟨rfl, rfl, rfl, by decide +kernel, rfl, by decide +kernel, by decide +kernel⟩
theorem k__law_pick : chkB g N__law_pick (defScope s__law_pick) c__law_pick (defBody s__law_pick) = true := by decide +kernel
theorem f__law_pick : FnScope N__law_pick ["town", "some"] (defScope s__law_pick) := ⟨rfl, rfl, rfl, by decide +kernel, rfl, by decide +kernel, by decide +kernel⟩
theorem k__law_refusal : chkB g N__law_refusal (defScope s__law_refusal) c__law_refusal (defBody s__law_refusal) = true := by decide +kernel
theorem f__law_refusal : FnScope N__law_refusal ["caught"] (defScope s__law_refusal) := ⟨rfl, rfl, rfl, by decide +kernel, rfl, by decide +kernel, by decide +kernel⟩
theorem k__law_house : chkB g N__law_house (defScope s__law_house) c__law_house (defBody s__law_house) = true := by decide +kernel
theorem f__law_house : FnScope N__law_house ["town", "rooms_of", "last"] (defScope s__law_house) := ⟨rfl, rfl, rfl, by decide +kernel, rfl, by decide +kernel, by decide +kernel⟩
theorem k__law_side : chkB g N__law_side (defScope s__law_side) c__law_side (defBody s__law_side) = true := by decide +kernel
theorem f__law_side : FnScope N__law_side ["house_here", "room_here", "beat"] (defScope s__law_side) := ⟨rfl, rfl, rfl, by decide +kernel, rfl, by decide +kernel, by decide +kernel⟩
theorem k__law_so : chkB g N__law_so (defScope s__law_so) c__law_so (defBody s__law_so) = true := by decide +kernel
theorem f__law_so : FnScope N__law_so ["house_here", "stand_here", "claim"] (defScope s__law_so) := ⟨rfl, rfl, rfl, by decide +kernel, rfl, by decide +kernel, by decide +kernel⟩
theorem k__law_stands : chkB g N__law_stands (defScope s__law_stands) c__law_stands (defBody s__law_stands) = true := by decide +kernel
theorem f__law_stands : FnScope N__law_stands ["house_here", "count"] (defScope s__law_stands) := ⟨rfl, rfl, rfl, by decide +kernel, rfl, by decide +kernel, by decide +kernel⟩
theorem k__law_steps : chkB g N__law_steps (defScope s__law_steps) c__law_steps (defBody s__law_steps) = true := by decide +kernel
theorem f__law_steps : FnScope N__law_steps ["house_here", "one", "beat"] (defScope s__law_steps) := ⟨rfl, rfl, rfl, by decide +kernel, rfl, by decide +kernel, by decide +kernel⟩
theorem k__law_lots : chkB g N__law_lots (defScope s__law_lots) c__law_lots (defBody s__law_lots) = true := by decide +kernel
theorem f__law_lots : FnScope N__law_lots ["house_here", "count", "claims_here"] (defScope s__law_lots) := ⟨rfl, rfl, rfl, by decide +kernel, rfl, by decide +kernel, by decide +kernel⟩
theorem k__law_walk : chkB g N__law_walk (defScope s__law_walk) c__law_walk (defBody s__law_walk) = true := by decide +kernel
theorem f__law_walk : FnScope N__law_walk ["town", "house_here", "count"] (defScope s__law_walk) := ⟨rfl, rfl, rfl, by decide +kernel, rfl, by decide +kernel, by decide +kernel⟩
theorem k__law_claim : chkB g N__law_claim (defScope s__law_claim) c__law_claim (defBody s__law_claim) = true := by decide +kernel
theorem f__law_claim : FnScope N__law_claim ["town", "house_here", "count"] (defScope s__law_claim) := ⟨rfl, rfl, rfl, by decide +kernel, rfl, by decide +kernel, by decide +kernel⟩
theorem k__law_book : chkB g N__law_book (defScope s__law_book) c__law_book (defBody s__law_book) = true := by decide +kernel
theorem f__law_book : FnScope N__law_book ["town", "house_here", "count", "much"] (defScope s__law_book) := ⟨rfl, rfl, rfl, by decide +kernel, rfl, by decide +kernel, by decide +kernel⟩
theorem k__law_some : chkB g N__law_some (defScope s__law_some) c__law_some (defBody s__law_some) = true := by decide +kernel
theorem f__law_some : FnScope N__law_some ["town", "count"] (defScope s__law_some) := ⟨rfl, rfl, rfl, by decide +kernel, rfl, by decide +kernel, by decide +kernel⟩
theorem k__law_case : chkB g N__law_case (defScope s__law_case) c__law_case (defBody s__law_case) = true := by decide +kernel
theorem f__law_case : FnScope N__law_case ["town", "much"] (defScope s__law_case) := ⟨rfl, rfl, rfl, by decide +kernel, rfl, by decide +kernel, by decide +kernel⟩
theorem k__law_told : chkB g N__law_told_k10 (defScope s__law_told) c__law_told_k10 (defBody s__law_told) = true := by decide +kernel
theorem f__law_told : FnScope N__law_told_k10 ["sort_of", "house_here", "count", "book_here", "wish_of", "some"] (defScope s__law_told) := ⟨rfl, rfl, rfl, by decide +kernel, rfl, by decide +kernel, by decide +kernel⟩
theorem k__law_bars : chkB g N__law_bars (defScope s__law_bars) c__law_bars (defBody s__law_bars) = true := by decide +kernel
theorem f__law_bars : FnScope N__law_bars ["house_here", "count", "book_here", "row", "wish_of"] (defScope s__law_bars) := ⟨rfl, rfl, rfl, by decide +kernel, rfl, by decide +kernel, by decide +kernel⟩
def restL : List Stmt := (defBody s_law).tail
theorem k_law : chkB g ("script" :: "town" :: N_law) (defScope s_law) c_law restL = true := by decide +kernel
theorem f_law : FnScope ("script" :: "town" :: N_law) ["script"] (defScope s_law) := ⟨rfl, rfl, rfl, by decide +kernel, rfl, by decide +kernel, by decide +kernel⟩
/-! ### the head -/
def fn : List He.DefD := [d_is_whole, d_are_pairs, d_is_house, d_look_house, d_look_folk, d_open_doors, d_beside, d_stands, d_is_claim, d_holds, d_is_binding, d_book_fits, d_look_book, d_look_case, d_let_at, d_led, d_ahead_lots, d_behind_lots, d_met_lots, d_look_wish, d_lots_of, d_bars, d_core_of, d_core, d_needed, d__law_draw, d__law_pick, d__law_refusal, d__law_house, d__law_side, d__law_so, d__law_stands, d__law_steps, d__law_lots, d__law_walk, d__law_claim, d__law_book, d__law_some, d__law_case, d__law_told, d__law_bars, d__law_town, d_law]
def loose0 : List Str := ["WhereError", "BadHouse", "BadFolk", "BadBeat", "BadRoom", "BadBook", "BadPaper", "BadText", "NoneSuch", "is_whole", "MOST_ROOMS", "MOST_LAST", "MOST_FOLK", "WORDS", "are_pairs", "is_house", "look_house", "look_folk", "open_doors", "beside", "stands", "is_claim", "holds", "MOST_BINDINGS", "is_binding", "book_fits", "look_book", "look_case", "let_at", "led"]
def loose1 : List Str := ["ahead_lots", "behind_lots", "met_lots", "MOST_CORE_BOOK", "look_wish", "lots_of", "bars", "core_of", "core", "needed", "_law_town", "_law_draw", "_law_pick", "_law_refusal", "_law_house", "_law_side", "_law_so", "_law_stands", "_law_steps", "_law_lots", "_law_walk", "_law_claim", "_law_book", "_law_some", "_law_case", "_law_told", "_law_bars"]
def loose : List Str := loose0 ++ loose1
def kwNames : List Str := ["core", "needed"]
def ckW (K : PySem.W.Frag) : Bool := ckAll exs K (tabG.map (·.2.1) ++ (["_law_town", "law"] : List Str)) kwNames consts
abbrev R : PySem.W.OpenRow := PySem.W.OpenLaw.row PySem.Challenge.rw_wherewas_k10_whole_cores
abbrev hk : PySem.W.Hook := hookW 4 [] fn ckW
theorem run (w : World) : HandSHeadRun.RunEq R (PySem.W.view R.prog [63]) hk (obW 4 [] fn ckW) 20000 loose w := by
  intro os
  kernel_rfl
/-! ### each def keeps its promise -/
section
variable {P : Program} {w : World} {K : PySem.W.Frag} {mg : Str → Option Value} {base h : Heap}
theorem o_is_whole (X : K.In h) (G : h.Ns mainGlobals mg) (c : He.SaysD [] fn K) (q : ckW K = true) : DefOk P w K mg base g T 0 "is_whole" 3 .pos :=
  mk_pos (c.def_ 0 (d := d_is_whole) rfl) (glo_all X G q (by decide +kernel)) f_is_whole (by decide) k_is_whole (fun _ _ _ _ _ _ us hl => match us, hl with | [_, _, _], _ => rfl) rfl (by decide)
theorem o_are_pairs (X : K.In h) (G : h.Ns mainGlobals mg) (c : He.SaysD [] fn K) (q : ckW K = true) : DefOk P w K mg base g T 1 "are_pairs" 3 .pos :=
  mk_pos (c.def_ 1 (d := d_are_pairs) rfl) (glo_all X G q (by decide +kernel)) f_are_pairs (by decide) k_are_pairs (fun _ _ _ _ _ _ us hl => match us, hl with | [_, _, _], _ => rfl) rfl (by decide)
theorem o_is_house (X : K.In h) (G : h.Ns mainGlobals mg) (c : He.SaysD [] fn K) (q : ckW K = true) : DefOk P w K mg base g T 2 "is_house" 1 .pos :=
  mk_pos (c.def_ 2 (d := d_is_house) rfl) (glo_all X G q (by decide +kernel)) f_is_house (by decide) k_is_house (fun _ _ _ _ _ _ us hl => match us, hl with | [_], _ => rfl) rfl (by decide)
theorem o_look_house (X : K.In h) (G : h.Ns mainGlobals mg) (c : He.SaysD [] fn K) (q : ckW K = true) : DefOk P w K mg base g T 3 "look_house" 2 .pos :=
  mk_pos (c.def_ 3 (d := d_look_house) rfl) (glo_all X G q (by decide +kernel)) f_look_house (by decide) k_look_house (fun _ _ _ _ _ _ us hl => match us, hl with | [_, _], _ => rfl) rfl (by decide)
theorem o_look_folk (X : K.In h) (G : h.Ns mainGlobals mg) (c : He.SaysD [] fn K) (q : ckW K = true) : DefOk P w K mg base g T 20 "look_folk" 2 .pos :=
  mk_pos (c.def_ 4 (d := d_look_folk) rfl) (glo_all X G q (by decide +kernel)) f_look_folk (by decide) k_look_folk (fun _ _ _ _ _ _ us hl => match us, hl with | [_, _], _ => rfl) rfl (by decide)
theorem o_open_doors (X : K.In h) (G : h.Ns mainGlobals mg) (c : He.SaysD [] fn K) (q : ckW K = true) : DefOk P w K mg base g T 6 "open_doors" 2 .pos :=
  mk_pos (c.def_ 5 (d := d_open_doors) rfl) (glo_all X G q (by decide +kernel)) f_open_doors (by decide) k_open_doors (fun _ _ _ _ _ _ us hl => match us, hl with | [_, _], _ => rfl) rfl (by decide)
theorem o_beside (X : K.In h) (G : h.Ns mainGlobals mg) (c : He.SaysD [] fn K) (q : ckW K = true) : DefOk P w K mg base g T 7 "beside" 3 .pos :=
  mk_pos (c.def_ 6 (d := d_beside) rfl) (glo_all X G q (by decide +kernel)) f_beside (by decide) k_beside (fun _ _ _ _ _ _ us hl => match us, hl with | [_, _, _], _ => rfl) rfl (by decide)
theorem o_stands (X : K.In h) (G : h.Ns mainGlobals mg) (c : He.SaysD [] fn K) (q : ckW K = true) : DefOk P w K mg base g T 21 "stands" 2 .pos :=
  mk_pos (c.def_ 7 (d := d_stands) rfl) (glo_all X G q (by decide +kernel)) f_stands (by decide) k_stands (fun _ _ _ _ _ _ us hl => match us, hl with | [_, _], _ => rfl) rfl (by decide)
theorem o_is_claim (X : K.In h) (G : h.Ns mainGlobals mg) (c : He.SaysD [] fn K) (q : ckW K = true) : DefOk P w K mg base g T 10 "is_claim" 3 .pos :=
  mk_pos (c.def_ 8 (d := d_is_claim) rfl) (glo_all X G q (by decide +kernel)) f_is_claim (by decide) k_is_claim (fun _ _ _ _ _ _ us hl => match us, hl with | [_, _, _], _ => rfl) rfl (by decide)
theorem o_holds (X : K.In h) (G : h.Ns mainGlobals mg) (c : He.SaysD [] fn K) (q : ckW K = true) : DefOk P w K mg base g T 11 "holds" 3 .pos :=
  mk_pos (c.def_ 9 (d := d_holds) rfl) (glo_all X G q (by decide +kernel)) f_holds (by decide) k_holds (fun _ _ _ _ _ _ us hl => match us, hl with | [_, _, _], _ => rfl) rfl (by decide)
theorem o_is_binding (X : K.In h) (G : h.Ns mainGlobals mg) (c : He.SaysD [] fn K) (q : ckW K = true) : DefOk P w K mg base g T 22 "is_binding" 3 .pos :=
  mk_pos (c.def_ 10 (d := d_is_binding) rfl) (glo_all X G q (by decide +kernel)) f_is_binding (by decide) k_is_binding (fun _ _ _ _ _ _ us hl => match us, hl with | [_, _, _], _ => rfl) rfl (by decide)
theorem o_book_fits (X : K.In h) (G : h.Ns mainGlobals mg) (c : He.SaysD [] fn K) (q : ckW K = true) : DefOk P w K mg base g T 24 "book_fits" 3 .pos :=
  mk_pos (c.def_ 11 (d := d_book_fits) rfl) (glo_all X G q (by decide +kernel)) f_book_fits (by decide) k_book_fits (fun _ _ _ _ _ _ us hl => match us, hl with | [_, _, _], _ => rfl) rfl (by decide)
theorem o_look_book (X : K.In h) (G : h.Ns mainGlobals mg) (c : He.SaysD [] fn K) (q : ckW K = true) : DefOk P w K mg base g T 25 "look_book" 3 .pos :=
  mk_pos (c.def_ 12 (d := d_look_book) rfl) (glo_all X G q (by decide +kernel)) f_look_book (by decide) k_look_book (fun _ _ _ _ _ _ us hl => match us, hl with | [_, _, _], _ => rfl) rfl (by decide)
theorem o_look_case (X : K.In h) (G : h.Ns mainGlobals mg) (c : He.SaysD [] fn K) (q : ckW K = true) : DefOk P w K mg base g T 26 "look_case" 4 .pos :=
  mk_pos (c.def_ 13 (d := d_look_case) rfl) (glo_all X G q (by decide +kernel)) f_look_case (by decide) k_look_case (fun _ _ _ _ _ _ us hl => match us, hl with | [_, _, _, _], _ => rfl) rfl (by decide)
theorem o_let_at (X : K.In h) (G : h.Ns mainGlobals mg) (c : He.SaysD [] fn K) (q : ckW K = true) : DefOk P w K mg base g T 30 "let_at" 4 .pos :=
  mk_pos (c.def_ 14 (d := d_let_at) rfl) (glo_all X G q (by decide +kernel)) f_let_at (by decide) k_let_at (fun _ _ _ _ _ _ us hl => match us, hl with | [_, _, _, _], _ => rfl) rfl (by decide)
theorem o_led (X : K.In h) (G : h.Ns mainGlobals mg) (c : He.SaysD [] fn K) (q : ckW K = true) : DefOk P w K mg base g T 31 "led" 3 .pos :=
  mk_pos (c.def_ 15 (d := d_led) rfl) (glo_all X G q (by decide +kernel)) f_led (by decide) k_led (fun _ _ _ _ _ _ us hl => match us, hl with | [_, _, _], _ => rfl) rfl (by decide)
theorem o_ahead_lots (X : K.In h) (G : h.Ns mainGlobals mg) (c : He.SaysD [] fn K) (q : ckW K = true) : DefOk P w K mg base g T 32 "ahead_lots" 3 .pos :=
  mk_pos (c.def_ 16 (d := d_ahead_lots) rfl) (glo_all X G q (by decide +kernel)) f_ahead_lots (by decide) k_ahead_lots (fun _ _ _ _ _ _ us hl => match us, hl with | [_, _, _], _ => rfl) rfl (by decide)
theorem o_behind_lots (X : K.In h) (G : h.Ns mainGlobals mg) (c : He.SaysD [] fn K) (q : ckW K = true) : DefOk P w K mg base g T 33 "behind_lots" 3 .pos :=
  mk_pos (c.def_ 17 (d := d_behind_lots) rfl) (glo_all X G q (by decide +kernel)) f_behind_lots (by decide) k_behind_lots (fun _ _ _ _ _ _ us hl => match us, hl with | [_, _, _], _ => rfl) rfl (by decide)
theorem o_met_lots (X : K.In h) (G : h.Ns mainGlobals mg) (c : He.SaysD [] fn K) (q : ckW K = true) : DefOk P w K mg base g T 34 "met_lots" 3 .pos :=
  mk_pos (c.def_ 18 (d := d_met_lots) rfl) (glo_all X G q (by decide +kernel)) f_met_lots (by decide) k_met_lots (fun _ _ _ _ _ _ us hl => match us, hl with | [_, _, _], _ => rfl) rfl (by decide)
theorem o_look_wish (X : K.In h) (G : h.Ns mainGlobals mg) (c : He.SaysD [] fn K) (q : ckW K = true) : DefOk P w K mg base g T 100 "look_wish" 5 .pos :=
  mk_pos (c.def_ 19 (d := d_look_wish) rfl) (glo_all X G q (by decide +kernel)) f_look_wish (by decide) k_look_wish (fun _ _ _ _ _ _ us hl => match us, hl with | [_, _, _, _, _], _ => rfl) rfl (by decide)
theorem o_lots_of (X : K.In h) (G : h.Ns mainGlobals mg) (c : He.SaysD [] fn K) (q : ckW K = true) : DefOk P w K mg base g T 101 "lots_of" 2 .pos :=
  mk_pos (c.def_ 20 (d := d_lots_of) rfl) (glo_all X G q (by decide +kernel)) f_lots_of (by decide) k_lots_of (fun _ _ _ _ _ _ us hl => match us, hl with | [_, _], _ => rfl) rfl (by decide)
theorem o_bars (X : K.In h) (G : h.Ns mainGlobals mg) (c : He.SaysD [] fn K) (q : ckW K = true) : DefOk P w K mg base g T 102 "bars" 5 .pos :=
  mk_pos (c.def_ 21 (d := d_bars) rfl) (glo_all X G q (by decide +kernel)) f_bars (by decide) k_bars (fun _ _ _ _ _ _ us hl => match us, hl with | [_, _, _, _, _], _ => rfl) rfl (by decide)
theorem o_core_of (X : K.In h) (G : h.Ns mainGlobals mg) (c : He.SaysD [] fn K) (q : ckW K = true) : DefOk P w K mg base g T 103 "core_of" 5 .pos :=
  mk_pos (c.def_ 22 (d := d_core_of) rfl) (glo_all X G q (by decide +kernel)) f_core_of (by decide) k_core_of (fun _ _ _ _ _ _ us hl => match us, hl with | [_, _, _, _, _], _ => rfl) rfl (by decide)
theorem o_core (X : K.In h) (G : h.Ns mainGlobals mg) (c : He.SaysD [] fn K) (q : ckW K = true) : DefOk P w K mg base g T 104 "core" 5 .kw :=
  mk_kw (n := 4) (c.def_ 23 (d := d_core) rfl) (glo_all X G q (by decide +kernel)) (emp_all q (by decide +kernel)) f_core (by decide) k_core (fun _ _ _ _ _ _ us ws l1 l2 => match us, ws, l1, l2 with | [_, _, _, _], [_], _, _ => ⟨_, _, _, _, _, _, rfl, rfl, rfl⟩) (fun _ _ _ _ _ _ us ws l1 l2 => match us, ws, l1, l2 with | [_, _, _, _], [_], _, _ => rfl) rfl rfl (by decide)
theorem o_needed (X : K.In h) (G : h.Ns mainGlobals mg) (c : He.SaysD [] fn K) (q : ckW K = true) : DefOk P w K mg base g T 105 "needed" 5 .kw :=
  mk_kw (n := 4) (c.def_ 24 (d := d_needed) rfl) (glo_all X G q (by decide +kernel)) (emp_all q (by decide +kernel)) f_needed (by decide) k_needed (fun _ _ _ _ _ _ us ws l1 l2 => match us, ws, l1, l2 with | [_, _, _, _], [_], _, _ => ⟨_, _, _, _, _, _, rfl, rfl, rfl⟩) (fun _ _ _ _ _ _ us ws l1 l2 => match us, ws, l1, l2 with | [_, _, _, _], [_], _, _ => rfl) rfl rfl (by decide)
theorem o__law_draw (X : K.In h) (G : h.Ns mainGlobals mg) (c : He.SaysD [] fn K) (q : ckW K = true) : DefOk P w K mg base g T 13 "_law_draw" 2 .pos :=
  mk_draw (c.def_ 25 (d := d__law_draw) rfl) (glo_all X G q (by decide +kernel)) ⟨rfl, rfl, rfl, by decide +kernel, rfl, by decide +kernel, by decide +kernel⟩ (by decide +kernel) (fun C => draw_pss C (by decide +kernel)) (fun _ _ _ _ _ _ us hl => match us, hl with | [_, _], _ => rfl) rfl (by decide)
theorem o__law_pick (X : K.In h) (G : h.Ns mainGlobals mg) (c : He.SaysD [] fn K) (q : ckW K = true) : DefOk P w K mg base g T 14 "_law_pick" 2 .pos :=
  mk_pos (c.def_ 26 (d := d__law_pick) rfl) (glo_all X G q (by decide +kernel)) f__law_pick (by decide) k__law_pick (fun _ _ _ _ _ _ us hl => match us, hl with | [_, _], _ => rfl) rfl (by decide)
theorem o__law_refusal (X : K.In h) (G : h.Ns mainGlobals mg) (c : He.SaysD [] fn K) (q : ckW K = true) : DefOk P w K mg base g T 42 "_law_refusal" 1 .pos :=
  mk_pos (c.def_ 27 (d := d__law_refusal) rfl) (glo_all X G q (by decide +kernel)) f__law_refusal (by decide) k__law_refusal (fun _ _ _ _ _ _ us hl => match us, hl with | [_], _ => rfl) rfl (by decide)
theorem o__law_house (X : K.In h) (G : h.Ns mainGlobals mg) (c : He.SaysD [] fn K) (q : ckW K = true) : DefOk P w K mg base g T 16 "_law_house" 3 .pos :=
  mk_pos (c.def_ 28 (d := d__law_house) rfl) (glo_all X G q (by decide +kernel)) f__law_house (by decide) k__law_house (fun _ _ _ _ _ _ us hl => match us, hl with | [_, _, _], _ => rfl) rfl (by decide)
theorem o__law_side (X : K.In h) (G : h.Ns mainGlobals mg) (c : He.SaysD [] fn K) (q : ckW K = true) : DefOk P w K mg base g T 17 "_law_side" 3 .pos :=
  mk_pos (c.def_ 29 (d := d__law_side) rfl) (glo_all X G q (by decide +kernel)) f__law_side (by decide) k__law_side (fun _ _ _ _ _ _ us hl => match us, hl with | [_, _, _], _ => rfl) rfl (by decide)
theorem o__law_so (X : K.In h) (G : h.Ns mainGlobals mg) (c : He.SaysD [] fn K) (q : ckW K = true) : DefOk P w K mg base g T 18 "_law_so" 3 .pos :=
  mk_pos (c.def_ 30 (d := d__law_so) rfl) (glo_all X G q (by decide +kernel)) f__law_so (by decide) k__law_so (fun _ _ _ _ _ _ us hl => match us, hl with | [_, _, _], _ => rfl) rfl (by decide)
theorem o__law_stands (X : K.In h) (G : h.Ns mainGlobals mg) (c : He.SaysD [] fn K) (q : ckW K = true) : DefOk P w K mg base g T 43 "_law_stands" 2 .pos :=
  mk_pos (c.def_ 31 (d := d__law_stands) rfl) (glo_all X G q (by decide +kernel)) f__law_stands (by decide) k__law_stands (fun _ _ _ _ _ _ us hl => match us, hl with | [_, _], _ => rfl) rfl (by decide)
theorem o__law_steps (X : K.In h) (G : h.Ns mainGlobals mg) (c : He.SaysD [] fn K) (q : ckW K = true) : DefOk P w K mg base g T 44 "_law_steps" 3 .pos :=
  mk_pos (c.def_ 32 (d := d__law_steps) rfl) (glo_all X G q (by decide +kernel)) f__law_steps (by decide) k__law_steps (fun _ _ _ _ _ _ us hl => match us, hl with | [_, _, _], _ => rfl) rfl (by decide)
theorem o__law_lots (X : K.In h) (G : h.Ns mainGlobals mg) (c : He.SaysD [] fn K) (q : ckW K = true) : DefOk P w K mg base g T 46 "_law_lots" 3 .pos :=
  mk_pos (c.def_ 33 (d := d__law_lots) rfl) (glo_all X G q (by decide +kernel)) f__law_lots (by decide) k__law_lots (fun _ _ _ _ _ _ us hl => match us, hl with | [_, _, _], _ => rfl) rfl (by decide)
theorem o__law_walk (X : K.In h) (G : h.Ns mainGlobals mg) (c : He.SaysD [] fn K) (q : ckW K = true) : DefOk P w K mg base g T 48 "_law_walk" 3 .pos :=
  mk_pos (c.def_ 34 (d := d__law_walk) rfl) (glo_all X G q (by decide +kernel)) f__law_walk (by decide) k__law_walk (fun _ _ _ _ _ _ us hl => match us, hl with | [_, _, _], _ => rfl) rfl (by decide)
theorem o__law_claim (X : K.In h) (G : h.Ns mainGlobals mg) (c : He.SaysD [] fn K) (q : ckW K = true) : DefOk P w K mg base g T 19 "_law_claim" 3 .pos :=
  mk_pos (c.def_ 35 (d := d__law_claim) rfl) (glo_all X G q (by decide +kernel)) f__law_claim (by decide) k__law_claim (fun _ _ _ _ _ _ us hl => match us, hl with | [_, _, _], _ => rfl) rfl (by decide)
theorem o__law_book (X : K.In h) (G : h.Ns mainGlobals mg) (c : He.SaysD [] fn K) (q : ckW K = true) : DefOk P w K mg base g T 49 "_law_book" 4 .pos :=
  mk_pos (c.def_ 36 (d := d__law_book) rfl) (glo_all X G q (by decide +kernel)) f__law_book (by decide) k__law_book (fun _ _ _ _ _ _ us hl => match us, hl with | [_, _, _, _], _ => rfl) rfl (by decide)
theorem o__law_some (X : K.In h) (G : h.Ns mainGlobals mg) (c : He.SaysD [] fn K) (q : ckW K = true) : DefOk P w K mg base g T 50 "_law_some" 2 .pos :=
  mk_pos (c.def_ 37 (d := d__law_some) rfl) (glo_all X G q (by decide +kernel)) f__law_some (by decide) k__law_some (fun _ _ _ _ _ _ us hl => match us, hl with | [_, _], _ => rfl) rfl (by decide)
theorem o__law_case (X : K.In h) (G : h.Ns mainGlobals mg) (c : He.SaysD [] fn K) (q : ckW K = true) : DefOk P w K mg base g T 51 "_law_case" 2 .pos :=
  mk_pos (c.def_ 38 (d := d__law_case) rfl) (glo_all X G q (by decide +kernel)) f__law_case (by decide) k__law_case (fun _ _ _ _ _ _ us hl => match us, hl with | [_, _], _ => rfl) rfl (by decide)
theorem o__law_told (X : K.In h) (G : h.Ns mainGlobals mg) (c : He.SaysD [] fn K) (q : ckW K = true) : DefOk P w K mg base g T 106 "_law_told" 6 .pos :=
  mk_pos (c.def_ 39 (d := d__law_told) rfl) (glo_all X G q (by decide +kernel)) f__law_told (by decide) k__law_told (fun _ _ _ _ _ _ us hl => match us, hl with | [_, _, _, _, _, _], _ => rfl) rfl (by decide)
theorem o__law_bars (X : K.In h) (G : h.Ns mainGlobals mg) (c : He.SaysD [] fn K) (q : ckW K = true) : DefOk P w K mg base g T 107 "_law_bars" 5 .pos :=
  mk_pos (c.def_ 40 (d := d__law_bars) rfl) (glo_all X G q (by decide +kernel)) f__law_bars (by decide) k__law_bars (fun _ _ _ _ _ _ us hl => match us, hl with | [_, _, _, _, _], _ => rfl) rfl (by decide)
theorem allOk (X : K.In h) (G : h.Ns mainGlobals mg) (c : He.SaysD [] fn K) (q : ckW K = true) : AllG (fun i x np kd => DefOk P w K mg base g T i x np kd) tabG :=
  .cons (o_is_whole X G c q) (.cons (o_are_pairs X G c q) (.cons (o_is_house X G c q) (.cons (o_look_house X G c q) (.cons (o_look_folk X G c q) (.cons (o_open_doors X G c q) (.cons (o_beside X G c q) (.cons (o_stands X G c q) (.cons (o_is_claim X G c q) (.cons (o_holds X G c q) (.cons (o_is_binding X G c q) (.cons (o_book_fits X G c q) (.cons (o_look_book X G c q) (.cons (o_look_case X G c q) (.cons (o_let_at X G c q) (.cons (o_led X G c q) (.cons (o_ahead_lots X G c q) (.cons (o_behind_lots X G c q) (.cons (o_met_lots X G c q) (.cons (o_look_wish X G c q) (.cons (o_lots_of X G c q) (.cons (o_bars X G c q) (.cons (o_core_of X G c q) (.cons (o_core X G c q) (.cons (o_needed X G c q) (.cons (o__law_draw X G c q) (.cons (o__law_pick X G c q) (.cons (o__law_refusal X G c q) (.cons (o__law_house X G c q) (.cons (o__law_side X G c q) (.cons (o__law_so X G c q) (.cons (o__law_stands X G c q) (.cons (o__law_steps X G c q) (.cons (o__law_lots X G c q) (.cons (o__law_walk X G c q) (.cons (o__law_claim X G c q) (.cons (o__law_book X G c q) (.cons (o__law_some X G c q) (.cons (o__law_case X G c q) (.cons (o__law_told X G c q) (.cons (o__law_bars X G c q) (.nil)))))))))))))))))))))))))))))))))))))))))
end
theorem facts {P : Program} {w : World} {K : PySem.W.Frag} {h : Heap} {mg : Str → Option Value} {f : Addr} (run : ∀ ns : List Int, ns.length ≤ 63 → ∃ t, execB (callN T 14) c_law (none :: some (false, tTown) :: List.replicate N_law.length none) ⟨nums0 ns, 0⟩ = .ret (.bool true) t) (X : K.In h) (G : h.Ns mainGlobals mg) (hfa : mg ("law" : Str) = some (.ref f)) (c : He.SaysD [] fn K) (q : ckW K = true) :
    ∃ fd : FuncData, (∀ (s : Shared) (v : Value), BindsTo s fd ⟨[v], []⟩ [("script", v)]) ∧ ∀ base : Heap, K.In base → base.Ns mainGlobals mg → FnOk P w K mg base (L2.CX P w) (14 + 1) f fd ["script"] (spL K) := by
  obtain ⟨fdT, FT⟩ := c.def_ 41 (d := d__law_town) rfl
  obtain ⟨fd, F⟩ := c.def_ 42 (d := d_law) rfl
  have mT : mg ("_law_town" : Str) = some (.ref (He.ga K "_law_town")) := glo_all X G q (by decide +kernel)
  have e := hfa.symm.trans (show mg ("law" : Str) = some (.ref (He.ga K "law")) from glo_all X G q (by decide +kernel))
  cases e
  have b := FunD.bindsA (ps := ["script"]) F fun _ _ _ _ _ _ us hl => match us, hl with | [_], _ => rfl
  have bT : Binds K fdT ["script"] [] := FT.bindsN fun _ _ _ _ _ _ us hl => match us, hl with | [_], _ => rfl
  refine ⟨fd, fun s v => b s [v] rfl, fun base KB GB => ?_⟩
  have ar : ∀ n, Arity g (callN T n) := arity_N (ar_allG (by decide +kernel))
  have Gx := gfx_N (P := P) (w := w) (base := base) (g := g) (T := T) (cls := clsW K) (free_all X G q) (csts_all X G q) (fun aT aN => excF_of X G (ck_exc q) aT aN) ar (fun f x np kd hf => (allOk X G c q).get hf)
  have hl : FnOk P w K mg base (L2.CX P w) 14 (He.ga K "_law_town") fdT ["script"] (spTown K) := town_fn (k := 14 - 1) (free_all X G q _ (by decide +kernel)) FT ⟨rfl, rfl, rfl, by decide +kernel, rfl, by decide +kernel, by decide +kernel⟩ (fun h1 h2 h3 h4 => town_pss h1 h2 h3 h4 (by decide +kernel))
  exact law_fn (rest := restL) (fun aT aN => Gx aT aN 14) (ar 14) F f_law hl FT.kp bT mT (by decide +kernel) rfl k_law run
end Wl
open PySem PySem.W PySem.Calls PyProof.Rows
theorem PySem.Challenge.cw_wherewas_k10_whole_cores_holds : PySem.Challenge.rw_wherewas_k10_whole_cores.Holds := by
  w_on; o_law
  refine HandSHeadRun.head_any (r := OpenLaw.row PySem.Challenge.rw_wherewas_k10_whole_cores) (q := view (OpenLaw.row PySem.Challenge.rw_wherewas_k10_whole_cores).prog [63]) (H := Wl.hk) (ob := Wv.obW 4 [] Wl.fn Wl.ckW) (M := 20000) (loose := Wl.loose) (d := HandSHeadRun.topDef (OpenLaw.row PySem.Challenge.rw_wherewas_k10_whole_cores).prog 63) (kwd := []) Wv.obW_eq
    (by kernel_rfl) (fun s => by kernel_rfl) Wl.run (by kernel_rfl) (by kernel_rfl) (by kernel_rfl) (by rfl) (by first | assumption | decide +kernel) (by decide +kernel) ⟨rfl, rfl, rfl, rfl, rfl, by decide +kernel⟩ ?hw ?hc
  case hw => w_witness2
  case hc =>
    refine L2.walk_ofE (l := PySem.Challenge.rw_wherewas_k10_whole_cores) (n := 63) (k := 15) (x := "script") (CX := Wv.CXU PySem.Challenge.pw_wherewas_k10_whole_cores) rfl (by decide) (by kernel_rfl) ⟨rfl, by decide, by decide⟩ ?F (fun _ _ _ _ z => Wv.cxu_no z)
    intro w mg fa h Y G hmg0
    obtain ⟨K, KX, c, q⟩ := Y
    have hmg : mg ("law" : PySem.Str) = some (.ref fa) := by
      have e : (HandSHeadRun.topDef (OpenLaw.row PySem.Challenge.rw_wherewas_k10_whole_cores).prog 63).name = ("law" : PySem.Str) := by kernel_rfl
      rw [← e]
      exact hmg0
    obtain ⟨fd, hb, hF⟩ := Wl.facts (P := PySem.Challenge.pw_wherewas_k10_whole_cores) (w := w) Wl.runs KX G hmg c q
    exact ⟨K, fd, Wv.spL K, KX, hb, fun H a ns hl _ hS => ⟨a, ns, rfl, hl, hS, fun _ => rfl⟩, fun base KB GB => Wv.fn_cx (hF base KB GB)⟩
