import PyProof.Rows.All
import Wide.All
import OpenK.AllK
import Wide.FinOn
import HandS.ForMost
import HandS.Walk
import HandS.Comp
import HandS.Nested
import PyProof.Rows.IntBool
import HandS.TupAny
import HandS.TupMul
import HandS.Deep
import HandS.IsInst
import HandS.Sort
import HandS.CallSlots
import HandS.ForExc
import HandS.RaiseMore
import KE.GoesMore
import HandS.Iter
import HandS.Zip
import HandS.Text
import HandS.Property
import KE.KLam
import HandS.Defaults
import HandS.HeadHook1
import HandS.ExcOwn
import KE.KExcSuper
import HandS.ExcInit
import HandS.ExcField
import HandS.Exc
import HandS.TryOnly
import HandS.TryMany
import HandS.ExcIs
import HandS.Conv
import HandS.Style
import KE.KExcIs
import HandS.Words
import HandS.WordsExc
import HandS.Head0
import HandS.Head1
import HandS.Head2
import HandS.HeadEnd
import HandS.HeadHook2
import HandS.HeadHook3
import HandS.HeadHook4
import HandS.HeadWalk
import HandS.EndTab
import KE.KStateDown
import HandS.Ends
import HandS.More
import PySem.Challenge.RW_anykerb_k11_texts_of_plans
set_option Elab.async false
set_option linter.all false
set_option maxRecDepth 100000
/-! A small interpreter over plain data: data, store, code, evaluation. Nothing of the model in it but Str and Key. -/
namespace KI
open PySem

/-! ### code -/
inductive Bop where | add | sub | mul | fdiv | mod | pow
  deriving DecidableEq
inductive Cop where | eq | ne | lt | le | gt | ge | isN | notN | in_ | nin
  deriving DecidableEq
inductive Ty where | int | bool | str | tuple | list
  deriving DecidableEq
inductive Bi where | len | abs | int | str | min1 | max1 | min2 | max2 | all | any | sum | list | tuple | dict | bool
  deriving DecidableEq
inductive Mt where | index | get | split | join | count
  deriving DecidableEq
mutual
inductive Tg where
  | nm (i : Nat)
  | tp (ts : Tgs)
inductive Tgs where
  | nil
  | cons (t : Tg) (ts : Tgs)
end
mutual
/-- an expression -/
inductive Ex where
  | var (i : Nat)
  | con (c : Nat)
  | int (i : Int) | bl (b : Bool) | non | str (s : Str)
  | tup (es : Exs) | lst (es : Exs)
  | dct (ks : List Str) (es : Exs)
  /-- a new list, dict, that may change -/
  | newc (e : Ex)
  | bin (o : Bop) (a b : Ex)
  | neg (a : Ex)
  | cmp (o : Cop) (a b : Ex)
  | chn (o p : Cop) (a b c : Ex)
  | and (a b : Ex) | or (a b : Ex) | not (a : Ex)
  | ite (c a b : Ex)
  | idx (a i : Ex)
  | sli (a : Ex) (lo hi : Oe)
  | call (f : Nat) (es : Exs)
  /-- a call without arguments (no exception comes of it) -/
  | call0 (f : Nat)
  /-- a call whose last argument is a lambda: np parameters, js the slots that it captures, e its body -/
  | callL (f : Nat) (es : Exs) (np : Nat) (js : List Nat) (e : Ex)
  /-- a call of what a slot holds -/
  | callv (i : Nat) (es : Exs)
  /-- a def as a value -/
  | fnv (f : Nat)
  /-- len(set(e)), e a list of ints -/
  | nset (e : Ex)
  /-- list(range(a, b)) -/
  | rngl (a b : Ex)
  | bi (b : Bi) (es : Exs)
  | isi (a : Ex) (t : Ty)
  | mth (m : Mt) (o : Ex) (es : Exs)
  /-- a field, a method's call, a new instance, a property: c the class, g the def -/
  | fld (c : Nat) (f : Str) (o : Ex)
  | mcl (c g : Nat) (m : Str) (o : Ex) (es : Exs)
  | mkn (c g : Nat) (es : Exs)
  | prp (c g : Nat) (m : Str) (o : Ex)
  | lc (own : List Nat) (tg : Tg) (it : It) (c : Oe) (e : Ex)
inductive Exs where
  | nil
  | cons (e : Ex) (es : Exs)
inductive Oe where
  | none
  | some (e : Ex)
/-- what a loop walks -/
inductive It where
  | val (e : Ex) | rng1 (e : Ex) | rng2 (a b : Ex) | enum (e : Ex) | zip (a b : Ex)
end
/-- what a handler returns: isx c a b: a if isinstance(e, C) else b; fld: a field of the exception -/
inductive Hx where
  | str (s : Str) | bl (b : Bool) | non | fld (f : Str) | tup (es : List Hx) | isx (c : Nat) (a b : Hx)
inductive Hb where
  | ret (h : Hx)
  | set (i : Nat) (s : Str)
/-- except C (as n): n the slot -/
structure Hd where
  c : Nat
  n : Option Nat
  b : Hb
mutual
inductive Sx where
  | set (i : Nat) (e : Ex)
  | unp (tg : Tg) (e : Ex)
  | par (i j : Nat) (es : Exs)
  | par3 (i j l : Nat) (es : Exs)
  /-- into a list -/
  | put (o i e : Ex)
  /-- into a dict -/
  | dput (o i e : Ex)
  /-- into a field -/
  | sfd (c : Nat) (f : Str) (o e : Ex)
  | app (i : Nat) (e : Ex)
  /-- a list that is no longer changed (nothing in the text) -/
  | frz (i : Nat)
  | ret (e : Ex)
  | ifs (c : Ex) (a b : Sxs)
  | for_ (tg : Tg) (it : It) (b : Sxs)
  | whl (c : Ex) (b : Sxs)
  | exp (e : Ex)
  /-- raise C("..") -/
  | rai (c : Nat)
  /-- raise C(e) of a class with a field -/
  | raiF (c : Nat) (f : Str) (e : Ex)
  | try_ (b : Sxs) (hs : List Hd)
  | nev
inductive Sxs where
  | nil
  | cons (s : Sx) (ss : Sxs)
end
abbrev Key := L2.Key
/-- plain data. cell: an object that may change (it stands in the store); ro: a list that is only read -/
inductive D where
  | non | bl (b : Bool) | int (i : Int) | str (s : Str)
  | tup (xs : List D) | lst (xs : List D) | dic (kvs : List (Key × D)) | ro (xs : List D)
  | cell (n : Nat)
  /-- a def; a lambda: np parameters, its body, what it has captured -/
  | fn (i : Nat) | clo (np : Nat) (e : Ex) (caps : List D)
instance : Inhabited D := ⟨.non⟩
/-- what stands in the store -/
inductive Ob where
  | lst (xs : List D) | dct (kvs : List (Key × D)) | ins (c : Nat) (fs : List (Str × D)) | dead
abbrev Sto := List Ob
/-- an exception: its class (a number that the texts fix), what it holds -/
structure Xn where
  cls : Nat
  fs : List (Str × D)
inductive Res (α : Type) where
  | ok (a : α) (S : Sto) | exc (x : Xn) (S : Sto) | no
@[reducible, simp] def Res.bind {α β : Type} (r : Res α) (f : α → Sto → Res β) : Res β := match r with
  | .ok a S => f a S
  | .exc x S => .exc x S
  | .no => .no
/-- a partial value as a result -/
@[reducible, simp] def lift {α : Type} (o : Option α) (S : Sto) : Res α := match o with
  | some a => .ok a S
  | none => .no

/-! ### no cells within -/
mutual
def D.pure : D → Bool
  | .non | .bl _ | .int _ | .str _ => true
  | .tup xs | .lst xs => pureL xs
  | .dic kvs => pureK kvs
  | .ro xs => pureL xs
  | .cell _ => false
  | .fn _ => true
  | .clo _ _ cs => pureL cs
def pureL : List D → Bool
  | [] => true
  | x :: xs => x.pure && pureL xs
def pureK : List (Key × D) → Bool
  | [] => true
  | (_, x) :: xs => x.pure && pureK xs
end

/-! ### no lambdas within -/
mutual
def D.cf : D → Bool
  | .non | .bl _ | .int _ | .str _ | .cell _ | .fn _ => true
  | .tup xs | .lst xs => cfL xs
  | .dic kvs => cfK kvs
  | .ro xs => cfL xs
  | .clo _ _ _ => false
def cfL : List D → Bool
  | [] => true
  | x :: xs => x.cf && cfL xs
def cfK : List (Key × D) → Bool
  | [] => true
  | (_, x) :: xs => x.cf && cfK xs
end
def Ob.cf : Ob → Bool
  | .lst xs => cfL xs
  | .dct kvs => cfK kvs
  | .ins _ fs => cfL (fs.map (·.2))
  | .dead => true
def stoCf (S : Sto) : Bool := S.all Ob.cf

/-! ### equality of data, its depth -/
mutual
def eqD : D → D → Bool
  | .non, .non => true
  | .bl a, .bl b => a == b
  | .bl a, .int j => (if a then 1 else 0) == j
  | .int i, .bl b => i == (if b then 1 else 0)
  | .int i, .int j => i == j
  | .str x, .str y => x == y
  | .lst xs, .lst ys => eqL xs ys
  | .tup xs, .tup ys => eqL xs ys
  | _, _ => false
def eqL : List D → List D → Bool
  | [], [] => true
  | x :: xs, y :: ys => eqD x y && eqL xs ys
  | _, _ => false
end
mutual
/-- may be compared: none, a bool, an int, a text, tuples and lists of such, at most k deep -/
def shp : Nat → D → Bool
  | _, .non | _, .bl _ | _, .int _ => true
  | _, .str x => x.cps.all (· < 0x110000)
  | k + 1, .tup xs => shpL k xs
  | k + 1, .lst xs => shpL k xs
  | _, _ => false
def shpL : Nat → List D → Bool
  | _, [] => true
  | k, x :: xs => shp k x && shpL k xs
end

/-! ### operators -/
/-- the longest list -/
@[simp] abbrev LN : Nat := 16777216
def mulOk (i j : Int) : Bool := decide (-(2 ^ 64) < i ∧ i < 2 ^ 64) || decide (-(2 ^ 64) < j ∧ j < 2 ^ 64)
def rep (k : Int) (xs : List D) : List D := (List.replicate k.toNat xs).flatten
def binD : Bop → D → D → Option D
  | .add, .int i, .int j => some (.int (i + j))
  | .add, .bl k, .int j => some (.int ((if k = true then (1 : Int) else 0) + j))
  | .add, .str a, .str b => if a.length + b.length ≤ LN then some (.str (a ++ b)) else none
  | .add, .tup a, .tup b => if a.length + b.length ≤ LN then some (.tup (a ++ b)) else none
  | .add, .lst a, .lst b => if a.length + b.length ≤ LN then some (.lst (a ++ b)) else none
  | .sub, .int i, .int j => some (.int (i - j))
  | .mul, .int i, .int j => if mulOk i j then some (.int (i * j)) else none
  | .mul, .str a, .int k => if 2 ≤ k ∧ k ≤ 1000 ∧ 1 ≤ a.length ∧ a.length ≤ 1000 then some (.str (PySem.Txt.mul a k)) else none
  | .mul, .lst a, .int k => if -(2 ^ 63) ≤ k ∧ k < 2 ^ 63 ∧ a.length * k.toNat ≤ LN then some (.lst (rep k a)) else none
  | .mul, .tup a, .int k => if a.length ≠ 0 ∧ 2 ≤ k ∧ k ≤ 1000 ∧ a.length ≤ 1000 then some (.tup (rep k a)) else none
  | .fdiv, .int i, .int j => if j ≠ 0 ∧ j.natAbs < 1073741824 then some (.int (i.fdiv j)) else none
  | .mod, .int i, .int j => if j ≠ 0 then some (.int (i.fmod j)) else none
  | .pow, .int i, .int j => if 0 ≤ j ∧ j ≤ 1000000 ∧ i.natAbs < 2 ^ 64 then some (.int (i ^ j.toNat)) else none
  | _, _, _ => none
@[simp] def items : D → Option (List D)
  | .tup xs => some xs
  | .lst xs => some xs
  | _ => none
def isNon : D → Bool
  | .non => true
  | _ => false
def cmpD : Cop → D → D → Option Bool
  | .eq, x, y => if shp 64 x && shp 64 y then some (eqD x y) else none
  | .ne, x, y => if shp 64 x && shp 64 y then some (!eqD x y) else none
  | .lt, .int i, .int j => some (decide (i < j))
  | .le, .int i, .int j => some (decide (i ≤ j))
  | .gt, .int i, .int j => some (decide (j < i))
  | .ge, .int i, .int j => some (decide (j ≤ i))
  | .isN, x, .non => some (isNon x)
  | .notN, x, .non => some (!isNon x)
  | .in_, x, c => match items c with
    | some xs => if shp 64 x && shpL 63 xs then some (xs.any fun y => eqD y x) else none
    | none => none
  | .nin, x, c => match items c with
    | some xs => if shp 64 x && shpL 63 xs then some (!xs.any fun y => eqD y x) else none
    | none => none
  | _, _, _ => none

/-! ### subscripts -/
def dicGet (kvs : List (Key × D)) (k : Key) : Option D := (kvs.find? fun kv => decide (kv.1 = k)).map (·.2)
def dicPut (kvs : List (Key × D)) (k : Key) (d : D) : List (Key × D) := bif kvs.any fun kv => decide (kv.1 = k) then kvs.map (fun kv => if kv.1 = k then (kv.1, d) else kv) else kvs ++ [(k, d)]
def keyOf : D → Option Key
  | .int i => some (.inl i)
  | .str s => some (.inr s)
  | _ => none
def idxD (S : Sto) : D → D → Option D
  | .tup xs, .int i => L2.atI xs i
  | .lst xs, .int i => L2.atI xs i
  | .ro xs, .int i => L2.atI xs i
  | .dic kvs, k => (keyOf k).bind fun k => dicGet kvs k
  | .cell n, k => match S[n]? with
    | some (.lst xs) => match k with
      | .int i => L2.atI xs i
      | _ => none
    | some (.dct kvs) => (keyOf k).bind fun k => dicGet kvs k
    | _ => none
  | _, _ => none
/-- xs[lo:hi] -/
def cut {α : Type} (xs : List α) (lo hi : Option Int) : List α := (xs.drop (HT.sIx xs.length 0 lo)).take (HT.sIx xs.length xs.length hi - HT.sIx xs.length 0 lo)
def cutD (d : D) (lo hi : Option Int) : Option D := match d with
  | .tup xs => some (.tup (cut xs lo hi))
  | .lst xs => some (.lst (cut xs lo hi))
  | .str z => if z.length ≤ LN then some (.str (L2.cutS z lo hi)) else none
  | _ => none

/-! ### types, built-in functions, methods -/
def isTy : Ty → D → Option Bool
  | _, .cell _ => none
  | _, .dic _ => none
  | _, .fn _ => none
  | _, .clo _ _ _ => none
  | .int, .int _ => some true
  | .int, .bl _ => some true
  | .bool, .bl _ => some true
  | .str, .str _ => some true
  | .tuple, .tup _ => some true
  | .list, .lst _ => some true
  | .list, .ro _ => some true
  | _, _ => some false
def intsD : List D → Option (List Int)
  | [] => some []
  | .int i :: r => (intsD r).map (i :: ·)
  | _ :: _ => none
def boolsD : List D → Option (List Bool)
  | [] => some []
  | .bl b :: r => (boolsD r).map (b :: ·)
  | _ :: _ => none
def minL : Int → List Int → Int
  | m, [] => m
  | m, x :: xs => minL (if x < m then x else m) xs
def maxL : Int → List Int → Int
  | m, [] => m
  | m, x :: xs => maxL (if x > m then x else m) xs
def pairsOf : List D → Option (List (Key × D))
  | [] => some []
  | .tup [k, v] :: r => (keyOf k).bind fun k => (pairsOf r).map ((k, v) :: ·)
  | _ :: _ => none
def mergeD : List (Key × D) → List (Key × D) → List (Key × D)
  | acc, [] => acc
  | acc, (k, v) :: r => mergeD (dicPut acc k v) r
def biD (S : Sto) : Bi → List D → Option D
  | .len, [.tup xs] => some (.int xs.length)
  | .len, [.lst xs] => some (.int xs.length)
  | .len, [.ro xs] => some (.int xs.length)
  | .len, [.str s] => if s.length ≤ LN then some (.int s.length) else none
  | .abs, [.int i] => some (.int (if i < 0 then -i else i))
  | .int, [.int i] => some (.int i)
  | .int, [.bl b] => some (.int (if b then 1 else 0))
  | .int, [.str s] => if s.length ≤ 640 then (PySem.intText? s).map .int else none
  | .bool, [.bl b] => some (.bl b)
  | .str, [.str s] => some (.str s)
  | .str, [.int i] => if i.natAbs.log2 < 1920 then some (.str (toString i)) else none
  | .min1, [.lst xs] => match intsD xs with
    | some (m :: r) => some (.int (minL m r))
    | _ => none
  | .max1, [.lst xs] => match intsD xs with
    | some (m :: r) => some (.int (maxL m r))
    | _ => none
  | .min2, [.int i, .int j] => some (.int (if j < i then j else i))
  | .max2, [.int i, .int j] => some (.int (if j > i then j else i))
  | .all, [.lst xs] => (boolsD xs).map fun bs => .bl (bs.all id)
  | .any, [.lst xs] => (boolsD xs).map fun bs => .bl (bs.any id)
  | .sum, [.lst xs] => (intsD xs).map fun ns => .int ns.sum
  | .list, [.lst xs] => some (.lst xs)
  | .list, [.tup xs] => some (.lst xs)
  | .tuple, [.lst xs] => some (.tup xs)
  | .tuple, [.tup xs] => some (.tup xs)
  | .dict, [.lst xs] => (pairsOf xs).map fun ps => .dic (mergeD [] ps)
  | _, _ => none
def findIx : Nat → List D → D → Option Nat
  | _, [], _ => none
  | n, y :: ys, x => if eqD y x then some n else findIx (n + 1) ys x
/-- the object has the method -/
def mtOk : Mt → D → Bool
  | .index, .lst _ | .count, .lst _ | .get, .dic _ | .split, .str _ | .join, .str _ => true
  | _, _ => false
/-- how many arguments it takes -/
def mtN : Mt → Nat
  | .get => 2
  | _ => 1
def strsD : List D → Option (List Str)
  | [] => some []
  | .str s :: r => (strsD r).map (s :: ·)
  | _ :: _ => none
def mtD (S : Sto) : Mt → D → List D → Option D
  | .split, .str a, [.str b] => if (b.length == 0) = false ∧ a.length + 2 ≤ LN then some (.lst ((PySem.Txt.split a b).map .str)) else none
  | .join, .str a, [.lst xs] => match strsD xs with
    | some ys => if (ys.map (·.length)).sum + ys.length * a.length ≤ 16777216 then some (.str (PySem.Txt.join a ys)) else none
    | none => none
  | .index, .lst xs, [x] => if shp 64 x && shpL 63 xs then (findIx 0 xs x).map fun (n : Nat) => .int n else none
  | .count, .lst xs, [x] => if shp 64 x && shpL 63 xs then some (.int (xs.countP fun y => eqD y x : Nat)) else none
  | .get, .dic kvs, [k, z] => (keyOf k).map fun k => (dicGet kvs k).getD z
  | _, _, _ => none

abbrev Env := List (Option D)
/-- what is called: a def of the table, a lambda's body (its captured values stand behind its arguments) -/
inductive Fn where
  | glo (f : Nat) | lam (e : Ex)
abbrev Call := Fn → List D → Sto → Res D
def isFn : D → Bool
  | .fn _ => true
  | .clo _ _ _ => true
  | _ => false
/-- a function value called -/
@[simp] def app (call : Call) : D → List D → Sto → Res D
  | .fn i, ds, S => call (.glo i) ds S
  | .clo np e cs, ds, S => if ds.length = np ∧ cfL ds = true ∧ stoCf S = true then call (.lam e) (ds ++ cs) S else .no
  | _, _, _ => .no
/-- the slots' values -/
@[simp] def grab (ρ : Env) : List Nat → Option (List D)
  | [] => some []
  | j :: js => match ρ[j]? with
    | some (some d) => (grab ρ js).map (d :: ·)
    | _ => none
/-- behind a call that was handed a lambda: no lambda is left -/
def kept (r : Res D) : Res D := match r with
  | .ok v S' => if v.cf = true ∧ stoCf S' = true then .ok v S' else .no
  | _ => .no

mutual
@[simp] def bindT : Tg → D → Env → Option Env
  | .nm i, d, ρ => some (ρ.set i (some d))
  | .tp ts, d, ρ => match d with
    | .tup xs => bindTs ts xs ρ
    | .lst xs => bindTs ts xs ρ
    | _ => none
@[simp] def bindTs : Tgs → List D → Env → Option Env
  | .nil, [], ρ => some ρ
  | .cons t ts, x :: xs, ρ => match bindT t x ρ with
    | some ρ' => bindTs ts xs ρ'
    | none => none
  | _, _, _ => none
end
mutual
/-- the slots that a target sets -/
def slotsT : Tg → List Nat
  | .nm i => [i]
  | .tp ts => slotsTs ts
def slotsTs : Tgs → List Nat
  | .nil => []
  | .cons t ts => slotsT t ++ slotsTs ts
end
@[simp] def wipeE (ρ : Env) : List Nat → Env
  | [] => ρ
  | v :: vs => (wipeE ρ vs).set v none
/-- lo, lo + 1, ..: n of them -/
def rngL (lo : Int) : Nat → List D
  | 0 => []
  | n + 1 => .int lo :: rngL (lo + 1) n
def enumL : Nat → List D → List D
  | _, [] => []
  | n, x :: xs => .tup [.int (n : Int), x] :: enumL (n + 1) xs
def zipL : List D → List D → List D
  | x :: xs, y :: ys => .tup [x, y] :: zipL xs ys
  | _, _ => []
/-- (the kernel must not count down from 2 ** 62) -/
def rngOk (i : Int) : Bool := decide (i.natAbs < 4611686018427387904)
theorem rngOk_ok {i : Int} (h : rngOk i = true) : -(2 ^ 62) ≤ i ∧ i < 2 ^ 62 := by
  have := of_decide_eq_true h
  omega
theorem rngOk_of {i : Int} (h1 : -4611686018427387904 < i) (h2 : i < 4611686018427387904) : rngOk i = true := decide_eq_true (by omega)
/-- no exception is let through -/
@[reducible, simp] def shut {α : Type} (r : Res α) : Res α := match r with
  | .ok a S => .ok a S
  | _ => .no
def boolD : D → Option Bool
  | .bl b => some b
  | _ => none
/-- a field of an instance of the class -/
def fldD (S : Sto) (c : Nat) (f : Str) : D → Option D
  | .cell n => match S[n]? with
    | some (.ins c' fs) => if c' = c then fs.lookup f else none
    | _ => none
  | _ => none
def putD (f : Str) (v : D) : List (Str × D) → List (Str × D)
  | [] => [(f, v)]
  | (g, x) :: r => if g = f then (g, v) :: r else (g, x) :: putD f v r
/-- an instance's fields behind a store -/
def sfdD (S : Sto) (c : Nat) (f : Str) (v : D) : D → Option (Nat × List (Str × D))
  | .cell n => match S[n]? with
    | some (.ins c' fs) => if c' = c ∧ fs.length < 1000 then some (n, putD f v fs) else none
    | _ => none
  | _ => none
/-- an instance of the class without a field of the name -/
def insB (S : Sto) (c : Nat) (m : Str) : D → Bool
  | .cell n => match S[n]? with
    | some (.ins c' fs) => decide (c' = c) && (fs.lookup m).isNone
    | _ => false
  | _ => false
/-- the turns of a comprehension -/
def evLc (turn : D → Sto → Res (Option D)) : List D → List D → Sto → Res (List D)
  | [], acc, S => .ok acc S
  | x :: xs, acc, S => match turn x S with
    | .ok (some d) S' => if acc.length < LN then evLc turn xs (acc ++ [d]) S' else .no
    | .ok none S' => evLc turn xs acc S'
    | _ => .no
section
variable (cons : Nat → D) (call : Call)
mutual
def ev : Ex → Env → Sto → Res D
  | .var i, ρ, S => match ρ[i]? with
    | some (some d) => .ok d S
    | _ => .no
  | .con c, _, S => .ok (cons c) S
  | .int i, _, S => .ok (.int i) S
  | .bl b, _, S => .ok (.bl b) S
  | .non, _, S => .ok .non S
  | .str s, _, S => .ok (.str s) S
  | .tup es, ρ, S => (evs es ρ S).bind fun ds S => if ds.length ≤ LN then .ok (.tup ds) S else .no
  | .lst es, ρ, S => (evs es ρ S).bind fun ds S => if ds.length ≤ LN then .ok (.lst ds) S else .no
  | .dct ks es, ρ, S => (evs es ρ S).bind fun ds S => if ds.length = ks.length ∧ ks.length ≤ 15 ∧ ks.length ≠ 0 then .ok (.dic (mergeD [] ((ks.map Sum.inr).zip ds))) S else .no
  | .newc e, ρ, S => (ev e ρ S).bind fun d S => match d with
    | .lst xs => .ok (.cell S.length) (S ++ [.lst xs])
    | .dic kvs => .ok (.cell S.length) (S ++ [.dct kvs])
    | _ => .no
  | .bin o a b, ρ, S => (ev a ρ S).bind fun x S => (ev b ρ S).bind fun y S => lift (binD o x y) S
  | .neg a, ρ, S => (ev a ρ S).bind fun x S => match x with
    | .int i => .ok (.int (-i)) S
    | _ => .no
  | .cmp o a b, ρ, S => (ev a ρ S).bind fun x S => (ev b ρ S).bind fun y S => lift ((cmpD o x y).map .bl) S
  | .chn o p a b c, ρ, S => (ev a ρ S).bind fun x S => (ev b ρ S).bind fun y S => match cmpD o x y with
    | some true => (ev c ρ S).bind fun z S => lift ((cmpD p y z).map .bl) S
    | some false => .ok (.bl false) S
    | none => .no
  | .and a b, ρ, S => (ev a ρ S).bind fun x S => match x with
    | .bl true => ev b ρ S
    | .bl false => .ok (.bl false) S
    | _ => .no
  | .or a b, ρ, S => (ev a ρ S).bind fun x S => match x with
    | .bl false => ev b ρ S
    | .bl true => .ok (.bl true) S
    | _ => .no
  | .not a, ρ, S => (ev a ρ S).bind fun x S => match x with
    | .bl b => .ok (.bl (!b)) S
    | _ => .no
  | .ite c a b, ρ, S => (ev c ρ S).bind fun x S => match x with
    | .bl true => ev a ρ S
    | .bl false => ev b ρ S
    | _ => .no
  | .idx a i, ρ, S => (ev a ρ S).bind fun x S => (ev i ρ S).bind fun y S => lift (idxD S x y) S
  | .sli a lo hi, ρ, S => (ev a ρ S).bind fun x S => (evo lo ρ S).bind fun l S => (evo hi ρ S).bind fun u S => lift (cutD x l u) S
  | .call f es, ρ, S => (evs es ρ S).bind fun ds S => call (.glo f) ds S
  | .call0 f, _, S => shut (call (.glo f) [] S)
  | .callL f es np js e, ρ, S => (evs es ρ S).bind fun ds S => match grab ρ js with
    | some cs => kept (call (.glo f) (ds ++ [.clo np e cs]) S)
    | none => .no
  | .callv i es, ρ, S => match ρ[i]? with
    | some (some d) => if isFn d = true then (evs es ρ S).bind fun ds S => app call d ds S else .no
    | _ => .no
  | .fnv i, _, S => .ok (.fn i) S
  | .nset e, ρ, S => (ev e ρ S).bind fun d S => match d with
    | .lst xs => lift (match intsD xs with
      | some ns => if ns.Nodup ∧ ns.length ≤ 4000 then some (.int ns.length) else none
      | none => none) S
    | _ => .no
  | .rngl a b, ρ, S => (ev a ρ S).bind fun x S => (ev b ρ S).bind fun y S => match x, y with
    | .int i, .int j => if rngOk i && rngOk j && decide ((j - i).toNat ≤ LN) then .ok (.lst (rngL i (j - i).toNat)) S else .no
    | _, _ => .no
  | .bi b es, ρ, S => (evs es ρ S).bind fun ds S => lift (biD S b ds) S
  | .isi a t, ρ, S => (ev a ρ S).bind fun x S => lift ((isTy t x).map .bl) S
  | .mth m o es, ρ, S => (ev o ρ S).bind fun x S => if mtOk m x = true then (evs es ρ S).bind fun ds S => lift (mtD S m x ds) S else .no
  | .fld c f o, ρ, S => (ev o ρ S).bind fun x S => lift (fldD S c f x) S
  | .mcl c g m o es, ρ, S => (ev o ρ S).bind fun x S => if insB S c m x = true then (evs es ρ S).bind fun ds S => call (.glo g) (x :: ds) S else .no
  | .mkn c g es, ρ, S => (evs es ρ S).bind fun ds S => (call (.glo g) (.cell S.length :: ds) (S ++ [.ins c []])).bind fun d S' => if isNon d = true then .ok (.cell S.length) S' else .no
  | .prp c g m o, ρ, S => (ev o ρ S).bind fun x S => if insB S c m x = true then shut (call (.glo g) [x] S) else .no
  | .lc own tg it c e, ρ, S => (evi it ρ S).bind fun xs S => (evLc (fun x S => match bindT tg x (wipeE ρ own) with
      | some ρ' => (evc c ρ' S).bind fun b S => bif b then (ev e ρ' S).bind fun d S => .ok (some d) S else .ok none S
      | none => .no) xs [] S).bind fun ds S => .ok (.lst ds) S
@[simp] def evs : Exs → Env → Sto → Res (List D)
  | .nil, _, S => .ok [] S
  | .cons e es, ρ, S => (ev e ρ S).bind fun d S => (evs es ρ S).bind fun ds S => .ok (d :: ds) S
@[simp] def evo : Oe → Env → Sto → Res (Option Int)
  | .none, _, S => .ok none S
  | .some e, ρ, S => (ev e ρ S).bind fun d S => match d with
    | .int i => .ok (some i) S
    | _ => .no
/-- a test, where one stands -/
@[simp] def evc : Oe → Env → Sto → Res Bool
  | .none, _, S => .ok true S
  | .some e, ρ, S => (ev e ρ S).bind fun d S => match d with
    | .bl b => .ok b S
    | _ => .no
@[simp] def evi : It → Env → Sto → Res (List D)
  | .val e, ρ, S => (ev e ρ S).bind fun d S => lift (items d) S
  | .rng1 e, ρ, S => (ev e ρ S).bind fun d S => match d with
    | .int j => if rngOk j then .ok (rngL 0 j.toNat) S else .no
    | _ => .no
  | .rng2 a b, ρ, S => (ev a ρ S).bind fun x S => (ev b ρ S).bind fun y S => match x, y with
    | .int i, .int j => if rngOk i && rngOk j then .ok (rngL i (j - i).toNat) S else .no
    | _, _ => .no
  | .enum e, ρ, S => (ev e ρ S).bind fun d S => lift ((items d).map (enumL 0)) S
  | .zip a b, ρ, S => (ev a ρ S).bind fun x S => (ev b ρ S).bind fun y S => match x, y with
    | .lst xs, .lst ys => .ok (zipL xs ys) S
    | .tup xs, .tup ys => .ok (zipL xs ys) S
    | _, _ => .no
end
end

/-- how a statement ends -/
inductive Fl where
  | nx (ρ : Env) (S : Sto) | rt (d : D) (S : Sto) | exc (x : Xn) (ρ : Env) (S : Sto) | no
@[reducible, simp] def onD {α : Type} (r : Res α) (ρ : Env) (f : α → Sto → Fl) : Fl := match r with
  | .ok d S => f d S
  | .exc x S => .exc x ρ S
  | .no => .no
@[reducible, simp] def Fl.then (r : Fl) (f : Env → Sto → Fl) : Fl := match r with
  | .nx ρ S => f ρ S
  | r => r
/-- the turns of a for -/
def evFor (tg : Tg) (body : Env → Sto → Fl) : List D → Env → Sto → Fl
  | [], ρ, S => .nx ρ S
  | x :: xs, ρ, S => match bindT tg x ρ with
    | some ρ' => (body ρ' S).then fun ρ S => evFor tg body xs ρ S
    | none => .no
/-- the turns of a while, at most so many -/
def evWhl (c : Env → Sto → Res D) (body : Env → Sto → Fl) : Nat → Env → Sto → Fl
  | 0, _, _ => .no
  | n + 1, ρ, S => onD (c ρ S) ρ fun d S => match d with
    | .bl true => (body ρ S).then fun ρ S => evWhl c body n ρ S
    | .bl false => .nx ρ S
    | _ => .no
/-- the exceptions of the program: KerbError is 0, all others are its direct subclasses -/
def subX (x c : Nat) : Bool := decide (x = c) || decide (c = 0)
mutual
/-- what a handler returns, of an exception -/
def hev (x : Xn) : Hx → Option D
  | .str s => some (.str s)
  | .bl b => some (.bl b)
  | .non => some .non
  | .fld f => x.fs.lookup f
  | .tup es => (hevs x es).map .tup
  | .isx c a b => bif subX x.cls c then hev x a else hev x b
def hevs (x : Xn) : List Hx → Option (List D)
  | [] => some []
  | h :: hs => match hev x h with
    | some d => (hevs x hs).map (d :: ·)
    | none => none
end
@[simp] def hbd (x : Xn) : Hb → Env → Sto → Fl
  | .ret h, _, S => match hev x h with
    | some d => .rt d S
    | none => .no
  | .set i s, ρ, S => .nx (ρ.set i (some (.str s))) S
/-- the exception's name has its slot -/
@[simp] def nOk : Option Nat → Env → Bool
  | none, _ => true
  | some i, ρ => decide (i < ρ.length)
@[simp] def hdls : List Hd → Xn → Env → Sto → Fl
  | [], x, ρ, S => .exc x ρ S
  | h :: hs, x, ρ, S => bif subX x.cls h.c then (bif nOk h.n ρ then hbd x h.b ρ S else .no) else hdls hs x ρ S
section
variable (cons : Nat → D) (call : Call) (fuel : Nat)
mutual
def exs : Sx → Env → Sto → Fl
  | .set i e, ρ, S => onD (ev cons call e ρ S) ρ fun d S => .nx (ρ.set i (some d)) S
  | .unp tg e, ρ, S => onD (ev cons call e ρ S) ρ fun d S => match bindT tg d ρ with
    | some ρ' => .nx ρ' S
    | none => .no
  | .par i j es, ρ, S => onD (evs cons call es ρ S) ρ fun ds S => match ds with
    | [x, y] => .nx ((ρ.set i (some x)).set j (some y)) S
    | _ => .no
  | .par3 i j l es, ρ, S => onD (evs cons call es ρ S) ρ fun ds S => match ds with
    | [x, y, z] => .nx (((ρ.set i (some x)).set j (some y)).set l (some z)) S
    | _ => .no
  | .put o i e, ρ, S => onD (ev cons call e ρ S) ρ fun v S => onD (ev cons call o ρ S) ρ fun o S => onD (ev cons call i ρ S) ρ fun i S => match o, i with
    | .cell n, .int k => match S[n]? with
      | some (.lst xs) => match L2.ixN xs.length k with
        | some j => .nx ρ (S.set n (.lst (xs.set j v)))
        | none => .no
      | _ => .no
    | _, _ => .no
  | .sfd c f o e, ρ, S => onD (ev cons call e ρ S) ρ fun v S => onD (ev cons call o ρ S) ρ fun x S => match sfdD S c f v x with
    | some (n, fs) => .nx ρ (S.set n (.ins c fs))
    | none => .no
  | .dput o i e, ρ, S => onD (ev cons call e ρ S) ρ fun v S => onD (ev cons call o ρ S) ρ fun o S => onD (ev cons call i ρ S) ρ fun i S => match o, keyOf i with
    | .cell n, some k => match S[n]? with
      | some (.dct kvs) => if kvs.length < 1000 then .nx ρ (S.set n (.dct (dicPut kvs k v))) else .no
      | _ => .no
    | _, _ => .no
  | .app i e, ρ, S => match ρ[i]? with
    | some (some (.cell n)) => match S[n]? with
      | some (.lst _) => onD (ev cons call e ρ S) ρ fun d S => match S[n]? with
        | some (.lst xs) => if xs.length < LN then .nx ρ (S.set n (.lst (xs ++ [d]))) else .no
        | _ => .no
      | _ => .no
    | _ => .no
  | .frz i, ρ, S => match ρ[i]? with
    | some (some (.cell n)) => match S[n]? with
      | some (.lst xs) => .nx (ρ.set i (some (.lst xs))) (S.set n .dead)
      | _ => .no
    | _ => .no
  | .ret e, ρ, S => onD (ev cons call e ρ S) ρ fun d S => .rt d S
  | .ifs c a b, ρ, S => onD (ev cons call c ρ S) ρ fun d S => match d with
    | .bl true => exss a ρ S
    | .bl false => exss b ρ S
    | _ => .no
  | .for_ tg it b, ρ, S => onD (evi cons call it ρ S) ρ fun xs S => evFor tg (exss b) xs ρ S
  | .whl c b, ρ, S => evWhl (ev cons call c) (exss b) fuel ρ S
  | .exp e, ρ, S => onD (ev cons call e ρ S) ρ fun _ S => .nx ρ S
  | .rai c, ρ, S => .exc ⟨c, []⟩ ρ S
  | .raiF c f e, ρ, S => onD (ev cons call e ρ S) ρ fun d S => .exc ⟨c, [(f, d)]⟩ ρ S
  | .try_ b hs, ρ, S => match exss b ρ S with
    | .exc x ρ' S' => hdls hs x ρ' S'
    | r => r
  | .nev, _, _ => .no
def exss : Sxs → Env → Sto → Fl
  | .nil, ρ, S => .nx ρ S
  | .cons s ss, ρ, S => (exs s ρ S).then fun ρ S => exss ss ρ S
end
end
/-- a def -/
structure Def where
  name : Str
  /-- its names by slot, the parameters first -/
  N : List Str
  nps : Nat
  body : Sxs
  /-- it is run in a store of its own -/
  reg : Bool := false
def callN (cons : Nat → D) (T : Nat → Option Def) (fuel : Nat) : Nat → Call
  | 0, _, _, _ => .no
  | k + 1, .lam e, ds, S => ev cons (callN cons T fuel k) e (ds.map some) S
  | k + 1, .glo f, ds, S => match T f with
    | none => .no
    | some d => if ds.length = d.nps ∧ d.nps ≤ d.N.length then
        (match d.reg with
        | false => (match exss cons (callN cons T fuel k) fuel d.body (ds.map some ++ List.replicate (d.N.length - d.nps) none) S with
          | .nx _ S' => .ok .non S'
          | .rt v S' => .ok v S'
          | .exc x _ S' => .exc x S'
          | .no => .no)
        | true => if pureL ds then
            (match exss cons (callN cons T fuel k) fuel d.body (ds.map some ++ List.replicate (d.N.length - d.nps) none) [] with
            | .nx _ _ => .ok .non S
            | .rt v _ => if v.pure then .ok v S else .no
            | .exc x _ _ => if pureL (x.fs.map (·.2)) then .exc x S else .no
            | .no => .no) else .no)
      else .no
end KI


set_option Elab.async false
set_option linter.all false
set_option maxRecDepth 100000
set_option autoImplicit false
/-! The checker: the code is the text's. -/
namespace KI
open PySem PySem.Spec PyProof.Rows L2

def opOf : Bop → Operator
  | .add => .Add | .sub => .Sub | .mul => .Mult | .fdiv => .FloorDiv | .mod => .Mod | .pow => .Pow
def copOf : Cop → CmpOp
  | .eq => .Eq | .ne => .NotEq | .lt => .Lt | .le => .LtE | .gt => .Gt | .ge => .GtE | .isN => .Is | .notN => .IsNot | .in_ => .In | .nin => .NotIn
def notStar : Expr → Bool
  | .Starred _ _ => false
  | _ => true
def biId : Bi → String
  | .len => "len" | .abs => "abs" | .int => "int" | .str => "str" | .min1 => "min" | .max1 => "max" | .min2 => "min" | .max2 => "max" | .all => "all" | .any => "any" | .sum => "sum" | .list => "list" | .tuple => "tuple" | .dict => "dict" | .bool => "bool"
def tyName : Ty → String
  | .int => "int" | .bool => "bool" | .str => "str" | .tuple => "tuple" | .list => "list"
def mtId : Mt → String
  | .index => "index" | .get => "get" | .split => "split" | .join => "join" | .count => "count"
/-- where an expression stands: the def's names by slot, the scope, the scope whose cells are its own -/
structure Cc where
  N : List Str
  sc : Scope
  ss : Scope
  /-- not within an except suite -/
  calm : Bool
  /-- lambdas may be made here -/
  lam : Bool
/-- the names of defs (with how many parameters) and constants -/
structure Tb where
  fn : Nat → Option (Str × Nat)
  cn : Nat → Option Str
  bl : Str → Bool
  xc : Nat → Option Str
  /-- an exception's one field -/
  xf : Nat → Option Str := fun _ => none
  /-- classes: no such attribute; methods: the def, how many arguments; how one is made; properties -/
  na : Nat → Str → Bool := fun _ _ => false
  mt : Nat → Str → Option (Nat × Nat) := fun _ _ => none
  nw : Nat → Option (Str × Nat × Nat) := fun _ => none
  pr : Nat → Str → Option Nat := fun _ _ => none
def visB (sc : Scope) (x : Str) : Bool := match sc.names.lookup x with
  | some .local | some .cell | some .free => true
  | _ => false
def glB (sc : Scope) (x : Str) : Bool := match sc.names.lookup x with
  | some .globalImplicit => true
  | _ => false
def locB (sc ss : Scope) (x : Str) : Bool := match sc.names.lookup x with
  | some .local => true
  | some .cell => (match ss.names.lookup x with
    | some .cell => true
    | _ => false)
  | _ => false
def nmOk (x : Str) : Bool := !(x == ("__debug__" : Str)) && !(x == ("__classdict__" : Str))
def ixB : Expr → Bool
  | .Slice _ _ _ _ => false
  | _ => true
def markB : Expr → Bool
  | .Set _ _ _ => false
  | _ => true
def opB : Operator → Operator → Bool
  | .Add, .Add | .Sub, .Sub | .Mult, .Mult | .FloorDiv, .FloorDiv | .Mod, .Mod | .Pow, .Pow => true
  | _, _ => false
theorem opB_ok {a b : Operator} (h : opB a b = true) : a = b := by
  cases a <;> cases b <;> first | rfl | cases h
def tupX : Expr → Bool
  | .Tuple _ _ _ => true
  | _ => false
/-- no call of super() -/
def attB : Expr → Bool
  | .Call (.Name _ _) [] [] _ => false
  | _ => true
/-- plain parameters of these names -/
def argOk (p : Arguments) (ps : List Str) : Bool := p.posonlyargs.isEmpty && p.vararg.isNone && p.kwonlyargs.isEmpty && p.kwarg.isNone && p.defaults.isEmpty && decide (p.args.map (·.arg) = ps) && decide ps.Nodup
/-- the names of slots -/
def namesOf (N : List Str) : List Nat → Option (List Str)
  | [] => some []
  | j :: js => match N[j]? with
    | some x => (namesOf N js).map (x :: ·)
    | none => none
def keysX : List Str → List (Option Expr) → Bool
  | [], [] => true
  | k :: ks, .some (.Constant (.str s) _ _) :: xs => decide (s = k) && keysX ks xs
  | _, _ => false
def cpB (a b : CmpOp) : Bool := decide (a = b)
def lenEs : Exs → Nat
  | .nil => 0
  | .cons _ es => lenEs es + 1
mutual
def chkG (C : Cc) : Tg → Expr → Bool
  | .nm i, x => (match x with
    | .Name y _ => decide (C.N[i]? = some y) && locB C.sc C.ss y
    | _ => false)
  | .tp ts, x => (match x with
    | .Tuple ys _ _ => C.calm && chkGs C ts ys
    | _ => false)
def chkGs (C : Cc) : Tgs → List Expr → Bool
  | .nil, xs => (match xs with
    | [] => true
    | _ => false)
  | .cons t ts, xs => (match xs with
    | x :: xs => chkG C t x && notStar x && chkGs C ts xs
    | _ => false)
end
/-- of the lambda: its parameters, what it captures, its names -/
def lamB (sc : Scope) (np : Nat) (fr : List Str) (p : Arguments) (scope : Scope) : Bool :=
  p.kw_defaults.isEmpty && argOk p (p.args.map (·.arg)) && decide ((p.args.map (·.arg)).length = np) && NdefX.nscB (p.args.map (·.arg) ++ fr) (p.args.map (·.arg)) fr scope && NdefX.ndefB sc scope fr
mutual
def chkE (T : Tb) (C : Cc) : Ex → Expr → Bool
  | .var i, x => (match x with
    | .Name y _ => decide (C.N[i]? = some y) && visB C.sc y && nmOk y
    | _ => false)
  | .con c, x => (match x with
    | .Name y _ => decide (T.cn c = some y) && glB C.sc y && nmOk y
    | _ => false)
  | .int i, x => (match x with
    | .Constant (.int j) _ _ => decide (j = i)
    | _ => false)
  | .bl i, x => (match x with
    | .Constant (.bool j) _ _ => decide (j = i)
    | _ => false)
  | .non, x => (match x with
    | .Constant .none _ _ => true
    | _ => false)
  | .str i, x => (match x with
    | .Constant (.str j) _ _ => decide (j = i)
    | _ => false)
  | .tup es, x => (match x with
    | .Tuple ys _ _ => chkEs T C es ys
    | _ => false)
  | .lst es, x => (match x with
    | .List ys _ => chkEs T C es ys
    | _ => false)
  | .dct _ _, _ => false
  | .newc e, x => (match e with
    | .lst es => (match x with
      | .List ys _ => chkEs T C es ys
      | _ => false)
    | .dct ks es => (match x with
      | .Dict ys zs _ => keysX ks ys && decide (ks.length = zs.length) && decide (ks.length ≤ 15) && decide (ks ≠ []) && chkEs T C es zs
      | _ => false)
    | _ => false)
  | .bin o a b, x => (match x with
    | .BinOp y p z _ => opB p (opOf o) && chkE T C a y && chkE T C b z
    | _ => false)
  | .neg a, x => (match x with
    | .UnaryOp .USub y _ => chkE T C a y
    | _ => false)
  | .cmp o a b, x => (match x with
    | .Compare y [p] [z] _ => cpB p (copOf o) && chkE T C a y && chkE T C b z && markB z
    | _ => false)
  | .chn o p a b c, x => (match x with
    | .Compare y [o', p'] [z, u] _ => cpB o' (copOf o) && cpB p' (copOf p) && chkE T C a y && chkE T C b z && chkE T C c u && markB u
    | _ => false)
  | .and a b, x => (match x with
    | .BoolOp .And (y :: z :: r) pos => chkE T C a y && (match r with
      | [] => chkE T C b z
      | _ :: _ => chkE T C b (.BoolOp .And (z :: r) pos))
    | _ => false)
  | .or a b, x => (match x with
    | .BoolOp .Or (y :: z :: r) pos => chkE T C a y && (match r with
      | [] => chkE T C b z
      | _ :: _ => chkE T C b (.BoolOp .Or (z :: r) pos))
    | _ => false)
  | .not a, x => (match x with
    | .UnaryOp .Not y _ => chkE T C a y
    | _ => false)
  | .ite c a b, x => (match x with
    | .IfExp u y z _ => chkE T C c u && chkE T C a y && chkE T C b z
    | _ => false)
  | .idx a i, x => (match x with
    | .Subscript y z _ => chkE T C a y && chkE T C i z && ixB z
    | _ => false)
  | .sli a lo hi, x => (match x with
    | .Subscript y (.Slice l u .none _) _ => chkE T C a y && chkO T C lo l && chkO T C hi u
    | _ => false)
  | .call f es, x => (match x with
    | .Call (.Name y _) (z :: zs) [] _ => decide (T.fn f = some (y, lenEs es)) && glB C.sc y && nmOk y && chkEs T C es (z :: zs)
    | _ => false)
  | .call0 f, x => (match x with
    | .Call (.Name y _) [] [] _ => decide (T.fn f = some (y, 0)) && glB C.sc y && nmOk y
    | _ => false)
  | .callL f es np js e, x => (match x with
    | .Call (.Name y _) (z :: zs) [] _ => C.lam && decide (T.fn f = some (y, lenEs es + 1)) && glB C.sc y && nmOk y && chkL T C es (fun p b scope => match namesOf C.N js with
      | some fr => lamB C.sc np fr p scope && chkE T ⟨p.args.map (·.arg) ++ fr, scope, scope, true, false⟩ e b
      | none => false) (z :: zs)
    | _ => false)
  | .callv i es, x => (match x with
    | .Call (.Name y _) zs [] _ => decide (C.N[i]? = some y) && visB C.sc y && nmOk y && chkEs T C es zs
    | _ => false)
  | .fnv i, x => (match x with
    | .Name y _ => decide ((T.fn i).map (·.1) = some y) && glB C.sc y && nmOk y
    | _ => false)
  | .nset e, x => (match x with
    | .Call (.Name y _) [.Call (.Name u _) [z] [] _] [] _ => decide (y = Str.ofString "len") && T.bl y && glB C.sc y && decide (u = Str.ofString "set") && T.bl u && glB C.sc u && chkE T C e z && notStar z && C.calm
    | _ => false)
  | .rngl a b, x => (match x with
    | .Call (.Name y _) [.Call (.Name u _) [z, w] [] _] [] _ => decide (y = Str.ofString "list") && T.bl y && glB C.sc y && decide (u = Str.ofString "range") && T.bl u && glB C.sc u && chkE T C a z && notStar z && chkE T C b w && notStar w && C.calm
    | _ => false)
  | .bi b es, x => (match x with
    | .Call (.Name y _) (z :: zs) [] _ => decide (y = Str.ofString (biId b)) && T.bl y && glB C.sc y && chkEs T C es (z :: zs) && C.calm
    | _ => false)
  | .isi a t, x => (match x with
    | .Call (.Name y _) [z, .Name u _] [] _ => decide (y = Str.ofString "isinstance") && T.bl y && glB C.sc y && decide (u = Str.ofString (tyName t)) && T.bl u && glB C.sc u && chkE T C a z && notStar z
    | _ => false)
  | .mth m o es, x => (match x with
    | .Call (.Attribute y n apos) (z :: zs) [] cpos => attB y && decide (n = Str.ofString (mtId m)) && (apos.endLine == cpos.line) && chkE T C o y && chkEs T C es (z :: zs) && decide (lenEs es = mtN m)
    | _ => false)
  | .fld c f o, x => (match x with
    | .Attribute y n _ => attB y && decide (n = f) && T.na c f && chkE T C o y
    | _ => false)
  | .mcl c g m o es, x => (match x with
    | .Call (.Attribute y n apos) zs [] cpos => attB y && decide (n = m) && (apos.endLine == cpos.line) && decide (T.mt c m = some (g, lenEs es)) && decide (zs.length < 29) && chkE T C o y && chkEs T C es zs
    | _ => false)
  | .mkn c g es, x => (match x with
    | .Call (.Name y _) (z :: zs) [] _ => decide (T.nw c = some (y, g, lenEs es)) && glB C.sc y && nmOk y && chkEs T C es (z :: zs)
    | _ => false)
  | .prp c g m o, x => (match x with
    | .Attribute y n _ => attB y && decide (n = m) && decide (T.pr c m = some g) && chkE T C o y
    | _ => false)
  | .lc own tg it c e, x => (match x with
    | .ListComp elt [⟨tgx, iter, ifs, k⟩] scope _ => C.calm && decide (k = 0) && blkC C.N C.sc scope (own.filterMap fun i => (C.N[i]?).map fun y => (y, i)) && decide ((own.filterMap fun i => (C.N[i]?).map fun y => (y, i)).map (·.2) = own) && (slotsT tg).all (fun i => own.contains i)
        && chkI T C tgx it iter && chkG ⟨C.N, relS scope C.sc, scope, C.calm, false⟩ tg tgx && chkC T ⟨C.N, relS scope C.sc, scope, C.calm, false⟩ c ifs && chkE T ⟨C.N, relS scope C.sc, scope, C.calm, false⟩ e elt
    | _ => false)
def chkEs (T : Tb) (C : Cc) : Exs → List Expr → Bool
  | .nil, xs => (match xs with
    | [] => true
    | _ => false)
  | .cons e es, xs => (match xs with
    | x :: xs => chkE T C e x && notStar x && chkEs T C es xs
    | _ => false)
/-- the arguments, the last one a lambda -/
def chkL (T : Tb) (C : Cc) : Exs → (Arguments → Expr → Scope → Bool) → List Expr → Bool
  | .nil, k, xs => (match xs with
    | [.Lambda p b scope _] => k p b scope
    | _ => false)
  | .cons a es, k, xs => (match xs with
    | x :: y :: xs => chkE T C a x && notStar x && chkL T C es k (y :: xs)
    | _ => false)
def chkO (T : Tb) (C : Cc) : Oe → Option Expr → Bool
  | .none, x => (match x with
    | .none => true
    | _ => false)
  | .some e, x => (match x with
    | .some x => chkE T C e x
    | _ => false)
def chkC (T : Tb) (C : Cc) : Oe → List Expr → Bool
  | .none, x => (match x with
    | [] => true
    | _ => false)
  | .some e, x => (match x with
    | [x] => chkE T C e x
    | _ => false)
def chkI (T : Tb) (C : Cc) (tg : Expr) : It → Expr → Bool
  | .val e, x => chkE T C e x && markB x
  | .rng1 e, x => (match x with
    | .Call (.Name y _) [z] [] _ => decide (y = Str.ofString "range") && T.bl y && glB C.sc y && chkE T C e z && notStar z
    | _ => false)
  | .rng2 a b, x => (match x with
    | .Call (.Name y _) [z, u] [] _ => decide (y = Str.ofString "range") && T.bl y && glB C.sc y && chkE T C a z && notStar z && chkE T C b u && notStar u
    | _ => false)
  | .enum e, x => (match x with
    | .Call (.Name y _) [z] [] _ => decide (y = Str.ofString "enumerate") && T.bl y && glB C.sc y && chkE T C e z && notStar z && tupX tg
    | _ => false)
  | .zip a b, x => (match x with
    | .Call (.Name y _) [z, u] [] _ => decide (y = Str.ofString "zip") && T.bl y && glB C.sc y && chkE T C a z && notStar z && chkE T C b u && notStar u && tupX tg
    | _ => false)
end

end KI


set_option Elab.async false
set_option linter.all false
set_option maxRecDepth 100000
set_option autoImplicit false
/-! How plain data lies in the abstract heap. -/
namespace KI
open PySem PySem.Spec PyProof.Rows L2

/-- a tuple of the written part -/
def KT (K : PySem.W.Frag) (a : Addr) (xs : List V) : Prop := ∃ (o : Obj) (its : Array Value) (n : Nat), K.lookup a = some o ∧ o.cls = .type "tuple" ∧ o.data = .seq its n ∧ its.size ≤ sizeLine ∧ Vals xs its.toList
def KL (K : PySem.W.Frag) (a : Addr) (xs : List V) : Prop := ∃ (o : Obj) (its : Array Value) (n : Nat), K.lookup a = some o ∧ o.cls = .type "list" ∧ o.dict = none ∧ o.data = .seq its n ∧ its.size ≤ sizeLine ∧ Vals xs its.toList
def SqTm (K : PySem.W.Frag) (mu : List Addr) (H : Hp) (a : Addr) (xs : List V) : Prop := (Rd H a (.tup xs) ∧ a ∉ mu) ∨ KT K a xs
def SqLm (K : PySem.W.Frag) (mu : List Addr) (H : Hp) (a : Addr) (xs : List V) : Prop := (Rd H a (.lst xs) ∧ a ∉ mu) ∨ KL K a xs
theorem SqTm.sq {K : PySem.W.Frag} {mu : List Addr} {H : Hp} {a : Addr} {xs : List V} (h : SqTm K mu H a xs) : SqT K H a xs := by
  rcases h with h | h
  · exact .inl h.1
  · exact .inr h
theorem SqLm.sq {K : PySem.W.Frag} {mu : List Addr} {H : Hp} {a : Addr} {xs : List V} (h : SqLm K mu H a xs) : SqL K H a xs := by
  rcases h with h | h
  · exact .inl h.1
  · exact .inr h
/-- what Is leans on besides: where the defs stand, the table of names, the tables of code objects -/
structure Ek where
  FA : Nat → Addr
  CA : Nat → Addr
  TB : Tb
  T : List (Addr × Str)
/-- a lambda's words, the cells that it captured, its code object -/
structure LF where
  qual : Str
  params : Arguments
  body : Expr
  scope : Scope
  cl : List (Str × Addr)
  c : Addr
/-- the object at f is the function F -/
def FnL (f : Addr) (F : LF) : HO := .ext fun h => ∃ (od : Option Addr) (sl : Array (Option Value)) (pm ctv : Value), h.get? f = some (⟨.type "function", od, .func (PySem.W.kla_fn "<lambda>" F.qual F.params F.body F.scope F.cl pm (.ref F.c) ctv), sl⟩ : Obj)
/-- the object at c, known -/
def CelO (c : Addr) (o : Obj) : HO := .frz o (.own c)
/-- the lambda's text is the code -/
def lamC (T : Tb) (np : Nat) (e : Ex) (fr : List Str) (F : LF) : Bool := argOk F.params (F.params.args.map (·.arg)) && decide ((F.params.args.map (·.arg)).length = np) && NdefX.nscB (F.params.args.map (·.arg) ++ fr) (F.params.args.map (·.arg)) fr F.scope
  && chkE T ⟨F.params.args.map (·.arg) ++ fr, F.scope, F.scope, true, false⟩ e F.body
def hideC (H : Hp) (cs : List Addr) : Hp := fun b => if b ∈ cs then none else H b
/-- what the captured cells hold -/
structure CelsAt (mu : List Addr) (H : Hp) (cl : List (Str × Addr)) (fr : List Str) (vs : List V) : Prop where
  len : vs.length = fr.length
  all : ∀ c, c ∈ cl.map (·.2) → c ∉ mu ∧ ∃ o u, H c = some (CelO c o) ∧ o.data = .cell u
  inj : ∀ x y c, cl.lookup x = some c → cl.lookup y = some c → x = y
  has : ∀ (i : Nat) (y : Str), fr[i]? = some y → ∃ c o u v, cl.lookup y = some c ∧ H c = some (CelO c o) ∧ o.data = .cell (some u) ∧ vs[i]? = some v ∧ RelV v u
mutual
/-- v is d: ca: where the cells stand; mu: the addresses whose objects may change -/
inductive Is (K : PySem.W.Frag) (EE : Ek) (ca mu : List Addr) : Hp → V → D → Prop
  | non {H : Hp} : Is K EE ca mu H .non .non
  | bl {H : Hp} (b : Bool) : Is K EE ca mu H (.bl b) (.bl b)
  | int {H : Hp} (i : Int) : Is K EE ca mu H (.int i) (.int i)
  | str {H : Hp} (x : Str) : Is K EE ca mu H (.str x) (.str x)
  | tup {H : Hp} {a : Addr} {vs : List V} {ds : List D} : SqTm K mu H a vs → IsL K EE ca mu H vs ds → Is K EE ca mu H (.ref a) (.tup ds)
  | lst {H : Hp} {a : Addr} {vs : List V} {ds : List D} : H a = some (.lst vs) → a ∉ mu → IsL K EE ca mu H vs ds → Is K EE ca mu H (.ref a) (.lst ds)
  | dic {H : Hp} {a : Addr} {kvs : List (Key × V)} {kds : List (Key × D)} : H a = some (.dK kvs) → a ∉ mu → IsK K EE ca mu H kvs kds → Is K EE ca mu H (.ref a) (.dic kds)
  | ro {H : Hp} {a : Addr} {vs : List V} {ds : List D} : SqLm K mu H a vs → IsL K EE ca mu H vs ds → Is K EE ca mu H (.ref a) (.ro ds)
  | cell {H : Hp} {a : Addr} {n : Nat} : ca[n]? = some a → Is K EE ca mu H (.ref a) (.cell n)
  | fn {H : Hp} (i : Nat) : (EE.TB.fn i).isSome = true → Is K EE ca mu H (.ref (EE.FA i)) (.fn i)
  | clo {H : Hp} {f : Addr} {F : LF} {np : Nat} {e : Ex} {fr : List Str} {vs : List V} {ds : List D} : H f = some (FnL f F) → f ∉ mu → H F.c = some (LamX.CodeO F.c F.qual) → F.c ∉ mu → lamC EE.TB np e fr F = true → CelsAt mu H F.cl fr vs →
      IsL K EE ca mu (hideC H (F.cl.map (·.2))) vs ds → Is K EE ca mu H (.ref f) (.clo np e ds)
inductive IsL (K : PySem.W.Frag) (EE : Ek) (ca mu : List Addr) : Hp → List V → List D → Prop
  | nil {H : Hp} : IsL K EE ca mu H [] []
  | cons {H : Hp} {v : V} {vs : List V} {d : D} {ds : List D} : Is K EE ca mu H v d → IsL K EE ca mu H vs ds → IsL K EE ca mu H (v :: vs) (d :: ds)
inductive IsK (K : PySem.W.Frag) (EE : Ek) (ca mu : List Addr) : Hp → List (Key × V) → List (Key × D) → Prop
  | nil {H : Hp} : IsK K EE ca mu H [] []
  | cons {H : Hp} {k : Key} {v : V} {vs : List (Key × V)} {d : D} {ds : List (Key × D)} : Is K EE ca mu H v d → IsK K EE ca mu H vs ds → IsK K EE ca mu H ((k, v) :: vs) ((k, d) :: ds)
end
/-- what may stand at an address whose object changes -/
def chg : HO → Bool
  | .lst _ | .dK _ | .ins _ _ _ => true
  | _ => false
def notTbl (o : HO) : Prop := ∀ ps, o ≠ .tbl ps
/-- what stands at a cell -/
def ObR (K : PySem.W.Frag) (EE : Ek) (ca mu : List Addr) (H : Hp) (a : Addr) : Ob → Prop
  | .lst xs => a ∈ mu ∧ ∃ vs, H a = some (.lst vs) ∧ IsL K EE ca mu H vs xs
  | .dct kds => a ∈ mu ∧ ∃ kvs, H a = some (.dK kvs) ∧ IsK K EE ca mu H kvs kds
  | .ins c fs => a ∈ mu ∧ ∃ dx vs, H a = some (.ins (EE.CA c) dx vs) ∧ vs.map (·.1) = fs.map (·.1) ∧ IsL K EE ca mu H (vs.map (·.2)) (fs.map (·.2))
  | .dead => True
structure Wd (K : PySem.W.Frag) (EE : Ek) (ca mu : List Addr) (H : Hp) (S : Sto) : Prop where
  len : ca.length = S.length
  nd : ca.Nodup
  ob : ∀ (n : Nat) (a : Addr) (o : Ob), ca[n]? = some a → S[n]? = some o → ObR K EE ca mu H a o
  tm : ∀ a, a ∈ mu → ∃ o, H a = some o ∧ chg o = true
  tb : LamX.Tabs EE.T H
  tc : ∀ a, a ∈ ca → ∃ o, H a = some o ∧ chg o = true
structure Ext (ca mu : List Addr) (H : Hp) (ca' mu' : List Addr) (H' : Hp) : Prop where
  pre : ∃ nw, ca' = ca ++ nw ∧ ∀ a ∈ nw, H a = none
  mus : ∀ a, a ∈ mu' → a ∈ mu ∨ H a = none
  kp : ∀ a o, H a = some o → notTbl o → ¬ (a ∈ ca ∧ a ∈ mu) → H' a = some o
  tr : ∀ a, H a ≠ none → H' a ≠ none
  fb : ∀ a, a ∈ mu → a ∉ ca → H a ≠ none → a ∈ mu'
section
variable {K : PySem.W.Frag} {EE : Ek} {ca mu ca' mu' ca2 mu2 : List Addr} {H H' H2 : Hp} {S : Sto}
theorem nt_lst (xs : List V) : notTbl (.lst xs) := fun _ z => nomatch z
theorem nt_tup (xs : List V) : notTbl (.tup xs) := fun _ z => nomatch z
theorem nt_dK (xs : List (Key × V)) : notTbl (.dK xs) := fun _ z => nomatch z
theorem nt_ext (φ : Heap → Prop) : notTbl (.ext φ) := fun _ z => nomatch z
theorem nt_frz (o : Obj) (u : HO) : notTbl (.frz o u) := fun _ z => nomatch z
theorem nt_ins (C dx : Addr) (fs : List (Str × V)) : notTbl (.ins C dx fs) := fun _ z => nomatch z
theorem nt_chg {o : HO} (h : chg o = true) : notTbl o := fun ps z => by rw [z] at h; cases h
theorem Ext.refl : Ext ca mu H ca mu H := ⟨⟨[], by simp, fun _ h => nomatch h⟩, fun _ h => .inl h, fun _ _ h _ _ => h, fun _ h => h, fun _ h _ _ => h⟩
theorem Ext.trans (x : Ext ca mu H ca' mu' H') (y : Ext ca' mu' H' ca2 mu2 H2) : Ext ca mu H ca2 mu2 H2 := by
  have back : ∀ a, H' a = none → H a = none := fun a h => by
    cases q : H a with
    | none => rfl
    | some o => exact absurd h (x.tr a (by rw [q]; simp))
  refine ⟨?_, fun a h => ?_, fun a o h t n => ?_, fun a h => y.tr a (x.tr a h), fun a h1 h2 h3 => y.fb a (x.fb a h1 h2 h3) (fun z => ?_) (x.tr a h3)⟩
  · obtain ⟨n1, e1, f1⟩ := x.pre
    obtain ⟨n2, e2, f2⟩ := y.pre
    refine ⟨n1 ++ n2, by rw [e2, e1, List.append_assoc], fun a ha => ?_⟩
    rcases List.mem_append.mp ha with h | h
    · exact f1 a h
    · exact back a (f2 a h)
  · rcases y.mus a h with h | h
    · exact x.mus a h
    · exact .inr (back a h)
  · refine y.kp a o (x.kp a o h t n) t fun ⟨h1, h2⟩ => n ?_
    obtain ⟨n1, e1, f1⟩ := x.pre
    rw [e1] at h1
    refine ⟨?_, ?_⟩
    · rcases List.mem_append.mp h1 with h1 | h1
      · exact h1
      · rw [f1 a h1] at h; cases h
    · rcases x.mus a h2 with h2 | h2
      · exact h2
      · rw [h2] at h; cases h
  · obtain ⟨n1, e1, f1⟩ := x.pre
    rw [e1] at z
    rcases List.mem_append.mp z with z | z
    · exact h2 z
    · exact h3 (f1 a z)
theorem Ext.out {a : Addr} {o : HO} (x : Ext ca mu H ca' mu' H') (h : H a = some o) (t : notTbl o) (n : a ∉ mu) : H' a = some o ∧ a ∉ mu' :=
  ⟨x.kp a o h t fun z => n z.2, fun z => (x.mus a z).elim n fun e => by rw [e] at h; cases h⟩
theorem Ext.rd {a : Addr} {u : HO} (x : Ext ca mu H ca' mu' H') (h : Rd H a u) (t : notTbl u) (n : a ∉ mu) : Rd H' a u ∧ a ∉ mu' := by
  rcases h with h | ⟨o, h⟩
  · exact ⟨.inl (x.out h t n).1, (x.out h t n).2⟩
  · exact ⟨.inr ⟨o, (x.out h (nt_frz _ _) n).1⟩, (x.out h (nt_frz _ _) n).2⟩
theorem Ext.cell {a : Addr} {n : Nat} (x : Ext ca mu H ca' mu' H') (h : ca[n]? = some a) : ca'[n]? = some a := by
  obtain ⟨nw, e, _⟩ := x.pre
  rw [e, List.getElem?_append_left (List.getElem?_eq_some_iff.mp h).1]
  exact h
theorem SqTm.ext {a : Addr} {xs : List V} (h : SqTm K mu H a xs) (x : Ext ca mu H ca' mu' H') : SqTm K mu' H' a xs := by
  rcases h with h | h
  · exact .inl (x.rd h.1 (nt_tup _) h.2)
  · exact .inr h
theorem SqLm.ext {a : Addr} {xs : List V} (h : SqLm K mu H a xs) (x : Ext ca mu H ca' mu' H') : SqLm K mu' H' a xs := by
  rcases h with h | h
  · exact .inl (x.rd h.1 (nt_lst _) h.2)
  · exact .inr h
theorem hideC_some {cs : List Addr} {a : Addr} {o : HO} (h : hideC H cs a = some o) : a ∉ cs ∧ H a = some o := by
  unfold hideC at h
  split at h
  · cases h
  · exact ⟨by assumption, h⟩
theorem hideC_out {cs : List Addr} {a : Addr} (h : a ∉ cs) : hideC H cs a = H a := by unfold hideC; rw [if_neg h]
theorem hideC_in {cs : List Addr} {a : Addr} (h : a ∈ cs) : hideC H cs a = none := by unfold hideC; rw [if_pos h]
theorem hideC_ne {cs : List Addr} {a : Addr} (h : hideC H cs a ≠ none) : a ∉ cs ∧ H a ≠ none := by
  unfold hideC at h
  split at h
  · exact absurd rfl h
  · exact ⟨by assumption, h⟩
theorem hideC_none {cs : List Addr} {a : Addr} (h : H a = none) : hideC H cs a = none := by unfold hideC; split <;> first | rfl | exact h
theorem Ext.hide (x : Ext ca mu H ca' mu' H') (cs : List Addr) : Ext ca mu (hideC H cs) ca' mu' (hideC H' cs) := by
  refine ⟨?_, fun a h => (x.mus a h).imp id hideC_none, fun a o h t n => ?_, fun a h => ?_, fun a h1 h2 h3 => x.fb a h1 h2 (hideC_ne h3).2⟩
  · obtain ⟨nw, e, f⟩ := x.pre
    exact ⟨nw, e, fun a h => hideC_none (f a h)⟩
  · obtain ⟨h1, h2⟩ := hideC_some h
    rw [hideC_out h1]
    exact x.kp a o h2 t n
  · obtain ⟨h1, h2⟩ := hideC_ne h
    rw [hideC_out h1]
    exact x.tr a h2
theorem CelsAt.ext {cl : List (Str × Addr)} {fr : List Str} {vs : List V} (h : CelsAt mu H cl fr vs) (x : Ext ca mu H ca' mu' H') : CelsAt mu' H' cl fr vs := by
  refine ⟨h.len, fun c hc => ?_, h.inj, fun i y e => ?_⟩
  · obtain ⟨n, o, u, e1, e2⟩ := h.all c hc
    exact ⟨(x.out e1 (nt_frz _ _) n).2, o, u, (x.out e1 (nt_frz _ _) n).1, e2⟩
  · obtain ⟨c, o, u, v, e1, e2, e3, e4, e5⟩ := h.has i y e
    exact ⟨c, o, u, v, e1, (x.out e2 (nt_frz _ _) (h.all c (List.mem_map.mpr ⟨(y, c), PySem.mem_of_lookup e1, rfl⟩)).1).1, e3, e4, e5⟩
mutual
theorem Is.ext {ca mu ca' mu' : List Addr} {H H' : Hp} (x : Ext ca mu H ca' mu' H') : ∀ (d : D) {v : V}, Is K EE ca mu H v d → Is K EE ca' mu' H' v d
  | .non, _, h => by cases h; exact .non
  | .bl b, _, h => by cases h; exact .bl b
  | .int i, _, h => by cases h; exact .int i
  | .str s, _, h => by cases h; exact .str s
  | .tup ds, _, h => by cases h with | tup h1 h2 => exact .tup (h1.ext x) (IsL.ext x ds h2)
  | .lst ds, _, h => by cases h with | lst h1 h2 h3 => exact .lst (x.out h1 (nt_lst _) h2).1 (x.out h1 (nt_lst _) h2).2 (IsL.ext x ds h3)
  | .dic ds, _, h => by cases h with | dic h1 h2 h3 => exact .dic (x.out h1 (nt_dK _) h2).1 (x.out h1 (nt_dK _) h2).2 (IsK.ext x ds h3)
  | .ro ds, _, h => by cases h with | ro h1 h2 => exact .ro (h1.ext x) (IsL.ext x ds h2)
  | .cell n, _, h => by cases h with | cell h => exact .cell (x.cell h)
  | .fn i, _, h => by cases h with | fn _ h => exact .fn i h
  | .clo np e ds, _, h => by cases h with | clo h1 h2 h3 h4 h5 h6 h7 => exact .clo (x.out h1 (nt_ext _) h2).1 (x.out h1 (nt_ext _) h2).2 (x.out h3 (nt_ext _) h4).1 (x.out h3 (nt_ext _) h4).2 h5 (h6.ext x) (IsL.ext (x.hide _) ds h7)
theorem IsL.ext {ca mu ca' mu' : List Addr} {H H' : Hp} (x : Ext ca mu H ca' mu' H') : ∀ (ds : List D) {vs : List V}, IsL K EE ca mu H vs ds → IsL K EE ca' mu' H' vs ds
  | [], _, h => by cases h; exact .nil
  | d :: ds, _, h => by cases h with | cons h1 h2 => exact .cons (Is.ext x d h1) (IsL.ext x ds h2)
theorem IsK.ext {ca mu ca' mu' : List Addr} {H H' : Hp} (x : Ext ca mu H ca' mu' H') : ∀ (ds : List (Key × D)) {vs : List (Key × V)}, IsK K EE ca mu H vs ds → IsK K EE ca' mu' H' vs ds
  | [], _, h => by cases h; exact .nil
  | (_, d) :: ds, _, h => by cases h with | cons h1 h2 => exact .cons (Is.ext x d h1) (IsK.ext x ds h2)
end
/-! ### lists of data -/
theorem IsL.length {vs : List V} {ds : List D} (h : IsL K EE ca mu H vs ds) : vs.length = ds.length := by
  induction ds generalizing vs with
  | nil => cases h; rfl
  | cons d ds ih => cases h with | cons h1 h2 => simp [ih h2]
theorem IsL.get {vs : List V} {ds : List D} (h : IsL K EE ca mu H vs ds) {i : Nat} {d : D} (e : ds[i]? = some d) : ∃ v, vs[i]? = some v ∧ Is K EE ca mu H v d := by
  induction ds generalizing vs i with
  | nil => simp at e
  | cons d' ds ih =>
    cases h with
    | cons h1 h2 =>
      cases i with
      | zero => simp at e; subst e; exact ⟨_, rfl, h1⟩
      | succ i => exact ih h2 (by simpa using e)
theorem IsL.get' {vs : List V} {ds : List D} (h : IsL K EE ca mu H vs ds) {i : Nat} {v : V} (e : vs[i]? = some v) : ∃ d, ds[i]? = some d ∧ Is K EE ca mu H v d := by
  induction ds generalizing vs i with
  | nil => cases h; simp at e
  | cons d' ds ih =>
    cases h with
    | cons h1 h2 =>
      cases i with
      | zero => simp at e; subst e; exact ⟨_, rfl, h1⟩
      | succ i => exact ih h2 (by simpa using e)
theorem IsL.append {vs us : List V} {ds es : List D} (h : IsL K EE ca mu H vs ds) (g : IsL K EE ca mu H us es) : IsL K EE ca mu H (vs ++ us) (ds ++ es) := by
  induction ds generalizing vs with
  | nil => cases h; exact g
  | cons d ds ih => cases h with | cons h1 h2 => exact .cons h1 (ih h2)
theorem IsL.take {vs : List V} {ds : List D} (n : Nat) (h : IsL K EE ca mu H vs ds) : IsL K EE ca mu H (vs.take n) (ds.take n) := by
  induction ds generalizing vs n with
  | nil => cases h; cases n <;> exact .nil
  | cons d ds ih =>
    cases h with
    | cons h1 h2 =>
      cases n with
      | zero => exact .nil
      | succ n => exact .cons h1 (ih n h2)
theorem IsL.drop {vs : List V} {ds : List D} (n : Nat) (h : IsL K EE ca mu H vs ds) : IsL K EE ca mu H (vs.drop n) (ds.drop n) := by
  induction ds generalizing vs n with
  | nil => cases h; cases n <;> exact .nil
  | cons d ds ih =>
    cases h with
    | cons h1 h2 =>
      cases n with
      | zero => exact .cons h1 h2
      | succ n => exact ih n h2
theorem IsL.set {vs : List V} {ds : List D} {v : V} {d : D} (n : Nat) (h : IsL K EE ca mu H vs ds) (g : Is K EE ca mu H v d) : IsL K EE ca mu H (vs.set n v) (ds.set n d) := by
  induction ds generalizing vs n with
  | nil => cases h; exact .nil
  | cons e ds ih =>
    cases h with
    | cons h1 h2 =>
      cases n with
      | zero => exact .cons g h2
      | succ n => exact .cons h1 (ih n h2)
theorem IsL.rep {vs : List V} {ds : List D} (n : Nat) (h : IsL K EE ca mu H vs ds) : IsL K EE ca mu H (List.replicate n vs).flatten (List.replicate n ds).flatten := by
  induction n with
  | zero => exact .nil
  | succ n ih => rw [List.replicate_succ, List.replicate_succ, List.flatten_cons, List.flatten_cons]; exact h.append ih
theorem IsL.cut {vs : List V} {ds : List D} (h : IsL K EE ca mu H vs ds) (lo hi : Option Int) : IsL K EE ca mu H (cutV vs lo hi) (cut ds lo hi) := by
  unfold cutV KI.cut
  rw [h.length]
  exact (h.drop _).take _
theorem IsL.nil_iff {vs : List V} {ds : List D} (h : IsL K EE ca mu H vs ds) : vs = [] ↔ ds = [] := by
  cases ds with
  | nil => cases h; simp
  | cons _ _ => cases h; simp
theorem IsL.at_ {vs : List V} {ds : List D} (h : IsL K EE ca mu H vs ds) {i : Int} {d : D} (e : atI ds i = some d) : ∃ v, atI vs i = some v ∧ Is K EE ca mu H v d := by
  unfold atI at e ⊢
  rw [h.length]
  cases q : ixN ds.length i with
  | none => rw [q] at e; cases e
  | some j => rw [q] at e; exact h.get e
/-! ### dicts -/
theorem IsK.length {vs : List (Key × V)} {ds : List (Key × D)} (h : IsK K EE ca mu H vs ds) : vs.length = ds.length := by
  induction ds generalizing vs with
  | nil => cases h; rfl
  | cons d ds ih => cases h with | cons h1 h2 => simp [ih h2]
/-! ### a new object -/
theorem Wd.tm0 {a : Addr} (w : Wd K EE ca mu H S) (h : a ∈ mu) : H a ≠ none := by
  obtain ⟨o, e, _⟩ := w.tm a h
  rw [e]
  simp
theorem Wd.tc0 {a : Addr} (w : Wd K EE ca mu H S) (h : a ∈ ca) : H a ≠ none := by
  obtain ⟨o, e, _⟩ := w.tc a h
  rw [e]
  simp
theorem Wd.fresh {p : Addr} (w : Wd K EE ca mu H S) (h : H p = none) : p ∉ mu ∧ p ∉ ca := ⟨fun z => w.tm0 z h, fun z => w.tc0 z h⟩
theorem Ext.new {p : Addr} {o : HO} (h : H p = none) : Ext ca mu H ca mu (upd H p o) :=
  ⟨⟨[], by simp, fun _ z => nomatch z⟩, fun _ z => .inl z, fun a u q _ _ => by rw [upd_ne (ne_of_none q h)]; exact q, fun a q => by
    by_cases e : a = p
    · subst e; exact absurd h q
    · rw [upd_ne e]; exact q, fun _ z _ _ => z⟩
theorem ObR.ext {a : Addr} {o : Ob} (x : Ext ca mu H ca' mu' H') (hm : a ∈ mu → a ∈ mu') (hh : a ∈ mu → H' a = H a) (h : ObR K EE ca mu H a o) : ObR K EE ca' mu' H' a o := by
  cases o with
  | lst xs => obtain ⟨h1, vs, h2, h3⟩ := h; exact ⟨hm h1, vs, by rw [hh h1]; exact h2, h3.ext x⟩
  | dct ks => obtain ⟨h1, vs, h2, h3⟩ := h; exact ⟨hm h1, vs, by rw [hh h1]; exact h2, h3.ext x⟩
  | ins c fs => obtain ⟨h1, dx, vs, h2, h3, h4⟩ := h; exact ⟨hm h1, dx, vs, by rw [hh h1]; exact h2, h3, h4.ext x⟩
  | dead => trivial
theorem tabs_new {T : List (Addr × Str)} {p : Addr} {o : HO} (t : LamX.Tabs T H) (h : H p = none) : LamX.Tabs T (upd H p o) := t.ext fun b u e => by rw [upd_ne (ne_of_none e h)]; exact e
theorem Wd.new {p : Addr} {o : HO} (w : Wd K EE ca mu H S) (h : H p = none) : Wd K EE ca mu (upd H p o) S := by
  have f := w.fresh h
  have ne : ∀ a, a ∈ mu → upd H p o a = H a := fun a ha => upd_ne fun e => f.1 (by subst e; exact ha)
  refine ⟨w.len, w.nd, fun n a o' h1 h2 => (w.ob n a o' h1 h2).ext (Ext.new h) id (ne a), fun a ha => ?_, tabs_new w.tb h, fun a ha => ?_⟩
  · rw [ne a ha]; exact w.tm a ha
  · rw [upd_ne (show a ≠ p from fun e => f.2 (by subst e; exact ha))]; exact w.tc a ha
/-- a change at an address of mu leaves the tables -/
theorem tabs_upd {p : Addr} {o : HO} (w : Wd K EE ca mu H S) (hp : p ∈ mu) : LamX.Tabs EE.T (upd H p o) := fun q hq => by
  obtain ⟨o0, e0, g0⟩ := w.tm p hp
  obtain ⟨ps, h1, h2, h3⟩ := w.tb q hq
  have n1 : q.1 ≠ p := fun e => by rw [e, e0] at h1; cases h1; cases g0
  refine ⟨ps, by rw [upd_ne n1]; exact h1, h2, fun pos cv hc => ?_⟩
  obtain ⟨c, e1, e2⟩ := h3 pos cv hc
  exact ⟨c, e1, by rw [upd_ne fun e => by rw [e, e0] at e2; cases e2; cases g0]; exact e2⟩
/-! ### an object that is nobody's changes; fewer addresses are kept out -/
section
variable {p : Addr} {o : HO}
theorem Rd.updOut {a : Addr} {u : HO} (hp : p ∈ mu) (h : Rd H a u ∧ a ∉ mu) : Rd (upd H p o) a u ∧ a ∉ mu := by
  have ne : a ≠ p := fun e => h.2 (by subst e; exact hp)
  refine ⟨?_, h.2⟩
  rcases h.1 with q | ⟨z, q⟩
  · exact .inl (by rw [upd_ne ne]; exact q)
  · exact .inr ⟨z, by rw [upd_ne ne]; exact q⟩
theorem at_out {a : Addr} {u : HO} (hp : p ∈ mu) (h : H a = some u) (n : a ∉ mu) : upd H p o a = some u := by rw [upd_ne fun e => n (by subst e; exact hp)]; exact h
theorem CelsAt.updOut {cl : List (Str × Addr)} {fr : List Str} {vs : List V} (hp : p ∈ mu) (h : CelsAt mu H cl fr vs) : CelsAt mu (upd H p o) cl fr vs := by
  refine ⟨h.len, fun c hc => ?_, h.inj, fun i y e => ?_⟩
  · obtain ⟨n, o, u, e1, e2⟩ := h.all c hc
    exact ⟨n, o, u, at_out hp e1 n, e2⟩
  · obtain ⟨c, o, u, v, e1, e2, e3, e4, e5⟩ := h.has i y e
    exact ⟨c, o, u, v, e1, at_out hp e2 (h.all c (List.mem_map.mpr ⟨(y, c), PySem.mem_of_lookup e1, rfl⟩)).1, e3, e4, e5⟩
theorem hideC_upd {cs : List Addr} (h : p ∉ cs) : hideC (upd H p o) cs = upd (hideC H cs) p o := by
  funext b
  unfold hideC upd
  by_cases e : b = p
  · subst e
    rw [if_neg h, if_pos rfl, if_pos rfl]
  · rw [if_neg e, if_neg e]
theorem CelsAt.out {cl : List (Str × Addr)} {fr : List Str} {vs : List V} (h : CelsAt mu H cl fr vs) (hp : p ∈ mu) : p ∉ cl.map (·.2) := fun z => (h.all p z).1 hp
mutual
theorem Is.updOut {H : Hp} (hp : p ∈ mu) : ∀ (d : D) {v : V}, Is K EE ca mu H v d → Is K EE ca mu (upd H p o) v d
  | .non, _, h => by cases h; exact .non
  | .bl b, _, h => by cases h; exact .bl b
  | .int i, _, h => by cases h; exact .int i
  | .str s, _, h => by cases h; exact .str s
  | .tup ds, _, h => by cases h with | tup h1 h2 => exact .tup (h1.imp (Rd.updOut hp) id) (IsL.updOut hp ds h2)
  | .lst ds, _, h => by cases h with | lst h1 h2 h3 => exact .lst (by rw [upd_ne fun e => h2 (by subst e; exact hp)]; exact h1) h2 (IsL.updOut hp ds h3)
  | .dic ds, _, h => by cases h with | dic h1 h2 h3 => exact .dic (by rw [upd_ne fun e => h2 (by subst e; exact hp)]; exact h1) h2 (IsK.updOut hp ds h3)
  | .ro ds, _, h => by cases h with | ro h1 h2 => exact .ro (h1.imp (Rd.updOut hp) id) (IsL.updOut hp ds h2)
  | .cell n, _, h => by cases h with | cell h => exact .cell h
  | .fn i, _, h => by cases h with | fn _ h => exact .fn i h
  | .clo np e ds, _, h => by cases h with | clo h1 h2 h3 h4 h5 h6 h7 => exact .clo (at_out hp h1 h2) h2 (at_out hp h3 h4) h4 h5 (h6.updOut hp) (by rw [hideC_upd (h6.out hp)]; exact IsL.updOut hp ds h7)
theorem IsL.updOut {H : Hp} (hp : p ∈ mu) : ∀ (ds : List D) {vs : List V}, IsL K EE ca mu H vs ds → IsL K EE ca mu (upd H p o) vs ds
  | [], _, h => by cases h; exact .nil
  | d :: ds, _, h => by cases h with | cons h1 h2 => exact .cons (Is.updOut hp d h1) (IsL.updOut hp ds h2)
theorem IsK.updOut {H : Hp} (hp : p ∈ mu) : ∀ (ds : List (Key × D)) {vs : List (Key × V)}, IsK K EE ca mu H vs ds → IsK K EE ca mu (upd H p o) vs ds
  | [], _, h => by cases h; exact .nil
  | (_, d) :: ds, _, h => by cases h with | cons h1 h2 => exact .cons (Is.updOut hp d h1) (IsK.updOut hp ds h2)
end
theorem CelsAt.mono {cl : List (Str × Addr)} {fr : List Str} {vs : List V} (hp : ∀ a, a ∈ mu' → a ∈ mu) (h : CelsAt mu H cl fr vs) : CelsAt mu' H cl fr vs :=
  ⟨h.len, fun c hc => let ⟨n, r⟩ := h.all c hc; ⟨fun z => n (hp c z), r⟩, h.inj, h.has⟩
mutual
theorem Is.mono {H : Hp} (hp : ∀ a, a ∈ mu' → a ∈ mu) : ∀ (d : D) {v : V}, Is K EE ca mu H v d → Is K EE ca mu' H v d
  | .non, _, h => by cases h; exact .non
  | .bl b, _, h => by cases h; exact .bl b
  | .int i, _, h => by cases h; exact .int i
  | .str s, _, h => by cases h; exact .str s
  | .tup ds, _, h => by cases h with | tup h1 h2 => exact .tup (h1.imp (fun z => ⟨z.1, fun q => z.2 (hp _ q)⟩) id) (IsL.mono hp ds h2)
  | .lst ds, _, h => by cases h with | lst h1 h2 h3 => exact .lst h1 (fun q => h2 (hp _ q)) (IsL.mono hp ds h3)
  | .dic ds, _, h => by cases h with | dic h1 h2 h3 => exact .dic h1 (fun q => h2 (hp _ q)) (IsK.mono hp ds h3)
  | .ro ds, _, h => by cases h with | ro h1 h2 => exact .ro (h1.imp (fun z => ⟨z.1, fun q => z.2 (hp _ q)⟩) id) (IsL.mono hp ds h2)
  | .cell n, _, h => by cases h with | cell h => exact .cell h
  | .fn i, _, h => by cases h with | fn _ h => exact .fn i h
  | .clo np e ds, _, h => by cases h with | clo h1 h2 h3 h4 h5 h6 h7 => exact .clo h1 (fun q => h2 (hp _ q)) h3 (fun q => h4 (hp _ q)) h5 (h6.mono hp) (IsL.mono hp ds h7)
theorem IsL.mono {H : Hp} (hp : ∀ a, a ∈ mu' → a ∈ mu) : ∀ (ds : List D) {vs : List V}, IsL K EE ca mu H vs ds → IsL K EE ca mu' H vs ds
  | [], _, h => by cases h; exact .nil
  | d :: ds, _, h => by cases h with | cons h1 h2 => exact .cons (Is.mono hp d h1) (IsL.mono hp ds h2)
theorem IsK.mono {H : Hp} (hp : ∀ a, a ∈ mu' → a ∈ mu) : ∀ (ds : List (Key × D)) {vs : List (Key × V)}, IsK K EE ca mu H vs ds → IsK K EE ca mu' H vs ds
  | [], _, h => by cases h; exact .nil
  | (_, d) :: ds, _, h => by cases h with | cons h1 h2 => exact .cons (Is.mono hp d h1) (IsK.mono hp ds h2)
end
theorem Wd.updOut (w : Wd K EE ca mu H S) (hp : p ∈ mu) (hc : p ∉ ca) (ho : chg o = true) : Wd K EE ca mu (upd H p o) S := by
  have ne : ∀ a, a ∈ ca → a ≠ p := fun a h e => hc (by subst e; exact h)
  refine ⟨w.len, w.nd, fun n a b h1 h2 => ?_, fun a ha => ?_, tabs_upd w hp, fun a ha => ?_⟩
  · have hb := w.ob n a b h1 h2
    have na := ne a (List.mem_of_getElem? h1)
    cases b with
    | lst xs => obtain ⟨q1, vs, q2, q3⟩ := hb; exact ⟨q1, vs, by rw [upd_ne na]; exact q2, IsL.updOut hp _ q3⟩
    | dct xs => obtain ⟨q1, vs, q2, q3⟩ := hb; exact ⟨q1, vs, by rw [upd_ne na]; exact q2, IsK.updOut hp _ q3⟩
    | ins c xs => obtain ⟨q1, dx, vs, q2, q3, q4⟩ := hb; exact ⟨q1, dx, vs, by rw [upd_ne na]; exact q2, q3, IsL.updOut hp _ q4⟩
    | dead => trivial
  · by_cases e : a = p
    · exact ⟨o, by rw [e, upd_same], ho⟩
    · rw [upd_ne e]; exact w.tm a ha
  · rw [upd_ne (ne a ha)]; exact w.tc a ha
theorem Ext.updOut (x : Ext ca mu H ca' mu' H') (hp : H p = none) : Ext ca mu H ca' mu' (upd H' p o) :=
  ⟨x.pre, x.mus, fun a u h t n => by rw [upd_ne (ne_of_none h hp)]; exact x.kp a u h t n, fun a h => by
    by_cases e : a = p
    · rw [e, upd_same]; simp
    · rw [upd_ne e]; exact x.tr a h, x.fb⟩
/-- p is kept out no longer -/
theorem Ext.drop (x : Ext ca mu H ca' mu' H') (hp : H p = none) : Ext ca mu H ca' (mu'.filter (· ≠ p)) H' :=
  ⟨x.pre, fun a h => x.mus a (List.mem_filter.mp h).1, x.kp, x.tr, fun a h1 h2 h3 => List.mem_filter.mpr ⟨x.fb a h1 h2 h3, by simpa using fun e : a = p => h3 (by rw [e]; exact hp)⟩⟩
theorem Wd.drop (w : Wd K EE ca mu H S) (hc : p ∉ ca) : Wd K EE ca (mu.filter (· ≠ p)) H S := by
  have sub : ∀ a, a ∈ mu.filter (· ≠ p) → a ∈ mu := fun a h => (List.mem_filter.mp h).1
  refine ⟨w.len, w.nd, fun n a b h1 h2 => ?_, fun a ha => w.tm a (sub a ha), w.tb, w.tc⟩
  have hb := w.ob n a b h1 h2
  have na : a ≠ p := fun e => hc (by subst e; exact List.mem_of_getElem? h1)
  have mm : a ∈ mu → a ∈ mu.filter (· ≠ p) := fun q1 => List.mem_filter.mpr ⟨q1, by simpa using na⟩
  cases b with
  | lst xs => obtain ⟨q1, vs, q2, q3⟩ := hb; exact ⟨mm q1, vs, q2, IsL.mono sub _ q3⟩
  | dct xs => obtain ⟨q1, vs, q2, q3⟩ := hb; exact ⟨mm q1, vs, q2, IsK.mono sub _ q3⟩
  | ins c xs => obtain ⟨q1, dx, vs, q2, q3, q4⟩ := hb; exact ⟨mm q1, dx, vs, q2, q3, IsL.mono sub _ q4⟩
  | dead => trivial
end
/-! ### environments -/
structure RE (K : PySem.W.Frag) (EE : Ek) (ca mu : List Addr) (H : Hp) (σ : L2.St) (ρ : Env) : Prop where
  len : σ.length = ρ.length
  at_ : ∀ (i : Nat) (d : D), ρ[i]? = some (some d) → ∃ v, σ[i]? = some (some v) ∧ Is K EE ca mu H v d
theorem RE.ext {σ : L2.St} {ρ : Env} (h : RE K EE ca mu H σ ρ) (x : Ext ca mu H ca' mu' H') : RE K EE ca' mu' H' σ ρ :=
  ⟨h.len, fun i d e => let ⟨v, h1, h2⟩ := h.at_ i d e; ⟨v, h1, h2.ext x⟩⟩
theorem RE.set {σ : L2.St} {ρ : Env} {v : V} {d : D} (h : RE K EE ca mu H σ ρ) (i : Nat) (g : Is K EE ca mu H v d) : RE K EE ca mu H (σ.set i (some v)) (ρ.set i (some d)) := by
  refine ⟨by simp [h.len], fun j e q => ?_⟩
  by_cases hj : i = j
  · subst hj
    by_cases hl : i < ρ.length
    · rw [List.getElem?_set_self hl] at q
      cases q
      exact ⟨v, List.getElem?_set_self (by rw [h.len]; exact hl), g⟩
    · rw [List.getElem?_eq_none (by simpa using hl)] at q; cases q
  · rw [List.getElem?_set_ne hj] at q
    rw [List.getElem?_set_ne hj]
    exact h.at_ j e q
theorem wipeE_length (ρ : Env) : ∀ vs : List Nat, (wipeE ρ vs).length = ρ.length
  | [] => rfl
  | v :: vs => by unfold wipeE; rw [List.length_set, wipeE_length ρ vs]
theorem RE.wipe {σ : L2.St} {ρ : Env} (h : RE K EE ca mu H σ ρ) : ∀ vs : List Nat, RE K EE ca mu H (wipe σ vs) (wipeE ρ vs)
  | [] => h
  | v :: vs => by
    have ih := RE.wipe h vs
    refine ⟨by rw [wipe_length, wipeE_length, h.len], fun j e q => ?_⟩
    unfold wipeE at q
    unfold L2.wipe
    by_cases hj : v = j
    · subst hj
      by_cases hl : v < (wipeE ρ vs).length
      · rw [List.getElem?_set_self hl] at q; cases q
      · rw [List.getElem?_eq_none (by simpa using hl)] at q; cases q
    · rw [List.getElem?_set_ne hj] at q
      rw [List.getElem?_set_ne hj]
      exact ih.at_ j e q
end
/-! ### comparisons -/
mutual
def toP : D → PyData
  | .non => .none
  | .bl b => .bool b
  | .int i => .int i
  | .str s => .str s
  | .tup xs => .tuple (toPL xs)
  | .lst xs => .list (toPL xs)
  | _ => .none
def toPL : List D → List PyData
  | [] => []
  | x :: xs => toP x :: toPL xs
end
mutual
theorem eqv_toP : ∀ (k : Nat) (x y : D), shp k x = true → shp k y = true → PyData.eqv (toP x) (toP y) = eqD x y
  | k, .non, y, _, h => by cases y <;> first | rfl | (cases k <;> cases h)
  | k, .bl b, y, _, h => by cases y <;> first | rfl | (cases k <;> cases h)
  | k, .int i, y, _, h => by cases y <;> first | rfl | (cases k <;> cases h)
  | k, .str s, y, _, h => by cases y <;> first | rfl | (cases k <;> cases h)
  | 0, .tup xs, y, h, _ => by cases h
  | k + 1, .tup xs, y, h, h' => by
    cases y with
    | tup ys => exact eqv_toPL k xs ys h h'
    | _ => first | rfl | cases h'
  | 0, .lst xs, y, h, _ => by cases h
  | k + 1, .lst xs, y, h, h' => by
    cases y with
    | lst ys => exact eqv_toPL k xs ys h h'
    | _ => first | rfl | cases h'
  | k, .dic _, _, h, _ => by cases k <;> cases h
  | k, .ro _, _, h, _ => by cases k <;> cases h
  | k, .cell _, _, h, _ => by cases k <;> cases h
  | k, .fn _, _, h, _ => by cases k <;> cases h
  | k, .clo _ _ _, _, h, _ => by cases k <;> cases h
theorem eqv_toPL : ∀ (k : Nat) (xs ys : List D), shpL k xs = true → shpL k ys = true → PyData.eqvAll (toPL xs) (toPL ys) = eqL xs ys
  | _, [], [], _, _ => rfl
  | _, [], _ :: _, _, _ => rfl
  | _, _ :: _, [], _, _ => rfl
  | k, x :: xs, y :: ys, h, h' => by
    have h1 := Bool.and_eq_true_iff.mp (show (shp k x && shpL k xs) = true from h)
    have h2 := Bool.and_eq_true_iff.mp (show (shp k y && shpL k ys) = true from h')
    show (PyData.eqv (toP x) (toP y) && PyData.eqvAll (toPL xs) (toPL ys)) = (eqD x y && eqL xs ys)
    rw [eqv_toP k x y h1.1 h2.1, eqv_toPL k xs ys h1.2 h2.2]
end
mutual
theorem lay_toP : ∀ (k : Nat) (x : D), shp k x = true → (toP x).canLay0 = true ∧ (toP x).depth ≤ k
  | k, .non, _ => by constructor <;> simp [toP, PyData.canLay0, PyData.depth]
  | k, .bl b, _ => by constructor <;> simp [toP, PyData.canLay0, PyData.depth]
  | k, .int i, _ => by constructor <;> simp [toP, PyData.canLay0, PyData.depth]
  | k, .str s, h => by
    refine ⟨?_, by simp [toP, PyData.depth]⟩
    have h' : (s.cps.all (· < 0x110000)) = true := by cases k <;> exact h
    show PyData.strOk s = true
    exact h'
  | 0, .tup xs, h => by cases h
  | k + 1, .tup xs, h => by
    obtain ⟨h1, h2⟩ := lay_toPL k xs h
    exact ⟨by simpa [toP, PyData.canLay0] using h1, by simp only [toP, PyData.depth]; omega⟩
  | 0, .lst xs, h => by cases h
  | k + 1, .lst xs, h => by
    obtain ⟨h1, h2⟩ := lay_toPL k xs h
    exact ⟨by simpa [toP, PyData.canLay0] using h1, by simp only [toP, PyData.depth]; omega⟩
  | k, .dic _, h => by cases k <;> cases h
  | k, .ro _, h => by cases k <;> cases h
  | k, .cell _, h => by cases k <;> cases h
  | k, .fn _, h => by cases k <;> cases h
  | k, .clo _ _ _, h => by cases k <;> cases h
theorem lay_toPL : ∀ (k : Nat) (xs : List D), shpL k xs = true → PyData.canLayAll0 (toPL xs) = true ∧ PyData.depthAll (toPL xs) ≤ k
  | k, [], _ => by constructor <;> simp [toPL, PyData.canLayAll0, PyData.depthAll]
  | k, x :: xs, h => by
    have h1 := Bool.and_eq_true_iff.mp (show (shp k x && shpL k xs) = true from h)
    obtain ⟨a1, a2⟩ := lay_toP k x h1.1
    obtain ⟨b1, b2⟩ := lay_toPL k xs h1.2
    refine ⟨by simp only [toPL, PyData.canLayAll0, a1, b1, Bool.and_self], by simp only [toPL, PyData.depthAll]; omega⟩
end
theorem shaped_toP {x : D} (h : shp 64 x = true) : SeqAt.shaped (toP x) = true := by
  obtain ⟨h1, h2⟩ := lay_toP 64 x h
  unfold SeqAt.shaped
  rw [h1, decide_eq_true h2]
  rfl
mutual
theorem shp_succ : ∀ (k : Nat) (x : D), shp k x = true → shp (k + 1) x = true
  | k, .non, _ => rfl
  | k, .bl b, _ => rfl
  | k, .int i, _ => rfl
  | k, .str s, h => by cases k <;> exact h
  | 0, .tup xs, h => by cases h
  | k + 1, .tup xs, h => shpL_succ k xs h
  | 0, .lst xs, h => by cases h
  | k + 1, .lst xs, h => shpL_succ k xs h
  | k, .dic _, h => by cases k <;> cases h
  | k, .ro _, h => by cases k <;> cases h
  | k, .cell _, h => by cases k <;> cases h
  | k, .fn _, h => by cases k <;> cases h
  | k, .clo _ _ _, h => by cases k <;> cases h
theorem shpL_succ : ∀ (k : Nat) (xs : List D), shpL k xs = true → shpL (k + 1) xs = true
  | k, [], _ => rfl
  | k, x :: xs, h => by
    have h1 := Bool.and_eq_true_iff.mp (show (shp k x && shpL k xs) = true from h)
    show (shp (k + 1) x && shpL (k + 1) xs) = true
    rw [shp_succ k x h1.1, shpL_succ k xs h1.2]
    rfl
end
section
variable {K : PySem.W.Frag} {EE : Ek} {ca mu : List Addr} {H : Hp}
mutual
theorem Is.dp : ∀ (k : Nat) (d : D) {v : V}, shp k d = true → Is K EE ca mu H v d → Dp K H v (toP d)
  | k, .non, _, _, h => by cases h; exact .non
  | k, .bl b, _, _, h => by cases h; exact .bl b
  | k, .int i, _, _, h => by cases h; exact .int i
  | k, .str s, _, _, h => by cases h; exact .str s
  | 0, .tup xs, _, s, h => by cases s
  | k + 1, .tup xs, _, s, h => by cases h with | tup h1 h2 => exact .tup h1.sq (IsL.dp k xs s h2)
  | 0, .lst xs, _, s, h => by cases s
  | k + 1, .lst xs, _, s, h => by cases h with | lst h1 _ h2 => exact .lst (SqL.of h1) (IsL.dp k xs s h2)
  | k, .dic _, _, s, _ => by cases k <;> cases s
  | k, .ro _, _, s, _ => by cases k <;> cases s
  | k, .cell _, _, s, _ => by cases k <;> cases s
  | k, .fn _, _, s, _ => by cases k <;> cases s
  | k, .clo _ _ _, _, s, _ => by cases k <;> cases s
theorem IsL.dp : ∀ (k : Nat) (ds : List D) {vs : List V}, shpL k ds = true → IsL K EE ca mu H vs ds → DpAll K H vs (toPL ds)
  | k, [], _, _, h => by cases h; exact .nil
  | k, d :: ds, _, s, h => by
    have h1 := Bool.and_eq_true_iff.mp (show (shp k d && shpL k ds) = true from s)
    cases h with | cons a b => exact .cons (Is.dp k d h1.1 a) (IsL.dp k ds h1.2 b)
end
end
end KI


set_option Elab.async false
set_option linter.all false
set_option maxRecDepth 100000
set_option autoImplicit false
set_option maxHeartbeats 1000000
/-! What operators, subscripts and built-in functions do, by plain data. -/
namespace KI
open PySem PySem.Spec PyProof.Rows L2

/-- an exception in the heap: XA: where the classes stand -/
def XnR (K : PySem.W.Frag) (EE : Ek) (XA : Nat → Addr) (ca mu : List Addr) (H : Hp) (cls : Value) (dd : Option Addr) (x : Xn) : Prop :=
  (cls = .ref (XA x.cls) ∧ (EE.TB.xc x.cls).isSome = true) ∧ match x.fs with
    | [] => dd = none
    | fs => ∃ d vs, dd = some d ∧ d ∉ mu ∧ H d = some (.xd vs) ∧ vs.map (·.1) = fs.map (·.1) ∧ IsL K EE ca mu H (vs.map (·.2)) (fs.map (·.2))
/-- what is wanted behind a result -/
def okR (K : PySem.W.Frag) (EE : Ek) (XA : Nat → Addr) {α β : Type} (rel : List Addr → List Addr → Hp → β → α → Prop) (ca mu : List Addr) (H : Hp) (r : Res α) (Q : β → Hp → Prop) (W : XK) : Prop := match r with
  | .ok a S => ∀ b ca' mu' H', Ext ca mu H ca' mu' H' → Wd K EE ca' mu' H' S → rel ca' mu' H' b a → Q b H'
  | .exc x S => ∀ cls dd ca' mu' H', Ext ca mu H ca' mu' H' → Wd K EE ca' mu' H' S → XnR K EE XA ca' mu' H' cls dd x → W cls dd H'
  | .no => False
section
variable {K : PySem.W.Frag} {EE : Ek} {XA : Nat → Addr} {ca mu ca' mu' ca2 mu2 : List Addr} {H H' H2 : Hp} {S : Sto} {α β α' β' : Type} {rel : List Addr → List Addr → Hp → β → α → Prop} {rel' : List Addr → List Addr → Hp → β' → α' → Prop}
theorem okR.rebase {r : Res α} {Q : β → Hp → Prop} {W : XK} (h : okR K EE XA rel ca mu H r Q W) (x : Ext ca mu H ca' mu' H') : okR K EE XA rel ca' mu' H' r Q W := by
  cases r with
  | ok a S => exact fun b _ _ _ e w i => h b _ _ _ (x.trans e) w i
  | exc y S => exact fun c d _ _ _ e w i => h c d _ _ _ (x.trans e) w i
  | no => exact h
theorem okR.bind {r : Res α} {f : α → Sto → Res α'} {Q : β' → Hp → Prop} {W : XK} {R : β → Hp → Prop} (h : okR K EE XA rel' ca mu H (r.bind f) Q W)
    (k : ∀ a S b ca' mu' H', r = .ok a S → Ext ca mu H ca' mu' H' → Wd K EE ca' mu' H' S → rel ca' mu' H' b a → okR K EE XA rel' ca' mu' H' (f a S) Q W → R b H') : okR K EE XA rel ca mu H r R W := by
  cases r with
  | ok a S => exact fun b _ _ _ e w i => k a S b _ _ _ rfl e w i (okR.rebase h e)
  | exc y S => exact h
  | no => exact h
theorem okR.imp {r : Res α} {Q R : β → Hp → Prop} {W : XK} (h : okR K EE XA rel ca mu H r Q W) (k : ∀ a S b ca' mu' H', r = .ok a S → Ext ca mu H ca' mu' H' → Wd K EE ca' mu' H' S → rel ca' mu' H' b a → Q b H' → R b H') : okR K EE XA rel ca mu H r R W := by
  cases r with
  | ok a S => exact fun b _ _ _ e w i => k a S b _ _ _ rfl e w i (h b _ _ _ e w i)
  | exc y S => exact h
  | no => exact h
end
abbrev IsR (K : PySem.W.Frag) (EE : Ek) : List Addr → List Addr → Hp → V → D → Prop := fun ca mu H v d => Is K EE ca mu H v d
abbrev IsLR (K : PySem.W.Frag) (EE : Ek) : List Addr → List Addr → Hp → List V → List D → Prop := fun ca mu H v d => IsL K EE ca mu H v d
section
variable {K : PySem.W.Frag} {EE : Ek} {XA : Nat → Addr} {ca mu ca' mu' : List Addr} {H H' : Hp} {S : Sto} {Q : VK} {W : XK}
theorem got {d : D} {v : V} (w : Wd K EE ca mu H S) (i : Is K EE ca mu H v d) (h : okR K EE XA (IsR K EE) ca mu H (.ok d S) Q W) : Q v H := h v ca mu H Ext.refl w i
theorem newL {ds : List D} {vs : List V} (w : Wd K EE ca mu H S) (i : IsL K EE ca mu H vs ds) (h : okR K EE XA (IsR K EE) ca mu H (.ok (.lst ds) S) Q W) : ∀ p, H p = none → Q (.ref p) (upd H p (.lst vs)) :=
  fun p hp => h _ ca mu _ (Ext.new hp) (w.new hp) (.lst upd_same (w.fresh hp).1 (i.ext (Ext.new hp)))
theorem newT {ds : List D} {vs : List V} (w : Wd K EE ca mu H S) (i : IsL K EE ca mu H vs ds) (h : okR K EE XA (IsR K EE) ca mu H (.ok (.tup ds) S) Q W) : ∀ p, H p = none → Q (.ref p) (upd H p (.tup vs)) :=
  fun p hp => h _ ca mu _ (Ext.new hp) (w.new hp) (.tup (.inl ⟨.inl upd_same, (w.fresh hp).1⟩) (i.ext (Ext.new hp)))
theorem newD {ds : List (Key × D)} {vs : List (Key × V)} (w : Wd K EE ca mu H S) (i : IsK K EE ca mu H vs ds) (h : okR K EE XA (IsR K EE) ca mu H (.ok (.dic ds) S) Q W) : ∀ p, H p = none → Q (.ref p) (upd H p (.dK vs)) :=
  fun p hp => h _ ca mu _ (Ext.new hp) (w.new hp) (.dic upd_same (w.fresh hp).1 (i.ext (Ext.new hp)))
/-! ### + - * // % ** -/
theorem LN_eq : sizeLine = LN := sizeLine_eq
def rAddB : R2 := fun x y H Q => ∃ k i, x = .bl k ∧ y = .int i ∧ Q (.int ((if k = true then (1 : Int) else 0) + i)) H
theorem op_add_bi {X : Cx} : OpR X (binaryOp .Add) rAddB := by
  intro pins s σ H x y v u Q I rx ry h
  obtain ⟨k, i, rfl, rfl, q⟩ := h
  obtain ⟨t, rfl⟩ := ry
  cases rx
  exact PySem.IntBool.add_bool_int ⟨.int ((if k = true then (1 : Int) else 0) + i), H, I.tok _, ⟨_, rfl⟩, q⟩
def rAddA (K : PySem.W.Frag) : R2 := fun x y H Q => rAddB x y H Q ∨ (rI0 fun i j => .int (i + j)) x y H Q ∨ (∃ i j, x = .str i ∧ y = .str j ∧ i.length + j.length ≤ sizeLine ∧ Q (.str (i ++ j)) H) ∨ rCatA K x y H Q ∨ rCat x y H Q
theorem op_addA {X : Cx} : OpR X (binaryOp .Add) (rAddA X.K) := op_add_bi.or <| op_add.or (op_add_str.or (op_catA.or op_cat))
theorem add_ok {d e : D} {x y : V} (w : Wd K EE ca mu H S) (hd : Is K EE ca mu H x d) (he : Is K EE ca mu H y e) (h : okR K EE XA (IsR K EE) ca mu H (lift (binD .add d e) S) Q W) : rAddA K x y H Q := by
  cases hd with
  | int i =>
    cases he with
    | int j => exact .inr (.inl ⟨i, j, rfl, rfl, got w (.int _) h⟩)
    | _ => exact h.elim
  | bl k =>
    cases he with
    | int j => exact .inl ⟨k, j, rfl, rfl, got w (.int _) h⟩
    | _ => exact h.elim
  | str a =>
    cases he with
    | str b =>
      simp only [binD] at h
      split at h
      · rename_i hz
        exact .inr (.inr (.inl ⟨a, b, rfl, rfl, by rw [LN_eq]; exact hz, got w (.str _) h⟩))
      · exact h.elim
    | _ => exact h.elim
  | @tup _ a vs ds h1 h2 =>
    cases he with
    | @tup _ b us es g1 g2 =>
      simp only [binD] at h
      split at h
      · rename_i hz
        refine .inr (.inr (.inr (.inl ⟨a, b, vs, us, rfl, rfl, h1.sq, g1.sq, by rw [LN_eq, h2.length, g2.length]; exact hz, fun e => ?_, fun e1 e => ?_, fun e1 e2 => newT w (h2.append g2) h⟩)))
        · have e' := h2.nil_iff.mp e
          subst e'
          exact got w (.tup g1 g2) h
        · have e' := g2.nil_iff.mp e
          subst e'
          rw [List.append_nil] at h
          exact got w (.tup h1 h2) h
      · exact h.elim
    | _ => exact h.elim
  | @lst _ a vs ds h1 h2 h3 =>
    cases he with
    | @lst _ b us es g1 g2 g3 =>
      simp only [binD] at h
      split at h
      · rename_i hz
        exact .inr (.inr (.inr (.inr ⟨a, b, vs, us, rfl, rfl, h1, g1, by rw [LN_eq, h3.length, g3.length]; exact hz, newL w (h3.append g3) h⟩)))
      · exact h.elim
    | _ => exact h.elim
  | _ => exact h.elim
theorem sub_ok {d e : D} {x y : V} (w : Wd K EE ca mu H S) (hd : Is K EE ca mu H x d) (he : Is K EE ca mu H y e) (h : okR K EE XA (IsR K EE) ca mu H (lift (binD .sub d e) S) Q W) : (rI0 fun i j => V.int (i - j)) x y H Q := by
  cases hd with
  | int i =>
    cases he with
    | int j => exact ⟨i, j, rfl, rfl, got w (.int _) h⟩
    | _ => exact h.elim
  | _ => exact h.elim
/-- a text times a number -/
def rMulS : R2 := fun x y H Q => ∃ a k, x = .str a ∧ y = .int k ∧ 2 ≤ k ∧ k ≤ 1000 ∧ 1 ≤ a.length ∧ a.length ≤ 1000 ∧ Q (.str (PySem.Txt.mul a k)) H
theorem op_mulS {X : Cx} : OpR X (binaryOp .Mult) rMulS := by
  intro pins s σ H x y v u Q I rx ry h
  obtain ⟨a, k, rfl, rfl, h1, h2, h3, h4, q⟩ := h
  obtain ⟨t, rfl⟩ := rx
  obtain ⟨t2, rfl⟩ := ry
  refine SB.mul ⟨?_, fun _ _ => ?_, fun _ _ => ?_⟩ fun t' c => ⟨.str (PySem.Txt.mul a k), H, I.tok _, ⟨_, rfl⟩, q⟩
  · simp only [Bool.or_eq_false_iff, decide_eq_false_iff_not]
    omega
  · have : (1000 : Int) ≤ (2 ^ 63 - 1) / k := by
      rw [Int.le_ediv_iff_mul_le (by omega)]
      omega
    omega
  · have h5 : a.length * k.toNat ≤ 1000 * 1000 := Nat.mul_le_mul h4 (by omega)
    unfold Builtin.Str.tooLong
    simp only [decide_eq_false_iff_not]
    rw [sizeLine_eq]
    omega
def rMulA (K : PySem.W.Frag) : R2 := fun x y H Q => rMulS x y H Q ∨ (rI CMul fun i j => .int (i * j)) x y H Q ∨ rRep x y H Q ∨ rRepT K x y H Q
theorem op_mulA {X : Cx} : OpR X (binaryOp .Mult) (rMulA X.K) := op_mulS.or (op_mul.or (op_rep.or op_repT))
theorem mulOk_ok {i j : Int} (h : mulOk i j = true) : CMul i j := by
  unfold mulOk at h
  rcases Bool.or_eq_true_iff.mp h with h | h
  · exact .inl (of_decide_eq_true h)
  · exact .inr (of_decide_eq_true h)
theorem mul_ok {d e : D} {x y : V} (w : Wd K EE ca mu H S) (hd : Is K EE ca mu H x d) (he : Is K EE ca mu H y e) (h : okR K EE XA (IsR K EE) ca mu H (lift (binD .mul d e) S) Q W) : rMulA K x y H Q := by
  cases hd with
  | int i =>
    cases he with
    | int j =>
      simp only [binD] at h
      split at h
      · rename_i hz
        exact .inr (.inl ⟨i, j, rfl, rfl, mulOk_ok hz, got w (.int _) h⟩)
      · exact h.elim
    | _ => exact h.elim
  | str a =>
    cases he with
    | int k =>
      simp only [binD] at h
      split at h
      · rename_i hz
        obtain ⟨z1, z2, z3, z4⟩ := hz
        exact .inl ⟨a, k, rfl, rfl, z1, z2, z3, z4, got w (.str _) h⟩
      · exact h.elim
    | _ => exact h.elim
  | @tup _ a vs ds h1 h2 =>
    cases he with
    | int k =>
      simp only [binD] at h
      split at h
      · rename_i hz
        obtain ⟨z1, z2, z3, z4⟩ := hz
        refine .inr (.inr (.inr ⟨a, k, vs, rfl, rfl, h1.sq, fun e => z1 ?_, z2, z3, by rw [h2.length]; exact z4, newT w (h2.rep _) h⟩))
        rw [h2.nil_iff.mp e]
        rfl
      · exact h.elim
    | _ => exact h.elim
  | @lst _ a vs ds h1 h2 h3 =>
    cases he with
    | int k =>
      simp only [binD] at h
      split at h
      · rename_i hz
        obtain ⟨z1, z2, z3⟩ := hz
        exact .inr (.inr (.inl ⟨a, k, vs, rfl, rfl, h1, z1, z2, by rw [LN_eq, h3.length]; exact z3, newL w (h3.rep _) h⟩))
      · exact h.elim
    | _ => exact h.elim
  | _ => exact h.elim
theorem fdiv_ok {d e : D} {x y : V} (w : Wd K EE ca mu H S) (hd : Is K EE ca mu H x d) (he : Is K EE ca mu H y e) (h : okR K EE XA (IsR K EE) ca mu H (lift (binD .fdiv d e) S) Q W) : (rI CDivN fun i j => V.int (i.fdiv j)) x y H Q := by
  cases hd with
  | int i =>
    cases he with
    | int j =>
      simp only [binD] at h
      split at h
      · rename_i hz
        exact ⟨i, j, rfl, rfl, hz, got w (.int _) h⟩
      · exact h.elim
    | _ => exact h.elim
  | _ => exact h.elim
theorem mod_ok {d e : D} {x y : V} (w : Wd K EE ca mu H S) (hd : Is K EE ca mu H x d) (he : Is K EE ca mu H y e) (h : okR K EE XA (IsR K EE) ca mu H (lift (binD .mod d e) S) Q W) : (rI (fun _ j => j ≠ 0) fun i j => V.int (i.fmod j)) x y H Q := by
  cases hd with
  | int i =>
    cases he with
    | int j =>
      simp only [binD] at h
      split at h
      · rename_i hz
        exact ⟨i, j, rfl, rfl, hz, got w (.int _) h⟩
      · exact h.elim
    | _ => exact h.elim
  | _ => exact h.elim
theorem pow_ok {d e : D} {x y : V} (w : Wd K EE ca mu H S) (hd : Is K EE ca mu H x d) (he : Is K EE ca mu H y e) (h : okR K EE XA (IsR K EE) ca mu H (lift (binD .pow d e) S) Q W) : (rI CPow fun i j => V.int (i ^ j.toNat)) x y H Q := by
  cases hd with
  | int i =>
    cases he with
    | int j =>
      simp only [binD] at h
      split at h
      · rename_i hz
        exact ⟨i, j, rfl, rfl, hz, got w (.int _) h⟩
      · exact h.elim
    | _ => exact h.elim
  | _ => exact h.elim
def rBin (K : PySem.W.Frag) : Bop → R2
  | .add => rAddA K
  | .sub => rI0 fun i j => .int (i - j)
  | .mul => rMulA K
  | .fdiv => rI CDivN fun i j => .int (i.fdiv j)
  | .mod => rI (fun _ j => j ≠ 0) fun i j => .int (i.fmod j)
  | .pow => rI CPow fun i j => .int (i ^ j.toNat)
theorem op_bin {X : Cx} (o : Bop) : OpR X (binaryOp (opOf o)) (rBin X.K o) := by
  cases o
  · exact op_addA
  · exact op_sub
  · exact op_mulA
  · exact op_fdivN
  · exact op_modN
  · exact op_pow
theorem bin_ok {o : Bop} {d e : D} {x y : V} (w : Wd K EE ca mu H S) (hd : Is K EE ca mu H x d) (he : Is K EE ca mu H y e) (h : okR K EE XA (IsR K EE) ca mu H (lift (binD o d e) S) Q W) : rBin K o x y H Q := by
  cases o
  · exact add_ok w hd he h
  · exact sub_ok w hd he h
  · exact mul_ok w hd he h
  · exact fdiv_ok w hd he h
  · exact mod_ok w hd he h
  · exact pow_ok w hd he h
end
/-! ### comparisons -/
section
variable {X : Cx}
def rInT (K : PySem.W.Frag) (neg : Bool) : R2 := fun x y H Q => ∃ d ds, Dp K H x d ∧ Dp K H y (.tuple ds) ∧ SeqAt.shaped d = true ∧ SeqAt.shaped (.tuple ds) = true ∧ Q (.bl (neg ^^ ds.any fun z => PyData.eqv z d)) H
theorem room_in_t {ds : List PyData} {d : PyData} {A : Around} (sd : SeqAt.shaped d = true) (hu : A.units + 65 < cLine) : A.units + 1 + min (PyData.depthAll ds) d.depth < cLine := by
  have h1 := SeqAt.depth_of_shaped sd
  omega
theorem op_inT (hu : X.A.units + 65 < cLine) : OpR X (compareOp .In) (rInT X.K false) := by
  intro pins s σ H x y v u Q I rx ry h
  obtain ⟨d, ds, hd, he, sd, se, q⟩ := h
  obtain ⟨as, r1⟩ := Dp.reads I d x v hd rx
  obtain ⟨bs, r2⟩ := Dp.reads I (.tuple ds) y u he ry
  exact SeqAt.in_tuple_reads r2 r1 (SeqAt.canLay_of_shaped se) (SeqAt.canLay_of_shaped sd) (room_in_t sd hu) ⟨.bl _, H, I, rfl, by simpa using q⟩
theorem op_notInT (hu : X.A.units + 65 < cLine) : OpR X (compareOp .NotIn) (rInT X.K true) := by
  intro pins s σ H x y v u Q I rx ry h
  obtain ⟨d, ds, hd, he, sd, se, q⟩ := h
  obtain ⟨as, r1⟩ := Dp.reads I d x v hd rx
  obtain ⟨bs, r2⟩ := Dp.reads I (.tuple ds) y u he ry
  exact SeqAt.notIn_tuple_reads r2 r1 (SeqAt.canLay_of_shaped se) (SeqAt.canLay_of_shaped sd) (room_in_t sd hu) ⟨.bl _, H, I, rfl, by simpa using q⟩
end
def rCmp (K : PySem.W.Frag) : Cop → R2
  | .eq => rEqD K
  | .ne => rNeD K
  | .lt => rI0 fun i j => .bl (decide (i < j))
  | .le => rI0 fun i j => .bl (decide (i ≤ j))
  | .gt => rI0 fun i j => .bl (decide (j < i))
  | .ge => rI0 fun i j => .bl (decide (j ≤ i))
  | .isN => fun x y H Q => y = .non ∧ Q (.bl (decide (x = .non))) H
  | .notN => fun x y H Q => y = .non ∧ Q (.bl (!decide (x = .non))) H
  | .in_ => fun x y H Q => rInD K x y H Q ∨ rInT K false x y H Q
  | .nin => fun x y H Q => rNotInD K x y H Q ∨ rInT K true x y H Q
theorem op_cmp {X : Cx} (hu : X.A.units + 65 < cLine) (o : Cop) : OpR X (compareOp (copOf o)) (rCmp X.K o) := by
  cases o
  · exact op_eqD (by omega)
  · exact op_neD (by omega)
  · exact op_lt
  · exact op_le
  · exact op_gt
  · exact op_ge
  · exact op_isN
  · exact op_notN
  · exact (op_inD hu).or (op_inT hu)
  · exact (op_notInD hu).or (op_notInT hu)
section
variable {K : PySem.W.Frag} {EE : Ek} {XA : Nat → Addr} {ca mu : List Addr} {H : Hp} {S : Sto} {Q : VK} {W : XK}
theorem Is.non_iff {v : V} {d : D} (h : Is K EE ca mu H v d) : decide (v = .non) = isNon d := by
  cases h <;> rfl
theorem any_toPL (k : Nat) (x : D) (hx : shp (k + 1) x = true) : ∀ xs : List D, shpL k xs = true → ((toPL xs).any fun z => PyData.eqv z (toP x)) = xs.any fun y => eqD y x
  | [], _ => rfl
  | y :: ys, h => by
    have h1 := Bool.and_eq_true_iff.mp (show (shp k y && shpL k ys) = true from h)
    simp only [toPL, List.any_cons, any_toPL k x hx ys h1.2]
    rw [eqv_toP (k + 1) y x (shp_succ k y h1.1) hx]
/-- Q is handed the bool that a comparison tells -/
theorem cmp_ok {o : Cop} {d e : D} {x y : V} {R : VK} (hd : Is K EE ca mu H x d) (he : Is K EE ca mu H y e) {b : Bool} (hb : cmpD o d e = some b) (h : R (.bl b) H) : rCmp K o x y H R := by
  cases o with
  | eq =>
    simp only [cmpD] at hb
    split at hb
    · rename_i z
      obtain ⟨z1, z2⟩ := Bool.and_eq_true_iff.mp z
      cases hb
      exact ⟨toP d, toP e, hd.dp 64 _ z1, he.dp 64 _ z2, shaped_toP z1, shaped_toP z2, by rw [eqv_toP 64 d e z1 z2]; exact h⟩
    · cases hb
  | ne =>
    simp only [cmpD] at hb
    split at hb
    · rename_i z
      obtain ⟨z1, z2⟩ := Bool.and_eq_true_iff.mp z
      cases hb
      exact ⟨toP d, toP e, hd.dp 64 _ z1, he.dp 64 _ z2, shaped_toP z1, shaped_toP z2, by rw [eqv_toP 64 d e z1 z2]; exact h⟩
    · cases hb
  | lt => cases hd <;> cases he <;> first | (cases hb; done) | (cases hb; exact ⟨_, _, rfl, rfl, h⟩)
  | le => cases hd <;> cases he <;> first | (cases hb; done) | (cases hb; exact ⟨_, _, rfl, rfl, h⟩)
  | gt => cases hd <;> cases he <;> first | (cases hb; done) | (cases hb; exact ⟨_, _, rfl, rfl, h⟩)
  | ge => cases hd <;> cases he <;> first | (cases hb; done) | (cases hb; exact ⟨_, _, rfl, rfl, h⟩)
  | isN =>
    cases he with
    | non => cases hb; exact ⟨rfl, by rw [hd.non_iff]; exact h⟩
    | _ => cases hb
  | notN =>
    cases he with
    | non => cases hb; exact ⟨rfl, by rw [hd.non_iff]; exact h⟩
    | _ => cases hb
  | in_ =>
    cases he with
    | @tup _ a vs ds h1 h2 =>
      simp only [cmpD, items] at hb
      split at hb
      · rename_i z
        obtain ⟨z1, z2⟩ := Bool.and_eq_true_iff.mp z
        cases hb
        refine .inr ⟨toP d, toPL ds, hd.dp 64 _ z1, .tup h1.sq (h2.dp 63 _ z2), shaped_toP z1, shaped_toP (x := .tup ds) z2, ?_⟩
        rw [Bool.false_xor, any_toPL 63 d z1 ds z2]
        exact h
      · cases hb
    | @lst _ a vs ds h1 h2 h3 =>
      simp only [cmpD, items] at hb
      split at hb
      · rename_i z
        obtain ⟨z1, z2⟩ := Bool.and_eq_true_iff.mp z
        cases hb
        refine .inl ⟨toP d, toPL ds, hd.dp 64 _ z1, .lst (SqL.of h1) (h3.dp 63 _ z2), shaped_toP z1, shaped_toP (x := .lst ds) z2, ?_⟩
        rw [any_toPL 63 d z1 ds z2]
        exact h
      · cases hb
    | _ => cases hb
  | nin =>
    cases he with
    | @tup _ a vs ds h1 h2 =>
      simp only [cmpD, items] at hb
      split at hb
      · rename_i z
        obtain ⟨z1, z2⟩ := Bool.and_eq_true_iff.mp z
        cases hb
        refine .inr ⟨toP d, toPL ds, hd.dp 64 _ z1, .tup h1.sq (h2.dp 63 _ z2), shaped_toP z1, shaped_toP (x := .tup ds) z2, ?_⟩
        rw [Bool.true_xor, any_toPL 63 d z1 ds z2]
        exact h
      · cases hb
    | @lst _ a vs ds h1 h2 h3 =>
      simp only [cmpD, items] at hb
      split at hb
      · rename_i z
        obtain ⟨z1, z2⟩ := Bool.and_eq_true_iff.mp z
        cases hb
        refine .inl ⟨toP d, toPL ds, hd.dp 64 _ z1, .lst (SqL.of h1) (h3.dp 63 _ z2), shaped_toP z1, shaped_toP (x := .lst ds) z2, ?_⟩
        rw [any_toPL 63 d z1 ds z2]
        exact h
      · cases hb
    | _ => cases hb
end
end KI


set_option Elab.async false
set_option linter.all false
set_option maxRecDepth 100000
set_option autoImplicit false
set_option maxHeartbeats 1000000
/-! Subscripts, slices, built-in functions, what a loop walks. -/
namespace KI
open PySem PySem.Spec PyProof.Rows L2
section
variable {K : PySem.W.Frag} {EE : Ek} {XA : Nat → Addr} {ca mu ca' mu' : List Addr} {H H' : Hp} {S : Sto} {Q : VK} {W : XK}
/-! ### keys, dicts -/
theorem keyOf_kV {v : V} {d : D} {k : Key} (h : Is K EE ca mu H v d) (e : keyOf d = some k) : v = kV k := by
  cases h <;> cases e <;> rfl
theorem IsK.get {k : Key} {d : D} : ∀ {ds : List (Key × D)} {vs : List (Key × V)}, IsK K EE ca mu H vs ds → dicGet ds k = some d → ∃ v, valV vs k = some v ∧ Is K EE ca mu H v d
  | [], _, h, e => by cases e
  | (j, d') :: ds, _, h, e => by
    cases h with
    | @cons _ _ v vs _ _ h1 h2 =>
      unfold dicGet at e
      unfold valV
      rw [List.find?_cons] at e ⊢
      cases q : decide (j = k) with
      | true =>
        rw [q] at e
        dsimp only at e ⊢
        cases e
        exact ⟨v, rfl, h1⟩
      | false =>
        rw [q] at e
        exact IsK.get h2 e
theorem IsK.none {k : Key} : ∀ {ds : List (Key × D)} {vs : List (Key × V)}, IsK K EE ca mu H vs ds → dicGet ds k = none → valV vs k = none
  | [], _, h, e => by cases h; rfl
  | (j, d') :: ds, _, h, e => by
    cases h with
    | @cons _ _ v vs _ _ h1 h2 =>
      unfold dicGet at e
      unfold valV
      rw [List.find?_cons] at e ⊢
      cases q : decide (j = k) with
      | true =>
        rw [q] at e
        cases e
      | false =>
        rw [q] at e
        exact IsK.none h2 e
theorem IsK.any {k : Key} : ∀ {ds : List (Key × D)} {vs : List (Key × V)}, IsK K EE ca mu H vs ds → (vs.any fun kv => decide (kv.1 = k)) = ds.any fun kv => decide (kv.1 = k)
  | [], _, h => by cases h; rfl
  | (j, d') :: ds, _, h => by
    cases h with
    | cons h1 h2 => simp only [List.any_cons, IsK.any h2]
theorem IsK.mapPut {k : Key} {v : V} {d : D} (g : Is K EE ca mu H v d) : ∀ {ds : List (Key × D)} {vs : List (Key × V)}, IsK K EE ca mu H vs ds → IsK K EE ca mu H (vs.map fun kv => if kv.1 = k then (kv.1, v) else kv) (ds.map fun kv => if kv.1 = k then (kv.1, d) else kv)
  | [], _, h => by cases h; exact .nil
  | (j, d') :: ds, _, h => by
    cases h with
    | cons h1 h2 =>
      rw [List.map_cons, List.map_cons]
      by_cases e : j = k
      · simp only [if_pos e]; exact .cons g (IsK.mapPut g h2)
      · simp only [if_neg e]; exact .cons h1 (IsK.mapPut g h2)
theorem IsK.snoc {k : Key} {v : V} {d : D} (g : Is K EE ca mu H v d) : ∀ {ds : List (Key × D)} {vs : List (Key × V)}, IsK K EE ca mu H vs ds → IsK K EE ca mu H (vs ++ [(k, v)]) (ds ++ [(k, d)])
  | [], _, h => by cases h; exact .cons g .nil
  | (j, d') :: ds, _, h => by cases h with | cons h1 h2 => exact .cons h1 (IsK.snoc g h2)
theorem IsK.put {k : Key} {v : V} {d : D} {ds : List (Key × D)} {vs : List (Key × V)} (h : IsK K EE ca mu H vs ds) (g : Is K EE ca mu H v d) : IsK K EE ca mu H (putK vs k v) (dicPut ds k d) := by
  unfold putK dicPut
  rw [h.any]
  cases (ds.any fun kv => decide (kv.1 = k)) with
  | true => exact IsK.mapPut g h
  | false => exact IsK.snoc g h
theorem IsK.merge : ∀ (ps : List (Key × D)) {qs : List (Key × V)} {ds : List (Key × D)} {vs : List (Key × V)}, IsK K EE ca mu H vs ds → IsK K EE ca mu H qs ps → IsK K EE ca mu H (mergeK vs qs) (mergeD ds ps)
  | [], _, _, _, h, g => by cases g; exact h
  | (k, d) :: ps, _, ds, vs, h, g => by
    cases g with
    | @cons _ _ v qs _ _ g1 g2 =>
      have z := IsK.merge ps (h.put (k := k) g1) g2
      show IsK K EE ca mu H (mergeK (putK vs k v) qs) (mergeD (dicPut ds k d) ps)
      exact z
/-! ### a[i] -/
/-- the dict at a, its value at a key -/
theorem dic_get {a : Addr} {kvs : List (Key × V)} {kds : List (Key × D)} {y : V} {e d : D} {k : Key} (h1 : H a = some (.dK kvs)) (h2 : IsK K EE ca mu H kvs kds) (he : Is K EE ca mu H y e) (hk : keyOf e = some k) (hg : dicGet kds k = some d) :
    ∃ v, DGet H a y (some v) ∧ Is K EE ca mu H v d := by
  obtain ⟨v, q1, q2⟩ := h2.get hg
  have z : DGet H a (kV k) (valV kvs k) := DGet.k h1
  rw [q1, ← keyOf_kV he hk] at z
  exact ⟨v, z, q2⟩
def dicLike (S : Sto) : D → Bool
  | .dic _ => true
  | .cell n => (match S[n]? with
    | some (.dct _) => true
    | _ => false)
  | _ => false
/-- a subscript: a sequence's, or a dict's -/
theorem idx_ok {d e z : D} {x y : V} (w : Wd K EE ca mu H S) (hd : Is K EE ca mu H x d) (he : Is K EE ca mu H y e) (hz : idxD S d e = some z) :
    (dicLike S d = false ∧ ∃ v, Is K EE ca mu H v z ∧ ∀ R : VK, R v H → rIx K x y H R) ∨ (dicLike S d = true ∧ ∃ a v, x = .ref a ∧ DGet H a y (some v) ∧ Is K EE ca mu H v z) := by
  cases hd with
  | @tup _ a vs ds h1 h2 =>
    cases he with
    | int i => obtain ⟨v, q1, q2⟩ := h2.at_ hz; exact .inl ⟨rfl, v, q2, fun R r => .inr (.inl ⟨a, vs, i, v, rfl, rfl, h1.sq, q1, r⟩)⟩
    | _ => cases hz
  | @lst _ a vs ds h1 h2 h3 =>
    cases he with
    | int i => obtain ⟨v, q1, q2⟩ := h3.at_ hz; exact .inl ⟨rfl, v, q2, fun R r => .inl ⟨a, vs, i, v, rfl, rfl, SqL.of h1, q1, r⟩⟩
    | _ => cases hz
  | @ro _ a vs ds h1 h2 =>
    cases he with
    | int i => obtain ⟨v, q1, q2⟩ := h2.at_ hz; exact .inl ⟨rfl, v, q2, fun R r => .inl ⟨a, vs, i, v, rfl, rfl, h1.sq, q1, r⟩⟩
    | _ => cases hz
  | @dic _ a kvs kds h1 h2 h3 =>
    have hz : (keyOf e).bind (fun k => dicGet kds k) = some z := by cases he <;> exact hz
    cases hk : keyOf e with
    | none => rw [hk] at hz; cases hz
    | some k =>
      rw [hk] at hz
      obtain ⟨v, q1, q2⟩ := dic_get h1 h3 he hk hz
      exact .inr ⟨rfl, a, v, rfl, q1, q2⟩
  | @cell _ a n hc =>
    have hz : (match S[n]? with
      | some (.lst xs) => (match e with
        | .int i => atI xs i
        | _ => none)
      | some (.dct kvs) => (keyOf e).bind fun k => dicGet kvs k
      | _ => none) = some z := by cases he <;> exact hz
    cases hs : S[n]? with
    | none => rw [hs] at hz; cases hz
    | some o =>
      rw [hs] at hz
      have r := w.ob n a o hc hs
      cases o with
      | lst xs =>
        obtain ⟨_, vs, h1, h2⟩ := r
        cases he with
        | int i => obtain ⟨v, q1, q2⟩ := h2.at_ hz; exact .inl ⟨by simp only [dicLike, hs], v, q2, fun R r => .inl ⟨a, vs, i, v, rfl, rfl, SqL.of h1, q1, r⟩⟩
        | _ => cases hz
      | dct kds =>
        obtain ⟨_, kvs, h1, h2⟩ := r
        cases hk : keyOf e with
        | none => rw [hk] at hz; cases hz
        | some k =>
          rw [hk] at hz
          obtain ⟨v, q1, q2⟩ := dic_get h1 h2 he hk hz
          exact .inr ⟨by simp only [dicLike, hs], a, v, rfl, q1, q2⟩
      | ins _ _ => cases hz
      | dead => cases hz
  | _ => cases he <;> cases hz
/-! ### a[lo:hi] -/
def rCut (K : PySem.W.Frag) : V → Option Int → Option Int → Hp → VK → Prop := fun x lo hi H Q => rSlS x lo hi H Q ∨ rSlA K x lo hi H Q ∨ rSlL K x lo hi H Q
theorem sl_cut {X : Cx} : SlR X (rCut X.K) := sl_str.or (sl_tupA.or sl_list)
theorem sIx_le' (n : Nat) (o : Option Int) (d : Nat) (hd : d ≤ n) : HT.sIx n d o ≤ n := HT.sIx_le n d hd o
theorem cut_whole {α : Type} {xs : List α} {lo hi : Option Int} (h : HT.sIx xs.length 0 lo = 0 ∧ HT.sIx xs.length xs.length hi = xs.length) : cut xs lo hi = xs := by
  unfold cut
  rw [h.1, h.2]
  simp
theorem cut_ok {d : D} {x : V} {lo hi : Option Int} (w : Wd K EE ca mu H S) (hd : Is K EE ca mu H x d) (h : okR K EE XA (IsR K EE) ca mu H (lift (cutD d lo hi) S) Q W) : rCut K x lo hi H Q := by
  cases hd with
  | @tup _ a vs ds h1 h2 =>
    refine .inr (.inl ⟨a, vs, rfl, h1.sq, fun e => ?_, fun _ => newT w (h2.cut lo hi) h⟩)
    have e2 : cut ds lo hi = ds := cut_whole (by rw [← h2.length]; exact e)
    have h : okR K EE XA (IsR K EE) ca mu H (.ok (.tup (cut ds lo hi)) S) Q W := h
    rw [e2] at h
    exact got w (.tup h1 h2) h
  | @lst _ a vs ds h1 h2 h3 => exact .inr (.inr ⟨a, vs, rfl, SqL.of h1, newL w (h3.cut lo hi) h⟩)
  | str z =>
    simp only [cutD] at h
    split at h
    · rename_i hz
      exact .inl ⟨z, rfl, by rw [LN_eq]; exact hz, got w (.str _) h⟩
    · exact h.elim
  | _ => exact h.elim
/-! ### built-in functions -/
theorem intsD_ok : ∀ {ds : List D} {vs : List V} {ns : List Int}, IsL K EE ca mu H vs ds → intsD ds = some ns → vs = ns.map V.int
  | [], _, _, h, e => by cases h; cases e; rfl
  | d :: ds, _, _, h, e => by
    cases h with
    | cons h1 h2 =>
      cases h1 with
      | int i =>
        have e : (intsD ds).map (i :: ·) = some _ := e
        cases q : intsD ds with
        | none => rw [q] at e; cases e
        | some ns => rw [q] at e; cases e; rw [List.map_cons, intsD_ok h2 q]
      | _ => cases e
theorem boolsD_ok : ∀ {ds : List D} {vs : List V} {ns : List Bool}, IsL K EE ca mu H vs ds → boolsD ds = some ns → vs = ns.map V.bl
  | [], _, _, h, e => by cases h; cases e; rfl
  | d :: ds, _, _, h, e => by
    cases h with
    | cons h1 h2 =>
      cases h1 with
      | bl i =>
        have e : (boolsD ds).map (i :: ·) = some _ := e
        cases q : boolsD ds with
        | none => rw [q] at e; cases e
        | some ns => rw [q] at e; cases e; rw [List.map_cons, boolsD_ok h2 q]
      | _ => cases e
theorem minL_le : ∀ (xs : List Int) (m : Int), minL m xs ≤ m ∧ (∀ y ∈ xs, minL m xs ≤ y) ∧ (minL m xs = m ∨ minL m xs ∈ xs)
  | [], m => ⟨Int.le_refl _, fun y h => absurd h (by simp), Or.inl rfl⟩
  | x :: xs, m => by
    by_cases e : x < m
    · obtain ⟨h1, h2, h3⟩ := minL_le xs x
      rw [show minL m (x :: xs) = minL x xs by show minL (if x < m then x else m) xs = _; rw [if_pos e]]
      refine ⟨by omega, fun y hy => ?_, Or.inr ?_⟩
      · rcases List.mem_cons.mp hy with rfl | hy
        · exact h1
        · exact h2 y hy
      · rcases h3 with h3 | h3
        · rw [h3]; exact List.mem_cons_self
        · exact List.mem_cons_of_mem _ h3
    · obtain ⟨h1, h2, h3⟩ := minL_le xs m
      rw [show minL m (x :: xs) = minL m xs by show minL (if x < m then x else m) xs = _; rw [if_neg e]]
      refine ⟨h1, fun y hy => ?_, ?_⟩
      · rcases List.mem_cons.mp hy with rfl | hy
        · omega
        · exact h2 y hy
      · rcases h3 with h3 | h3
        · exact Or.inl h3
        · exact Or.inr (List.mem_cons_of_mem _ h3)
theorem maxL_ge : ∀ (xs : List Int) (m : Int), m ≤ maxL m xs ∧ (∀ y ∈ xs, y ≤ maxL m xs) ∧ (maxL m xs = m ∨ maxL m xs ∈ xs)
  | [], m => ⟨Int.le_refl _, fun y h => absurd h (by simp), Or.inl rfl⟩
  | x :: xs, m => by
    by_cases e : x > m
    · obtain ⟨h1, h2, h3⟩ := maxL_ge xs x
      rw [show maxL m (x :: xs) = maxL x xs by show maxL (if x > m then x else m) xs = _; rw [if_pos e]]
      refine ⟨by omega, fun y hy => ?_, Or.inr ?_⟩
      · rcases List.mem_cons.mp hy with rfl | hy
        · exact h1
        · exact h2 y hy
      · rcases h3 with h3 | h3
        · rw [h3]; exact List.mem_cons_self
        · exact List.mem_cons_of_mem _ h3
    · obtain ⟨h1, h2, h3⟩ := maxL_ge xs m
      rw [show maxL m (x :: xs) = maxL m xs by show maxL (if x > m then x else m) xs = _; rw [if_neg e]]
      refine ⟨h1, fun y hy => ?_, ?_⟩
      · rcases List.mem_cons.mp hy with rfl | hy
        · omega
        · exact h2 y hy
      · rcases h3 with h3 | h3
        · exact Or.inl h3
        · exact Or.inr (List.mem_cons_of_mem _ h3)
def biTy : Bi → Bool
  | .int => true | .str => true | .list => true | .tuple => true | .dict => true | .bool => true
  | _ => false
def biVal (b : Bi) : Value := if biTy b then .type (biId b) else .builtin (biId b)
def biN : Bi → Nat
  | .min2 => 2 | .max2 => 2
  | _ => 1
def rBi (K : PySem.W.Frag) : Bi → List V → Hp → VK → Prop
  | .len => fun xs H Q => ∃ x n, xs = [x] ∧ LenV K x H n ∧ Q (.int n) H
  | .abs => fun xs H Q => ∃ i, xs = [.int i] ∧ Q (.int (if i < 0 then -i else i)) H
  | .int => fun xs H Q => (∃ a n, xs = [.str a] ∧ PySem.intText? a = some n ∧ a.length ≤ 640 ∧ Q (.int n) H) ∨ ((∃ i, xs = [.int i] ∧ Q (.int i) H) ∨ ∃ k, xs = [.bl k] ∧ Q (.int (if k then 1 else 0)) H)
  | .bool => fun xs H Q => (∃ i, xs = [.int i] ∧ Q (.bl (i != 0)) H) ∨ ∃ k, xs = [.bl k] ∧ Q (.bl k) H
  | .str => fun xs H Q => (∃ a, xs = [.str a] ∧ Q (.str a) H) ∨ ∃ i, xs = [.int i] ∧ i.natAbs.log2 < 1920 ∧ Q (.str (toString i)) H
  | .min1 => rMin K
  | .max1 => rMax K
  | .min2 => fun xs H Q => ∃ i j, xs = [.int i, .int j] ∧ Q (.int (if j < i then j else i)) H
  | .max2 => fun xs H Q => ∃ i j, xs = [.int i, .int j] ∧ Q (.int (if j > i then j else i)) H
  | .all => rAll K
  | .any => rAny K
  | .sum => rSum K
  | .list => fun xs H Q => ∃ p ys, xs = [.ref p] ∧ (SqL K H p ys ∨ SqT K H p ys) ∧ ∀ l, H l = none → Q (.ref l) (upd H l (.lst ys))
  | .tuple => fun xs H Q => ∃ p ys, xs = [.ref p] ∧ ((SqL K H p ys ∧ ∀ l, H l = none → Q (.ref l) (upd H l (.tup ys))) ∨ (SqT K H p ys ∧ Q (.ref p) H))
  | .dict => fun xs H Q => ∃ (a : Addr) (ps : List Addr) (kvs : List (Key × V)), xs = [.ref a] ∧ SqL K H a (ps.map V.ref) ∧ Paired (fun p kv => SqT K H p [kV kv.1, kv.2]) ps kvs ∧ ∀ p, H p = none → Q (.ref p) (upd H p (.dK (mergeK [] kvs)))
theorem cr_bi {X : Cx} (hc : X.calm = true) (b : Bi) : CallR X (biVal b) (rBi X.K b) := by
  cases b
  · exact call_len
  · exact call_abs
  · exact call_int_str.or call_int1
  · exact SkE.call_str_str.or call_str_int
  · exact cr_min hc
  · exact cr_max hc
  · exact call_min2 hc
  · exact call_max2 hc
  · exact cr_all hc
  · exact cr_any hc
  · exact cr_sum hc
  · exact call_list_of
  · exact call_tuple_of
  · exact call_dictP hc
  · exact call_bool1
theorem pairsOf_ok : ∀ {ds : List D} {vs : List V} {ps : List (Key × D)}, IsL K EE ca mu H vs ds → pairsOf ds = some ps → ∃ (as : List Addr) (qs : List (Key × V)), vs = as.map V.ref ∧ Paired (fun p kv => SqT K H p [kV kv.1, kv.2]) as qs ∧ IsK K EE ca mu H qs ps
  | [], _, _, h, e => by cases h; cases e; exact ⟨[], [], rfl, .nil, .nil⟩
  | d :: ds, _, _, h, e => by
    cases h with
    | cons h1 h2 =>
      cases h1 with
      | @tup _ a us es g1 g2 =>
        cases es with
        | nil => cases e
        | cons k es =>
          cases es with
          | nil => cases e
          | cons z es =>
            cases es with
            | cons _ _ => cases e
            | nil =>
              cases g2 with
              | cons k1 g2 =>
                cases g2 with
                | cons z1 g2 =>
                  cases g2
                  have e : (keyOf k).bind (fun k => (pairsOf ds).map ((k, z) :: ·)) = some _ := e
                  cases hk : keyOf k with
                  | none => rw [hk] at e; cases e
                  | some kk =>
                    rw [hk] at e
                    have e : (pairsOf ds).map ((kk, z) :: ·) = some _ := e
                    cases q : pairsOf ds with
                    | none => rw [q] at e; cases e
                    | some ps =>
                      rw [q] at e
                      cases e
                      obtain ⟨as, qs, r1, r2, r3⟩ := pairsOf_ok h2 q
                      have ek := keyOf_kV k1 hk
                      subst ek
                      exact ⟨a :: as, (kk, _) :: qs, by rw [r1]; rfl, .cons g1.sq r2, .cons z1 r3⟩
      | _ => cases e
theorem bi_ok {b : Bi} {ds : List D} {vs : List V} (w : Wd K EE ca mu H S) (hd : IsL K EE ca mu H vs ds) (h : okR K EE XA (IsR K EE) ca mu H (lift (biD S b ds) S) Q W) : rBi K b vs H Q := by
  cases hd with
  | nil => cases b <;> exact h.elim
  | @cons _ v vs d ds h1 h2 =>
    cases h2 with
    | nil =>
      cases b with
      | len =>
        cases h1 with
        | @tup _ a us es g1 g2 => exact ⟨_, us.length, rfl, .inr ⟨us, g1.sq, rfl⟩, by rw [g2.length]; exact got w (.int _) h⟩
        | @lst _ a us es g1 g2 g3 => exact ⟨_, us.length, rfl, .inl ⟨us, SqL.of g1, rfl⟩, by rw [g3.length]; exact got w (.int _) h⟩
        | @ro _ a us es g1 g2 => exact ⟨_, us.length, rfl, .inl ⟨us, g1.sq, rfl⟩, by rw [g2.length]; exact got w (.int _) h⟩
        | str x =>
          simp only [biD] at h
          split at h
          · rename_i z
            exact ⟨_, x.length, rfl, ⟨by rw [LN_eq]; exact z, rfl⟩, got w (.int _) h⟩
          · exact h.elim
        | _ => exact h.elim
      | abs => cases h1 <;> first | exact h.elim | exact ⟨_, rfl, got w (.int _) h⟩
      | int =>
        cases h1 with
        | int i => exact .inr (.inl ⟨_, rfl, got w (.int _) h⟩)
        | bl k => exact .inr (.inr ⟨_, rfl, got w (.int _) h⟩)
        | str x =>
          simp only [biD] at h
          split at h
          · rename_i z
            cases q : PySem.intText? x with
            | none => rw [q] at h; exact h.elim
            | some n => rw [q] at h; exact .inl ⟨x, n, rfl, q, z, got w (.int _) h⟩
          · exact h.elim
        | _ => exact h.elim
      | bool => cases h1 <;> first | exact h.elim | exact .inr ⟨_, rfl, got w (.bl _) h⟩
      | str =>
        cases h1 with
        | int i =>
          simp only [biD] at h
          split at h
          · rename_i z
            exact .inr ⟨i, rfl, z, got w (.str _) h⟩
          · exact h.elim
        | str x => exact .inl ⟨x, rfl, got w (.str _) h⟩
        | _ => exact h.elim
      | min1 =>
        cases h1 with
        | @lst _ a us es g1 g2 g3 =>
          simp only [biD] at h
          cases q : intsD es with
          | none => rw [q] at h; exact h.elim
          | some ns =>
            rw [q] at h
            cases ns with
            | nil => exact h.elim
            | cons m r =>
              have ev := intsD_ok g3 q
              subst ev
              refine ⟨a, m :: r, rfl, SqL.of g1, by simp, fun z h1 h2 => ?_⟩
              obtain ⟨a1, a2, a3⟩ := minL_le r m
              have e : z = minL m r := by
                have b1 : z ≤ minL m r := by
                  rcases a3 with a3 | a3
                  · rw [a3]; exact h2 m List.mem_cons_self
                  · exact h2 _ (List.mem_cons_of_mem _ a3)
                have b2 : minL m r ≤ z := by
                  rcases List.mem_cons.mp h1 with e | e
                  · rw [e]; exact a1
                  · exact a2 z e
                omega
              rw [e]
              exact got w (.int _) h
        | _ => exact h.elim
      | max1 =>
        cases h1 with
        | @lst _ a us es g1 g2 g3 =>
          simp only [biD] at h
          cases q : intsD es with
          | none => rw [q] at h; exact h.elim
          | some ns =>
            rw [q] at h
            cases ns with
            | nil => exact h.elim
            | cons m r =>
              have ev := intsD_ok g3 q
              subst ev
              refine ⟨a, m :: r, rfl, SqL.of g1, by simp, fun z h1 h2 => ?_⟩
              obtain ⟨a1, a2, a3⟩ := maxL_ge r m
              have e : z = maxL m r := by
                have b1 : maxL m r ≤ z := by
                  rcases a3 with a3 | a3
                  · rw [a3]; exact h2 m List.mem_cons_self
                  · exact h2 _ (List.mem_cons_of_mem _ a3)
                have b2 : z ≤ maxL m r := by
                  rcases List.mem_cons.mp h1 with e | e
                  · rw [e]; exact a1
                  · exact a2 z e
                omega
              rw [e]
              exact got w (.int _) h
        | _ => exact h.elim
      | min2 => cases h1 <;> exact h.elim
      | max2 => cases h1 <;> exact h.elim
      | all =>
        cases h1 with
        | @lst _ a us es g1 g2 g3 =>
          simp only [biD] at h
          cases q : boolsD es with
          | none => rw [q] at h; exact h.elim
          | some ns =>
            rw [q] at h
            have ev := boolsD_ok g3 q
            subst ev
            exact ⟨a, ns, rfl, SqL.of g1, got w (.bl _) h⟩
        | _ => exact h.elim
      | any =>
        cases h1 with
        | @lst _ a us es g1 g2 g3 =>
          simp only [biD] at h
          cases q : boolsD es with
          | none => rw [q] at h; exact h.elim
          | some ns =>
            rw [q] at h
            have ev := boolsD_ok g3 q
            subst ev
            exact ⟨a, ns, rfl, SqL.of g1, got w (.bl _) h⟩
        | _ => exact h.elim
      | sum =>
        cases h1 with
        | @lst _ a us es g1 g2 g3 =>
          simp only [biD] at h
          cases q : intsD es with
          | none => rw [q] at h; exact h.elim
          | some ns =>
            rw [q] at h
            have ev := intsD_ok g3 q
            subst ev
            exact ⟨a, ns, rfl, SqL.of g1, got w (.int _) h⟩
        | _ => exact h.elim
      | list =>
        cases h1 with
        | @lst _ a us es g1 g2 g3 => exact ⟨a, us, rfl, .inl (SqL.of g1), newL w g3 h⟩
        | @tup _ a us es g1 g2 => exact ⟨a, us, rfl, .inr g1.sq, newL w g2 h⟩
        | _ => exact h.elim
      | tuple =>
        cases h1 with
        | @lst _ a us es g1 g2 g3 => exact ⟨a, us, rfl, .inl ⟨SqL.of g1, newT w g3 h⟩⟩
        | @tup _ a us es g1 g2 => exact ⟨a, us, rfl, .inr ⟨g1.sq, got w (.tup g1 g2) h⟩⟩
        | _ => exact h.elim
      | dict =>
        cases h1 with
        | @lst _ a us es g1 g2 g3 =>
          simp only [biD] at h
          cases q : pairsOf es with
          | none => rw [q] at h; exact h.elim
          | some ps =>
            rw [q] at h
            obtain ⟨as, qs, r1, r2, r3⟩ := pairsOf_ok g3 q
            subst r1
            exact ⟨a, as, qs, rfl, SqL.of g1, r2, newD w (IsK.merge _ .nil r3) h⟩
        | _ => exact h.elim
    | @cons _ v2 vs d2 ds g1 g2 =>
      cases g2 with
      | cons _ _ => cases b <;> cases h1 <;> cases g1 <;> exact h.elim
      | nil =>
        cases b with
        | min2 => cases h1 <;> cases g1 <;> first | exact h.elim | exact ⟨_, _, rfl, got w (.int _) h⟩
        | max2 => cases h1 <;> cases g1 <;> first | exact h.elim | exact ⟨_, _, rfl, got w (.int _) h⟩
        | _ => cases h1 <;> cases g1 <;> exact h.elim
/-! ### isinstance -/
theorem kit_all : ∀ (a b : Ty), kitB (tyName a) (tyName b) = some (match a, b with
    | .bool, .int => true
    | a, b => decide (a = b)) := by
  intro a b
  cases a <;> cases b <;> decide +kernel
theorem kit_non : ∀ b : Ty, kitB "NoneType" (tyName b) = some false := by
  intro b
  cases b <;> decide +kernel
theorem isi_ok {t : Ty} {d : D} {x : V} {b : Bool} (hd : Is K EE ca mu H x d) (hb : isTy t d = some b) : ∃ T, TyX K H x T ∧ PySem.W.kitOne K T (.type (tyName t)) = some b := by
  cases hd with
  | non => refine ⟨_, .base .non, kit_ty ?_⟩; rw [kit_non t, ← hb]; cases t <;> rfl
  | bl k => refine ⟨_, .base (.bl k), kit_ty ?_⟩; rw [show "bool" = tyName .bool from rfl, kit_all .bool t, ← hb]; cases t <;> rfl
  | int k => refine ⟨_, .base (.int k), kit_ty ?_⟩; rw [show "int" = tyName .int from rfl, kit_all .int t, ← hb]; cases t <;> rfl
  | str k => refine ⟨_, .base (.str k), kit_ty ?_⟩; rw [show "str" = tyName .str from rfl, kit_all .str t, ← hb]; cases t <;> rfl
  | @tup _ a vs ds h1 h2 =>
    have e : kitB "tuple" (tyName t) = some b := by rw [show "tuple" = tyName .tuple from rfl, kit_all .tuple t, ← hb]; cases t <;> rfl
    rcases h1 with ⟨h1 | ⟨o, h1⟩, _⟩ | ⟨o, its, n, h1, h3, _⟩
    · exact ⟨_, .base (.tup h1), kit_ty e⟩
    · exact ⟨_, .fTuple h1, kit_ty e⟩
    · exact ⟨_, .kTuple h1 h3, kit_ty e⟩
  | @lst _ a vs ds h1 h2 h3 =>
    have e : kitB "list" (tyName t) = some b := by rw [show "list" = tyName .list from rfl, kit_all .list t, ← hb]; cases t <;> rfl
    exact ⟨_, .base (.lst h1), kit_ty e⟩
  | @ro _ a vs ds h1 h2 =>
    have e : kitB "list" (tyName t) = some b := by rw [show "list" = tyName .list from rfl, kit_all .list t, ← hb]; cases t <;> rfl
    rcases h1 with ⟨h1 | ⟨o, h1⟩, _⟩ | ⟨o, its, n, h1, h3, _⟩
    · exact ⟨_, .base (.lst h1), kit_ty e⟩
    · exact ⟨_, .base (.frz h1), kit_ty e⟩
    · exact ⟨_, .kList h1 h3, kit_ty e⟩
  | dic _ _ _ => cases t <;> cases hb
  | cell _ => cases t <;> cases hb
  | fn _ _ => cases t <;> cases hb
  | clo _ _ _ _ _ _ _ => cases t <;> cases hb
end
end KI


set_option Elab.async false
set_option linter.all false
set_option maxRecDepth 100000
set_option autoImplicit false
set_option maxHeartbeats 1000000
/-! Expressions: the reading of each piece of code, and that the text's expression has it. -/
namespace KI
open PySem PySem.Spec PyProof.Rows L2

theorem Is.ex {K : PySem.W.Frag} {EE : Ek} {ca mu ca' mu' : List Addr} {H H' : Hp} {v : V} {d : D} (h : Is K EE ca mu H v d) (x : Ext ca mu H ca' mu' H') : Is K EE ca' mu' H' v d := Is.ext x d h
theorem IsL.ex {K : PySem.W.Frag} {EE : Ek} {ca mu ca' mu' : List Addr} {H H' : Hp} {v : List V} {d : List D} (h : IsL K EE ca mu H v d) (x : Ext ca mu H ca' mu' H') : IsL K EE ca' mu' H' v d := IsL.ext x d h
theorem IsK.ex {K : PySem.W.Frag} {EE : Ek} {ca mu ca' mu' : List Addr} {H H' : Hp} {v : List (Key × V)} {d : List (Key × D)} (h : IsK K EE ca mu H v d) (x : Ext ca mu H ca' mu' H') : IsK K EE ca' mu' H' v d := IsK.ext x d h
/-! ### weaker readings -/
section
variable {X : Cx} {e : Expr} {t u : TE}
theorem PEimp (h : PE X e t) (w : ∀ σ H Q, u σ H Q → t σ H Q) : PE X e u := ⟨fun pins s σ H Q I hu => h.run pins s σ H Q I (w _ _ _ hu)⟩
theorem PEor (h : PE X e t) (g : PE X e u) : PE X e (fun σ H Q => t σ H Q ∨ u σ H Q) := ⟨fun pins s σ H Q I hu => hu.elim (h.run pins s σ H Q I) (g.run pins s σ H Q I)⟩
theorem PTimp {t u : TT} (h : PT X e t) (w : ∀ σ H Q, u σ H Q → t σ H Q) : PT X e u := ⟨fun pins s σ H Q I hu => h.run pins s σ H Q I (w _ _ _ hu)⟩
theorem PWimp {t u : TT} (h : PW X e t) (w : ∀ σ H Q, u σ H Q → t σ H Q) : PW X e u := ⟨fun wh pins s σ H Q I hu => h.run wh pins s σ H Q I (w _ _ _ hu)⟩
theorem PAimp {es : List Expr} {t u : TA} (h : PA X es t) (w : ∀ σ H Q, u σ H Q → t σ H Q) : PA X es u := ⟨fun pos pins s σ H Q I hu => h.run pos pins s σ H Q I (w _ _ _ hu)⟩
theorem POimp {o : Option Expr} {t u : TO} (h : PO X o t) (w : ∀ σ H Q, u σ H Q → t σ H Q) : PO X o u := ⟨fun pins s σ H Q I hu => h.run pins s σ H Q I (w _ _ _ hu)⟩
theorem PIimp {tg it : Expr} {t u : TI} (h : PI X tg it t) (w : ∀ σ H Q, u σ H Q → t σ H Q) : PI X tg it u := ⟨fun pins s σ H Q I hu => h.run pins s σ H Q I (w _ _ _ hu)⟩
theorem PIor {tg it : Expr} {t u : TI} (h : PI X tg it t) (g : PI X tg it u) : PI X tg it (fun σ H Q => t σ H Q ∨ u σ H Q) := ⟨fun pins s σ H Q I hu => hu.elim (h.run pins s σ H Q I) (g.run pins s σ H Q I)⟩
theorem PGor {tg : Expr} {t u : TG} (h : PG X tg t) (g : PG X tg u) : PG X tg (fun v σ H Q => t v σ H Q ∨ u v σ H Q) := ⟨fun pins s σ H v w Q I r hu => hu.elim (h.run pins s σ H v w Q I r) (g.run pins s σ H v w Q I r)⟩
theorem PGimp {tg : Expr} {t u : TG} (h : PG X tg t) (k : ∀ v σ H Q, u v σ H Q → t v σ H Q) : PG X tg u := ⟨fun pins s σ H v w Q I r hu => h.run pins s σ H v w Q I r (k _ _ _ _ hu)⟩
theorem PGsimp {tg : List Expr} {t u : TGs} (h : PGs X tg t) (k : ∀ v σ H Q, u v σ H Q → t v σ H Q) : PGs X tg u := ⟨fun pins s σ H v w Q I r hu => h.run pins s σ H v w Q I r (k _ _ _ _ hu)⟩
end
/-! ### readings -/
/-- what the code is run with -/
structure En where
  EE : Ek
  XA : Nat → Addr
  cons : Nat → D
  call : Call
/-- what a walked thing gives, turn by turn -/
structure WalkD (K : PySem.W.Frag) (EE : Ek) (J : L2.It) (ca0 mu0 : List Addr) (H0 : Hp) (xs : List D) : Prop where
  goes : ∀ i ca mu H, i < xs.length → Ext ca0 mu0 H0 ca mu H → J.go i H
  stops : ∀ ca mu H, Ext ca0 mu0 H0 ca mu H → J.stop xs.length H
  yields : ∀ i x ca mu H H' S, i < xs.length → Ext ca0 mu0 H0 ca mu H → Wd K EE ca mu H S → J.yld i H x H' → ∃ d, xs[i]? = some d ∧ Ext ca mu H ca mu H' ∧ Wd K EE ca mu H' S ∧ Is K EE ca mu H' x d
abbrev WalkR (K : PySem.W.Frag) (EE : Ek) : List Addr → List Addr → Hp → L2.It → List D → Prop := fun ca mu H J xs => WalkD K EE J ca mu H xs
/-- a reading by an evaluation -/
def Rd0 (K : PySem.W.Frag) (G : En) {α β : Type} (rel : List Addr → List Addr → Hp → β → α → Prop) (f : Env → Sto → Res α) (W : WX) (σ : L2.St) (H : Hp) (Q : β → Hp → Prop) : Prop :=
  ∃ ca mu ρ S, Wd K G.EE ca mu H S ∧ RE K G.EE ca mu H σ ρ ∧ okR K G.EE G.XA rel ca mu H (f ρ S) Q (fun c d H' => W c d σ H')
abbrev RdE (K : PySem.W.Frag) (G : En) (W : WX) (e : Ex) : TE := Rd0 K G (IsR K G.EE) (ev G.cons G.call e) W
abbrev RdA (K : PySem.W.Frag) (G : En) (W : WX) (es : Exs) : TA := Rd0 K G (IsLR K G.EE) (evs G.cons G.call es) W
abbrev RdO (K : PySem.W.Frag) (G : En) (W : WX) (o : Oe) : TO := Rd0 K G (fun _ _ _ (b a : Option Int) => b = a) (evo G.cons G.call o) W
abbrev RdI (K : PySem.W.Frag) (G : En) (W : WX) (it : It) : TI := Rd0 K G (WalkR K G.EE) (evi G.cons G.call it) W
abbrev RdT (K : PySem.W.Frag) (G : En) (W : WX) (e : Ex) : TT := fun σ H Q => RdE K G W e σ H fun v H' => ∃ b, v = .bl b ∧ Q b H'
section
variable {K : PySem.W.Frag} {G : En} {ca mu : List Addr} {H : Hp} {σ : L2.St} {ρ : Env} {S : Sto} {α β α' β' : Type} {rel : List Addr → List Addr → Hp → β → α → Prop} {rel' : List Addr → List Addr → Hp → β' → α' → Prop} {W : WX}
theorem step {f : Env → Sto → Res α} {g : α → Sto → Res α'} {Q : β' → Hp → Prop} {R : β → Hp → Prop} (w : Wd K G.EE ca mu H S) (re : RE K G.EE ca mu H σ ρ) (h : okR K G.EE G.XA rel' ca mu H ((f ρ S).bind g) Q (fun c d H' => W c d σ H'))
    (k : ∀ a S' b ca' mu' H', Ext ca mu H ca' mu' H' → Wd K G.EE ca' mu' H' S' → RE K G.EE ca' mu' H' σ ρ → rel ca' mu' H' b a → okR K G.EE G.XA rel' ca' mu' H' (g a S') Q (fun c d H' => W c d σ H') → R b H') : Rd0 K G rel f W σ H R :=
  ⟨ca, mu, ρ, S, w, re, okR.bind h fun a S' b ca' mu' H' _ e w' i h' => k a S' b ca' mu' H' e w' (re.ext e) i h'⟩
/-- the last of a row -/
theorem last {f : Env → Sto → Res α} {Q : β → Hp → Prop} (w : Wd K G.EE ca mu H S) (re : RE K G.EE ca mu H σ ρ) (h : okR K G.EE G.XA rel ca mu H (f ρ S) Q (fun c d H' => W c d σ H')) : Rd0 K G rel f W σ H Q := ⟨ca, mu, ρ, S, w, re, h⟩
end
/-! ### the pieces -/
section
variable {X : Cx} {G : En} {W : WX} {a b c : Ex} {ea eb ec : Expr} {pos : Pos}
theorem snd_int {i : Int} {j : Nat} : PE X (.Constant (.int i) j pos) (RdE X.K G W (.int i)) := PEimp pe_int fun σ H Q ⟨ca, mu, ρ, S, w, re, h⟩ => got w (.int i) h
theorem snd_bl {i : Bool} {j : Nat} : PE X (.Constant (.bool i) j pos) (RdE X.K G W (.bl i)) := PEimp pe_bl fun σ H Q ⟨ca, mu, ρ, S, w, re, h⟩ => got w (.bl i) h
theorem snd_non {j : Nat} : PE X (.Constant .none j pos) (RdE X.K G W .non) := PEimp pe_non fun σ H Q ⟨ca, mu, ρ, S, w, re, h⟩ => got w .non h
theorem snd_str {x : Str} {j : Nat} : PE X (.Constant (.str x) j pos) (RdE X.K G W (.str x)) := PEimp pe_str fun σ H Q ⟨ca, mu, ρ, S, w, re, h⟩ => got w (.str x) h
theorem snd_var {i : Nat} {x : Str} (hN : X.N[i]? = some x) (hv : Vis X.env.scope x) (hd : (x == ("__debug__" : Str)) = false) (hcd : (x == ("__classdict__" : Str)) = false) : PE X (.Name x pos) (RdE X.K G W (.var i)) :=
  PEimp (pe_var hN hv hd hcd) fun σ H Q ⟨ca, mu, ρ, S, w, re, h⟩ => by
    have h : okR X.K G.EE G.XA (IsR X.K G.EE) ca mu H (match ρ[i]? with
      | some (some d) => .ok d S
      | _ => .no) Q (fun c d H' => W c d σ H') := h
    cases q : ρ[i]? with
    | none => rw [q] at h; exact h.elim
    | some o =>
      rw [q] at h
      cases o with
      | none => exact h.elim
      | some d =>
        obtain ⟨v, h1, h2⟩ := re.at_ i d q
        exact ⟨v, h1, got w h2 h⟩
theorem snd_con {n : Nat} {x : Str} {v : V} {u : Value} (hg : Gl X x) (hm : X.mg x = some u) (r : RelV v u) (hd : (x == ("__debug__" : Str)) = false) (hi : ∀ ca mu H, Is X.K G.EE ca mu H v (G.cons n)) : PE X (.Name x pos) (RdE X.K G W (.con n)) :=
  PEimp (pe_glob hg hm r hd) fun σ H Q ⟨ca, mu, ρ, S, w, re, h⟩ => got w (hi ca mu H) h
theorem snd_bin {o : Bop} (ha : PE X ea (RdE X.K G W a)) (hb : PE X eb (RdE X.K G W b)) : PE X (.BinOp ea (opOf o) eb pos) (RdE X.K G W (.bin o a b)) :=
  PEimp (pe_op (op_bin o) ha hb) fun σ H Q ⟨ca, mu, ρ, S, w, re, h⟩ => step w re h fun d S1 v ca1 mu1 H1 e1 w1 re1 i1 h1 => step w1 re1 h1 fun d2 S2 v2 ca2 mu2 H2 e2 w2 re2 i2 h2 => bin_ok w2 (i1.ex e2) i2 h2
theorem snd_neg (ha : PE X ea (RdE X.K G W a)) : PE X (.UnaryOp .USub ea pos) (RdE X.K G W (.neg a)) :=
  PEimp (pe_un un_neg ha) fun σ H Q ⟨ca, mu, ρ, S, w, re, h⟩ => step w re h fun d S1 v ca1 mu1 H1 e1 w1 re1 i1 h1 => by
    cases i1 with
    | int i => exact ⟨i, rfl, got w1 (.int _) h1⟩
    | _ => exact h1.elim
theorem snd_cmp {o : Cop} (hu : X.A.units + 65 < cLine) (ha : PE X ea (RdE X.K G W a)) (hb : PE X eb (RdE X.K G W b)) (hm : behindInMarks (copOf o) eb = false) : PE X (.Compare ea [copOf o] [eb] pos) (RdE X.K G W (.cmp o a b)) :=
  PEimp (pe_cmpR (op_cmp hu o) ha hb hm) fun σ H Q ⟨ca, mu, ρ, S, w, re, h⟩ => step w re h fun d S1 v ca1 mu1 H1 e1 w1 re1 i1 h1 => step w1 re1 h1 fun d2 S2 v2 ca2 mu2 H2 e2 w2 re2 i2 h2 => by
    cases q : cmpD o d d2 with
    | none => rw [q] at h2; exact h2.elim
    | some k => rw [q] at h2; exact cmp_ok (i1.ex e2) i2 q (got w2 (.bl k) h2)
theorem snd_cmpT {o : Cop} (hu : X.A.units + 65 < cLine) (ha : PE X ea (RdE X.K G W a)) (hb : PE X eb (RdE X.K G W b)) (hm : behindInMarks (copOf o) eb = false) : PT X (.Compare ea [copOf o] [eb] pos) (RdT X.K G W (.cmp o a b)) :=
  PTimp (pt_cmpR (op_cmp hu o) ha hb hm) fun σ H Q ⟨ca, mu, ρ, S, w, re, h⟩ => step w re h fun d S1 v ca1 mu1 H1 e1 w1 re1 i1 h1 => step w1 re1 h1 fun d2 S2 v2 ca2 mu2 H2 e2 w2 re2 i2 h2 => by
    cases q : cmpD o d d2 with
    | none => rw [q] at h2; exact h2.elim
    | some k => rw [q] at h2; exact cmp_ok (i1.ex e2) i2 q (got w2 (.bl k) h2)
theorem chain_ok {o p : Cop} {σ : L2.St} {H : Hp} {Q : VK} (h : RdE X.K G W (.chn o p a b c) σ H Q) : tChain (rCmp X.K o) (rCmp X.K p) (RdE X.K G W a) (RdE X.K G W b) (RdE X.K G W c) σ H Q := by
  obtain ⟨ca, mu, ρ, S, w, re, h⟩ := h
  refine step w re h fun d S1 v ca1 mu1 H1 e1 w1 re1 i1 h1 => step w1 re1 h1 fun d2 S2 v2 ca2 mu2 H2 e2 w2 re2 i2 h2 => ?_
  cases q : cmpD o d d2 with
  | none => rw [q] at h2; exact h2.elim
  | some k =>
    rw [q] at h2
    refine cmp_ok (i1.ex e2) i2 q ⟨k, rfl, ?_⟩
    cases k with
    | false => exact iteF (got w2 (.bl _) h2)
    | true =>
      refine iteT (step w2 re2 h2 fun d3 S3 v3 ca3 mu3 H3 e3 w3 re3 i3 h3 => ?_)
      cases q' : cmpD p d2 d3 with
      | none => rw [q'] at h3; exact h3.elim
      | some k => rw [q'] at h3; exact cmp_ok (i2.ex e3) i3 q' (got w3 (.bl k) h3)
theorem snd_chn {o p : Cop} (hu : X.A.units + 65 < cLine) (ha : PE X ea (RdE X.K G W a)) (hb : PE X eb (RdE X.K G W b)) (hc : PE X ec (RdE X.K G W c)) (hm : lastMarks [copOf o, copOf p] [eb, ec] = false) : PE X (.Compare ea [copOf o, copOf p] [eb, ec] pos) (RdE X.K G W (.chn o p a b c)) :=
  PEimp (pe_chain (op_cmp hu o) (op_cmp hu p) ha hb hc hm) fun σ H Q h => chain_ok h
theorem snd_chnT {o p : Cop} (hu : X.A.units + 65 < cLine) (ha : PE X ea (RdE X.K G W a)) (hb : PE X eb (RdE X.K G W b)) (hc : PE X ec (RdE X.K G W c)) (hm : lastMarks [copOf o, copOf p] [eb, ec] = false) : PT X (.Compare ea [copOf o, copOf p] [eb, ec] pos) (RdT X.K G W (.chn o p a b c)) :=
  PTimp (pt_chain (op_cmp hu o) (op_cmp hu p) ha hb hc hm) fun σ H Q h => chain_ok h
/-- a value that is a bool -/
theorem bool_of {K : PySem.W.Frag} {EE : Ek} {ca mu : List Addr} {H : Hp} {S : Sto} {v : V} {d : D} {R : VK} {W' : XK} {XA : Nat → Addr} {f : Bool → Sto → Res D} (i : Is K EE ca mu H v d) {r : Res D} (hr : r = match d with
      | .bl true => f true S
      | .bl false => f false S
      | _ => .no) (h : okR K EE XA (IsR K EE) ca mu H r R W') : ∃ k, v = .bl k ∧ okR K EE XA (IsR K EE) ca mu H (f k S) R W' := by
  subst hr
  cases i with
  | bl k => cases k <;> exact ⟨_, rfl, h⟩
  | _ => exact h.elim
theorem snd_and {rest : List Expr} (ha : PE X ea (RdE X.K G W a)) (hb : PE X (.BoolOp .And (eb :: rest) pos) (RdE X.K G W b)) : PE X (.BoolOp .And (ea :: eb :: rest) pos) (RdE X.K G W (.and a b)) :=
  PEimp (pe_and ha hb) fun σ H Q ⟨ca, mu, ρ, S, w, re, h⟩ => step w re h fun d S1 v ca1 mu1 H1 e1 w1 re1 i1 h1 => by
    obtain ⟨k, rfl, h2⟩ := bool_of (S := S1) (f := fun k S => bif k then ev G.cons G.call b ρ S else .ok (.bl false) S) i1 (by cases d <;> first | rfl | (rename_i z; cases z <;> rfl)) h1
    refine ⟨k, rfl, ?_⟩
    cases k with
    | true => exact iteT (last w1 re1 h2)
    | false => exact iteF (got w1 (.bl _) h2)
theorem snd_or {rest : List Expr} (ha : PE X ea (RdE X.K G W a)) (hb : PE X (.BoolOp .Or (eb :: rest) pos) (RdE X.K G W b)) : PE X (.BoolOp .Or (ea :: eb :: rest) pos) (RdE X.K G W (.or a b)) :=
  PEimp (pe_or ha hb) fun σ H Q ⟨ca, mu, ρ, S, w, re, h⟩ => step w re h fun d S1 v ca1 mu1 H1 e1 w1 re1 i1 h1 => by
    obtain ⟨k, rfl, h2⟩ := bool_of (S := S1) (f := fun k S => bif k then .ok (.bl true) S else ev G.cons G.call b ρ S) i1 (by cases d <;> first | rfl | (rename_i z; cases z <;> rfl)) h1
    refine ⟨k, rfl, ?_⟩
    cases k with
    | true => exact iteT (got w1 (.bl _) h2)
    | false => exact iteF (last w1 re1 h2)
theorem snd_not (ha : PE X ea (RdE X.K G W a)) : PE X (.UnaryOp .Not ea pos) (RdE X.K G W (.not a)) :=
  PEimp (pe_not ha) fun σ H Q ⟨ca, mu, ρ, S, w, re, h⟩ => step w re h fun d S1 v ca1 mu1 H1 e1 w1 re1 i1 h1 => by
    obtain ⟨k, rfl, h2⟩ := bool_of (S := S1) (f := fun k S => .ok (.bl (!k)) S) i1 (by cases d <;> first | rfl | (rename_i z; cases z <;> rfl)) h1
    exact ⟨k, rfl, got w1 (.bl _) h2⟩
theorem snd_andT {rest : List Expr} (ha : PT X ea (RdT X.K G W a)) (hb : PW X (.BoolOp .And (eb :: rest) pos) (RdT X.K G W b)) : PW X (.BoolOp .And (ea :: eb :: rest) pos) (RdT X.K G W (.and a b)) :=
  PWimp (pw_and ha hb) fun σ H Q ⟨ca, mu, ρ, S, w, re, h⟩ => step w re h fun d S1 v ca1 mu1 H1 e1 w1 re1 i1 h1 => by
    obtain ⟨k, rfl, h2⟩ := bool_of (S := S1) (f := fun k S => bif k then ev G.cons G.call b ρ S else .ok (.bl false) S) i1 (by cases d <;> first | rfl | (rename_i z; cases z <;> rfl)) h1
    refine ⟨k, rfl, ?_⟩
    cases k with
    | true => exact iteT (last w1 re1 h2)
    | false =>
      obtain ⟨b, e, q⟩ := got w1 (.bl _) h2
      cases e
      exact iteF q
theorem snd_orT {rest : List Expr} (ha : PT X ea (RdT X.K G W a)) (hb : PW X (.BoolOp .Or (eb :: rest) pos) (RdT X.K G W b)) : PW X (.BoolOp .Or (ea :: eb :: rest) pos) (RdT X.K G W (.or a b)) :=
  PWimp (pw_or ha hb) fun σ H Q ⟨ca, mu, ρ, S, w, re, h⟩ => step w re h fun d S1 v ca1 mu1 H1 e1 w1 re1 i1 h1 => by
    obtain ⟨k, rfl, h2⟩ := bool_of (S := S1) (f := fun k S => bif k then .ok (.bl true) S else ev G.cons G.call b ρ S) i1 (by cases d <;> first | rfl | (rename_i z; cases z <;> rfl)) h1
    refine ⟨k, rfl, ?_⟩
    cases k with
    | true =>
      obtain ⟨b, e, q⟩ := got w1 (.bl _) h2
      cases e
      exact iteT q
    | false => exact iteF (last w1 re1 h2)
theorem snd_notT (ha : PT X ea (RdT X.K G W a)) : PT X (.UnaryOp .Not ea pos) (RdT X.K G W (.not a)) :=
  PTimp (pt_not ha) fun σ H Q ⟨ca, mu, ρ, S, w, re, h⟩ => step w re h fun d S1 v ca1 mu1 H1 e1 w1 re1 i1 h1 => by
    obtain ⟨k, rfl, h2⟩ := bool_of (S := S1) (f := fun k S => .ok (.bl (!k)) S) i1 (by cases d <;> first | rfl | (rename_i z; cases z <;> rfl)) h1
    refine ⟨k, rfl, ?_⟩
    obtain ⟨b, e, q⟩ := got w1 (.bl _) h2
    cases e
    exact q
theorem snd_ite (hc : PT X ec (RdT X.K G W c)) (ha : PE X ea (RdE X.K G W a)) (hb : PE X eb (RdE X.K G W b)) : PE X (.IfExp ec ea eb pos) (RdE X.K G W (.ite c a b)) :=
  PEimp (pe_ifExp hc ha hb) fun σ H Q ⟨ca, mu, ρ, S, w, re, h⟩ => step w re h fun d S1 v ca1 mu1 H1 e1 w1 re1 i1 h1 => by
    obtain ⟨k, rfl, h2⟩ := bool_of (S := S1) (f := fun k S => bif k then ev G.cons G.call a ρ S else ev G.cons G.call b ρ S) i1 (by cases d <;> first | rfl | (rename_i z; cases z <;> rfl)) h1
    refine ⟨k, rfl, ?_⟩
    cases k with
    | true => exact iteT (last w1 re1 h2)
    | false => exact iteF (last w1 re1 h2)
theorem snd_idx (hu : X.A.units + 65 < cLine) (ha : PE X ea (RdE X.K G W a)) (hb : PE X eb (RdE X.K G W b)) (hs : PlainIx eb) : PE X (.Subscript ea eb pos) (RdE X.K G W (.idx a b)) :=
  PEimp (PEor (pe_ix ix_seq ha hb hs) (pe_dget (by omega) ha hb hs)) fun σ H Q ⟨ca, mu, ρ, S, w, re, h⟩ => by
    have h : okR X.K G.EE G.XA (IsR X.K G.EE) ca mu H ((ev G.cons G.call a ρ S).bind fun x S => (ev G.cons G.call b ρ S).bind fun y S => lift (idxD S x y) S) Q (fun c d H' => W c d σ H') := h
    cases qa : ev G.cons G.call a ρ S with
    | no => rw [qa] at h; exact h.elim
    | exc x S1 => rw [qa] at h; exact .inl ⟨ca, mu, ρ, S, w, re, by rw [qa]; exact h⟩
    | ok d S1 =>
      rw [qa] at h
      have h : okR X.K G.EE G.XA (IsR X.K G.EE) ca mu H ((ev G.cons G.call b ρ S1).bind fun y S => lift (idxD S d y) S) Q (fun c d H' => W c d σ H') := h
      cases qb : ev G.cons G.call b ρ S1 with
      | no => rw [qb] at h; exact h.elim
      | exc x S2 =>
        rw [qb] at h
        refine .inl ⟨ca, mu, ρ, S, w, re, ?_⟩
        rw [qa]
        intro v ca1 mu1 H1 e1 w1 i1
        refine ⟨ca1, mu1, ρ, S1, w1, re.ext e1, ?_⟩
        rw [qb]
        exact okR.rebase (r := .exc x S2) (rel := IsR X.K G.EE) (Q := fun _ _ => True) h e1
      | ok d2 S2 =>
        rw [qb] at h
        have h : okR X.K G.EE G.XA (IsR X.K G.EE) ca mu H (lift (idxD S2 d d2) S2) Q (fun c d H' => W c d σ H') := h
        cases qz : idxD S2 d d2 with
        | none => rw [qz] at h; exact h.elim
        | some z =>
          rw [qz] at h
          cases hk : dicLike S2 d with
          | true =>
            right
            refine ⟨ca, mu, ρ, S, w, re, ?_⟩
            rw [qa]
            intro v ca1 mu1 H1 e1 w1 i1
            refine ⟨ca1, mu1, ρ, S1, w1, re.ext e1, ?_⟩
            rw [qb]
            intro v2 ca2 mu2 H2 e2 w2 i2
            rcases idx_ok w2 (i1.ex e2) i2 qz with ⟨z0, _⟩ | ⟨_, p, u, g1, g2, g3⟩
            · rw [hk] at z0; cases z0
            · exact ⟨p, u, g1, g2, got w2 g3 (okR.rebase h (e1.trans e2))⟩
          | false =>
            left
            refine ⟨ca, mu, ρ, S, w, re, ?_⟩
            rw [qa]
            intro v ca1 mu1 H1 e1 w1 i1
            refine ⟨ca1, mu1, ρ, S1, w1, re.ext e1, ?_⟩
            rw [qb]
            intro v2 ca2 mu2 H2 e2 w2 i2
            rcases idx_ok w2 (i1.ex e2) i2 qz with ⟨_, u, g1, g2⟩ | ⟨z0, _⟩
            · exact g2 Q (got w2 g1 (okR.rebase h (e1.trans e2)))
            · rw [hk] at z0; cases z0

/-! ### slices -/
theorem bind_assoc {α β γ : Type} (r : Res α) (f : α → Sto → Res β) (g : β → Sto → Res γ) : (r.bind f).bind g = r.bind fun a S => (f a S).bind g := by
  cases r <;> rfl
theorem snd_onone : PO X none (RdO X.K G W .none) := POimp po_none fun σ H Q ⟨ca, mu, ρ, S, w, re, h⟩ => h none ca mu H Ext.refl w rfl
theorem snd_osome (ha : PE X ea (RdE X.K G W a)) : PO X (some ea) (RdO X.K G W (.some a)) :=
  POimp (po_some ha) fun σ H Q ⟨ca, mu, ρ, S, w, re, h⟩ => step w re h fun d S1 v ca1 mu1 H1 e1 w1 re1 i1 h1 => by
    cases i1 with
    | int i => exact ⟨i, rfl, h1 _ ca1 mu1 H1 Ext.refl w1 rfl⟩
    | _ => exact h1.elim
theorem snd_sli {lo hi : Oe} {l u : Option Expr} {p2 : Pos} (ha : PE X ea (RdE X.K G W a)) (hl : PO X l (RdO X.K G W lo)) (hh : PO X u (RdO X.K G W hi)) : PE X (.Subscript ea (.Slice l u none p2) pos) (RdE X.K G W (.sli a lo hi)) :=
  PEimp (pe_slice sl_cut ha hl hh) fun σ H Q ⟨ca, mu, ρ, S, w, re, h⟩ => step w re h fun d S1 v ca1 mu1 H1 e1 w1 re1 i1 h1 => step w1 re1 h1 fun o S2 o' ca2 mu2 H2 e2 w2 re2 i2 h2 => step w2 re2 h2 fun o3 S3 o3' ca3 mu3 H3 e3 w3 re3 i3 h3 => by
    subst i2 i3
    exact cut_ok w3 ((i1.ex e2).ex e3) h3
/-! ### argument lists, displays -/
theorem star_ne {e : Expr} (h : notStar e = true) (es : List Expr) (env : PySem.Env) : starEach (e :: es) env = (false, eval e env) :: starEach es env := by
  cases e <;> first | rfl | cases h
theorem snd_anil : PA X [] (RdA X.K G W .nil) := PAimp pa_nil fun σ H Q ⟨ca, mu, ρ, S, w, re, h⟩ => h [] ca mu H Ext.refl w .nil
theorem snd_acons {es : List Expr} {as : Exs} (ha : PE X ea (RdE X.K G W a)) (hs : PA X es (RdA X.K G W as)) (hn : notStar ea = true) : PA X (ea :: es) (RdA X.K G W (.cons a as)) :=
  PAimp (pa_cons ha hs (star_ne hn es _)) fun σ H Q ⟨ca, mu, ρ, S, w, re, h⟩ => step w re h fun d S1 v ca1 mu1 H1 e1 w1 re1 i1 h1 => step w1 re1 h1 fun ds S2 vs ca2 mu2 H2 e2 w2 re2 i2 h2 =>
    h2 (v :: vs) ca2 mu2 H2 Ext.refl w2 (.cons (i1.ex e2) i2)
variable {es : List Expr} {as : Exs}
theorem snd_tup {k : Nat} (hs : PA X es (RdA X.K G W as)) : PE X (.Tuple es k pos) (RdE X.K G W (.tup as)) :=
  PEimp (pe_tup hs) fun σ H Q ⟨ca, mu, ρ, S, w, re, h⟩ => step w re h fun ds S1 vs ca1 mu1 H1 e1 w1 re1 i1 h1 => by
    split at h1
    · rename_i z
      exact ⟨by rw [i1.length, LN_eq]; exact z, newT w1 i1 h1⟩
    · exact h1.elim
theorem snd_lst (hs : PA X es (RdA X.K G W as)) : PE X (.List es pos) (RdE X.K G W (.lst as)) :=
  PEimp (pe_lst hs) fun σ H Q ⟨ca, mu, ρ, S, w, re, h⟩ => step w re h fun ds S1 vs ca1 mu1 H1 e1 w1 re1 i1 h1 => by
    split at h1
    · rename_i z
      exact ⟨by rw [i1.length, LN_eq]; exact z, newL w1 i1 h1⟩
    · exact h1.elim
/-- a new cell -/
theorem newCell {K : PySem.W.Frag} {EE : Ek} {ca mu : List Addr} {H : Hp} {S : Sto} {p : Addr} {o : HO} {b : Ob} (w : Wd K EE ca mu H S) (hp : H p = none) (hb : ∀ ca' mu' H', Ext ca mu H ca' mu' H' → p ∈ mu' → H' p = some o → ObR K EE ca' mu' H' p b) (ho : chg o = true) :
    Ext ca mu H (ca ++ [p]) (p :: mu) (upd H p o) ∧ Wd K EE (ca ++ [p]) (p :: mu) (upd H p o) (S ++ [b]) ∧ Is K EE (ca ++ [p]) (p :: mu) (upd H p o) (.ref p) (.cell S.length) := by
  have f := w.fresh hp
  have x : Ext ca mu H (ca ++ [p]) (p :: mu) (upd H p o) := ⟨⟨[p], rfl, fun a ha => by rw [List.mem_singleton.mp ha]; exact hp⟩, fun a ha => (List.mem_cons.mp ha).elim (fun e => .inr (by rw [e]; exact hp)) .inl,
    (Ext.new (ca := ca) (mu := mu) hp).kp, (Ext.new (ca := ca) (mu := mu) hp).tr, fun a h _ _ => List.mem_cons_of_mem _ h⟩
  refine ⟨x, ⟨by rw [List.length_append, List.length_append, w.len]; rfl, ?_, fun n a o' h1 h2 => ?_, fun a ha => ?_, tabs_new w.tb hp, fun a ha => ?_⟩, .cell ?_⟩
  · exact List.nodup_append.mpr ⟨w.nd, by simp, fun a ha b hb e => f.2 (by rw [List.mem_singleton.mp hb] at e; rw [← e]; exact ha)⟩
  · by_cases hn : n < ca.length
    · rw [List.getElem?_append_left hn] at h1
      rw [List.getElem?_append_left (by rw [← w.len]; exact hn)] at h2
      exact (w.ob n a o' h1 h2).ext x (fun h => List.mem_cons_of_mem _ h) fun h => upd_ne (fun e => f.1 (by subst e; exact h))
    · have e : n = ca.length := by
        have := (List.getElem?_eq_some_iff.mp h1).1
        rw [List.length_append] at this
        simp at this
        omega
      subst e
      rw [List.getElem?_append_right (Nat.le_refl _)] at h1
      rw [w.len, List.getElem?_append_right (Nat.le_refl _)] at h2
      simp at h1 h2
      subst h1 h2
      exact hb _ _ _ x (List.mem_cons_self ..) upd_same
  · rcases List.mem_cons.mp ha with e | ha
    · exact ⟨o, by rw [e, upd_same], ho⟩
    · obtain ⟨o1, e1, g1⟩ := w.tm a ha
      exact ⟨o1, by rw [upd_ne (ne_of_none e1 hp)]; exact e1, g1⟩
  · rcases List.mem_append.mp ha with ha | ha
    · obtain ⟨o1, e1, g1⟩ := w.tc a ha
      exact ⟨o1, by rw [upd_ne (ne_of_none e1 hp)]; exact e1, g1⟩
    · exact ⟨o, by rw [List.mem_singleton.mp ha, upd_same], ho⟩
  · rw [← w.len, List.getElem?_append_right (Nat.le_refl _)]
    simp
/-- kept out from now on -/
theorem Ext.keep {K : PySem.W.Frag} {EE : Ek} {ca mu : List Addr} {H : Hp} {S : Sto} {p : Addr} {o : HO} (w : Wd K EE ca mu H S) (hp : H p = none) (ho : chg o = true) : Ext ca mu H ca (p :: mu) (upd H p o) ∧ Wd K EE ca (p :: mu) (upd H p o) S := by
  have f := w.fresh hp
  have x : Ext ca mu H ca (p :: mu) (upd H p o) := ⟨⟨[], by simp, fun _ z => nomatch z⟩, fun a ha => (List.mem_cons.mp ha).elim (fun e => .inr (by rw [e]; exact hp)) .inl, (Ext.new (ca := ca) (mu := mu) hp).kp, (Ext.new (ca := ca) (mu := mu) hp).tr, fun a h _ _ => List.mem_cons_of_mem _ h⟩
  refine ⟨x, w.len, w.nd, fun n a o q1 q2 => (w.ob n a o q1 q2).ext x (fun z => List.mem_cons_of_mem _ z) fun z => upd_ne fun e => f.1 (by subst e; exact z), fun a ha => ?_, tabs_new w.tb hp, fun a ha => by
    obtain ⟨o1, e1, g1⟩ := w.tc a ha
    exact ⟨o1, by rw [upd_ne (ne_of_none e1 hp)]; exact e1, g1⟩⟩
  rcases List.mem_cons.mp ha with e | ha
  · exact ⟨o, by rw [e, upd_same], ho⟩
  · obtain ⟨o1, e1, g1⟩ := w.tm a ha
    exact ⟨o1, by rw [upd_ne (ne_of_none e1 hp)]; exact e1, g1⟩
theorem snd_newl (hs : PA X es (RdA X.K G W as)) : PE X (.List es pos) (RdE X.K G W (.newc (.lst as))) :=
  PEimp (pe_lst hs) fun σ H Q ⟨ca, mu, ρ, S, w, re, h⟩ => by
    have h : okR X.K G.EE G.XA (IsR X.K G.EE) ca mu H ((evs G.cons G.call as ρ S).bind fun ds S => if ds.length ≤ LN then (Res.ok (D.cell S.length) (S ++ [Ob.lst ds])) else .no) Q (fun c d H' => W c d σ H') := by
      have e : ev G.cons G.call (.newc (.lst as)) ρ S = (evs G.cons G.call as ρ S).bind fun ds S => if ds.length ≤ LN then (Res.ok (D.cell S.length) (S ++ [Ob.lst ds])) else .no := by
        show ((evs G.cons G.call as ρ S).bind _).bind _ = _
        rw [bind_assoc]
        congr 1
        funext ds S
        split <;> rfl
      rw [← e]
      exact h
    refine step w re h fun ds S1 vs ca1 mu1 H1 e1 w1 re1 i1 h1 => ?_
    split at h1
    · rename_i z
      refine ⟨by rw [i1.length, LN_eq]; exact z, fun p hp => ?_⟩
      obtain ⟨x1, x2, x3⟩ := newCell (o := .lst vs) (b := .lst ds) w1 hp (fun ca' mu' H' x m e => ⟨m, vs, e, i1.ex x⟩) rfl
      exact h1 _ _ _ _ x1 x2 x3
    · exact h1.elim
/-! ### calls -/
/-- what a def is held to: n arguments -/
def SpF (K : PySem.W.Frag) (G : En) (f n : Nat) : Sp := fun vs H Q E => vs.length = n ∧ ∃ ca mu ds S, Wd K G.EE ca mu H S ∧ IsL K G.EE ca mu H vs ds ∧ okR K G.EE G.XA (IsR K G.EE) ca mu H (G.call (.glo f) ds S) Q E
variable {f n k : Nat} {x : Str} {p : Pos} {ad : Addr} {fd : FuncData} {ps : List Str}
theorem plain_back {e : Expr} {es : List Expr} (h : ∀ e ∈ es, notStar e = true) (pos : Pos) (env : PySem.Env) : (backTo pos (starEach es env)).any (·.1) = false := by
  induction es with
  | nil => rfl
  | cons e es ih =>
    rw [star_ne (h e List.mem_cons_self)]
    show (false || (backTo pos (starEach es env)).any (·.1)) = false
    rw [ih fun e' he => h e' (List.mem_cons_of_mem _ he)]
    rfl
theorem pe_callS' {CX : CXT} {sp : Sp} {E : L2.St → XK} {e : Expr} {es : List Expr} {t : TA} (F : FnOk X.prog X.w X.K X.mg X.base CX k ad fd ps sp) (hr : Room k X.A) (hg : Gl X x) (hm : X.mg x = some (.ref ad)) (hk : PySem.W.keepIn X.K (.ref ad) = true) (hb : Binds X.K fd ps []) (hx : ∀ σ, PassesAt CX X σ (E σ))
    (ha : PA X (e :: es) t) (hdb : (x == ("__debug__" : Str)) = false) (he : starEach (e :: es) X.env = (false, eval e X.env) :: starEach es X.env) (hpl : (backTo pos (starEach es X.env)).any (·.1) = false) :
    PE X (.Call (.Name x p) (e :: es) [] pos) (tCallS sp E t) := pe_callS F hr hg hm hk hb hx ha hdb he hpl
theorem snd_call (tk : Takes X W) (F : FnOk X.prog X.w X.K X.mg X.base (L2.CX X.prog X.w) k ad fd ps (SpF X.K G f n)) (hr : Room k X.A) (hg : Gl X x) (hm : X.mg x = some (.ref ad)) (hk : PySem.W.keepIn X.K (.ref ad) = true) (hb : Binds X.K fd ps [])
    (hdb : (x == ("__debug__" : Str)) = false) (hl : ∀ ρ S ds S', evs G.cons G.call as ρ S = .ok ds S' → ds.length = n) (hs : PA X (ea :: es) (RdA X.K G W as)) (hn : notStar ea = true) (hn2 : ∀ e ∈ es, notStar e = true) :
    PE X (.Call (.Name x p) (ea :: es) [] pos) (RdE X.K G W (.call f as)) :=
  PEimp (pe_callS' F hr hg hm hk hb (fun σ => passAt tk σ) hs hdb (star_ne hn es _) (plain_back (e := ea) hn2 _ _)) fun σ H Q ⟨ca, mu, ρ, S, w, re, h⟩ =>
    ⟨ca, mu, ρ, S, w, re, okR.bind h fun ds S1 vs ca1 mu1 H1 q e1 w1 i1 h1 => ⟨by rw [i1.length]; exact hl _ _ _ _ q, ca1, mu1, ds, S1, w1, i1, h1⟩⟩
theorem snd_call0 (F : FnOk X.prog X.w X.K X.mg X.base (L2.CX X.prog X.w) k ad fd ps (SpF X.K G f 0)) (hr : Room k X.A) (hg : Gl X x) (hm : X.mg x = some (.ref ad)) (hk : PySem.W.keepIn X.K (.ref ad) = true) (hb : Binds X.K fd ps [])
    (hdb : (x == ("__debug__" : Str)) = false) : PE X (.Call (.Name x p) [] [] pos) (RdE X.K G W (.call0 f)) :=
  PEimp (pe_call0 F hr hg hm hk hb .nil passL hdb) fun σ H Q ⟨ca, mu, ρ, S, w, re, h⟩ => by
    refine ⟨rfl, ca, mu, [], S, w, .nil, ?_⟩
    have h : okR X.K G.EE G.XA (IsR X.K G.EE) ca mu H (shut (G.call (.glo f) [] S)) Q (fun c d H' => W c d σ H') := h
    cases q : G.call (.glo f) [] S with
    | ok d S' => rw [q] at h; exact h
    | exc _ _ => rw [q] at h; exact h.elim
    | no => rw [q] at h; exact h.elim
theorem boot_bi : ∀ b : Bi, bootBuiltins (Str.ofString (biId b)) = some (biVal b) := by
  intro b
  cases b <;> decide +kernel
theorem bi_names : ∀ b : Bi, Str.ofString (biId b) ≠ ("__name__" : Str) ∧ ((Str.ofString (biId b)) == ("__debug__" : Str)) = false := by
  intro b
  cases b <;> decide +kernel
theorem snd_bi {b : Bi} (hc : X.calm = true) (hg : Gl X (Str.ofString (biId b))) (hm : X.mg (Str.ofString (biId b)) = none) (hs : PA X (ea :: es) (RdA X.K G W as)) (hn : notStar ea = true) (hn2 : ∀ e ∈ es, notStar e = true) :
    PE X (.Call (.Name (Str.ofString (biId b)) p) (ea :: es) [] pos) (RdE X.K G W (.bi b as)) := by
  have hv := boot_bi b
  have hcr := cr_bi hc b
  unfold biVal at hv hcr
  have fin : ∀ σ H Q, RdE X.K G W (.bi b as) σ H Q → tCB (rBi X.K b) (RdA X.K G W as) σ H Q := fun σ H Q ⟨ca, mu, ρ, S, w, re, h⟩ => step w re h fun ds S1 vs ca1 mu1 H1 e1 w1 re1 i1 h1 => bi_ok w1 i1 h1
  cases q : biTy b with
  | true =>
    rw [q] at hv hcr
    exact PEimp (pe_callTy hcr hg hm hv hs (bi_names b).1 (bi_names b).2 (star_ne hn es _) (plain_back (e := ea) hn2 _ _)) fin
  | false =>
    rw [q] at hv hcr
    exact PEimp (pe_callB hcr hg hm hv hs (bi_names b).1 (bi_names b).2 (star_ne hn es _) (plain_back (e := ea) hn2 _ _)) fin
theorem boot_ty : ∀ t : Ty, bootBuiltins (Str.ofString (tyName t)) = some (.type (tyName t)) := by
  intro b
  cases b <;> decide +kernel
theorem ty_names : ∀ t : Ty, Str.ofString (tyName t) ≠ ("__name__" : Str) ∧ ((Str.ofString (tyName t)) == ("__debug__" : Str)) = false := by
  intro b
  cases b <;> decide +kernel
theorem snd_isi {t : Ty} {p2 : Pos} (hg : Gl X "isinstance") (hm : X.mg "isinstance" = none) (hg2 : Gl X (Str.ofString (tyName t))) (hm2 : X.mg (Str.ofString (tyName t)) = none) (ha : PE X ea (RdE X.K G W a)) (hn : notStar ea = true) :
    PE X (.Call (.Name "isinstance" p) [ea, .Name (Str.ofString (tyName t)) p2] [] pos) (RdE X.K G W (.isi a t)) :=
  PEimp (pe_callB call_isi hg hm boot_isinstance (pa_cons ha (pa_cons (pe_bltn hg2 hm2 (boot_ty t) (v := .ty (tyName t)) rfl (ty_names t).1 (ty_names t).2) pa_nil) (star_ne hn _ _)) (by decide) (by decide) (star_ne hn _ _)) fun σ H Q ⟨ca, mu, ρ, S, w, re, h⟩ => step w re h fun d S1 v ca1 mu1 H1 e1 w1 re1 i1 h1 => by
    cases q : isTy t d with
    | none => rw [q] at h1; exact h1.elim
    | some b =>
      rw [q] at h1
      obtain ⟨T, g1, g2⟩ := isi_ok i1 q
      exact ⟨v, .ty (tyName t), T, _, b, rfl, .ty _, g1, g2, got w1 (.bl b) h1⟩
end
end KI


set_option Elab.async false
set_option linter.all false
set_option maxRecDepth 100000
set_option autoImplicit false
set_option maxHeartbeats 1000000
/-! Targets, walked things, comprehensions. -/
namespace KI
open PySem PySem.Spec PyProof.Rows L2

/-! ### targets -/
/-- the target gets d: its slots are set, nothing else -/
def RdG (K : PySem.W.Frag) (EE : Ek) (tg : Tg) : TG := fun v σ H Q => ∃ ca mu d ρ ρ', Is K EE ca mu H v d ∧ RE K EE ca mu H σ ρ ∧ bindT tg d ρ = some ρ' ∧ ∀ σ', RE K EE ca mu H σ' ρ' → (∀ vs, (∀ i ∈ slotsT tg, i ∈ vs) → wipe σ' vs = wipe σ vs) → Q σ' H
def RdGs (K : PySem.W.Frag) (EE : Ek) (ts : Tgs) : TGs := fun us σ H Q => ∃ ca mu ds ρ ρ', IsL K EE ca mu H us ds ∧ RE K EE ca mu H σ ρ ∧ bindTs ts ds ρ = some ρ' ∧ ∀ σ', RE K EE ca mu H σ' ρ' → (∀ vs, (∀ i ∈ slotsTs ts, i ∈ vs) → wipe σ' vs = wipe σ vs) → Q σ' H
theorem wipe_set {σ : L2.St} {i : Nat} {o : Option V} : ∀ {vs : List Nat}, i ∈ vs → wipe (σ.set i o) vs = wipe σ vs
  | v :: vs, h => by
    unfold wipe
    by_cases hi : i ∈ vs
    · rw [wipe_set hi]
    · have e : i = v := (List.mem_cons.mp h).resolve_right hi
      subst e
      have q : ∀ us : List Nat, i ∉ us → wipe (σ.set i o) us = (wipe σ us).set i o := by
        intro us
        induction us with
        | nil => intro _; rfl
        | cons u us ih =>
          intro hu
          unfold wipe
          rw [ih fun z => hu (List.mem_cons_of_mem _ z)]
          exact List.set_comm _ _ (fun e => hu (by rw [e]; exact List.mem_cons_self))
      rw [q vs hi, List.set_set]
section
variable {X : Cx} {G : En} {W : WX} {pos : Pos}
theorem sndG_nm {i : Nat} {x : Str} (hN : X.N.Nodup) (hi : X.N[i]? = some x) (hx : Loc X.env.scope x) (hf : X.fn x = true ∨ X.env.scope.names.lookup x = some .local) : PG X (.Name x pos) (RdG X.K G.EE (.nm i)) :=
  PGimp (pg_name hN hi hx hf) fun v σ H Q ⟨ca, mu, d, ρ, ρ', i1, re, e, k⟩ => by
    cases e
    exact k _ (re.set i i1) fun vs h => wipe_set (h i (by simp [slotsT]))
theorem sndG_nil : PGs X [] (RdGs X.K G.EE .nil) :=
  PGsimp pgs_nil fun us σ H Q ⟨ca, mu, ds, ρ, ρ', i1, re, e, k⟩ => by
    cases ds with
    | nil =>
      cases i1
      cases e
      exact ⟨rfl, k _ re fun _ _ => rfl⟩
    | cons _ _ => cases e
theorem assign_ne {e : Expr} (h : notStar e = true) (es : List Expr) (env : PySem.Env) : assignEach (e :: es) env = (false, assign e env) :: assignEach es env := by
  cases e <;> first | rfl | cases h
theorem sndG_cons {e : Expr} {es : List Expr} {t : Tg} {ts : Tgs} (h1 : PG X e (RdG X.K G.EE t)) (h2 : PGs X es (RdGs X.K G.EE ts)) (hn : notStar e = true) : PGs X (e :: es) (RdGs X.K G.EE (.cons t ts)) :=
  PGsimp (pgs_cons h1 h2 (by rw [assign_ne hn]; rfl)) fun us σ H Q ⟨ca, mu, ds, ρ, ρ', i1, re, e, k⟩ => by
    cases i1 with
    | nil => cases e
    | @cons _ v vs d ds i1 i2 =>
      have e : (match bindT t d ρ with
        | some ρ' => bindTs ts ds ρ'
        | none => none) = some ρ' := e
      cases q : bindT t d ρ with
      | none => rw [q] at e; cases e
      | some ρ1 =>
        rw [q] at e
        refine ⟨v, vs, rfl, ca, mu, d, ρ, ρ1, i1, re, q, fun σ1 re1 w1 => ⟨ca, mu, ds, ρ1, ρ', i2, re1, e, fun σ2 re2 w2 => k σ2 re2 fun us h => ?_⟩⟩
        rw [w2 us fun i hi => h i (by simp [slotsTs, hi]), w1 us fun i hi => h i (by simp [slotsTs, hi])]
theorem noStar_find {es : List Expr} (h : ∀ e ∈ es, notStar e = true) (env : PySem.Env) : (assignEach es env).findIdx? (·.1) = none ∧ (assignEach es env).length = es.length := by
  induction es with
  | nil => exact ⟨rfl, rfl⟩
  | cons e es ih =>
    obtain ⟨h1, h2⟩ := ih fun e' he => h e' (List.mem_cons_of_mem _ he)
    rw [assign_ne (h e List.mem_cons_self)]
    exact ⟨by rw [List.findIdx?_cons, h1]; rfl, by rw [List.length_cons, List.length_cons, h2]⟩
/-- how many targets -/
def lenTs : Tgs → Nat
  | .nil => 0
  | .cons _ ts => lenTs ts + 1
theorem bindTs_length : ∀ {ts : Tgs} {ds : List D} {ρ ρ' : Env}, bindTs ts ds ρ = some ρ' → ds.length = lenTs ts
  | .nil, [], _, _, _ => rfl
  | .nil, _ :: _, _, _, e => by cases e
  | .cons t ts, [], _, _, e => by cases e
  | .cons t ts, d :: ds, ρ, ρ', e => by
    have e : (match bindT t d ρ with
      | some ρ' => bindTs ts ds ρ'
      | none => none) = some ρ' := e
    cases q : bindT t d ρ with
    | none => rw [q] at e; cases e
    | some ρ1 => rw [q] at e; rw [List.length_cons, bindTs_length e]; rfl
theorem sndG_tp {es : List Expr} {k : Nat} {ts : Tgs} (hc : X.calm = true) (h : PGs X es (RdGs X.K G.EE ts)) (hn : ∀ e ∈ es, notStar e = true) (hl : es.length = lenTs ts) : PG X (.Tuple es k pos) (RdG X.K G.EE (.tp ts)) :=
  PGimp (PGor (pg_tup hc h (noStar_find hn _).2 (noStar_find hn _).1) (pg_lst hc h (noStar_find hn _).2 (noStar_find hn _).1)) fun v σ H Q ⟨ca, mu, d, ρ, ρ', i1, re, e, kk⟩ => by
    cases i1 with
    | @tup _ a vs ds g1 g2 => exact .inl ⟨a, vs, rfl, g1.sq, by rw [g2.length, hl]; exact bindTs_length (ts := ts) e, ca, mu, ds, ρ, ρ', g2, re, e, kk⟩
    | @lst _ a vs ds g1 g2 g3 => exact .inr ⟨a, vs, rfl, SqL.of g1, by rw [g3.length, hl]; exact bindTs_length (ts := ts) e, ca, mu, ds, ρ, ρ', g3, re, e, kk⟩
    | _ => cases e
end
/-! ### what is walked -/
section
variable {K : PySem.W.Frag} {EE : Ek} {ca mu : List Addr} {H : Hp} {S : Sto}
theorem walkD_tup {a : Addr} {vs : List V} {ds : List D} (h1 : SqTm K mu H a vs) (h2 : IsL K EE ca mu H vs ds) : WalkD K EE (Itt K a) ca mu H ds := by
  have hl := h2.length
  refine ⟨fun i ca' mu' H' hi x => ⟨vs, vs[i]'(by omega), (h1.ext x).sq, by simp [show i < vs.length by omega]⟩, fun ca' mu' H' x => ⟨vs, (h1.ext x).sq, by omega⟩, fun i v ca' mu' H' H2 S' hi x w y => ?_⟩
  obtain ⟨e, y⟩ := y
  subst e
  obtain ⟨d, q1, q2⟩ := (h2.ex x).get' (y vs (h1.ext x).sq)
  exact ⟨d, q1, Ext.refl, w, q2⟩
theorem walkD_lst {a : Addr} {vs : List V} {ds : List D} (h1 : H a = some (.lst vs)) (hm : a ∉ mu) (h2 : IsL K EE ca mu H vs ds) : WalkD K EE (Itl K a) ca mu H ds := by
  have hl := h2.length
  refine ⟨fun i ca' mu' H' hi x => ⟨vs, vs[i]'(by omega), SqL.of (x.out h1 (nt_lst _) hm).1, by simp [show i < vs.length by omega]⟩, fun ca' mu' H' x => ⟨vs, SqL.of (x.out h1 (nt_lst _) hm).1, by omega⟩, fun i v ca' mu' H' H2 S' hi x w y => ?_⟩
  obtain ⟨e, y⟩ := y
  subst e
  obtain ⟨d, q1, q2⟩ := (h2.ex x).get' (y vs (SqL.of (x.out h1 (nt_lst _) hm).1))
  exact ⟨d, q1, Ext.refl, w, q2⟩
theorem rngL_get (n : Nat) : ∀ (lo : Int) (i : Nat), i < n → (rngL lo n)[i]? = some (.int (lo + i)) := by
  induction n with
  | zero => intro _ i h; omega
  | succ n ih =>
    intro lo i h
    cases i with
    | zero => simp [rngL]
    | succ i =>
      show (rngL (lo + 1) n)[i]? = _
      rw [ih (lo + 1) i (by omega)]
      congr 2
      omega
theorem rngL_length (n : Nat) : ∀ lo : Int, (rngL lo n).length = n := by
  induction n with
  | zero => intro _; rfl
  | succ n ih => intro lo; show (rngL (lo + 1) n).length + 1 = _; rw [ih]
theorem walkD_rng {lo : Int} {n : Nat} : WalkD K EE (Itr lo n) ca mu H (rngL lo n) := by
  refine ⟨fun i ca' mu' H' hi x => by rw [rngL_length] at hi; exact hi, fun ca' mu' H' x => by rw [rngL_length]; exact Nat.le_refl _, fun i v ca' mu' H' H2 S' hi x w y => ?_⟩
  rw [rngL_length] at hi
  obtain ⟨e, y⟩ := y
  subst e y
  exact ⟨_, rngL_get n lo i hi, Ext.refl, w, .int _⟩
end
section
variable {X : Cx} {G : En} {W : WX} {a b : Ex} {ea eb tg : Expr} {pos p : Pos}
theorem sndI_val (ha : PE X ea (RdE X.K G W a)) : PI X tg ea (RdI X.K G W (.val a)) :=
  PIimp (PIor (pi_tup ha) (pi_list ha)) fun σ H R ⟨ca, mu, ρ, S, w, re, h⟩ => by
    have h : okR X.K G.EE G.XA (WalkR X.K G.EE) ca mu H ((ev G.cons G.call a ρ S).bind fun d S => lift (items d) S) R (fun c d H' => W c d σ H') := h
    by_cases q : ∃ ds S1, ev G.cons G.call a ρ S = .ok (.lst ds) S1
    · right
      obtain ⟨ds, S1, q⟩ := q
      refine ⟨ca, mu, ρ, S, w, re, okR.bind h fun d S1' v ca1 mu1 H1 e e1 w1 i1 h1 => ?_⟩
      rw [q] at e
      cases e
      cases i1 with
      | @lst _ p vs _ g1 g2 g3 => exact ⟨p, rfl, ⟨vs, SqL.of g1⟩, h1 _ ca1 mu1 H1 Ext.refl w1 (walkD_lst g1 g2 g3)⟩
    · left
      refine ⟨ca, mu, ρ, S, w, re, okR.bind h fun d S1' v ca1 mu1 H1 e e1 w1 i1 h1 => ?_⟩
      cases i1 with
      | @lst _ p vs _ g1 g2 g3 => exact absurd ⟨_, _, e⟩ q
      | @tup _ p vs _ g1 g2 => exact ⟨p, rfl, ⟨vs, g1.sq⟩, h1 _ ca1 mu1 H1 Ext.refl w1 (walkD_tup g1 g2)⟩
      | _ => exact h1.elim
theorem sndI_rng1 (hg : Gl X "range") (hm : X.mg "range" = none) (ha : PE X ea (RdE X.K G W a)) (hn : notStar ea = true) : PI X tg (.Call (.Name "range" p) [ea] [] pos) (RdI X.K G W (.rng1 a)) :=
  PIimp (pi_range1 hg hm (pa_cons ha pa_nil (star_ne hn _ _)) (star_ne hn _ _)) fun σ H R ⟨ca, mu, ρ, S, w, re, h⟩ => by
    refine step w re h fun d S1 v ca1 mu1 H1 e1 w1 re1 i1 h1 => ?_
    cases i1 with
    | int j =>
      have h1 : okR X.K G.EE G.XA (WalkR X.K G.EE) ca1 mu1 H1 (if rngOk j then .ok (rngL 0 j.toNat) S1 else .no) R (fun c d H' => W c d σ H') := h1
      split at h1
      · rename_i z
        have z' : -(2 ^ 62) ≤ j ∧ j < 2 ^ 62 := rngOk_ok z
        exact ⟨j, rfl, z'.1, z'.2, h1 _ ca1 mu1 H1 Ext.refl w1 walkD_rng⟩
      · exact h1.elim
    | _ => exact h1.elim
theorem sndI_rng2 (hg : Gl X "range") (hm : X.mg "range" = none) (ha : PE X ea (RdE X.K G W a)) (hb : PE X eb (RdE X.K G W b)) (hn : notStar ea = true) (hn2 : notStar eb = true) : PI X tg (.Call (.Name "range" p) [ea, eb] [] pos) (RdI X.K G W (.rng2 a b)) :=
  PIimp (pi_range2 hg hm (pa_cons ha (pa_cons hb pa_nil (star_ne hn2 _ _)) (star_ne hn _ _)) (by rw [star_ne hn, star_ne hn2]; rfl) (by rw [star_ne hn2]; rfl)) fun σ H R ⟨ca, mu, ρ, S, w, re, h⟩ => by
    refine step w re h fun d S1 v ca1 mu1 H1 e1 w1 re1 i1 h1 => step w1 re1 h1 fun d2 S2 v2 ca2 mu2 H2 e2 w2 re2 i2 h2 => ?_
    cases i1 with
    | int i =>
      cases i2 with
      | int j =>
        have h2 : okR X.K G.EE G.XA (WalkR X.K G.EE) ca2 mu2 H2 (if rngOk i && rngOk j then .ok (rngL i (j - i).toNat) S2 else .no) R (fun c d H' => W c d σ H') := h2
        split at h2
        · rename_i z
          obtain ⟨z1, z2⟩ := Bool.and_eq_true_iff.mp z
          have z1' : -(2 ^ 62) ≤ i ∧ i < 2 ^ 62 := rngOk_ok z1
          have z2' : -(2 ^ 62) ≤ j ∧ j < 2 ^ 62 := rngOk_ok z2
          exact ⟨i, j, rfl, ⟨z1'.1, z1'.2, z2'.1, z2'.2⟩, h2 _ ca2 mu2 H2 Ext.refl w2 walkD_rng⟩
        · exact h2.elim
      | _ => exact h2.elim
    | _ => exact h2.elim
end
/-! ### comprehensions -/
/-- a turn, its target set -/
def lcBody (G : En) (c : Oe) (e : Ex) (ρ' : Env) (S : Sto) : Res (Option D) := (evc G.cons G.call c ρ' S).bind fun b S => bif b then (ev G.cons G.call e ρ' S).bind fun d S => .ok (some d) S else .ok none S
/-- one turn -/
def lcTurn (G : En) (own : List Nat) (tg : Tg) (c : Oe) (e : Ex) (ρ : Env) : D → Sto → Res (Option D) := fun x S => match bindT tg x (wipeE ρ own) with
  | some ρ' => lcBody G c e ρ' S
  | none => .no
theorem ev_lc (G : En) (own : List Nat) (tg : Tg) (it : It) (c : Oe) (e : Ex) (ρ : Env) (S : Sto) : ev G.cons G.call (.lc own tg it c e) ρ S = (evi G.cons G.call it ρ S).bind fun xs S => (evLc (lcTurn G own tg c e ρ) xs [] S).bind fun ds S => .ok (.lst ds) S := by
  rfl
/-- the wish of a block: nothing is raised -/
abbrev W0 : WX := fun _ _ _ _ => False
/-- what a turn does, seen from what is wanted of it -/
def tTurn (K : PySem.W.Frag) (G : En) (c : Oe) (e : Ex) (yes : VK) (no : Hp → Prop) : L2.St → Hp → Prop := fun σ H => match c with
  | .none => RdE K G W0 e σ H yes
  | .some c => RdT K G W0 c σ H fun b H' => if b = true then RdE K G W0 e σ H' yes else no H'
section
variable {K : PySem.W.Frag} {G : En} {ca mu : List Addr} {H : Hp} {S : Sto}
/-- a turn that comes through -/
theorem turn_ok {c : Oe} {e : Ex} {σ : L2.St} {ρ : Env} {yes : VK} {no : Hp → Prop} {r : Option D} {S' : Sto} (w : Wd K G.EE ca mu H S) (re : RE K G.EE ca mu H σ ρ)
    (h : lcBody G c e ρ S = .ok r S')
    (hy : ∀ d, r = some d → ∀ v ca' mu' H', Ext ca mu H ca' mu' H' → Wd K G.EE ca' mu' H' S' → Is K G.EE ca' mu' H' v d → yes v H')
    (hn : r = none → ∀ ca' mu' H', Ext ca mu H ca' mu' H' → Wd K G.EE ca' mu' H' S' → no H') : tTurn K G c e yes no σ H := by
  have elt : ∀ {ca1 mu1 H1 S1}, Ext ca mu H ca1 mu1 H1 → Wd K G.EE ca1 mu1 H1 S1 → ((ev G.cons G.call e ρ S1).bind fun d S => Res.ok (some d) S) = .ok r S' → RdE K G W0 e σ H1 yes := fun {ca1 mu1 H1 S1} x1 w1 q => by
    refine ⟨ca1, mu1, ρ, S1, w1, re.ext x1, ?_⟩
    cases qe : ev G.cons G.call e ρ S1 with
    | ok d S2 =>
      rw [qe] at q
      cases q
      exact fun v ca2 mu2 H2 x2 w2 i2 => hy d rfl v ca2 mu2 H2 (x1.trans x2) w2 i2
    | exc _ _ => rw [qe] at q; cases q
    | no => rw [qe] at q; cases q
  cases c with
  | none => exact elt Ext.refl w h
  | some c =>
    have h : (((ev G.cons G.call c ρ S).bind fun d S => match d with
        | .bl b => Res.ok b S
        | _ => .no).bind fun b S => bif b then (ev G.cons G.call e ρ S).bind fun d S => .ok (some d) S else .ok none S) = .ok r S' := h
    refine ⟨ca, mu, ρ, S, w, re, ?_⟩
    cases qc : ev G.cons G.call c ρ S with
    | no => rw [qc] at h; cases h
    | exc _ _ => rw [qc] at h; cases h
    | ok b S1 =>
      rw [qc] at h
      intro v ca1 mu1 H1 x1 w1 i1
      cases i1 with
      | bl k =>
        refine ⟨k, rfl, ?_⟩
        cases k with
        | true => exact iteT (elt x1 w1 h)
        | false =>
          cases h
          exact iteF (hn rfl ca1 mu1 H1 x1 w1)
      | _ => cases h
end
section
variable {X : Cx} {G : En} {W : WX}
/-- the tests of a clause, as a Oe has them -/
def ttOf (K : PySem.W.Frag) (G : En) : Oe → TT
  | .none => tYes
  | .some c => RdT K G W0 c
/-- what a comprehension computes is what its text asks -/
theorem lc_read {K : PySem.W.Frag} {it : It} {tg : Tg} {c : Oe} {e : Ex} {ow : List Nat} (hsl : ∀ i ∈ slotsT tg, i ∈ ow) {σ : L2.St} {H : Hp} {Q : VK} (h : RdE K G W (.lc ow tg it c e) σ H Q) : tLc (RdI K G W it) (RdG K G.EE tg) (ttOf K G c) (RdE K G W0 e) ow σ H Q := by
    obtain ⟨ca, mu, ρ, S, w, re, h⟩ := h
    rw [ev_lc] at h
    refine step w re h fun xs S1 J ca1 mu1 H1 e1 w1 re1 wk h1 => ?_
    intro D hD
    -- the list under way stands at D
    have f1 := w1.fresh hD
    obtain ⟨r0, hr0⟩ : ∃ r0, r0 = evLc (lcTurn G ow tg c e ρ) xs [] S1 := ⟨_, rfl⟩
    rw [← hr0] at h1
    have nono : r0 ≠ .no := fun z => by rw [z] at h1; exact h1
    obtain ⟨Wt, hWt⟩ : ∃ Wt : Nat → Hp → Prop, ∀ i H, Wt i H ↔ ∃ ca2 mu2 S2 acc accV, Ext ca1 mu1 H1 ca2 mu2 H ∧ D ∈ mu2 ∧ D ∉ ca2 ∧ Wd K G.EE ca2 mu2 H S2 ∧ H D = some (.lst accV) ∧ IsL K G.EE ca2 mu2 H accV acc ∧ evLc (lcTurn G ow tg c e ρ) (xs.drop i) acc S2 = r0 := ⟨_, fun _ _ => Iff.rfl⟩
    refine ⟨fun i m H => m = xs.length - i ∧ i ≤ xs.length ∧ Wt i H, ⟨xs.length, by simp, Nat.zero_le _, (hWt _ _).mpr ⟨ca1, D :: mu1, S1, [], [], (Ext.keep w1 hD rfl).1, List.mem_cons_self, f1.2, (Ext.keep w1 hD rfl).2, upd_same, .nil, by rw [List.drop_zero]; exact hr0.symm⟩⟩, ?_⟩
    rintro i m H2 ⟨rfl, hi2, hw2⟩
    obtain ⟨ca2, mu2, S2, acc, accV, x2, m2, n2, w2, d2, a2, q2⟩ := (hWt _ _).mp hw2
    by_cases hlt : i < xs.length
    · right
      refine ⟨wk.goes i ca2 mu2 H2 hlt x2, Wt (i + 1), fun H' p' => ⟨xs.length - (i + 1), by omega, rfl, hlt, p'⟩, fun v H3 y => ?_⟩
      obtain ⟨d, qd, x3, w3, i3⟩ := wk.yields i v ca2 mu2 H2 H3 S2 hlt x2 w2 y
      have hdrop : xs.drop i = d :: xs.drop (i + 1) := by
        rw [List.drop_eq_getElem_cons hlt]
        congr 1
        have := List.getElem?_eq_getElem hlt
        rw [this] at qd
        exact Option.some.inj qd
      rw [hdrop] at q2
      have q2 : (match lcTurn G ow tg c e ρ d S2 with
        | .ok (some d) S' => if acc.length < LN then evLc (lcTurn G ow tg c e ρ) (xs.drop (i + 1)) (acc ++ [d]) S' else .no
        | .ok none S' => evLc (lcTurn G ow tg c e ρ) (xs.drop (i + 1)) acc S'
        | _ => .no) = r0 := q2
      have re3 : RE K G.EE ca2 mu2 H3 (wipe σ ow) (wipeE ρ ow) := ((re1.ext x2).ext x3).wipe ow
      have D3 : H3 D = some (.lst accV) := x3.kp D _ d2 (nt_lst _) fun z => n2 z.1
      -- D behind a further piece
      have more : ∀ {ca4 mu4 H4}, Ext ca2 mu2 H3 ca4 mu4 H4 → H4 D = some (.lst accV) ∧ D ∈ mu4 ∧ D ∉ ca4 ∧ Ext ca1 mu1 H1 ca4 mu4 H4 ∧ IsL K G.EE ca4 mu4 H4 accV acc := fun {ca4 mu4 H4} x4 => by
        refine ⟨x4.kp D _ D3 (nt_lst _) fun z => n2 z.1, x4.fb D m2 n2 (by rw [D3]; simp), fun z => ?_, x2.trans (x3.trans x4), (a2.ex x3).ex x4⟩
        obtain ⟨nw, e5, f5⟩ := x4.pre
        rw [e5] at z
        rcases List.mem_append.mp z with z | z
        · exact n2 z
        · rw [f5 D z] at D3; cases D3
      cases qb : bindT tg d (wipeE ρ ow) with
      | none =>
        exfalso
        have : lcTurn G ow tg c e ρ d S2 = .no := by unfold lcTurn; rw [qb]
        rw [this] at q2
        exact nono q2.symm
      | some ρ3 =>
        have qt : lcTurn G ow tg c e ρ d S2 = lcBody G c e ρ3 S2 := by unfold lcTurn; rw [qb]
        refine ⟨ca2, mu2, d, wipeE ρ ow, ρ3, i3, re3, qb, fun σ4 re4 hw4 => ⟨?_, ?_⟩⟩
        · rw [hw4 ow hsl]
          have ww : ∀ us : List Nat, (∀ u ∈ us, u ∈ ow) → wipe (wipe σ ow) us = wipe σ ow := by
            intro us
            induction us with
            | nil => intro _; rfl
            | cons u us ih =>
              intro hu
              show (wipe (wipe σ ow) us).set u none = _
              rw [ih fun z hz => hu z (List.mem_cons_of_mem _ hz)]
              refine List.ext_getElem? fun j => ?_
              by_cases hj : u = j
              · subst hj
                by_cases hlen : u < (wipe σ ow).length
                · rw [List.getElem?_set_self hlen]
                  cases qq : (wipe σ ow)[u]? with
                  | none => rw [List.getElem?_eq_none_iff] at qq; omega
                  | some o =>
                    cases o with
                    | none => rfl
                    | some z => exact absurd (hu u List.mem_cons_self) (wipe_some qq).2
                · rw [List.getElem?_eq_none (by simpa using hlen), List.getElem?_eq_none (by omega)]
              · rw [List.getElem?_set_ne hj]
          exact ww ow fun _ h => h
        · cases qr : lcTurn G ow tg c e ρ d S2 with
          | no => rw [qr] at q2; exact absurd q2.symm nono
          | exc _ _ => rw [qr] at q2; exact absurd q2.symm nono
          | ok r S4 =>
            rw [qr] at q2
            have T := turn_ok (G := G) (c := c) (e := e) (yes := fun y H4 => ∃ acc, H4 D = some (.lst acc) ∧ acc.length < sizeLine ∧ Wt (i + 1) (upd H4 D (.lst (acc ++ [y])))) (no := Wt (i + 1)) w3 re4 (qt.symm.trans qr) (fun d4 e4 v4 ca4 mu4 H4 x4 w4 i4 => ?_) (fun e4 ca4 mu4 H4 x4 w4 => ?_)
            · cases c with
              | none => exact T
              | some c => exact T
            · -- one item more
              subst e4
              have q2 : (if acc.length < LN then evLc (lcTurn G ow tg c e ρ) (xs.drop (i + 1)) (acc ++ [d4]) S4 else .no) = r0 := q2
              by_cases hz : acc.length < LN
              · rw [if_pos hz] at q2
                obtain ⟨z1, z2, z3, z4, z5⟩ := more x4
                exact ⟨accV, z1, by rw [LN_eq, z5.length]; exact hz, (hWt _ _).mpr ⟨ca4, mu4, S4, acc ++ [d4], accV ++ [v4], z4.updOut hD, z2, z3, w4.updOut z2 z3 rfl, upd_same, IsL.updOut z2 _ (z5.append (.cons i4 .nil)), q2⟩⟩
              · rw [if_neg hz] at q2
                exact absurd q2.symm nono
            · subst e4
              obtain ⟨z1, z2, z3, z4, z5⟩ := more x4
              exact (hWt _ _).mpr ⟨ca4, mu4, S4, acc, accV, z4, z2, z3, w4, z1, z5, q2⟩
    · left
      have e : i = xs.length := by omega
      subst e
      refine ⟨wk.stops ca2 mu2 H2 x2, ?_⟩
      rw [List.drop_length] at q2
      have q2 : Res.ok acc S2 = r0 := q2
      rw [← q2] at h1
      exact h1 _ ca2 _ H2 (x2.drop hD) (w2.drop n2) (.lst d2 (by simp) (IsL.mono (fun a h => (List.mem_filter.mp h).1) _ a2))
theorem snd_lc {elt tgx iter : Expr} {ifs : List Expr} {scope : Scope} {own : List (Str × Nat)} {ow : List Nat} {pos : Pos} {it : It} {tg : Tg} {c : Oe} {e : Ex} (hc : X.calm = true) (hN : X.N.Nodup) (hi : PI X tgx iter (RdI X.K G W it)) (ok : BlkOk X.N X.env.scope scope own) (ho : own.map (·.2) = ow) (hsl : ∀ i ∈ slotsT tg, i ∈ ow)
    (hg : ∀ (s : Shared) (H : Hp) (C : Addr) (cl : List (Str × Addr)) (fp : List Addr), PG (X.blk s H scope (compEnvC scope cl C X.env) fp) tgx (RdG X.K G.EE tg))
    (ht : ∀ (s : Shared) (H : Hp) (C : Addr) (cl : List (Str × Addr)) (fp : List Addr), PTs (X.blk s H scope (compEnvC scope cl C X.env) fp) ifs (ttOf X.K G c))
    (he : ∀ (s : Shared) (H : Hp) (C : Addr) (cl : List (Str × Addr)) (fp : List Addr), PE (X.blk s H scope (compEnvC scope cl C X.env) fp) elt (RdE X.K G W0 e)) (hs : ∀ x, foldedSetIterable iter X.env x = pure x) :
    PE X (.ListComp elt [⟨tgx, iter, ifs, 0⟩] scope pos) (RdE X.K G W (.lc ow tg it c e)) :=
  PEimp (pe_lc hc hN hi ok hg ht he hs) fun σ H Q h => by rw [ho]; exact lc_read hsl h
end
end KI


set_option Elab.async false
set_option linter.all false
set_option maxRecDepth 100000
set_option autoImplicit false
set_option maxHeartbeats 2000000
/-! enumerate of a tuple. -/
namespace KI
open PySem PySem.Spec PyProof.Rows L2
open Sem (wp)
open AutoSeq1 (wpAny_loadPart')

theorem meets_enumT (l : Addr) (items : Array Value) (n : Nat) (dct : Option Addr) (sl : Array (Option Value)) :
    Meets (Builtin.«enumerate.__new__» ⟨[.type "enumerate", .ref l], []⟩) (fun _ R s => s.heap.get? l = some { cls := .type "tuple", dict := dct, data := .seq items n, slots := sl } ∧
      R (.ok (.ret (.ref (s.heap.push { cls := .type "tuple_iterator", data := .fields #[.ref l, .int 0 0] }).objs.size)))
        { s with heap := (s.heap.push { cls := .type "tuple_iterator", data := .fields #[.ref l, .int 0 0] }).push { cls := .type "enumerate", data := .fields #[.none, .bool false, .ref s.heap.objs.size, rawInt 0, .none, .none] } }) :=
  .of_wp fun prog w A R s h => by
    obtain ⟨hp, g, d, tk, os⟩ := s; obtain ⟨hl, h⟩ := h
    have hsub := sub_enumerate
    have hL : Heap.IsTuple (Shared.heap ⟨hp, g, d, tk, os⟩) l items := ⟨_, hl, rfl, n, rfl⟩
    wp_walk using wpAny_loadPart' hl
    refine wpAny_stack_any fun st => wpAny_pure ?_
    split
    · rename_i c _ _ _ _ _
      cases (c == Value.type "enumerate")
      · wp_walk using wpAny_loadPart' hl, wpAny_pyIter_tuple hL
        exact ⟨_, rfl, h⟩
      · wp_walk using wpAny_loadPart' hl, wpAny_pyIter_tuple hL
        exact ⟨_, rfl, h⟩
    · wp_walk using wpAny_loadPart' hl, wpAny_pyIter_tuple hL
      exact ⟨_, rfl, h⟩
section
variable {prog : Program} {w : World} {A : Around} {E : Value → Shared → Prop} {s : Shared}
theorem call_enumT {l : Addr} {items : Array Value} {Q : Value → Shared → Prop} (hL : s.heap.IsTuple l items)
    (h : ∀ h', IsEnum h' (s.heap.objs.size + 1) s.heap.objs.size 0 .none → h'.IsTupleIter s.heap.objs.size l 0 → h'.objs.size = s.heap.objs.size + 2 →
      (∀ b o, s.heap.get? b = some o → h'.get? b = some o) → Q (.ref (s.heap.objs.size + 1)) { s with heap := h' }) :
    wpAny (model prog w) A (call (.type "enumerate") [.ref l]) Q E s := by
  obtain ⟨⟨c, dct, dt, sl⟩, hl, hc, n, hd⟩ := hL
  replace hc : c = .type "tuple" := hc
  replace hd : dt = .seq items n := hd
  subst hc hd
  refine callType_new F.called_enumerate (by decide) (F.typeCall_enumerate_1 _) (F.newCall_enumerate_1 _) (fun obj => F.args_object_init_2 obj _) F.entry_enumerate_new
    (meets_enumT l items n dct sl) ⟨hl, ?_⟩
  have hz : (s.heap.push { cls := .type "tuple_iterator", data := .fields #[.ref l, .int 0 0] }).objs.size = s.heap.objs.size + 1 := Heap.size_push ..
  show _ ∧ _
  rw [hz]
  have he : IsEnum ((s.heap.push { cls := .type "tuple_iterator", data := .fields #[.ref l, .int 0 0] }).push
      { cls := .type "enumerate", data := .fields #[.none, .bool false, .ref s.heap.objs.size, rawInt 0, .none, .none] }) (s.heap.objs.size + 1) s.heap.objs.size 0 .none := by
    have := Heap.get?_push_size (s.heap.push { cls := .type "tuple_iterator", data := .fields #[.ref l, .int 0 0] })
      (o := { cls := .type "enumerate", data := .fields #[.none, .bool false, .ref s.heap.objs.size, rawInt 0, .none, .none] }) rfl
    rw [hz] at this; exact this
  refine ⟨⟨_, he, rfl⟩, h _ he ⟨_, Heap.get?_push_of_some _ (Heap.get?_push_size _ rfl), rfl, rfl⟩ (by rw [Heap.size_push, hz]) fun b o x => Heap.get?_push_of_some _ (Heap.get?_push_of_some _ x)⟩
end
/-- the tuple at a, each item in a new pair -/
def IteT (K : PySem.W.Frag) (a : Addr) : L2.It :=
  ⟨fun i H => ∃ (xs : List V) (x : V), SqT K H a xs ∧ xs[i]? = some x, fun i H v H' => ∃ T x, v = .ref T ∧ H T = none ∧ H' = upd H T (.tup [.int (i : Nat), x]) ∧ ∀ xs, SqT K H a xs → xs[i]? = some x, fun i H => ∃ xs : List V, SqT K H a xs ∧ xs.length = i⟩
theorem turn_enumT {P : Program} {w : World} {K : PySem.W.Frag} {elts : List Expr} {kk : Nat} {tpos : Pos} (a e it : Addr) :
    Turn P w K (.Tuple elts kk tpos) (IteT K a) [e, it] e (fun i h => (∃ old, IsEnum h e it ((i : Nat) : Int) old) ∧ h.IsTupleIter it a i ∧ e ≠ it) where
  mem := by simp
  obj := fun i h st b hb => by
    obtain ⟨⟨old, he⟩, ⟨o, ho, hc, hd⟩, _⟩ := st
    have e' : b = e ∨ b = it := by simpa using hb
    rcases e' with z | z
    · rw [z]; exact ⟨_, he, fun v q => nomatch q⟩
    · rw [z]; exact ⟨o, ho, fun v q => by rw [hd] at q; cases q⟩
  keep := fun i h h' st k => let ⟨⟨old, he⟩, hi, hne⟩ := st; ⟨⟨old, k e (by simp) _ he⟩, hi.at fun o q => k it (by simp) o q, hne⟩
  item := by
    intro X hP hw hK hc i pins s σ H E I hf st hg
    subst hP hw hK
    obtain ⟨⟨old, he⟩, hit, hne⟩ := st
    obtain ⟨xs, x, hq, hx⟩ := hg
    obtain ⟨its, rv, p, hz⟩ := I.tuple hq
    obtain ⟨u, hu, ru⟩ := rv.get hx
    have hel : e < s.heap.objs.size := Heap.lt_size he
    have hil : it < s.heap.objs.size := by obtain ⟨_, q, _⟩ := hit; exact Heap.lt_size q
    have pT : s.heap.IsTuple a its.toArray := p
    have hai : a ≠ it := fun q => by
      subst q
      obtain ⟨o, h1, h2, _⟩ := pT
      obtain ⟨o', h3, h4, _⟩ := hit
      rw [h1] at h3
      cases h3
      rw [h2] at h4
      exact absurd h4 (by decide)
    have hea : e ≠ a := fun q => by
      subst q
      obtain ⟨o, h1, h2, _⟩ := pT
      unfold IsEnum at he
      rw [h1] at he
      cases he
      have h2 : Value.type "enumerate" = Value.type "tuple" := h2
      exact absurd h2 (by decide)
    have hl : i < its.toArray.size := by
      have := (List.getElem?_eq_some_iff.mp hu).1
      simpa using this
    refine wpAny_pyNext_enum_itemD (Draws.tuple (prog := X.prog) (w := X.w) (A := X.A.in1) (by have := I.ok.hd hc; exact this) it a hai its.toArray) he ⟨hit, pT⟩ hl hne (by simp [hne, hea]) fun x' h' tk hx' ho hit' hT hsz hk => ?_
    have exx : x' = u := by
      have hx' : its.toArray[i]? = some x' := hx'
      simp at hx'
      rw [hu] at hx'
      exact (Option.some.inj hx').symm
    subst exx
    refine ⟨_, rfl, wpAny_letOwnedTupleGo_enum (s := { s with heap := h', toks := tk + 1 }) ho fun h'' he' sb => ?_⟩
    have hT2 : h''.get? s.heap.objs.size = some { cls := .type "tuple", data := .seq #[.int i tk, x'] } := (sb.2 _ (Nat.ne_of_gt hel)).trans hT
    have new : ObjOk X.prog X.w (upd H s.heap.objs.size (.tup [.int (i : Nat), x])) h'' s.heap.objs.size (.tup [.int (i : Nat), x]) :=
      ⟨by show 2 ≤ sizeLine; decide, [.int i tk, x'], .cons ⟨_, rfl⟩ (.cons ru .nil), ⟨_, hT2, rfl, _, rfl⟩⟩
    have I1 : Inv X pins σ (upd H s.heap.objs.size (.tup [.int (i : Nat), x])) { s with heap := h'', toks := tk + 1 } :=
      I.turnedNew (ch := [e, it]) (fun b ob hb q => (sb.2 b (fun z => hb (by simp [z]))).trans (hk b ob (fun z => hb (by simp [z])) (fun z => hb (by simp [z])) q)) hf (Nat.le_refl _) new
    refine ⟨.ref s.heap.objs.size, _, I1, rfl, ⟨_, x, rfl, I.hok.fresh (Nat.le_refl _), rfl, fun ys hy => by rw [I.tuple_inj hy hq]; exact hx⟩, ⟨⟨x', ?_⟩, hit'.1.at fun o q => (sb.2 it (Ne.symm hne)).trans q, hne⟩, fun b hb => ?_⟩
    · have e1 : ((i + 1 : Nat) : Int) = (i : Int) + 1 := by omega
      rw [e1]; exact he'
    · have hb' : b < s.heap.objs.size := by
        have e' : b = e ∨ b = it := by simpa using hb
        rcases e' with z | z
        · rw [z]; exact hel
        · rw [z]; exact hil
      rw [upd_ne (Nat.ne_of_lt hb')]
      exact (hf b hb).1
  done := by
    intro X hP hw hK hc i pins s σ H E I hf st hg
    subst hP hw hK
    obtain ⟨⟨old, he⟩, hit, hne⟩ := st
    obtain ⟨xs, hq, hx⟩ := hg
    obtain ⟨its, rv, p, hz⟩ := I.tuple hq
    obtain ⟨f0, f1, f2, f3, f4, f5⟩ := hf it (by simp)
    have hl := rv.length
    have pT : s.heap.IsTuple a its.toArray := p
    have hai : a ≠ it := fun q => by
      subst q
      obtain ⟨o, h1, h2, _⟩ := pT
      obtain ⟨o', h3, h4, _⟩ := hit
      rw [h1] at h3
      cases h3
      rw [h2] at h4
      exact absurd h4 (by decide)
    have ei : i = its.toArray.size := by simp; omega
    refine wpAny_pyNext_enum_endD (Draws.tuple (prog := X.prog) (w := X.w) (A := X.A.in1) (by have := I.ok.hd hc; exact this) it a hai its.toArray) he ⟨by rw [← ei]; exact hit, pT⟩ fun h' eb => ⟨rfl, I.turned (t' := s.toks) (fun b o hb q => eb b o hb q) f0 f1 f3 f4 f5⟩
  self := fun A i s Q E st h => let ⟨⟨_, he⟩, _⟩ := st; wpAny_pyIter_enum he h
def iEnumT (K : PySem.W.Frag) (ta : TA) : TI := fun σ H R => ta σ H fun vs H1 => ∃ a xs, vs = [.ref a] ∧ SqT K H1 a xs ∧ R (IteT K a) H1
theorem pi_enumT {X : Cx} {e : Expr} {ta : TA} {p pos tpos : Pos} {elts : List Expr} {kk : Nat} (hg : Gl X "enumerate") (hm : X.mg "enumerate" = none) (ha : PA X [e] ta) (hs : starEach [e] X.env = [(false, eval e X.env)]) :
    PI X (.Tuple elts kk tpos) (.Call (.Name "enumerate" p) [e] [] pos) (iEnumT X.K ta) := by
  refine ⟨fun pins s σ H R I h => ?_⟩
  refine Call_ (ld_blt I hg hm boot_enumerate (PyProof.Rows.callWith_type1 (thn (ha.run pos pins s σ H _ I h) fun us s1 ⟨vs, H1, I1, r1, q1⟩ => ?_) hs rfl))
  obtain ⟨a, xs, ex, hq, q⟩ := q1
  subst ex
  cases r1 with
  | cons r rr =>
    cases rr
    cases r
    obtain ⟨its, rv, p', hz⟩ := I1.tuple hq
    refine call_enumT p' fun h' he hit hsz hk => wpAny_pyIter_enum he ?_
    have I2 : Inv X pins σ H1 { s1 with heap := h' } := I1.kept (t' := s1.toks) hk
    refine ⟨s1.heap.objs.size + 1, [s1.heap.objs.size + 1, s1.heap.objs.size], _, _, H1, rfl, I2, turn_enumT a (s1.heap.objs.size + 1) s1.heap.objs.size, ⟨⟨.none, he⟩, hit, Nat.succ_ne_self _⟩, fun b hb => ?_, q⟩
    have e' : b = s1.heap.objs.size + 1 ∨ b = s1.heap.objs.size := by simpa using hb
    have hle : s1.heap.objs.size ≤ b := by
      rcases e' with z | z
      · rw [z]; exact Nat.le_add_right _ _
      · rw [z]; exact Nat.le_refl _
    exact I1.fpOk hle (I1.hok.fresh hle)
end KI


set_option Elab.async false
set_option linter.all false
set_option maxRecDepth 100000
set_option autoImplicit false
set_option maxHeartbeats 2000000
/-! Dict displays, methods, enumerate. -/
namespace KI
open PySem PySem.Spec PyProof.Rows L2

section
variable {K : PySem.W.Frag} {EE : Ek} {ca mu l : List Addr} {H : Hp} {S : Sto} {p : Addr} {o : HO}
mutual
theorem Is.more {H : Hp} : ∀ (d : D) {v : V}, Is K EE ca mu H v d → Is K EE (ca ++ l) mu H v d
  | .non, _, h => by cases h; exact .non
  | .bl b, _, h => by cases h; exact .bl b
  | .int i, _, h => by cases h; exact .int i
  | .str s, _, h => by cases h; exact .str s
  | .tup ds, _, h => by cases h with | tup h1 h2 => exact .tup h1 (IsL.more ds h2)
  | .lst ds, _, h => by cases h with | lst h1 h2 h3 => exact .lst h1 h2 (IsL.more ds h3)
  | .dic ds, _, h => by cases h with | dic h1 h2 h3 => exact .dic h1 h2 (IsK.more ds h3)
  | .ro ds, _, h => by cases h with | ro h1 h2 => exact .ro h1 (IsL.more ds h2)
  | .cell n, _, h => by cases h with | cell h => exact .cell (by rw [List.getElem?_append_left (List.getElem?_eq_some_iff.mp h).1]; exact h)
  | .fn i, _, h => by cases h with | fn _ h => exact .fn i h
  | .clo np e ds, _, h => by cases h with | clo h1 h2 h3 h4 h5 h6 h7 => exact .clo h1 h2 h3 h4 h5 h6 (IsL.more ds h7)
theorem IsL.more {H : Hp} : ∀ (ds : List D) {vs : List V}, IsL K EE ca mu H vs ds → IsL K EE (ca ++ l) mu H vs ds
  | [], _, h => by cases h; exact .nil
  | d :: ds, _, h => by cases h with | cons h1 h2 => exact .cons (Is.more d h1) (IsL.more ds h2)
theorem IsK.more {H : Hp} : ∀ (ds : List (Key × D)) {vs : List (Key × V)}, IsK K EE ca mu H vs ds → IsK K EE (ca ++ l) mu H vs ds
  | [], _, h => by cases h; exact .nil
  | (_, d) :: ds, _, h => by cases h with | cons h1 h2 => exact .cons (Is.more d h1) (IsK.more ds h2)
end
/-- p, kept out, becomes a cell -/
theorem Wd.adopt {b : Ob} (w : Wd K EE ca mu H S) (hm : p ∈ mu) (hc : p ∉ ca) (hb : ObR K EE (ca ++ [p]) mu (upd H p o) p b) (ho : chg o = true) : Wd K EE (ca ++ [p]) mu (upd H p o) (S ++ [b]) := by
  have w1 := w.updOut (o := o) hm hc ho
  refine ⟨by rw [List.length_append, List.length_append, w.len]; rfl, List.nodup_append.mpr ⟨w.nd, by simp, fun a ha b hb e => hc (by rw [List.mem_singleton.mp hb] at e; rw [← e]; exact ha)⟩, fun n a o' h1 h2 => ?_, w1.tm, w1.tb, fun a ha => ?_⟩
  · by_cases hn : n < ca.length
    · rw [List.getElem?_append_left hn] at h1
      rw [List.getElem?_append_left (by rw [← w.len]; exact hn)] at h2
      have hb := w1.ob n a o' h1 h2
      cases o' with
      | lst xs => obtain ⟨q1, vs, q2, q3⟩ := hb; exact ⟨q1, vs, q2, IsL.more _ q3⟩
      | dct xs => obtain ⟨q1, vs, q2, q3⟩ := hb; exact ⟨q1, vs, q2, IsK.more _ q3⟩
      | ins c xs => obtain ⟨q1, dx, vs, q2, q3, q4⟩ := hb; exact ⟨q1, dx, vs, q2, q3, IsL.more _ q4⟩
      | dead => trivial
    · have e : n = ca.length := by
        have := (List.getElem?_eq_some_iff.mp h1).1
        rw [List.length_append] at this
        simp at this
        omega
      subst e
      rw [List.getElem?_append_right (Nat.le_refl _), Nat.sub_self] at h1
      rw [w.len, List.getElem?_append_right (Nat.le_refl _), Nat.sub_self] at h2
      simp at h1 h2
      subst h1 h2
      exact hb
  · rcases List.mem_append.mp ha with h | h
    · exact w1.tc a h
    · rw [List.mem_singleton.mp h]; exact w1.tm p hm
theorem Ext.adopt {ca' mu' : List Addr} {H' : Hp} (x : Ext ca mu H ca' mu' H') (hp : H p = none) : Ext ca mu H (ca' ++ [p]) mu' (upd H' p o) := by
  have y := x.updOut (o := o) hp
  obtain ⟨nw, e, f⟩ := y.pre
  exact ⟨⟨nw ++ [p], by rw [e, List.append_assoc], fun a ha => (List.mem_append.mp ha).elim (f a) fun z => by rw [List.mem_singleton.mp z]; exact hp⟩, y.mus, y.kp, y.tr, y.fb⟩
theorem IsK.zip : ∀ {ks : List Key} {vs : List V} {ds : List D}, IsL K EE ca mu H vs ds → IsK K EE ca mu H (ks.zip vs) (ks.zip ds)
  | [], _, _, _ => by simp; exact .nil
  | k :: ks, _, _, .nil => by simp; exact .nil
  | k :: ks, _, _, .cons h1 h2 => by rw [List.zip_cons_cons, List.zip_cons_cons]; exact .cons h1 (IsK.zip h2)
end
theorem zip_map : ∀ (ks : List Str) (vs : List V), (ks.zip vs).map (fun p => (V.str p.1, p.2)) = ((ks.map Sum.inr).zip vs).map (fun kv : Key × V => (kV kv.1, kv.2))
  | [], _ => rfl
  | _ :: _, [] => rfl
  | k :: ks, v :: vs => by simp only [List.zip_cons_cons, List.map_cons]; rw [zip_map ks vs]; rfl
/-- the pairs of a display -/
def PsR (K : PySem.W.Frag) (G : En) (W : WX) (ks : List Str) (es : Exs) (trs : List (TE × TE)) : Prop :=
  ∀ σ H R, RdA K G W es σ H R → tPairs trs σ H fun ps H' => ∃ vs : List V, ps = (ks.zip vs).map (fun p => (V.str p.1, p.2)) ∧ vs.length = ks.length ∧ R vs H'
section
variable {X : Cx} {G : En} {W : WX} {pos : Pos}
theorem psR_nil : PsR X.K G W [] .nil [] := fun σ H R ⟨ca, mu, ρ, S, w, re, h⟩ => ⟨[], rfl, rfl, h [] ca mu H Ext.refl w .nil⟩
theorem tPairs_imp {trs : List (TE × TE)} (mono : ∀ t ∈ trs, (∀ σ H (Q R : VK), (∀ v H, Q v H → R v H) → t.1 σ H Q → t.1 σ H R) ∧ ∀ σ H (Q R : VK), (∀ v H, Q v H → R v H) → t.2 σ H Q → t.2 σ H R) {σ : L2.St} : ∀ {H : Hp} {Q R : List (V × V) → Hp → Prop}, (∀ v H, Q v H → R v H) → tPairs trs σ H Q → tPairs trs σ H R := by
  induction trs with
  | nil => intro H Q R k h; exact k _ _ h
  | cons t trs ih =>
    obtain ⟨t1, t2⟩ := t
    intro H Q R k h
    exact (mono _ List.mem_cons_self).1 σ H _ _ (fun v H1 h1 => (mono _ List.mem_cons_self).2 σ H1 _ _ (fun v2 H2 h2 => ih (fun t ht => mono t (List.mem_cons_of_mem _ ht)) (fun ps H3 h3 => k _ _ h3) h2) h1) h
theorem rd_mono {K : PySem.W.Frag} {e : Ex} : ∀ σ H (Q R : VK), (∀ v H, Q v H → R v H) → RdE K G W e σ H Q → RdE K G W e σ H R := fun σ H Q R k ⟨ca, mu, ρ, S, w, re, h⟩ => ⟨ca, mu, ρ, S, w, re, okR.imp h fun a S b ca' mu' H' _ _ _ _ q => k _ _ q⟩
theorem psR_cons {k : Str} {ks : List Str} {e : Ex} {es : Exs} {trs : List (TE × TE)} (h2 : PsR X.K G W ks es trs) (m : ∀ t ∈ trs, (∀ σ H (Q R : VK), (∀ v H, Q v H → R v H) → t.1 σ H Q → t.1 σ H R) ∧ ∀ σ H (Q R : VK), (∀ v H, Q v H → R v H) → t.2 σ H Q → t.2 σ H R) :
    PsR X.K G W (k :: ks) (.cons e es) ((tC (.str k), RdE X.K G W e) :: trs) := fun σ H R ⟨ca, mu, ρ, S, w, re, h⟩ => by
  show RdE X.K G W e σ H fun v H1 => tPairs trs σ H1 fun ps H2 => _
  refine step w re h fun d S1 v ca1 mu1 H1 e1 w1 re1 i1 h1 => ?_
  refine tPairs_imp m (fun ps H2 hq => ?_) (h2 σ H1 (fun vs H2 => R (v :: vs) H2) (step w1 re1 h1 fun ds S2 vs ca2 mu2 H2 e2 w2 re2 i2 h2 => h2 (v :: vs) ca2 mu2 H2 Ext.refl w2 (.cons (i1.ex e2) i2)))
  obtain ⟨vs, q1, q2, q3⟩ := hq
  exact ⟨v :: vs, by rw [q1]; rfl, by rw [List.length_cons, List.length_cons, q2], q3⟩
theorem snd_newd {ks : List Str} {as : Exs} {keys : List (Option Expr)} {values : List Expr} {trs : List (TE × TE)} (hp : PPs X pos keys values trs) (ha : keys.all (·.isSome) = true) (hl : keys.length = values.length) (hk : keys.length = ks.length) (hr : PsR X.K G W ks as trs)
    (m : ∀ t ∈ trs, (∀ σ H (Q R : VK), (∀ v H, Q v H → R v H) → t.1 σ H Q → t.1 σ H R) ∧ ∀ σ H (Q R : VK), (∀ v H, Q v H → R v H) → t.2 σ H Q → t.2 σ H R) (k0 : ks ≠ []) (k15 : ks.length ≤ 15) : PE X (.Dict keys values pos) (RdE X.K G W (.newc (.dct ks as))) :=
  PEimp (pe_disp hp ha hl (fun e => k0 (List.eq_nil_of_length_eq_zero (by rw [← hk, e]; rfl))) (by rw [hk]; exact k15)) fun σ H Q ⟨ca, mu, ρ, S, w, re, h⟩ => by
    have h : okR X.K G.EE G.XA (IsR X.K G.EE) ca mu H ((evs G.cons G.call as ρ S).bind fun ds S => if ds.length = ks.length ∧ ks.length ≤ 15 ∧ ks.length ≠ 0 then (Res.ok (D.cell S.length) (S ++ [Ob.dct (mergeD [] ((ks.map Sum.inr).zip ds))])) else .no) Q (fun c d H' => W c d σ H') := by
      have e : ev G.cons G.call (.newc (.dct ks as)) ρ S = (evs G.cons G.call as ρ S).bind fun ds S => if ds.length = ks.length ∧ ks.length ≤ 15 ∧ ks.length ≠ 0 then (Res.ok (D.cell S.length) (S ++ [Ob.dct (mergeD [] ((ks.map Sum.inr).zip ds))])) else .no := by
        show ((evs G.cons G.call as ρ S).bind _).bind _ = _
        rw [bind_assoc]
        congr 1
        funext ds S
        split <;> rfl
      rw [← e]
      exact h
    intro p hp0
    obtain ⟨x0, w0⟩ := Ext.keep (o := .dK []) w hp0 rfl
    refine tPairs_imp m (fun ps H2 hq => ?_) (hr σ (upd H p (.dK [])) (fun vs H2 => vs.length = ks.length → H2 p = some (.dK []) ∧ ∃ kvs : List (Key × V), (ks.zip vs).map (fun p => (V.str p.1, p.2)) = kvs.map (fun kv => (kV kv.1, kv.2)) ∧ kvs.length ≤ 15 ∧ Q (.ref p) (upd H2 p (.dK (mergeK [] kvs)))) ?_)
    · obtain ⟨vs, q1, q2, q3⟩ := hq
      rw [q1]
      exact q3 q2
    · have hpm : p ∈ p :: mu := List.mem_cons_self
      have hpc : p ∉ ca := (w.fresh hp0).2
      refine ⟨ca, p :: mu, ρ, S, w0, re.ext x0, ?_⟩
      cases q : evs G.cons G.call as ρ S with
      | no => rw [q] at h; exact h
      | exc y S1 => rw [q] at h; exact fun cls dd ca' mu' H' e w' i => h cls dd ca' mu' H' (x0.trans e) w' i
      | ok ds S1 =>
        rw [q] at h
        intro vs ca1 mu1 H1 e1 w1 i1 hvs
        have h : okR X.K G.EE G.XA (IsR X.K G.EE) ca mu H (if ds.length = ks.length ∧ ks.length ≤ 15 ∧ ks.length ≠ 0 then (Res.ok (D.cell S1.length) (S1 ++ [Ob.dct (mergeD [] ((ks.map Sum.inr).zip ds))])) else .no) Q (fun c d H' => W c d σ H') := h
        have f1 : H1 p = some (.dK []) := e1.kp p _ upd_same (nt_dK _) fun z => hpc z.1
        have m1 : p ∈ mu1 := e1.fb p hpm hpc (by rw [upd_same]; simp)
        have c1 : p ∉ ca1 := fun z => by
          obtain ⟨nw, e, f⟩ := e1.pre
          rw [e] at z
          rcases List.mem_append.mp z with z | z
          · exact hpc z
          · have := f p z
            rw [upd_same] at this
            cases this
        split at h
        · refine ⟨f1, (ks.map Sum.inr).zip vs, zip_map ks vs, ?_, ?_⟩
          · rw [List.length_zip, List.length_map]; omega
          · have ik : IsK X.K G.EE (ca1 ++ [p]) mu1 (upd H1 p (.dK (mergeK [] ((ks.map Sum.inr).zip vs)))) (mergeK [] ((ks.map Sum.inr).zip vs)) (mergeD [] ((ks.map Sum.inr).zip ds)) :=
              IsK.more _ (IsK.updOut m1 _ (IsK.merge _ .nil (IsK.zip i1)))
            have w2 := Wd.adopt (o := .dK (mergeK [] ((ks.map Sum.inr).zip vs))) (b := .dct (mergeD [] ((ks.map Sum.inr).zip ds))) w1 m1 c1 ⟨m1, _, upd_same, ik⟩ rfl
            exact h _ _ _ _ (Ext.adopt (x0.trans e1) hp0) w2 (.cell (by rw [← w1.len, List.getElem?_append_right (Nat.le_refl _), Nat.sub_self]; rfl))
        · exact h.elim
end
end KI


set_option Elab.async false
set_option linter.all false
set_option maxRecDepth 100000
set_option autoImplicit false
set_option maxHeartbeats 2000000
/-! enumerate, zip, methods of built-in types, len(set(..)). -/
namespace KI
open PySem PySem.Spec PyProof.Rows L2 RZ

section
variable {K : PySem.W.Frag} {EE : Ek} {ca mu : List Addr} {H : Hp} {S : Sto}
theorem enumL_get : ∀ (xs : List D) (n i : Nat), (enumL n xs)[i]? = (xs[i]?).map fun x => D.tup [.int ((n + i : Nat) : Int), x]
  | [], n, i => by simp [enumL]
  | x :: xs, n, 0 => by simp [enumL]
  | x :: xs, n, i + 1 => by
    show (enumL (n + 1) xs)[i]? = _
    rw [enumL_get xs (n + 1) i]
    simp only [List.getElem?_cons_succ]
    congr 1
    funext y
    congr 3
    omega
theorem enumL_length : ∀ (xs : List D) (n : Nat), (enumL n xs).length = xs.length
  | [], _ => rfl
  | x :: xs, n => by show (enumL (n + 1) xs).length + 1 = _; rw [enumL_length xs]; rfl
theorem zipL_get : ∀ (xs ys : List D) (i : Nat) (x y : D), xs[i]? = some x → ys[i]? = some y → (zipL xs ys)[i]? = some (.tup [x, y])
  | [], _, _, _, _, h, _ => by simp at h
  | _ :: _, [], _, _, _, _, h => by simp at h
  | a :: xs, b :: ys, 0, x, y, h1, h2 => by simp at h1 h2; subst h1 h2; rfl
  | a :: xs, b :: ys, i + 1, x, y, h1, h2 => by
    show (zipL xs ys)[i]? = _
    exact zipL_get xs ys i x y (by simpa using h1) (by simpa using h2)
theorem zipL_length : ∀ (xs ys : List D), (zipL xs ys).length = min xs.length ys.length
  | [], ys => by simp [zipL]
  | _ :: _, [] => rfl
  | a :: xs, b :: ys => by show (zipL xs ys).length + 1 = _; rw [zipL_length xs ys]; simp
/-- a new pair -/
theorem new_pair {T : Addr} {x y : V} {d e : D} (w : Wd K EE ca mu H S) (hT : H T = none) (h1 : Is K EE ca mu H x d) (h2 : Is K EE ca mu H y e) :
    Ext ca mu H ca mu (upd H T (.tup [x, y])) ∧ Wd K EE ca mu (upd H T (.tup [x, y])) S ∧ Is K EE ca mu (upd H T (.tup [x, y])) (.ref T) (.tup [d, e]) :=
  ⟨Ext.new hT, w.new hT, .tup (.inl ⟨.inl upd_same, (w.fresh hT).1⟩) (.cons (h1.ex (Ext.new hT)) (.cons (h2.ex (Ext.new hT)) .nil))⟩
theorem walkD_enumT {a : Addr} {vs : List V} {ds : List D} (h1 : SqTm K mu H a vs) (h2 : IsL K EE ca mu H vs ds) : WalkD K EE (IteT K a) ca mu H (enumL 0 ds) := by
  have hl := h2.length
  refine ⟨fun i ca' mu' H' hi x => ?_, fun ca' mu' H' x => ⟨vs, (h1.ext x).sq, by rw [enumL_length]; omega⟩, fun i v ca' mu' H' H2 S' hi x w y => ?_⟩
  · rw [enumL_length] at hi
    exact ⟨vs, vs[i]'(by omega), (h1.ext x).sq, by simp [show i < vs.length by omega]⟩
  · obtain ⟨T, z, rfl, hT, rfl, hz⟩ := y
    obtain ⟨d, q1, q2⟩ := (h2.ex x).get' (hz vs (h1.ext x).sq)
    obtain ⟨a1, a2, a3⟩ := new_pair w hT (.int ((i : Nat) : Int)) q2
    exact ⟨_, by rw [enumL_get, q1, Nat.zero_add]; rfl, a1, a2, a3⟩
theorem walkD_enumL {a : Addr} {vs : List V} {ds : List D} (h1 : H a = some (.lst vs)) (hm : a ∉ mu) (h2 : IsL K EE ca mu H vs ds) : WalkD K EE (Ite K a) ca mu H (enumL 0 ds) := by
  have hl := h2.length
  refine ⟨fun i ca' mu' H' hi x => ?_, fun ca' mu' H' x => ⟨vs, SqL.of (x.out h1 (nt_lst _) hm).1, by rw [enumL_length]; omega⟩, fun i v ca' mu' H' H2 S' hi x w y => ?_⟩
  · rw [enumL_length] at hi
    exact ⟨vs, vs[i]'(by omega), SqL.of (x.out h1 (nt_lst _) hm).1, by simp [show i < vs.length by omega]⟩
  · obtain ⟨T, z, rfl, hT, rfl, hz⟩ := y
    obtain ⟨d, q1, q2⟩ := (h2.ex x).get' (hz vs (SqL.of (x.out h1 (nt_lst _) hm).1))
    obtain ⟨a1, a2, a3⟩ := new_pair w hT (.int ((i : Nat) : Int)) q2
    exact ⟨_, by rw [enumL_get, q1, Nat.zero_add]; rfl, a1, a2, a3⟩
theorem walkD_zipT {a b : Addr} {vs us : List V} {ds es : List D} (h1 : SqTm K mu H a vs) (h2 : IsL K EE ca mu H vs ds) (g1 : SqTm K mu H b us) (g2 : IsL K EE ca mu H us es) : WalkD K EE (ItzT K a b) ca mu H (zipL ds es) := by
  have hl := h2.length
  have gl := g2.length
  refine ⟨fun i ca' mu' H' hi x => ?_, fun ca' mu' H' x => ⟨vs, us, (h1.ext x).sq, (g1.ext x).sq, by rw [zipL_length]; omega⟩, fun i v ca' mu' H' H2 S' hi x w y => ?_⟩
  · rw [zipL_length] at hi
    exact ⟨vs, us, vs[i]'(by omega), us[i]'(by omega), (h1.ext x).sq, (g1.ext x).sq, by simp [show i < vs.length by omega], by simp [show i < us.length by omega]⟩
  · obtain ⟨T, z, z2, rfl, hT, rfl, hz, hz2⟩ := y
    obtain ⟨d, q1, q2⟩ := (h2.ex x).get' (hz vs (h1.ext x).sq)
    obtain ⟨e, r1, r2⟩ := (g2.ex x).get' (hz2 us (g1.ext x).sq)
    obtain ⟨a1, a2, a3⟩ := new_pair w hT q2 r2
    exact ⟨_, zipL_get _ _ _ _ _ q1 r1, a1, a2, a3⟩
theorem walkD_zipL {a b : Addr} {vs us : List V} {ds es : List D} (h1 : H a = some (.lst vs)) (hm : a ∉ mu) (h2 : IsL K EE ca mu H vs ds) (g1 : H b = some (.lst us)) (gm : b ∉ mu) (g2 : IsL K EE ca mu H us es) : WalkD K EE (Itz K a b) ca mu H (zipL ds es) := by
  have hl := h2.length
  have gl := g2.length
  refine ⟨fun i ca' mu' H' hi x => ?_, fun ca' mu' H' x => ⟨vs, us, SqL.of (x.out h1 (nt_lst _) hm).1, SqL.of (x.out g1 (nt_lst _) gm).1, by rw [zipL_length]; omega⟩, fun i v ca' mu' H' H2 S' hi x w y => ?_⟩
  · rw [zipL_length] at hi
    exact ⟨vs, us, vs[i]'(by omega), us[i]'(by omega), SqL.of (x.out h1 (nt_lst _) hm).1, SqL.of (x.out g1 (nt_lst _) gm).1, by simp [show i < vs.length by omega], by simp [show i < us.length by omega]⟩
  · obtain ⟨T, z, z2, rfl, hT, rfl, hz, hz2⟩ := y
    obtain ⟨d, q1, q2⟩ := (h2.ex x).get' (hz vs (SqL.of (x.out h1 (nt_lst _) hm).1))
    obtain ⟨e, r1, r2⟩ := (g2.ex x).get' (hz2 us (SqL.of (x.out g1 (nt_lst _) gm).1))
    obtain ⟨a1, a2, a3⟩ := new_pair w hT q2 r2
    exact ⟨_, zipL_get _ _ _ _ _ q1 r1, a1, a2, a3⟩
end
section
variable {X : Cx} {G : En} {W : WX} {a b : Ex} {ea eb : Expr} {pos p tpos : Pos} {elts : List Expr} {kk : Nat}
theorem sndI_enum (hg : Gl X "enumerate") (hm : X.mg "enumerate" = none) (ha : PE X ea (RdE X.K G W a)) (hn : notStar ea = true) : PI X (.Tuple elts kk tpos) (.Call (.Name "enumerate" p) [ea] [] pos) (RdI X.K G W (.enum a)) :=
  PIimp (PIor (pi_enumT hg hm (pa_cons ha pa_nil (star_ne hn _ _)) (star_ne hn _ _)) (pi_enum hg hm (pa_cons ha pa_nil (star_ne hn _ _)) (star_ne hn _ _))) fun σ H R ⟨ca, mu, ρ, S, w, re, h⟩ => by
    have h : okR X.K G.EE G.XA (WalkR X.K G.EE) ca mu H ((ev G.cons G.call a ρ S).bind fun d S => lift ((items d).map (enumL 0)) S) R (fun c d H' => W c d σ H') := h
    by_cases q : ∃ ds S1, ev G.cons G.call a ρ S = .ok (.lst ds) S1
    · right
      obtain ⟨ds, S1, q⟩ := q
      refine ⟨ca, mu, ρ, S, w, re, okR.bind h fun d S1' v ca1 mu1 H1 e e1 w1 i1 h1 => ?_⟩
      rw [q] at e
      cases e
      cases i1 with
      | @lst _ p vs _ g1 g2 g3 => exact ⟨p, vs, rfl, SqL.of g1, h1 _ ca1 mu1 H1 Ext.refl w1 (walkD_enumL g1 g2 g3)⟩
    · left
      refine ⟨ca, mu, ρ, S, w, re, okR.bind h fun d S1' v ca1 mu1 H1 e e1 w1 i1 h1 => ?_⟩
      cases i1 with
      | @lst _ p vs _ g1 g2 g3 => exact absurd ⟨_, _, e⟩ q
      | @tup _ p vs _ g1 g2 => exact ⟨p, vs, rfl, g1.sq, h1 _ ca1 mu1 H1 Ext.refl w1 (walkD_enumT g1 g2)⟩
      | _ => exact h1.elim
theorem sndI_zip (hg : Gl X "zip") (hm : X.mg "zip" = none) (ha : PE X ea (RdE X.K G W a)) (hb : PE X eb (RdE X.K G W b)) (hn : notStar ea = true) (hn2 : notStar eb = true) : PI X (.Tuple elts kk tpos) (.Call (.Name "zip" p) [ea, eb] [] pos) (RdI X.K G W (.zip a b)) :=
  PIimp (pi_zipA hg hm (pa_cons ha (pa_cons hb pa_nil (star_ne hn2 _ _)) (star_ne hn _ _)) (by rw [star_ne hn, star_ne hn2]) (by rw [star_ne hn2]; rfl)) fun σ H R ⟨ca, mu, ρ, S, w, re, h⟩ => by
    refine step w re h fun d S1 v ca1 mu1 H1 e1 w1 re1 i1 h1 => step w1 re1 h1 fun d2 S2 v2 ca2 mu2 H2 e2 w2 re2 i2 h2 => ?_
    have i1' := i1.ex e2
    cases i1' with
    | @lst _ p vs _ g1 g2 g3 =>
      cases i2 with
      | @lst _ q us _ k1 k2 k3 => exact ⟨p, q, vs, us, rfl, .inl ⟨SqL.of g1, SqL.of k1, h2 _ ca2 mu2 H2 Ext.refl w2 (walkD_zipL g1 g2 g3 k1 k2 k3)⟩⟩
      | _ => exact h2.elim
    | @tup _ p vs _ g1 g2 =>
      cases i2 with
      | @tup _ q us _ k1 k2 => exact ⟨p, q, vs, us, rfl, .inr ⟨g1.sq, k1.sq, h2 _ ca2 mu2 H2 Ext.refl w2 (walkD_zipT g1 g2 k1 k2)⟩⟩
      | _ => exact h2.elim
    | _ => exact h2.elim
/-! ### methods -/
theorem att_ok {o : Expr} (h : attB o = true) (m : Str) (env : PySem.Env) (w : Sem Value) : attributeBase o m env w = w := by
  unfold attributeBase
  split
  · cases h
  · rfl
variable {o : Ex} {eo ec : Expr} {c : Ex} {apos cpos : Pos}
theorem findIx_ok {x : D} : ∀ {xs : List D} {n j : Nat}, findIx n xs x = some j → n ≤ j ∧ ∃ z, xs[j - n]? = some z ∧ eqD z x = true ∧ ∀ m z', m < j - n → xs[m]? = some z' → eqD z' x = false
  | [], _, _, h => by cases h
  | y :: ys, n, j, h => by
    unfold findIx at h
    split at h
    · rename_i q
      cases h
      exact ⟨Nat.le_refl _, y, by simp, q, fun m z' hm => by omega⟩
    · rename_i q
      obtain ⟨h1, z, h2, h3, h4⟩ := findIx_ok h
      refine ⟨by omega, z, ?_, h3, fun m z' hm e => ?_⟩
      · rw [show j - n = (j - (n + 1)) + 1 by omega]
        simpa using h2
      · cases m with
        | zero => simp at e; subst e; simpa using q
        | succ m => exact h4 m z' (by omega) (by simpa using e)
theorem toPL_get : ∀ (xs : List D) (i : Nat), (toPL xs)[i]? = (xs[i]?).map toP
  | [], _ => by simp [toPL]
  | _ :: _, 0 => by simp [toPL]
  | _ :: xs, i + 1 => by simp [toPL, toPL_get xs i]
theorem shpL_get : ∀ {k : Nat} {xs : List D} {i : Nat} {z : D}, shpL k xs = true → xs[i]? = some z → shp k z = true
  | _, [], _, _, _, e => by simp at e
  | k, x :: xs, i, z, h, e => by
    have h1 := Bool.and_eq_true_iff.mp (show (shp k x && shpL k xs) = true from h)
    cases i with
    | zero => simp at e; subst e; exact h1.1
    | succ i => exact shpL_get h1.2 (by simpa using e)
theorem few_ok {es : List Expr} (hn : ∀ e ∈ es, notStar e = true) (hl : es.length < 30) (env : PySem.Env) : ((backTo cpos (starEach es env)).all (fun x => !x.1) && (backToKw cpos (keywordEach [] env)).all (fun x => x.1.isSome)
      && decide (es.length + ([] : List Keyword).length + (if ([] : List Keyword).isEmpty then 0 else 1) < 30)) = true := by
  have h := plain_back (e := .Constant .none 0 cpos) hn cpos env
  have h2 : (backTo cpos (starEach es env)).all (fun x => !x.1) = true := by
    rw [List.all_eq_true]
    intro x hx
    have := List.any_eq_false.mp h x hx
    simpa using this
  rw [h2]
  simp [backToKw, keywordEach, hl]
theorem snd_index (hu : X.A.units + 65 < cLine) (ho : PE X eo (RdE X.K G W o)) (ha : PE X ea (RdE X.K G W a)) (hn : notStar ea = true) (hb : attB eo = true) (hl : (apos.endLine == cpos.line) = true) :
    PE X (.Call (.Attribute eo "index" apos) [ea] [] cpos) (RdE X.K G W (.mth .index o (.cons a .nil))) :=
  PEimp (pe_bm PySem.F.plainAttrs_list PySem.F.slot_list_index PySem.F.type_list_index (mt_indexD hu) ho (pa_cons ha pa_nil (star_ne hn _ _)) (att_ok hb _ _ _) (few_ok (fun e he => by rw [List.mem_singleton.mp he]; exact hn) (by show 1 < 30; omega) _) hl (star_ne hn _ _) rfl) fun σ H Q ⟨ca, mu, ρ, S, w, re, h⟩ => by
    have h : okR X.K G.EE G.XA (IsR X.K G.EE) ca mu H ((ev G.cons G.call o ρ S).bind fun x S => if mtOk .index x = true then ((ev G.cons G.call a ρ S).bind fun d S => Res.ok [d] S).bind fun ds S => lift (mtD S .index x ds) S else .no) Q (fun c d H' => W c d σ H') := h
    refine step w re h fun d S1 v ca1 mu1 H1 e1 w1 re1 i1 h1 => ?_
    split at h1
    · rename_i hk
      rw [bind_assoc] at h1
      cases i1 with
      | @lst _ p vs xs g1 g2 g3 =>
        refine ⟨.inl ⟨rfl, vs, SqL.of g1⟩, step w1 re1 h1 fun d2 S2 v2 ca2 mu2 H2 e2 w2 re2 i2 h2 => ?_⟩
        have h2 : okR X.K G.EE G.XA (IsR X.K G.EE) ca2 mu2 H2 (lift (if shp 64 d2 && shpL 63 xs then (findIx 0 xs d2).map fun (n : Nat) => D.int n else none) S2) Q (fun c d H' => W c d σ H') := h2
        split at h2
        · rename_i z
          obtain ⟨z1, z2⟩ := Bool.and_eq_true_iff.mp z
          cases q : findIx 0 xs d2 with
          | none => rw [q] at h2; exact h2.elim
          | some j =>
            rw [q] at h2
            obtain ⟨_, y, r1, r2, r3⟩ := findIx_ok q
            rw [Nat.sub_zero] at r1
            have sl : shp 64 (.lst xs) = true := z2
            have i1' : Is X.K G.EE ca2 mu2 H2 (.ref p) (.lst xs) := Is.ex (.lst g1 g2 g3) e2
            refine ⟨p, v2, toP d2, toPL xs, j, toP y, rfl, rfl, i1'.dp 64 _ sl, i2.dp 64 _ z1, shaped_toP sl, shaped_toP z1, by rw [toPL_get, r1]; rfl, ?_, fun m z' hm e => ?_, got w2 (.int _) h2⟩
            · rw [eqv_toP 64 y d2 (shp_succ 63 _ (shpL_get z2 r1)) z1]; exact r2
            · rw [toPL_get] at e
              cases qm : xs[m]? with
              | none => rw [qm] at e; cases e
              | some u =>
                rw [qm] at e
                cases e
                rw [eqv_toP 64 u d2 (shp_succ 63 _ (shpL_get z2 qm)) z1]
                exact r3 m u (by omega) qm
        · exact h2.elim
      | _ => cases hk
    · exact h1.elim
/-- how many of a list's items are equal -/
def rCnt (K : PySem.W.Frag) : V → List V → Hp → VK → Prop := fun x xs H Q => ∃ (p : Addr) (z : V) (e : PyData) (es : List PyData), x = V.ref p ∧ xs = [z] ∧ Dp K H x (.list es) ∧ Dp K H z e ∧
  (SeqAt.shaped (.list es) && SeqAt.shaped e) = true ∧ Q (.int ((es.countP fun y => PyData.eqv y e : Nat) : Int)) H
theorem mt_cnt (hu : X.A.units + 65 < cLine) : MtR X "list.count" (rCnt X.K) := by
  intro pins s σ H x xs v us Q I rx rxs ⟨p, z, e, es, hx, hxs, hl, hz, hs, q⟩
  subst hx hxs
  obtain ⟨s1, s2⟩ := Bool.and_eq_true_iff.mp hs
  cases rx
  cases rxs with
  | cons ru rr =>
    rename_i u us
    cases rr
    obtain ⟨bs, r1⟩ := hz.reads I e z u ru
    have lay := SeqAt.canLay_of_shaped s1
    have room := room_in_shaped (xs := es) s2 hu
    cases hl with
    | lst g1 g2 =>
      obtain ⟨its, rv, ⟨⟨cls, dd, data, sls⟩, n, ho, hc, hdn, hdt⟩, hlen⟩ := I.list g1
      simp only at hc hdt
      subst hc hdt
      obtain ⟨as, r2⟩ := Dp.readsAll I es _ its g2 rv
      have hm := SeqAt.readsAll_map es its as lay r2
      have hq : its.countP (fun y => PyData.eqv (SeqAt.readOf s.heap y) e) = es.countP fun y => PyData.eqv y e := by
        conv => rhs; rw [← hm, List.countP_map]
        rfl
      have hf := SeqAt.list_countAt p its.toArray n dd sls u (fun y => PyData.eqv (SeqAt.readOf s.heap y) e)
      refine call_meets PySem.F.slot_list_count ⟨_, ho, rfl⟩ PySem.F.entry_list_count (PySem.F.args_list_count_2 _ _) hf ⟨ho, ?_, ?_⟩
      · exact SeqAt.items_eqAt (vs := its.toArray) r2 r1 lay (SeqAt.canLay_of_shaped s2) room
      · show _
        refine ⟨.int _, H, I.tok _, ⟨_, rfl⟩, ?_⟩
        rw [List.toList_toArray, hq]
        exact q
theorem toPL_cnt {x : D} (hx : shp 64 x = true) : ∀ {xs : List D}, shpL 63 xs = true → ((toPL xs).countP fun y => PyData.eqv y (toP x)) = xs.countP fun y => eqD y x
  | [], _ => rfl
  | y :: ys, h => by
    obtain ⟨h1, h2⟩ := Bool.and_eq_true_iff.mp (show (shp 63 y && shpL 63 ys) = true from h)
    show List.countP _ (toP y :: toPL ys) = _
    rw [List.countP_cons, List.countP_cons, toPL_cnt hx h2, eqv_toP 64 y x (shp_succ 63 _ h1) hx]
theorem snd_count (hu : X.A.units + 65 < cLine) (ho : PE X eo (RdE X.K G W o)) (ha : PE X ea (RdE X.K G W a)) (hn : notStar ea = true) (hb : attB eo = true) (hl : (apos.endLine == cpos.line) = true) :
    PE X (.Call (.Attribute eo "count" apos) [ea] [] cpos) (RdE X.K G W (.mth .count o (.cons a .nil))) :=
  PEimp (pe_bm PySem.F.plainAttrs_list PySem.F.slot_list_count PySem.F.type_list_count (mt_cnt hu) ho (pa_cons ha pa_nil (star_ne hn _ _)) (att_ok hb _ _ _) (few_ok (fun e he => by rw [List.mem_singleton.mp he]; exact hn) (by show 1 < 30; omega) _) hl (star_ne hn _ _) rfl) fun σ H Q ⟨ca, mu, ρ, S, w, re, h⟩ => by
    have h : okR X.K G.EE G.XA (IsR X.K G.EE) ca mu H ((ev G.cons G.call o ρ S).bind fun x S => if mtOk .count x = true then ((ev G.cons G.call a ρ S).bind fun d S => Res.ok [d] S).bind fun ds S => lift (mtD S .count x ds) S else .no) Q (fun c d H' => W c d σ H') := h
    refine step w re h fun d S1 v ca1 mu1 H1 e1 w1 re1 i1 h1 => ?_
    split at h1
    · rename_i hk
      rw [bind_assoc] at h1
      cases i1 with
      | @lst _ p vs xs g1 g2 g3 =>
        refine ⟨.inl ⟨rfl, vs, SqL.of g1⟩, step w1 re1 h1 fun d2 S2 v2 ca2 mu2 H2 e2 w2 re2 i2 h2 => ?_⟩
        have h2 : okR X.K G.EE G.XA (IsR X.K G.EE) ca2 mu2 H2 (lift (if shp 64 d2 && shpL 63 xs then some (D.int (xs.countP fun y => eqD y d2 : Nat)) else none) S2) Q (fun c d H' => W c d σ H') := h2
        split at h2
        · rename_i z
          obtain ⟨z1, z2⟩ := Bool.and_eq_true_iff.mp z
          have sl : shp 64 (.lst xs) = true := z2
          have i1' : Is X.K G.EE ca2 mu2 H2 (.ref p) (.lst xs) := Is.ex (.lst g1 g2 g3) e2
          refine ⟨p, v2, toP d2, toPL xs, rfl, rfl, i1'.dp 64 _ sl, i2.dp 64 _ z1, Bool.and_eq_true_iff.mpr ⟨shaped_toP sl, shaped_toP z1⟩, ?_⟩
          rw [toPL_cnt z1 z2]
          exact got w2 (.int _) h2
        · exact h2.elim
      | _ => cases hk
    · exact h1.elim
theorem snd_get (hu : X.A.units + 65 < cLine) (ho : PE X eo (RdE X.K G W o)) (ha : PE X ea (RdE X.K G W a)) (hb : PE X eb (RdE X.K G W b)) (hn : notStar ea = true) (hn2 : notStar eb = true) (hat : attB eo = true) (hl : (apos.endLine == cpos.line) = true) :
    PE X (.Call (.Attribute eo "get" apos) [ea, eb] [] cpos) (RdE X.K G W (.mth .get o (.cons a (.cons b .nil)))) :=
  PEimp (pe_dget2 (by omega) ho ha hb ⟨att_ok hat _ _ _, few_ok (fun e he => (List.mem_cons.mp he).elim (fun q => by rw [q]; exact hn) fun he => by rw [List.mem_singleton.mp he]; exact hn2) (by show 2 < 30; omega) _, hl, by rw [star_ne hn, star_ne hn2]; rfl⟩) fun σ H Q ⟨ca, mu, ρ, S, w, re, h⟩ => by
    have h : okR X.K G.EE G.XA (IsR X.K G.EE) ca mu H ((ev G.cons G.call o ρ S).bind fun x S => if mtOk .get x = true then ((ev G.cons G.call a ρ S).bind fun d S => ((ev G.cons G.call b ρ S).bind fun e S => Res.ok [e] S).bind fun ds S => Res.ok (d :: ds) S).bind fun ds S => lift (mtD S .get x ds) S else .no) Q (fun c d H' => W c d σ H') := h
    refine step w re h fun d S1 v ca1 mu1 H1 e1 w1 re1 i1 h1 => ?_
    split at h1
    · rename_i hk
      rw [bind_assoc] at h1
      cases i1 with
      | @dic _ p kvs kds g1 g2 g3 =>
        refine ⟨p, rfl, .inl ⟨kvs, .inl g1⟩, step w1 re1 h1 fun d2 S2 v2 ca2 mu2 H2 e2 w2 re2 i2 h2 => ?_⟩
        rw [bind_assoc, bind_assoc] at h2
        refine step w2 re2 h2 fun d3 S3 v3 ca3 mu3 H3 e3 w3 re3 i3 h3 => ?_
        have h3 : okR X.K G.EE G.XA (IsR X.K G.EE) ca3 mu3 H3 (lift ((keyOf d2).map fun k => (dicGet kds k).getD d3) S3) Q (fun c d H' => W c d σ H') := h3
        cases qk : keyOf d2 with
        | none => rw [qk] at h3; exact h3.elim
        | some k =>
          rw [qk] at h3
          have h3 : okR X.K G.EE G.XA (IsR X.K G.EE) ca3 mu3 H3 (.ok ((dicGet kds k).getD d3) S3) Q (fun c d H' => W c d σ H') := h3
          have i1' : Is X.K G.EE ca3 mu3 H3 (.ref p) (.dic kds) := ((Is.dic g1 g2 g3 : Is X.K G.EE ca1 mu1 H1 (.ref p) (.dic kds)).ex e2).ex e3
          cases i1' with
          | @dic _ _ kvs' _ g1 g2 g3 =>
          have ek := keyOf_kV i2 qk
          subst ek
          refine ⟨valV kvs' k, DGet.k g1, ?_⟩
          cases qg : dicGet kds k with
          | none =>
            rw [qg] at h3
            rw [g3.none qg]
            exact got w3 i3 h3
          | some z =>
            rw [qg] at h3
            obtain ⟨u, r1, r2⟩ := g3.get qg
            rw [r1]
            exact got w3 r2 h3
      | _ => cases hk
    · exact h1.elim
theorem strsD_ok {K : PySem.W.Frag} {EE : Ek} {ca mu : List Addr} {H : Hp} : ∀ {ds : List D} {vs : List V} {ys : List Str}, IsL K EE ca mu H vs ds → strsD ds = some ys → vs = ys.map V.str
  | [], _, _, h, e => by cases h; cases e; rfl
  | d :: ds, _, _, h, e => by
    cases h with
    | cons h1 h2 =>
      cases h1 with
      | str i =>
        have e : (strsD ds).map (i :: ·) = some _ := e
        cases q : strsD ds with
        | none => rw [q] at e; cases e
        | some ns => rw [q] at e; cases e; rw [List.map_cons, strsD_ok h2 q]
      | _ => cases e
theorem isL_strs {K : PySem.W.Frag} {EE : Ek} {ca mu : List Addr} {H : Hp} : ∀ ys : List Str, IsL K EE ca mu H (ys.map V.str) (ys.map D.str)
  | [] => .nil
  | y :: ys => .cons (.str y) (isL_strs ys)
theorem snd_split (ho : PE X eo (RdE X.K G W o)) (ha : PE X ea (RdE X.K G W a)) (hn : notStar ea = true) (hb : attB eo = true) (hl : (apos.endLine == cpos.line) = true) :
    PE X (.Call (.Attribute eo "split" apos) [ea] [] cpos) (RdE X.K G W (.mth .split o (.cons a .nil))) :=
  PEimp (pe_bm PySem.F.plainAttrs_str PySem.F.slot_str_split PySem.F.type_str_split mt_split ho (pa_cons ha pa_nil (star_ne hn _ _)) (att_ok hb _ _ _) (few_ok (fun e he => by rw [List.mem_singleton.mp he]; exact hn) (by show 1 < 30; omega) _) hl (star_ne hn _ _) rfl) fun σ H Q ⟨ca, mu, ρ, S, w, re, h⟩ => by
    have h : okR X.K G.EE G.XA (IsR X.K G.EE) ca mu H ((ev G.cons G.call o ρ S).bind fun x S => if mtOk .split x = true then ((ev G.cons G.call a ρ S).bind fun d S => Res.ok [d] S).bind fun ds S => lift (mtD S .split x ds) S else .no) Q (fun c d H' => W c d σ H') := h
    refine step w re h fun d S1 v ca1 mu1 H1 e1 w1 re1 i1 h1 => ?_
    split at h1
    · rename_i hk
      rw [bind_assoc] at h1
      cases i1 with
      | str x =>
        refine ⟨rfl, step w1 re1 h1 fun d2 S2 v2 ca2 mu2 H2 e2 w2 re2 i2 h2 => ?_⟩
        cases i2 with
        | str y =>
          have h2 : okR X.K G.EE G.XA (IsR X.K G.EE) ca2 mu2 H2 (lift (if (y.length == 0) = false ∧ x.length + 2 ≤ LN then some (D.lst ((PySem.Txt.split x y).map .str)) else none) S2) Q (fun c d H' => W c d σ H') := h2
          split at h2
          · rename_i z
            exact ⟨x, y, rfl, rfl, z.1, by rw [LN_eq]; exact z.2, newL w2 (isL_strs _) h2⟩
          · exact h2.elim
        | _ => exact h2.elim
      | _ => cases hk
    · exact h1.elim
theorem snd_join (ho : PE X eo (RdE X.K G W o)) (ha : PE X ea (RdE X.K G W a)) (hn : notStar ea = true) (hb : attB eo = true) (hl : (apos.endLine == cpos.line) = true) :
    PE X (.Call (.Attribute eo "join" apos) [ea] [] cpos) (RdE X.K G W (.mth .join o (.cons a .nil))) :=
  PEimp (pe_bm PySem.F.plainAttrs_str PySem.F.slot_str_join PySem.F.type_str_join mt_join ho (pa_cons ha pa_nil (star_ne hn _ _)) (att_ok hb _ _ _) (few_ok (fun e he => by rw [List.mem_singleton.mp he]; exact hn) (by show 1 < 30; omega) _) hl (star_ne hn _ _) rfl) fun σ H Q ⟨ca, mu, ρ, S, w, re, h⟩ => by
    have h : okR X.K G.EE G.XA (IsR X.K G.EE) ca mu H ((ev G.cons G.call o ρ S).bind fun x S => if mtOk .join x = true then ((ev G.cons G.call a ρ S).bind fun d S => Res.ok [d] S).bind fun ds S => lift (mtD S .join x ds) S else .no) Q (fun c d H' => W c d σ H') := h
    refine step w re h fun d S1 v ca1 mu1 H1 e1 w1 re1 i1 h1 => ?_
    split at h1
    · rename_i hk
      rw [bind_assoc] at h1
      cases i1 with
      | str x =>
        refine ⟨rfl, step w1 re1 h1 fun d2 S2 v2 ca2 mu2 H2 e2 w2 re2 i2 h2 => ?_⟩
        cases i2 with
        | @lst _ p vs xs g1 g2 g3 =>
          have h2 : okR X.K G.EE G.XA (IsR X.K G.EE) ca2 mu2 H2 (lift (match strsD xs with
            | some ys => if (ys.map (·.length)).sum + ys.length * x.length ≤ 16777216 then some (.str (PySem.Txt.join x ys)) else none
            | none => none) S2) Q (fun c d H' => W c d σ H') := h2
          cases q : strsD xs with
          | none => rw [q] at h2; exact h2.elim
          | some ys =>
            rw [q] at h2
            have h2 : okR X.K G.EE G.XA (IsR X.K G.EE) ca2 mu2 H2 (lift (if (ys.map (·.length)).sum + ys.length * x.length ≤ 16777216 then some (.str (PySem.Txt.join x ys)) else none) S2) Q (fun c d H' => W c d σ H') := h2
            split at h2
            · rename_i z
              have ev := strsD_ok g3 q
              subst ev
              exact ⟨x, p, ys, rfl, rfl, .inl (SqL.of g1), z, got w2 (.str _) h2⟩
            · exact h2.elim
        | _ => exact h2.elim
      | _ => cases hk
    · exact h1.elim
end
end KI


set_option Elab.async false
set_option linter.all false
set_option maxRecDepth 100000
set_option autoImplicit false
set_option maxHeartbeats 2000000
/-! Lambdas: made, handed to a call, called. -/
namespace KI
open PySem PySem.Spec PyProof.Rows L2

/-! ### made -/
section
variable {X : Cx} {pins : List (Addr × Obj)} {σ : L2.St} {H : Hp} {s : Shared}
/-- a function object is laid -/
theorem fn_laid {F : LF} {t : Nat} {pm ctv : Value} (I : Inv X pins σ H s) :
    Inv X pins σ (upd H s.heap.objs.size (FnL s.heap.objs.size F)) { s with heap := s.heap.push (PySem.W.kla_obj "<lambda>" F.qual F.params F.body F.scope F.cl pm F.c ctv), toks := t } :=
  I.laid (fun b u e => Heap.get?_push_of_some _ e) (Nat.le_refl _) (by
    have g := Heap.get?_push_size s.heap (o := PySem.W.kla_obj "<lambda>" F.qual F.params F.body F.scope F.cl pm F.c ctv) rfl
    exact ⟨⟨_, _, pm, ctv, g⟩, ⟨_, g⟩, fun h1 h2 ⟨od, sl, p, t, z⟩ st => ⟨od, sl, p, t, st _ z⟩⟩)
theorem upd_of_some {H : Hp} {a b : Addr} {o u : HO} (n : H a = none) (e : H b = some u) : upd H a o b = some u := (upd_ne (ne_of_none e n)).trans e
theorem upd_back {H : Hp} {a b : Addr} {o : HO} (e : upd H a o b = none) : H b = none := by
  by_cases q : b = a
  · rw [q, upd_same] at e; cases e
  · rw [upd_ne q] at e; exact e
/-- what is told of a lambda just made -/
def Made (T : List (Addr × Str)) (H : Hp) (f : Addr) (F : LF) (H1 : Hp) : Prop := LamX.ExtN H H1 ∧ (∀ b, H1 b = none → H b = none) ∧ LamX.Tabs T H1 ∧ H f = none ∧ H1 f = some (FnL f F) ∧ H1 F.c = some (LamX.CodeO F.c F.qual)
theorem made_of {T : List (Addr × Str)} {F : LF} {H2 : Hp} {h' : Heap} {tk t : Nat} {pm ctv : Value} {Q : Value → Shared → Prop} (I2 : Inv X pins σ H2 { s with heap := h', toks := tk }) (e : LamX.ExtN H H2) (b : ∀ b, H2 b = none → H b = none) (tb : LamX.Tabs T H2) (hc : H2 F.c = some (LamX.CodeO F.c F.qual))
    (h : ∀ f H1 s', Inv X pins σ H1 s' → Made T H f F H1 → Q (.ref f) s') : Q (.ref h'.objs.size) { s with heap := h'.push (PySem.W.kla_obj "<lambda>" F.qual F.params F.body F.scope F.cl pm F.c ctv), toks := t } := by
  have nf : H2 h'.objs.size = none := I2.hok.fresh (Nat.le_refl _)
  exact h _ _ _ (fn_laid (F := F) (t := t) (pm := pm) (ctv := ctv) I2) ⟨fun b o q n => upd_of_some nf (e b o q n), fun b' q => b _ (upd_back q), tb.ext fun b o q => upd_of_some nf q, b _ nf, upd_same, upd_of_some nf hc⟩
/-- the evaluation of a lambda -/
theorem lam_obj {T : List (Addr × Str)} {c P : Addr} {params : Arguments} {body : Expr} {scope : Scope} {pos : Pos} {E Q : Value → Shared → Prop} (I : Inv X pins σ H s) (TB : LamX.TabB X.base X.mg c P) (hcode : X.env.code = .ref c) (hm : (P, X.env.qual ++ "<lambda>") ∈ T)
    (hu : ∀ p ∈ T, p.1 = P → p.2 = X.env.qual ++ "<lambda>") (hT : LamX.Tabs T H) (hdef : defaultsOf params X.env = ([], [])) (hfree : ∀ y ∈ scope.names, y.2 = .free → ∃ c, X.env.cells.lookup y.1 = some c)
    (h : ∀ f c' H1 s', Inv X pins σ H1 s' → Made T H f ⟨X.env.qual ++ "<lambda>", params, body, scope, cloFrom X.env.cells scope.names [], c'⟩ H1 → Q (.ref f) s') : wpAny (model X.prog X.w) X.A (eval (.Lambda params body scope pos) X.env) Q E s := by
  obtain ⟨ps, hP, ht, ha⟩ := hT _ hm
  have hP' : s.heap.get? P = some (PySem.W.tabObj ps) := I.hok P _ hP
  have bP : s.heap.BuiltinsAt X.mg P := TB.bm.keeps I.bk
  refine PySem.W.kla_eval hdef ?_
  cases hc : codeAmong pos ps.toList with
  | some cv =>
    obtain ⟨c', e, hco⟩ := ha pos cv hc
    subst e
    exact PySem.W.kla_makeFunctionHit (closure_ok hfree) I.ok.glob (I.mod.glob.keeps I.bk) hcode (TB.code.keeps I.bk) hP' ht hc bP fun ctv h' tk hx _ =>
      made_of (F := ⟨_, _, _, _, _, c'⟩) (tk := tk) (I.kept hx) (LamX.ExtN.refl H) (fun _ q => q) hT hco (h · c')
  | none =>
    refine PySem.W.kla_makeFunction (closure_ok hfree) I.ok.glob (I.mod.glob.keeps I.bk) hcode (TB.code.keeps I.bk) hP' ht hc TB.gP bP fun c' ctv h' tk hx hge hlt hrec htb => ?_
    obtain ⟨_, oc, vs, t, e2, r1, r2, r3⟩ := hrec
    cases e2
    have nC : H c' = none := I.hok.fresh hge
    have nPC : P ≠ c' := ne_of_none hP nC
    generalize hq : (ps ++ #[rawInt pos.line, rawInt pos.col, .ref c']) = ps2 at htb
    have I1 := LamX.inv_table (q := X.env.qual ++ "<lambda>") (t' := tk) (more := #[rawInt pos.line, rawInt pos.col, .ref c']) I hP (fun b o hb e => hx b o hb e) (by rw [hq]; exact htb) hge ⟨oc, vs, t, r1, r2, r3⟩
    rw [hq] at I1
    have other : ∀ b o, b ≠ P → H b = some o → upd (upd H P (.tbl ps2)) c' (LamX.CodeO c' (X.env.qual ++ "<lambda>")) b = some o := fun b o n e => by
      rw [upd_ne (ne_of_none e nC), upd_ne n]
      exact e
    refine made_of (F := ⟨_, _, _, _, _, c'⟩) (H2 := upd (upd H P (.tbl ps2)) c' (LamX.CodeO c' (X.env.qual ++ "<lambda>"))) I1 (fun b o e n => other b o (fun z => ?_) e) (fun b q => upd_back (upd_back q)) (fun p hp => ?_) upd_same (h · c')
    · rw [z, hP] at e
      exact n ps (Option.some.inj e).symm
    · by_cases hb : p.1 = P
      · rw [hu p hp hb, hb]
        refine ⟨ps2, by rw [upd_ne nPC, upd_same], ?_, fun p' cv hcv => ?_⟩
        · rw [← hq, Array.toList_append]
          exact PySem.TriplesOk_snoc _ _ _ _ ht
        · rw [← hq, Array.toList_append] at hcv
          rcases LamX.among_app _ ht hcv with z | z
          · obtain ⟨c0, e1, e2⟩ := ha p' cv z
            exact ⟨c0, e1, other _ _ (fun z => by rw [z, hP] at e2; cases e2) e2⟩
          · exact ⟨c', z, upd_same⟩
      · obtain ⟨ps', a1, a2, a3⟩ := hT p hp
        refine ⟨ps', other _ _ hb a1, a2, fun p' cv hcv => ?_⟩
        obtain ⟨c0, e1, e2⟩ := a3 p' cv hcv
        exact ⟨c0, e1, other _ _ (fun z => by rw [z, hP] at e2; cases e2) e2⟩
end
/-! ### cells known, cells hidden -/
/-- as H', but at cs as H -/
def patch (H' H : Hp) (cs : List Addr) : Hp := fun b => if b ∈ cs then H b else H' b
theorem patch_in {H' H : Hp} {cs : List Addr} {b : Addr} (h : b ∈ cs) : patch H' H cs b = H b := if_pos h
theorem patch_out {H' H : Hp} {cs : List Addr} {b : Addr} (h : b ∉ cs) : patch H' H cs b = H' b := if_neg h
/-- at cs objects that are known -/
def Known (cs : List Addr) (H : Hp) : Prop := ∀ c ∈ cs, ∃ o u, H c = some (CelO c o) ∧ o.data = .cell u
theorem Known.ext {cs : List Addr} {H : Hp} (k : Known cs H) {c : Addr} {o : HO} (h : H c = some o) (n : ∀ o', o ≠ .frz o' (.own c)) : c ∉ cs := fun z => by
  obtain ⟨o', u, e, _⟩ := k c z
  rw [e] at h
  exact n _ (Option.some.inj h).symm
section
variable {P : Program} {w : World} {H H' : Hp} {h h' : Heap} {cs fs : List Addr}
theorem Known.hok (k : Known cs H) (x : HOk P w H h) {c : Addr} (hc : c ∈ cs) : ∃ o u, h.get? c = some o ∧ o.data = .cell u ∧ H c = some (CelO c o) := by
  obtain ⟨o, u, e, d⟩ := k c hc
  exact ⟨o, u, (x c _ e).1, d, e⟩
theorem hok_hide (k : Known cs H) (x : HOk P w H h) : HOk P w (hideC H cs) h := fun a o e => by
  obtain ⟨_, e2⟩ := hideC_some e
  exact (x a o e2).stay (fun _ _ _ q => q) (fun b q => by rw [hideC_out (k.ext q fun _ z => nomatch z)]; exact q) fun b xs q => by rw [hideC_out (k.ext q fun _ z => nomatch z)]; exact q
theorem celO_ok {c : Addr} {o : Obj} (e : h.get? c = some o) : ObjOk P w H h c (CelO c o) := ⟨e, ⟨o, e⟩⟩
/-- known again -/
theorem hok_patch (k : Known cs H) (x : HOk P w H' h') (n : ∀ c ∈ cs, H' c = none) (g : ∀ c o, c ∈ cs → H c = some (CelO c o) → h'.get? c = some o) : HOk P w (patch H' H cs) h' := fun a o e => by
  by_cases ha : a ∈ cs
  · rw [patch_in ha] at e
    obtain ⟨o', u, e', _⟩ := k a ha
    rw [e'] at e
    cases e
    exact celO_ok (g a o' ha e')
  · rw [patch_out ha] at e
    have out : ∀ b u, H' b = some u → b ∉ cs := fun b u q z => by rw [n b z] at q; cases q
    exact (x a o e).stay (fun _ _ _ q => q) (fun b q => by rw [patch_out (out b _ q)]; exact q) fun b xs q => by rw [patch_out (out b _ q)]; exact q
/-- a call that ran with the cells hidden -/
theorem un_patch (k : Known cs H) (u : Un fs [] (hideC H cs) H' h h') : Un fs [] H (patch H' H cs) h h' := by
  have out : ∀ b, H b = none → b ∉ cs := fun b n z => by obtain ⟨o, v, e, _⟩ := k b z; rw [e] at n; cases n
  have hid : ∀ b, H b = none → hideC H cs b = none := fun b n => hideC_none n
  refine ⟨fun b o e n => u.keep b o e (hid b n), fun b o e n => u.slot b o e (hid b n), fun b o e n hx => by rw [patch_out (out b n)]; exact u.free b o e (hid b n) hx, u.there, fun b xs q => ?_, fun b o v q => ?_, fun b ps q => ?_⟩
  · by_cases z : b ∈ cs
    · rw [patch_in z]; exact q
    · rw [patch_out z]; exact u.tups b xs (by rw [hideC_out z]; exact q)
  · by_cases z : b ∈ cs
    · rw [patch_in z]; exact q
    · rw [patch_out z]; exact u.frzs b o v (by rw [hideC_out z]; exact q)
  · have z : b ∉ cs := k.ext q fun _ z => nomatch z
    rw [patch_out z]
    exact u.tbls b ps (by rw [hideC_out z]; exact q)
theorem hidden {fs ex : List Addr} (k : Known cs H) (x : HOk P w H h) (u : Un fs ex (hideC H cs) H' h h') (ne : ∀ c ∈ cs, c ∉ ex) : ∀ c ∈ cs, H' c = none := fun c hc => by
  obtain ⟨o, v, e, _⟩ := k.hok x hc
  exact u.free c o e (hideC_in hc) (ne c hc)
/-- a def's return, the cells hidden meanwhile -/
theorem ce_patch {outer : List PySem.Env} {s s' : Shared} {Q : VK} {v : Value} (k : Known cs H) (x : HOk P w H s.heap) (nf : ∀ c ∈ cs, c ∉ frs outer) (c : CE outer P w (hideC H cs) s (fun v H' => (∀ c ∈ cs, H' c = none) → Q v (patch H' H cs)) v s') : CE outer P w H s Q v s' := by
  obtain ⟨u, H', os, bare, un, hok, r, q⟩ := c
  have n := hidden k x un fun _ _ => by simp
  exact ⟨u, patch H' H cs, os, bare, un_patch k un, hok_patch k hok n fun c o hc e => un.keep c o (x c _ e).1 (hideC_in hc) (nf c hc) (by simp), r, q n⟩
/-- an exception that leaves a def, the cells hidden meanwhile -/
theorem cx_patch {outer : List PySem.Env} {s s' : Shared} {E : XK} {v : Value} (k : Known cs H) (x : HOk P w H s.heap) (nf : ∀ c ∈ cs, c ∉ frs outer) (c : L2.CX P w outer (hideC H cs) s (fun cls d H' => (∀ c ∈ cs, H' c = none) → E cls d (patch H' H cs)) v s') : L2.CX P w outer H s E v s' := by
  obtain ⟨a, B, H', cls, d, e1, fl, hok, ub, na, os, bare, q⟩ := c
  have n : ∀ c ∈ cs, H' c = none := fun c hc => by
    obtain ⟨o, u, e, _⟩ := k.hok x hc
    exact ub.free c o e (hideC_in hc)
  have out : ∀ b, H b = none → b ∉ cs := fun b n z => by obtain ⟨o, v, e, _⟩ := k b z; rw [e] at n; cases n
  have at_ : ∀ c o, c ∈ cs → H c = some (CelO c o) → B.get? c = some o := fun c o hc e => ub.keep c o (x c _ e).1 (hideC_in hc) (nf c hc)
  refine ⟨a, B, patch H' H cs, cls, d, e1, fl, hok_patch k hok n at_, ⟨fun b o e n => ub.keep b o e (hideC_none n), ub.slot, fun b o e n => by rw [patch_out (out b n)]; exact ub.free b o e (hideC_none n), ub.there, fun b xs q => ?_, fun b o v q => ?_, fun b ps q => ?_⟩, ?_, os, bare, q n⟩
  · by_cases z : b ∈ cs
    · rw [patch_in z]; exact q
    · rw [patch_out z]; exact ub.tups b xs (by rw [hideC_out z]; exact q)
  · by_cases z : b ∈ cs
    · rw [patch_in z]; exact q
    · rw [patch_out z]; exact ub.frzs b o v (by rw [hideC_out z]; exact q)
  · have z : b ∉ cs := k.ext q fun _ z => nomatch z
    rw [patch_out z]
    exact ub.tbls b ps (by rw [hideC_out z]; exact q)
  · by_cases z : a ∈ cs
    · obtain ⟨o, u, e, _⟩ := k a z
      have := fl.2.1
      rw [at_ a o z e] at this
      cases this
    · rw [patch_out z]; exact na
theorem env0_hide {K : PySem.W.Frag} {mg : Str → Option Value} {base : Heap} {A : Around} {outer : List PySem.Env} {s : Shared} (k : Known cs H) (e0 : Env0 P w K mg base A outer s H) : Env0 P w K mg base A outer s (hideC H cs) :=
  ⟨e0.frames, e0.mod, fun b o e => ⟨(e0.bs b o e).1, hideC_none (e0.bs b o e).2⟩, e0.bsz, e0.funs, fun b hb => hideC_none (e0.frf b hb), hok_hide k e0.hok, e0.bare⟩
/-! ### cells made known -/
/-- the objects at cs are told -/
def tell (H : Hp) (h : Heap) (cs : List Addr) : Hp := fun b => if b ∈ cs then (h.get? b).map (CelO b) else H b
theorem tell_out {b : Addr} (n : b ∉ cs) : tell H h cs b = H b := if_neg n
theorem tell_in {b : Addr} {o : Obj} (n : b ∈ cs) (e : h.get? b = some o) : tell H h cs b = some (CelO b o) := by
  unfold tell
  rw [if_pos n, e]
  rfl
/-- what is told of cs -/
structure Cels (cs : List Addr) (H : Hp) (h base : Heap) (fs : List Addr) : Prop where
  n : ∀ c ∈ cs, H c = none
  o : ∀ c ∈ cs, ∃ o u, h.get? c = some o ∧ o.data = .cell u
  b : ∀ c ∈ cs, base.get? c = none
  f : ∀ c ∈ cs, c ∉ fs
theorem Cels.known {base : Heap} (C : Cels cs H h base fs) : Known cs (tell H h cs) := fun c hc => by
  obtain ⟨o, u, e, d⟩ := C.o c hc
  exact ⟨o, u, tell_in hc e, d⟩
theorem Cels.hide {base : Heap} (C : Cels cs H h base fs) : hideC (tell H h cs) cs = H := by
  funext b
  by_cases z : b ∈ cs
  · rw [hideC_in z, C.n b z]
  · rw [hideC_out z, tell_out z]
theorem Cels.tl {base : Heap} (C : Cels cs H h base fs) {a : Addr} {o : HO} (e : H a = some o) : tell H h cs a = some o := by
  rw [tell_out fun z => by rw [C.n a z] at e; cases e]
  exact e
theorem Cels.hok {base : Heap} (C : Cels cs H h base fs) (x : HOk P w H h) : HOk P w (tell H h cs) h := fun a o e => by
  by_cases z : a ∈ cs
  · obtain ⟨o', u, e', d⟩ := C.o a z
    rw [tell_in z e'] at e
    cases e
    exact celO_ok e'
  · rw [tell_out z] at e
    exact (x a o e).stay (fun _ _ _ q => q) (fun b q => C.tl q) fun b xs q => C.tl q
theorem Cels.env0 {K : PySem.W.Frag} {mg : Str → Option Value} {base : Heap} {A : Around} {outer : List PySem.Env} {s : Shared} (C : Cels cs H s.heap base (frs outer)) (e0 : Env0 P w K mg base A outer s H) : Env0 P w K mg base A outer s (tell H s.heap cs) :=
  ⟨e0.frames, e0.mod, fun b o e => ⟨(e0.bs b o e).1, by rw [tell_out fun z => by rw [C.b b z] at e; cases e]; exact (e0.bs b o e).2⟩, e0.bsz, e0.funs, fun b hb => by rw [tell_out fun z => C.f b z hb]; exact e0.frf b hb, C.hok e0.hok, e0.bare⟩
/-- a def's return, the cells told meanwhile -/
theorem Cels.ce {base : Heap} {outer : List PySem.Env} {s s' : Shared} {Q : VK} {v : Value} (C : Cels cs H s.heap base (frs outer)) (c : CE outer P w (tell H s.heap cs) s (fun v H' => (∀ c ∈ cs, H' c = tell H s.heap cs c) ∧ Q v (hideC H' cs)) v s') : CE outer P w H s Q v s' := by
  obtain ⟨u, H', os, bare, un, hok, r, q1, q2⟩ := c
  have k : Known cs H' := fun c hc => by rw [q1 c hc]; exact C.known c hc
  have out : ∀ b, b ∉ cs → tell H s.heap cs b = H b := fun b => tell_out
  have gt : ∀ b o, b ∈ cs → s.heap.get? b = some o → s'.heap.get? b = some o := fun b o z e => by
    have := q1 b z
    rw [tell_in z e] at this
    exact (hok b _ this).1
  refine ⟨u, hideC H' cs, os, bare, ⟨fun b o e n hb hx => ?_, fun b o e n hb hx => ?_, fun b o e n hx => ?_, un.there, fun b xs q => ?_, fun b o v q => ?_, fun b ps q => ?_⟩, hok_hide k hok, r, q2⟩
  · by_cases z : b ∈ cs
    · exact gt b o z e
    · exact un.keep b o e (by rw [out b z]; exact n) hb hx
  · by_cases z : b ∈ cs
    · exact ⟨o.slots, gt b o z e⟩
    · exact un.slot b o e (by rw [out b z]; exact n) hb hx
  · by_cases z : b ∈ cs
    · exact hideC_in z
    · rw [hideC_out z]; exact un.free b o e (by rw [out b z]; exact n) hx
  · have z2 := un.tups b xs (C.tl q)
    rw [hideC_out (k.ext z2 fun _ z => nomatch z)]
    exact z2
  · rw [hideC_out fun z => by rw [C.n b z] at q; cases q]
    exact un.frzs b o v (C.tl q)
  · obtain ⟨more, z2⟩ := un.tbls b ps (C.tl q)
    exact ⟨more, by rw [hideC_out (k.ext z2 fun _ z => nomatch z)]; exact z2⟩
end
end KI


set_option Elab.async false
set_option linter.all false
set_option maxRecDepth 100000
set_option autoImplicit false
set_option maxHeartbeats 1000000
/-! Own classes: fields, methods, properties, instances; what is raised is wished for at the slots. -/
namespace KI
open PySem PySem.Spec PyProof.Rows L2
section
variable {X : Cx} {o : Expr} {m : Str} {apos cpos : Pos} {to : TE}
theorem att_ok' {o : Expr} (h : attB o = true) (m : Str) (env : PySem.Env) (w : Sem Value) : attributeBase o m env w = w := by
  unfold attributeBase
  split
  · cases h
  · rfl
/-- how a method is called where few arguments are given on one line -/
theorem arm_mt {es : List Expr} (hat : attB o = true) (hf : methodCallForm es.length (backTo cpos (starEach es X.env)) (backToKw cpos (keywordEach [] X.env)) = true) (hl : (apos.endLine == cpos.line) = true) : ∃ pl : Sem Bool, eval (.Call (.Attribute o m apos) es [] cpos) X.env = (do
    let ov ← eval o X.env
    standAt apos.atName
    let fx ← holding [ov] (getMethod ov m pl)
    callWith cpos fx.1 fx.2 (backTo cpos (starEach es X.env)) (backToKw cpos (keywordEach [] X.env))) := by
  refine ⟨?_, ?_⟩
  rotate_left
  · rw [arm_eval_Call, att_ok' hat]
    unfold methodCall calleeOf
    have hf2 : methodCallForm (es.length + ([] : List Keyword).length) (backTo cpos (starEach es X.env)) (backToKw cpos (keywordEach [] X.env)) = true := hf
    rw [hf2]
    have hp : methodCallPos true o X.env apos cpos = pure cpos := by unfold methodCallPos; simp [hl]
    rw [hp]
    rfl
end
/-- o.m(..) of an instance of the class at D; what is raised: at the slots -/
def tMt (D : Addr) (m : Str) (sp : Sp) (E : L2.St → XK) (to : TE) (t : TA) : TE := fun σ H Q => to σ H fun x H1 => ∃ p dx fs, H1 p = some (.ins D dx fs) ∧ x = .ref p ∧ fs.lookup m = none ∧ t σ H1 fun vs H2 => sp (.ref p :: vs) H2 Q (E σ)
/-- D(..): an instance, then its first method -/
def tMk (D : Addr) (sp : Sp) (E : L2.St → XK) (t : TA) : TE := fun σ H Q => t σ H fun vs H1 => ∀ p dx, H1 dx = none → H1 p = none → dx ≠ p → sp (.ref p :: vs) (upd (upd H1 dx (.own p)) p (.ins D dx [])) (fun v H2 => v = .non ∧ Q (.ref p) H2) (E σ)
section
variable {X : Cx} {CX : CXT} {k : Nat} {g D : Addr} {fd : FuncData} {ps : List Str} {sp : Sp} {E : L2.St → XK} {x m : Str} {p apos cpos : Pos} {e o : Expr} {es : List Expr} {to : TE} {t : TA}
theorem pe_mt (ho : PE X o to) (cl : Cls X.K D) (hm : Meth X.K D m g) (F : FnOk X.prog X.w X.K X.mg X.base CX k g fd ps sp) (hr : Room k X.A) (hb : Binds X.K fd ps []) (hx : ∀ σ, PassesAt CX X σ (E σ)) (ha : PA X (e :: es) t)
    (hat : attB o = true) (hf : methodCallForm (e :: es).length (backTo cpos (starEach (e :: es) X.env)) (backToKw cpos (keywordEach [] X.env)) = true) (hl : (apos.endLine == cpos.line) = true)
    (hst : starEach (e :: es) X.env = (false, eval e X.env) :: starEach es X.env) (hpl : (backTo cpos (starEach es X.env)).any (·.1) = false) : PE X (.Call (.Attribute o m apos) (e :: es) [] cpos) (tMt D m sp E to t) := by
  obtain ⟨pl, arm⟩ := arm_mt (m := m) (es := e :: es) hat hf hl
  refine ⟨fun pins s σ H Q I hw => ?_⟩
  refine PySem.W.methodCall_KW (pl := pl) (thn (ho.run pins s σ H _ I hw) fun u s1 hu => ?_) arm
  obtain ⟨y, H1, I1, ry, q, dx, fs, e1, e2, e3, hw1⟩ := hu
  subst e2
  obtain rfl : u = Value.ref q := ry
  refine getmeth_ok I1 e1 cl hm e3 ?_
  refine PySem.W.callWith_K (h₀ := X.base) (first := [.ref q]) I.ok.mod.kin hm.kp (thn (ha.run cpos pins s1 σ H1 _ I1 hw1) fun us s2 hs => ?_) hst hpl
  obtain ⟨vs, H2, I2, rs, hw2⟩ := hs
  exact ⟨I2.kIn, run_fnS F hr hb (hx σ) I2 (.cons (show RelV (.ref q) (.ref q) from rfl) rs) hw2⟩
theorem pe_mt0 (ho : PE X o to) (cl : Cls X.K D) (hm : Meth X.K D m g) (F : FnOk X.prog X.w X.K X.mg X.base CX k g fd ps sp) (hr : Room k X.A) (hb : Binds X.K fd ps []) (hx : ∀ σ, PassesAt CX X σ (E σ))
    (hat : attB o = true) (hl : (apos.endLine == cpos.line) = true) : PE X (.Call (.Attribute o m apos) [] [] cpos) (tMt D m sp E to tNil) := by
  obtain ⟨pl, arm⟩ := arm_mt (X := X) (m := m) (es := []) (cpos := cpos) hat rfl hl
  refine ⟨fun pins s σ H Q I hw => ?_⟩
  refine PySem.W.methodCall_KW (pl := pl) (thn (ho.run pins s σ H _ I hw) fun u s1 hu => ?_) arm
  obtain ⟨y, H1, I1, ry, q, dx, fs, e1, e2, e3, hw1⟩ := hu
  subst e2
  obtain rfl : u = Value.ref q := ry
  refine getmeth_ok I1 e1 cl hm e3 ?_
  exact PySem.W.callWith_K0 (first := [.ref q]) I1.kIn hm.kp (run_fnS (us := [.ref q]) F hr hb (hx σ) I1 (.cons (show RelV (.ref q) (.ref q) from rfl) .nil) hw1)
theorem run_mk {pins : List (Addr × Obj)} {σ : L2.St} {H : Hp} {s : Shared} {Q : VK} {us : List Value} {vs : List V} (M : Mk X.K D g) (F : FnOk X.prog X.w X.K X.mg X.base CX k g fd ps sp) (hr : Room (k + 1) X.A) (hb : Binds X.K fd ps []) (hx : PassesAt CX X σ (E σ)) (I : Inv X pins σ H s) (r : Vals vs us)
    (h : ∀ q dx, H dx = none → H q = none → dx ≠ q → sp (.ref q :: vs) (upd (upd H dx (.own q)) q (.ins D dx [])) (fun v H2 => v = .non ∧ Q (.ref q) H2) (E σ)) : wpAny (model X.prog X.w) X.A (call (.ref D) us) (EP X pins σ Q) X.xe s := by
  have hw := h (s.heap.objs.size + 1) s.heap.objs.size (I.hok.fresh (Nat.le_refl _)) (I.hok.fresh (Nat.le_succ _)) (Nat.ne_of_lt (Nat.lt_succ_self _))
  have J := Inv.made (C := D) I
  have rr : Vals (V.ref (s.heap.objs.size + 1) :: vs) (Value.ref (s.heap.objs.size + 1) :: us) := .cons rfl r
  have hn : (Value.ref (s.heap.objs.size + 1) :: us).length = ps.length := by rw [← rr.length]; exact F.len _ _ _ _ hw
  have b := hb _ (Value.ref (s.heap.objs.size + 1) :: us) J.kIn (by rw [List.append_nil]; exact hn)
  rw [List.append_nil] at b
  refine wpAny_call (make_map (f := g) I.kIn M.makes M.init (beq_iff_eq.mp M.fn) (codeAny_mono (F.run _ X.stack _ _ ⟨Value.ref (s.heap.objs.size + 1) :: us, []⟩ (Value.ref (s.heap.objs.size + 1) :: us) _ _ (E σ) (hr.make D us []) (J.env0.make D us []) b rr hw) fun y s' hy => ?_))
  cases y with
  | error z => exact hx pins _ _ z s' J hy
  | ok fl =>
    cases fl with
    | ret u =>
      obtain ⟨v, H3, I3, rv, ev, hq⟩ := J.after hy
      subst ev
      exact ⟨rv, ⟨V.ref (s.heap.objs.size + 1), H3, I3, rfl, hq⟩⟩
    | _ => exact False.elim hy
theorem pe_mk (M : Mk X.K D g) (F : FnOk X.prog X.w X.K X.mg X.base CX k g fd ps sp) (hr : Room (k + 1) X.A) (hg : Gl X x) (hm : X.mg x = some (.ref D)) (hb : Binds X.K fd ps []) (hx : ∀ σ, PassesAt CX X σ (E σ)) (ha : PA X (e :: es) t)
    (hdb : (x == ("__debug__" : Str)) = false) (hst : starEach (e :: es) X.env = (false, eval e X.env) :: starEach es X.env) (hpl : (backTo cpos (starEach es X.env)).any (·.1) = false) : PE X (.Call (.Name x p) (e :: es) [] cpos) (tMk D sp E t) := by
  refine ⟨fun pins s σ H Q I hw => ?_⟩
  refine wpAny_Call_Name_kw (ld_glob I hg hm ?_ hdb)
  refine PySem.W.callWith_K (h₀ := X.base) I.ok.mod.kin M.kp (thn (ha.run cpos pins s σ H _ I hw) fun us s1 hs => ?_) hst hpl
  obtain ⟨vs, H1, I1, rs, hw1⟩ := hs
  exact ⟨I1.kIn, run_mk M F hr hb (hx σ) I1 rs hw1⟩
end
/-! ### the code's forms -/
section
variable {K : PySem.W.Frag} {EE : Ek} {ca mu : List Addr} {H : Hp} {S : Sto}
/-- the same names, the same places -/
theorem look_is {f : Str} : ∀ {vs : List (Str × V)} {fs : List (Str × D)}, vs.map (·.1) = fs.map (·.1) → IsL K EE ca mu H (vs.map (·.2)) (fs.map (·.2)) → (∀ d, fs.lookup f = some d → ∃ v, vs.lookup f = some v ∧ Is K EE ca mu H v d) ∧ (fs.lookup f = none → vs.lookup f = none)
  | [], [], _, _ => ⟨fun d h => (nomatch h), fun _ => rfl⟩
  | [], _ :: _, h, _ => by cases h
  | _ :: _, [], h, _ => by cases h
  | (g, v) :: vs, (g', d) :: fs, h, i => by
    have h1 : g = g' ∧ vs.map (·.1) = fs.map (·.1) := by simpa using h
    obtain ⟨rfl, h2⟩ := h1
    cases i with
    | cons i1 i2 =>
      obtain ⟨a1, a2⟩ := look_is (f := f) h2 i2
      rw [List.lookup_cons, List.lookup_cons]
      cases q : (f == g) with
      | true => exact ⟨fun d' h => ⟨v, rfl, by cases h; exact i1⟩, fun h => nomatch h⟩
      | false => exact ⟨a1, a2⟩
theorem fld_is {c n : Nat} {f : Str} {d : D} {a : Addr} (w : Wd K EE ca mu H S) (ha : ca[n]? = some a) (h : fldD S c f (.cell n) = some d) : ∃ dx vs v, H a = some (.ins (EE.CA c) dx vs) ∧ vs.lookup f = some v ∧ Is K EE ca mu H v d := by
  simp only [fldD] at h
  cases q : S[n]? with
  | none => rw [q] at h; cases h
  | some o =>
    rw [q] at h
    cases o with
    | ins c' fs =>
      by_cases e : c' = c
      · subst e
        obtain ⟨_, dx, vs, h1, h2, h3⟩ := w.ob n a _ ha q
        simp only [if_true] at h
        obtain ⟨v, b1, b2⟩ := (look_is h2 h3).1 d h
        exact ⟨dx, vs, v, h1, b1, b2⟩
      · simp only [if_neg e] at h
        cases h
    | _ => cases h
theorem ins_is {c n : Nat} {m : Str} {a : Addr} (w : Wd K EE ca mu H S) (ha : ca[n]? = some a) (h : insB S c m (.cell n) = true) : ∃ dx vs, H a = some (.ins (EE.CA c) dx vs) ∧ vs.lookup m = none := by
  simp only [insB] at h
  cases q : S[n]? with
  | none => rw [q] at h; cases h
  | some o =>
    rw [q] at h
    cases o with
    | ins c' fs =>
      obtain ⟨e, h4⟩ := Bool.and_eq_true_iff.mp h
      have e : c' = c := of_decide_eq_true e
      subst e
      obtain ⟨_, dx, vs, h1, h2, h3⟩ := w.ob n a _ ha q
      exact ⟨dx, vs, h1, (look_is h2 h3).2 (Option.isNone_iff_eq_none.mp h4)⟩
    | _ => cases h
end
section
variable {X : Cx} {G : En} {W : WX} {c g n k : Nat} {f m x : Str} {eo e : Expr} {es : List Expr} {o : Ex} {as : Exs} {pos p apos cpos : Pos} {ad : Addr} {fd : FuncData} {ps : List Str}
theorem snd_fld (ho : PE X eo (RdE X.K G W o)) (cl : Cls X.K (G.EE.CA c)) (na : NoAttr X.K (G.EE.CA c) f) (hat : attB eo = true) : PE X (.Attribute eo f pos) (RdE X.K G W (.fld c f o)) :=
  PEimp (pe_fld ho (att_ok' hat _ _ _)) fun σ H Q ⟨ca, mu, ρ, S, w, re, h⟩ => by
    have h : okR X.K G.EE G.XA (IsR X.K G.EE) ca mu H ((ev G.cons G.call o ρ S).bind fun x S => lift (fldD S c f x) S) Q (fun c d H' => W c d σ H') := h
    refine step w re h fun d S1 v ca1 mu1 H1 e1 w1 re1 i1 h1 => ?_
    cases q : fldD S1 c f d with
    | none => rw [q] at h1; exact h1.elim
    | some z =>
      rw [q] at h1
      cases i1 with
      | @cell _ a n ha =>
        obtain ⟨dx, vs, u, a1, a2, a3⟩ := fld_is w1 ha q
        exact ⟨a, _, dx, vs, u, rfl, a1, cl, na, a2, got w1 a3 h1⟩
      | _ => cases q
theorem snd_mcl (tk : Takes X W) (ho : PE X eo (RdE X.K G W o)) (cl : Cls X.K (G.EE.CA c)) (hm : Meth X.K (G.EE.CA c) m ad) (F : FnOk X.prog X.w X.K X.mg X.base (L2.CX X.prog X.w) k ad fd ps (SpF X.K G g (n + 1))) (hr : Room k X.A) (hb : Binds X.K fd ps [])
    (hl : ∀ ρ S ds S', evs G.cons G.call as ρ S = .ok ds S' → ds.length = n) (hs : PA X (e :: es) (RdA X.K G W as)) (hn : notStar e = true) (hn2 : ∀ e ∈ es, notStar e = true) (hat : attB eo = true) (hlen : es.length < 28) (hline : (apos.endLine == cpos.line) = true) :
    PE X (.Call (.Attribute eo m apos) (e :: es) [] cpos) (RdE X.K G W (.mcl c g m o as)) :=
  PEimp (pe_mt ho cl hm F hr hb (fun σ => passAt tk σ) hs hat (by
      have h := plain_back (e := e) (es := e :: es) (fun z hz => (List.mem_cons.mp hz).elim (fun q => by rw [q]; exact hn) (hn2 z)) cpos X.env
      have h2 : (backTo cpos (starEach (e :: es) X.env)).all (fun x => !x.1) = true := by
        rw [List.all_eq_true]
        intro y hy
        have := List.any_eq_false.mp h y hy
        simpa using this
      unfold methodCallForm
      rw [h2]
      simp [backToKw, keywordEach]
      omega) hline (star_ne hn es _) (plain_back (e := e) hn2 _ _)) fun σ H Q ⟨ca, mu, ρ, S, w, re, h⟩ => by
    have h : okR X.K G.EE G.XA (IsR X.K G.EE) ca mu H ((ev G.cons G.call o ρ S).bind fun x S => if insB S c m x = true then (evs G.cons G.call as ρ S).bind fun ds S => G.call (.glo g) (x :: ds) S else .no) Q (fun c d H' => W c d σ H') := h
    refine step w re h fun d S1 v ca1 mu1 H1 e1 w1 re1 i1 h1 => ?_
    split at h1
    · rename_i q
      cases i1 with
      | @cell _ a j ha =>
        obtain ⟨dx, vs, a1, a2⟩ := ins_is w1 ha q
        exact ⟨a, dx, vs, a1, rfl, a2, ca1, mu1, ρ, S1, w1, re1, okR.bind h1 fun ds S2 us ca2 mu2 H2 q2 e2 w2 i2 h2 => ⟨by rw [List.length_cons, i2.length]; congr 1; exact hl _ _ _ _ q2, ca2, mu2, _, S2, w2, .cons ((Is.cell ha).ex e2) i2, h2⟩⟩
      | _ => cases q
    · exact h1.elim
theorem snd_mcl0 (tk : Takes X W) (ho : PE X eo (RdE X.K G W o)) (cl : Cls X.K (G.EE.CA c)) (hm : Meth X.K (G.EE.CA c) m ad) (F : FnOk X.prog X.w X.K X.mg X.base (L2.CX X.prog X.w) k ad fd ps (SpF X.K G g 1)) (hr : Room k X.A) (hb : Binds X.K fd ps [])
    (hat : attB eo = true) (hline : (apos.endLine == cpos.line) = true) : PE X (.Call (.Attribute eo m apos) [] [] cpos) (RdE X.K G W (.mcl c g m o .nil)) :=
  PEimp (pe_mt0 ho cl hm F hr hb (fun σ => passAt tk σ) hat hline) fun σ H Q ⟨ca, mu, ρ, S, w, re, h⟩ => by
    have h : okR X.K G.EE G.XA (IsR X.K G.EE) ca mu H ((ev G.cons G.call o ρ S).bind fun x S => if insB S c m x = true then (Res.ok ([] : List D) S).bind fun ds S => G.call (.glo g) (x :: ds) S else .no) Q (fun c d H' => W c d σ H') := h
    refine step w re h fun d S1 v ca1 mu1 H1 e1 w1 re1 i1 h1 => ?_
    split at h1
    · rename_i q
      cases i1 with
      | @cell _ a j ha =>
        obtain ⟨dx, vs, a1, a2⟩ := ins_is w1 ha q
        exact ⟨a, dx, vs, a1, rfl, a2, rfl, ca1, mu1, _, S1, w1, .cons (.cell ha) .nil, h1⟩
      | _ => cases q
    · exact h1.elim
theorem snd_mkn (tk : Takes X W) (M : Mk X.K (G.EE.CA c) ad) (F : FnOk X.prog X.w X.K X.mg X.base (L2.CX X.prog X.w) k ad fd ps (SpF X.K G g (n + 1))) (hr : Room (k + 1) X.A) (hg : Gl X x) (hm : X.mg x = some (.ref (G.EE.CA c))) (hb : Binds X.K fd ps [])
    (hdb : (x == ("__debug__" : Str)) = false) (hl : ∀ ρ S ds S', evs G.cons G.call as ρ S = .ok ds S' → ds.length = n) (hs : PA X (e :: es) (RdA X.K G W as)) (hn : notStar e = true) (hn2 : ∀ e ∈ es, notStar e = true) :
    PE X (.Call (.Name x p) (e :: es) [] cpos) (RdE X.K G W (.mkn c g as)) :=
  PEimp (pe_mk M F hr hg hm hb (fun σ => passAt tk σ) hs hdb (star_ne hn es _) (plain_back (e := e) hn2 _ _)) fun σ H Q ⟨ca, mu, ρ, S, w, re, h⟩ => by
    have h : okR X.K G.EE G.XA (IsR X.K G.EE) ca mu H ((evs G.cons G.call as ρ S).bind fun ds S => (G.call (.glo g) (.cell S.length :: ds) (S ++ [.ins c []])).bind fun d S' => if isNon d = true then .ok (.cell S.length) S' else .no) Q (fun c d H' => W c d σ H') := h
    refine ⟨ca, mu, ρ, S, w, re, okR.bind h fun ds S1 vs ca1 mu1 H1 q1 e1 w1 i1 h1 => ?_⟩
    intro q dx hdx hq hne
    have w2 := w1.new (o := .own q) hdx
    have x2 := Ext.new (ca := ca1) (mu := mu1) (o := .own q) hdx
    have hq2 : upd H1 dx (.own q) q = none := by rw [upd_ne (fun z => hne z.symm)]; exact hq
    obtain ⟨x3, w3, i3⟩ := newCell (o := .ins (G.EE.CA c) dx []) (b := .ins c []) w2 hq2 (fun ca' mu' H' x m e => ⟨m, dx, [], e, rfl, .nil⟩) rfl
    refine ⟨by rw [List.length_cons, i1.length]; congr 1; exact hl _ _ _ _ q1, _, _, _, _, w3, .cons i3 ((i1.ex x2).ex x3), ?_⟩
    have x4 := x2.trans x3
    cases r : G.call (.glo g) (.cell S1.length :: ds) (S1 ++ [.ins c []]) with
    | no => rw [r] at h1; exact h1
    | exc y S2 => rw [r] at h1; exact fun cls dd ca' mu' H' e w' i => h1 cls dd ca' mu' H' (x4.trans e) w' i
    | ok d S2 =>
      rw [r] at h1
      intro v ca2 mu2 H2 e2 w4 i4
      have h1 : okR X.K G.EE G.XA (IsR X.K G.EE) ca1 mu1 H1 (if isNon d = true then .ok (.cell S1.length) S2 else .no) Q (fun c d H' => W c d σ H') := h1
      split at h1
      · rename_i z
        have : d = .non := by cases d <;> first | rfl | cases z
        subst this
        cases i4
        exact ⟨rfl, h1 _ _ _ _ (x4.trans e2) w4 (i3.ex e2)⟩
      · exact h1.elim
theorem snd_prp {pa : Addr} (ho : PE X eo (RdE X.K G W o)) (cl : Cls X.K (G.EE.CA c)) (hp : PropOf X.K (G.EE.CA c) m pa ad) (F : FnOk X.prog X.w X.K X.mg X.base (L2.CX X.prog X.w) k ad fd ps (SpF X.K G g 1)) (hr : Room (k + 1) X.A) (hb : Binds X.K fd ps []) (hat : attB eo = true) :
    PE X (.Attribute eo m pos) (RdE X.K G W (.prp c g m o)) :=
  PEimp (pe_prop ho cl hp F hr hb .nil passL (att_ok' hat _ _ _)) fun σ H Q ⟨ca, mu, ρ, S, w, re, h⟩ => by
    have h : okR X.K G.EE G.XA (IsR X.K G.EE) ca mu H ((ev G.cons G.call o ρ S).bind fun x S => if insB S c m x = true then shut (G.call (.glo g) [x] S) else .no) Q (fun c d H' => W c d σ H') := h
    refine step w re h fun d S1 v ca1 mu1 H1 e1 w1 re1 i1 h1 => ?_
    split at h1
    · rename_i q
      cases i1 with
      | @cell _ a j ha =>
        obtain ⟨dx, vs, a1, a2⟩ := ins_is w1 ha q
        refine ⟨a, dx, vs, rfl, a1, rfl, ca1, mu1, [.cell j], S1, w1, .cons (.cell ha) .nil, ?_⟩
        cases r : G.call (.glo g) [.cell j] S1 with
        | ok d S' => rw [r] at h1; exact h1
        | exc _ _ => rw [r] at h1; exact h1.elim
        | no => rw [r] at h1; exact h1.elim
      | _ => cases q
    · exact h1.elim
end
end KI


set_option Elab.async false
set_option linter.all false
set_option maxRecDepth 100000
set_option autoImplicit false
set_option maxHeartbeats 2000000
namespace KI
open PySem PySem.Spec PyProof.Rows L2
theorem lookup_zip {ns : List Str} {us : List Value} (nd : ns.Nodup) (hl : us.length = ns.length) : ∀ (i : Nat) (n : Str) (u : Value), ns[i]? = some n → us[i]? = some u → (ns.zip us).lookup n = some u := by
  induction ns generalizing us with
  | nil => intro i n u h; simp at h
  | cons m ns ih =>
    cases us with
    | nil => simp at hl
    | cons w us =>
      intro i n u h1 h2
      cases i with
      | zero => simp at h1 h2; subst h1 h2; simp [List.lookup]
      | succ i =>
        have nd' := List.nodup_cons.mp nd
        have hn : n ≠ m := fun e => nd'.1 (by subst e; exact List.mem_of_getElem? (by simpa using h1))
        simp only [List.zip_cons_cons, List.lookup]
        have : (n == m) = false := by simpa using hn
        rw [this]
        exact ih nd'.2 (by simpa using hl) i n u (by simpa using h1) (by simpa using h2)
theorem lookup_zip_some {ns : List Str} {us : List Value} (hl : us.length = ns.length) {n : Str} (h : n ∈ ns) (nd : ns.Nodup) : ((ns.zip us).lookup n).isNone = false := by
  obtain ⟨i, h1, e⟩ := List.getElem_of_mem h
  have h2 : i < us.length := by omega
  rw [lookup_zip nd hl i n us[i] (by rw [List.getElem?_eq_getElem h1, e]) (List.getElem?_eq_getElem h2)]
  rfl
theorem binds_zip : ∀ {ns : List Str} {us : List Value} (f : Str → Option Value), us.length = ns.length → (∀ (i : Nat) (n : Str) (u : Value), ns[i]? = some n → us[i]? = some u → f n = some u) → ns.filterMap (fun n => (f n).map (n, ·)) = ns.zip us
  | [], [], _, _, _ => rfl
  | [], _ :: _, _, h, _ => by cases h
  | _ :: _, [], _, h, _ => by cases h
  | n :: ns, u :: us, f, h, k => by
    rw [List.filterMap_cons, k 0 n u rfl rfl]
    show (n, u) :: _ = (n, u) :: _
    rw [binds_zip f (by simpa using h) fun i n u h1 h2 => k (i + 1) n u (by simpa using h1) (by simpa using h2)]
    rfl
theorem bind_plain {x qual : Str} {as : List Arg} {kd : List (Option Expr)} {body : List Stmt} {scope : Scope} (nd : (as.map (·.arg)).Nodup) (kV doc pm : Value) (an : Option Addr) (cdv ct : Value) (us : List Value) (hl : us.length = (as.map (·.arg)).length) :
    bindArgs (PySem.W.fnOf x qual ⟨[], as, none, [], kd, none, []⟩ body scope .none kV doc pm an cdv ct) ⟨us, []⟩ = pure ((as.map (·.arg)).zip us) := by
  generalize hns : as.map (·.arg) = ns at *
  have h1 : (ns.filter fun n => ((ns.zip us).lookup n).isNone) = [] := by
    rw [List.filter_eq_nil_iff]
    intro n hn
    rw [lookup_zip_some hl hn nd]
    simp
  have h2 := binds_zip (fun n => (ns.zip us).lookup n) hl fun i n u => lookup_zip nd hl i n u
  have h3 : ¬ us.length > ns.length := by omega
  have e : seqItems? (Value.none) = (pure none : Sem (Option (Array Value))) := rfl
  unfold bindArgs
  simp only [PySem.W.fnOf, List.map_nil, List.nil_append, List.append_nil, hns, List.forIn_nil, pure_bind, e, Option.getD_none, Array.toList_empty, List.length_nil, Nat.sub_zero, Nat.zero_sub, List.drop_nil, List.take_length, List.zip_nil_right, h1, h3, decide_false, Bool.false_and, Bool.false_eq_true, if_false, List.isEmpty_nil, Bool.not_true, List.drop_length]
  rw [h2]
theorem bind_plainL {qual : Str} {as : List Arg} {kd : List (Option Expr)} {body : Expr} {scope : Scope} {cl : List (Str × Addr)} (nd : (as.map (·.arg)).Nodup) (pm cdv ct : Value) (us : List Value) (hl : us.length = (as.map (·.arg)).length) :
    bindArgs (PySem.W.kla_fn "<lambda>" qual ⟨[], as, none, [], kd, none, []⟩ body scope cl pm cdv ct) ⟨us, []⟩ = pure ((as.map (·.arg)).zip us) := by
  generalize hns : as.map (·.arg) = ns at *
  have h1 : (ns.filter fun n => ((ns.zip us).lookup n).isNone) = [] := by
    rw [List.filter_eq_nil_iff]
    intro n hn
    rw [lookup_zip_some hl hn nd]
    simp
  have h2 := binds_zip (fun n => (ns.zip us).lookup n) hl fun i n u => lookup_zip nd hl i n u
  have h3 : ¬ us.length > ns.length := by omega
  have e : seqItems? (Value.none) = (pure none : Sem (Option (Array Value))) := rfl
  unfold bindArgs
  simp only [PySem.W.kla_fn, List.map_nil, List.nil_append, List.append_nil, hns, List.forIn_nil, pure_bind, e, Option.getD_none, Array.toList_empty, List.length_nil, Nat.sub_zero, Nat.zero_sub, List.drop_nil, List.take_length, List.zip_nil_right, h1, h3, decide_false, Bool.false_and, Bool.false_eq_true, if_false, List.isEmpty_nil, Bool.not_true, List.drop_length]
  rw [h2]
end KI


set_option Elab.async false
set_option linter.all false
set_option maxRecDepth 100000
set_option autoImplicit false
set_option maxHeartbeats 2000000
/-! Own exceptions whose __init__ says super().__init__("..") and stores its one argument. -/
namespace KI
open PySem PySem.Spec PyProof.Rows L2

section
variable {prog : Program} {w : World} {A : Around} {E : Value → Shared → Prop} {R : Result → Shared → Prop} {K : PySem.W.Frag} {h : Heap} {g : Array GenState} {d : Drawn} {t : Nat} {os : OsState} {C e t0 u : Addr}
/-- ValueError's __init__, bound to the exception, called -/
theorem mw_call {us : List Value} {Q : Value → Shared → Prop} (T : OexC K C) (X : K.In h) (he : h.get? e = some (HandSPX.excO C t0)) (hu : h.get? u = some (PySem.W.kxs_mw "ValueError.__init__" e)) (hl : us.length ≤ sizeLine)
    (hq : ∀ h' t1, (∀ b o, b ≠ e → h.get? b = some o → h'.get? b = some o) → h'.get? e = some (HandSPX.excO C t1) → Q .none ⟨h', g, d, t, os⟩) : wpAny (model prog w) A (call (.ref u) us) Q E ⟨h, g, d, t, os⟩ := by
  obtain ⟨nm, q, N, bs, bm, sn, sub, ab, col, dd, k0, k1, k2, k3, k5, hC, hbm⟩ := T.cls
  have hC := X _ _ hC
  apply wpAny_call
  apply codeAny_of_tree
  change wpAny _ A.in1 (callAny (.ref u) ⟨us, []⟩) _ _ _
  rw [show callAny (.ref u) ⟨us, []⟩ = _ from by unfold callAny; rfl]
  refine wpAny_bind (wpAny_load (o := PySem.W.kxs_mw "ValueError.__init__" e) hu ?_)
  have c1 : (Value.type "method-wrapper" == Value.type "method" || Value.type "method-wrapper" == Value.type "builtin_function_or_method" || Value.type "method-wrapper" == Value.type "method-wrapper") = true := by decide
  simp only [PySem.W.kxs_mw, c1, if_true]
  refine PySem.W.KFB.if_so (by decide) (wpAny_bind (PySem.W.check_bound_init F.excBase_ValueError.toExcCallFacts hC he rfl ?_))
  refine wpAny_bind (wpAny_pure (wpAny_pure ⟨Code.quiet_builtin _ (by decide +kernel), codeAny_builtin F.excBase_ValueError.initEntry ?_⟩))
  exact PySem.W.exc_init_tree (cls := .ref C) (t0 := t0) (dv := none) (c2 := .none) (c3 := .none) (b4 := .bool false) he hl fun h' k e' _ => hq h' _ k e'
end
theorem nmOk_ok {y : Str} (h : nmOk y = true) : (y == ("__debug__" : Str)) = false ∧ (y == ("__classdict__" : Str)) = false := by
  unfold nmOk at h
  obtain ⟨h1, h2⟩ := Bool.and_eq_true_iff.mp h
  exact ⟨by simpa using h1, by simpa using h2⟩
/-- the two statements of such an __init__ -/
def xiBody (sf p f msg : Str) (b : List Stmt) : Prop := ∃ p0 p1 ap j p2 cp ep p3 p4 p5 p6, b = [.Expr (.Call (.Attribute (.Call (.Name "super" p0) [] [] p1) "__init__" ap) [.Constant (.str msg) j p2] [] cp) ep, .Assign [.Attribute (.Name sf p3) f p4] (.Name p p5) p6] ∧ (ap.endLine == cp.line) = true
/-- what is known of the class at C, of its __init__ at fI -/
structure XiF (P : Program) (K : PySem.W.Frag) (C : Addr) (f : Str) (fI : Addr) (fd : FuncData) (sf p msg : Str) (b : List Stmt) (cc cda : Addr) : Prop where
  o : OexC K C
  no : PySem.W.findIn K (.ref C) f = some none
  at_ : ∃ oc od osl, K.lookup fI = some ⟨oc, od, .func fd, osl⟩
  iC : PySem.W.findIn K (.ref C) "__init__" = some (some (.ref fI))
  tI : PySem.W.typeIn K (.ref fI) = some (.type "function")
  body : fd.body = .stmts b
  two : xiBody sf p f msg b
  args : argOk fd.params [sf, p] = true
  dfl : fd.defaults = .none
  glob : fd.globals = mainGlobals
  blt : fd.builtins = builtinsNs
  code : fd.code = .ref cda
  file : ∃ oc od osl vs fl tf, K.lookup cda = some ⟨oc, od, .fields vs, osl⟩ ∧ vs[2]? = some (.str fl tf) ∧ ((P.main.file : Str) == fl) = true
  rec_ : PySem.W.codeIn K fd.code fd.qualname = true
  clo : fd.closure.lookup ("__class__" : Str) = some cc
  cell : ∃ cl cld csl, K.lookup cc = some ⟨cl, cld, .cell (some (.ref C)), csl⟩
  sup : PySem.W.nsIn K mainGlobals "super" = some none
  opq : PySem.W.nsIn K cStatics "thirdparty.any" = some none
  inh : PySem.W.ks_superIn K C C "__init__" = some (some (.builtin "ValueError.__init__"))
  sub : PySem.W.subIn K (.ref C) (.type "ValueError") = some true
  own : PySem.W.mroIn K C (.ref C) = some true
  top : (P.main.scope.names.lookup ("super" : Str)).isSome = false
  kind : fd.scope.kind = .function
  co : fd.scope.isCoroutine = false
  gen : fd.scope.isGenerator = false
  ncell : ∀ x ∈ fd.scope.names, x.2 ≠ .cell
  kself : fd.scope.names.lookup sf = some .local
  kp : fd.scope.names.lookup p = some .local
  ksup : fd.scope.names.lookup ("super" : Str) = some .globalImplicit
  kcls : fd.scope.names.lookup ("__class__" : Str) = some .free
  dself : nmOk sf = true
  dp : nmOk p = true
theorem argOk_ok {p : Arguments} {ps : List Str} (h : argOk p ps = true) {x qual : Str} {body : List Stmt} {scope : Scope} (kV doc pm : Value) (an : Option Addr) (cdv ct : Value) (us : List Value) (hl : us.length = ps.length) :
    bindArgs (PySem.W.fnOf x qual p body scope .none kV doc pm an cdv ct) ⟨us, []⟩ = pure (ps.zip us) := by
  obtain ⟨h1, h7⟩ := He.ba h
  obtain ⟨h1, h6⟩ := He.ba h1
  obtain ⟨h1, h5⟩ := He.ba h1
  obtain ⟨h1, h4⟩ := He.ba h1
  obtain ⟨h1, h3⟩ := He.ba h1
  obtain ⟨h1, h2⟩ := He.ba h1
  obtain ⟨a, b, c, d, e, f, g⟩ := p
  cases a with
  | cons _ _ => cases h1
  | nil =>
  cases c with
  | some _ => cases h2
  | none =>
  cases d with
  | cons _ _ => cases h3
  | nil =>
  cases f with
  | some _ => cases h4
  | none =>
  cases g with
  | cons _ _ => cases h5
  | nil =>
  have e6 : b.map (·.arg) = ps := of_decide_eq_true h6
  subst e6
  exact bind_plain (of_decide_eq_true h7) kV doc pm an cdv ct us hl
theorem bind_two {fd : FuncData} {ps : List Str} (ha : argOk fd.params ps = true) (hd : fd.defaults = .none) (us : List Value) (hl : us.length = ps.length) : bindArgs fd ⟨us, []⟩ = pure (ps.zip us) := by
  obtain ⟨n1, n2, n3, n4, n5, n6, n7, n8, n9, n10, n11, n12, n13, n14, n15⟩ := fd
  have hd : n8 = .none := hd
  subst hd
  have h := argOk_ok (x := n1) (qual := n2) (body := []) (scope := n5) (p := n3) ha n9 n10 n11 n12 n13 n14 us hl
  exact h
/-- a method's call on one line, its base as it is read -/
theorem arm_sup {o : Expr} {m : Str} {es : List Expr} {apos cpos : Pos} {env : PySem.Env} (hf : methodCallForm es.length (backTo cpos (starEach es env)) (backToKw cpos (keywordEach [] env)) = true) (hl : (apos.endLine == cpos.line) = true) : ∃ pl : Sem Bool, eval (.Call (.Attribute o m apos) es [] cpos) env = (do
    let ov ← attributeBase o m env (eval o env)
    standAt apos.atName
    let (f, first) ← holding [ov] (getMethod ov m pl)
    callWith cpos f first (backTo cpos (starEach es env)) []) := by
  refine ⟨?_, ?_⟩
  rotate_left
  · rw [arm_eval_Call]
    unfold methodCall calleeOf
    have hf2 : methodCallForm (es.length + ([] : List Keyword).length) (backTo cpos (starEach es env)) (backToKw cpos (keywordEach [] env)) = true := hf
    rw [hf2]
    have hp : methodCallPos true o env apos cpos = pure cpos := by unfold methodCallPos; simp [hl]
    rw [hp]
    rfl
section
variable {P : Program} {w : World} {A : Around} {R : Result → Shared → Prop} {K : PySem.W.Frag} {C fI e t0 cc cda : Addr} {f sf p msg : Str} {fd : FuncData} {b : List Stmt} {mg : Str → Option Value} {v : Value}
/-- such an __init__, called -/
theorem xi_code {h : Heap} {g : Array GenState} {d : Drawn} {t : Nat} {os : OsState} (F : XiF P K C f fI fd sf p msg b cc cda) (X : K.In h) (lim : h.NoLimit) (G : h.Ns mainGlobals mg) (B : ∃ mb, h.Ns builtinsNs mb ∧ ∀ x : Str, x ≠ "__name__" → mb x = bootBuiltins x) (he : h.get? e = some (HandSPX.excO C t0)) (hK : K.lookup e = none) (hr : A.depth < recursionLimit)
    (fin : ∀ h' tk t1 dx, (∀ b o, b ≠ e → h.get? b = some o → h'.get? b = some o) → h.objs.size ≤ dx → dx ≠ e → h'.get? e = some { cls := .ref C, dict := some dx, data := .fields #[.ref t1, .none, .none, .none, .bool false, .none] } → h'.Ns1 dx (fun y => if y = f then some v else none) → R (.ok (.ret .none)) ⟨h', g, d, tk, os⟩) :
    codeAny (model P w) A (.call (.ref fI) ⟨[.ref e, v], []⟩) R ⟨h, g, d, t, os⟩ := by
  obtain ⟨oc, od, osl, lk⟩ := F.at_
  obtain ⟨p0, p1, ap, j, p2, cp, ep, p3, p4, p5, p6, eb, hline⟩ := F.two
  have nd : [sf, p].Nodup := by
    obtain ⟨_, h7⟩ := He.ba F.args
    exact of_decide_eq_true h7
  have hne : sf ≠ p := fun z => by
    rw [z] at nd
    simp at nd
  obtain ⟨mb, hB, hB2⟩ := B
  obtain ⟨nm, q, N, bs, bm, sn, sub, ab, col, dd, k0, k1, k2, k3, k5, hC, hbm⟩ := F.o.cls
  have hcl : PySem.W.clsIn K C = some { name := nm, bases := bs, mro := .ref C :: bm, ns := N, qualname := q, hasDict := true, slotNames := sn, subclasses := sub, abstract := ab, collection := col, hasDel := false } := by unfold PySem.W.clsIn; rw [hC] <;> rfl
  have hCe : C ≠ e := fun z => by
    have := X _ _ hC
    rw [z, he] at this
    cases this
  subst eb
  refine PySem.ks_codeAny_call_defAt (binds := [(sf, .ref e), (p, v)]) hr (X _ _ lk) rfl lim (PySem.W.codeRec_of X F.rec_) F.body (BindsTo.of_eq (bind_two F.args F.dfl [.ref e, v] rfl)) F.ncell (fun y hy => ?_) (fun h₀ hns hk => ?_) F.co F.gen F.kind
  · rcases List.mem_cons.mp hy with rfl | hy
    · exact F.kself
    · rcases List.mem_cons.mp hy with rfl | hy
      · exact F.kp
      · cases hy
  let env : PySem.Env := callEnv fd h.objs.size fI
  have kf : env.scope.kind = .function := F.kind
  have hk1 : env.kindOf "super" = some .globalImplicit := F.ksup
  have hk2 : env.kindOf "__class__" = some .free := F.kcls
  have hk3 : env.kindOf sf = some .local := F.kself
  have hk4 : env.kindOf p = some .local := F.kp
  obtain ⟨oc2, od2, osl2, vs, fl, tf, lk2, hv2, hfile⟩ := F.file
  obtain ⟨cl, cld, csl, lk3⟩ := F.cell
  have X0 : K.In h₀ := fun a o z => hk a o (X a o z)
  have he0 : h₀.get? e = some (HandSPX.excO C t0) := hk _ _ he
  have ge : env.globals = mainGlobals := F.glob
  have be : env.builtins = builtinsNs := F.blt
  have G0 : h₀.Ns mainGlobals mg := G.keeps hk
  have B0 : h₀.Ns builtinsNs mb := hB.keeps hk
  have msup : mg "super" = none := PySem.W.mg_none_of X G F.sup
  have vself : (fun x => ([(sf, Value.ref e), (p, v)] : List (Str × Value)).reverse.lookup x) sf = some (.ref e) := by
    show ([(p, v), (sf, Value.ref e)] : List (Str × Value)).lookup sf = _
    rw [List.lookup_cons, show (sf == p) = false by simpa using hne, List.lookup_cons, beq_self_eq_true]
  have vp : (fun x => ([(sf, Value.ref e), (p, v)] : List (Str × Value)).reverse.lookup x) p = some v := by
    show ([(p, v), (sf, Value.ref e)] : List (Str × Value)).lookup p = _
    rw [List.lookup_cons, beq_self_eq_true]
  have fp : (fd.params.posonlyargs ++ fd.params.args).head?.map (·.arg) = some sf := by
    obtain ⟨z, _⟩ := He.ba F.args
    obtain ⟨z, z6⟩ := He.ba z
    obtain ⟨z, _⟩ := He.ba z
    obtain ⟨z, _⟩ := He.ba z
    obtain ⟨z, _⟩ := He.ba z
    obtain ⟨z, _⟩ := He.ba z
    have z6 := of_decide_eq_true z6
    rw [List.isEmpty_iff.mp z, List.nil_append, ← List.head?_map, z6]
    rfl
  obtain ⟨ar, hp, ea⟩ : ∃ ar, (fd.params.posonlyargs ++ fd.params.args).head? = some ar ∧ ar.arg = sf := by
    cases q : (fd.params.posonlyargs ++ fd.params.args).head? with
    | none => rw [q] at fp; cases fp
    | some ar => rw [q] at fp; exact ⟨ar, rfl, Option.some.inj fp⟩
  apply PySem.ks_wpAt_execs_cons
  have hi : interactive (callEnv fd h.objs.size fI) = false := by
    unfold interactive
    rw [show (callEnv fd h.objs.size fI).scope.kind = .function from kf]
    rfl
  refine PySem.ks_wpAt_Expr_any ?_ (hi := hi)
  obtain ⟨pl, arm⟩ := arm_sup (o := .Call (.Name "super" p0) [] [] p1) (m := "__init__") (es := [.Constant (.str msg) j p2]) (env := env) rfl hline
  refine PySem.ks_wpAt_MethodCall (pl := pl) ?_ arm
  refine PySem.ks_wpAt_super_base (env := env) hk1 hk2 (by decide) rfl (X0 _ _ lk) rfl hp F.code (X0 _ _ lk2) rfl hv2 hfile F.top ?_
  refine PySem.W.ks_loadName_global kf hk1 (Calls.loadGlobal_builtin (env := env) (by rw [ge]; exact G0) msup (by rw [be]; exact B0) ((hB2 _ (by decide +kernel)).trans PyProof.Rows.Boot.«super») ⟨rfl, ?_⟩)
  refine wpAny_loadName_free kf hk2 F.clo ⟨_, X0 _ _ lk3, rfl⟩ ?_
  rw [ea]
  refine wpAny_loadName_local kf hk3 hns vself ?_
  have hC0 := X0 _ _ hC
  refine PySem.ks_wpAny_isType_cls hC0 rfl ⟨rfl, ?_⟩
  refine PySem.ks_wpAny_call_super hC0 rfl he0 rfl (fun c z => nomatch z) (PySem.W.looks_mroIn X0 F.own) (fun h1 hso k1 => ?_)
  have X1 : K.In h1 := fun a o z => k1 a o (X0 a o z)
  have he1 := k1 _ _ he0
  have I1 : PySem.W.InstAt h1 e (HandSPX.excO C t0) C none := ⟨he1, rfl, rfl, trivial⟩
  have hI1 : PySem.W.Looks (model P w) h1 (isInstance (.ref e) (.type "ValueError")) true := I1.type.andThen (PySem.W.looks_subIn X1 F.sub)
  have hinh := F.inh
  unfold PySem.W.ks_superIn at hinh
  rw [hcl] at hinh
  refine PySem.W.kxs_getMethod PySem.W.kxs_ValueError hso (PySem.W.looks_opaque X1 F.opq) (l₀ := .ref C :: bm) ((PySem.W.looks_clsIn X1 hcl).andThen .now) rfl X1 hinh hI1 (Ne.symm hCe) (by decide) ?_
  have hu : (h1.push (PySem.W.kxs_mw "ValueError.__init__" e)).get? h1.objs.size = some (PySem.W.kxs_mw "ValueError.__init__" e) := Heap.get?_push_at rfl rfl
  have he2 := Heap.get?_push_of_some (h := h1) (PySem.W.kxs_mw "ValueError.__init__" e) he1
  have X2 : K.In (h1.push (PySem.W.kxs_mw "ValueError.__init__" e)) := fun a o z => Heap.get?_push_of_some _ (X1 a o z)
  refine PySem.W.kxs_callWith (i := "ValueError.__init__") (x := e) (u := h1.objs.size) rfl ?_
  show wpAny _ _ (evalArgs _ true ((false, eval (.Constant (.str msg) j p2) env) :: []) []) _ _ _
  refine Calls.evalArgs_plain (Calls.spliced_cons (Calls.Constant_str (Calls.spliced_nil ⟨hu, ?_⟩)))
  refine mw_call F.o X2 he2 hu (by show 1 ≤ sizeLine; rw [sizeLine_eq]; omega) fun h3 t1 k3 he3 => ?_
  have k13 : ∀ a o, a ≠ e → h1.get? a = some o → h3.get? a = some o := fun a o n z => k3 a o n (Heap.get?_push_of_some _ z)
  have X3 : K.In h3 := fun a o z => k13 a o (fun y => by rw [y, hK] at z; cases z) (X1 a o z)
  have hLe : h.objs.size ≠ e := Nat.ne_of_gt (Heap.lt_size he)
  obtain ⟨oL, esL, epL, hL, rL⟩ := hns
  have hns3 : h3.Ns h.objs.size (fun x => ([(sf, Value.ref e), (p, v)] : List (Str × Value)).reverse.lookup x) := ⟨oL, esL, epL, k13 _ _ hLe (k1 _ _ hL), rL⟩
  apply PySem.ks_wpAt_execs_cons
  refine PySem.ks_wpAt_Assign_Attr (wpAt_of_wpAny (wpAny_Name (wpAny_loadName_local kf hk4 hns3 vp ?_) (nmOk_ok F.dp).1)) rfl
  refine wpAny_Name (wpAny_loadName_local kf hk3 hns3 vself ?_) (nmOk_ok F.dself).1
  refine PySem.W.set_plain X3 (ox := HandSPX.excO C t1) (od := none) ⟨he3, rfl, rfl, trivial⟩ F.o.sa ?_
  refine HandSPX.exc_osa X3 he3 hcl (show HandSPX.refsVE (.ref C :: bm) = true from hbm) rfl F.no fun h4 tk dx k4 dn dne hx hn => ?_
  refine wpAt_of_wpAny (wpAny_execs_nil (fin h4 tk t1 dx (fun b o n z => k4 b o n (k13 b o n (k1 _ _ (hk _ _ z)))) (Nat.le_trans ?_ dn) dne hx hn))
  exact Nat.le_of_lt (Heap.lt_size hns3.choose_spec.choose_spec.choose_spec.1)
end
/-- C(e), such a class: the exception's dict holds its one field -/
def tXi (C : Addr) (f : Str) (te : TE) : L2.St → Hp → XK → Prop := fun σ H Q => te σ H fun y H1 => ∀ dx, H1 dx = none → Q (.ref C) (some dx) (upd H1 dx (.xd [(f, y)]))
section
variable {X : Cx} {C fI cc cda : Addr} {x f sf p msg : Str} {fd : FuncData} {b : List Stmt} {e : Expr} {te : TE} {px pos : Pos}
theorem pmk_xi (F : XiF X.prog X.K C f fI fd sf p msg b cc cda) (hr : Room 1 X.A) (hg : Gl X x) (hm : X.mg x = some (.ref C)) (he : PE X e te) (hn : notStar e = true) (hdb : (x == ("__debug__" : Str)) = false) : PMk X (.Call (.Name x px) [e] [] pos) (tXi C f te) := by
  intro pins s σ H Q I h
  obtain ⟨nm, q, N, bs, bm, sn, sub, ab, col, dd, k0, k1, k2, k3, k5, hC, hbm⟩ := F.o.cls
  refine wpAny_Call_Name_kw (ld_glob I hg hm ?_ hdb)
  have ha : PA X [e] (tCons te tNil) := pa_cons he pa_nil (star_ne hn [] _)
  refine PySem.W.callWith_K (h₀ := X.base) I.ok.mod.kin F.o.kC (thn (ha.run pos pins s σ H (fun vs H1 => match vs with
    | [y] => ∀ dx, H1 dx = none → Q (.ref C) (some dx) (upd H1 dx (.xd [(f, y)]))
    | _ => False) I h) fun us s1 hs => ?_) (star_ne hn [] _) rfl
  obtain ⟨vs, H1, I1, r1, q1⟩ := hs
  match vs, r1, q1 with
  | [y], r1, q1 =>
  cases r1 with
  | @cons _ u0 _ ur ra rw' =>
    cases rw'
    refine ⟨I1.kIn, ?_⟩
    show wpAny _ _ (call (.ref C) [u0]) _ _ _
    obtain ⟨hp, g, dr, tk, os⟩ := s1
    have hsz : hp.objs.size ≤ hp.objs.size + 1 := Nat.le_succ _
    have kk : ∀ b o, hp.get? b = some o → ((hp.push (PySem.W.kdv_tup [u0])).push (HandSPX.excO C hp.objs.size)).get? b = some o := fun b o e => Heap.get?_push_of_some _ (Heap.get?_push_of_some _ e)
    have hget : ((hp.push (PySem.W.kdv_tup [u0])).push (HandSPX.excO C hp.objs.size)).get? (hp.objs.size + 1) = some (HandSPX.excO C hp.objs.size) := by heap_get
    have KX : X.K.In hp := I1.kIn
    have hK : X.K.lookup (hp.objs.size + 1) = none := by
      cases z : X.K.lookup (hp.objs.size + 1) with
      | none => rfl
      | some o =>
        have := Heap.lt_size (KX _ _ z)
        exact absurd this (Nat.not_lt.mpr hsz)
    obtain ⟨mb, hB, hB2⟩ := I1.mod.blt
    have lim : hp.NoLimit := I1.nolimit
    refine wpAny_call (HandSPX.call_own PySem.F.excBase_ValueError (fun Y => HandSPX.refsVE_contains Y bm hbm) (KX _ _ hC) (PySem.W.looks_findIn KX F.iC) (fun self => PySem.W.bind_fn KX self F.tI) (by show 1 ≤ sizeLine; rw [sizeLine_eq]; omega) ?_)
    refine xi_code F (fun a o z => kk _ _ (KX a o z)) (lim.keeps kk) ((I1.mod.glob.keeps I1.bk).keeps kk) ⟨mb, (hB.keeps I1.bk).keeps kk, hB2⟩ hget hK ?_ fun h' tk' t1 dx k dn dne hx hns => ?_
    · have := (hr.make C [u0] []).dp
      omega
    · have hda : ∀ {b : Addr} {o : Obj}, hp.get? b = some o → b ≠ hp.objs.size + 1 := fun {b o} z => Nat.ne_of_lt (Nat.lt_succ_of_lt (Heap.lt_size z))
      obtain ⟨Gh, g1, g2⟩ := restrict h' fun b => decide (b ≠ hp.objs.size + 1)
      have gk : ∀ b, b ≠ hp.objs.size + 1 → Gh.get? b = h'.get? b := fun b hb => g1 b (decide_eq_true hb)
      have ge : Gh.get? (hp.objs.size + 1) = none := g2 _ (by simp)
      have sz2 : ((hp.push (PySem.W.kdv_tup [u0])).push (HandSPX.excO C hp.objs.size)).objs.size = hp.objs.size + 2 := by rw [Heap.size_push, Heap.size_push]
      have dn : hp.objs.size ≤ dx := by rw [sz2] at dn; omega
      have hnd : H1 dx = none := I1.hok.fresh dn
      have kG : ∀ b o, hp.get? b = some o → Gh.get? b = some o := fun b o z => by
        rw [gk b (hda z)]
        exact k b o (hda z) (kk b o z)
      obtain ⟨oD, esD, epD, eD, rD⟩ := hns
      have nG : Gh.Ns1 dx (fun z => if z = f then some u0 else none) := ⟨oD, esD, epD, by rw [gk dx dne]; exact eD, rD⟩
      have J : Inv X pins σ (upd H1 dx (.xd [(f, y)])) ⟨Gh, g, dr, tk', os⟩ := I1.laid (t' := tk') (a := dx) (o := .xd [(f, y)]) (h' := Gh) kG dn ⟨_, nG, fun z => by
        show RelO ([(f, y)].lookup z) (if z = f then some u0 else none)
        rw [lookup_put]
        by_cases hz : z = f
        · rw [if_pos hz, if_pos hz]; exact ra
        · rw [if_neg hz, if_neg hz]; exact True.intro⟩
      refine ⟨rfl, hp.objs.size + 1, _, _, ⟨Gh, g, dr, tk', os⟩, _, .ref C, some dx, rfl, J, fun b o z => ?_, ge, hx, ⟨rfl, rfl⟩, rfl, rfl, ?_, rfl, I1.bare, raises_own F.o.exC F.o.tyC, q1 dx hnd⟩
      · have hb : b ≠ hp.objs.size + 1 := fun q => by rw [q, ge] at z; cases z
        exact (gk b hb).symm.trans z
      · rw [upd_ne (Ne.symm dne)]
        exact I1.hok.fresh hsz
end
/-! ### the facts, read off the written part -/
def xiTx (f : Str) : FuncBody → Option (Str × Str × Str)
  | .stmts [.Expr (.Call (.Attribute (.Call (.Name s0 _) [] [] _) m ap) [.Constant (.str msg) _ _] [] cp) _, .Assign [.Attribute (.Name sf _) g _] (.Name p _) _] => if s0 = "super" ∧ m = "__init__" ∧ g = f ∧ (ap.endLine == cp.line) = true then some (sf, p, msg) else none
  | _ => none
theorem xiTx_ok {f sf p msg : Str} {b : FuncBody} (h : xiTx f b = some (sf, p, msg)) : ∃ l, b = .stmts l ∧ xiBody sf p f msg l := by
  unfold xiTx at h
  split at h
  · split at h
    · rename_i z
      obtain ⟨e1, e2, e3, e4⟩ := z
      cases h
      subst e1 e2 e3
      exact ⟨_, rfl, _, _, _, _, _, _, _, _, _, _, _, rfl, e4⟩
    · cases h
  · cases h
def oexB (K : PySem.W.Frag) (C : Addr) : Bool := match K.lookup C with
  | some ⟨.type n, _, .cls cd, sl⟩ => (match cd.mro, sl.toList with
    | .ref C' :: bm, [_, _, _, _, some (.builtin z), _] => decide (n = "type") && (decide (C' = C) && (decide (z = "ValueError.__new__") && (!cd.hasDel && (cd.hasDict && HandSPX.refsVE bm))))
    | _, _ => false)
  | _ => false
theorem oexB_ok {K : PySem.W.Frag} {C : Addr} (h : oexB K C = true) : ∃ nm q N bs bm sn sub ab col dd k0 k1 k2 k3 k5, K.lookup C = some (excClassObj nm q C N bs bm true sn sub ab col dd k0 k1 k2 k3 k5 "ValueError.__new__") ∧ HandSPX.refsVE bm = true := by
  unfold oexB at h
  split at h
  · rename_i n dd cd sl ho
    split at h
    · rename_i C' bm k0 k1 k2 k3 z k5 hm hs
      obtain ⟨h1, h⟩ := He.ba h
      obtain ⟨h2, h⟩ := He.ba h
      obtain ⟨h3, h⟩ := He.ba h
      obtain ⟨h4, h⟩ := He.ba h
      obtain ⟨h5, h6⟩ := He.ba h
      have e1 := of_decide_eq_true h1
      have e2 := of_decide_eq_true h2
      have e3 := of_decide_eq_true h3
      subst e1 e2 e3
      obtain ⟨nm, bs, mro, ns, qn, hd, sn, sub, ab, col, del⟩ := cd
      dsimp only at hm h4 h5
      subst hm h5
      have h4 : del = false := by simpa using h4
      subst h4
      have hsl : sl = #[k0, k1, k2, k3, some (.builtin "ValueError.__new__"), k5] := by
        obtain ⟨l⟩ := sl
        simp only at hs
        rw [hs]
      subst hsl
      exact ⟨nm, qn, ns, bs, bm, sn, sub, ab, col, dd, k0, k1, k2, k3, k5, ho, h6⟩
    · cases h
  · cases h
/-- of the class -/
def xiCs (K : PySem.W.Frag) (C : Addr) (f : Str) : Bool := oexB K C && (decide (PySem.W.findIn K (.ref C) "__setattr__" = some (some (.builtin "object.__setattr__"))) && (decide (PySem.W.subIn K (.ref C) (.type "BaseException") = some true) && (decide (PySem.W.typeIn K (.ref C) = some (.type "type"))
  && (PySem.W.keepIn K (.ref C) && (decide (PySem.W.findIn K (.ref C) f = some none) && (decide (PySem.W.ks_superIn K C C "__init__" = some (some (.builtin "ValueError.__init__"))) && (decide (PySem.W.subIn K (.ref C) (.type "ValueError") = some true)
  && (decide (PySem.W.mroIn K C (.ref C) = some true) && (decide (PySem.W.nsIn K mainGlobals "super" = some none) && decide (PySem.W.nsIn K cStatics "thirdparty.any" = some none))))))))))
/-- of the def's scope -/
def xiSc (sf p : Str) (sc : Scope) : Bool := decide (sc.kind = .function) && (!sc.isCoroutine && (!sc.isGenerator && (sc.names.all (fun x => decide (x.2 ≠ .cell)) && (decide (sc.names.lookup sf = some .local) && (decide (sc.names.lookup p = some .local)
  && (decide (sc.names.lookup ("super" : Str) = some .globalImplicit) && (decide (sc.names.lookup ("__class__" : Str) = some .free) && (nmOk sf && nmOk p))))))))
/-- of the def -/
def xiFd (file : Str) (K : PySem.W.Frag) (C : Addr) (sf p : Str) (fd : FuncData) : Bool := argOk fd.params [sf, p] && ((match fd.defaults with
  | .none => true
  | _ => false) && (decide (fd.globals = mainGlobals) && (decide (fd.builtins = builtinsNs) && (PySem.W.codeIn K fd.code fd.qualname && ((match fd.code with
  | .ref c => (match K.lookup c with
    | some ⟨_, _, .fields vs, _⟩ => (match (vs[2]? : Option Value) with
      | some (Value.str fl _) => (file == fl)
      | _ => false)
    | _ => false)
  | _ => false) && (match fd.closure.lookup ("__class__" : Str) with
  | some cc => (match K.lookup cc with
    | some ⟨_, _, .cell (some (.ref D)), _⟩ => decide (D = C)
    | _ => false)
  | none => false))))))
/-- where it stands -/
def xiAt (K : PySem.W.Frag) (C : Addr) : Option (Addr × FuncData) := match PySem.W.findIn K (.ref C) "__init__" with
  | some (some (.ref a)) => (match K.lookup a with
    | some ⟨c, _, .func fd, _⟩ => if c = .type "function" then some (a, fd) else none
    | _ => none)
  | _ => none
def xiB (file : Str) (K : PySem.W.Frag) (C : Addr) (f : Str) : Bool := match xiAt K C with
  | some (_, fd) => (match xiTx f fd.body with
    | some (sf, p, _) => xiCs K C f && (xiSc sf p fd.scope && xiFd file K C sf p fd)
    | none => false)
  | none => false
theorem xiB_ok {P : Program} {file : Str} {K : PySem.W.Frag} {C : Addr} {f : Str} (hf : P.main.file = file) (ht : (P.main.scope.names.lookup ("super" : Str)).isSome = false) (h : xiB file K C f = true) : ∃ fI fd sf p msg b cc cda, XiF P K C f fI fd sf p msg b cc cda := by
  unfold xiB at h
  split at h
  · rename_i fI fd q
    split at h
    · rename_i sf p msg q2
      obtain ⟨b, hb, hb2⟩ := xiTx_ok q2
      obtain ⟨c, h⟩ := He.ba h
      obtain ⟨s, d⟩ := He.ba h
      unfold xiCs at c
      obtain ⟨c1, c⟩ := He.ba c
      obtain ⟨c2, c⟩ := He.ba c
      obtain ⟨c3, c⟩ := He.ba c
      obtain ⟨c4, c⟩ := He.ba c
      obtain ⟨c5, c⟩ := He.ba c
      obtain ⟨c6, c⟩ := He.ba c
      obtain ⟨c7, c⟩ := He.ba c
      obtain ⟨c8, c⟩ := He.ba c
      obtain ⟨c9, c⟩ := He.ba c
      obtain ⟨c10, c11⟩ := He.ba c
      unfold xiSc at s
      obtain ⟨s1, s⟩ := He.ba s
      obtain ⟨s2, s⟩ := He.ba s
      obtain ⟨s3, s⟩ := He.ba s
      obtain ⟨s4, s⟩ := He.ba s
      obtain ⟨s5, s⟩ := He.ba s
      obtain ⟨s6, s⟩ := He.ba s
      obtain ⟨s7, s⟩ := He.ba s
      obtain ⟨s8, s⟩ := He.ba s
      obtain ⟨s9, s10⟩ := He.ba s
      unfold xiFd at d
      obtain ⟨d1, d⟩ := He.ba d
      obtain ⟨d2, d⟩ := He.ba d
      obtain ⟨d3, d⟩ := He.ba d
      obtain ⟨d4, d⟩ := He.ba d
      obtain ⟨d5, d⟩ := He.ba d
      obtain ⟨d6, d7⟩ := He.ba d
      have e2 : fd.defaults = .none := by
        split at d2
        · assumption
        · cases d2
      have e6 : ∃ cda, fd.code = .ref cda ∧ ∃ oc od osl vs fl tf, K.lookup cda = some ⟨oc, od, .fields vs, osl⟩ ∧ vs[2]? = some (.str fl tf) ∧ ((P.main.file : Str) == fl) = true := by
        split at d6
        · rename_i cda z1
          split at d6
          · rename_i z2
            split at d6
            · rename_i z3
              exact ⟨cda, z1, _, _, _, _, _, _, z2, z3, by rw [hf]; exact d6⟩
            · cases d6
          · cases d6
        · cases d6
      have e7 : ∃ cc, fd.closure.lookup ("__class__" : Str) = some cc ∧ ∃ cl cld csl, K.lookup cc = some ⟨cl, cld, .cell (some (.ref C)), csl⟩ := by
        split at d7
        · rename_i cc z1
          split at d7
          · rename_i z2
            have := of_decide_eq_true d7
            subst this
            exact ⟨cc, z1, _, _, _, z2⟩
          · cases d7
        · cases d7
      obtain ⟨cda, x1, x2⟩ := e6
      obtain ⟨cc, y1, y2⟩ := e7
      have hat : PySem.W.findIn K (.ref C) "__init__" = some (some (.ref fI)) ∧ (∃ oc od osl, K.lookup fI = some ⟨oc, od, .func fd, osl⟩) ∧ PySem.W.typeIn K (.ref fI) = some (.type "function") := by
        unfold xiAt at q
        split at q
        · rename_i a z1
          split at q
          · rename_i z2
            split at q
            · rename_i z3
              cases q
              subst z3
              exact ⟨z1, ⟨_, _, _, z2⟩, by show (K.lookup fI).map (·.cls) = _; rw [z2]; rfl⟩
            · cases q
          · cases q
        · cases q
      obtain ⟨a1, a2, a3⟩ := hat
      exact ⟨fI, fd, sf, p, msg, b, cc, cda, ⟨⟨oexB_ok c1, of_decide_eq_true c2, of_decide_eq_true c3, of_decide_eq_true c4, c5⟩, of_decide_eq_true c6, a2, a1, a3, hb, hb2, d1, e2, of_decide_eq_true d3, of_decide_eq_true d4, x1, x2, d5, y1, y2,
        of_decide_eq_true c10, of_decide_eq_true c11, of_decide_eq_true c7, of_decide_eq_true c8, of_decide_eq_true c9, ht, of_decide_eq_true s1, by simpa using s2, by simpa using s3, fun x hx => of_decide_eq_true (List.all_eq_true.mp s4 x hx),
        of_decide_eq_true s5, of_decide_eq_true s6, of_decide_eq_true s7, of_decide_eq_true s8, s9, s10⟩⟩
    · cases h
  · cases h
end KI


set_option Elab.async false
set_option linter.all false
set_option maxRecDepth 100000
set_option autoImplicit false
set_option maxHeartbeats 2000000
/-! What the place of an expression gives. -/
namespace KI
open PySem PySem.Spec PyProof.Rows L2

/-- what a lambda's call does -/
def LamP (P : Program) (w : World) (K : PySem.W.Frag) (mg : Str → Option Value) (base : Heap) (G : En) (k : Nat) : Prop :=
  ∀ (A : Around) (outer : List PySem.Env) (s : Shared) (H : Hp) (f : Addr) (np : Nat) (e : Ex) (cs ds : List D) (us : List Value) (vs : List V) (S : Sto) (ca mu : List Addr) (Q : VK) (E : XK), Room k A → Env0 P w K mg base A outer s H → Wd K G.EE ca mu H S →
    Is K G.EE ca mu H (.ref f) (.clo np e cs) → Vals vs us → IsL K G.EE ca mu H vs ds → ds.length = np → cfL ds = true → stoCf S = true → okR K G.EE G.XA (IsR K G.EE) ca mu H (G.call (.lam e) (ds ++ cs) S) Q E →
      codeAny (model P w) A (.call (.ref f) ⟨us, []⟩) (CR (L2.CX P w) outer P w H s Q E) s
/-- an exception's class -/
structure XcF (K : PySem.W.Frag) (mg : Str → Option Value) (C : Addr) (y : Str) : Prop where
  g : mg y = some (.ref C)
  k : PySem.W.keepIn K (.ref C) = true
  b : PySem.W.subIn K (.ref C) (.type "BaseException") = some true
  t : PySem.W.typeIn K (.ref C) = some (.type "type")
  e : ExcC K C
/-- own classes -/
structure OwnOk (T : Tb) (G : En) (P : Program) (w : World) (K : PySem.W.Frag) (mg : Str → Option Value) (base : Heap) (A : Around) : Prop where
  na : ∀ c f, T.na c f = true → Cls K (G.EE.CA c) ∧ NoAttr K (G.EE.CA c) f
  mt : ∀ c m g n, T.mt c m = some (g, n) → Cls K (G.EE.CA c) ∧ ∃ k ad fd ps, Meth K (G.EE.CA c) m ad ∧ FnOk P w K mg base (L2.CX P w) k ad fd ps (SpF K G g (n + 1)) ∧ Room k A ∧ Binds K fd ps []
  nw : ∀ c y g n, T.nw c = some (y, g, n) → mg y = some (.ref (G.EE.CA c)) ∧ ∃ k ad fd ps, Mk K (G.EE.CA c) ad ∧ FnOk P w K mg base (L2.CX P w) k ad fd ps (SpF K G g (n + 1)) ∧ Room (k + 1) A ∧ Binds K fd ps []
  pr : ∀ c m g, T.pr c m = some g → Cls K (G.EE.CA c) ∧ ∃ k pa ad fd ps, PropOf K (G.EE.CA c) m pa ad ∧ FnOk P w K mg base (L2.CX P w) k ad fd ps (SpF K G g 1) ∧ Room (k + 1) A ∧ Binds K fd ps []
/-- what the place of an expression gives -/
structure CxOk (T : Tb) (G : En) (C : Cc) (W : WX) (X : Cx) : Prop where
  N : X.N = C.N
  nd : X.N.Nodup
  sc : X.env.scope = C.sc
  st : ∀ x, C.ss.names.lookup x = some .cell → X.fn x = true
  calm : C.calm = true → X.calm = true
  un : X.A.units + 65 < cLine
  tk : Takes X W
  tb : T = G.EE.TB
  fn : ∀ f y n, T.fn f = some (y, n) → ∃ k fd ps, FnOk X.prog X.w X.K X.mg X.base (L2.CX X.prog X.w) k (G.EE.FA f) fd ps (SpF X.K G f n) ∧ Room k X.A ∧ X.mg y = some (.ref (G.EE.FA f)) ∧ PySem.W.keepIn X.K (.ref (G.EE.FA f)) = true ∧ Binds X.K fd ps [] ∧ ∃ oc od osl, X.K.lookup (G.EE.FA f) = some ⟨oc, od, .func fd, osl⟩
  ar : ∀ f y n ds S, T.fn f = some (y, n) → ds.length ≠ n → G.call (.glo f) ds S = .no
  lm : ∃ k, LamP X.prog X.w X.K X.mg X.base G k ∧ Room k X.A
  lx : C.lam = true → ∃ c P, X.env.code = .ref c ∧ LamX.TabB X.base X.mg c P ∧ (P, X.env.qual ++ "<lambda>") ∈ G.EE.T ∧ (∀ p ∈ G.EE.T, p.1 = P → p.2 = X.env.qual ++ "<lambda>") ∧ ∀ x, X.fn x = true
  xc : ∀ c y, T.xc c = some y → XcF X.K X.mg (G.XA c) y ∧ (c < 100 → PySem.W.excIn X.K (G.XA c) He.veBase "ValueError.__new__" = true) ∧ ∀ c' y', T.xc c' = some y' → PySem.W.exmOne X.K (.ref (G.XA c')) (.ref (G.XA c)) = some (subX c' c) ∧ PySem.W.kitOne X.K (.ref (G.XA c')) (.ref (G.XA c)) = some (subX c' c)
  cn : ∀ c y, T.cn c = some y → ∃ v u, X.mg y = some u ∧ RelV v u ∧ ∀ ca mu H, Is X.K G.EE ca mu H v (G.cons c)
  bl : ∀ y, T.bl y = true → X.mg y = none
  xi : ∀ c f y, T.xf c = some f → T.xc c = some y → (∃ fI fd sf p msg b cc cda, XiF X.prog X.K (G.XA c) f fI fd sf p msg b cc cda) ∧ Room 1 X.A
  ow : OwnOk T G X.prog X.w X.K X.mg X.base X.A
section
variable {T : Tb} {G : En} {C : Cc} {W : WX} {X : Cx} {x y : Str}
theorem glB_ok (ok : CxOk T G C W X) (h : glB C.sc y = true) : Gl X y := by
  show X.env.scope.names.lookup y = some .globalImplicit
  rw [ok.sc]
  unfold glB at h
  split at h
  · assumption
  · cases h
theorem visB_ok (ok : CxOk T G C W X) (h : visB C.sc y = true) : Vis X.env.scope y := by
  rw [ok.sc]
  unfold visB at h
  split at h
  · exact .inl (by assumption)
  · exact .inr (.inl (by assumption))
  · exact .inr (.inr (by assumption))
  · cases h
theorem locB_ok (ok : CxOk T G C W X) (h : locB C.sc C.ss y = true) : Loc X.env.scope y ∧ (X.fn y = true ∨ X.env.scope.names.lookup y = some .local) := by
  rw [ok.sc]
  unfold locB at h
  split at h
  · exact ⟨.inl (by assumption), .inr (by assumption)⟩
  · split at h
    · exact ⟨.inr (by assumption), .inl (ok.st _ (by assumption))⟩
    · cases h
  · cases h
theorem blk_ok (ok : CxOk T G C W X) (s : Shared) (H : Hp) (scope : Scope) (cl : List (Str × Addr)) (A : Addr) (fp : List Addr) : CxOk T G ⟨C.N, relS scope C.sc, scope, C.calm, false⟩ W0 (X.blk s H scope (compEnvC scope cl A X.env) fp) := by
  refine ⟨ok.N, ok.nd, ?_, fun x h => ?_, ok.calm, ok.un, takes0, ok.tb, ok.fn, ok.ar, ok.lm, (fun z => nomatch z), ok.xc, ok.cn, ok.bl, ok.xi, ok.ow⟩
  · rw [← ok.sc]; rfl
  · show (scope.names.lookup x == some .cell) = true
    have h : scope.names.lookup x = some .cell := h
    rw [h]
    rfl
end
theorem evs_len {cons : Nat → D} {call : Call} : ∀ {es : Exs} {ρ : Env} {S S' : Sto} {ds : List D}, evs cons call es ρ S = .ok ds S' → ds.length = lenEs es
  | .nil, _, _, _, _, h => by cases h; rfl
  | .cons e es, ρ, S, S', ds, h => by
    have h : ((ev cons call e ρ S).bind fun d S => (evs cons call es ρ S).bind fun ds S => Res.ok (d :: ds) S) = .ok ds S' := h
    cases q : ev cons call e ρ S with
    | ok d S1 =>
      rw [q] at h
      have h : ((evs cons call es ρ S1).bind fun ds S => Res.ok (d :: ds) S) = .ok ds S' := h
      cases q2 : evs cons call es ρ S1 with
      | ok ds2 S2 => rw [q2] at h; cases h; rw [List.length_cons, evs_len q2]; rfl
      | exc _ _ => rw [q2] at h; cases h
      | no => rw [q2] at h; cases h
    | exc _ _ => rw [q] at h; cases h
    | no => rw [q] at h; cases h
end KI


set_option Elab.async false
set_option linter.all false
set_option maxRecDepth 100000
set_option autoImplicit false
set_option maxHeartbeats 2000000
/-! Calls of lambdas, calls that are handed one. -/
namespace KI
open PySem PySem.Spec PyProof.Rows L2

section
variable {K : PySem.W.Frag} {EE : Ek} {ca mu ca' mu' : List Addr} {H H' H1 H2 : Hp} {S S' : Sto} {cs : List Addr} {h base : Heap} {fs : List Addr}
theorem ba {a b : Bool} (h : (a && b) = true) : a = true ∧ b = true := Bool.and_eq_true_iff.mp h
/-! ### data without lambdas stands by itself -/
theorem rd_hide {a : Addr} {u : HO} (k : Known cs H) (n : ∀ o', u ≠ .frz o' (.own a)) (n2 : u ≠ .own a) (h : Rd H a u) : Rd (hideC H cs) a u := by
  rcases h with q | ⟨o, q⟩
  · exact .inl (by rw [hideC_out (k.ext q n)]; exact q)
  · exact .inr ⟨o, by rw [hideC_out (k.ext q fun _ z => by cases z; exact n2 rfl)]; exact q⟩
theorem at_hide {a : Addr} {u : HO} (k : Known cs H) (n : ∀ o', u ≠ .frz o' (.own a)) (h : H a = some u) : hideC H cs a = some u := by rw [hideC_out (k.ext h n)]; exact h
mutual
theorem Is.thaw (k : Known cs H) : ∀ (d : D) {v : V}, d.cf = true → Is K EE ca mu H v d → Is K EE ca mu (hideC H cs) v d
  | .non, _, _, h => by cases h; exact .non
  | .bl b, _, _, h => by cases h; exact .bl b
  | .int i, _, _, h => by cases h; exact .int i
  | .str s, _, _, h => by cases h; exact .str s
  | .tup ds, _, c, h => by cases h with | tup h1 h2 => exact .tup (h1.imp (fun z => ⟨rd_hide k (fun _ z => nomatch z) (fun z => nomatch z) z.1, z.2⟩) id) (IsL.thaw k ds c h2)
  | .lst ds, _, c, h => by cases h with | lst h1 h2 h3 => exact .lst (at_hide k (fun _ z => nomatch z) h1) h2 (IsL.thaw k ds c h3)
  | .dic ds, _, c, h => by cases h with | dic h1 h2 h3 => exact .dic (at_hide k (fun _ z => nomatch z) h1) h2 (IsK.thaw k ds c h3)
  | .ro ds, _, c, h => by cases h with | ro h1 h2 => exact .ro (h1.imp (fun z => ⟨rd_hide k (fun _ z => nomatch z) (fun z => nomatch z) z.1, z.2⟩) id) (IsL.thaw k ds c h2)
  | .cell n, _, _, h => by cases h with | cell h => exact .cell h
  | .fn i, _, _, h => by cases h with | fn _ h => exact .fn i h
  | .clo np e ds, _, c, _ => by cases c
theorem IsL.thaw (k : Known cs H) : ∀ (ds : List D) {vs : List V}, cfL ds = true → IsL K EE ca mu H vs ds → IsL K EE ca mu (hideC H cs) vs ds
  | [], _, _, h => by cases h; exact .nil
  | d :: ds, _, c, h => by
    obtain ⟨c1, c2⟩ := Bool.and_eq_true_iff.mp (show (d.cf && cfL ds) = true from c)
    cases h with | cons h1 h2 => exact .cons (Is.thaw k d c1 h1) (IsL.thaw k ds c2 h2)
theorem IsK.thaw (k : Known cs H) : ∀ (ds : List (Key × D)) {vs : List (Key × V)}, cfK ds = true → IsK K EE ca mu H vs ds → IsK K EE ca mu (hideC H cs) vs ds
  | [], _, _, h => by cases h; exact .nil
  | (_, d) :: ds, _, c, h => by
    obtain ⟨c1, c2⟩ := Bool.and_eq_true_iff.mp (show (d.cf && cfK ds) = true from c)
    cases h with | cons h1 h2 => exact .cons (Is.thaw k d c1 h1) (IsK.thaw k ds c2 h2)
end
theorem chg_ne {o : HO} {a : Addr} (h : chg o = true) : ∀ o', o ≠ .frz o' (.own a) := fun o' z => by rw [z] at h; cases h
theorem Wd.thaw (k : Known cs H) (w : Wd K EE ca mu H S) (c : stoCf S = true) : Wd K EE ca mu (hideC H cs) S := by
  refine ⟨w.len, w.nd, fun n a o h1 h2 => ?_, fun a ha => ?_, fun p hp => ?_, fun a ha => ?_⟩
  · have r := w.ob n a o h1 h2
    have co : o.cf = true := List.all_eq_true.mp c o (List.mem_of_getElem? h2)
    cases o with
    | lst xs => obtain ⟨q1, vs, q2, q3⟩ := r; exact ⟨q1, vs, at_hide k (fun _ z => nomatch z) q2, IsL.thaw k _ co q3⟩
    | dct xs => obtain ⟨q1, vs, q2, q3⟩ := r; exact ⟨q1, vs, at_hide k (fun _ z => nomatch z) q2, IsK.thaw k _ co q3⟩
    | ins c xs => obtain ⟨q1, dx, vs, q2, q3, q4⟩ := r; exact ⟨q1, dx, vs, at_hide k (fun _ z => nomatch z) q2, q3, IsL.thaw k _ co q4⟩
    | dead => trivial
  · obtain ⟨o, e, g⟩ := w.tm a ha
    exact ⟨o, at_hide k (chg_ne g) e, g⟩
  · obtain ⟨ps, h1, h2, h3⟩ := w.tb p hp
    refine ⟨ps, at_hide k (fun _ z => nomatch z) h1, h2, fun pos cv hc => ?_⟩
    obtain ⟨c, e1, e2⟩ := h3 pos cv hc
    exact ⟨c, e1, at_hide k (fun _ z => nomatch z) e2⟩
  · obtain ⟨o, e, g⟩ := w.tc a ha
    exact ⟨o, at_hide k (chg_ne g) e, g⟩
/-! ### the cells told -/
theorem Cels.ext (C : Cels cs H h base fs) : Ext ca mu H ca mu (tell H h cs) :=
  ⟨⟨[], by simp, fun _ z => nomatch z⟩, fun _ z => .inl z, fun a o e _ _ => C.tl e, fun a n => by
    cases q : H a with
    | none => exact absurd q n
    | some o => rw [C.tl q]; simp, fun _ z _ _ => z⟩
theorem Cels.wd (C : Cels cs H h base fs) (w : Wd K EE ca mu H S) : Wd K EE ca mu (tell H h cs) S := by
  refine ⟨w.len, w.nd, fun n a o h1 h2 => (w.ob n a o h1 h2).ext C.ext id fun hm => ?_, fun a ha => ?_, w.tb.ext fun b o e => C.tl e, fun a ha => ?_⟩
  · obtain ⟨o', e, _⟩ := w.tm a hm
    rw [C.tl e, e]
  · obtain ⟨o, e, g⟩ := w.tm a ha
    exact ⟨o, C.tl e, g⟩
  · obtain ⟨o, e, g⟩ := w.tc a ha
    exact ⟨o, C.tl e, g⟩
/-! ### known again -/
theorem patch_ext (k : Known cs H) (w : Wd K EE ca mu H S) (x : Ext ca mu (hideC H cs) ca' mu' H') (w' : Wd K EE ca' mu' H' S') (n : ∀ c ∈ cs, H' c = none) :
    Ext ca mu H ca' mu' (patch H' H cs) ∧ Ext ca' mu' H' ca' mu' (patch H' H cs) ∧ Wd K EE ca' mu' (patch H' H cs) S' := by
  have out : ∀ a o, H' a = some o → a ∉ cs := fun a o e z => by rw [n a z] at e; cases e
  have up : ∀ a o, H' a = some o → patch H' H cs a = some o := fun a o e => by rw [patch_out (out a o e)]; exact e
  have y : Ext ca' mu' H' ca' mu' (patch H' H cs) := ⟨⟨[], by simp, fun _ z => nomatch z⟩, fun _ z => .inl z, fun a o e _ _ => up a o e, fun a q => by
    cases e : H' a with
    | none => exact absurd e q
    | some o => rw [up a o e]; simp, fun _ z _ _ => z⟩
  refine ⟨⟨?_, fun a h => ?_, fun a o e t q => ?_, fun a q => ?_, fun a h1 h2 h3 => x.fb a h1 h2 ?_⟩, y, ⟨w'.len, w'.nd, fun n a o h1 h2 => (w'.ob n a o h1 h2).ext y id fun hm => ?_, fun a ha => ?_, w'.tb.ext up, fun a ha => ?_⟩⟩
  · obtain ⟨nw, e, f⟩ := x.pre
    refine ⟨nw, e, fun a h => ?_⟩
    obtain ⟨o, e2, _⟩ := w'.tc a (by rw [e]; exact List.mem_append_right _ h)
    have := f a h
    rw [hideC_out (out a o e2)] at this
    exact this
  · rcases x.mus a h with q | q
    · exact .inl q
    · obtain ⟨o, e2, _⟩ := w'.tm a h
      rw [hideC_out (out a o e2)] at q
      exact .inr q
  · by_cases z : a ∈ cs
    · rw [patch_in z]; exact e
    · rw [patch_out z]; exact x.kp a o (by rw [hideC_out z]; exact e) t q
  · by_cases z : a ∈ cs
    · rw [patch_in z]; exact q
    · rw [patch_out z]; exact x.tr a (by rw [hideC_out z]; exact q)
  · obtain ⟨o, e, g⟩ := w.tm a h1
    rw [at_hide k (chg_ne g) e]
    simp
  · obtain ⟨o', e, _⟩ := w'.tm a hm
    rw [up a o' e, e]
  · obtain ⟨o, e, g⟩ := w'.tm a ha
    exact ⟨o, up a o e, g⟩
  · obtain ⟨o, e, g⟩ := w'.tc a ha
    exact ⟨o, up a o e, g⟩
end
theorem argOk_okL {p : Arguments} {qual : Str} {body : Expr} {scope : Scope} {cl : List (Str × Addr)} (h : argOk p (p.args.map (·.arg)) = true) (pm cdv ct : Value) (us : List Value) (hl : us.length = (p.args.map (·.arg)).length) :
    bindArgs (PySem.W.kla_fn "<lambda>" qual p body scope cl pm cdv ct) ⟨us, []⟩ = pure ((p.args.map (·.arg)).zip us) := by
  obtain ⟨h1, h7⟩ := ba h
  obtain ⟨h1, h6⟩ := ba h1
  obtain ⟨h1, h5⟩ := ba h1
  obtain ⟨h1, h4⟩ := ba h1
  obtain ⟨h1, h3⟩ := ba h1
  obtain ⟨h1, h2⟩ := ba h1
  obtain ⟨a, b, c, d, e, f, g⟩ := p
  cases a with
  | cons _ _ => cases h1
  | nil =>
  cases c with
  | some _ => cases h2
  | none =>
  cases d with
  | cons _ _ => cases h3
  | nil =>
  cases f with
  | some _ => cases h4
  | none =>
  cases g with
  | cons _ _ => cases h5
  | nil => exact bind_plainL (of_decide_eq_true h7) pm cdv ct us hl
/-- a lambda's own names -/
def LF.nf (F : LF) : NdefX.NF := ⟨"<lambda>", F.qual, F.params, [], F.scope, F.cl, F.c⟩
/-- the wants of a lambda's body -/
abbrev lamCc (F : LF) (fr : List Str) : Cc := ⟨F.params.args.map (·.arg) ++ fr, F.scope, F.scope, true, false⟩
/-- the cells' values, of what Is tells -/
theorem cells_at {P : Program} {w : World} {H : Hp} {h : Heap} {mu : List Addr} {cl : List (Str × Addr)} {fr : List Str} {vs : List V} (C : CelsAt mu H cl fr vs) (x : HOk P w H h) : Known (cl.map (·.2)) H ∧ NdefX.CellsAt cl fr (vs.map some) h (hideC H (cl.map (·.2))) := by
  have mem : ∀ {y c}, cl.lookup y = some c → c ∈ cl.map (·.2) := fun {y c} e => List.mem_map.mpr ⟨(y, c), PySem.mem_of_lookup e, rfl⟩
  refine ⟨fun c hc => (C.all c hc).2, by rw [List.length_map]; exact C.len, fun y c e => ?_, C.inj, fun i y e => ?_⟩
  · obtain ⟨_, o, u, e1, e2⟩ := C.all c (mem e)
    exact ⟨hideC_in (mem e), u, o, (x c _ e1).1, e2⟩
  · obtain ⟨c, o, u, v, e1, e2, e3, e4, e5⟩ := C.has i y e
    refine ⟨c, e1, fun v' ev => ?_⟩
    rw [List.getElem?_map, e4] at ev
    cases ev
    exact ⟨u, e5, o, (x c _ e2).1, e3⟩
theorem lam_start {K : PySem.W.Frag} {EE : Ek} {ca mu : List Addr} {H : Hp} {N : List Str} {vs ws : List V} {ds cs : List D} (h : IsL K EE ca mu H vs ds) (g : IsL K EE ca mu H ws cs) (hN : N.length = vs.length + ws.length) : RE K EE ca mu H (NdefX.startF N vs (ws.map some)) ((ds ++ cs).map some) := by
  have e : NdefX.startF N vs (ws.map some) = (vs ++ ws).map some := by
    unfold NdefX.startF
    rw [List.length_map, show N.length - vs.length - ws.length = 0 by omega, List.replicate_zero, List.append_nil, List.map_append]
  rw [e]
  have hl := h.append g
  refine ⟨by rw [List.length_map, List.length_map, hl.length], fun i d q => ?_⟩
  rw [List.getElem?_map] at q
  cases z : (ds ++ cs)[i]? with
  | none => rw [z] at q; cases q
  | some d' =>
    rw [z] at q
    cases q
    obtain ⟨v, e1, e2⟩ := hl.get z
    exact ⟨v, by rw [List.getElem?_map, e1]; rfl, e2⟩
/-- a lambda's promise, by its body's reading -/
theorem lamP_of {P : Program} {w : World} {K : PySem.W.Frag} {mg : Str → Option Value} {base : Heap} {G G' : En} {k : Nat} (hE : G'.EE = G.EE) (hX : G'.XA = G.XA) (hc : ∀ e ds S, G'.call (.lam e) ds S = ev G.cons G.call e (ds.map some) S)
    (hb : ∀ (A : Around) (outer : List PySem.Env) (s : Shared) (H : Hp) (f : Addr) (F : LF) (fr : List Str) (e : Ex) (E : XK), Room k (A.deeper (NdefX.envF F.nf f s.heap.objs.size)) → (F.params.args.map (·.arg) ++ fr).Nodup → (∀ y, F.scope.names.lookup y ≠ some .cell) → chkE G.EE.TB (lamCc F fr) e F.body = true →
      PE (NdefX.ncx (L2.CX P w) P w K mg base (F.params.args.map (·.arg) ++ fr) F.nf f A outer s H E) F.body (RdE K G (fun cls d _ H => E cls d H) e)) : LamP P w K mg base G' (k + 1) := by
  intro A outer s H f np e cs ds us vs S ca mu Q E hr e0 wd i r iL hl cd cS h
  cases i with
  | @clo _ _ F _ _ fr ws _ h1 h2 h3 h4 h5 h6 h7 =>
  rw [hE] at wd h7 iL h5
  rw [hE, hX, hc] at h
  obtain ⟨g1, g4⟩ := ba h5
  obtain ⟨g1, g3⟩ := ba g1
  obtain ⟨g1, g2⟩ := ba g1
  have sc := NdefX.nscope_by g3
  have hps : (F.params.args.map (·.arg)).length = np := of_decide_eq_true g2
  have hvl : vs.length = (F.params.args.map (·.arg)).length := by rw [iL.length, hl, hps]
  obtain ⟨kn, CA⟩ := cells_at h6 e0.hok
  have nf : ∀ c ∈ F.cl.map (·.2), c ∉ frs outer := fun c hc z => by
    obtain ⟨o, u, q, _⟩ := kn c hc
    rw [e0.frf c z] at q
    cases q
  obtain ⟨od, sl, pm, ctv, ho⟩ := (e0.hok f _ h1).1
  obtain ⟨oc, wvs, t, r1, r2, r3⟩ := (e0.hok _ _ h3).1
  have e1 := env0_hide kn e0
  have lim : s.heap.NoLimit := e0.mod.nolimit.keeps fun b o e => (e0.bs b o e).1
  suffices H0 : codeAny (model P w) A (.call (.ref f) ⟨us, []⟩) (CR (L2.CX P w) outer P w (hideC H (F.cl.map (·.2))) s (fun v H' => (∀ c ∈ F.cl.map (·.2), H' c = none) → Q v (patch H' H (F.cl.map (·.2)))) (fun cls d H' => (∀ c ∈ F.cl.map (·.2), H' c = none) → E cls d (patch H' H (F.cl.map (·.2))))) s by
    refine codeAny_mono H0 fun r s' hq => ?_
    cases r with
    | error e => exact cx_patch kn e0.hok nf hq
    | ok fl =>
      cases fl with
      | ret u => exact ce_patch kn e0.hok nf hq
      | next => exact False.elim hq
      | brk => exact False.elim hq
      | cont => exact False.elim hq
  refine PySem.W.kla_callFunE hr.depth ho rfl sc.co sc.gen rfl ⟨F.c, oc, wvs, t, rfl, r1, r2, r3⟩ ?_
  rw [show bindArgs (PySem.W.kla_fn "<lambda>" F.qual F.params F.body F.scope F.cl pm (.ref F.c) ctv) ⟨us, []⟩ = pure ((F.params.args.map (·.arg)).zip us) from argOk_okL g1 pm (.ref F.c) ctv us (by rw [← r.length, hvl])]
  refine wpAny_pure (wpAny_newFunctionEnv sc.nocell (fun ⟨n, _⟩ hy => sc.par n (List.of_mem_zip hy).1) (fun h₁ hns hsb => ⟨lim.fresh _ hsb, ?_⟩) sc.kind)
  show codeAny _ _ (.expr F.body (NdefX.envF F.nf f s.heap.objs.size)) _ _
  have kp : ∀ b o, s.heap.get? b = some o → h₁.get? b = some o := fun b o e => hsb.extBut b o (Nat.ne_of_lt (Heap.lt_size e)) (Heap.get?_push_of_some _ e)
  have I := NdefX.inv_startN (CX := L2.CX P w) (f := f) (E := fun cls d H' => (∀ c ∈ F.cl.map (·.2), H' c = none) → E cls d (patch H' H (F.cl.map (·.2)))) (tk := s.toks + ((F.params.args.map (·.arg)).zip us).length) (F := F.nf) sc hr.hd e1 hvl r CA hns kp
  have J := hb A outer s (hideC H (F.cl.map (·.2))) f F fr e (fun cls d H' => (∀ c ∈ F.cl.map (·.2), H' c = none) → E cls d (patch H' H (F.cl.map (·.2)))) (hr.deeper _) sc.nd (fun y q => absurd rfl (sc.nocell _ (PySem.mem_of_lookup q))) g4
  have wd1 := Wd.thaw kn wd cS
  refine PySem.W.kla_codeExpr (wpAny_mono (J.run [] _ _ _ (fun v H' => (∀ c ∈ F.cl.map (·.2), H' c = none) → Q v (patch H' H (F.cl.map (·.2)))) I ⟨ca, mu, _, S, wd1, lam_start (IsL.thaw kn ds cd iL) h7 (by rw [List.length_append, hvl, h6.len]), ?_⟩) (fun v s' hq => ?_) fun e s' hq => hq)
  · cases q : ev G.cons G.call e ((ds ++ cs).map some) S with
    | ok d S' =>
      rw [q] at h
      intro b ca' mu' H' x w' i' n
      obtain ⟨x1, x2, w2⟩ := patch_ext kn wd x w' n
      exact h b ca' mu' _ x1 w2 (i'.ex x2)
    | exc y S' =>
      rw [q] at h
      intro cls dd ca' mu' H' x w' i' n
      obtain ⟨x1, x2, w2⟩ := patch_ext kn wd x w' n
      refine h cls dd ca' mu' _ x1 w2 ⟨i'.1, ?_⟩
      have i2 := i'.2
      cases hfs : y.fs with
      | nil => rw [hfs] at i2; exact i2
      | cons a as =>
        rw [hfs] at i2
        obtain ⟨d, vs, g1, g2, g3, g4, g5⟩ := i2
        exact ⟨d, vs, g1, g2, x2.kp d _ g3 (fun _ z => nomatch z) (fun z => g2 z.2), g4, g5.ex x2⟩
    | no => rw [q] at h; exact h
  · obtain ⟨w', H', J', rv, q⟩ := hq
    exact ⟨w', H', J'.os, J'.bare, J'.base, J'.hok, rv, q⟩
end KI


set_option Elab.async false
set_option linter.all false
set_option maxRecDepth 100000
set_option autoImplicit false
set_option maxHeartbeats 2000000
/-! A call of what a slot holds; a call whose last argument is a lambda; defs as values; len(set(..)). -/
namespace KI
open PySem PySem.Spec PyProof.Rows L2 RZ

section
variable {T : Tb} {G : En} {C : Cc} {W : WX} {X : Cx} {p pos : Pos} {x : Str}
/-- what a function value's call gives -/
theorem run_app (ok : CxOk T G C W X) {pins : List (Addr × Obj)} {σ : L2.St} {H : Hp} {s : Shared} {Q : VK} {us : List Value} {vs : List V} {ds : List D} {f : Addr} {d : D} {S : Sto} {ca mu : List Addr} (I : Inv X pins σ H s) (wd : Wd X.K G.EE ca mu H S)
    (i : Is X.K G.EE ca mu H (.ref f) d) (r : Vals vs us) (iL : IsL X.K G.EE ca mu H vs ds) (h : okR X.K G.EE G.XA (IsR X.K G.EE) ca mu H (app G.call d ds S) Q (fun c d H' => W c d σ H')) : wpAny (model X.prog X.w) X.A (call (.ref f) us) (EP X pins σ Q) X.xe s := by
  cases i with
  | fn i hi =>
    rw [← ok.tb] at hi
    cases q : T.fn i with
    | none => rw [q] at hi; cases hi
    | some yn =>
      obtain ⟨y, n⟩ := yn
      obtain ⟨k, fd, ps, F, hr, hm, hk, hb, _⟩ := ok.fn i y n q
      have h : okR X.K G.EE G.XA (IsR X.K G.EE) ca mu H (G.call (.glo i) ds S) Q (fun c d H' => W c d σ H') := h
      have hn : ds.length = n := Decidable.byContradiction fun z => by rw [ok.ar i y n ds S q z] at h; exact h
      exact run_fnS (E := WE W) F hr hb (passAt ok.tk σ) I r ⟨by rw [iL.length]; exact hn, ca, mu, ds, S, wd, iL, h⟩
  | @clo _ _ F np e fr ws cs h1 h2 h3 h4 h5 h6 h7 =>
    have h : okR X.K G.EE G.XA (IsR X.K G.EE) ca mu H (if ds.length = np ∧ cfL ds = true ∧ stoCf S = true then G.call (.lam e) (ds ++ cs) S else .no) Q (fun c d H' => W c d σ H') := h
    split at h
    · rename_i z
      obtain ⟨z1, z2, z3⟩ := z
      obtain ⟨k, lp, hr⟩ := ok.lm
      refine wpAny_call (codeAny_mono (lp X.A X.stack s H f np e cs ds us vs S ca mu Q (WE W σ) hr I.env0 wd (.clo h1 h2 h3 h4 h5 h6 h7) r iL z1 z2 z3 h) fun r s' hq => ?_)
      cases r with
      | error e => exact passAt ok.tk σ pins H s e s' I hq
      | ok fl =>
        cases fl with
        | ret u => exact I.after hq
        | next => exact False.elim hq
        | brk => exact False.elim hq
        | cont => exact False.elim hq
    · exact h.elim
  | _ => exact h.elim
/-- a function value may be called -/
theorem fn_at (ok : CxOk T G C W X) {pins : List (Addr × Obj)} {σ : L2.St} {H : Hp} {s : Shared} {f : Addr} {d : D} {ca mu : List Addr} (I : Inv X pins σ H s) (i : Is X.K G.EE ca mu H (.ref f) d) (hd : isFn d = true) : PySem.W.FnAt f s.heap := by
  cases i with
  | fn i hi =>
    rw [← ok.tb] at hi
    cases q : T.fn i with
    | none => rw [q] at hi; cases hi
    | some yn =>
      obtain ⟨k, fd, ps, F, hr, hm, hk, hb, oc, od, osl, lk⟩ := ok.fn i yn.1 yn.2 q
      exact ⟨oc, od, fd, osl, I.kIn _ _ lk⟩
  | @clo _ _ F np e fr ws cs h1 h2 h3 h4 h5 h6 h7 =>
    obtain ⟨od, sl, pm, ctv, ho⟩ := (I.hok f _ h1).1
    exact ⟨_, _, _, _, ho⟩
  | _ => cases hd
theorem snd_callv {i : Nat} {as : Exs} {ea : Expr} {es : List Expr} (ok : CxOk T G C W X) (hN : X.N[i]? = some x) (hv : Vis X.env.scope x) (hs : PA X (ea :: es) (RdA X.K G W as)) (hne : notStar ea = true) (hn : ∀ e ∈ es, notStar e = true)
    (hd : (x == ("__debug__" : Str)) = false) (hcd : (x == ("__classdict__" : Str)) = false) : PE X (.Call (.Name x p) (ea :: es) [] pos) (RdE X.K G W (.callv i as)) := by
  refine ⟨fun pins s σ H Q I h => ?_⟩
  obtain ⟨ca, mu, ρ, S, w, re, h⟩ := h
  have h : okR X.K G.EE G.XA (IsR X.K G.EE) ca mu H (match ρ[i]? with
    | some (some d) => if isFn d = true then (evs G.cons G.call as ρ S).bind fun ds S => app G.call d ds S else .no
    | _ => .no) Q (fun c d H' => W c d σ H') := h
  cases qi : ρ[i]? with
  | none => rw [qi] at h; exact h.elim
  | some o =>
    cases o with
    | none => rw [qi] at h; exact h.elim
    | some d =>
      rw [qi] at h
      have h : okR X.K G.EE G.XA (IsR X.K G.EE) ca mu H (if isFn d = true then (evs G.cons G.call as ρ S).bind fun ds S => app G.call d ds S else .no) Q (fun c d H' => W c d σ H') := h
      split at h
      · rename_i hd1
        obtain ⟨v, e1, i1⟩ := re.at_ i d qi
        obtain ⟨f, rfl⟩ : ∃ f, v = .ref f := by
          cases i1 <;> first | exact ⟨_, rfl⟩ | cases hd1
        refine wpAny_Call_Name_kw (thn ((pe_var (pos := p) hN hv hd hcd).run pins s σ H (fun v H1 => v = .ref f ∧ H1 = H) I ⟨.ref f, e1, rfl, rfl⟩) fun u s1 ⟨v, H1, I1, r1, q1⟩ => ?_)
        obtain ⟨ev', eH⟩ := q1
        subst ev'
        rw [eH] at I1
        obtain rfl : u = Value.ref f := r1
        have hA := hs.run pos pins s1 σ H (fun vs H2 => ∃ ca2 mu2 ds S2, Ext ca mu H ca2 mu2 H2 ∧ Wd X.K G.EE ca2 mu2 H2 S2 ∧ IsL X.K G.EE ca2 mu2 H2 vs ds ∧ okR X.K G.EE G.XA (IsR X.K G.EE) ca2 mu2 H2 (app G.call d ds S2) Q (fun c d H' => W c d σ H')) I1 ⟨ca, mu, ρ, S, w, re, okR.bind h fun ds S2 vs ca2 mu2 H2 _ x w2 i2 h2 => ⟨ca2, mu2, ds, S2, x, w2, i2, h2⟩⟩
        refine PySem.W.callWith_F (first := []) (fn_at ok I1 i1 hd1) (thn hA fun us s2 hh => ?_) (star_ne hne es X.env) (plain_back (e := ea) hn pos X.env)
        obtain ⟨vs, H2, I2, r2, ca2, mu2, ds, S2, x, w2, iL, h2⟩ := hh
        exact ⟨fn_at ok I2 (i1.ex x) hd1, run_app ok I2 w2 (i1.ex x) r2 iL h2⟩
      · exact h.elim
theorem snd_callv0 {i : Nat} (ok : CxOk T G C W X) (hN : X.N[i]? = some x) (hv : Vis X.env.scope x) (hd : (x == ("__debug__" : Str)) = false) (hcd : (x == ("__classdict__" : Str)) = false) : PE X (.Call (.Name x p) [] [] pos) (RdE X.K G W (.callv i .nil)) := by
  refine ⟨fun pins s σ H Q I h => ?_⟩
  obtain ⟨ca, mu, ρ, S, w, re, h⟩ := h
  have h : okR X.K G.EE G.XA (IsR X.K G.EE) ca mu H (match ρ[i]? with
    | some (some d) => if isFn d = true then app G.call d [] S else .no
    | _ => .no) Q (fun c d H' => W c d σ H') := h
  cases qi : ρ[i]? with
  | none => rw [qi] at h; exact h.elim
  | some o =>
    cases o with
    | none => rw [qi] at h; exact h.elim
    | some d =>
      rw [qi] at h
      have h : okR X.K G.EE G.XA (IsR X.K G.EE) ca mu H (if isFn d = true then app G.call d [] S else .no) Q (fun c d H' => W c d σ H') := h
      split at h
      · rename_i hd1
        obtain ⟨v, e1, i1⟩ := re.at_ i d qi
        obtain ⟨f, rfl⟩ : ∃ f, v = .ref f := by
          cases i1 <;> first | exact ⟨_, rfl⟩ | cases hd1
        refine wpAny_Call_Name_kw (thn ((pe_var (pos := p) hN hv hd hcd).run pins s σ H (fun v H1 => v = .ref f ∧ H1 = H) I ⟨.ref f, e1, rfl, rfl⟩) fun u s1 ⟨v, H1, I1, r1, q1⟩ => ?_)
        obtain ⟨ev', eH⟩ := q1
        subst ev'
        rw [eH] at I1
        obtain rfl : u = Value.ref f := r1
        refine PySem.W.callWith_F0 (first := []) (fn_at ok I1 i1 hd1) ?_
        exact run_app ok I1 w i1 .nil .nil h
      · exact h.elim
/-! ### a def as a value -/
theorem snd_fnv {f n : Nat} (ok : CxOk T G C W X) (hf : T.fn f = some (x, n)) (hg : Gl X x) (hd : (x == ("__debug__" : Str)) = false) : PE X (.Name x pos) (RdE X.K G W (.fnv f)) := by
  obtain ⟨k, fd, ps, F, hr, hm, hk, hb, _⟩ := ok.fn f x n hf
  exact PEimp (pe_glob hg hm (v := .ref (G.EE.FA f)) rfl hd) fun σ H Q ⟨ca, mu, ρ, S, w, re, h⟩ => got w (.fn f (by rw [← ok.tb, hf]; rfl)) h
/-! ### len(set(..)) -/
theorem snd_nset {a : Ex} {ea : Expr} {p2 q : Pos} (hc : X.calm = true) (hg : Gl X "len") (hm : X.mg "len" = none) (hg2 : Gl X "set") (hm2 : X.mg "set" = none) (ha : PE X ea (RdE X.K G W a)) (hn : notStar ea = true) :
    PE X (.Call (.Name "len" p) [.Call (.Name "set" p2) [ea] [] q] [] pos) (RdE X.K G W (.nset a)) :=
  PEimp (pe_lenSetI hg hm hg2 hm2 ha hc (star_ne hn _ _)) fun σ H Q ⟨ca, mu, ρ, S, w, re, h⟩ => step w re h fun d S1 v ca1 mu1 H1 e1 w1 re1 i1 h1 => by
    cases i1 with
    | @lst _ l vs xs g1 g2 g3 =>
      have h1 : okR X.K G.EE G.XA (IsR X.K G.EE) ca1 mu1 H1 (lift (match intsD xs with
        | some ns => if ns.Nodup ∧ ns.length ≤ 4000 then some (D.int ns.length) else none
        | none => none) S1) Q (fun c d H' => W c d σ H') := h1
      cases qi : intsD xs with
      | none => rw [qi] at h1; exact h1.elim
      | some ns =>
        rw [qi] at h1
        have h1 : okR X.K G.EE G.XA (IsR X.K G.EE) ca1 mu1 H1 (lift (if ns.Nodup ∧ ns.length ≤ 4000 then some (D.int ns.length) else none) S1) Q (fun c d H' => W c d σ H') := h1
        split at h1
        · rename_i z
          exact ⟨l, ns, rfl, by rw [← intsD_ok g3 qi]; exact SqL.of g1, z.1, z.2, got w1 (.int _) h1⟩
        · exact h1.elim
    | _ => exact h1.elim
/-! ### list(range(..)) -/
theorem isL_rgV {K : PySem.W.Frag} {EE : Ek} {ca mu : List Addr} {H : Hp} : ∀ (n : Nat) (i : Int), IsL K EE ca mu H ((List.range n).map fun (t : Nat) => V.int (i + t)) (rngL i n)
  | 0, i => .nil
  | n + 1, i => by
    rw [List.range_succ_eq_map, List.map_cons, List.map_map]
    have e : ((fun (t : Nat) => V.int (i + t)) ∘ Nat.succ) = fun (t : Nat) => V.int (i + 1 + t) := by
      funext t
      show V.int (i + ((t + 1 : Nat) : Int)) = _
      congr 1
      omega
    rw [e]
    have h0 : i + ((0 : Nat) : Int) = i := by omega
    rw [h0]
    exact .cons (.int i) (isL_rgV n (i + 1))
theorem snd_rngl {a b : Ex} {ea eb : Expr} {p2 q : Pos} (hc : X.calm = true) (hg : Gl X "list") (hm : X.mg "list" = none) (hg2 : Gl X "range") (hm2 : X.mg "range" = none) (ha : PE X ea (RdE X.K G W a)) (hb : PE X eb (RdE X.K G W b)) (hn : notStar ea = true) (hn2 : notStar eb = true) :
    PE X (.Call (.Name "list" p) [.Call (.Name "range" p2) [ea, eb] [] q] [] pos) (RdE X.K G W (.rngl a b)) :=
  PEimp (pe_listRg hc hg hm (prg_2 hg2 hm2 ha hb (star_ne hn _ _) (star_ne hn2 _ _) (by rw [star_ne hn2]; rfl))) fun σ H Q ⟨ca, mu, ρ, S, w, re, h⟩ => step w re h fun d S1 v ca1 mu1 H1 e1 w1 re1 i1 h1 => step w1 re1 h1 fun d2 S2 v2 ca2 mu2 H2 e2 w2 re2 i2 h2 => by
    cases i1 with
    | int i =>
      cases i2 with
      | int j =>
        have h2 : okR X.K G.EE G.XA (IsR X.K G.EE) ca2 mu2 H2 (if rngOk i && rngOk j && decide ((j - i).toNat ≤ LN) then .ok (.lst (rngL i (j - i).toNat)) S2 else .no) Q (fun c d H' => W c d σ H') := h2
        split at h2
        · rename_i z
          obtain ⟨z, z3⟩ := ba z
          obtain ⟨z1, z2⟩ := ba z
          have b1 := rngOk_ok z1
          have b2 := rngOk_ok z2
          have b3 := of_decide_eq_true z3
          have b3 : (j - i).toNat ≤ 2 ^ 24 := b3
          exact ⟨i, j, rfl, rfl, ⟨b1.1, b1.2, b2.1, b2.2, b3⟩, newL w2 (isL_rgV _ i) h2⟩
        · exact h2.elim
      | _ => exact h2.elim
    | _ => first | exact h1.elim | (cases i2 <;> exact h2.elim)
/-! ### a call that is handed a lambda -/
/-- a lambda made -/
def tLam (Tt : List (Addr × Str)) (mk : Addr → LF) : TE := fun σ H Q => LamX.Tabs Tt H ∧ ∀ f c' H1, Made Tt H f (mk c') H1 → Q (.ref f) H1
theorem pe_lam {c P : Addr} {params : Arguments} {body : Expr} {scope : Scope} (TB : LamX.TabB X.base X.mg c P) (hcode : X.env.code = .ref c) (hm : (P, X.env.qual ++ "<lambda>") ∈ G.EE.T) (hu : ∀ p ∈ G.EE.T, p.1 = P → p.2 = X.env.qual ++ "<lambda>") (hdef : defaultsOf params X.env = ([], []))
    (hfree : ∀ y ∈ scope.names, y.2 = .free → X.env.scope.names.lookup y.1 = some .cell ∨ X.env.scope.names.lookup y.1 = some .free) :
    PE X (.Lambda params body scope pos) (tLam G.EE.T fun c' => ⟨X.env.qual ++ "<lambda>", params, body, scope, cloFrom X.env.cells scope.names [], c'⟩) := by
  refine ⟨fun pins s σ H Q I ⟨hT, h⟩ => ?_⟩
  exact lam_obj I TB hcode hm hu hT hdef (fun y hy e => (hfree y hy e).elim (fun z => I.ok.has _ (.inl z)) fun z => I.ok.has _ (.inr z)) fun f c' H1 s' I1 m => ⟨.ref f, H1, I1, rfl, h f c' H1 m⟩
/-- the arguments, the last one a lambda -/
def tArgs (K : PySem.W.Frag) (G : En) (W : WX) (tl : TE) : Exs → TA
  | .nil => tCons tl tNil
  | .cons a es => tCons (RdE K G W a) (tArgs K G W tl es)
theorem tArgs_of {K : PySem.W.Frag} {tl : TE} {σ : L2.St} {ρ : Env} : ∀ (es : Exs) {H : Hp} {S : Sto} {ca mu : List Addr} {Q : List V → Hp → Prop}, Wd K G.EE ca mu H S → RE K G.EE ca mu H σ ρ →
    okR K G.EE G.XA (IsLR K G.EE) ca mu H (evs G.cons G.call es ρ S) (fun vs H1 => tl σ H1 fun v H2 => Q (vs ++ [v]) H2) (fun c d H' => W c d σ H') → tArgs K G W tl es σ H Q
  | .nil, H, S, ca, mu, Q, w, re, h => h [] ca mu H Ext.refl w .nil
  | .cons a es, H, S, ca, mu, Q, w, re, h => by
    have h : okR K G.EE G.XA (IsLR K G.EE) ca mu H ((ev G.cons G.call a ρ S).bind fun d S => (evs G.cons G.call es ρ S).bind fun ds S => Res.ok (d :: ds) S) (fun vs H1 => tl σ H1 fun v H2 => Q (vs ++ [v]) H2) (fun c d H' => W c d σ H') := h
    refine step w re h fun d S1 v ca1 mu1 H1 e1 w1 re1 i1 h1 => ?_
    exact tArgs_of es w1 re1 (okR.bind h1 fun ds S2 vs ca2 mu2 H2 _ e2 w2 i2 h2 => h2 (v :: vs) ca2 mu2 H2 Ext.refl w2 (.cons (i1.ex e2) i2))
theorem made_ext {EE : Ek} {K : PySem.W.Frag} {ca mu : List Addr} {H H1 : Hp} {f : Addr} {F : LF} {S : Sto} (m : Made EE.T H f F H1) (w : Wd K EE ca mu H S) : Ext ca mu H ca mu H1 ∧ Wd K EE ca mu H1 S ∧ f ∉ mu ∧ F.c ∉ mu := by
  obtain ⟨e, b, t, n, hf, hc⟩ := m
  have x : Ext ca mu H ca mu H1 := ⟨⟨[], by simp, fun _ z => nomatch z⟩, fun _ z => .inl z, fun a o q nt _ => e a o q nt, fun a q z => q (b a z), fun _ z _ _ => z⟩
  refine ⟨x, ⟨w.len, w.nd, fun n a o h1 h2 => (w.ob n a o h1 h2).ext x id fun hm => ?_, fun a ha => ?_, t, fun a ha => ?_⟩, fun z => ?_, fun z => ?_⟩
  · obtain ⟨o', q, g⟩ := w.tm a hm
    rw [e a o' q (nt_chg g), q]
  · obtain ⟨o, q, g⟩ := w.tm a ha
    exact ⟨o, e a o q (nt_chg g), g⟩
  · obtain ⟨o, q, g⟩ := w.tc a ha
    exact ⟨o, e a o q (nt_chg g), g⟩
  · exact w.tm0 z n
  · obtain ⟨o, q, g⟩ := w.tm _ z
    have := e _ o q (nt_chg g)
    rw [hc] at this
    cases this
    cases g
theorem grab_ok {K : PySem.W.Frag} {EE : Ek} {ca mu : List Addr} {H : Hp} {σ : L2.St} {ρ : Env} (re : RE K EE ca mu H σ ρ) : ∀ {js : List Nat} {cs : List D}, grab ρ js = some cs → ∃ vs : List V, js.map (NdefX.slotAt σ) = vs.map some ∧ IsL K EE ca mu H vs cs
  | [], _, h => by cases h; exact ⟨[], rfl, .nil⟩
  | j :: js, cs, h => by
    have h : (match ρ[j]? with
      | some (some d) => (grab ρ js).map (d :: ·)
      | _ => none) = some cs := h
    split at h
    · rename_i d q
      cases q2 : grab ρ js with
      | none => rw [q2] at h; cases h
      | some cs' =>
        rw [q2] at h
        cases h
        obtain ⟨v, e1, i1⟩ := re.at_ j d q
        obtain ⟨vs, e2, i2⟩ := grab_ok re q2
        exact ⟨v :: vs, by rw [List.map_cons, List.map_cons, e2, NdefX.slotAt_of e1], .cons i1 i2⟩
    · cases h
/-- the cells that a def's own lambda captures -/
theorem cels_of {pins : List (Addr × Obj)} {σ : L2.St} {H : Hp} {s : Shared} {cl : List (Str × Addr)} (I : Inv X pins σ H s) (hf : ∀ x, X.fn x = true) (at_ : ∀ c ∈ cl.map (·.2), ∃ y, X.env.cells.lookup y = some c) : Cels (cl.map (·.2)) H s.heap X.base (frs X.stack) := by
  refine ⟨fun c hc => ?_, fun c hc => ?_, fun c hc => ?_, fun c hc z => ?_⟩
  · obtain ⟨y, e⟩ := at_ c hc
    exact I.freeC y c e
  · obtain ⟨y, e⟩ := at_ c hc
    obtain ⟨u, o, h1, h2⟩ := I.cell y c e
    exact ⟨o, u, h1, h2⟩
  · obtain ⟨y, e⟩ := at_ c hc
    exact Heap.get?_none_of_le (Nat.le_trans I.ok.bsz (I.ok.cab y c (hf y) e))
  · obtain ⟨y, e⟩ := at_ c hc
    rcases List.mem_cons.mp (I.stkSub c z) with q | q
    · exact I.cne y c e q
    · obtain ⟨_, o, ho, _⟩ := I.ok.funs.mem q
      exact absurd (Nat.lt_of_lt_of_le (Heap.lt_size ho) (I.ok.cab y c (hf y) e)) (Nat.lt_irrefl _)
theorem namesOf_ok {N : List Str} : ∀ {js : List Nat} {fr : List Str}, namesOf N js = some fr → js.map (fun j => N[j]?) = fr.map some
  | [], _, h => by cases h; rfl
  | j :: js, fr, h => by
    have h : (match N[j]? with
      | some x => (namesOf N js).map (x :: ·)
      | none => none) = some fr := h
    split at h
    · rename_i x q
      cases q2 : namesOf N js with
      | none => rw [q2] at h; cases h
      | some fr' =>
        rw [q2] at h
        cases h
        rw [List.map_cons, List.map_cons, q, namesOf_ok q2]
    · cases h
theorem clo_at {cells : List (Str × Addr)} {names : List (Str × NameKind)} (hfree : ∀ y ∈ names, y.2 = .free → ∃ c, cells.lookup y.1 = some c) : ∀ c ∈ (cloFrom cells names []).map (·.2), ∃ y, cells.lookup y = some c := fun c hc => by
  obtain ⟨⟨n, a⟩, h1, rfl⟩ := List.mem_map.mp hc
  rcases cloFrom_mem h1 with z | ⟨z1, z2⟩
  · cases z
  · obtain ⟨c1, q⟩ := hfree _ z1 rfl
    have q : cells.lookup n = some c1 := q
    exact ⟨n, by rw [q, z2, q]; rfl⟩
theorem lamB_ok {sc : Scope} {np : Nat} {fr : List Str} {params : Arguments} {scope : Scope} (h : lamB sc np fr params scope = true) : argOk params (params.args.map (·.arg)) = true ∧ (params.args.map (·.arg)).length = np ∧ NdefX.nscB (params.args.map (·.arg) ++ fr) (params.args.map (·.arg)) fr scope = true ∧ NdefX.ndefB sc scope fr = true ∧ params.kw_defaults.isEmpty = true := by
  obtain ⟨h1, h4⟩ := ba h
  obtain ⟨h1, h3⟩ := ba h1
  obtain ⟨h1, h2⟩ := ba h1
  obtain ⟨h0, h1⟩ := ba h1
  exact ⟨h1, of_decide_eq_true h2, h3, h4, h0⟩
theorem argOk_dfl {params : Arguments} {ps : List Str} {env : PySem.Env} (h : argOk params ps = true) (hk : params.kw_defaults.isEmpty = true) : defaultsOf params env = ([], []) := by
  obtain ⟨h1, h7⟩ := ba h
  obtain ⟨h1, h6⟩ := ba h1
  obtain ⟨h1, h5⟩ := ba h1
  obtain ⟨h1, h4⟩ := ba h1
  obtain ⟨h1, h3⟩ := ba h1
  obtain ⟨h1, h2⟩ := ba h1
  obtain ⟨a, b, c, d, e, f, g⟩ := params
  cases d with
  | cons _ _ => cases h3
  | nil =>
  cases g with
  | cons _ _ => cases h5
  | nil =>
    cases e with
    | cons _ _ => cases hk
    | nil => rfl
theorem snd_callL {f np : Nat} {js : List Nat} {e : Ex} {as : Exs} {ea : Expr} {es : List Expr} {params : Arguments} {body : Expr} {scope : Scope} {fr : List Str} (ok : CxOk T G C W X) (hl : C.lam = true) (hf : T.fn f = some (x, lenEs as + 1)) (hg : Gl X x) (hdb : (x == ("__debug__" : Str)) = false)
    (hfr : namesOf C.N js = some fr) (hb : lamB C.sc np fr params scope = true) (hc : chkE T ⟨params.args.map (·.arg) ++ fr, scope, scope, true, false⟩ e body = true) (hel : ∀ ρ S ds S', evs G.cons G.call as ρ S = .ok ds S' → ds.length = lenEs as)
    (hs : ∀ tl : TE, (∀ lpos, PE X (.Lambda params body scope lpos) tl) → PA X (ea :: es) (tArgs X.K G W tl as)) (hne : notStar ea = true) (hn : ∀ e ∈ es, notStar e = true) :
    PE X (.Call (.Name x p) (ea :: es) [] pos) (RdE X.K G W (.callL f as np js e)) := by
  obtain ⟨c, P, hcode, TB, hm, hu, hfn⟩ := ok.lx hl
  obtain ⟨k, fd, ps, F, hr, hmg, hk, hbd, _⟩ := ok.fn f x _ hf
  obtain ⟨b1, b2, b3, b4, b5⟩ := lamB_ok hb
  have hfree := NdefX.ndef_free b4
  rw [← ok.sc] at hfree
  have pl := hs _ fun lpos => pe_lam (G := G) (pos := lpos) TB hcode hm hu (argOk_dfl b1 b5) hfree
  refine ⟨fun pins s σ H Q I h => ?_⟩
  obtain ⟨ca, mu, ρ, S, w, re, h⟩ := h
  have h : okR X.K G.EE G.XA (IsR X.K G.EE) ca mu H ((evs G.cons G.call as ρ S).bind fun ds S => match grab ρ js with
    | some cs => kept (G.call (.glo f) (ds ++ [.clo np e cs]) S)
    | none => .no) Q (fun c d H' => W c d σ H') := h
  refine wpAny_Call_Name_kw (ld_glob I hg hmg ?_ hdb)
  have hA := pl.run pos pins s σ H (fun vs' H2 => ∃ (vs : List V) (fa c' : Addr) (H1 : Hp) (ca1 mu1 : List Addr) (S1 : Sto) (ds cs : List D), vs' = vs ++ [.ref fa] ∧ Made G.EE.T H1 fa ⟨X.env.qual ++ "<lambda>", params, body, scope, cloFrom X.env.cells scope.names [], c'⟩ H2 ∧ Wd X.K G.EE ca1 mu1 H1 S1 ∧ RE X.K G.EE ca1 mu1 H1 σ ρ ∧ IsL X.K G.EE ca1 mu1 H1 vs ds ∧ ds.length = lenEs as ∧ grab ρ js = some cs ∧
      okR X.K G.EE G.XA (IsR X.K G.EE) ca1 mu1 H1 (kept (G.call (.glo f) (ds ++ [.clo np e cs]) S1)) Q (fun c d H' => W c d σ H')) I (tArgs_of as w re (okR.bind h fun ds S1 vs ca1 mu1 H1 q x1 w1 i1 h1 => by
    refine ⟨w1.tb, fun fa c' H2 m => ?_⟩
    cases qg : grab ρ js with
    | none => rw [qg] at h1; exact h1.elim
    | some cs =>
      rw [qg] at h1
      exact ⟨vs, fa, c', H1, ca1, mu1, S1, ds, cs, rfl, m, w1, re.ext x1, i1, hel _ _ _ _ q, rfl, h1⟩))
  refine PySem.W.callWith_K (h₀ := X.base) I.ok.mod.kin hk (thn hA fun us s2 hh => ?_) (star_ne hne es X.env) (plain_back (e := ea) hn pos X.env)
  obtain ⟨vs', H2, I2, r2, vs, fa, c', H1, ca1, mu1, S1, ds, cs, rfl, m, w1, re1, iL, hdl, qg, h1⟩ := hh
  refine ⟨I2.kIn, ?_⟩
  obtain ⟨x12, w2, nf, nc⟩ := made_ext m w1
  obtain ⟨em, bm, tm, n0, f0, c0⟩ := m
  generalize hF : (⟨X.env.qual ++ "<lambda>", params, body, scope, cloFrom X.env.cells scope.names [], c'⟩ : LF) = F0 at f0 c0 nc
  have hcl : F0.cl = cloFrom X.env.cells scope.names [] := by rw [← hF]
  have hfr2 : ∀ y ∈ scope.names, y.2 = .free → ∃ c, X.env.cells.lookup y.1 = some c := fun y hy e => (hfree y hy e).elim (fun z => I.ok.has _ (.inl z)) fun z => I.ok.has _ (.inr z)
  have C0 : Cels (F0.cl.map (·.2)) H2 s2.heap X.base (frs X.stack) := cels_of I2 hfn (by rw [hcl]; exact clo_at hfr2)
  have hjs := namesOf_ok hfr
  rw [← ok.N] at hjs
  have CA := NdefX.cells_of I2 (NdefX.Caps.made I2.ok hfree (NdefX.ndef_fr b4) hjs)
  obtain ⟨ws, eW, iW⟩ := grab_ok (re1.ext x12) qg
  rw [eW] at CA
  have mem : ∀ {y c}, F0.cl.lookup y = some c → c ∈ F0.cl.map (·.2) := fun {y c} e => List.mem_map.mpr ⟨(y, c), PySem.mem_of_lookup e, rfl⟩
  have x23 : Ext ca1 mu1 H2 ca1 mu1 (tell H2 s2.heap (F0.cl.map (·.2))) := C0.ext
  have cls : CelsAt mu1 (tell H2 s2.heap (F0.cl.map (·.2))) F0.cl fr ws := by
    refine ⟨by have := CA.len; rw [List.length_map] at this; exact this, fun c hc => ?_, by rw [hcl]; exact CA.inj, fun i y ey => ?_⟩
    · obtain ⟨o, u, e1, e2⟩ := C0.o c hc
      exact ⟨fun z => w2.tm0 z (C0.n c hc), o, u, tell_in hc e1, e2⟩
    · obtain ⟨c, e1, e2⟩ := CA.has i y ey
      rw [← hcl] at e1
      have hi : i < ws.length := by
        have := (List.getElem?_eq_some_iff.mp ey).1
        have l := CA.len
        rw [List.length_map] at l
        omega
      obtain ⟨u, r, o, o1, o2⟩ := e2 ws[i] (by rw [List.getElem?_map, List.getElem?_eq_getElem hi]; rfl)
      exact ⟨c, o, u, ws[i], e1, tell_in (mem e1) o1, o2, List.getElem?_eq_getElem hi, r⟩
  have iC : Is X.K G.EE ca1 mu1 (tell H2 s2.heap (F0.cl.map (·.2))) (.ref fa) (.clo np e cs) := by
    refine .clo (C0.tl f0) nf (C0.tl c0) nc ?_ cls (by rw [C0.hide]; exact iW)
    rw [← ok.tb, ← hF]
    show (argOk _ _ && decide _ && NdefX.nscB _ _ _ _ && chkE _ _ _ _) = true
    rw [b1, decide_eq_true b2, b3, hc]
    rfl
  have iLs : IsL X.K G.EE ca1 mu1 (tell H2 s2.heap (F0.cl.map (·.2))) (vs ++ [.ref fa]) (ds ++ [.clo np e cs]) := ((iL.ex x12).ex x23).append (.cons iC .nil)
  have lens : (vs ++ [V.ref fa]).length = lenEs as + 1 := by rw [iLs.length, List.length_append, hdl]; rfl
  have bl : us.length = ps.length := by
    rw [← r2.length]
    exact F.len (vs ++ [.ref fa]) (tell H2 s2.heap (F0.cl.map (·.2))) (fun _ _ => True) (fun _ _ _ => True) ⟨lens, ca1, mu1, _, S1, C0.wd w2, iLs, by
      cases q : G.call (.glo f) (ds ++ [.clo np e cs]) S1 with
      | ok d S' => exact fun _ _ _ _ _ _ _ => trivial
      | exc y S' => exact fun _ _ _ _ _ _ _ _ => trivial
      | no => rw [q] at h1; exact h1⟩
  have bt := hbd s2 us I2.kIn (by rw [List.append_nil]; exact bl)
  rw [List.append_nil] at bt
  refine wpAny_call (codeAny_mono (F.run X.A X.stack s2 (tell H2 s2.heap (F0.cl.map (·.2))) ⟨us, []⟩ us (vs ++ [.ref fa]) (fun v H' => (∀ c ∈ F0.cl.map (·.2), H' c = tell H2 s2.heap (F0.cl.map (·.2)) c) ∧ Q v (hideC H' (F0.cl.map (·.2)))) (fun _ _ _ => False) hr (C0.env0 I2.env0) bt r2 ⟨lens, ca1, mu1, _, S1, C0.wd w2, iLs, ?_⟩) fun r s' hq => ?_)
  · cases q : G.call (.glo f) (ds ++ [.clo np e cs]) S1 with
    | ok d S' =>
      rw [q] at h1
      have h1 : okR X.K G.EE G.XA (IsR X.K G.EE) ca1 mu1 H1 (if d.cf = true ∧ stoCf S' = true then .ok d S' else .no) Q (fun c d H' => W c d σ H') := h1
      split at h1
      · rename_i z
        intro v ca' mu' H' x w' i'
        have kn : Known (F0.cl.map (·.2)) H' := fun c hc => by
          obtain ⟨o, u, e1, e2⟩ := C0.known c hc
          exact ⟨o, u, x.kp c _ e1 (nt_frz _ _) (fun z => w2.tm0 z.2 (C0.n c hc)), e2⟩
        refine ⟨fun c hc => ?_, h1 v ca' mu' _ (x12.trans (by have y := x.hide (F0.cl.map (·.2)); rw [C0.hide] at y; exact y)) (Wd.thaw kn w' z.2) (Is.thaw kn _ z.1 i')⟩
        obtain ⟨o, u, e1, e2⟩ := C0.known c hc
        rw [e1, x.kp c _ e1 (nt_frz _ _) (fun z => w2.tm0 z.2 (C0.n c hc))]
      · exact h1.elim
    | exc y S' => rw [q] at h1; exact h1.elim
    | no => rw [q] at h1; exact h1.elim
  · cases r with
    | error e =>
      obtain ⟨_, _, _, _, _, _, _, _, _, _, _, _, z⟩ := hq
      exact z.elim
    | ok fl =>
      cases fl with
      | ret u => exact I2.after (C0.ce hq)
      | next => exact False.elim hq
      | brk => exact False.elim hq
      | cont => exact False.elim hq
end
end KI


set_option Elab.async false
set_option linter.all false
set_option maxRecDepth 100000
set_option autoImplicit false
set_option maxHeartbeats 2000000
/-! The checker: the code is the text's; then the text's expression has the code's reading. -/
namespace KI
open PySem PySem.Spec PyProof.Rows L2

section
variable {T : Tb} {G : En}
mutual
theorem sndG : ∀ (t : Tg) {x : Expr} {C : Cc} {W : WX} {X : Cx}, CxOk T G C W X → chkG C t x = true → PG X x (RdG X.K G.EE t)
  | .nm i, x, C, W, X, ok, h => by
    cases x with
    | Name y p =>
      obtain ⟨h1, h2⟩ := Bool.and_eq_true_iff.mp (show (decide (C.N[i]? = some y) && locB C.sc C.ss y) = true from h)
      obtain ⟨h3, h4⟩ := locB_ok ok h2
      exact sndG_nm ok.nd (by rw [ok.N]; exact of_decide_eq_true h1) h3 h4
    | _ => cases h
  | .tp ts, x, C, W, X, ok, h => by
    cases x with
    | Tuple ys k p =>
      obtain ⟨h0, h⟩ := ba (show (C.calm && chkGs C ts ys) = true from h)
      obtain ⟨h1, h2, h3⟩ := sndGs ts ok h
      exact sndG_tp (ok.calm h0) h1 h2 h3
    | _ => cases h
theorem sndGs : ∀ (ts : Tgs) {xs : List Expr} {C : Cc} {W : WX} {X : Cx}, CxOk T G C W X → chkGs C ts xs = true → PGs X xs (RdGs X.K G.EE ts) ∧ (∀ e ∈ xs, notStar e = true) ∧ xs.length = lenTs ts
  | .nil, xs, C, W, X, ok, h => by
    cases xs with
    | nil => exact ⟨sndG_nil, fun e h => absurd h (by simp), rfl⟩
    | cons _ _ => cases h
  | .cons t ts, xs, C, W, X, ok, h => by
    cases xs with
    | nil => cases h
    | cons x xs =>
      obtain ⟨h1, h2⟩ := Bool.and_eq_true_iff.mp (show (chkG C t x && notStar x && chkGs C ts xs) = true from h)
      obtain ⟨h1, h3⟩ := Bool.and_eq_true_iff.mp h1
      obtain ⟨g1, g2, g3⟩ := sndGs ts ok h2
      exact ⟨sndG_cons (sndG t ok h1) g1 h3, fun e he => (List.mem_cons.mp he).elim (fun q => by rw [q]; exact h3) (g2 e), by rw [List.length_cons, g3]; rfl⟩
end
theorem ptD {X : Cx} {W : WX} {e : Ex} {x : Expr} (h : PE X x (RdE X.K G W e)) (he : ∀ whole, isTrue x X.env whole = (do let v ← whole; standAt x.pos; holding [v] (truthy v))) : PE X x (RdE X.K G W e) ∧ PT X x (RdT X.K G W e) := ⟨h, pt_val h he⟩
theorem pt_ifExp {X : Cx} {c a b : Expr} {pos : Pos} {tc ta tb : TT} (hc : PT X c tc) (ha : PT X a ta) (hb : PT X b tb) : PT X (.IfExp c a b pos) (fun σ H Q => tc σ H fun k H1 => if k = true then ta σ H1 Q else tb σ H1 Q) := by
  refine ⟨fun pins s σ H Q I h => ?_⟩
  show wpAny _ _ (do if ← isTrue c X.env (eval c X.env) then isTrue a X.env (eval a X.env) else isTrue b X.env (eval b X.env)) _ _ _
  refine wpAny_bind (thn (hc.run pins s σ H _ I h) fun d s1 ⟨H1, I1, q1⟩ => ?_)
  cases d with
  | true => exact ha.run pins s1 σ H1 Q I1 q1
  | false => exact hb.run pins s1 σ H1 Q I1 q1
theorem keysX_ok : ∀ {ks : List Str} {ys : List (Option Expr)}, keysX ks ys = true → ys.all (·.isSome) = true ∧ ys.length = ks.length
  | [], [], _ => ⟨rfl, rfl⟩
  | [], y :: ys, h => by cases y <;> cases h
  | _ :: _, [], h => by cases h
  | k :: ks, y :: ys, h => by
    match y, h with
    | .some (.Constant (.str s) j p), h =>
      obtain ⟨h1, h2⟩ := ba (show (decide (s = k) && keysX ks ys) = true from h)
      obtain ⟨a, b⟩ := keysX_ok h2
      exact ⟨a, by rw [List.length_cons, List.length_cons, b]⟩
theorem mark_ok {op : CmpOp} {x : Expr} (h : markB x = true) : behindInMarks op x = false := by
  cases x <;> first | rfl | cases h
theorem fold_ok {x : Expr} {env : PySem.Env} (h : markB x = true) (v : Value) : foldedSetIterable x env v = pure v := by
  cases x <;> first | rfl | cases h
theorem ix_ok {x : Expr} (h : ixB x = true) : PlainIx x := by
  intro o i
  cases x <;> first | rfl | cases h
mutual
theorem sndE : ∀ (e : Ex) {x : Expr} {C : Cc} {W : WX} {X : Cx}, CxOk T G C W X → chkE T C e x = true → PE X x (RdE X.K G W e) ∧ PT X x (RdT X.K G W e)
  | .var i, x, C, W, X, ok, h => by
    cases x with
    | Name y p =>
      obtain ⟨h1, h3⟩ := ba (show (decide (C.N[i]? = some y) && visB C.sc y && nmOk y) = true from h)
      obtain ⟨h1, h2⟩ := ba h1
      obtain ⟨n1, n2⟩ := nmOk_ok h3
      exact ptD (snd_var (by rw [ok.N]; exact of_decide_eq_true h1) (visB_ok ok h2) n1 n2) fun _ => rfl
    | _ => cases h
  | .con c, x, C, W, X, ok, h => by
    cases x with
    | Name y p =>
      obtain ⟨h1, h3⟩ := ba (show (decide (T.cn c = some y) && glB C.sc y && nmOk y) = true from h)
      obtain ⟨h1, h2⟩ := ba h1
      obtain ⟨v, u, g1, g2, g3⟩ := ok.cn c y (of_decide_eq_true h1)
      exact ptD (snd_con (glB_ok ok h2) g1 g2 (nmOk_ok h3).1 g3) fun _ => rfl
    | _ => cases h
  | .int i, x, C, W, X, ok, h => by
    cases x with
    | Constant c k p =>
      cases c with
      | int j =>
        have e : j = i := of_decide_eq_true h
        subst e
        exact ptD snd_int fun _ => rfl
      | _ => cases h
    | _ => cases h
  | .bl i, x, C, W, X, ok, h => by
    cases x with
    | Constant c k p =>
      cases c with
      | bool j =>
        have e : j = i := of_decide_eq_true h
        subst e
        exact ptD snd_bl fun _ => rfl
      | _ => cases h
    | _ => cases h
  | .non, x, C, W, X, ok, h => by
    cases x with
    | Constant c k p =>
      cases c with
      | none => exact ptD snd_non fun _ => rfl
      | _ => cases h
    | _ => cases h
  | .str i, x, C, W, X, ok, h => by
    cases x with
    | Constant c k p =>
      cases c with
      | str j =>
        have e : j = i := of_decide_eq_true h
        subst e
        exact ptD snd_str fun _ => rfl
      | _ => cases h
    | _ => cases h
  | .tup es, x, C, W, X, ok, h => by
    cases x with
    | Tuple ys k p => exact ptD (snd_tup (sndEs es ok (show chkEs T C es ys = true from h)).1) fun _ => rfl
    | _ => cases h
  | .lst es, x, C, W, X, ok, h => by
    cases x with
    | List ys p => exact ptD (snd_lst (sndEs es ok (show chkEs T C es ys = true from h)).1) fun _ => rfl
    | _ => cases h
  | .dct _ _, x, C, W, X, ok, h => by cases h
  | .newc e, x, C, W, X, ok, h => by
    cases e with
    | lst es =>
      cases x with
      | List ys p => exact ptD (snd_newl (sndEs es ok (show chkEs T C es ys = true from h)).1) fun _ => rfl
      | _ => cases h
    | dct ks es =>
      cases x with
      | Dict ys zs p =>
        obtain ⟨h1, h5⟩ := ba (show (keysX ks ys && decide (ks.length = zs.length) && decide (ks.length ≤ 15) && decide (ks ≠ []) && chkEs T C es zs) = true from h)
        obtain ⟨h1, h4⟩ := ba h1
        obtain ⟨h1, h3⟩ := ba h1
        obtain ⟨h1, h2⟩ := ba h1
        obtain ⟨trs, a1, a2, a3⟩ := sndP es ks (pos := p) ok h1 h5 (of_decide_eq_true h2)
        obtain ⟨k1, k2⟩ := keysX_ok h1
        exact ptD (snd_newd a1 k1 (by rw [k2]; exact of_decide_eq_true h2) k2 a2 a3 (of_decide_eq_true h4) (of_decide_eq_true h3)) fun _ => rfl
      | _ => cases h
    | _ => cases h
  | .bin o a b, x, C, W, X, ok, h => by
    cases x with
    | BinOp y p z q =>
      obtain ⟨h1, h3⟩ := ba (show (opB p (opOf o) && chkE T C a y && chkE T C b z) = true from h)
      obtain ⟨h1, h2⟩ := ba h1
      have e := opB_ok h1
      subst e
      exact ptD (snd_bin (sndE a ok h2).1 (sndE b ok h3).1) fun _ => rfl
    | _ => cases h
  | .neg a, x, C, W, X, ok, h => by
    cases x with
    | UnaryOp o y q =>
      cases o with
      | USub => exact ptD (snd_neg (sndE a ok (show chkE T C a y = true from h)).1) fun _ => rfl
      | _ => cases h
    | _ => cases h
  | .cmp o a b, x, C, W, X, ok, h => by
    cases x with
    | Compare y ps zs q =>
      cases ps with
      | nil => cases h
      | cons p ps =>
        cases ps with
        | cons _ _ => cases zs <;> (try cases h) <;> (rename_i zs; cases zs <;> cases h)
        | nil =>
          cases zs with
          | nil => cases h
          | cons z zs =>
            cases zs with
            | cons _ _ => cases h
            | nil =>
              obtain ⟨h1, h4⟩ := ba (show (cpB p (copOf o) && chkE T C a y && chkE T C b z && markB z) = true from h)
              obtain ⟨h1, h3⟩ := ba h1
              obtain ⟨h1, h2⟩ := ba h1
              have e : p = copOf o := of_decide_eq_true h1
              subst e
              exact ⟨snd_cmp ok.un (sndE a ok h2).1 (sndE b ok h3).1 (mark_ok h4), snd_cmpT ok.un (sndE a ok h2).1 (sndE b ok h3).1 (mark_ok h4)⟩
    | _ => cases h
  | .chn o p a b c, x, C, W, X, ok, h => by
    cases x with
    | Compare y ps zs q =>
      match ps, zs, h with
      | [o', p'], [z, u], h =>
        obtain ⟨h1, h6⟩ := ba (show (cpB o' (copOf o) && cpB p' (copOf p) && chkE T C a y && chkE T C b z && chkE T C c u && markB u) = true from h)
        obtain ⟨h1, h5⟩ := ba h1
        obtain ⟨h1, h4⟩ := ba h1
        obtain ⟨h1, h3⟩ := ba h1
        obtain ⟨h1, h2⟩ := ba h1
        have e1 : o' = copOf o := of_decide_eq_true h1
        have e2 : p' = copOf p := of_decide_eq_true h2
        subst e1 e2
        have hm : lastMarks [copOf o, copOf p] [z, u] = false := mark_ok (op := copOf p) h6
        exact ⟨snd_chn ok.un (sndE a ok h3).1 (sndE b ok h4).1 (sndE c ok h5).1 hm, snd_chnT ok.un (sndE a ok h3).1 (sndE b ok h4).1 (sndE c ok h5).1 hm⟩
    | _ => cases h
  | .and a b, x, C, W, X, ok, h => by
    cases x with
    | BoolOp o ys pos =>
      match o, ys, h with
      | .And, [y, z], h =>
        obtain ⟨h1, h2⟩ := ba (show (chkE T C a y && chkE T C b z) = true from h)
        exact ⟨snd_and (sndE a ok h1).1 (pe_one (sndE b ok h2).1), PW.pt (snd_andT (sndE a ok h1).2 (pw_and1 (sndE b ok h2).2))⟩
      | .And, y :: z :: u :: r, h =>
        obtain ⟨h1, h2⟩ := ba (show (chkE T C a y && chkE T C b (.BoolOp .And (z :: u :: r) pos)) = true from h)
        obtain ⟨g1, g2⟩ := sndE b ok h2
        exact ⟨snd_and (sndE a ok h1).1 g1, PW.pt (snd_andT (sndE a ok h1).2 ⟨fun wh pins s σ H Q I q => g2.run pins s σ H Q I q⟩)⟩
    | _ => cases h
  | .or a b, x, C, W, X, ok, h => by
    cases x with
    | BoolOp o ys pos =>
      match o, ys, h with
      | .Or, [y, z], h =>
        obtain ⟨h1, h2⟩ := ba (show (chkE T C a y && chkE T C b z) = true from h)
        exact ⟨snd_or (sndE a ok h1).1 (pe_one (sndE b ok h2).1), PW.pt (snd_orT (sndE a ok h1).2 (pw_or1 (sndE b ok h2).2))⟩
      | .Or, y :: z :: u :: r, h =>
        obtain ⟨h1, h2⟩ := ba (show (chkE T C a y && chkE T C b (.BoolOp .Or (z :: u :: r) pos)) = true from h)
        obtain ⟨g1, g2⟩ := sndE b ok h2
        exact ⟨snd_or (sndE a ok h1).1 g1, PW.pt (snd_orT (sndE a ok h1).2 ⟨fun wh pins s σ H Q I q => g2.run pins s σ H Q I q⟩)⟩
    | _ => cases h
  | .not a, x, C, W, X, ok, h => by
    cases x with
    | UnaryOp o y q =>
      cases o with
      | Not => exact ⟨snd_not (sndE a ok (show chkE T C a y = true from h)).1, snd_notT (sndE a ok (show chkE T C a y = true from h)).2⟩
      | _ => cases h
    | _ => cases h
  | .ite c a b, x, C, W, X, ok, h => by
    cases x with
    | IfExp u y z q =>
      obtain ⟨h1, h3⟩ := ba (show (chkE T C c u && chkE T C a y && chkE T C b z) = true from h)
      obtain ⟨h1, h2⟩ := ba h1
      refine ⟨snd_ite (sndE c ok h1).2 (sndE a ok h2).1 (sndE b ok h3).1, PTimp (pt_ifExp (sndE c ok h1).2 (sndE a ok h2).2 (sndE b ok h3).2) fun σ H Q ⟨ca, mu, ρ, S, w, re, h⟩ => step w re h fun d S1 v ca1 mu1 H1 e1 w1 re1 i1 h1 => ?_⟩
      obtain ⟨k, rfl, h2⟩ := bool_of (S := S1) (f := fun k S => bif k then ev G.cons G.call a ρ S else ev G.cons G.call b ρ S) i1 (by cases d <;> first | rfl | (rename_i z; cases z <;> rfl)) h1
      refine ⟨k, rfl, ?_⟩
      cases k with
      | true => exact iteT (last w1 re1 h2)
      | false => exact iteF (last w1 re1 h2)
    | _ => cases h
  | .idx a i, x, C, W, X, ok, h => by
    cases x with
    | Subscript y z q =>
      obtain ⟨h1, h3⟩ := ba (show (chkE T C a y && chkE T C i z && ixB z) = true from h)
      obtain ⟨h1, h2⟩ := ba h1
      exact ptD (snd_idx ok.un (sndE a ok h1).1 (sndE i ok h2).1 (ix_ok h3)) fun _ => rfl
    | _ => cases h
  | .sli a lo hi, x, C, W, X, ok, h => by
    cases x with
    | Subscript y z q =>
      match z, h with
      | .Slice l u .none p2, h =>
        obtain ⟨h1, h3⟩ := ba (show (chkE T C a y && chkO T C lo l && chkO T C hi u) = true from h)
        obtain ⟨h1, h2⟩ := ba h1
        exact ptD (snd_sli (sndE a ok h1).1 (sndO lo ok h2) (sndO hi ok h3)) fun _ => rfl
    | _ => cases h
  | .call f es, x, C, W, X, ok, h => by
    match x, h with
    | .Call (.Name y p) (z :: zs) [] q, h =>
      obtain ⟨h1, h4⟩ := ba (show (decide (T.fn f = some (y, lenEs es)) && glB C.sc y && nmOk y && chkEs T C es (z :: zs)) = true from h)
      obtain ⟨h1, h3⟩ := ba h1
      obtain ⟨h1, h2⟩ := ba h1
      obtain ⟨k, fd, ps, g1, g2, g3, g4, g5, _⟩ := ok.fn f y _ (of_decide_eq_true h1)
      obtain ⟨a1, a2⟩ := sndEs es ok h4
      exact ptD (snd_call ok.tk g1 g2 (glB_ok ok h2) g3 g4 g5 (nmOk_ok h3).1 (fun ρ S ds S' e => evs_len e) a1 (a2 z List.mem_cons_self) fun e he => a2 e (List.mem_cons_of_mem _ he)) fun _ => rfl
  | .call0 f, x, C, W, X, ok, h => by
    match x, h with
    | .Call (.Name y p) [] [] q, h =>
      obtain ⟨h1, h3⟩ := ba (show (decide (T.fn f = some (y, 0)) && glB C.sc y && nmOk y) = true from h)
      obtain ⟨h1, h2⟩ := ba h1
      obtain ⟨k, fd, ps, g1, g2, g3, g4, g5, _⟩ := ok.fn f y _ (of_decide_eq_true h1)
      exact ptD (snd_call0 g1 g2 (glB_ok ok h2) g3 g4 g5 (nmOk_ok h3).1) fun _ => rfl
  | .callL f es np js e, x, C, W, X, ok, h => by
    match x, h with
    | .Call (.Name y p) (z :: zs) [] q, h =>
      obtain ⟨h1, h5⟩ := ba (show (C.lam && decide (T.fn f = some (y, lenEs es + 1)) && glB C.sc y && nmOk y && chkL T C es (fun p b scope => match namesOf C.N js with
        | some fr => lamB C.sc np fr p scope && chkE T ⟨p.args.map (·.arg) ++ fr, scope, scope, true, false⟩ e b
        | none => false) (z :: zs)) = true from h)
      obtain ⟨h1, h4⟩ := ba h1
      obtain ⟨h1, h3⟩ := ba h1
      obtain ⟨h1, h2⟩ := ba h1
      obtain ⟨a1, pp, bb, ss, a2, a3⟩ := sndL es ok h5
      have a2 : (match namesOf C.N js with
        | some fr => lamB C.sc np fr pp ss && chkE T ⟨pp.args.map (·.arg) ++ fr, ss, ss, true, false⟩ e bb
        | none => false) = true := a2
      cases qn : namesOf C.N js with
      | none => rw [qn] at a2; cases a2
      | some fr =>
        rw [qn] at a2
        obtain ⟨b1, b2⟩ := ba a2
        exact ptD (snd_callL ok h1 (of_decide_eq_true h2) (glB_ok ok h3) (nmOk_ok h4).1 qn b1 b2 (fun ρ S ds S' e => evs_len e) (fun tl ht => a3 tl ht) (a1 z List.mem_cons_self) fun e he => a1 e (List.mem_cons_of_mem _ he)) fun _ => rfl
  | .callv i es, x, C, W, X, ok, h => by
    match x, h with
    | .Call (.Name y p) zs [] q, h =>
      obtain ⟨h1, h4⟩ := ba (show (decide (C.N[i]? = some y) && visB C.sc y && nmOk y && chkEs T C es zs) = true from h)
      obtain ⟨h1, h3⟩ := ba h1
      obtain ⟨h1, h2⟩ := ba h1
      obtain ⟨a1, a2⟩ := sndEs es ok h4
      have hN : X.N[i]? = some y := by rw [ok.N]; exact of_decide_eq_true h1
      cases zs with
      | nil =>
        cases es with
        | nil => exact ptD (snd_callv0 ok hN (visB_ok ok h2) (nmOk_ok h3).1 (nmOk_ok h3).2) fun _ => rfl
        | cons _ _ => cases h4
      | cons z zs => exact ptD (snd_callv ok hN (visB_ok ok h2) a1 (a2 z List.mem_cons_self) (fun e he => a2 e (List.mem_cons_of_mem _ he)) (nmOk_ok h3).1 (nmOk_ok h3).2) fun _ => rfl
  | .fnv i, x, C, W, X, ok, h => by
    cases x with
    | Name y p =>
      obtain ⟨h1, h3⟩ := ba (show (decide ((T.fn i).map (·.1) = some y) && glB C.sc y && nmOk y) = true from h)
      obtain ⟨h1, h2⟩ := ba h1
      have h1 := of_decide_eq_true h1
      cases q : T.fn i with
      | none => rw [q] at h1; cases h1
      | some yn =>
        obtain ⟨y', n⟩ := yn
        rw [q] at h1
        cases h1
        exact ptD (snd_fnv ok q (glB_ok ok h2) (nmOk_ok h3).1) fun _ => rfl
    | _ => cases h
  | .nset e, x, C, W, X, ok, h => by
    match x, h with
    | .Call (.Name y p) [.Call (.Name u p2) [z] [] q2] [] q, h =>
      obtain ⟨h1, h9⟩ := ba (show (decide (y = Str.ofString "len") && T.bl y && glB C.sc y && decide (u = Str.ofString "set") && T.bl u && glB C.sc u && chkE T C e z && notStar z && C.calm) = true from h)
      obtain ⟨h1, h8⟩ := ba h1
      obtain ⟨h1, h7⟩ := ba h1
      obtain ⟨h1, h6⟩ := ba h1
      obtain ⟨h1, h5⟩ := ba h1
      obtain ⟨h1, h4⟩ := ba h1
      obtain ⟨h1, h3⟩ := ba h1
      obtain ⟨h1, h2⟩ := ba h1
      have e1 : y = Str.ofString "len" := of_decide_eq_true h1
      have e2 : u = Str.ofString "set" := of_decide_eq_true h4
      subst e1 e2
      exact ptD (snd_nset (ok.calm h9) (glB_ok ok h3) (ok.bl _ h2) (glB_ok ok h6) (ok.bl _ h5) (sndE e ok h7).1 h8) fun _ => rfl
  | .rngl a b, x, C, W, X, ok, h => by
    match x, h with
    | .Call (.Name y p) [.Call (.Name u p2) [z, v] [] q2] [] q, h =>
      obtain ⟨h1, h11⟩ := ba (show (decide (y = Str.ofString "list") && T.bl y && glB C.sc y && decide (u = Str.ofString "range") && T.bl u && glB C.sc u && chkE T C a z && notStar z && chkE T C b v && notStar v && C.calm) = true from h)
      obtain ⟨h1, h10⟩ := ba h1
      obtain ⟨h1, h9⟩ := ba h1
      obtain ⟨h1, h8⟩ := ba h1
      obtain ⟨h1, h7⟩ := ba h1
      obtain ⟨h1, h6⟩ := ba h1
      obtain ⟨h1, h5⟩ := ba h1
      obtain ⟨h1, h4⟩ := ba h1
      obtain ⟨h1, h3⟩ := ba h1
      obtain ⟨h1, h2⟩ := ba h1
      have e1 : y = Str.ofString "list" := of_decide_eq_true h1
      have e2 : u = Str.ofString "range" := of_decide_eq_true h4
      subst e1 e2
      exact ptD (snd_rngl (ok.calm h11) (glB_ok ok h3) (ok.bl _ h2) (glB_ok ok h6) (ok.bl _ h5) (sndE a ok h7).1 (sndE b ok h9).1 h8 h10) fun _ => rfl
  | .bi b es, x, C, W, X, ok, h => by
    match x, h with
    | .Call (.Name y p) (z :: zs) [] q, h =>
      obtain ⟨h1, h5⟩ := ba (show (decide (y = Str.ofString (biId b)) && T.bl y && glB C.sc y && chkEs T C es (z :: zs) && C.calm) = true from h)
      obtain ⟨h1, h4⟩ := ba h1
      obtain ⟨h1, h3⟩ := ba h1
      obtain ⟨h1, h2⟩ := ba h1
      have e : y = Str.ofString (biId b) := of_decide_eq_true h1
      subst e
      obtain ⟨a1, a2⟩ := sndEs es ok h4
      exact ptD (snd_bi (ok.calm h5) (glB_ok ok h3) (ok.bl _ h2) a1 (a2 z List.mem_cons_self) fun e he => a2 e (List.mem_cons_of_mem _ he)) fun _ => rfl
  | .isi a t, x, C, W, X, ok, h => by
    match x, h with
    | .Call (.Name y p) [z, .Name u p2] [] q, h =>
      obtain ⟨h1, h8⟩ := ba (show (decide (y = Str.ofString "isinstance") && T.bl y && glB C.sc y && decide (u = Str.ofString (tyName t)) && T.bl u && glB C.sc u && chkE T C a z && notStar z) = true from h)
      obtain ⟨h1, h7⟩ := ba h1
      obtain ⟨h1, h6⟩ := ba h1
      obtain ⟨h1, h5⟩ := ba h1
      obtain ⟨h1, h4⟩ := ba h1
      obtain ⟨h1, h3⟩ := ba h1
      obtain ⟨h1, h2⟩ := ba h1
      have e1 : y = Str.ofString "isinstance" := of_decide_eq_true h1
      have e2 : u = Str.ofString (tyName t) := of_decide_eq_true h4
      subst e1 e2
      exact ptD (snd_isi (glB_ok ok h3) (ok.bl _ h2) (glB_ok ok h6) (ok.bl _ h5) (sndE a ok h7).1 h8) fun _ => rfl
  | .fld c f o, x, C, W, X, ok, h => by
    match x, h with
    | .Attribute y n q, h =>
      obtain ⟨h1, h4⟩ := ba (show (attB y && decide (n = f) && T.na c f && chkE T C o y) = true from h)
      obtain ⟨h1, h3⟩ := ba h1
      obtain ⟨hat, h2⟩ := ba h1
      have e := of_decide_eq_true h2
      subst e
      obtain ⟨g1, g2⟩ := ok.ow.na c n h3
      exact ptD (snd_fld (sndE o ok h4).1 g1 g2 hat) fun _ => rfl
  | .mcl c g m o es, x, C, W, X, ok, h => by
    match x, h with
    | .Call (.Attribute y n apos) zs [] cpos, h =>
      obtain ⟨h1, h7⟩ := ba (show (attB y && decide (n = m) && (apos.endLine == cpos.line) && decide (T.mt c m = some (g, lenEs es)) && decide (zs.length < 29) && chkE T C o y && chkEs T C es zs) = true from h)
      obtain ⟨h1, h6⟩ := ba h1
      obtain ⟨h1, h5⟩ := ba h1
      obtain ⟨h1, h4⟩ := ba h1
      obtain ⟨h1, h3⟩ := ba h1
      obtain ⟨hat, h2⟩ := ba h1
      have e := of_decide_eq_true h2
      subst e
      have h5 := of_decide_eq_true h5
      obtain ⟨g1, k, ad, fd, ps, g2, g3, g4, g5⟩ := ok.ow.mt c n g _ (of_decide_eq_true h4)
      cases es with
      | nil => cases zs with
        | cons _ _ => cases h7
        | nil => exact ptD (snd_mcl0 ok.tk (sndE o ok h6).1 g1 g2 g3 g4 g5 hat h3) fun _ => rfl
      | cons a as => cases zs with
        | nil => cases h7
        | cons z zs =>
          obtain ⟨a1, a2⟩ := sndEs (.cons a as) ok h7
          exact ptD (snd_mcl ok.tk (sndE o ok h6).1 g1 g2 g3 g4 g5 (fun ρ S ds S' e => evs_len e) a1 (a2 z List.mem_cons_self) (fun e he => a2 e (List.mem_cons_of_mem _ he)) hat (by rw [List.length_cons] at h5; omega) h3) fun _ => rfl
  | .mkn c g es, x, C, W, X, ok, h => by
    match x, h with
    | .Call (.Name y p) (z :: zs) [] q, h =>
      obtain ⟨h1, h4⟩ := ba (show (decide (T.nw c = some (y, g, lenEs es)) && glB C.sc y && nmOk y && chkEs T C es (z :: zs)) = true from h)
      obtain ⟨h1, h3⟩ := ba h1
      obtain ⟨h1, h2⟩ := ba h1
      obtain ⟨g1, k, ad, fd, ps, g2, g3, g4, g5⟩ := ok.ow.nw c y g _ (of_decide_eq_true h1)
      obtain ⟨a1, a2⟩ := sndEs es ok h4
      exact ptD (snd_mkn ok.tk g2 g3 g4 (glB_ok ok h2) g1 g5 (nmOk_ok h3).1 (fun ρ S ds S' e => evs_len e) a1 (a2 z List.mem_cons_self) fun e he => a2 e (List.mem_cons_of_mem _ he)) fun _ => rfl
  | .prp c g m o, x, C, W, X, ok, h => by
    match x, h with
    | .Attribute y n q, h =>
      obtain ⟨h1, h4⟩ := ba (show (attB y && decide (n = m) && decide (T.pr c m = some g) && chkE T C o y) = true from h)
      obtain ⟨h1, h3⟩ := ba h1
      obtain ⟨hat, h2⟩ := ba h1
      have e := of_decide_eq_true h2
      subst e
      obtain ⟨g1, k, pa, ad, fd, ps, g2, g3, g4, g5⟩ := ok.ow.pr c n g (of_decide_eq_true h3)
      exact ptD (snd_prp (sndE o ok h4).1 g1 g2 g3 g4 g5 hat) fun _ => rfl
  | .mth m o es, x, C, W, X, ok, h => by
    match x, h with
    | .Call (.Attribute y n apos) (z :: zs) [] cpos, h =>
      obtain ⟨h1, h6⟩ := ba (show (attB y && decide (n = Str.ofString (mtId m)) && (apos.endLine == cpos.line) && chkE T C o y && chkEs T C es (z :: zs) && decide (lenEs es = mtN m)) = true from h)
      obtain ⟨h1, h5⟩ := ba h1
      obtain ⟨h1, h4⟩ := ba h1
      obtain ⟨h1, h3⟩ := ba h1
      obtain ⟨hat, h2⟩ := ba h1
      clear h1
      have en : n = Str.ofString (mtId m) := of_decide_eq_true h2
      subst en
      have hm := of_decide_eq_true h6
      cases m with
      | index => cases es with
        | nil => cases h5
        | cons a as => cases as with
          | cons _ _ => exact absurd hm (by show ¬ (_ + 1 + 1 = 1); omega)
          | nil => cases zs with
            | cons _ _ =>
              obtain ⟨_, g3⟩ := ba (show (chkE T C a z && notStar z && chkEs T C .nil _) = true from h5)
              cases g3
            | nil =>
              obtain ⟨g1, _⟩ := ba (show (chkE T C a z && notStar z && chkEs T C .nil []) = true from h5)
              obtain ⟨g1, g2⟩ := ba g1
              exact ptD (snd_index ok.un (sndE o ok h4).1 (sndE a ok g1).1 g2 hat h3) fun _ => rfl
      | count => cases es with
        | nil => cases h5
        | cons a as => cases as with
          | cons _ _ => exact absurd hm (by show ¬ (_ + 1 + 1 = 1); omega)
          | nil => cases zs with
            | cons _ _ =>
              obtain ⟨_, g3⟩ := ba (show (chkE T C a z && notStar z && chkEs T C .nil _) = true from h5)
              cases g3
            | nil =>
              obtain ⟨g1, _⟩ := ba (show (chkE T C a z && notStar z && chkEs T C .nil []) = true from h5)
              obtain ⟨g1, g2⟩ := ba g1
              exact ptD (snd_count ok.un (sndE o ok h4).1 (sndE a ok g1).1 g2 hat h3) fun _ => rfl
      | split => cases es with
        | nil => cases h5
        | cons a as => cases as with
          | cons _ _ => exact absurd hm (by show ¬ (_ + 1 + 1 = 1); omega)
          | nil => cases zs with
            | cons _ _ =>
              obtain ⟨_, g3⟩ := ba (show (chkE T C a z && notStar z && chkEs T C .nil _) = true from h5)
              cases g3
            | nil =>
              obtain ⟨g1, _⟩ := ba (show (chkE T C a z && notStar z && chkEs T C .nil []) = true from h5)
              obtain ⟨g1, g2⟩ := ba g1
              exact ptD (snd_split (sndE o ok h4).1 (sndE a ok g1).1 g2 hat h3) fun _ => rfl
      | join => cases es with
        | nil => cases h5
        | cons a as => cases as with
          | cons _ _ => exact absurd hm (by show ¬ (_ + 1 + 1 = 1); omega)
          | nil => cases zs with
            | cons _ _ =>
              obtain ⟨_, g3⟩ := ba (show (chkE T C a z && notStar z && chkEs T C .nil _) = true from h5)
              cases g3
            | nil =>
              obtain ⟨g1, _⟩ := ba (show (chkE T C a z && notStar z && chkEs T C .nil []) = true from h5)
              obtain ⟨g1, g2⟩ := ba g1
              exact ptD (snd_join (sndE o ok h4).1 (sndE a ok g1).1 g2 hat h3) fun _ => rfl
      | get => cases es with
        | nil => cases h5
        | cons a as =>
          obtain ⟨g1, g3⟩ := ba (show (chkE T C a z && notStar z && chkEs T C as zs) = true from h5)
          obtain ⟨g1, g2⟩ := ba g1
          cases as with
          | nil => exact absurd hm (by show ¬ (0 + 1 = 2); omega)
          | cons b bs => cases zs with
            | nil => cases g3
            | cons u us => cases bs with
              | cons _ _ => exact absurd hm (by show ¬ (_ + 1 + 1 + 1 = 2); omega)
              | nil =>
                obtain ⟨k1, k3⟩ := ba (show (chkE T C b u && notStar u && chkEs T C .nil us) = true from g3)
                obtain ⟨k1, k2⟩ := ba k1
                cases us with
                | cons _ _ => cases k3
                | nil => exact ptD (snd_get ok.un (sndE o ok h4).1 (sndE a ok g1).1 (sndE b ok k1).1 g2 k2 hat h3) fun _ => rfl
  | .lc own tg it c e, x, C, W, X, ok, h => by
    match x, h with
    | .ListComp elt [⟨tgx, iter, ifs, k⟩] scope pos, h =>
      obtain ⟨h1, h8⟩ := ba (show (C.calm && decide (k = 0) && blkC C.N C.sc scope (own.filterMap fun i => (C.N[i]?).map fun y => (y, i)) && decide ((own.filterMap fun i => (C.N[i]?).map fun y => (y, i)).map (·.2) = own) && (slotsT tg).all (fun i => own.contains i)
        && chkI T C tgx it iter && chkG ⟨C.N, relS scope C.sc, scope, C.calm, false⟩ tg tgx && chkC T ⟨C.N, relS scope C.sc, scope, C.calm, false⟩ c ifs && chkE T ⟨C.N, relS scope C.sc, scope, C.calm, false⟩ e elt) = true from h)
      obtain ⟨h1, h7⟩ := ba h1
      obtain ⟨h1, h6⟩ := ba h1
      obtain ⟨h1, h5⟩ := ba h1
      obtain ⟨h1, h4⟩ := ba h1
      obtain ⟨h1, h3⟩ := ba h1
      obtain ⟨h1, h2⟩ := ba h1
      obtain ⟨h0, h1⟩ := ba h1
      have e0 : k = 0 := of_decide_eq_true h1
      subst e0
      obtain ⟨i1, i2⟩ := sndI it (tg := tgx) ok h5
      refine ptD (snd_lc (own := own.filterMap fun i => (C.N[i]?).map fun y => (y, i)) (ok.calm h0) ok.nd i1 (by rw [ok.N, ok.sc]; exact blkOk_by h2) (of_decide_eq_true h3) (fun i hi => by simpa using List.all_eq_true.mp h4 i hi)
        (fun s H A cl fp => sndG tg (blk_ok ok s H scope cl A fp) h6) (fun s H A cl fp => sndC c (blk_ok ok s H scope cl A fp) h7) (fun s H A cl fp => (sndE e (blk_ok ok s H scope cl A fp) h8).1) i2) fun _ => rfl
theorem sndEs : ∀ (es : Exs) {xs : List Expr} {C : Cc} {W : WX} {X : Cx}, CxOk T G C W X → chkEs T C es xs = true → PA X xs (RdA X.K G W es) ∧ ∀ x ∈ xs, notStar x = true
  | .nil, xs, C, W, X, ok, h => by
    cases xs with
    | nil => exact ⟨snd_anil, fun _ h => nomatch h⟩
    | cons _ _ => cases h
  | .cons e es, xs, C, W, X, ok, h => by
    cases xs with
    | nil => cases h
    | cons x xs =>
      obtain ⟨h1, h3⟩ := ba (show (chkE T C e x && notStar x && chkEs T C es xs) = true from h)
      obtain ⟨h1, h2⟩ := ba h1
      obtain ⟨g1, g2⟩ := sndEs es ok h3
      exact ⟨snd_acons (sndE e ok h1).1 g1 h2, fun y hy => (List.mem_cons.mp hy).elim (fun q => by rw [q]; exact h2) (g2 y)⟩
theorem sndO : ∀ (o : Oe) {x : Option Expr} {C : Cc} {W : WX} {X : Cx}, CxOk T G C W X → chkO T C o x = true → PO X x (RdO X.K G W o)
  | .none, x, C, W, X, ok, h => by
    cases x with
    | none => exact snd_onone
    | some _ => cases h
  | .some e, x, C, W, X, ok, h => by
    cases x with
    | none => cases h
    | some x => exact snd_osome (sndE e ok h).1
theorem sndC : ∀ (o : Oe) {x : List Expr} {C : Cc} {X : Cx}, CxOk T G C W0 X → chkC T C o x = true → PTs X x (ttOf X.K G o)
  | .none, x, C, X, ok, h => by
    cases x with
    | nil => exact pts_nil
    | cons _ _ => cases h
  | .some e, x, C, X, ok, h => by
    match x, h with
    | [x], h => exact pts_one (sndE e ok h).2
theorem sndI : ∀ (it : It) {x tg : Expr} {C : Cc} {W : WX} {X : Cx}, CxOk T G C W X → chkI T C tg it x = true → PI X tg x (RdI X.K G W it) ∧ ∀ v, foldedSetIterable x X.env v = pure v
  | .val e, x, tg, C, W, X, ok, h => by
    obtain ⟨h1, h2⟩ := ba (show (chkE T C e x && markB x) = true from h)
    exact ⟨sndI_val (sndE e ok h1).1, fold_ok h2⟩
  | .rng1 e, x, tg, C, W, X, ok, h => by
    match x, h with
    | .Call (.Name y p) [z] [] q, h =>
      obtain ⟨h1, h5⟩ := ba (show (decide (y = Str.ofString "range") && T.bl y && glB C.sc y && chkE T C e z && notStar z) = true from h)
      obtain ⟨h1, h4⟩ := ba h1
      obtain ⟨h1, h3⟩ := ba h1
      obtain ⟨h1, h2⟩ := ba h1
      have e1 : y = Str.ofString "range" := of_decide_eq_true h1
      subst e1
      exact ⟨sndI_rng1 (glB_ok ok h3) (ok.bl _ h2) (sndE e ok h4).1 h5, fun _ => rfl⟩
  | .rng2 a b, x, tg, C, W, X, ok, h => by
    match x, h with
    | .Call (.Name y p) [z, u] [] q, h =>
      obtain ⟨h1, h7⟩ := ba (show (decide (y = Str.ofString "range") && T.bl y && glB C.sc y && chkE T C a z && notStar z && chkE T C b u && notStar u) = true from h)
      obtain ⟨h1, h6⟩ := ba h1
      obtain ⟨h1, h5⟩ := ba h1
      obtain ⟨h1, h4⟩ := ba h1
      obtain ⟨h1, h3⟩ := ba h1
      obtain ⟨h1, h2⟩ := ba h1
      have e1 : y = Str.ofString "range" := of_decide_eq_true h1
      subst e1
      exact ⟨sndI_rng2 (glB_ok ok h3) (ok.bl _ h2) (sndE a ok h4).1 (sndE b ok h6).1 h5 h7, fun _ => rfl⟩
  | .enum e, x, tg, C, W, X, ok, h => by
    match x, h with
    | .Call (.Name y p) [z] [] q, h =>
      obtain ⟨h1, h6⟩ := ba (show (decide (y = Str.ofString "enumerate") && T.bl y && glB C.sc y && chkE T C e z && notStar z && tupX tg) = true from h)
      obtain ⟨h1, h5⟩ := ba h1
      obtain ⟨h1, h4⟩ := ba h1
      obtain ⟨h1, h3⟩ := ba h1
      obtain ⟨h1, h2⟩ := ba h1
      have e1 : y = Str.ofString "enumerate" := of_decide_eq_true h1
      subst e1
      cases tg with
      | Tuple _ _ _ => exact ⟨sndI_enum (glB_ok ok h3) (ok.bl _ h2) (sndE e ok h4).1 h5, fun _ => rfl⟩
      | _ => cases h6
  | .zip a b, x, tg, C, W, X, ok, h => by
    match x, h with
    | .Call (.Name y p) [z, u] [] q, h =>
      obtain ⟨h1, h8⟩ := ba (show (decide (y = Str.ofString "zip") && T.bl y && glB C.sc y && chkE T C a z && notStar z && chkE T C b u && notStar u && tupX tg) = true from h)
      obtain ⟨h1, h7⟩ := ba h1
      obtain ⟨h1, h6⟩ := ba h1
      obtain ⟨h1, h5⟩ := ba h1
      obtain ⟨h1, h4⟩ := ba h1
      obtain ⟨h1, h3⟩ := ba h1
      obtain ⟨h1, h2⟩ := ba h1
      have e1 : y = Str.ofString "zip" := of_decide_eq_true h1
      subst e1
      cases tg with
      | Tuple _ _ _ => exact ⟨sndI_zip (glB_ok ok h3) (ok.bl _ h2) (sndE a ok h4).1 (sndE b ok h6).1 h5 h7, fun _ => rfl⟩
      | _ => cases h8
theorem sndP : ∀ (es : Exs) (ks : List Str) {ys : List (Option Expr)} {zs : List Expr} {pos : Pos} {C : Cc} {W : WX} {X : Cx}, CxOk T G C W X → keysX ks ys = true → chkEs T C es zs = true → ks.length = zs.length → ∃ trs, PPs X pos ys zs trs ∧ PsR X.K G W ks es trs ∧
      ∀ t ∈ trs, (∀ σ H (Q R : VK), (∀ v H, Q v H → R v H) → t.1 σ H Q → t.1 σ H R) ∧ ∀ σ H (Q R : VK), (∀ v H, Q v H → R v H) → t.2 σ H Q → t.2 σ H R
  | .nil, ks, ys, zs, pos, C, W, X, ok, h1, h2, hl => by
    cases zs with
    | cons _ _ => cases h2
    | nil =>
      cases ks with
      | cons _ _ => cases hl
      | nil =>
        cases ys with
        | cons y _ => cases y <;> cases h1
        | nil => exact ⟨[], pps_nil, psR_nil, fun _ h => nomatch h⟩
  | .cons e es, ks, ys, zs, pos, C, W, X, ok, h1, h2, hl => by
    cases zs with
    | nil => cases h2
    | cons z zs =>
      obtain ⟨g1, g3⟩ := ba (show (chkE T C e z && notStar z && chkEs T C es zs) = true from h2)
      obtain ⟨g1, g2⟩ := ba g1
      match ks, ys, h1, hl with
      | k :: ks, .some (.Constant (.str s) j p) :: ys, h1, hl =>
        obtain ⟨k1, k2⟩ := ba (show (decide (s = k) && keysX ks ys) = true from h1)
        have ek : s = k := of_decide_eq_true k1
        subst ek
        obtain ⟨trs, a1, a2, a3⟩ := sndP es ks ok k2 g3 (by simpa using hl)
        refine ⟨_, pps_cons pe_str (sndE e ok g1).1 a1, psR_cons a2 a3, fun t ht => ?_⟩
        rcases List.mem_cons.mp ht with q | q
        · subst q
          exact ⟨fun σ H Q R k h => k _ _ h, rd_mono⟩
        · exact a3 t q
theorem sndL : ∀ (es : Exs) {xs : List Expr} {kk : Arguments → Expr → Scope → Bool} {C : Cc} {W : WX} {X : Cx}, CxOk T G C W X → chkL T C es kk xs = true → (∀ x ∈ xs, notStar x = true) ∧ ∃ p b sc, kk p b sc = true ∧ ∀ tl : TE, (∀ lpos, PE X (.Lambda p b sc lpos) tl) → PA X xs (tArgs X.K G W tl es)
  | .nil, xs, kk, C, W, X, ok, h => by
    match xs, h with
    | [.Lambda p b sc lp], h => exact ⟨fun x hx => by rw [List.mem_singleton.mp hx]; rfl, p, b, sc, h, fun tl ht => pa_cons (ht lp) pa_nil rfl⟩
  | .cons a es, xs, kk, C, W, X, ok, h => by
    match xs, h with
    | x :: y :: xs, h =>
      obtain ⟨h1, h3⟩ := ba (show (chkE T C a x && notStar x && chkL T C es kk (y :: xs)) = true from h)
      obtain ⟨h1, h2⟩ := ba h1
      obtain ⟨g1, p, b, sc, g2, g3⟩ := sndL es ok h3
      exact ⟨fun z hz => (List.mem_cons.mp hz).elim (fun q => by rw [q]; exact h2) (g1 z), p, b, sc, g2, fun tl ht => pa_cons (sndE a ok h1).1 (g3 tl ht) (star_ne h2 _ _)⟩
end
end
end KI


set_option Elab.async false
set_option linter.all false
set_option maxRecDepth 100000
set_option autoImplicit false
set_option maxHeartbeats 2000000
/-! Statements. -/
namespace KI
open PySem PySem.Spec PyProof.Rows L2

/-- what is wanted behind a statement's end -/
def flP (K : PySem.W.Frag) (EE : Ek) (XA : Nat → Addr) (ca mu : List Addr) (H : Hp) (r : Fl) (D : Ends) (W : WX) : Prop := match r with
  | .nx ρ S => ∀ σ' ca' mu' H', Ext ca mu H ca' mu' H' → Wd K EE ca' mu' H' S → RE K EE ca' mu' H' σ' ρ → D.nx σ' H'
  | .rt d S => ∀ v ca' mu' H', Ext ca mu H ca' mu' H' → Wd K EE ca' mu' H' S → Is K EE ca' mu' H' v d → D.rt v H'
  | .exc x ρ S => ∀ cls dd σ' ca' mu' H', Ext ca mu H ca' mu' H' → Wd K EE ca' mu' H' S → RE K EE ca' mu' H' σ' ρ → XnR K EE XA ca' mu' H' cls dd x → W cls dd σ' H'
  | .no => False
section
variable {K : PySem.W.Frag} {G : En} {ca mu ca' mu' : List Addr} {H H' : Hp} {D : Ends} {W : WX} {σ : L2.St} {ρ : Env} {S : Sto}
theorem flP.rebase {EE : Ek} {XA : Nat → Addr} {r : Fl} (h : flP K EE XA ca mu H r D W) (x : Ext ca mu H ca' mu' H') : flP K EE XA ca' mu' H' r D W := by
  cases r with
  | nx ρ S => exact fun a _ _ _ e w i => h a _ _ _ (x.trans e) w i
  | rt d S => exact fun a _ _ _ e w i => h a _ _ _ (x.trans e) w i
  | exc y ρ S => exact fun a b c _ _ _ e w r i => h a b c _ _ _ (x.trans e) w r i
  | no => exact h
/-- an expression first -/
theorem stepS {α β : Type} {rel : List Addr → List Addr → Hp → β → α → Prop} {f : Env → Sto → Res α} {g : α → Sto → Fl} {R : β → Hp → Prop} (w : Wd K G.EE ca mu H S) (re : RE K G.EE ca mu H σ ρ) (h : flP K G.EE G.XA ca mu H (onD (f ρ S) ρ g) D W)
    (k : ∀ a S' b ca' mu' H', Ext ca mu H ca' mu' H' → Wd K G.EE ca' mu' H' S' → RE K G.EE ca' mu' H' σ ρ → rel ca' mu' H' b a → flP K G.EE G.XA ca' mu' H' (g a S') D W → R b H') : Rd0 K G rel f W σ H R := by
  refine ⟨ca, mu, ρ, S, w, re, ?_⟩
  cases q : f ρ S with
  | ok a S' => rw [q] at h; exact fun b ca' mu' H' e w' i => k a S' b ca' mu' H' e w' (re.ext e) i (flP.rebase h e)
  | exc x S' => rw [q] at h; exact fun cls dd ca' mu' H' e w' i => h cls dd σ ca' mu' H' e w' (re.ext e) i
  | no => rw [q] at h; exact h
end
/-- a reading of a statement, a block -/
def RdF (K : PySem.W.Frag) (G : En) (f : Env → Sto → Fl) (W : WX) : TS := fun D σ H => ∃ ca mu ρ S, Wd K G.EE ca mu H S ∧ RE K G.EE ca mu H σ ρ ∧ flP K G.EE G.XA ca mu H (f ρ S) D W
abbrev RdS (K : PySem.W.Frag) (G : En) (n : Nat) (W : WX) (s : Sx) : TS := RdF K G (exs G.cons G.call n s) W
abbrev RdSs (K : PySem.W.Frag) (G : En) (n : Nat) (W : WX) (ss : Sxs) : TS := RdF K G (exss G.cons G.call n ss) W
section
variable {X : Cx} {st : Stmt} {sts : List Stmt} {t u : TS}
theorem PSimp (h : PS X st t) (w : ∀ D σ H, u D σ H → t D σ H) : PS X st u := ⟨fun pins s σ H D I hu => h.run pins s σ H D I (w _ _ _ hu)⟩
theorem PSsimp (h : PSs X sts t) (w : ∀ D σ H, u D σ H → t D σ H) : PSs X sts u := ⟨fun pins s σ H D I hu => h.run pins s σ H D I (w _ _ _ hu)⟩
theorem PSor (h : PS X st t) (g : PS X st u) : PS X st (fun D σ H => t D σ H ∨ u D σ H) := ⟨fun pins s σ H D I hu => hu.elim (h.run pins s σ H D I) (g.run pins s σ H D I)⟩
end
/-! ### stores that change places -/
def swNames (sc : Scope) (ts : List Expr) : List Str := ts.filterMap fun
    | .Name id pos => if sc.names.lookup id == some .local && pos.line == (ts.head?.map (·.pos.line)).getD 0 then some id else none
    | _ => none
def swK (sc : Scope) (ts vs : List Expr) : Option (Option (List Str)) :=
  if !(ts.length == 2 || ts.length == 3) || vs.length != ts.length then some none
  else if vs.any (fun v => !notStar v) then some none
  else if (swNames sc ts).length != ts.length || (swNames sc ts).eraseDups.length != (swNames sc ts).length then some none
  else if vs.all (foldedForSure 8) then some none
  else if vs.all (constantsAlone 8) then none
  else some (some (swNames sc ts))
theorem swK_ok {sc : Scope} {env : PySem.Env} {ts vs : List Expr} {k k2 : Nat} {p p2 : Pos} {r : Option (List Str)} (he : env.scope = sc) (hk : sc.kind = .function) (h : swK sc ts vs = some r) : swappedStores [.Tuple ts k p] (.Tuple vs k2 p2) env = pure r := by
  have hb : env.blockKind = .function := by unfold Env.blockKind; rw [he, hk]; rfl
  have hkn : ∀ x, env.kindOf x = sc.names.lookup x := fun x => by unfold Env.kindOf; rw [he]
  have hst : (vs.any fun | .Starred .. => true | _ => false) = vs.any (fun v => !notStar v) := by
    congr 1
    funext v
    cases v <;> rfl
  unfold swappedStores
  simp only [hb, hkn, hst]
  unfold swK at h
  change (if (!(ts.length == 2 || ts.length == 3) || vs.length != ts.length || ScopeKind.function != ScopeKind.function) = true then pure none else if (vs.any fun | .Starred .. => true | _ => false) = true then pure none
    else if ((swNames sc ts).length != ts.length || (swNames sc ts).eraseDups.length != (swNames sc ts).length) = true then pure none
    else if (vs.all (foldedForSure 8)) = true then pure none else _) = _
  rw [hst, show (ScopeKind.function != ScopeKind.function) = false from rfl, Bool.or_false]
  by_cases c1 : (!(ts.length == 2 || ts.length == 3) || vs.length != ts.length) = true
  · rw [if_pos c1] at h ⊢
    cases h
    rfl
  rw [if_neg c1] at h ⊢
  by_cases c2 : (vs.any fun v => !notStar v) = true
  · rw [if_pos c2] at h ⊢
    cases h
    rfl
  rw [if_neg c2] at h ⊢
  by_cases c3 : ((swNames sc ts).length != ts.length || (swNames sc ts).eraseDups.length != (swNames sc ts).length) = true
  · rw [if_pos c3] at h ⊢
    cases h
    rfl
  rw [if_neg c3] at h ⊢
  by_cases c4 : (vs.all (foldedForSure 8)) = true
  · rw [if_pos c4] at h ⊢
    cases h
    rfl
  rw [if_neg c4] at h ⊢
  by_cases c5 : (vs.all (constantsAlone 8)) = true
  · rw [if_pos c5] at h
    cases h
  rw [if_neg c5] at h
  rw [if_neg c5]
  cases h
  rfl
/-! ### a cell that changes -/
theorem set_get {α : Type} {xs : List α} {n m : Nat} {x y : α} (h : (xs.set n x)[m]? = some y) : (m = n ∧ y = x ∧ n < xs.length) ∨ (m ≠ n ∧ xs[m]? = some y) := by
  by_cases e : n = m
  · subst e
    by_cases hl : n < xs.length
    · rw [List.getElem?_set_self hl] at h
      exact .inl ⟨rfl, (Option.some.inj h).symm, hl⟩
    · rw [List.getElem?_eq_none (by simpa using hl)] at h; cases h
  · rw [List.getElem?_set_ne e] at h
    exact .inr ⟨fun z => e z.symm, h⟩
section
variable {K : PySem.W.Frag} {EE : Ek} {ca mu : List Addr} {H : Hp} {S : Sto} {n : Nat} {a : Addr}
theorem nd_ne {ca : List Addr} (h : ca.Nodup) {n m : Nat} {a b : Addr} (hn : ca[n]? = some a) (hm : ca[m]? = some b) (ne : m ≠ n) : b ≠ a := fun e => by
  subst e
  obtain ⟨h1, e1⟩ := List.getElem?_eq_some_iff.mp hn
  obtain ⟨h2, e2⟩ := List.getElem?_eq_some_iff.mp hm
  exact ne ((List.getElem_inj h).mp (e2.trans e1.symm))
theorem cell_upd {ob : Ob} {o : HO} (w : Wd K EE ca mu H S) (hn : ca[n]? = some a) (hm : a ∈ mu) (h : ∀ ca' mu' H', Ext ca mu H ca' mu' H' → mu' = mu → H' a = some o → ObR K EE ca' mu' H' a ob) (ho : chg o = true) :
    Ext ca mu H ca mu (upd H a o) ∧ Wd K EE ca mu (upd H a o) (S.set n ob) := by
  have hc : a ∈ ca := List.mem_of_getElem? hn
  have x : Ext ca mu H ca mu (upd H a o) := ⟨⟨[], by simp, fun _ z => nomatch z⟩, fun _ z => .inl z, fun b u q _ z => by
      rw [upd_ne fun e => z (by subst e; exact ⟨hc, hm⟩)]
      exact q, fun b z => by
      by_cases e : b = a
      · subst e; rw [upd_same]; simp
      · rw [upd_ne e]; exact z, fun _ z _ _ => z⟩
  have at_ : ∀ b, (∃ o, H b = some o ∧ chg o = true) → ∃ o', upd H a o b = some o' ∧ chg o' = true := fun b ⟨o1, e1, g1⟩ => by
    by_cases e : b = a
    · exact ⟨o, by rw [e, upd_same], ho⟩
    · exact ⟨o1, by rw [upd_ne e]; exact e1, g1⟩
  refine ⟨x, by rw [w.len, List.length_set], w.nd, fun m b u h1 h2 => ?_, fun b z => at_ b (w.tm b z), tabs_upd w hm, fun b z => at_ b (w.tc b z)⟩
  rcases set_get h2 with ⟨rfl, rfl, _⟩ | ⟨ne, h2⟩
  · rw [hn] at h1
    cases h1
    exact h _ _ _ x rfl upd_same
  · exact (w.ob m b u h1 h2).ext x id fun _ => upd_ne (nd_ne w.nd hn h1 ne)
theorem cell_frz {xs : List D} (w : Wd K EE ca mu H S) (hn : ca[n]? = some a) (hs : S[n]? = some (.lst xs)) :
    Ext ca mu H ca (mu.filter (· ≠ a)) H ∧ Wd K EE ca (mu.filter (· ≠ a)) H (S.set n .dead) ∧ Is K EE ca (mu.filter (· ≠ a)) H (.ref a) (.lst xs) := by
  have sub : ∀ b, b ∈ mu.filter (· ≠ a) → b ∈ mu := fun b h => (List.mem_filter.mp h).1
  have hc : a ∈ ca := List.mem_of_getElem? hn
  have x : Ext ca mu H ca (mu.filter (· ≠ a)) H := ⟨⟨[], by simp, fun _ z => nomatch z⟩, fun b z => .inl (sub b z), fun _ _ q _ _ => q, fun _ z => z, fun b h1 h2 _ => List.mem_filter.mpr ⟨h1, by simpa using fun e : b = a => h2 (by rw [e]; exact hc)⟩⟩
  refine ⟨x, ⟨by rw [w.len, List.length_set], w.nd, fun m b u h1 h2 => ?_, fun b z => w.tm b (sub b z), w.tb, w.tc⟩, ?_⟩
  · rcases set_get h2 with ⟨rfl, rfl, _⟩ | ⟨ne, h2⟩
    · trivial
    · have hb := w.ob m b u h1 h2
      have na : b ≠ a := nd_ne w.nd hn h1 ne
      have mm : b ∈ mu → b ∈ mu.filter (· ≠ a) := fun q1 => List.mem_filter.mpr ⟨q1, by simpa using na⟩
      cases u with
      | lst ys => obtain ⟨q1, vs, q2, q3⟩ := hb; exact ⟨mm q1, vs, q2, IsL.mono sub _ q3⟩
      | dct ys => obtain ⟨q1, vs, q2, q3⟩ := hb; exact ⟨mm q1, vs, q2, IsK.mono sub _ q3⟩
      | ins c ys => obtain ⟨q1, dx, vs, q2, q3, q4⟩ := hb; exact ⟨mm q1, dx, vs, q2, q3, IsL.mono sub _ q4⟩
      | dead => trivial
  · obtain ⟨q1, vs, q2, q3⟩ := w.ob n a _ hn hs
    exact .lst q2 (by simp) (IsL.mono sub _ q3)
theorem RE.upd {σ : L2.St} {ρ : Env} {v : V} {d : D} {i : Nat} (h : RE K EE ca mu H σ ρ) (hi : σ[i]? = some (some v)) (g : Is K EE ca mu H v d) : RE K EE ca mu H σ (ρ.set i (some d)) := by
  refine ⟨by simp [h.len], fun j e q => ?_⟩
  rcases set_get q with ⟨rfl, e2, _⟩ | ⟨ne, q⟩
  · cases e2
    exact ⟨v, hi, g⟩
  · exact h.at_ j e q
end
/-! ### rows of statements -/
theorem flP.seq {K : PySem.W.Frag} {EE : Ek} {XA : Nat → Addr} {ca mu : List Addr} {H : Hp} {r : Fl} {f : Env → Sto → Fl} {D D' : Ends} {W : WX} (h : flP K EE XA ca mu H (r.then f) D W) (hr : D'.rt = D.rt)
    (k : ∀ ρ S σ' ca' mu' H', Ext ca mu H ca' mu' H' → Wd K EE ca' mu' H' S → RE K EE ca' mu' H' σ' ρ → flP K EE XA ca' mu' H' (f ρ S) D W → D'.nx σ' H') : flP K EE XA ca mu H r D' W := by
  cases r with
  | nx ρ S => exact fun σ' ca' mu' H' x w re => k ρ S σ' ca' mu' H' x w re (flP.rebase h x)
  | rt d S => exact fun v ca' mu' H' x w i => by rw [hr]; exact h v ca' mu' H' x w i
  | exc x ρ S => exact h
  | no => exact h
section
variable {X : Cx} {G : En} {W : WX} {fuel : Nat}
theorem sndS_nil : PSs X [] (RdSs X.K G fuel W .nil) := PSsimp pss_nil fun D σ H ⟨ca, mu, ρ, S, w, re, h⟩ => h σ ca mu H Ext.refl w re
theorem sndS_cons {st : Stmt} {rest : List Stmt} {s : Sx} {ss : Sxs} (h1 : PS X st (RdS X.K G fuel W s)) (h2 : PSs X rest (RdSs X.K G fuel W ss)) : PSs X (st :: rest) (RdSs X.K G fuel W (.cons s ss)) :=
  PSsimp (pss_cons h1 h2) fun D σ H ⟨ca, mu, ρ, S, w, re, h⟩ =>
    ⟨ca, mu, ρ, S, w, re, flP.seq (f := fun ρ S => exss G.cons G.call fuel ss ρ S) h rfl fun ρ' S' σ' ca' mu' H' x w' re' h' => ⟨ca', mu', ρ', S', w', re', h'⟩⟩
theorem sndS_nev {st : Stmt} : PS X st (RdS X.K G fuel W .nev) := PSimp ps_never fun D σ H ⟨ca, mu, ρ, S, w, re, h⟩ => h
theorem sndS_nevs {sts : List Stmt} {ss : Sxs} : PSs X sts (RdSs X.K G fuel W (.cons .nev ss)) := PSsimp pss_never fun D σ H ⟨ca, mu, ρ, S, w, re, h⟩ => h
/-- a list is no longer changed: nothing in the text -/
theorem sndS_frz {sts : List Stmt} {i : Nat} {ss : Sxs} (h2 : PSs X sts (RdSs X.K G fuel W ss)) : PSs X sts (RdSs X.K G fuel W (.cons (.frz i) ss)) :=
  PSsimp h2 fun D σ H ⟨ca, mu, ρ, S, w, re, h⟩ => by
    have h : flP X.K G.EE G.XA ca mu H ((match ρ[i]? with
      | some (some (.cell n)) => (match S[n]? with
        | some (.lst xs) => Fl.nx (ρ.set i (some (.lst xs))) (S.set n .dead)
        | _ => .no)
      | _ => .no).then fun ρ S => exss G.cons G.call fuel ss ρ S) D W := h
    split at h
    · rename_i n q
      split at h
      · rename_i xs q2
        obtain ⟨v, q3, q4⟩ := re.at_ i _ q
        cases q4 with
        | cell q5 =>
          obtain ⟨x, w', i'⟩ := cell_frz w q5 q2
          exact ⟨ca, _, _, _, w', (re.ext x).upd q3 i', flP.rebase h x⟩
      · exact h.elim
    · exact h.elim
variable {e a b : Ex} {ea eb ec : Expr} {pos : Pos}
theorem sndS_set {i : Nat} {x : Str} {p : Pos} (hN : X.N.Nodup) (hi : X.N[i]? = some x) (hx : Loc X.env.scope x) (he : PE X ea (RdE X.K G W e)) (hs : swapsWith ea (some (.Name x p)) pos.line X.env = pure false) (hf : X.fn x = true ∨ X.env.scope.names.lookup x = some .local) :
    PS X (.Assign [.Name x p] ea pos) (RdS X.K G fuel W (.set i e)) :=
  PSimp (ps_set hN hi hx he hs hf) fun D σ H ⟨ca, mu, ρ, S, w, re, h⟩ => stepS w re h fun d S1 v ca1 mu1 H1 e1 w1 re1 i1 h1 => h1 _ ca1 mu1 H1 Ext.refl w1 (re1.set i i1)
theorem sndS_unp {tg : Expr} {t : Tg} (he : PE X ea (RdE X.K G W e)) (hg : PG X tg (RdG X.K G.EE t)) (hs : swapsWithSole [tg] ea pos.line X.env = pure false) (hw : swappedStores [tg] ea X.env = pure none) (h1 : (assignEach [tg] X.env).map (·.2) = [assign tg X.env]) :
    PS X (.Assign [tg] ea pos) (RdS X.K G fuel W (.unp t e)) :=
  PSimp (ps_asg he hg hs hw h1) fun D σ H ⟨ca, mu, ρ, S, w, re, h⟩ => stepS w re h fun d S1 v ca1 mu1 H1 e1 w1 re1 i1 h1 => by
    cases q : bindT t d ρ with
    | none => rw [q] at h1; exact h1.elim
    | some ρ' => rw [q] at h1; exact ⟨ca1, mu1, d, ρ, ρ', i1, re1, q, fun σ' re' _ => h1 σ' ca1 mu1 H1 Ext.refl w1 re'⟩
theorem sndS_par {i j : Nat} {x y : Str} {es : Exs} {px py pt : Pos} {kt k2 pt2} (hc : X.calm = true) (hN : X.N.Nodup) (hi : X.N[i]? = some x) (hj : X.N[j]? = some y) (hij : i ≠ j)
    (hx : X.env.scope.names.lookup x = some .local) (hy : X.env.scope.names.lookup y = some .local) (ha : PA X [ea, eb] (RdA X.K G W es))
    (hw : swappedStores [.Tuple [.Name x px, .Name y py] kt pt] (.Tuple [ea, eb] k2 pt2) X.env = pure (some [x, y])) :
    PS X (.Assign [.Tuple [.Name x px, .Name y py] kt pt] (.Tuple [ea, eb] k2 pt2) pos) (RdS X.K G fuel W (.par i j es)) :=
  PSimp (ps_par hc hN hi hj hij hx hy ha hw) fun D σ H ⟨ca, mu, ρ, S, w, re, h⟩ => stepS w re h fun ds S1 vs ca1 mu1 H1 e1 w1 re1 i1 h1 => by
    split at h1
    · cases i1 with
      | cons j1 i1 => cases i1 with
        | cons j2 i1 =>
          cases i1
          exact ⟨_, _, rfl, h1 _ ca1 mu1 H1 Ext.refl w1 ((re1.set _ j1).set _ j2)⟩
    · exact h1.elim
theorem sndS_par3 {i j l : Nat} {x y z : Str} {es : Exs} {px py pz pt : Pos} {kt k2 pt2} (hc : X.calm = true) (hN : X.N.Nodup) (hi : X.N[i]? = some x) (hj : X.N[j]? = some y) (hl : X.N[l]? = some z) (hij : i ≠ j) (hil : i ≠ l) (hjl : j ≠ l)
    (hx : X.env.scope.names.lookup x = some .local) (hy : X.env.scope.names.lookup y = some .local) (hz : X.env.scope.names.lookup z = some .local) (ha : PA X [ea, eb, ec] (RdA X.K G W es))
    (hw : swappedStores [.Tuple [.Name x px, .Name y py, .Name z pz] kt pt] (.Tuple [ea, eb, ec] k2 pt2) X.env = pure (some [x, y, z])) :
    PS X (.Assign [.Tuple [.Name x px, .Name y py, .Name z pz] kt pt] (.Tuple [ea, eb, ec] k2 pt2) pos) (RdS X.K G fuel W (.par3 i j l es)) :=
  PSimp (ps_par3 hc hN hi hj hl hij hil hjl hx hy hz ha hw) fun D σ H ⟨ca, mu, ρ, S, w, re, h⟩ => stepS w re h fun ds S1 vs ca1 mu1 H1 e1 w1 re1 i1 h1 => by
    split at h1
    · cases i1 with
      | cons j1 i1 => cases i1 with
        | cons j2 i1 => cases i1 with
          | cons j3 i1 =>
            cases i1
            exact ⟨_, _, _, rfl, h1 _ ca1 mu1 H1 Ext.refl w1 (((re1.set _ j1).set _ j2).set _ j3)⟩
    · exact h1.elim
theorem sndS_put {o i : Ex} {eo ei : Expr} {p : Pos} (he : PE X ea (RdE X.K G W e)) (ho : PE X eo (RdE X.K G W o)) (hi : PE X ei (RdE X.K G W i)) (hs : swapsWithSole [.Subscript eo ei p] ea pos.line X.env = pure false)
    (ha : ∀ v, assign (.Subscript eo ei p) X.env v = (do
      let ov ← holding [v] (eval eo X.env)
      let iv ← holding [v, ov] (eval ei X.env)
      standAt p
      holding [v, ov, iv] (setItem ov iv v)
      release [v, ov, iv] [])) : PS X (.Assign [.Subscript eo ei p] ea pos) (RdS X.K G fuel W (.put o i e)) :=
  PSimp (ps_asg he (pg_sub ho hi set_list ha) hs rfl rfl) fun D σ H ⟨ca, mu, ρ, S, w, re, h⟩ => stepS w re h fun d S1 v ca1 mu1 H1 e1 w1 re1 i1 h1 =>
    stepS w1 re1 h1 fun d2 S2 v2 ca2 mu2 H2 e2 w2 re2 i2 h2 => stepS w2 re2 h2 fun d3 S3 v3 ca3 mu3 H3 e3 w3 re3 i3 h3 => by
      split at h3
      · rename_i n k
        cases i3 with
        | int k =>
        have i2' := i2.ex e3
        cases i2' with
        | @cell _ a _ q1 =>
          split at h3
          · rename_i xs q2
            split at h3
            · rename_i j q3
              obtain ⟨g1, vs, g2, g3⟩ := w3.ob n a _ q1 q2
              obtain ⟨x, w4⟩ := cell_upd (ob := .lst (xs.set j d)) (o := .lst (vs.set j v)) w3 q1 g1 (fun ca' mu' H' x em eh => ⟨by rw [em]; exact g1, _, eh, (g3.ex x).set j (((i1.ex e2).ex e3).ex x)⟩) rfl
              exact ⟨a, vs, k, j, rfl, rfl, g2, by rw [g3.length]; exact q3, h3 σ ca3 mu3 _ x w4 (re3.ext x)⟩
            · exact h3.elim
          · exact h3.elim
      · exact h3.elim
theorem sndS_app {i : Nat} {x : Str} {p apos cpos : Pos} (hu : X.calm = true) (ho : PE X (.Name x p) (RdE X.K G W (.var i))) (he : PE X ea (RdE X.K G W e)) (hn : notStar ea = true) (hl : (apos.endLine == cpos.line) = true) :
    PS X (.Expr (.Call (.Attribute (.Name x p) "append" apos) [ea] [] cpos) pos) (RdS X.K G fuel W (.app i e)) :=
  PSimp (ps_expr (pe_bm PySem.F.plainAttrs_list PySem.F.slot_list_append PySem.F.type_list_append mt_append ho (pa_cons he pa_nil (star_ne hn _ _)) rfl (by rw [star_ne hn]; rfl) hl (star_ne hn _ _) rfl) rfl) fun D σ H ⟨ca, mu, ρ, S, w, re, h⟩ => by
    have h : flP X.K G.EE G.XA ca mu H (match ρ[i]? with
      | some (some (.cell n)) => match S[n]? with
        | some (.lst _) => onD (ev G.cons G.call e ρ S) ρ fun d S => match S[n]? with
          | some (.lst xs) => if xs.length < LN then Fl.nx ρ (S.set n (.lst (xs ++ [d]))) else .no
          | _ => .no
        | _ => .no
      | _ => .no) D W := h
    split at h
    · rename_i n q
      split at h
      · rename_i xs0 qx
        refine ⟨ca, mu, ρ, S, w, re, ?_⟩
        have e0 : ev G.cons G.call (.var i) ρ S = .ok (.cell n) S := by unfold ev; rw [q]
        rw [e0]
        intro v ca0 mu0 H0 x0 w0 i0
        cases i0 with
        | @cell _ a _ q0 =>
        have h0 := flP.rebase h x0
        obtain ⟨_, vs0, gg, _⟩ := w0.ob n a _ q0 qx
        refine ⟨.inl ⟨rfl, vs0, SqL.of gg⟩, stepS w0 (re.ext x0) h0 fun d S1 v ca1 mu1 H1 e1 w1 re1 i1 h1 => ?_⟩
        split at h1
        · rename_i xs q2
          split at h1
          · rename_i hl
            have q1 := e1.cell q0
            obtain ⟨g1, vs, g2, g3⟩ := w1.ob n a _ q1 q2
            obtain ⟨x, w4⟩ := cell_upd (ob := .lst (xs ++ [d])) (o := .lst (vs ++ [v])) w1 q1 g1 (fun ca' mu' H' x em eh => ⟨by rw [em]; exact g1, _, eh, (g3.ex x).append (.cons (i1.ex x) .nil)⟩) rfl
            exact ⟨a, vs, v, rfl, rfl, g2, by rw [LN_eq, g3.length]; exact hl, h1 σ ca1 mu1 _ x w4 (re1.ext x)⟩
          · exact h1.elim
        · exact h1.elim
      · exact h.elim
    · exact h.elim
theorem sndS_ret (he : PE X ea (RdE X.K G W e)) : PS X (.Return (some ea) pos) (RdS X.K G fuel W (.ret e)) :=
  PSimp (ps_ret he) fun D σ H ⟨ca, mu, ρ, S, w, re, h⟩ => stepS w re h fun d S1 v ca1 mu1 H1 e1 w1 re1 i1 h1 => h1 v ca1 mu1 H1 Ext.refl w1 i1
theorem sndS_retN : PS X (.Return none pos) (RdS X.K G fuel W (.ret .non)) :=
  PSimp ps_retN fun D σ H ⟨ca, mu, ρ, S, w, re, h⟩ => h .non ca mu H Ext.refl w .non
theorem sndS_ifs {sa sb : Sxs} {la lb : List Stmt} (hc : PT X ec (RdT X.K G W e)) (ha : PSs X la (RdSs X.K G fuel W sa)) (hb : PSs X lb (RdSs X.K G fuel W sb)) : PS X (.If ec la lb pos) (RdS X.K G fuel W (.ifs e sa sb)) :=
  PSimp (ps_if hc ha hb) fun D σ H ⟨ca, mu, ρ, S, w, re, h⟩ => stepS w re h fun d S1 v ca1 mu1 H1 e1 w1 re1 i1 h1 => by
    cases i1 with
    | bl k =>
      cases k with
      | true => exact ⟨true, rfl, iteT ⟨ca1, mu1, ρ, S1, w1, re1, h1⟩⟩
      | false => exact ⟨false, rfl, iteF ⟨ca1, mu1, ρ, S1, w1, re1, h1⟩⟩
    | _ => exact h1.elim
theorem sndS_exp (he : PE X ea (RdE X.K G W e)) (hs : swapsWith ea none pos.line X.env = pure false) : PS X (.Expr ea pos) (RdS X.K G fuel W (.exp e)) :=
  PSimp (ps_expr he hs) fun D σ H ⟨ca, mu, ρ, S, w, re, h⟩ => stepS w re h fun d S1 v ca1 mu1 H1 e1 w1 re1 i1 h1 => h1 σ ca1 mu1 H1 Ext.refl w1 re1
theorem sndS_for {tg iter : Expr} {t : Tg} {it : It} {lb : List Stmt} {sb : Sxs} (hp : PassesOwn (model X.prog X.w) X.A X.env X.xe) (hc : X.calm = true) (hi : PI X tg iter (RdI X.K G W it)) (hg : PG X tg (RdG X.K G.EE t)) (hb : PSs X lb (RdSs X.K G fuel W sb)) (hs : ∀ x, foldedSetIterable iter X.env x = pure x) :
    PS X (.For tg iter lb [] pos) (RdS X.K G fuel W (.for_ t it sb)) :=
  PSimp (ps_for hp hc hi hg hb hs) fun D σ H ⟨ca, mu, ρ, S, w, re, h⟩ => stepS w re h fun xs S1 J ca1 mu1 H1 e1 w1 re1 wk h1 => by
    refine ⟨fun i m σ H => m = xs.length - i ∧ i ≤ xs.length ∧ ∃ ca2 mu2 ρ2 S2, Ext ca1 mu1 H1 ca2 mu2 H ∧ Wd X.K G.EE ca2 mu2 H S2 ∧ RE X.K G.EE ca2 mu2 H σ ρ2 ∧ flP X.K G.EE G.XA ca2 mu2 H (evFor t (exss G.cons G.call fuel sb) (xs.drop i) ρ2 S2) D W,
      ⟨xs.length, by simp, Nat.zero_le _, ca1, mu1, ρ, S1, Ext.refl, w1, re1, by rw [List.drop_zero]; exact h1⟩, ?_⟩
    rintro i m σ2 H2 ⟨rfl, hi2, ca2, mu2, ρ2, S2, x2, w2, re2, h2⟩
    by_cases hlt : i < xs.length
    · right
      refine ⟨wk.goes i ca2 mu2 H2 hlt x2, fun σ' H' => i + 1 ≤ xs.length ∧ ∃ ca2 mu2 ρ2 S2, Ext ca1 mu1 H1 ca2 mu2 H' ∧ Wd X.K G.EE ca2 mu2 H' S2 ∧ RE X.K G.EE ca2 mu2 H' σ' ρ2 ∧ flP X.K G.EE G.XA ca2 mu2 H' (evFor t (exss G.cons G.call fuel sb) (xs.drop (i + 1)) ρ2 S2) D W,
        fun σ' H' ⟨p1, p2⟩ => ⟨xs.length - (i + 1), by omega, rfl, p1, p2⟩, fun v H3 y => ?_⟩
      obtain ⟨d, qd, x3, w3, i3⟩ := wk.yields i v ca2 mu2 H2 H3 S2 hlt x2 w2 y
      have hdrop : xs.drop i = d :: xs.drop (i + 1) := by
        rw [List.drop_eq_getElem_cons hlt]
        congr 1
        have := List.getElem?_eq_getElem hlt
        rw [this] at qd
        exact Option.some.inj qd
      rw [hdrop] at h2
      have h2 : flP X.K G.EE G.XA ca2 mu2 H2 (match bindT t d ρ2 with
        | some ρ' => (exss G.cons G.call fuel sb ρ' S2).then fun ρ S => evFor t (exss G.cons G.call fuel sb) (xs.drop (i + 1)) ρ S
        | none => .no) D W := h2
      cases qb : bindT t d ρ2 with
      | none => rw [qb] at h2; exact h2.elim
      | some ρ3 =>
        rw [qb] at h2
        refine ⟨ca2, mu2, d, ρ2, ρ3, i3, re2.ext x3, qb, fun σ4 re4 _ => ⟨ca2, mu2, ρ3, S2, w3, re4, flP.seq (flP.rebase h2 x3) rfl fun ρ' S' σ' ca' mu' H' x' w' re' h' => ⟨hlt, ca', mu', ρ', S', x2.trans (x3.trans x'), w', re', h'⟩⟩⟩
    · left
      have e : i = xs.length := by omega
      subst e
      rw [List.drop_length] at h2
      exact ⟨wk.stops ca2 mu2 H2 x2, h2 σ2 ca2 mu2 H2 Ext.refl w2 re2⟩
theorem sndS_whl {lb : List Stmt} {sb : Sxs} (hp : PassesOwn (model X.prog X.w) X.A X.env X.xe) (hc : PT X ec (RdT X.K G W e)) (hb : PSs X lb (RdSs X.K G fuel W sb)) : PS X (.While ec lb [] pos) (RdS X.K G fuel W (.whl e sb)) :=
  PSimp (ps_while hp hc hb) fun D σ H ⟨ca, mu, ρ, S, w, re, h⟩ => by
    refine ⟨fun m σ H => ∃ ca mu ρ S, Wd X.K G.EE ca mu H S ∧ RE X.K G.EE ca mu H σ ρ ∧ flP X.K G.EE G.XA ca mu H (evWhl (ev G.cons G.call e) (exss G.cons G.call fuel sb) m ρ S) D W, ⟨fuel, ca, mu, ρ, S, w, re, h⟩, ?_⟩
    rintro m σ2 H2 ⟨ca2, mu2, ρ2, S2, w2, re2, h2⟩
    cases m with
    | zero => exact h2.elim
    | succ m =>
      refine stepS w2 re2 h2 fun d S3 v ca3 mu3 H3 e3 w3 re3 i3 h3 => ?_
      cases i3 with
      | bl k =>
        cases k with
        | true => exact ⟨true, rfl, iteT ⟨fun σ' H' => ∃ ca mu ρ S, Wd X.K G.EE ca mu H' S ∧ RE X.K G.EE ca mu H' σ' ρ ∧ flP X.K G.EE G.XA ca mu H' (evWhl (ev G.cons G.call e) (exss G.cons G.call fuel sb) m ρ S) D W, fun σ' H' p => ⟨m, Nat.lt_succ_self m, p⟩,
            ca3, mu3, ρ2, S3, w3, re3, flP.seq h3 rfl fun ρ' S' σ' ca' mu' H' x' w' re' h' => ⟨ca', mu', ρ', S', w', re', h'⟩⟩⟩
        | false => exact ⟨false, rfl, iteF (h3 σ2 ca3 mu3 H3 Ext.refl w3 re3)⟩
      | _ => exact h3.elim
theorem put_is {K : PySem.W.Frag} {EE : Ek} {ca mu : List Addr} {H : Hp} {f : Str} {v : V} {d : D} (hv : Is K EE ca mu H v d) : ∀ {vs : List (Str × V)} {fs : List (Str × D)}, vs.map (·.1) = fs.map (·.1) → IsL K EE ca mu H (vs.map (·.2)) (fs.map (·.2)) →
    (putF f v vs).map (·.1) = (putD f d fs).map (·.1) ∧ IsL K EE ca mu H ((putF f v vs).map (·.2)) ((putD f d fs).map (·.2))
  | [], [], _, _ => ⟨rfl, .cons hv .nil⟩
  | [], _ :: _, h, _ => by cases h
  | _ :: _, [], h, _ => by cases h
  | (g, u) :: vs, (g', e) :: fs, h, i => by
    have h1 : g = g' ∧ vs.map (·.1) = fs.map (·.1) := by simpa using h
    obtain ⟨rfl, h2⟩ := h1
    cases i with
    | cons i1 i2 =>
      obtain ⟨a1, a2⟩ := put_is hv h2 i2
      unfold putF putD
      by_cases q : g = f
      · rw [if_pos q, if_pos q]
        exact ⟨by simpa using h2, .cons hv i2⟩
      · rw [if_neg q, if_neg q]
        exact ⟨by simpa using a1, .cons i1 a2⟩
theorem sndS_sfd {c : Nat} {f : Str} {o : Ex} {eo : Expr} {p : Pos} (cl : Cls X.K (G.EE.CA c)) (na : NoAttr X.K (G.EE.CA c) f) (he : PE X ea (RdE X.K G W e)) (ho : PE X eo (RdE X.K G W o)) (hs : swapsWith ea (some (.Attribute eo f p)) pos.line X.env = pure false) : PS X (.Assign [.Attribute eo f p] ea pos) (RdS X.K G fuel W (.sfd c f o e)) :=
  PSimp (ps_fld ho he hs) fun D σ H ⟨ca, mu, ρ, S, w, re, h⟩ => stepS w re h fun d S1 v ca1 mu1 H1 e1 w1 re1 i1 h1 =>
    stepS w1 re1 h1 fun d2 S2 v2 ca2 mu2 H2 e2 w2 re2 i2 h2 => by
      cases q : sfdD S2 c f d d2 with
      | none => rw [q] at h2; exact h2.elim
      | some r =>
        rw [q] at h2
        cases d2 with
        | cell n =>
          simp only [sfdD] at q
          cases q2 : S2[n]? with
          | none => rw [q2] at q; cases q
          | some ob =>
            rw [q2] at q
            cases ob with
            | ins c' fs =>
              simp only at q
              split at q
              · rename_i z
                obtain ⟨z1, z2⟩ := z
                subst z1
                cases q
                cases i2 with
                | @cell _ a _ ha =>
                  obtain ⟨g1, dx, vs, g2, g3, g4⟩ := w2.ob n a _ ha q2
                  obtain ⟨x, w4⟩ := cell_upd (ob := .ins c' (putD f d fs)) (o := .ins (G.EE.CA c') dx (putF f v vs)) w2 ha g1 (fun ca' mu' H' x em eh => by
                    obtain ⟨b1, b2⟩ := put_is (f := f) ((i1.ex e2).ex x) g3 (g4.ex x)
                    exact ⟨by rw [em]; exact g1, dx, _, eh, b1, b2⟩) rfl
                  have hl : vs.length = fs.length := by have := congrArg List.length g3; simpa using this
                  exact ⟨a, _, dx, vs, rfl, g2, cl, na, by omega, h2 σ ca2 mu2 _ x w4 (re2.ext x)⟩
              · cases q
            | _ => cases q
        | _ => cases q
theorem sndS_dput {o i : Ex} {eo ei : Expr} {p : Pos} (hu : X.A.units + 65 < cLine) (he : PE X ea (RdE X.K G W e)) (ho : PE X eo (RdE X.K G W o)) (hi : PE X ei (RdE X.K G W i)) (hs : swapsWith ea (some (.Subscript eo ei p)) pos.line X.env = pure false) : PS X (.Assign [.Subscript eo ei p] ea pos) (RdS X.K G fuel W (.dput o i e)) :=
  PSimp (ps_dput (by omega) ho hi he hs) fun D σ H ⟨ca, mu, ρ, S, w, re, h⟩ => stepS w re h fun d S1 v ca1 mu1 H1 e1 w1 re1 i1 h1 =>
    stepS w1 re1 h1 fun d2 S2 v2 ca2 mu2 H2 e2 w2 re2 i2 h2 => stepS w2 re2 h2 fun d3 S3 v3 ca3 mu3 H3 e3 w3 re3 i3 h3 => by
      have i2' := i2.ex e3
      cases d2 with
      | cell n =>
        have h3 : flP X.K G.EE G.XA ca3 mu3 H3 (match keyOf d3 with
          | some k => (match S3[n]? with
            | some (.dct kvs) => if kvs.length < 1000 then Fl.nx ρ (S3.set n (.dct (dicPut kvs k d))) else .no
            | _ => .no)
          | none => .no) D W := by
            cases qk : keyOf d3 with
            | none => simp only [qk] at h3; exact h3
            | some k => simp only [qk] at h3; exact h3
        cases qk : keyOf d3 with
        | none => rw [qk] at h3; exact h3.elim
        | some k =>
          rw [qk] at h3
          cases i2' with
          | @cell _ a _ q1 =>
            cases q2 : S3[n]? with
            | none => simp only [q2] at h3; exact h3.elim
            | some ob =>
              cases ob with
              | dct kvs =>
                simp only [q2] at h3
                split at h3
                · rename_i hl
                  obtain ⟨g1, vs, g2, g3⟩ := w3.ob n a _ q1 q2
                  obtain ⟨x, w4⟩ := cell_upd (ob := .dct (dicPut kvs k d)) (o := .dK (putK vs k v)) w3 q1 g1 (fun ca' mu' H' x em eh => ⟨by rw [em]; exact g1, _, eh, IsK.put (g3.ex x) (((i1.ex e2).ex e3).ex x)⟩) rfl
                  have ek := keyOf_kV i3 qk
                  subst ek
                  exact ⟨a, _, rfl, DPut.k g2 (by rw [g3.length]; have : (1000 : Nat) ≤ sizeLine := by decide
                                                  omega), h3 σ ca3 mu3 _ x w4 (re3.ext x)⟩
                · exact h3.elim
              | _ => simp only [q2] at h3; exact h3.elim
      | _ => exact h3.elim
end
end KI


set_option Elab.async false
set_option linter.all false
set_option maxRecDepth 100000
set_option autoImplicit false
set_option maxHeartbeats 2000000
/-! Raise, try. -/
namespace KI
open PySem PySem.Spec PyProof.Rows L2

/-! ### the checks -/
/-- raise C("..") -/
def raiB (T : Tb) (C : Cc) (c : Nat) : Stmt → Bool
  | .Raise (some (.Call (.Name y _) [.Constant (.str _) _ _] [] _)) none _ => C.calm && decide (T.xc c = some y) && decide (c < 100) && glB C.sc y && nmOk y
  | _ => false
mutual
/-- what a handler of the class hc returns; n: the name of the exception -/
def chkHx (T : Tb) (C : Cc) (hc : Nat) (n : Option Str) : Hx → Expr → Bool
  | .str s, x => (match x with
    | .Constant (.str t) _ _ => decide (t = s)
    | _ => false)
  | .bl b, x => (match x with
    | .Constant (.bool t) _ _ => decide (t = b)
    | _ => false)
  | .non, x => (match x with
    | .Constant .none _ _ => true
    | _ => false)
  | .fld f, x => (match x with
    | .Attribute (.Name y _) g _ => decide (hc ≠ 0) && decide (T.xf hc = some f) && (T.xc hc).isSome && decide (g = f) && decide (n = some y) && visB C.sc y && nmOk y
    | _ => false)
  | .tup es, x => (match x with
    | .Tuple ys _ _ => decide (es.length ≤ 1000) && chkHxs T C hc n es ys
    | _ => false)
  | .isx c a b, x => (match x with
    | .IfExp (.Call (.Name i _) [.Name y _, .Name z _] [] _) ea eb _ => decide (i = Str.ofString "isinstance") && T.bl i && glB C.sc i && decide (n = some y) && visB C.sc y && nmOk y && decide (T.xc c = some z) && glB C.sc z && nmOk z && chkHx T C hc n a ea && chkHx T C hc n b eb
    | _ => false)
def chkHxs (T : Tb) (C : Cc) (hc : Nat) (n : Option Str) : List Hx → List Expr → Bool
  | [], xs => xs.isEmpty
  | h :: hs, xs => (match xs with
    | x :: xs => chkHx T C hc n h x && notStar x && chkHxs T C hc n hs xs
    | [] => false)
end
def chkHb (T : Tb) (C : Cc) (hc : Nat) (n : Option Str) : Hb → List Stmt → Bool
  | .ret h, xs => (match xs with
    | [.Return (some e) _] => chkHx T C hc n h e
    | _ => false)
  | .set i s, xs => (match xs with
    | [.Assign [.Name y _] (.Constant (.str t) _ _) _] => decide (t = s) && decide (C.N[i]? = some y) && locB C.sc C.ss y
    | _ => false)
/-- handlers without a name -/
def chkHs (T : Tb) (C : Cc) : List Hd → List ExceptHandler → Bool
  | [], xs => xs.isEmpty
  | h :: hs, xs => (match xs with
    | .ExceptHandler (some (.Name y _)) none (b :: bs) _ :: r => decide (h.n = none) && decide (T.xc h.c = some y) && glB C.sc y && nmOk y && chkHb T C h.c none h.b (b :: bs) && chkHs T C hs r
    | _ => false)
/-- one handler with a name -/
def chkHn (T : Tb) (C : Cc) : List Hd → List ExceptHandler → Bool
  | [h], [.ExceptHandler (some (.Name y _)) (some n) (b :: bs) _] => (match h.n, h.b with
    | some i, .ret _ => decide (C.N[i]? = some n) && decide (C.sc.names.lookup n = some .local) && decide (T.xc h.c = some y) && glB C.sc y && nmOk y && chkHb T C h.c (some n) h.b (b :: bs)
    | _, _ => false)
  | _, _ => false
section
variable {T : Tb} {G : En} {C : Cc} {W : WX} {X : Cx} {fuel : Nat}
theorem nmOk_ok' {y : Str} (h : nmOk y = true) : (y == ("__debug__" : Str)) = false := by
  obtain ⟨h1, _⟩ := ba h
  simpa using h1
theorem sndS_rai {c : Nat} {x : Stmt} (ok : CxOk T G C W X) (h : raiB T C c x = true) : PS X x (RdS X.K G fuel W (.rai c)) := by
  unfold raiB at h
  split at h
  · rename_i y p m j p2 pos pos'
    obtain ⟨h1, h5⟩ := ba h
    obtain ⟨h1, h4⟩ := ba h1
    obtain ⟨h1, h3⟩ := ba h1
    obtain ⟨h1, h2⟩ := ba h1
    have h2 := of_decide_eq_true h2
    obtain ⟨F, hpl, _⟩ := ok.xc c y h2
    refine PSimp (ps_raise (ok.calm h1) ok.tk (pmk_own PySem.F.excBase_ValueError (hpl (of_decide_eq_true h3)) F.g F.k (raises_own F.b F.t) (glB_ok ok h4) (nmOk_ok' h5))) fun D σ H ⟨ca, mu, ρ, S, w, re, h⟩ => ?_
    exact h _ none σ ca mu H Ext.refl w re ⟨⟨rfl, by rw [← ok.tb, h2]; rfl⟩, rfl⟩
  · cases h
/-- the place of a try's body -/
theorem CxOk.tr (ok : CxOk T G C W X) {W' : WX} {pn : List (Addr × Obj)} {xe : Value → Shared → Prop} (tk : Takes (X.tr pn xe) W') : CxOk T G C W' (X.tr pn xe) :=
  ⟨ok.N, ok.nd, ok.sc, ok.st, ok.calm, ok.un, tk, ok.tb, ok.fn, ok.ar, ok.lm, ok.lx, ok.xc, ok.cn, ok.bl, ok.xi, ok.ow⟩
/-- raise C(e) of a class with a field -/
def raiFB (T : Tb) (C : Cc) (c : Nat) (f : Str) (e : Ex) : Stmt → Bool
  | .Raise (some (.Call (.Name y _) [v] [] _)) none _ => C.calm && decide (T.xc c = some y) && decide (T.xf c = some f) && glB C.sc y && nmOk y && chkE T C e v && notStar v
  | _ => false
theorem sndS_raiF {c : Nat} {f : Str} {e : Ex} {x : Stmt} (ok : CxOk T G C W X) (h : raiFB T C c f e x = true) : PS X x (RdS X.K G fuel W (.raiF c f e)) := by
  unfold raiFB at h
  split at h
  · rename_i y p v pos pos'
    obtain ⟨h1, h7⟩ := ba h
    obtain ⟨h1, h6⟩ := ba h1
    obtain ⟨h1, h5⟩ := ba h1
    obtain ⟨h1, h4⟩ := ba h1
    obtain ⟨h1, h3⟩ := ba h1
    obtain ⟨h1, h2⟩ := ba h1
    have h2 := of_decide_eq_true h2
    have h3 := of_decide_eq_true h3
    obtain ⟨XF, _, _⟩ := ok.xc c y h2
    obtain ⟨⟨fI, fd, sf, q, msg, b, cc, cda, F⟩, hr⟩ := ok.xi c f y h3 h2
    refine PSimp (ps_raise (ok.calm h1) ok.tk (pmk_xi F hr (glB_ok ok h4) XF.g (sndE e ok h6).1 h7 (nmOk_ok' h5))) fun D σ H ⟨ca, mu, ρ, S, w, re, h⟩ => ?_
    have h : flP X.K G.EE G.XA ca mu H (onD (ev G.cons G.call e ρ S) ρ fun d S => .exc ⟨c, [(f, d)]⟩ ρ S) D W := h
    refine stepS w re h fun d S1 v1 ca1 mu1 H1 e1 w1 re1 i1 h1 => ?_
    intro dx hdx
    have x2 := Ext.new (ca := ca1) (mu := mu1) (o := .xd [(f, v1)]) hdx
    exact h1 _ (some dx) σ ca1 mu1 _ x2 (w1.new hdx) (re1.ext x2) ⟨⟨rfl, by rw [← ok.tb, h2]; rfl⟩, dx, [(f, v1)], rfl, (w1.fresh hdx).1, upd_same, rfl, .cons (i1.ext x2) .nil⟩
  · cases h
/-- the exception's dict, if it has one, is told -/
def DOk (H : Hp) (d : Option Addr) : Prop := ∀ dd, d = some dd → ∃ fs, H dd = some (.xd fs)
/-- isinstance of the exception that the suite holds -/
theorem call_isX {a D : Addr} {oe : Obj} {d : Option Addr} {pn : List (Addr × Obj)} (C : ExcC X.K D) (hz : Zc (.ref D) d oe) (hf : ∃ vs, oe.data = .fields vs) : CallR (X.suite a ((a, oe) :: pn)) (.builtin "isinstance") (fun xs H Q => DOk H d ∧ rIsE X.K D a xs H Q) := by
  intro pins s σ H xs us Q I r h
  obtain ⟨hd, c, cv, b, rfl, hcv, e, q⟩ := h
  cases r with
  | cons rx rr =>
    cases rr with
    | cons rt rr =>
      cases rr
      cases rx
      have ec := hcv _ rt
      subst ec
      obtain ⟨hget, _⟩ := I.pin (a, oe) (List.mem_append.mpr (.inl List.mem_cons_self))
      obtain ⟨vs, hv⟩ := hf
      have J : ∃ od, PySem.W.InstAt s.heap a oe D od := by
        obtain ⟨oc, od, oda, osl⟩ := oe
        obtain ⟨h1, h2⟩ := hz
        dsimp only at h1 h2 hv
        subst h1 h2 hv
        cases od with
        | none => exact ⟨none, hget, rfl, rfl, trivial⟩
        | some dd =>
          obtain ⟨fs, ed⟩ := hd dd rfl
          have hx : ObjOk X.prog X.w H s.heap dd (.xd fs) := I.hok dd _ ed
          obtain ⟨mA, ⟨o, _, _, ho, _⟩, _⟩ := hx
          exact ⟨some o, hget, rfl, rfl, ho⟩
      obtain ⟨od, J⟩ := J
      exact PySem.W.kia_one (PySem.W.kitx_exc (by obtain ⟨cd, hc, _⟩ := PySem.W.any_some C.hd; rw [hc]; rfl) C.hg C.hk C.hs C.ha C.hn C.ht C.hm) I.kIn J e (fun z => nomatch z) fun tk => ⟨.bl b, H, I.kept (t' := tk) fun _ _ z => z, rfl, q⟩
theorem XnR.ext {K : PySem.W.Frag} {EE : Ek} {XA : Nat → Addr} {ca mu ca' mu' : List Addr} {H H' : Hp} {cls : Value} {dd : Option Addr} {x : Xn} (h : XnR K EE XA ca mu H cls dd x) (e : Ext ca mu H ca' mu' H') : XnR K EE XA ca' mu' H' cls dd x := by
  refine ⟨h.1, ?_⟩
  have h2 := h.2
  cases q : x.fs with
  | nil => rw [q] at h2; exact h2
  | cons a as =>
    rw [q] at h2
    obtain ⟨d, vs, g1, g2, g3, g4, g5⟩ := h2
    have nx : notTbl (.xd vs) := fun _ z => nomatch z
    exact ⟨d, vs, g1, (e.out g3 nx g2).2, (e.out g3 nx g2).1, g4, IsL.ext e _ g5⟩
theorem XnR.dOk {K : PySem.W.Frag} {EE : Ek} {XA : Nat → Addr} {ca mu : List Addr} {H : Hp} {cls : Value} {dd : Option Addr} {x : Xn} (h : XnR K EE XA ca mu H cls dd x) : DOk H dd := fun d e => by
  have h2 := h.2
  cases q : x.fs with
  | nil => rw [q] at h2; have h2 : dd = none := h2; rw [h2] at e; cases e
  | cons a as =>
    rw [q] at h2
    obtain ⟨d2, vs, g1, g2, g3, _⟩ := h2
    rw [g1] at e
    cases e
    exact ⟨vs, g3⟩
/-- what is returned of the exception a, of the class cls, with the dict d; i: its slot; hc: the handler's class -/
def RdH (K : PySem.W.Frag) (G : En) (hc : Nat) (i : Option Nat) (a : Addr) (cls : Value) (d : Option Addr) (h : Hx) : TE := fun σ H Q => ∃ ca mu S x dv, Wd K G.EE ca mu H S ∧ XnR K G.EE G.XA ca mu H cls d x ∧ subX x.cls hc = true ∧ (∀ j, i = some j → σ[j]? = some (some (.ref a))) ∧ hev x h = some dv ∧
  ∀ v ca' mu' H', Ext ca mu H ca' mu' H' → Wd K G.EE ca' mu' H' S → Is K G.EE ca' mu' H' v dv → Q v H'
def RdHs (K : PySem.W.Frag) (G : En) (hc : Nat) (i : Option Nat) (a : Addr) (cls : Value) (d : Option Addr) (h : List Hx) : TA := fun σ H Q => ∃ ca mu S x dv, Wd K G.EE ca mu H S ∧ XnR K G.EE G.XA ca mu H cls d x ∧ subX x.cls hc = true ∧ (∀ j, i = some j → σ[j]? = some (some (.ref a))) ∧ hevs x h = some dv ∧
  ∀ v ca' mu' H', Ext ca mu H ca' mu' H' → Wd K G.EE ca' mu' H' S → IsL K G.EE ca' mu' H' v dv → Q v H'
theorem hevs_len {x : Xn} : ∀ {hs : List Hx} {ds : List D}, hevs x hs = some ds → ds.length = hs.length
  | [], ds, h => by
    have h : some [] = some ds := h
    cases h
    rfl
  | h :: hs, ds, e => by
    have e : (match hev x h with
      | some d => (hevs x hs).map (d :: ·)
      | none => none) = some ds := e
    cases q : hev x h with
    | none => rw [q] at e; cases e
    | some d =>
      rw [q] at e
      have e : (hevs x hs).map (d :: ·) = some ds := e
      cases q2 : hevs x hs with
      | none => rw [q2] at e; cases e
      | some r => rw [q2] at e; cases e; rw [List.length_cons, hevs_len q2]; rfl
mutual
theorem snd_hx (ok : CxOk T G C W X) {hc : Nat} {a : Addr} {oe : Obj} {cls : Value} {d : Option Addr} {pn : List (Addr × Obj)} (hz : Zc cls d oe) (hf : ∃ vs, oe.data = .fields vs) {n : Option Str} {i : Option Nat} (hi : ∀ y, n = some y → ∃ j, i = some j ∧ C.N[j]? = some y) : ∀ (h : Hx) {e : Expr}, chkHx T C hc n h e = true → PE (X.suite a ((a, oe) :: pn)) e (RdH X.K G hc i a cls d h)
  | .str s, e, h => by
    unfold chkHx at h
    split at h
    · have := of_decide_eq_true h
      subst this
      exact PEimp pe_str fun σ H Q ⟨ca, mu, S, x, dv, w, _, _, _, he, k⟩ => by
        cases he
        exact k _ ca mu H Ext.refl w (.str _)
    · cases h
  | .bl b, e, h => by
    unfold chkHx at h
    split at h
    · have := of_decide_eq_true h
      subst this
      exact PEimp pe_bl fun σ H Q ⟨ca, mu, S, x, dv, w, _, _, _, he, k⟩ => by
        cases he
        exact k _ ca mu H Ext.refl w (.bl _)
    · cases h
  | .non, e, h => by
    unfold chkHx at h
    split at h
    · exact PEimp pe_non fun σ H Q ⟨ca, mu, S, x, dv, w, _, _, _, he, k⟩ => by
        cases he
        exact k _ ca mu H Ext.refl w .non
    · cases h
  | .fld f, e, h => by
    unfold chkHx at h
    split at h
    · rename_i y yp g pos
      obtain ⟨h1, k7⟩ := ba h
      obtain ⟨h1, k6⟩ := ba h1
      obtain ⟨h1, k5⟩ := ba h1
      obtain ⟨h1, k4⟩ := ba h1
      obtain ⟨h1, k3⟩ := ba h1
      obtain ⟨k1, k2⟩ := ba h1
      have k1 := of_decide_eq_true k1
      have k2 := of_decide_eq_true k2
      have e4 := of_decide_eq_true k4
      subst e4
      obtain ⟨yc, hyc⟩ := Option.isSome_iff_exists.mp k3
      obtain ⟨XF, _, _⟩ := ok.xc hc yc hyc
      obtain ⟨⟨fI, fd, sf, q, msg, b, cc, cda, F⟩, _⟩ := ok.xi hc g yc k2 hyc
      obtain ⟨j, hj, hN⟩ := hi y (of_decide_eq_true k5)
      have hv : Vis X.env.scope y := visB_ok ok k6
      have hvar : PE (X.suite a ((a, oe) :: pn)) (.Name y yp) (tVar j) := pe_var (X := X.suite a ((a, oe) :: pn)) (show X.N[j]? = some y by rw [ok.N]; exact hN) hv (nmOk_ok' k7) (by
        obtain ⟨_, z⟩ := ba k7
        simpa using z)
      refine PEimp (pe_xf (X := X) ⟨XF.e.hg, XF.e.hk, XF.e.hs, XF.e.hd⟩ F.no hz hf hvar) fun σ H Q ⟨ca, mu, S, x, dv, w, xr, hs, hsl, he, k⟩ => ?_
      have he : x.fs.lookup g = some dv := he
      have ec : x.cls = hc := by
        rcases Bool.or_eq_true_iff.mp hs with z | z
        · exact of_decide_eq_true z
        · exact absurd (of_decide_eq_true z) k1
      refine ⟨.ref a, hsl j hj, rfl, by rw [xr.1.1, ec], ?_⟩
      have x2 := xr.2
      cases qf : x.fs with
      | nil => rw [qf] at he; cases he
      | cons p ps =>
        rw [qf] at x2 he
        obtain ⟨dd, vs, g1, g2, g3, g4, g5⟩ := x2
        obtain ⟨v, b1, b2⟩ := (look_is g4 g5).1 dv he
        exact ⟨dd, vs, v, g1, g3, b1, k v ca mu H Ext.refl w b2⟩
    · cases h
  | .tup es, e, h => by
    unfold chkHx at h
    split at h
    · obtain ⟨hlen, h⟩ := ba h
      have hlen := of_decide_eq_true hlen
      refine PEimp (pe_tup (snd_hxs ok hz hf hi es h).1) fun σ H Q ⟨ca, mu, S, x, dv, w, xr, hs, hsl, he, k⟩ => ?_
      have he : (hevs x es).map .tup = some dv := he
      cases q : hevs x es with
      | none => rw [q] at he; cases he
      | some ds =>
        rw [q] at he
        cases he
        refine ⟨ca, mu, S, x, ds, w, xr, hs, hsl, q, fun vs ca1 mu1 H1 e1 w1 i1 => ⟨?_, fun p hp => ?_⟩⟩
        · rw [i1.length, hevs_len q, LN_eq]
          show _ ≤ 16777216
          omega
        · have x2 := Ext.new (ca := ca1) (mu := mu1) (o := .tup vs) hp
          exact k _ ca1 mu1 _ (e1.trans x2) (w1.new hp) (.tup (.inl ⟨.inl upd_same, (w1.fresh hp).1⟩) (i1.ext x2))
    · cases h
  | .isx c p q, e, h => by
    unfold chkHx at h
    split at h
    · rename_i i' ip y yp z zp cp ea eb ipos
      obtain ⟨h1, k11⟩ := ba h
      obtain ⟨h1, k10⟩ := ba h1
      obtain ⟨h1, k9⟩ := ba h1
      obtain ⟨h1, k8⟩ := ba h1
      obtain ⟨h1, k7⟩ := ba h1
      obtain ⟨h1, k6⟩ := ba h1
      obtain ⟨h1, k5⟩ := ba h1
      obtain ⟨h1, k4⟩ := ba h1
      obtain ⟨h1, k3⟩ := ba h1
      obtain ⟨h1, k2⟩ := ba h1
      have e1 : i' = Str.ofString "isinstance" := of_decide_eq_true h1
      subst e1
      obtain ⟨j, hj, hN⟩ := hi y (of_decide_eq_true k4)
      have k7 := of_decide_eq_true k7
      obtain ⟨F, _, _⟩ := ok.xc c z k7
      have ra := snd_hx (hc := hc) (a := a) (pn := pn) ok hz hf hi p k10
      have rb := snd_hx (hc := hc) (a := a) (pn := pn) ok hz hf hi q k11
      refine ⟨fun pins s σ H Q I hh => ?_⟩
      obtain ⟨ca, mu, S, x, dv, w, xr, hs, hsl, he, k⟩ := hh
      have he : (bif subX x.cls c then hev x p else hev x q) = some dv := he
      obtain ⟨⟨ec, hxs⟩, hd⟩ := id xr
      subst ec
      obtain ⟨yx, hyx⟩ := Option.isSome_iff_exists.mp hxs
      rw [← ok.tb] at hyx
      obtain ⟨Fx, _, _⟩ := ok.xc x.cls yx hyx
      have hk := ((ok.xc c z k7).2.2 x.cls yx hyx).2
      have hv : Vis X.env.scope y := visB_ok ok k5
      have hgz : Gl X z := glB_ok ok k8
      have hgi : Gl X (Str.ofString "isinstance") := glB_ok ok k3
      have hmi : X.mg (Str.ofString "isinstance") = none := ok.bl _ k2
      have hvar : PE (X.suite a ((a, oe) :: pn)) (.Name y yp) (tVar j) := pe_var (X := X.suite a ((a, oe) :: pn)) (show X.N[j]? = some y by rw [ok.N]; exact hN) hv (nmOk_ok' k6) (by
        obtain ⟨_, g⟩ := ba k6
        simpa using g)
      have hcls : PE (X.suite a ((a, oe) :: pn)) (.Name z zp) (tC (.ref (G.XA c))) := pe_glob (X := X.suite a ((a, oe) :: pn)) hgz F.g (v := .ref (G.XA c)) rfl (nmOk_ok' k9)
      have hcond := pt_val (pe_callB (X := X.suite a ((a, oe) :: pn)) (p := ip) (pos := cp) (call_isX (X := X) (pn := pn) Fx.e hz hf) hgi hmi boot_isinstance (pa_cons hvar (pa_cons hcls pa_nil)) (by decide) (by decide))
      refine (pe_ifExp (pos := ipos) hcond ra rb).run pins s σ H Q I ?_
      refine ⟨.ref a, hsl j hj, xr.dOk, .ref (G.XA c), .ref (G.XA c), _, rfl, fun u ru => ru, hk, _, rfl, ?_⟩
      cases qs : subX x.cls c with
      | true =>
        rw [qs] at he
        exact iteT ⟨ca, mu, S, x, dv, w, xr, hs, hsl, he, k⟩
      | false =>
        rw [qs] at he
        exact iteF ⟨ca, mu, S, x, dv, w, xr, hs, hsl, he, k⟩
    · cases h
theorem snd_hxs (ok : CxOk T G C W X) {hc : Nat} {a : Addr} {oe : Obj} {cls : Value} {d : Option Addr} {pn : List (Addr × Obj)} (hz : Zc cls d oe) (hf : ∃ vs, oe.data = .fields vs) {n : Option Str} {i : Option Nat} (hi : ∀ y, n = some y → ∃ j, i = some j ∧ C.N[j]? = some y) : ∀ (h : List Hx) {es : List Expr}, chkHxs T C hc n h es = true → PA (X.suite a ((a, oe) :: pn)) es (RdHs X.K G hc i a cls d h) ∧ es.length = h.length
  | [], es, h => by
    cases es with
    | nil => exact ⟨⟨fun pos pins s σ H Q I ⟨ca, mu, S, x, dv, w, xr, hs, hsl, he, k⟩ => by
        have he : some [] = some dv := he
        cases he
        exact pa_nil.run pos pins s σ H Q I (k [] ca mu H Ext.refl w .nil)⟩, rfl⟩
    | cons _ _ => cases h
  | h :: hs, es, q => by
    cases es with
    | nil => cases q
    | cons e es =>
      obtain ⟨h1, h3⟩ := ba (show (chkHx T C hc n h e && notStar e && chkHxs T C hc n hs es) = true from q)
      obtain ⟨h1, h2⟩ := ba h1
      have r1 := snd_hx (hc := hc) (a := a) (pn := pn) ok hz hf hi h h1
      obtain ⟨r2, r3⟩ := snd_hxs (hc := hc) (a := a) (pn := pn) ok hz hf hi hs h3
      refine ⟨⟨fun pos pins s σ H Q I ⟨ca, mu, S, x, dv, w, xr, hsx, hsl, he, k⟩ => ?_⟩, by rw [List.length_cons, r3]; rfl⟩
      have he : (match hev x h with
        | some d => (hevs x hs).map (d :: ·)
        | none => none) = some dv := he
      cases q1 : hev x h with
      | none => rw [q1] at he; cases he
      | some d1 =>
        rw [q1] at he
        have he : (hevs x hs).map (d1 :: ·) = some dv := he
        cases q2 : hevs x hs with
        | none => rw [q2] at he; cases he
        | some ds =>
          rw [q2] at he
          cases he
          refine (pa_cons r1 r2 (star_ne h2 _ _)).run pos pins s σ H Q I ⟨ca, mu, S, x, d1, w, xr, hsx, hsl, q1, fun v ca1 mu1 H1 e1 w1 i1 => ⟨ca1, mu1, S, x, ds, w1, xr.ext e1, hsx, hsl, q2, fun vs ca2 mu2 H2 e2 w2 i2 => k _ ca2 mu2 H2 (e1.trans e2) w2 (.cons (i1.ext e2) i2)⟩⟩
end
/-- a handler's suite -/
def tsH (K : PySem.W.Frag) (G : En) (hc : Nat) (i : Option Nat) (b : Hb) (a : Addr) (cls : Value) (d : Option Addr) : TS := match b with
  | .ret h => fun D σ H => RdH K G hc i a cls d h σ H D.rt
  | .set j s => fun D σ H => D.nx (σ.set j (some (.str s))) H
theorem snd_hb (ok : CxOk T G C W X) {hc : Nat} {a : Addr} {oe : Obj} {cls : Value} {d : Option Addr} {pn : List (Addr × Obj)} (hz : Zc cls d oe) (hf : ∃ vs, oe.data = .fields vs) {n : Option Str} {i : Option Nat} (hi : ∀ y, n = some y → ∃ j, i = some j ∧ C.N[j]? = some y) {b : Hb} {xs : List Stmt} (h : chkHb T C hc n b xs = true) :
    PSs (X.suite a ((a, oe) :: pn)) xs (tsH X.K G hc i b a cls d) := by
  cases b with
  | ret hx =>
    have h : (match (generalizing := false) xs with
      | [.Return (some e) _] => chkHx T C hc n hx e
      | _ => false) = true := h
    split at h
    · exact pss_one (ps_ret (snd_hx ok hz hf hi hx h))
    · cases h
  | set j s =>
    have h : (match (generalizing := false) xs with
      | [.Assign [.Name y _] (.Constant (.str t) _ _) _] => decide (t = s) && decide (C.N[j]? = some y) && locB C.sc C.ss y
      | _ => false) = true := h
    split at h
    · rename_i y p t k p2 pos hold
      obtain ⟨h1, h3⟩ := ba h
      obtain ⟨h4, h2⟩ := ba h1
      have e := of_decide_eq_true h4
      subst e
      obtain ⟨l1, l2⟩ := locB_ok ok h3
      have hN : X.N[j]? = some y := by rw [ok.N]; exact of_decide_eq_true h2
      exact pss_one (ps_set (X := X.suite a ((a, oe) :: pn)) ok.nd hN l1 pe_str rfl l2)
    · cases h
theorem hds_ok (ok : CxOk T G C W X) : ∀ (hs : List Hd) {xs : List ExceptHandler}, chkHs T C hs xs = true → HdsOk X xs (hs.map fun h => (.ref (G.XA h.c), tsH X.K G h.c none h.b))
  | [], xs, h => by
    cases xs with
    | nil => exact .nil
    | cons _ _ => cases h
  | h :: hs, xs, q => by
    unfold chkHs at q
    split at q
    · rename_i y p b bs pos r
      obtain ⟨h1, h6⟩ := ba q
      obtain ⟨h1, h5⟩ := ba h1
      obtain ⟨h1, h4⟩ := ba h1
      obtain ⟨h1, h3⟩ := ba h1
      obtain ⟨h1, h2⟩ := ba h1
      obtain ⟨F, _, _⟩ := ok.xc h.c y (of_decide_eq_true h2)
      exact .cons ⟨glB_ok ok h3, nmOk_ok' h4, .inl F.g⟩ (fun a oe cls d pn hz hf => snd_hb (n := none) (i := none) ok hz hf (fun _ z => nomatch z) h5) (hds_ok ok hs h6)
    · cases q
theorem chkHs_xc : ∀ (hs : List Hd) {xs : List ExceptHandler}, chkHs T C hs xs = true → ∀ h ∈ hs, h.n = none ∧ ∃ y, T.xc h.c = some y
  | [], _, _, _, hh => nomatch hh
  | h :: hs, xs, q, h', hh => by
    unfold chkHs at q
    split at q
    · rename_i y p b bs pos r
      obtain ⟨h1, h6⟩ := ba q
      obtain ⟨h1, h5⟩ := ba h1
      obtain ⟨h1, h4⟩ := ba h1
      obtain ⟨h1, h3⟩ := ba h1
      obtain ⟨h1, h2⟩ := ba h1
      rcases List.mem_cons.mp hh with e | hh
      · rw [e]; exact ⟨of_decide_eq_true h1, y, of_decide_eq_true h2⟩
      · exact chkHs_xc hs h6 h' hh
    · cases q
/-- a handler's end -/
theorem hb_end {hc : Nat} {ca mu : List Addr} {H : Hp} {D : Ends} {b : Hb} {x : Xn} {ρ : Env} {S : Sto} (hh : flP X.K G.EE G.XA ca mu H (hbd x b ρ S) D W) {cls : Value} {dd : Option Addr} {σ : L2.St} (w : Wd X.K G.EE ca mu H S) (re : RE X.K G.EE ca mu H σ ρ) (xr : XnR X.K G.EE G.XA ca mu H cls dd x) (hs : subX x.cls hc = true) (a : Addr) : tsH X.K G hc none b a cls dd D σ H := by
  cases b with
  | ret h =>
    have hh : flP X.K G.EE G.XA ca mu H (match hev x h with
      | some d => .rt d S
      | none => .no) D W := hh
    cases q : hev x h with
    | none => rw [q] at hh; exact hh.elim
    | some dv =>
      rw [q] at hh
      exact ⟨ca, mu, S, x, dv, w, xr, hs, (fun _ z => nomatch z), q, hh⟩
  | set j s => exact hh _ ca mu H Ext.refl w (re.set j (.str s))
theorem many_end (ok : CxOk T G C W X) {D : Ends} {x : Xn} {ρ : Env} {S : Sto} : ∀ (hs : List Hd) {ca mu : List Addr} {H : Hp} {cls : Value} {dd : Option Addr} {σ : L2.St}, (∀ h ∈ hs, h.n = none ∧ ∃ y, T.xc h.c = some y) → flP X.K G.EE G.XA ca mu H (hdls hs x ρ S) D W → Wd X.K G.EE ca mu H S → RE X.K G.EE ca mu H σ ρ → XnR X.K G.EE G.XA ca mu H cls dd x →
    wMany X.K W D (hs.map fun h => (.ref (G.XA h.c), tsH X.K G h.c none h.b)) cls dd σ H
  | [], ca, mu, H, cls, dd, σ, _, h, w, re, xr => h cls dd σ ca mu H Ext.refl w re xr
  | hd :: hs, ca, mu, H, cls, dd, σ, hy, h, w, re, xr => by
    obtain ⟨hn, y, hy1⟩ := hy hd List.mem_cons_self
    obtain ⟨⟨ec, hxs⟩, _⟩ := id xr
    obtain ⟨yx, hyx⟩ := Option.isSome_iff_exists.mp hxs
    rw [← ok.tb] at hyx
    have hm := ((ok.xc hd.c y hy1).2.2 x.cls yx hyx).1
    have h : flP X.K G.EE G.XA ca mu H (bif subX x.cls hd.c then (bif nOk hd.n ρ then hbd x hd.b ρ S else .no) else hdls hs x ρ S) D W := h
    refine ⟨subX x.cls hd.c, by rw [ec]; exact hm, fun e a _ => ?_, fun e => ?_⟩
    · rw [e, hn] at h
      exact hb_end h w re xr e a
    · rw [e] at h
      exact many_end ok hs (fun h' hh => hy h' (List.mem_cons_of_mem _ hh)) h w re xr
theorem sndS_try_many {b : Sxs} {hs : List Hd} {body : List Stmt} {hds : List ExceptHandler} {pos : Pos} (ok : CxOk T G C W X) (h1 : X.stack = X.env :: X.outer) (h2 : X.env.frame = some X.env.locals) (hne : hds ≠ []) (hc : chkHs T C hs hds = true)
    (hb : ∀ (W' : WX) (pn : List (Addr × Obj)) (xe : Value → Shared → Prop), Takes (X.tr pn xe) W' → PassesOwn (model X.prog X.w) X.A X.env xe → PSs (X.tr pn xe) body (RdSs X.K G fuel W' b)) : PS X (.Try body hds [] [] pos) (RdS X.K G fuel W (.try_ b hs)) := by
  cases hds with
  | nil => exact absurd rfl hne
  | cons h₀ hds =>
    refine PSimp (ps_try_many h1 h2 ok.tk hb (hds_ok ok hs hc)) fun D σ H ⟨ca, mu, ρ, S, w, re, h⟩ => ⟨ca, mu, ρ, S, w, re, ?_⟩
    have h : flP X.K G.EE G.XA ca mu H (match exss G.cons G.call fuel b ρ S with
      | .exc x ρ' S' => hdls hs x ρ' S'
      | r => r) D W := h
    show flP X.K G.EE G.XA ca mu H (exss G.cons G.call fuel b ρ S) D _
    cases q : exss G.cons G.call fuel b ρ S with
    | nx ρ' S' => rw [q] at h; exact h
    | rt d S' => rw [q] at h; exact h
    | no => rw [q] at h; exact h
    | exc x ρ' S' =>
      rw [q] at h
      exact fun cls dd σ' ca' mu' H' e w' re' xr => many_end ok hs (chkHs_xc hs hc) (flP.rebase h e) w' re' xr
theorem sndS_try_as {b : Sxs} {hs : List Hd} {body : List Stmt} {hds : List ExceptHandler} {pos : Pos} (ok : CxOk T G C W X) (h1 : X.stack = X.env :: X.outer) (h2 : X.env.frame = some X.env.locals) (hc : chkHn T C hs hds = true)
    (hb : ∀ (W' : WX) (pn : List (Addr × Obj)) (xe : Value → Shared → Prop), Takes (X.tr pn xe) W' → PassesOwn (model X.prog X.w) X.A X.env xe → PSs (X.tr pn xe) body (RdSs X.K G fuel W' b)) : PS X (.Try body hds [] [] pos) (RdS X.K G fuel W (.try_ b hs)) := by
  unfold chkHn at hc
  split at hc
  · rename_i hd y np n b₀ bs pos'
    split at hc
    · rename_i i hx hn hbe
      obtain ⟨p1, q6⟩ := ba hc
      obtain ⟨p2, q5⟩ := ba p1
      obtain ⟨p3, q4⟩ := ba p2
      obtain ⟨p4, q3⟩ := ba p3
      obtain ⟨p5, q2⟩ := ba p4
      have q1 := of_decide_eq_true p5
      have q2 := of_decide_eq_true q2
      have q3 := of_decide_eq_true q3
      obtain ⟨F, _, hpair⟩ := ok.xc hd.c y q3
      obtain ⟨c, nn, hbb⟩ := hd
      have hn : nn = some i := hn
      subst hn
      have hbe : hbb = .ret hx := hbe
      subst hbe
      · skip
        have hN : X.N[i]? = some n := by rw [ok.N]; exact q1
        have hk : X.env.kindOf n = some .local := by
          show X.env.scope.names.lookup n = some .local
          rw [ok.sc]
          exact q2
        refine PSimp (ps_try_as (i := i) (ts := fun a cls d => tsH X.K G c (some i) (.ret hx) a cls d) h1 h2 ok.nd hN hk ⟨glB_ok ok q4, nmOk_ok' q5, .inl F.g⟩ ok.tk hb (fun a oe cls d pn hz hf => snd_hb ok hz hf (fun z ez => by
          cases ez
          exact ⟨i, rfl, q1⟩) q6)) fun D σ H ⟨ca, mu, ρ, S, w, re, h⟩ => ⟨ca, mu, ρ, S, w, re, ?_⟩
        have h : flP X.K G.EE G.XA ca mu H (match exss G.cons G.call fuel b ρ S with
          | .exc x ρ' S' => hdls [⟨c, some i, .ret hx⟩] x ρ' S'
          | r => r) D W := h
        show flP X.K G.EE G.XA ca mu H (exss G.cons G.call fuel b ρ S) D _
        cases q : exss G.cons G.call fuel b ρ S with
        | nx ρ' S' => rw [q] at h; exact h
        | rt d S' => rw [q] at h; exact h
        | no => rw [q] at h; exact h
        | exc x ρ' S' =>
          rw [q] at h
          intro cls dd σ' ca' mu' H' e w' re' xr
          have h := flP.rebase h e
          obtain ⟨⟨ec, hxs⟩, _⟩ := id xr
          obtain ⟨yx, hyx⟩ := Option.isSome_iff_exists.mp hxs
          rw [← ok.tb] at hyx
          have hm := (hpair x.cls yx hyx).1
          have h : flP X.K G.EE G.XA ca' mu' H' (bif subX x.cls c then (bif nOk (some i) ρ' then hbd x (.ret hx) ρ' S' else .no) else .exc x ρ' S') D W := h
          refine ⟨subX x.cls c, by rw [ec]; exact hm, fun es a ha => ?_, fun es => ?_⟩
          · rw [es] at h
            have h : flP X.K G.EE G.XA ca' mu' H' (bif decide (i < ρ'.length) then hbd x (.ret hx) ρ' S' else .no) D W := h
            have hil : i < ρ'.length := by
              by_cases z : i < ρ'.length
              · exact z
              · rw [decide_eq_false z] at h
                exact h.elim
            rw [decide_eq_true hil] at h
            have h : flP X.K G.EE G.XA ca' mu' H' (match hev x hx with
              | some d => .rt d S'
              | none => .no) D W := h
            cases qv : hev x hx with
            | none => rw [qv] at h; exact h.elim
            | some dv =>
              rw [qv] at h
              refine ⟨ca', mu', S', x, dv, w', xr, es, fun j ej => ?_, qv, h⟩
              cases ej
              have hl : i < σ'.length := by rw [re'.len]; exact hil
              exact List.getElem?_set_self hl
          · rw [es] at h
            exact h cls dd σ' ca' mu' H' Ext.refl w' re' xr
    · cases hc
  · cases hc
end
end KI


set_option Elab.async false
set_option linter.all false
set_option maxRecDepth 100000
set_option autoImplicit false
set_option maxHeartbeats 2000000
/-! The checker of statements. -/
namespace KI
open PySem PySem.Spec PyProof.Rows L2

def swB : Expr → Bool
  | .ListComp _ _ _ _ | .SetComp _ _ _ _ | .DictComp _ _ _ _ _ => false
  | _ => true
theorem swB_ok {v : Expr} (h : swB v = true) (t : Option Expr) (l : Nat) (env : PySem.Env) : swapsWith v t l env = pure false := by
  cases v <;> first | rfl | cases h
/-- a list built and stored at once -/
def swL (sc : Scope) (y : Str) (p : Pos) : Expr → Bool
  | .ListComp _ _ scope pos => decide (sc.kind = .function) && decide (sc.names.lookup y = some .local) && (p.line == pos.line) && !(scope.names.any fun (n, k) => n == y && (k == .local || k == .cell))
  | _ => false
/-- a list built, a name of a cell: nothing changes places -/
def swC (sc : Scope) (y : Str) (v : Expr) : Bool := decide (sc.names.lookup y ≠ some .local)
theorem swC_ok {sc : Scope} {env : PySem.Env} {y : Str} {p : Pos} {v : Expr} (he : env.scope = sc) (h : swC sc y v = true) (l : Nat) : swapsWith v (some (.Name y p)) l env = pure false := by
  have h : sc.names.lookup y ≠ some .local := of_decide_eq_true h
  have hk : env.kindOf y = sc.names.lookup y := by unfold Env.kindOf; rw [he]
  have hb : (env.kindOf y == some .local) = false := by rw [hk]; simpa using h
  cases v <;> first
    | rfl
    | (unfold swapsWith
       simp only [hb, Bool.and_false, Bool.false_and]
       try rfl)
def swN (sc : Scope) : Expr → Expr → Bool
  | .Tuple ts _ _, .Tuple vs _ _ => decide (sc.kind = .function) && (match swK sc ts vs with
    | some none => true
    | _ => false)
  | .Tuple _ _ _, _ => true
  | _, _ => false
theorem swN_ok {sc : Scope} {env : PySem.Env} {tg v : Expr} (he : env.scope = sc) (h : swN sc tg v = true) : swappedStores [tg] v env = pure none ∧ (assignEach [tg] env).map (·.2) = [assign tg env] := by
  cases tg with
  | Tuple ts k p =>
    refine ⟨?_, rfl⟩
    cases v with
    | Tuple vs k2 p2 =>
      obtain ⟨h1, h2⟩ := ba (show (decide (sc.kind = .function) && (match swK sc ts vs with
        | some none => true
        | _ => false)) = true from h)
      refine swK_ok he (of_decide_eq_true h1) ?_
      split at h2
      · assumption
      · cases h2
    | _ => rfl
  | _ => cases h
def locN (C : Cc) (i : Nat) (y : Str) : Bool := decide (C.N[i]? = some y) && decide (C.sc.names.lookup y = some .local)
def isNev : Sx → Bool
  | .nev => true
  | _ => false
def isFrz : Sx → Bool
  | .frz _ => true
  | _ => false
def setB (T : Tb) (C : Cc) (i : Nat) (e : Ex) : Stmt → Bool
  | .Assign [.Name y p] v _ => decide (C.N[i]? = some y) && locB C.sc C.ss y && chkE T C e v && (swB v || (C.calm && swL C.sc y p v) || swC C.sc y v)
  | _ => false
def unpB (T : Tb) (C : Cc) (t : Tg) (e : Ex) : Stmt → Bool
  | .Assign [tg] v _ => chkG C t tg && chkE T C e v && swB v && swN C.sc tg v
  | _ => false
def retB (T : Tb) (C : Cc) (e : Ex) : Stmt → Bool
  | .Return (some v) _ => chkE T C e v
  | .Return none _ => (match e with
    | .non => true
    | _ => false)
  | _ => false
def expB (T : Tb) (C : Cc) (e : Ex) : Stmt → Bool
  | .Expr y _ => chkE T C e y && swB y
  | _ => false
def ifB : Stmt → Option (Expr × List Stmt × List Stmt)
  | .If y la lb _ => some (y, la, lb)
  | _ => none
def forB : Stmt → Option (Expr × Expr × List Stmt)
  | .For tg iter lb [] _ => some (tg, iter, lb)
  | _ => none
def whlB : Stmt → Option (Expr × List Stmt)
  | .While y lb [] _ => some (y, lb)
  | _ => none
def parB (T : Tb) (C : Cc) (i j : Nat) (es : Exs) : Stmt → Bool
  | .Assign [.Tuple [.Name y p, .Name z q] _ _] (.Tuple vs _ _) _ => C.calm && locN C i y && locN C j z && decide (i ≠ j) && chkEs T C es vs && decide (vs.length = 2) && decide (C.sc.kind = .function) && decide (swK C.sc [.Name y p, .Name z q] vs = some (some [y, z]))
  | _ => false
def par3B (T : Tb) (C : Cc) (i j l : Nat) (es : Exs) : Stmt → Bool
  | .Assign [.Tuple [.Name y p, .Name z q, .Name u r] _ _] (.Tuple vs _ _) _ => C.calm && locN C i y && locN C j z && locN C l u && decide (i ≠ j) && decide (i ≠ l) && decide (j ≠ l) && chkEs T C es vs && decide (vs.length = 3) && decide (C.sc.kind = .function) && decide (swK C.sc [.Name y p, .Name z q, .Name u r] vs = some (some [y, z, u]))
  | _ => false
def putB (T : Tb) (C : Cc) (o i e : Ex) : Stmt → Bool
  | .Assign [.Subscript eo ei _] v _ => chkE T C o eo && chkE T C i ei && chkE T C e v && swB v && ixB ei
  | _ => false
def dputB (T : Tb) (C : Cc) (o i e : Ex) : Stmt → Bool
  | .Assign [.Subscript eo ei _] v _ => chkE T C o eo && chkE T C i ei && chkE T C e v && swB v && ixB ei
  | _ => false
def sfdB (T : Tb) (C : Cc) (c : Nat) (f : Str) (o e : Ex) : Stmt → Bool
  | .Assign [.Attribute eo g _] v _ => decide (g = f) && T.na c f && chkE T C o eo && chkE T C e v && swB v
  | _ => false
def appB (T : Tb) (C : Cc) (i : Nat) (e : Ex) : Stmt → Bool
  | .Expr (.Call (.Attribute (.Name y p) m apos) as [] cpos) _ => decide (C.N[i]? = some y) && visB C.sc y && nmOk y && C.calm && decide (m = Str.ofString "append") && (apos.endLine == cpos.line) && (match as with
    | [a] => chkE T C e a && notStar a
    | _ => false)
  | _ => false
def tryB : Stmt → Option (List Stmt × List ExceptHandler)
  | .Try lb hds [] [] _ => some (lb, hds)
  | _ => none
mutual
def chkS (T : Tb) (C : Cc) : Sx → Stmt → Bool
  | .set i e, x => setB T C i e x
  | .unp t e, x => unpB T C t e x
  | .par i j es, x => parB T C i j es x
  | .par3 i j l es, x => par3B T C i j l es x
  | .put o i e, x => putB T C o i e x
  | .dput o i e, x => dputB T C o i e x
  | .sfd c f o e, x => sfdB T C c f o e x
  | .app i e, x => appB T C i e x
  | .frz _, _ => false
  | .ret e, x => retB T C e x
  | .ifs c a b, x => (match ifB x with
    | some (y, la, lb) => chkE T C c y && chkSs T C a la && chkSs T C b lb
    | none => false)
  | .for_ t it b, x => (match forB x with
    | some (tg, iter, lb) => C.calm && chkG C t tg && chkI T C tg it iter && chkSs T C b lb
    | none => false)
  | .whl c b, x => (match whlB x with
    | some (y, lb) => chkE T C c y && chkSs T C b lb
    | none => false)
  | .exp e, x => expB T C e x
  | .rai c, x => raiB T C c x
  | .raiF c f e, x => raiFB T C c f e x
  | .try_ b hs, x => (match tryB x with
    | some (lb, hds) => C.calm && !hds.isEmpty && (chkHs T C hs hds || chkHn T C hs hds) && chkSs T C b lb
    | none => false)
  | .nev, _ => true
def chkSs (T : Tb) (C : Cc) : Sxs → List Stmt → Bool
  | .nil, xs => (match xs with
    | [] => true
    | _ => false)
  | .cons s ss, xs => bif isNev s then true else bif isFrz s then chkSs T C ss xs else (match xs with
    | x :: xs => chkS T C s x && chkSs T C ss xs
    | [] => false)
end
section
variable {T : Tb} {G : En} {fuel : Nat}
theorem locN_ok {C : Cc} {W : WX} {X : Cx} {i : Nat} {y : Str} (ok : CxOk T G C W X) (h : locN C i y = true) : X.N[i]? = some y ∧ X.env.scope.names.lookup y = some .local := by
  obtain ⟨h1, h2⟩ := ba h
  exact ⟨by rw [ok.N]; exact of_decide_eq_true h1, by rw [ok.sc]; exact of_decide_eq_true h2⟩
theorem sndS_setLc {i : Nat} {y : Str} {p pos : Pos} {C : Cc} {W : WX} {X : Cx} {e : Ex} {v : Expr} (ok : CxOk T G C W X) (hcm : C.calm = true) (hi : X.N[i]? = some y) (h : chkE T C e v = true) (hl : swL C.sc y p v = true) : PS X (.Assign [.Name y p] v pos) (RdS X.K G fuel W (.set i e)) := by
  cases v with
  | ListComp elt gs scope lpos =>
    obtain ⟨h1, h4⟩ := ba (show (decide (C.sc.kind = .function) && decide (C.sc.names.lookup y = some .local) && (p.line == lpos.line) && !(scope.names.any fun (n, k) => n == y && (k == .local || k == .cell))) = true from hl)
    obtain ⟨h1, h3⟩ := ba h1
    obtain ⟨h1, h2⟩ := ba h1
    cases e with
    | lc own tg it c e =>
      match gs, h with
      | [⟨tgx, iter, ifs, k⟩], h =>
      obtain ⟨h1', h8⟩ := ba (show (C.calm && decide (k = 0) && blkC C.N C.sc scope (own.filterMap fun i => (C.N[i]?).map fun y => (y, i)) && decide ((own.filterMap fun i => (C.N[i]?).map fun y => (y, i)).map (·.2) = own) && (slotsT tg).all (fun i => own.contains i)
        && chkI T C tgx it iter && chkG ⟨C.N, relS scope C.sc, scope, C.calm, false⟩ tg tgx && chkC T ⟨C.N, relS scope C.sc, scope, C.calm, false⟩ c ifs && chkE T ⟨C.N, relS scope C.sc, scope, C.calm, false⟩ e elt) = true from h)
      obtain ⟨h1', h7⟩ := ba h1'
      obtain ⟨h1', h6⟩ := ba h1'
      obtain ⟨h1', h5⟩ := ba h1'
      obtain ⟨h1', h4'⟩ := ba h1'
      obtain ⟨h1', h3'⟩ := ba h1'
      obtain ⟨h1', h2'⟩ := ba h1'
      obtain ⟨_, h1'⟩ := ba h1'
      have e0 : k = 0 := of_decide_eq_true h1'
      subst e0
      obtain ⟨i1, i2⟩ := sndI it (tg := tgx) ok h5
      have hyl : X.env.scope.names.lookup y = some .local := by rw [ok.sc]; exact of_decide_eq_true h2
      refine PSimp (ps_setLc (own := own.filterMap fun i => (C.N[i]?).map fun y => (y, i)) (ok.calm hcm) ok.nd hi hyl (sw_true (by rw [ok.sc]; exact of_decide_eq_true h1) hyl h3 (by simpa using h4)) i1 (by rw [ok.N, ok.sc]; exact blkOk_by h2')
        (g := RdG X.K G.EE tg) (fun s H A cl fp => sndG tg (blk_ok ok s H scope cl A fp) h6) (tt := ttOf X.K G c) (fun s H A cl fp => sndC c (blk_ok ok s H scope cl A fp) h7) (te := RdE X.K G W0 e) (fun s H A cl fp => (sndE e (blk_ok ok s H scope cl A fp) h8).1) i2) fun D σ H ⟨ca, mu, ρ, S, w, re, h⟩ => ?_
      rw [of_decide_eq_true h3']
      exact lc_read (fun i hi => by simpa using List.all_eq_true.mp h4' i hi) (stepS w re h fun d S1 v ca1 mu1 H1 e1 w1 re1 i1 h1 => h1 _ ca1 mu1 H1 Ext.refl w1 (re1.set i i1))
    | newc e => cases e <;> cases h
    | _ => cases h
  | _ => cases hl
theorem sndS_setB {i : Nat} {e : Ex} {x : Stmt} {C : Cc} {W : WX} {X : Cx} (ok : CxOk T G C W X) (h : setB T C i e x = true) : PS X x (RdS X.K G fuel W (.set i e)) := by
  unfold setB at h
  split at h
  · rename_i y p v pos
    obtain ⟨h1, h4⟩ := ba h
    obtain ⟨h1, h3⟩ := ba h1
    obtain ⟨h1, h2⟩ := ba h1
    obtain ⟨l1, l2⟩ := locB_ok ok h2
    have hi : X.N[i]? = some y := by rw [ok.N]; exact of_decide_eq_true h1
    rcases Bool.or_eq_true_iff.mp h4 with h4 | h4
    rcases Bool.or_eq_true_iff.mp h4 with h4 | h4
    · exact sndS_set ok.nd hi l1 (sndE e ok h3).1 (swB_ok h4 _ _ _) l2
    · obtain ⟨hc, h4⟩ := ba h4
      exact sndS_setLc ok hc hi h3 h4
    · exact sndS_set ok.nd hi l1 (sndE e ok h3).1 (swC_ok ok.sc h4 _) l2
  · cases h
theorem sndS_unpB {t : Tg} {e : Ex} {x : Stmt} {C : Cc} {W : WX} {X : Cx} (ok : CxOk T G C W X) (h : unpB T C t e x = true) : PS X x (RdS X.K G fuel W (.unp t e)) := by
  unfold unpB at h
  split at h
  · rename_i tg v pos
    obtain ⟨h1, h4⟩ := ba h
    obtain ⟨h1, h3⟩ := ba h1
    obtain ⟨h1, h2⟩ := ba h1
    obtain ⟨g1, g2⟩ := swN_ok ok.sc h4
    exact sndS_unp (sndE e ok h2).1 (sndG t ok h1) (swB_ok h3 (some tg) pos.line X.env) g1 g2
  · cases h
theorem sndS_retB {e : Ex} {x : Stmt} {C : Cc} {W : WX} {X : Cx} (ok : CxOk T G C W X) (h : retB T C e x = true) : PS X x (RdS X.K G fuel W (.ret e)) := by
  unfold retB at h
  split at h
  · exact sndS_ret (sndE e ok h).1
  · split at h
    · exact sndS_retN
    · cases h
  · cases h
theorem sndS_expB {e : Ex} {x : Stmt} {C : Cc} {W : WX} {X : Cx} (ok : CxOk T G C W X) (h : expB T C e x = true) : PS X x (RdS X.K G fuel W (.exp e)) := by
  unfold expB at h
  split at h
  · obtain ⟨h1, h3⟩ := ba h
    exact sndS_exp (sndE e ok h1).1 (swB_ok h3 _ _ _)
  · cases h
theorem ifB_ok {x : Stmt} {y la lb} (h : ifB x = some (y, la, lb)) : ∃ pos, x = .If y la lb pos := by
  unfold ifB at h
  split at h
  · cases h; exact ⟨_, rfl⟩
  · cases h
theorem forB_ok {x : Stmt} {y la lb} (h : forB x = some (y, la, lb)) : ∃ pos, x = .For y la lb [] pos := by
  unfold forB at h
  split at h
  · cases h; exact ⟨_, rfl⟩
  · cases h
theorem tryB_ok {x : Stmt} {lb hds} (h : tryB x = some (lb, hds)) : ∃ pos, x = .Try lb hds [] [] pos := by
  unfold tryB at h
  split at h
  · cases h; exact ⟨_, rfl⟩
  · cases h
theorem whlB_ok {x : Stmt} {y lb} (h : whlB x = some (y, lb)) : ∃ pos, x = .While y lb [] pos := by
  unfold whlB at h
  split at h
  · cases h; exact ⟨_, rfl⟩
  · cases h
theorem sndS_parB {i j : Nat} {es : Exs} {x : Stmt} {C : Cc} {W : WX} {X : Cx} (ok : CxOk T G C W X) (h : parB T C i j es x = true) : PS X x (RdS X.K G fuel W (.par i j es)) := by
  unfold parB at h
  split at h
  · rename_i y p z q k pt vs k2 pt2 pos
    obtain ⟨h1, h6⟩ := ba h
    obtain ⟨h1, h5⟩ := ba h1
    obtain ⟨h1, hl⟩ := ba h1
    obtain ⟨h1, h4⟩ := ba h1
    obtain ⟨h1, h3⟩ := ba h1
    obtain ⟨h1, h2⟩ := ba h1
    obtain ⟨h0, h1⟩ := ba h1
    obtain ⟨a1, a2⟩ := locN_ok ok h1
    obtain ⟨b1, b2⟩ := locN_ok ok h2
    obtain ⟨a, b, rfl⟩ : ∃ a b, vs = [a, b] := by
      match vs, of_decide_eq_true hl with
      | [a, b], _ => exact ⟨a, b, rfl⟩
    exact sndS_par (ok.calm h0) ok.nd a1 b1 (of_decide_eq_true h3) a2 b2 (sndEs es ok h4).1 (swK_ok ok.sc (of_decide_eq_true h5) (of_decide_eq_true h6))
  · cases h
theorem sndS_par3B {i j l : Nat} {es : Exs} {x : Stmt} {C : Cc} {W : WX} {X : Cx} (ok : CxOk T G C W X) (h : par3B T C i j l es x = true) : PS X x (RdS X.K G fuel W (.par3 i j l es)) := by
  unfold par3B at h
  split at h
  · rename_i y p z q u r k pt vs k2 pt2 pos
    obtain ⟨h1, h9⟩ := ba h
    obtain ⟨h1, h8⟩ := ba h1
    obtain ⟨h1, hl⟩ := ba h1
    obtain ⟨h1, h7⟩ := ba h1
    obtain ⟨h1, h6⟩ := ba h1
    obtain ⟨h1, h5⟩ := ba h1
    obtain ⟨h1, h4⟩ := ba h1
    obtain ⟨h1, h3⟩ := ba h1
    obtain ⟨h1, h2⟩ := ba h1
    obtain ⟨h0, h1⟩ := ba h1
    obtain ⟨a1, a2⟩ := locN_ok ok h1
    obtain ⟨b1, b2⟩ := locN_ok ok h2
    obtain ⟨c1, c2⟩ := locN_ok ok h3
    obtain ⟨a, b, c, rfl⟩ : ∃ a b c, vs = [a, b, c] := by
      match vs, of_decide_eq_true hl with
      | [a, b, c], _ => exact ⟨a, b, c, rfl⟩
    exact sndS_par3 (ok.calm h0) ok.nd a1 b1 c1 (of_decide_eq_true h4) (of_decide_eq_true h5) (of_decide_eq_true h6) a2 b2 c2 (sndEs es ok h7).1 (swK_ok ok.sc (of_decide_eq_true h8) (of_decide_eq_true h9))
  · cases h
theorem sndS_putB {o i e : Ex} {x : Stmt} {C : Cc} {W : WX} {X : Cx} (ok : CxOk T G C W X) (h : putB T C o i e x = true) : PS X x (RdS X.K G fuel W (.put o i e)) := by
  unfold putB at h
  split at h
  · rename_i eo ei p v pos
    obtain ⟨h1, h5⟩ := ba h
    obtain ⟨h1, h4⟩ := ba h1
    obtain ⟨h1, h3⟩ := ba h1
    obtain ⟨h1, h2⟩ := ba h1
    exact sndS_put (sndE e ok h3).1 (sndE o ok h1).1 (sndE i ok h2).1 (swB_ok h4 (some (.Subscript eo ei p)) pos.line X.env) (fun v => by cases ei <;> first | rfl | cases h5)
  · cases h
theorem sndS_dputB {o i e : Ex} {x : Stmt} {C : Cc} {W : WX} {X : Cx} (ok : CxOk T G C W X) (h : dputB T C o i e x = true) : PS X x (RdS X.K G fuel W (.dput o i e)) := by
  unfold dputB at h
  split at h
  · rename_i eo ei p v pos
    obtain ⟨h1, h5⟩ := ba h
    obtain ⟨h1, h4⟩ := ba h1
    obtain ⟨h1, h3⟩ := ba h1
    obtain ⟨h1, h2⟩ := ba h1
    exact sndS_dput ok.un (sndE e ok h3).1 (sndE o ok h1).1 (sndE i ok h2).1 (swB_ok h4 (some (.Subscript eo ei p)) pos.line X.env)
  · cases h
theorem sndS_sfdB {c : Nat} {f : Str} {o e : Ex} {x : Stmt} {C : Cc} {W : WX} {X : Cx} (ok : CxOk T G C W X) (h : sfdB T C c f o e x = true) : PS X x (RdS X.K G fuel W (.sfd c f o e)) := by
  unfold sfdB at h
  split at h
  · rename_i eo g p v pos
    obtain ⟨h1, h5⟩ := ba h
    obtain ⟨h1, h4⟩ := ba h1
    obtain ⟨h1, h3⟩ := ba h1
    obtain ⟨h1, h2⟩ := ba h1
    have e1 : g = f := of_decide_eq_true h1
    subst e1
    obtain ⟨g1, g2⟩ := ok.ow.na c g h2
    exact sndS_sfd g1 g2 (sndE e ok h4).1 (sndE o ok h3).1 (swB_ok h5 (some (.Attribute eo g p)) pos.line X.env)
  · cases h
theorem sndS_appB {i : Nat} {e : Ex} {x : Stmt} {C : Cc} {W : WX} {X : Cx} (ok : CxOk T G C W X) (h : appB T C i e x = true) : PS X x (RdS X.K G fuel W (.app i e)) := by
  unfold appB at h
  split at h
  · rename_i y p m apos as cpos pos
    obtain ⟨h1, h5⟩ := ba h
    obtain ⟨h1, h7⟩ := ba h1
    obtain ⟨g1, h4⟩ := ba h1
    obtain ⟨g1, h0⟩ := ba g1
    have em : m = Str.ofString "append" := of_decide_eq_true h4
    subst em
    split at h5
    · rename_i a
      obtain ⟨h5, h6⟩ := ba h5
      exact sndS_app (ok.calm h0) (sndE (.var i) ok (show chkE T C (.var i) (.Name y p) = true from g1)).1 (sndE e ok h5).1 h6 h7
    · cases h5
  · cases h
mutual
theorem sndS : ∀ (s : Sx) {x : Stmt} {C : Cc} {W : WX} {X : Cx}, CxOk T G C W X → X.stack = X.env :: X.outer ∧ X.env.frame = some X.env.locals → PassesOwn (model X.prog X.w) X.A X.env X.xe → chkS T C s x = true → PS X x (RdS X.K G fuel W s)
  | .set i e, x, C, W, X, ok, sk, hp, h => sndS_setB ok h
  | .unp t e, x, C, W, X, ok, sk, hp, h => sndS_unpB ok h
  | .par i j es, x, C, W, X, ok, sk, hp, h => sndS_parB ok h
  | .par3 i j l es, x, C, W, X, ok, sk, hp, h => sndS_par3B ok h
  | .put o i e, x, C, W, X, ok, sk, hp, h => sndS_putB ok h
  | .dput o i e, x, C, W, X, ok, sk, hp, h => sndS_dputB ok h
  | .sfd c f o e, x, C, W, X, ok, sk, hp, h => sndS_sfdB ok h
  | .app i e, x, C, W, X, ok, sk, hp, h => sndS_appB ok h
  | .frz _, x, C, W, X, ok, sk, hp, h => by cases h
  | .ret e, x, C, W, X, ok, sk, hp, h => sndS_retB ok h
  | .ifs c a b, x, C, W, X, ok, sk, hp, h => by
    have h : (match ifB x with
      | some (y, la, lb) => chkE T C c y && chkSs T C a la && chkSs T C b lb
      | none => false) = true := h
    split at h
    · rename_i y la lb q
      obtain ⟨pos, rfl⟩ := ifB_ok q
      obtain ⟨h1, h3⟩ := ba h
      obtain ⟨h1, h2⟩ := ba h1
      exact sndS_ifs (sndE c ok h1).2 (sndSs a ok sk hp h2) (sndSs b ok sk hp h3)
    · cases h
  | .for_ t it b, x, C, W, X, ok, sk, hp, h => by
    have h : (match forB x with
      | some (tg, iter, lb) => C.calm && chkG C t tg && chkI T C tg it iter && chkSs T C b lb
      | none => false) = true := h
    split at h
    · rename_i tg iter lb q
      obtain ⟨pos, rfl⟩ := forB_ok q
      obtain ⟨h1, h3⟩ := ba h
      obtain ⟨h1, h2⟩ := ba h1
      obtain ⟨h0, h1⟩ := ba h1
      obtain ⟨i1, i2⟩ := sndI it (tg := tg) ok h2
      exact sndS_for hp (ok.calm h0) i1 (sndG t ok h1) (sndSs b ok sk hp h3) i2
    · cases h
  | .whl c b, x, C, W, X, ok, sk, hp, h => by
    have h : (match whlB x with
      | some (y, lb) => chkE T C c y && chkSs T C b lb
      | none => false) = true := h
    split at h
    · rename_i y lb q
      obtain ⟨pos, rfl⟩ := whlB_ok q
      obtain ⟨h1, h3⟩ := ba h
      exact sndS_whl hp (sndE c ok h1).2 (sndSs b ok sk hp h3)
    · cases h
  | .exp e, x, C, W, X, ok, sk, hp, h => sndS_expB ok h
  | .rai c, x, C, W, X, ok, sk, hp, h => sndS_rai ok h
  | .raiF c f e, x, C, W, X, ok, sk, hp, h => sndS_raiF ok h
  | .try_ b hs, x, C, W, X, ok, sk, hp, h => by
    have h : (match tryB x with
      | some (lb, hds) => C.calm && !hds.isEmpty && (chkHs T C hs hds || chkHn T C hs hds) && chkSs T C b lb
      | none => false) = true := h
    split at h
    · rename_i lb hds q
      obtain ⟨pos, rfl⟩ := tryB_ok q
      obtain ⟨h1, h4⟩ := ba h
      obtain ⟨h1, h3⟩ := ba h1
      obtain ⟨h1, h2⟩ := ba h1
      have body : ∀ (W' : WX) (pn : List (Addr × Obj)) (xe : Value → Shared → Prop), Takes (X.tr pn xe) W' → PassesOwn (model X.prog X.w) X.A X.env xe → PSs (X.tr pn xe) lb (RdSs X.K G fuel W' b) := fun W' pn xe tk po => sndSs b (ok.tr tk) sk po h4
      rcases Bool.or_eq_true_iff.mp h3 with h3 | h3
      · exact sndS_try_many ok sk.1 sk.2 (fun e => by rw [e] at h2; cases h2) h3 body
      · exact sndS_try_as ok sk.1 sk.2 h3 body
    · cases h
  | .nev, x, C, W, X, ok, sk, hp, h => sndS_nev
theorem sndSs : ∀ (ss : Sxs) {xs : List Stmt} {C : Cc} {W : WX} {X : Cx}, CxOk T G C W X → X.stack = X.env :: X.outer ∧ X.env.frame = some X.env.locals → PassesOwn (model X.prog X.w) X.A X.env X.xe → chkSs T C ss xs = true → PSs X xs (RdSs X.K G fuel W ss)
  | .nil, xs, C, W, X, ok, sk, hp, h => by
    cases xs with
    | nil => exact sndS_nil
    | cons _ _ => cases h
  | .cons s ss, xs, C, W, X, ok, sk, hp, h => by
    cases q : isNev s with
    | true =>
      cases s with
      | nev => exact sndS_nevs
      | _ => cases q
    | false =>
      cases q2 : isFrz s with
      | true =>
        cases s with
        | frz i => exact sndS_frz (sndSs ss ok sk hp h)
        | _ => cases q2
      | false =>
        unfold chkSs at h
        rw [q, q2] at h
        cases xs with
        | nil => cases h
        | cons x xs =>
          obtain ⟨h1, h2⟩ := ba (show (chkS T C s x && chkSs T C ss xs) = true from h)
          exact sndS_cons (sndS s ok sk hp h1) (sndSs ss ok sk hp h2)
end
end
end KI


set_option Elab.async false
set_option linter.all false
set_option maxRecDepth 100000
set_option autoImplicit false
set_option maxHeartbeats 2000000
/-! Defs, the whole table of them, the law. -/
namespace KI
open PySem PySem.Spec PyProof.Rows L2

/-! ### data without cells is the same for every row of cells -/
section
variable {K : PySem.W.Frag} {EE : Ek} {ca mu ca' mu' : List Addr} {H H' : Hp} {S : Sto}
mutual
theorem Is.pur {H : Hp} (hp : ∀ a, a ∈ mu' → a ∈ mu) : ∀ (d : D) {v : V}, d.pure = true → Is K EE ca mu H v d → Is K EE ca' mu' H v d
  | .non, _, _, h => by cases h; exact .non
  | .bl b, _, _, h => by cases h; exact .bl b
  | .int i, _, _, h => by cases h; exact .int i
  | .str s, _, _, h => by cases h; exact .str s
  | .tup ds, _, p, h => by cases h with | tup h1 h2 => exact .tup (h1.imp (fun z => ⟨z.1, fun q => z.2 (hp _ q)⟩) id) (IsL.pur hp ds p h2)
  | .lst ds, _, p, h => by cases h with | lst h1 h2 h3 => exact .lst h1 (fun q => h2 (hp _ q)) (IsL.pur hp ds p h3)
  | .dic ds, _, p, h => by cases h with | dic h1 h2 h3 => exact .dic h1 (fun q => h2 (hp _ q)) (IsK.pur hp ds p h3)
  | .ro ds, _, p, h => by cases h with | ro h1 h2 => exact .ro (h1.imp (fun z => ⟨z.1, fun q => z.2 (hp _ q)⟩) id) (IsL.pur hp ds p h2)
  | .cell n, _, p, h => by cases p
  | .fn i, _, _, h => by cases h with | fn _ h => exact .fn i h
  | .clo np e ds, _, p, h => by cases h with | clo h1 h2 h3 h4 h5 h6 h7 => exact .clo h1 (fun q => h2 (hp _ q)) h3 (fun q => h4 (hp _ q)) h5 (h6.mono hp) (IsL.pur hp ds p h7)
theorem IsL.pur {H : Hp} (hp : ∀ a, a ∈ mu' → a ∈ mu) : ∀ (ds : List D) {vs : List V}, pureL ds = true → IsL K EE ca mu H vs ds → IsL K EE ca' mu' H vs ds
  | [], _, _, h => by cases h; exact .nil
  | d :: ds, _, p, h => by
    obtain ⟨p1, p2⟩ := ba (show (d.pure && pureL ds) = true from p)
    cases h with | cons h1 h2 => exact .cons (Is.pur hp d p1 h1) (IsL.pur hp ds p2 h2)
theorem IsK.pur {H : Hp} (hp : ∀ a, a ∈ mu' → a ∈ mu) : ∀ (ds : List (Key × D)) {vs : List (Key × V)}, pureK ds = true → IsK K EE ca mu H vs ds → IsK K EE ca' mu' H vs ds
  | [], _, _, h => by cases h; exact .nil
  | (_, d) :: ds, _, p, h => by
    obtain ⟨p1, p2⟩ := ba (show (d.pure && pureK ds) = true from p)
    cases h with | cons h1 h2 => exact .cons (Is.pur hp d p1 h1) (IsK.pur hp ds p2 h2)
end
/-- a store of its own is left -/
theorem own_back (w : Wd K EE ca mu H S) {S' : Sto} (w' : Wd K EE ca' mu' H' S') (x : Ext [] mu H ca' mu' H') : Ext ca mu H ca mu H' ∧ Wd K EE ca mu H' S ∧ ∀ a, a ∈ mu → a ∈ mu' := by
  have kp : ∀ a o, H a = some o → notTbl o → H' a = some o := fun a o h t => x.kp a o h t fun z => nomatch z.1
  have e : Ext ca mu H ca mu H' := ⟨⟨[], by simp, fun _ z => nomatch z⟩, fun _ z => .inl z, fun a o h t _ => kp a o h t, x.tr, fun _ z _ _ => z⟩
  have at_ : ∀ a, (∃ o, H a = some o ∧ chg o = true) → ∃ o, H' a = some o ∧ chg o = true := fun a ⟨o, e, g⟩ => ⟨o, kp a o e (nt_chg g), g⟩
  refine ⟨e, ⟨w.len, w.nd, fun n a o h1 h2 => (w.ob n a o h1 h2).ext e id fun ha => ?_, fun a z => at_ a (w.tm a z), w'.tb, fun a z => at_ a (w.tc a z)⟩, fun a z => x.fb a z (fun q => nomatch q) (w.tm0 z)⟩
  obtain ⟨o, q, g⟩ := w.tm a ha
  rw [q, kp a o q (nt_chg g)]
theorem own_in (w : Wd K EE ca mu H S) : Wd K EE [] mu H [] := ⟨rfl, .nil, fun _ _ _ h => by simp at h, w.tm, w.tb, fun _ z => nomatch z⟩
end
theorem RE_start {K : PySem.W.Frag} {EE : Ek} {ca mu : List Addr} {H : Hp} {N : List Str} {vs : List V} {ds : List D} (h : IsL K EE ca mu H vs ds) {n : Nat} (hn : ds.length = n) (hN : n ≤ N.length) : RE K EE ca mu H (L2.start N vs) (ds.map some ++ List.replicate (N.length - n) none) := by
  subst hn
  refine ⟨?_, fun i d q => ?_⟩
  · unfold L2.start
    rw [List.length_append, List.length_append, List.length_map, List.length_map, List.length_replicate, List.length_replicate, h.length]
  · unfold L2.start
    by_cases hi : i < ds.length
    · rw [List.getElem?_append_left (by simpa using hi), List.getElem?_map] at q
      cases e : ds[i]? with
      | none => rw [e] at q; cases q
      | some d' =>
        rw [e] at q
        cases q
        obtain ⟨v, e1, e2⟩ := h.get e
        refine ⟨v, ?_, e2⟩
        rw [List.getElem?_append_left (by simpa [h.length] using hi), List.getElem?_map, e1]
        rfl
    · rw [List.getElem?_append_right (by simpa using hi), List.getElem?_replicate] at q
      split at q <;> cases q
/-! ### the table -/
/-- a def: the code, the text; lam: lambdas are made in it; kd: 0: a def, a method; 1: it stands in a record (a property's, a classmethod's) -/
structure Fe where
  d : Def
  st : Stmt
  lam : Bool
  /-- a method: its class -/
  cls : Option Str
  kd : Nat
def Fe.at_ (e : Fe) : Str × Option Str := match e.cls with
  | none => (e.d.name, none)
  | some c => (c, some e.d.name)
def Fe.qual (e : Fe) : Str := match e.cls with
  | none => e.d.name
  | some c => c ++ "." ++ e.d.name
/-- what a record holds first -/
def recAd (K : PySem.W.Frag) (p : Addr) : Addr := match K.lookup p with
  | some ⟨_, _, .fields vs, _⟩ => (match vs.toList with
    | .ref g :: _ => g
    | _ => 0)
  | _ => 0
def Fe.ad (K : PySem.W.Frag) (e : Fe) : Addr := if e.kd = 0 then He.fAd K e.at_ else recAd K (He.fAd K e.at_)
theorem Fe.glo {K : PySem.W.Frag} {e : Fe} (h : e.cls = none ∧ e.kd = 0) : e.ad K = He.ga K e.d.name ∧ e.qual = e.d.name ∧ e.at_ = (e.d.name, none) := by
  unfold Fe.ad Fe.at_ Fe.qual
  rw [h.1, if_pos h.2]
  exact ⟨rfl, rfl, rfl⟩
theorem Fe.own {K : PySem.W.Frag} {e : Fe} {c : Str} (h : e.cls = some c) (h0 : e.kd = 0) : e.ad K = He.ma K (He.ga K c) e.d.name := by
  unfold Fe.ad Fe.at_
  rw [h, if_pos h0]
  rfl
theorem Fe.rec_ {K : PySem.W.Frag} {e : Fe} {c : Str} (h : e.cls = some c) (h0 : e.kd ≠ 0) : e.ad K = recAd K (He.ma K (He.ga K c) e.d.name) := by
  unfold Fe.ad Fe.at_
  rw [h, if_neg h0]
  rfl
def Fe.D (e : Fe) : He.DefD := ⟨e.at_, e.d.name, e.qual, defArgs e.st, defBody e.st, defScope e.st, [], []⟩
/-! ### a def that stands in a record -/
def fnA (K : PySem.W.Frag) (a : Addr) : He.FnW := match K.lookup a with
  | some ⟨_, _, .func fd, _⟩ => some (fd.name, fd.qualname, fd.params, fd.body, fd.scope, fd.globals, fd.closure, fd.builtins)
  | _ => none
def nonB : Value → Bool
  | .none => true
  | _ => false
def okA (K : PySem.W.Frag) (a : Addr) (q : Str) : Bool := PySem.W.keepIn K (.ref a) && (match K.lookup a with
  | some ⟨_, _, .func fd, _⟩ => PySem.W.codeIn K fd.code q && nonB fd.defaults
  | _ => false)
theorem funA {K : PySem.W.Frag} {d : He.DefD} {a : Addr} (e : fnA K a = d.val) (c : okA K a d.qual = true) : ∃ fd, FunD K d.name d.qual d.params d.body d.scope [] [] a fd := by
  obtain ⟨kp, c2⟩ := ba c
  unfold fnA at e
  cases q : K.lookup a with
  | none =>
    rw [q] at c2
    cases c2
  | some o =>
    obtain ⟨oc, od, dt, osl⟩ := o
    rw [q] at c2 e
    cases dt with
    | func fd =>
      obtain ⟨n1, n2, n3, n4, n5, n6, n7, n8, n9, n10, n11, n12, n13, n14, n15⟩ := fd
      have e2 : (some (n1, n2, n3, n4, n5, n6, n7, n15) : He.FnW) = some (d.name, d.qual, d.params, .stmts d.body, d.scope, mainGlobals, [], builtinsNs) := e
      simp only [Option.some.injEq, Prod.mk.injEq] at e2
      obtain ⟨h1, h2, h3, h4, h5, h6, h7, h8⟩ := e2
      subst h1 h2 h3 h4 h5 h6 h7 h8
      have c3 : (PySem.W.codeIn K n13 d.qual && nonB n8) = true := c2
      obtain ⟨k1, k2⟩ := ba c3
      have e8 : n8 = .none := by
        cases n8 with
        | none => rfl
        | _ => cases k2
      subst e8
      exact ⟨_, ⟨oc, od, .none, n9, n10, n11, n12, n13, n14, osl, rfl, q, k1, .inl ⟨rfl, rfl⟩, .inl rfl⟩, kp⟩
    | _ => cases c2
def scOk (N ps : List Str) (sc : Scope) : Bool := decide (sc.kind = .function) && !sc.isCoroutine && !sc.isGenerator && decide N.Nodup && decide (N.take ps.length = ps)
  && ps.all (fun x => decide (sc.names.lookup x = some .local) || decide (sc.names.lookup x = some .cell)) && sc.names.all (fun y => decide (y.2 ≠ .free))
def chkF (T : Tb) (e : Fe) : Bool := (!e.lam || (e.cls.isNone && decide (e.kd = 0))) && decide (e.d.nps ≤ e.d.N.length) && argOk (defArgs e.st) (e.d.N.take e.d.nps) && scOk e.d.N (e.d.N.take e.d.nps) (defScope e.st) && chkSs T ⟨e.d.N, defScope e.st, defScope e.st, true, e.lam⟩ e.d.body (defBody e.st)
theorem scOk_ok {N ps : List Str} {sc : Scope} (h : scOk N ps sc = true) : FnScope N ps sc := by
  obtain ⟨h1, h7⟩ := ba h
  obtain ⟨h1, h6⟩ := ba h1
  obtain ⟨h1, h5⟩ := ba h1
  obtain ⟨h1, h4⟩ := ba h1
  obtain ⟨h1, h3⟩ := ba h1
  obtain ⟨h1, h2⟩ := ba h1
  refine ⟨of_decide_eq_true h1, by simpa using h2, by simpa using h3, of_decide_eq_true h4, of_decide_eq_true h5, fun x hx => ?_, fun y hy => of_decide_eq_true (List.all_eq_true.mp h7 y hy)⟩
  rcases Bool.or_eq_true_iff.mp (List.all_eq_true.mp h6 x hx) with q | q
  · exact .inl (of_decide_eq_true q)
  · exact .inr (of_decide_eq_true q)
/-! ### constants of the top -/
mutual
def cstB (K : PySem.W.Frag) : Value → D → Bool
  | u, .non => (match u with
    | .none => true
    | _ => false)
  | u, .bl b => (match u with
    | .bool c => decide (c = b)
    | _ => false)
  | u, .int i => (match u with
    | .int j _ => decide (j = i)
    | _ => false)
  | u, .str s => (match u with
    | .str t _ => decide (t = s)
    | _ => false)
  | u, .tup ds => (match u with
    | .ref a => (match K.lookup a with
      | some ⟨.type c, _, .seq its _, _⟩ => decide (c = "tuple") && decide (its.size ≤ sizeLine) && cstL K its.toList ds
      | _ => false)
    | _ => false)
  | _, _ => false
def cstL (K : PySem.W.Frag) : List Value → List D → Bool
  | us, [] => us.isEmpty
  | us, d :: ds => (match us with
    | u :: us => cstB K u d && cstL K us ds
    | [] => false)
end
mutual
theorem cstB_ok {K : PySem.W.Frag} {EE : Ek} : ∀ (d : D) {u : Value}, cstB K u d = true → ∃ v, RelV v u ∧ ∀ ca mu H, Is K EE ca mu H v d
  | .non, u, h => by
    cases u with
    | none => exact ⟨.non, rfl, fun _ _ _ => .non⟩
    | _ => cases h
  | .bl b, u, h => by
    cases u with
    | bool c =>
      have e : c = b := of_decide_eq_true h
      subst e
      exact ⟨.bl c, rfl, fun _ _ _ => .bl c⟩
    | _ => cases h
  | .int i, u, h => by
    cases u with
    | int j t =>
      have e : j = i := of_decide_eq_true h
      subst e
      exact ⟨.int j, ⟨t, rfl⟩, fun _ _ _ => .int j⟩
    | _ => cases h
  | .str s, u, h => by
    cases u with
    | str j t =>
      have e : j = s := of_decide_eq_true h
      subst e
      exact ⟨.str j, ⟨t, rfl⟩, fun _ _ _ => .str j⟩
    | _ => cases h
  | .tup ds, u, h => by
    cases u with
    | ref a =>
      have h : (match K.lookup a with
        | some ⟨.type c, _, .seq its _, _⟩ => decide (c = "tuple") && decide (its.size ≤ sizeLine) && cstL K its.toList ds
        | _ => false) = true := h
      split at h
      · rename_i c od its n osl q
        obtain ⟨h1, h3⟩ := ba h
        obtain ⟨h1, h2⟩ := ba h1
        obtain ⟨vs, h4, h5⟩ := cstL_ok ds h3
        exact ⟨.ref a, rfl, fun ca mu H => .tup (.inr ⟨_, its, n, q, congrArg Value.type (of_decide_eq_true h1), rfl, of_decide_eq_true h2, h4⟩) (h5 ca mu H)⟩
      · cases h
    | _ => cases h
  | .lst _, u, h => by cases h
  | .dic _, u, h => by cases h
  | .ro _, u, h => by cases h
  | .cell _, u, h => by cases h
  | .fn _, u, h => by cases h
  | .clo _ _ _, u, h => by cases h
theorem cstL_ok {K : PySem.W.Frag} {EE : Ek} : ∀ (ds : List D) {us : List Value}, cstL K us ds = true → ∃ vs, Vals vs us ∧ ∀ ca mu H, IsL K EE ca mu H vs ds
  | [], us, h => by
    cases us with
    | nil => exact ⟨[], .nil, fun _ _ _ => .nil⟩
    | cons _ _ => cases h
  | d :: ds, us, h => by
    cases us with
    | nil => cases h
    | cons u us =>
      obtain ⟨h1, h2⟩ := ba (show (cstB K u d && cstL K us ds) = true from h)
      obtain ⟨v, a1, a2⟩ := cstB_ok d h1
      obtain ⟨vs, b1, b2⟩ := cstL_ok ds h2
      exact ⟨v :: vs, .cons a1 b1, fun ca mu H => .cons (a2 ca mu H) (b2 ca mu H)⟩
end
/-- the name x of the top is d -/
def conB (K : PySem.W.Frag) (c : Str × D) : Bool := match PySem.W.nsIn K mainGlobals c.1 with
  | some (some u) => cstB K u c.2
  | _ => false
theorem conB_ok {K : PySem.W.Frag} {EE : Ek} {h : Heap} {mg : Str → Option Value} (X : K.In h) (G : h.Ns mainGlobals mg) {c : Str × D} (q : conB K c = true) : ∃ v u, mg c.1 = some u ∧ RelV v u ∧ ∀ ca mu H, Is K EE ca mu H v c.2 := by
  unfold conB at q
  split at q
  · rename_i u e
    obtain ⟨v, a, b⟩ := cstB_ok c.2 q
    exact ⟨v, u, PySem.W.mg_of X G e, a, b⟩
  · cases q
/-! ### all of it -/
/-- a law's code: fns, cs, xs: the defs, constants, exceptions' classes that stand in the text, by their numbers; tf, cons: all of them -/
structure Lw where
  fns : List (Nat × Fe)
  cs : List (Nat × Str × D)
  xs : List (Nat × Str)
  bls : List Str
  fuel : Nat
  tf : Nat → Option Def
  cons : Nat → D
  /-- classes; what no class has; methods; what makes an instance -/
  cls : List (Nat × Str) := []
  nas : List (Nat × Str) := []
  mts : List (Nat × Str × Nat) := []
  nws : List (Nat × Nat) := []
  /-- properties -/
  prs : List (Nat × Str × Nat) := []
  /-- exceptions with an own __init__: their field; the program's file -/
  xis : List (Nat × Str) := []
  file : Str := Str.empty
variable (L : Lw)
/-- a method of the class: the def, how many arguments it takes -/
def Lw.met (L : Lw) (c : Nat) (m : Str) (g : Nat) : Option (Str × Nat × Nat) := match L.cls.lookup c, L.fns.lookup g with
  | some y, some e => if e.cls = some y ∧ e.kd = 0 ∧ e.d.name = m ∧ 1 ≤ e.d.nps then some (y, g, e.d.nps - 1) else none
  | _, _ => none
/-- a property of the class -/
def Lw.prp (L : Lw) (c : Nat) (m : Str) (g : Nat) : Option (Str × Nat) := match L.cls.lookup c, L.fns.lookup g with
  | some y, some e => if e.cls = some y ∧ e.kd ≠ 0 ∧ e.d.name = m ∧ e.d.nps = 1 then some (y, g) else none
  | _, _ => none
def Lw.T (L : Lw) : Tb := { xf := fun c => L.xis.lookup c, pr := fun c m => (L.prs.find? fun p => decide (p.1 = c ∧ p.2.1 = m)).bind fun p => (L.prp c m p.2.2).map (·.2), fn := fun f => (L.fns.lookup f).bind fun e => if e.cls = none ∧ e.kd = 0 then some (e.d.name, e.d.nps) else none, cn := fun c => (L.cs.lookup c).map (·.1), bl := fun y => L.bls.contains y, xc := fun c => L.xs.lookup c, na := fun c f => (L.cls.lookup c).isSome && L.nas.contains (c, f), mt := fun c m => (L.mts.find? fun p => decide (p.1 = c ∧ p.2.1 = m)).bind fun p => (L.met c m p.2.2).map (·.2), nw := fun c => (L.nws.lookup c).bind fun g => L.met c "__init__" g }
theorem Lw.T_fn {L : Lw} {f : Nat} {y : Str} {n : Nat} (h : L.T.fn f = some (y, n)) : ∃ e, L.fns.lookup f = some e ∧ (e.cls = none ∧ e.kd = 0) ∧ e.d.name = y ∧ e.d.nps = n := by
  have h : ((L.fns.lookup f).bind fun e => if e.cls = none ∧ e.kd = 0 then some (e.d.name, e.d.nps) else none) = some (y, n) := h
  cases q : L.fns.lookup f with
  | none => rw [q] at h; cases h
  | some e =>
    rw [q] at h
    have h : (if e.cls = none ∧ e.kd = 0 then some (e.d.name, e.d.nps) else none) = some (y, n) := h
    split at h
    · rename_i z
      cases h
      exact ⟨e, rfl, z, rfl, rfl⟩
    · cases h
theorem Lw.met_ok {L : Lw} {c g : Nat} {m : Str} {r : Str × Nat × Nat} (h : L.met c m g = some r) : ∃ e, L.fns.lookup g = some e ∧ L.cls.lookup c = some r.1 ∧ e.cls = some r.1 ∧ e.kd = 0 ∧ e.d.name = m ∧ e.d.nps = r.2.2 + 1 ∧ r.2.1 = g := by
  unfold Lw.met at h
  split at h
  · rename_i y e q1 q2
    split at h
    · rename_i z
      cases h
      exact ⟨e, q2, q1, z.1, z.2.1, z.2.2.1, by show _ = e.d.nps - 1 + 1; omega, rfl⟩
    · cases h
  · cases h
theorem Lw.prp_ok {L : Lw} {c g : Nat} {m : Str} {r : Str × Nat} (h : L.prp c m g = some r) : ∃ e, L.fns.lookup g = some e ∧ L.cls.lookup c = some r.1 ∧ e.cls = some r.1 ∧ e.kd ≠ 0 ∧ e.d.name = m ∧ e.d.nps = 1 ∧ r.2 = g := by
  unfold Lw.prp at h
  split at h
  · rename_i y e q1 q2
    split at h
    · rename_i z
      cases h
      exact ⟨e, q2, q1, z.1, z.2.1, z.2.2.1, z.2.2.2, rfl⟩
    · cases h
  · cases h
def Lw.run (L : Lw) (k : Nat) : Call := callN L.cons L.tf L.fuel k
def Lw.lams (L : Lw) : List He.Defn := L.fns.filterMap fun p => if p.2.lam then some (p.2.d.name, none) else none
def Lw.EE (L : Lw) (K : PySem.W.Frag) : Ek := ⟨fun f => ((L.fns.lookup f).map fun e => e.ad K).getD 0, fun c => ((L.cls.lookup c).map (He.ga K)).getD 0, L.T, L.lams.map fun p => ((He.cT K p).2, p.1 ++ ".<locals>." ++ "<lambda>")⟩
def Lw.G (L : Lw) (K : PySem.W.Frag) (k : Nat) : En := ⟨L.EE K, fun c => ((L.xs.lookup c).map (He.ga K)).getD 0, L.cons, L.run k⟩
/-- what is asked of the classes -/
def Lw.fo (L : Lw) : List He.Fa := (L.cls.flatMap fun p => [.glo p.2, .cls p.2]) ++ ((L.nas.filterMap fun p => (L.cls.lookup p.1).map fun y => .noat y p.2) ++ ((L.mts.filterMap fun p => (L.cls.lookup p.1).map fun y => .meth y p.2.1) ++ (L.nws.filterMap fun p => (L.cls.lookup p.1).map .mkr)))
def Lw.fa (L : Lw) : List He.Fa := (L.fns.filterMap fun e => if e.2.cls = none ∧ e.2.kd = 0 then some (.glo e.2.d.name) else none) ++ (L.bls.map .free ++ ((L.xs.map fun e => .glo e.2) ++ L.fo))
def Lw.fn (L : Lw) : List He.DefD := L.fns.filterMap fun e => if e.2.kd = 0 then some e.2.D else none
def Lw.fp (L : Lw) : List Fe := L.fns.filterMap fun e => if e.2.kd = 0 then none else some e.2
def Lw.chk (L : Lw) : Bool := L.fns.all fun e => chkF L.T e.2
/-- the facts of an exception's class -/
def excB (K : PySem.W.Frag) (D : Addr) : Bool := PySem.W.keepIn K (.ref D) && (decide (PySem.W.subIn K (.ref D) (.type "BaseException") = some true) && (decide (PySem.W.typeIn K (.ref D) = some (.type "type"))
  && (decide (PySem.W.findIn K (.ref D) "__getattribute__" = some (some (.builtin "BaseException.__getattribute__"))) && (decide (PySem.W.findIn K (.ref D) "__getattr__" = some none) && (PySem.W.hasDictIn K D
  && (decide (PySem.W.findIn K (.ref D) "__class__" = some (some (.builtin "object.__class__"))) && (decide (PySem.W.specialIn K (.builtin "object.__class__") "__get__" = some (some (.builtin "getset_descriptor.__get__")))
  && (decide (PySem.W.takesIn K (.builtin "object.__class__") = some true) && decide (PySem.W.mroIn K D (.type "object") = some true)))))))))
theorem excB_ok {K : PySem.W.Frag} {mg : Str → Option Value} {D : Addr} {y : Str} (h : excB K D = true) (g : mg y = some (.ref D)) : XcF K mg D y := by
  obtain ⟨h1, h⟩ := ba h
  obtain ⟨h2, h⟩ := ba h
  obtain ⟨h3, h⟩ := ba h
  obtain ⟨h4, h⟩ := ba h
  obtain ⟨h5, h⟩ := ba h
  obtain ⟨h6, h⟩ := ba h
  obtain ⟨h7, h⟩ := ba h
  obtain ⟨h8, h⟩ := ba h
  obtain ⟨h9, h10⟩ := ba h
  exact ⟨g, h1, of_decide_eq_true h2, of_decide_eq_true h3, ⟨of_decide_eq_true h4, of_decide_eq_true h5, of_decide_eq_true h2, h6, of_decide_eq_true h7, of_decide_eq_true h8, of_decide_eq_true h9, of_decide_eq_true h10⟩⟩
def xsB (K : PySem.W.Frag) (xs : List (Nat × Str)) : Bool := xs.all (fun a => excB K (He.ga K a.2) && (decide (100 ≤ a.1) || PySem.W.excIn K (He.ga K a.2) He.veBase "ValueError.__new__"))
  && xs.all fun a => xs.all fun b => decide (PySem.W.exmOne K (.ref (He.ga K b.2)) (.ref (He.ga K a.2)) = some (subX b.1 a.1)) && decide (PySem.W.kitOne K (.ref (He.ga K b.2)) (.ref (He.ga K a.2)) = some (subX b.1 a.1))
/-- a property -/
def prB (K : PySem.W.Frag) (C : Addr) (m : Str) : Bool := decide (PySem.W.findIn K (.ref C) m = some (some (.ref (He.ma K C m)))) && (decide (PySem.W.specialIn K (.ref (He.ma K C m)) "__get__" = some (some (.builtin "property.__get__"))) && (decide (PySem.W.takesIn K (.ref (He.ma K C m)) = some true)
  && (match PySem.W.recIn K (He.ma K C m) "property" with
    | some (.ref g :: _) => decide (g = recAd K (He.ma K C m))
    | _ => false)))
theorem prB_ok {K : PySem.W.Frag} {C : Addr} {m : Str} (h : prB K C m = true) : PropOf K C m (He.ma K C m) (recAd K (He.ma K C m)) := by
  obtain ⟨h1, h⟩ := ba h
  obtain ⟨h2, h⟩ := ba h
  obtain ⟨h3, h4⟩ := ba h
  refine ⟨of_decide_eq_true h1, of_decide_eq_true h2, of_decide_eq_true h3, ?_⟩
  split at h4
  · rename_i g r q
    have := of_decide_eq_true h4
    subst this
    exact ⟨r, q⟩
  · cases h4
/-- the facts that are no def's -/
def Lw.ex (L : Lw) (K : PySem.W.Frag) : Bool := L.cs.all (fun c => conB K c.2) && decide ((L.lams.map fun p => (He.cT K p).2).Nodup) && xsB K L.xs && L.prs.all (fun p => match L.cls.lookup p.1 with
    | some y => prB K (He.ga K y) p.2.1
    | none => false) && L.xis.all (fun p => match L.xs.lookup p.1 with
    | some y => xiB L.file K (He.ga K y) p.2
    | none => false)
/-- what the program itself must have -/
def Lw.mainOk (L : Lw) (P : Program) : Bool := L.xis.isEmpty || (!(P.main.scope.names.lookup ("super" : Str)).isSome && decide (P.main.file = L.file))
/-- the numbers are those of all -/
structure Lw.Fits (L : Lw) : Prop where
  f : L.fns.map (fun p => L.tf p.1) = L.fns.map fun p => some p.2.d
  c : L.cs.map (fun p => L.cons p.1) = L.cs.map fun p => p.2.2
structure Lw.Says (L : Lw) (w : World) (h : Heap) (K : PySem.W.Frag) : Prop where
  x : He.SaysX L.fa L.fn [] L.lams L.ex w h K
  y : (L.fp.map fun e => fnA K (e.ad K)) = L.fp.map fun e => e.D.val
  z : (L.fp.all fun e => okA K (e.ad K) e.qual) = true
theorem lookup_in {α : Type} {k : Nat} {a : α} : ∀ {l : List (Nat × α)}, l.lookup k = some a → (k, a) ∈ l
  | [], h => by cases h
  | (j, b) :: l, h => by
    rw [List.lookup_cons] at h
    cases q : (k == j) with
    | true =>
      rw [q] at h
      cases h
      rw [eq_of_beq q]
      exact List.mem_cons_self
    | false =>
      rw [q] at h
      exact List.mem_cons_of_mem _ (lookup_in h)
theorem mem_eq {α β : Type} {f g : α → β} : ∀ {l : List α} {a : α}, l.map f = l.map g → a ∈ l → f a = g a
  | b :: l, a, h, m => by
    rw [List.map_cons, List.map_cons] at h
    injection h with h1 h2
    rcases List.mem_cons.mp m with e | m
    · rw [e]; exact h1
    · exact mem_eq h2 m
section
variable {L : Lw} {P : Program} {w : World} {K : PySem.W.Frag} {mg : Str → Option Value} {base h h0 : Heap}
theorem Lw.Says.d (c : L.Says w h0 K) : He.SaysD L.fa L.fn K := c.x.t.d
theorem Lw.Says.def_ (c : L.Says w h0 K) {f : Nat} {e : Fe} (hf : L.fns.lookup f = some e) : ∃ fd, FunD K e.d.name e.qual (defArgs e.st) (defBody e.st) (defScope e.st) [] [] (e.ad K) fd := by
  by_cases h0 : e.kd = 0
  · have ea : e.ad K = He.fAd K e.at_ := if_pos h0
    rw [ea]
    exact He.SaysD.defs (d := e.D) c.d (List.mem_filterMap.mpr ⟨(f, e), lookup_in hf, if_pos h0⟩)
  · have hm : e ∈ L.fp := List.mem_filterMap.mpr ⟨(f, e), lookup_in hf, if_neg h0⟩
    exact funA (d := e.D) (mem_eq (f := fun e : Fe => fnA K (e.ad K)) c.y hm) (List.all_eq_true.mp c.z e hm)
theorem Lw.Says.glo (c : L.Says w h0 K) (X : K.In h) (G : h.Ns mainGlobals mg) {f : Nat} {e : Fe} (hf : L.fns.lookup f = some e) (hn : e.cls = none ∧ e.kd = 0) : mg e.d.name = some (.ref (e.ad K)) := by
  rw [(Fe.glo hn).1]
  exact He.glo_ok X G (He.SaysD.facts c.d (List.mem_append_left _ (List.mem_filterMap.mpr ⟨(f, e), lookup_in hf, if_pos hn⟩)))
theorem Lw.Says.fo (c : L.Says w h0 K) {a : He.Fa} (h : a ∈ L.fo) : a.ok K = true := He.SaysD.facts c.d (List.mem_append_right _ (List.mem_append_right _ (List.mem_append_right _ h)))
theorem Lw.Says.cl (c : L.Says w h0 K) {i : Nat} {y : Str} (h : L.cls.lookup i = some y) : (He.Fa.glo y).ok K = true ∧ Cls K (He.ga K y) :=
  ⟨c.fo (List.mem_append_left _ (List.mem_flatMap.mpr ⟨_, lookup_in h, List.mem_cons_self⟩)), He.cls_ok (c.fo (List.mem_append_left _ (List.mem_flatMap.mpr ⟨_, lookup_in h, List.mem_cons_of_mem _ List.mem_cons_self⟩)))⟩
theorem Lw.Says.ex3 (c : L.Says w h0 K) : L.cs.all (fun c => conB K c.2) = true ∧ (L.lams.map fun p => (He.cT K p).2).Nodup ∧ xsB K L.xs = true := by
  obtain ⟨h1, _⟩ := ba c.x.more
  obtain ⟨h1, _⟩ := ba h1
  obtain ⟨h1, h3⟩ := ba h1
  obtain ⟨h1, h2⟩ := ba h1
  exact ⟨h1, of_decide_eq_true h2, h3⟩
theorem Lw.Says.prp (c : L.Says w h0 K) {p : Nat × Str × Nat} (hp : p ∈ L.prs) {y : Str} (hy : L.cls.lookup p.1 = some y) : PropOf K (He.ga K y) p.2.1 (He.ma K (He.ga K y) p.2.1) (recAd K (He.ma K (He.ga K y) p.2.1)) := by
  obtain ⟨h1, _⟩ := ba c.x.more
  obtain ⟨_, h2⟩ := ba h1
  have h3 := List.all_eq_true.mp h2 p hp
  rw [hy] at h3
  exact prB_ok h3
theorem Lw.Says.xi (c : L.Says w h0 K) (hm : L.mainOk P = true) {i : Nat} {f y : Str} (hx : L.xis.lookup i = some f) (hy : L.xs.lookup i = some y) : ∃ fI fd sf p msg b cc cda, XiF P K (He.ga K y) f fI fd sf p msg b cc cda := by
  obtain ⟨_, h2⟩ := ba c.x.more
  have hin := lookup_in hx
  have h3 := List.all_eq_true.mp h2 _ hin
  rw [show L.xs.lookup (i, f).1 = some y from hy] at h3
  rcases Bool.or_eq_true_iff.mp hm with z | z
  · rw [List.isEmpty_iff.mp z] at hin
    cases hin
  · obtain ⟨z1, z2⟩ := ba z
    exact xiB_ok (of_decide_eq_true z2) (by simpa using z1) h3
theorem Lw.binds (hc : L.chk = true) {f : Nat} {e : Fe} (hf : L.fns.lookup f = some e) {a : Addr} {fd : FuncData} (F : FunD K e.d.name e.qual (defArgs e.st) (defBody e.st) (defScope e.st) [] [] a fd) : Binds K fd (e.d.N.take e.d.nps) [] := by
  obtain ⟨h1, _⟩ := ba (List.all_eq_true.mp hc _ (lookup_in hf))
  obtain ⟨h1, _⟩ := ba h1
  obtain ⟨_, h2⟩ := ba h1
  exact F.bindsN fun kV doc pm an cdv ct us hl => argOk_ok h2 kV doc pm an cdv ct us hl
theorem Lw.tabs (c : L.Says w h0 K) {f : Nat} {e : Fe} (hf : L.fns.lookup f = some e) (hl : e.lam = true) : ((He.cT K (e.d.name, none)).2, e.d.name ++ ".<locals>." ++ "<lambda>") ∈ (L.EE K).T ∧ ∀ p ∈ (L.EE K).T, p.1 = (He.cT K (e.d.name, none)).2 → p.2 = e.d.name ++ ".<locals>." ++ "<lambda>" := by
  have hm : (e.d.name, none) ∈ L.lams := List.mem_filterMap.mpr ⟨(f, e), lookup_in hf, by rw [if_pos hl]⟩
  refine ⟨List.mem_map.mpr ⟨_, hm, rfl⟩, fun p hp he => ?_⟩
  obtain ⟨q, hq, rfl⟩ := List.mem_map.mp hp
  have nd := c.ex3.2.1
  have e2 : q = (e.d.name, none) := by
    obtain ⟨i, hi, ei⟩ := List.mem_iff_getElem.mp hq
    obtain ⟨j, hj, ej⟩ := List.mem_iff_getElem.mp hm
    have he : (He.cT K q).2 = (He.cT K (e.d.name, none)).2 := he
    have hij : i = j := by
      refine (List.getElem_inj nd (h₀ := by simpa using hi) (h₁ := by simpa using hj)).mp ?_
      rw [List.getElem_map, List.getElem_map, ei, ej]
      exact he
    subst hij
    rw [← ei, ej]
  rw [e2]
theorem Lw.fa_ (L : Lw) {f : Nat} {e : Fe} (hf : L.fns.lookup f = some e) : (L.EE K).FA f = e.ad K := by
  show ((L.fns.lookup f).map fun e => e.ad K).getD 0 = _
  rw [hf]
  rfl
theorem Lw.ca_ (L : Lw) {i : Nat} {y : Str} (h : L.cls.lookup i = some y) {k : Nat} : (L.G K k).EE.CA i = He.ga K y := by
  show ((L.cls.lookup i).map (He.ga K)).getD 0 = _
  rw [h]
  rfl
/-- what every def's place gives -/
theorem Lw.cx (hmo : L.mainOk P = true) (hc : L.chk = true) (ft : L.Fits) (c : L.Says w h0 K) (X : K.In h) (G : h.Ns mainGlobals mg) {k : Nat} (ih : ∀ (f : Nat) (e : Fe) (fd : FuncData), L.fns.lookup f = some e → FunD K e.d.name e.qual (defArgs e.st) (defBody e.st) (defScope e.st) [] [] (e.ad K) fd →
      FnOk P w K mg base (L2.CX P w) (2 * k) (e.ad K) fd (e.d.N.take e.d.nps) (SpF K (L.G K k) f e.d.nps)) (il : LamP P w K mg base (L.G K k) (2 * k)) {C : Cc} {W : WX} {Y : Cx} (e1 : Y.N = C.N) (e2 : Y.N.Nodup) (e3 : Y.env.scope = C.sc) (e4 : ∀ x, C.ss.names.lookup x = some .cell → Y.fn x = true) (e5 : Y.calm = true)
    (e6 : Y.A.units + 65 < cLine) (e7 : Takes Y W) (e8 : Y.prog = P) (e9 : Y.w = w) (e10 : Y.K = K) (e11 : Y.mg = mg) (e12 : Y.base = base) (hr : Room (2 * k + 1) Y.A)
    (lx : C.lam = true → ∃ c P, Y.env.code = .ref c ∧ LamX.TabB Y.base Y.mg c P ∧ (P, Y.env.qual ++ "<lambda>") ∈ (L.EE K).T ∧ (∀ p ∈ (L.EE K).T, p.1 = P → p.2 = Y.env.qual ++ "<lambda>") ∧ ∀ x, Y.fn x = true) : CxOk L.T (L.G K k) C W Y := by
  subst e8 e9 e10 e11 e12
  refine ⟨e1, e2, e3, e4, fun _ => e5, e6, e7, rfl, fun f' y n hy => ?_, fun f' y n ds S hy hn => ?_, ⟨2 * k, il, hr.mono (Nat.le_succ _)⟩, lx, fun i y hy => ?_, fun i y hy => ?_, fun y hy => ?_, fun i f y hf hy => ⟨?_, ?_⟩, ⟨fun i f hy => ?_, fun i m g n hy => ?_, fun i y g n hy => ?_, fun i m g hy => ?_⟩⟩
  · obtain ⟨e2, q2, q3, rfl, rfl⟩ := L.T_fn hy
    obtain ⟨fd2, F2⟩ := c.def_ q2
    have ea : (L.G Y.K k).EE.FA f' = e2.ad Y.K := L.fa_ q2
    rw [ea]
    refine ⟨2 * k, fd2, _, ih f' e2 fd2 q2 F2, hr.mono (Nat.le_succ _), c.glo X G q2 q3, F2.kp, Lw.binds hc q2 F2, ?_⟩
    obtain ⟨oc, od, dV, kV, doc, pm, an, cdv, ct, osl, rfl, lk, _⟩ := F2.ex
    exact ⟨oc, od, osl, lk⟩
  · obtain ⟨e2, q2, q3, rfl, rfl⟩ := L.T_fn hy
    · have et : L.tf f' = some e2.d := mem_eq (f := fun p : Nat × Fe => L.tf p.1) ft.f (lookup_in q2)
      show callN L.cons L.tf L.fuel k (.glo f') ds S = .no
      cases k with
      | zero => rfl
      | succ k =>
        unfold callN
        rw [et]
        simp only
        rw [if_neg fun z => hn z.1]
  · have hy : L.xs.lookup i = some y := hy
    have hm := lookup_in hy
    have ea : ∀ {j z}, L.xs.lookup j = some z → (L.G Y.K k).XA j = He.ga Y.K z := fun {j z} q => by
      show ((L.xs.lookup j).map (He.ga Y.K)).getD 0 = _
      rw [q]
      rfl
    obtain ⟨x1, x2⟩ := ba c.ex3.2.2
    obtain ⟨x3, x4⟩ := ba (List.all_eq_true.mp x1 _ hm)
    refine ⟨?_, fun hlt => ?_, fun c' y' hy' => ?_⟩
    · rw [ea hy]
      have g := He.glo_ok X G (He.SaysD.facts c.d (f := .glo y) (List.mem_append_right _ (List.mem_append_right _ (List.mem_append_left _ (List.mem_map.mpr ⟨_, hm, rfl⟩)))))
      exact excB_ok x3 g
    · rw [ea hy]
      rcases Bool.or_eq_true_iff.mp x4 with z | z
      · have z : 100 ≤ i := of_decide_eq_true z
        omega
      · exact z
    · have hy' : L.xs.lookup c' = some y' := hy'
      rw [ea hy, ea hy']
      obtain ⟨z1, z2⟩ := ba (List.all_eq_true.mp (List.all_eq_true.mp x2 _ hm) _ (lookup_in hy'))
      exact ⟨of_decide_eq_true z1, of_decide_eq_true z2⟩
  · have hy : (L.cs.lookup i).map (·.1) = some y := hy
    cases q2 : L.cs.lookup i with
    | none => rw [q2] at hy; cases hy
    | some e2 =>
      rw [q2] at hy
      cases hy
      obtain ⟨v, u, a1, a2, a3⟩ := conB_ok (EE := L.EE Y.K) X G (List.all_eq_true.mp c.ex3.1 _ (lookup_in q2))
      refine ⟨v, u, a1, a2, fun ca mu H => ?_⟩
      have ec : L.cons i = e2.2 := mem_eq (f := fun p : Nat × Str × D => L.cons p.1) ft.c (lookup_in q2)
      show Is Y.K (L.EE Y.K) ca mu H v (L.cons i)
      rw [ec]
      exact a3 ca mu H
  · exact He.free_ok X G (He.SaysD.facts c.d (List.mem_append_right _ (List.mem_append_left _ (List.mem_map_of_mem (by simpa using (show L.bls.contains y = true from hy))))))
  · have hf : L.xis.lookup i = some f := hf
    have hy : L.xs.lookup i = some y := hy
    have ea : (L.G Y.K k).XA i = He.ga Y.K y := by
      show ((L.xs.lookup i).map (He.ga Y.K)).getD 0 = _
      rw [hy]
      rfl
    rw [ea]
    exact c.xi hmo hf hy
  · exact hr.mono (Nat.succ_le_succ (Nat.zero_le _))
  · have hy : ((L.cls.lookup i).isSome && L.nas.contains (i, f)) = true := hy
    obtain ⟨y1, y2⟩ := ba hy
    obtain ⟨y, q⟩ := Option.isSome_iff_exists.mp y1
    rw [L.ca_ q]
    exact ⟨(c.cl q).2, He.noat_ok (c.fo (List.mem_append_right _ (List.mem_append_left _ (List.mem_filterMap.mpr ⟨(i, f), by simpa using y2, by show (L.cls.lookup i).map _ = _; rw [q]; rfl⟩))))⟩
  · have hy : ((L.mts.find? fun p => decide (p.1 = i ∧ p.2.1 = m)).bind fun p => (L.met i m p.2.2).map (·.2)) = some (g, n) := hy
    cases q : L.mts.find? fun p => decide (p.1 = i ∧ p.2.1 = m) with
    | none => rw [q] at hy; cases hy
    | some p =>
      rw [q] at hy
      have hy : (L.met i m p.2.2).map (·.2) = some (g, n) := hy
      cases q2 : L.met i m p.2.2 with
      | none => rw [q2] at hy; cases hy
      | some r =>
        rw [q2] at hy
        have hy : some r.2 = some (g, n) := hy
        obtain ⟨e, a1, a2, a3, a0, a4, a5, a6⟩ := L.met_ok q2
        obtain ⟨y, g', n'⟩ := r
        cases hy
        have a6 : g = p.2.2 := a6
        subst a6
        have hp0 := List.find?_some q
        have hp : p.1 = i ∧ p.2.1 = m := of_decide_eq_true hp0
        obtain ⟨fd, F⟩ := c.def_ a1
        rw [L.ca_ a2]
        have hm := He.meth_ok (c.fo (a := .meth y m) (List.mem_append_right _ (List.mem_append_right _ (List.mem_append_left _ (List.mem_filterMap.mpr ⟨p, List.mem_of_find?_eq_some q, by rw [hp.1, hp.2]; show (L.cls.lookup i).map _ = _; rw [a2]; rfl⟩)))))
        have ea : e.ad Y.K = He.ma Y.K (He.ga Y.K y) m := by rw [Fe.own a3 a0, a4]
        rw [← ea] at hm
        have hF := ih _ e fd a1 F
        have a5 : e.d.nps = n + 1 := a5
        rw [a5] at hF
        have hB := Lw.binds hc a1 F
        rw [a5] at hB
        exact ⟨(c.cl a2).2, 2 * k, _, fd, _, hm, hF, hr.mono (Nat.le_succ _), hB⟩
  · have hy : ((L.nws.lookup i).bind fun g => L.met i "__init__" g) = some (y, g, n) := hy
    cases q : L.nws.lookup i with
    | none => rw [q] at hy; cases hy
    | some g2 =>
      rw [q] at hy
      have hy : L.met i "__init__" g2 = some (y, g, n) := hy
      obtain ⟨e, a1, a2, a3, a0, a4, a5, a6⟩ := L.met_ok hy
      have a6 : g = g2 := a6
      subst a6
      obtain ⟨fd, F⟩ := c.def_ a1
      have a2 : L.cls.lookup i = some y := a2
      rw [L.ca_ a2]
      have hm := He.mkr_ok (c.fo (a := .mkr y) (List.mem_append_right _ (List.mem_append_right _ (List.mem_append_right _ (List.mem_filterMap.mpr ⟨(i, g), lookup_in q, by show (L.cls.lookup i).map _ = _; rw [a2]; rfl⟩)))))
      have ea : e.ad Y.K = He.ma Y.K (He.ga Y.K y) "__init__" := by rw [Fe.own a3 a0, a4]
      rw [← ea] at hm
      have hF := ih _ e fd a1 F
      have a5 : e.d.nps = n + 1 := a5
      rw [a5] at hF
      have hB := Lw.binds hc a1 F
      rw [a5] at hB
      exact ⟨He.glo_ok X G (c.cl a2).1, 2 * k, _, fd, _, hm, hF, hr, hB⟩
  · have hy : ((L.prs.find? fun p => decide (p.1 = i ∧ p.2.1 = m)).bind fun p => (L.prp i m p.2.2).map (·.2)) = some g := hy
    cases q : L.prs.find? fun p => decide (p.1 = i ∧ p.2.1 = m) with
    | none => rw [q] at hy; cases hy
    | some p =>
      rw [q] at hy
      have hy : (L.prp i m p.2.2).map (·.2) = some g := hy
      cases q2 : L.prp i m p.2.2 with
      | none => rw [q2] at hy; cases hy
      | some r =>
        rw [q2] at hy
        have hy : some r.2 = some g := hy
        obtain ⟨e, a1, a2, a3, a0, a4, a5, a6⟩ := L.prp_ok q2
        obtain ⟨y, g'⟩ := r
        cases hy
        have a6 : g' = p.2.2 := a6
        subst a6
        have hp0 := List.find?_some q
        have hp : p.1 = i ∧ p.2.1 = m := of_decide_eq_true hp0
        obtain ⟨fd, F⟩ := c.def_ a1
        have a2 : L.cls.lookup i = some y := a2
        rw [L.ca_ a2]
        have hm := c.prp (List.mem_of_find?_eq_some q) (y := y) (by rw [hp.1]; exact a2)
        rw [hp.2] at hm
        have ea : e.ad Y.K = recAd Y.K (He.ma Y.K (He.ga Y.K y) m) := by rw [Fe.rec_ a3 a0, a4]
        rw [← ea] at hm
        have hF := ih _ e fd a1 F
        have a5 : e.d.nps = 1 := a5
        rw [a5] at hF
        have hB := Lw.binds hc a1 F
        rw [a5] at hB
        exact ⟨(c.cl a2).2, 2 * k, _, _, fd, _, hm, hF, hr, hB⟩
/-- every def and every lambda keeps its promise -/
theorem Lw.ok (hmo : L.mainOk P = true) (hc : L.chk = true) (ft : L.Fits) (c : L.Says w h0 K) (X : K.In h) (G : h.Ns mainGlobals mg) (tb : ∀ p ∈ L.lams, LamX.TabB base mg (He.cT K p).1 (He.cT K p).2) : ∀ k : Nat, (∀ (f : Nat) (e : Fe) (fd : FuncData), L.fns.lookup f = some e → FunD K e.d.name e.qual (defArgs e.st) (defBody e.st) (defScope e.st) [] [] (e.ad K) fd →
    FnOk P w K mg base (L2.CX P w) (2 * k) (e.ad K) fd (e.d.N.take e.d.nps) (SpF K (L.G K k) f e.d.nps)) ∧ LamP P w K mg base (L.G K k) (2 * k) := by
  intro k
  induction k with
  | zero =>
    refine ⟨fun f e fd hf F => ⟨fun vs H Q E q => ?_, fun A outer s H args us vs Q E _ _ _ _ q => ?_⟩, fun A outer s H f np e cs ds us vs S ca mu Q E _ _ _ _ _ _ _ _ _ q => q.elim⟩
    all_goals
      obtain ⟨_, _, _, _, _, _, _, z⟩ := q
      exact z.elim
  | succ k ih =>
    obtain ⟨ih, il⟩ := ih
    refine ⟨fun f e fd hf F => ?_, lamP_of (G := L.G K k) rfl rfl (fun e ds S => rfl) fun A outer s H f F fr e E hr hnd hnc hce => ?_⟩
    · obtain ⟨h1, h4⟩ := ba (List.all_eq_true.mp hc _ (lookup_in hf))
      obtain ⟨h1, h3⟩ := ba h1
      obtain ⟨h1, h2⟩ := ba h1
      obtain ⟨hlm, h1⟩ := ba h1
      have hN : e.d.nps ≤ e.d.N.length := of_decide_eq_true h1
      have hpl : (e.d.N.take e.d.nps).length = e.d.nps := by rw [List.length_take]; omega
      obtain ⟨oc, od, dV, kV, doc, pm, an, cdv, ct, osl, efd, lk, hcd, _⟩ := F.ex
      subst efd
      refine fn_of lk hcd (scOk_ok h3) (fun vs H Q E q => by rw [hpl]; exact q.1) fun A outer s H vs Q E hr q => ?_
      obtain ⟨hlen, ca, mu, ds, S, wd, iL, h0⟩ := q
      have ok : CxOk L.T (L.G K k) ⟨e.d.N, defScope e.st, defScope e.st, true, e.lam⟩ (fun cls d _ H => E cls d H) (cxOf (L2.CX P w) P w K mg base e.d.N e.qual (defScope e.st) (e.ad K) cdv A outer s H E) := by
        refine Lw.cx hmo hc ft c X G ih il rfl (scOk_ok h3).nd rfl (fun _ _ => rfl) rfl ?_ (takes_of rfl rfl rfl rfl) rfl rfl rfl rfl rfl hr fun hl => ?_
        · have := hr.un
          show (A.deeper _).units + 65 < cLine
          omega
        · have hl : e.lam = true := hl
          have hcn : e.cls = none ∧ e.kd = 0 := by
            rw [hl] at hlm
            simpa using hlm
          obtain ⟨n1, n2, n3⟩ := Fe.glo (K := K) hcn
          have lk2 := lk
          unfold Fe.ad at lk2
          rw [n3, if_pos hcn.2] at lk2
          obtain ⟨cc, ecd⟩ := He.codeIn_ref hcd
          have hm : (e.d.name, none) ∈ L.lams := List.mem_filterMap.mpr ⟨(f, e), lookup_in hf, by rw [if_pos hl]⟩
          have ec : (He.cT K (e.d.name, none)).1 = cc := He.codeOf_eq (p := (e.d.name, none)) lk2 ecd
          obtain ⟨t1, t2⟩ := Lw.tabs c hf hl
          refine ⟨cc, (He.cT K (e.d.name, none)).2, ecd, by rw [← ec]; exact tb _ hm, ?_, ?_, fun _ => rfl⟩
          · show (_, e.qual ++ ".<locals>." ++ "<lambda>") ∈ _
            rw [n2]
            exact t1
          · show ∀ p ∈ _, _ → _ = e.qual ++ ".<locals>." ++ "<lambda>"
            rw [n2]
            exact t2
      refine ⟨RdSs K (L.G K k) L.fuel (fun cls d _ H => E cls d H) e.d.body, sndSs e.d.body ok ⟨rfl, rfl⟩ (passes_of rfl) h4, ?_⟩
      have hcall : (L.G K (k + 1)).call (.glo f) ds S = callN L.cons L.tf L.fuel (k + 1) (.glo f) ds S := rfl
      rw [hcall] at h0
      unfold callN at h0
      have htf : L.tf f = some e.d := mem_eq (f := fun p : Nat × Fe => L.tf p.1) ft.f (lookup_in hf)
      rw [htf] at h0
      have hlen2 : ds.length = e.d.nps := by rw [← iL.length]; exact hlen
      simp only at h0
      rw [if_pos ⟨hlen2, hN⟩] at h0
      have wd : Wd K (L.EE K) ca mu H S := wd
      have iL : IsL K (L.EE K) ca mu H vs ds := iL
      cases hreg : e.d.reg with
      | false =>
        rw [hreg] at h0
        refine ⟨ca, mu, _, S, wd, RE_start iL hlen2 hN, ?_⟩
        have h0 : okR K (L.EE K) (L.G K k).XA (IsR K (L.EE K)) ca mu H (match exss L.cons (callN L.cons L.tf L.fuel k) L.fuel e.d.body (ds.map some ++ List.replicate (e.d.N.length - e.d.nps) none) S with
            | .nx _ S' => .ok .non S'
            | .rt v S' => .ok v S'
            | .exc x _ S' => .exc x S'
            | .no => .no) Q E := h0
        show flP K (L.EE K) (L.G K k).XA ca mu H (exss L.cons (callN L.cons L.tf L.fuel k) L.fuel e.d.body _ S) _ _
        cases hx : exss L.cons (callN L.cons L.tf L.fuel k) L.fuel e.d.body (ds.map some ++ List.replicate (e.d.N.length - e.d.nps) none) S with
        | nx ρ S' => rw [hx] at h0; exact fun σ' ca' mu' H' x w re => h0 .non ca' mu' H' x w .non
        | rt d S' => rw [hx] at h0; exact h0
        | exc x ρ S' => rw [hx] at h0; exact fun cls dd σ' ca' mu' H' x w re i => h0 cls dd ca' mu' H' x w i
        | no => rw [hx] at h0; exact h0.elim
      | true =>
        rw [hreg] at h0
        simp only at h0
        split at h0
        · rename_i hp
          refine ⟨[], mu, _, [], own_in wd, RE_start (IsL.pur (fun _ z => z) ds hp iL) hlen2 hN, ?_⟩
          show flP K (L.EE K) (L.G K k).XA [] mu H (exss L.cons (callN L.cons L.tf L.fuel k) L.fuel e.d.body _ []) _ _
          cases hx : exss L.cons (callN L.cons L.tf L.fuel k) L.fuel e.d.body (ds.map some ++ List.replicate (e.d.N.length - e.d.nps) none) [] with
          | nx ρ S' =>
            rw [hx] at h0
            exact fun σ' ca' mu' H' x w' re => h0 .non ca mu H' (own_back wd w' x).1 (own_back wd w' x).2.1 .non
          | rt d S' =>
            rw [hx] at h0
            simp only at h0
            split at h0
            · rename_i hd
              exact fun v ca' mu' H' x w' i => h0 v ca mu H' (own_back wd w' x).1 (own_back wd w' x).2.1 (Is.pur (own_back wd w' x).2.2 d hd i)
            · exact h0.elim
          | exc x ρ S' =>
            rw [hx] at h0
            simp only at h0
            split at h0
            · rename_i hd
              intro cls dd σ' ca' mu' H' x' w' re i
              refine h0 cls dd ca mu H' (own_back wd w' x').1 (own_back wd w' x').2.1 ⟨i.1, ?_⟩
              have i2 := i.2
              cases hfs : x.fs with
              | nil => rw [hfs] at i2; exact i2
              | cons a as =>
                rw [hfs] at i2 hd
                obtain ⟨d, vs, g1, g2, g3, g4, g5⟩ := i2
                exact ⟨d, vs, g1, fun z => g2 ((own_back wd w' x').2.2 _ z), g3, g4, IsL.pur (own_back wd w' x').2.2 _ hd g5⟩
            · exact h0.elim
          | no => rw [hx] at h0; exact h0.elim
        · exact h0.elim
    · refine (sndE e (Lw.cx (C := lamCc F fr) (k := k) hmo hc ft c X G ih il rfl hnd rfl (fun x hx => absurd hx (hnc x)) rfl ?_ (takes_of rfl rfl rfl rfl) rfl rfl rfl rfl rfl hr fun z => nomatch z) hce).1
      have := hr.un
      show (A.deeper _).units + 65 < cLine
      omega
end
/-! ### the end -/
/-- an exception of whichever world -/
def CXe (P : Program) : CXT := fun outer H s E u s' => ∃ w, L2.CX P w outer H s E u s'
theorem FnOk.cxe {P : Program} {w : World} {K : PySem.W.Frag} {mg : Str → Option Value} {base : Heap} {k : Nat} {f : Addr} {fd : FuncData} {ps : List Str} {sp : Sp} (F : FnOk P w K mg base (L2.CX P w) k f fd ps sp) : FnOk P w K mg base (CXe P) k f fd ps sp :=
  ⟨F.len, fun A outer s H args us vs Q E hr he hb hv hs => codeAny_mono (F.run A outer s H args us vs Q E hr he hb hv hs) fun r s' hq => by
    cases r with
    | error e => exact ⟨w, hq⟩
    | ok fl => cases fl <;> exact hq⟩
/-- the law answers true for every script -/
def Lw.Good (L : Lw) (k li n : Nat) : Prop := ∀ ns : List Int, ns.length ≤ n → (∀ z ∈ ns, Builtin.Int.intBits z ≤ 1048576) → ∃ S, L.run k (.glo li) [.ro (ns.map .int)] [] = .ok (.bl true) S
theorem isL_ints {K : PySem.W.Frag} {EE : Ek} {ca mu : List Addr} {H : Hp} : ∀ ns : List Int, IsL K EE ca mu H (ns.map V.int) (ns.map D.int)
  | [] => .nil
  | n :: ns => .cons (.int n) (isL_ints ns)
theorem Lw.law {L : Lw} {P : Program} {l : PySem.W.OpenLaw} (hP : l.prog = P) {w : World} {K : PySem.W.Frag} {h : Heap} {mg : Str → Option Value} {fa : Addr} {k li n : Nat} {e : Fe} {x : Str} (hmo : L.mainOk P = true) (hc : L.chk = true) (ft : L.Fits) (X : K.In h) (G : h.Ns mainGlobals mg) (c : L.Says w h K) (hl : L.fns.lookup li = some e) (hcn : e.cls = none ∧ e.kd = 0) (hp : e.d.N.take e.d.nps = [x]) (hfa : mg e.d.name = some (.ref fa)) (good : L.Good k li n) :
    LamX.LawAtS l w K (CXe P) (2 * k) n x mg fa h := by
  subst hP
  obtain ⟨fd, F⟩ := c.def_ hl
  have e1 : fa = e.ad K := by
    have := hfa.symm.trans (c.glo X G hl hcn)
    cases this
    rfl
  subst e1
  obtain ⟨h1, _⟩ := ba (List.all_eq_true.mp hc _ (lookup_in hl))
  obtain ⟨h1, _⟩ := ba h1
  obtain ⟨h0, h2⟩ := ba h1
  obtain ⟨_, h0⟩ := ba h0
  have hN : e.d.nps ≤ e.d.N.length := of_decide_eq_true h0
  have hpl : e.d.nps = 1 := by
    have := congrArg List.length hp
    rw [List.length_take] at this
    simp at this
    omega
  refine ⟨fd, L.lams.map (He.cT K), SpF K (L.G K k) li e.d.nps, fun p hp => ?_, fun p hp => ?_, fun p hp => ?_, fun s u => ?_, fun H a ns hn hb hT hS => ⟨by rw [hpl]; rfl, [], [], [.ro (ns.map .int)], [], ⟨rfl, .nil, fun _ _ _ h => by simp at h, fun _ z => (nomatch z), fun p hp => ?_, fun _ z => (nomatch z)⟩, .cons (.ro (hS.imp (fun z => ⟨z, fun q => nomatch q⟩) id) (isL_ints ns)) .nil, ?_⟩, fun base _ _ tb => ?_⟩
  · obtain ⟨q, hq, rfl⟩ := List.mem_map.mp hp
    exact c.x.empty q hq
  · obtain ⟨q, hq, rfl⟩ := List.mem_map.mp hp
    exact c.x.out q hq
  · obtain ⟨q, hq, rfl⟩ := List.mem_map.mp hp
    exact PySem.W.codeHd_of_K X (c.x.hd q hq)
  · exact FunD.bindsA (ps := [x]) F (fun kV doc pm an cdv ct us hl => by rw [hp] at h2; exact argOk_ok h2 kV doc pm an cdv ct us hl) s [u] rfl
  · obtain ⟨q, hq, rfl⟩ := List.mem_map.mp hp
    exact LamX.TabS.nil (hT _ (List.mem_map.mpr ⟨q, hq, rfl⟩))
  · obtain ⟨S, q⟩ := good ns hn hb
    show okR K (L.EE K) (L.G K k).XA (IsR K (L.EE K)) [] [] H (L.run k (.glo li) [.ro (ns.map .int)] []) _ _
    rw [q]
    intro v ca mu H' x w' i
    cases i
    rfl
  · have := FnOk.cxe ((Lw.ok (P := l.prog) (w := w) (base := base) hmo hc ft c X G (fun p hp => tb _ (List.mem_map.mpr ⟨p, hp, rfl⟩)) k).1 li e fd hl F)
    rw [hp] at this
    exact this
end KI


set_option Elab.async false
set_option linter.all false
set_option maxRecDepth 100000
set_option maxHeartbeats 2000000
/-! The head's Hook for a law's code. -/
namespace KI
open PySem PySem.Spec PyProof.Rows L2
/-- the addresses that are looked at: n steps from the module's names, m steps from its classes -/
def growN (g : Addr → Option Obj) : Nat → List Addr → List Addr
  | 0, as => as
  | n + 1, as => growN g n (He.growD g as)
def asK (g : Addr → Option Obj) (n m : Nat) (cs : List Str) : List Addr := (He.asD g n ++ cStatics :: growN g m (cs.map (He.ga (He.frG g [mainGlobals])))).eraseDups
/-- the names of classes -/
def Lw.cn (L : Lw) : List Str := L.xs.map (·.2) ++ L.cls.map (·.2)
def Lw.fr (L : Lw) (n m : Nat) (g : Addr → Option Obj) : PySem.W.Frag := He.frT g (asK g n m L.cn)
abbrev AlK : Type := He.AlX × (List He.FnW × Bool)
def Lw.obK (L : Lw) (K : PySem.W.Frag) (g : Addr → Option Obj) : AlK := ((He.obsT L.fa L.fn [] K, L.ex K && He.tabsB g L.lams K), (L.fp.map fun e => fnA K (e.ad K), L.fp.all fun e => okA K (e.ad K) e.qual))
def Lw.valK (L : Lw) (w : World) : AlK := (He.valX L.fn [] w, (L.fp.map fun e => e.D.val, true))
theorem Lw.saysK {L : Lw} {n m : Nat} {w : World} {h : Heap} (e : L.obK (L.fr n m h.get?) h.get? = L.valK w) : L.Says w h (L.fr n m h.get?) := by
  have e1 : He.obsT L.fa L.fn [] (L.fr n m h.get?) = He.valT L.fn [] w := congrArg (fun z : AlK => z.1.1) e
  have e2 : (L.ex (L.fr n m h.get?) && He.tabsB h.get? L.lams (L.fr n m h.get?)) = true := congrArg (fun z : AlK => z.1.2) e
  have e3 : (L.fp.map fun p => fnA (L.fr n m h.get?) (p.ad (L.fr n m h.get?))) = L.fp.map fun p => p.D.val := congrArg (fun z : AlK => z.2.1) e
  have e4 : (L.fp.all fun p => okA (L.fr n m h.get?) (p.ad (L.fr n m h.get?)) p.qual) = true := congrArg (fun z : AlK => z.2.2) e
  obtain ⟨h1, h2⟩ := ba e2
  have key : ∀ p ∈ L.lams, PySem.W.codeHdIn (L.fr n m h.get?) (He.cT (L.fr n m h.get?) p).1 (He.cT (L.fr n m h.get?) p).2 = true ∧ ∃ o, h.get? (He.cT (L.fr n m h.get?) p).2 = some o ∧ He.emptyTab o = true := fun p hp => by
    obtain ⟨z1, z2⟩ := ba (List.all_eq_true.mp h2 p hp)
    refine ⟨z1, ?_⟩
    cases q : h.get? (He.cT (L.fr n m h.get?) p).2 with
    | none => rw [q] at z2; cases z2
    | some o => rw [q] at z2; exact ⟨o, rfl, z2⟩
  refine ⟨⟨e1, h1, fun p hp => (key p hp).1, fun p hp => ?_, fun p hp => ?_⟩, e3, e4⟩
  · obtain ⟨_, o, q, z⟩ := key p hp
    exact He.frT_none q z
  · obtain ⟨_, o, q, z⟩ := key p hp
    rw [q, He.emptyTab_eq z]
def Lw.hook (L : Lw) (n m : Nat) : PySem.W.Hook where
  α := AlK
  obs := fun s => L.obK (L.fr n m s.heap.get?) s.heap.get?
  val := fun w => L.valK w
  says := fun w h => ∃ K : PySem.W.Frag, K.In h ∧ L.Says w h K
  of := fun _ _ e => ⟨_, He.frT_in, Lw.saysK e⟩
  keeps := fun _ _ _ ⟨K, hK, c⟩ k => ⟨K, PySem.W.Frag.In.keeps hK k, ⟨⟨c.x.t, c.x.more, c.x.hd, c.x.out, fun p hp => k _ _ (c.x.empty p hp)⟩, c.y, c.z⟩⟩
def Lw.ob (L : Lw) (n m : Nat) (s : PySem.W.SharedT) : AlK := L.obK (L.fr n m (HandSHeadRun.getT s)) (HandSHeadRun.getT s)
theorem Lw.ob_eq (L : Lw) (n m : Nat) (s : PySem.W.SharedT) : L.ob n m s = (L.hook n m).obs s.abs := by
  have e : HandSHeadRun.getT s = s.abs.heap.get? := funext (HandSHeadRun.getT_eq s)
  show L.obK (L.fr n m (HandSHeadRun.getT s)) (HandSHeadRun.getT s) = _
  rw [e]
  rfl
theorem Lw.walk {L : Lw} {l : PySem.W.OpenLaw} {q : Program} {loose : List Str} {XP : (Str → Option Value) → Heap → Prop} {n m k li : Nat} {d : DefRec} {e : Fe} {x : Str}
    (hn : l.most = some 63) (hdf : d.params.defaults = []) (hr : Room (2 * k) callerA) (hmo : L.mainOk l.prog = true) (hc : L.chk = true) (ft : L.Fits) (hl : L.fns.lookup li = some e) (hp : e.d.N.take e.d.nps = [x]) (hd : d.name = e.d.name) (good : L.Good k li 63) (hcn : e.cls = none ∧ e.kd = 0) :
    PySem.W.WalkO q loose XP (fun w h => (L.hook n m).says w h) l.row.toRowW d [] (fun f vs => PySem.call f vs) := by
  refine LamX.walk_ofTsE (n := 63) (k := 2 * k) (x := x) (CX := fun _ => CXe l.prog) hn (by decide) hdf hr (fun w mg fa h Y G hmg => ?_) (fun _ _ _ _ _ z => ?_)
  · obtain ⟨K, hK, c⟩ := Y
    exact ⟨K, hK, Lw.law (P := l.prog) rfl hmo hc ft hK G c hl hcn hp (by rw [← hd]; exact hmg) good⟩
  · obtain ⟨_, _, _, _, _, _, _, _, _, _, _, _, _, z⟩ := z
    all_goals first | exact z | skip
end KI


set_option Elab.async false
set_option linter.all false
set_option maxRecDepth 100000
set_option autoImplicit false
set_option maxHeartbeats 1000000
/-! Running the code by hand. -/
namespace KI
open PySem

section
variable {α β : Type}
@[simp] theorem bind_ok (a : α) (S : Sto) (f : α → Sto → Res β) : (Res.ok a S).bind f = f a S := rfl
@[simp] theorem bind_no (f : α → Sto → Res β) : (Res.no : Res α).bind f = .no := rfl
@[simp] theorem bind_exc (x : Xn) (S : Sto) (f : α → Sto → Res β) : (Res.exc x S : Res α).bind f = .exc x S := rfl
@[simp] theorem onD_ok (a : α) (S : Sto) (ρ : Env) (f : α → Sto → Fl) : onD (.ok a S) ρ f = f a S := rfl
@[simp] theorem then_nx (ρ : Env) (S : Sto) (f : Env → Sto → Fl) : (Fl.nx ρ S).then f = f ρ S := rfl
@[simp] theorem then_rt (d : D) (S : Sto) (f : Env → Sto → Fl) : (Fl.rt d S).then f = .rt d S := rfl
@[simp] theorem lift_some (a : α) (S : Sto) : lift (some a) S = .ok a S := rfl
@[simp] theorem shut_ok (a : α) (S : Sto) : shut (Res.ok a S) = .ok a S := rfl
end
section
variable {L : Lw} {k f : Nat} {d : Def} {ds : List D} {S S' : Sto} {v : D}
theorem run_reg (hf : L.tf f = some d) (hr : d.reg = true) (hn : ds.length = d.nps ∧ d.nps ≤ d.N.length) (hp : pureL ds = true) (hx : exss L.cons (L.run k) L.fuel d.body (ds.map some ++ List.replicate (d.N.length - d.nps) none) [] = .rt v S') (hv : v.pure = true) :
    L.run (k + 1) (.glo f) ds S = .ok v S := by
  show callN L.cons L.tf L.fuel (k + 1) (.glo f) ds S = _
  unfold callN
  rw [hf]
  simp only
  rw [if_pos hn, hr]
  simp only
  rw [if_pos hp]
  have hx : exss L.cons (callN L.cons L.tf L.fuel k) L.fuel d.body (ds.map some ++ List.replicate (d.N.length - d.nps) none) [] = .rt v S' := hx
  rw [hx]
  simp only
  rw [if_pos hv]
theorem run_regN (hf : L.tf f = some d) (hr : d.reg = true) (hn : ds.length = d.nps ∧ d.nps ≤ d.N.length) (hp : pureL ds = true) {ρ : Env} (hx : exss L.cons (L.run k) L.fuel d.body (ds.map some ++ List.replicate (d.N.length - d.nps) none) [] = .nx ρ S') :
    L.run (k + 1) (.glo f) ds S = .ok .non S := by
  show callN L.cons L.tf L.fuel (k + 1) (.glo f) ds S = _
  unfold callN
  rw [hf]
  simp only
  rw [if_pos hn, hr]
  simp only
  rw [if_pos hp]
  have hx : exss L.cons (callN L.cons L.tf L.fuel k) L.fuel d.body (ds.map some ++ List.replicate (d.N.length - d.nps) none) [] = .nx ρ S' := hx
  rw [hx]
theorem run_non (hf : L.tf f = some d) (hr : d.reg = false) (hn : ds.length = d.nps ∧ d.nps ≤ d.N.length) (hx : exss L.cons (L.run k) L.fuel d.body (ds.map some ++ List.replicate (d.N.length - d.nps) none) S = .rt v S') :
    L.run (k + 1) (.glo f) ds S = .ok v S' := by
  show callN L.cons L.tf L.fuel (k + 1) (.glo f) ds S = _
  unfold callN
  rw [hf]
  simp only
  rw [if_pos hn, hr]
  simp only
  have hx : exss L.cons (callN L.cons L.tf L.fuel k) L.fuel d.body (ds.map some ++ List.replicate (d.N.length - d.nps) none) S = .rt v S' := hx
  rw [hx]
end
section
variable {L : Lw} {k : Nat} {e : Ex} {ds : List D} {S S' : Sto} {v : D} {x : Xn} {ρ : Env}
theorem run_lam (hx : ev L.cons (L.run k) e (ds.map some) S = .ok v S') : L.run (k + 1) (.lam e) ds S = .ok v S' := hx
theorem run_regX {f : Nat} {d : Def} (hf : L.tf f = some d) (hr : d.reg = true) (hn : ds.length = d.nps ∧ d.nps ≤ d.N.length) (hp : pureL ds = true) (hx : exss L.cons (L.run k) L.fuel d.body (ds.map some ++ List.replicate (d.N.length - d.nps) none) [] = .exc x ρ S') (hv : pureL (x.fs.map (·.2)) = true) :
    L.run (k + 1) (.glo f) ds S = .exc x S := by
  show callN L.cons L.tf L.fuel (k + 1) (.glo f) ds S = _
  unfold callN
  rw [hf]
  simp only
  rw [if_pos hn, hr]
  simp only
  rw [if_pos hp]
  have hx : exss L.cons (callN L.cons L.tf L.fuel k) L.fuel d.body (ds.map some ++ List.replicate (d.N.length - d.nps) none) [] = .exc x ρ S' := hx
  rw [hx]
  simp only
  rw [if_pos hv]
end
/-- a comprehension whose turns keep the store -/
theorem evLc_map {turn : D → Sto → Res (Option D)} {S : Sto} {f : D → Option D} : ∀ {xs acc : List D}, (∀ x ∈ xs, turn x S = .ok (f x) S) → acc.length + xs.length < LN → evLc turn xs acc S = .ok (acc ++ xs.filterMap f) S
  | [], acc, _, _ => by simp [evLc]
  | x :: xs, acc, h, hl => by
    unfold evLc
    rw [h x List.mem_cons_self]
    rw [List.length_cons] at hl
    cases q : f x with
    | none =>
      show evLc turn xs acc S = _
      rw [evLc_map (fun y hy => h y (List.mem_cons_of_mem _ hy)) (by omega)]
      simp [List.filterMap_cons, q]
    | some d =>
      show (if acc.length < LN then evLc turn xs (acc ++ [d]) S else .no) = _
      rw [if_pos (by omega), evLc_map (fun y hy => h y (List.mem_cons_of_mem _ hy)) (by rw [List.length_append]; show acc.length + 1 + xs.length < LN; omega)]
      simp [List.filterMap_cons, q]
/-- a for, by what stays true -/
theorem evFor_inv {tg : Tg} {body : Env → Sto → Fl} (P : Env → Sto → Prop) : ∀ {xs : List D} {ρ : Env} {S : Sto}, (∀ x ∈ xs, ∀ ρ S, P ρ S → ∃ ρ', bindT tg x ρ = some ρ' ∧ ∃ ρ2 S2, body ρ' S = .nx ρ2 S2 ∧ P ρ2 S2) → P ρ S → ∃ ρ2 S2, evFor tg body xs ρ S = .nx ρ2 S2 ∧ P ρ2 S2
  | [], ρ, S, _, h => ⟨ρ, S, rfl, h⟩
  | x :: xs, ρ, S, hs, h => by
    obtain ⟨ρ', e1, ρ2, S2, e2, h2⟩ := hs x List.mem_cons_self ρ S h
    obtain ⟨ρ3, S3, e3, h3⟩ := evFor_inv P (xs := xs) (fun y hy => hs y (List.mem_cons_of_mem _ hy)) h2
    refine ⟨ρ3, S3, ?_, h3⟩
    unfold evFor
    rw [e1]
    show (body ρ' S).then _ = _
    rw [e2]
    exact e3
/-- the same with the number of the turn -/
theorem evFor_ix {tg : Tg} {body : Env → Sto → Fl} {xs : List D} (P : Nat → Env → Sto → Prop) (hs : ∀ i x, xs[i]? = some x → ∀ ρ S, P i ρ S → ∃ ρ', bindT tg x ρ = some ρ' ∧ ∃ ρ2 S2, body ρ' S = .nx ρ2 S2 ∧ P (i + 1) ρ2 S2) {ρ : Env} {S : Sto} (h : P 0 ρ S) :
    ∃ ρ2 S2, evFor tg body xs ρ S = .nx ρ2 S2 ∧ P xs.length ρ2 S2 := by
  induction xs generalizing P ρ S with
  | nil => exact ⟨ρ, S, rfl, h⟩
  | cons x xs ih =>
    obtain ⟨ρ', e1, ρ2, S2, e2, h2⟩ := hs 0 x rfl ρ S h
    obtain ⟨ρ3, S3, e3, h3⟩ := ih (fun i => P (i + 1)) (fun i y hy => hs (i + 1) y (by simpa using hy)) h2
    refine ⟨ρ3, S3, ?_, h3⟩
    unfold evFor
    rw [e1]
    show (body ρ' S).then _ = _
    rw [e2]
    exact e3

/-! ### operators on given forms -/
section
variable (i j : Int) (b c : Bool) (s t : Str) (x y : D) (xs ys : List D) (S : Sto)
@[simp] theorem b_add : binD .add (.int i) (.int j) = some (.int (i + j)) := rfl
@[simp] theorem b_addb : binD .add (.bl b) (.int j) = some (.int ((if b = true then (1 : Int) else 0) + j)) := rfl
@[simp] theorem b_sub : binD .sub (.int i) (.int j) = some (.int (i - j)) := rfl
@[simp] theorem b_mul : binD .mul (.int i) (.int j) = if mulOk i j then some (.int (i * j)) else none := rfl
@[simp] theorem b_fdiv : binD .fdiv (.int i) (.int j) = if j ≠ 0 ∧ j.natAbs < 1073741824 then some (.int (i.fdiv j)) else none := rfl
@[simp] theorem b_mod : binD .mod (.int i) (.int j) = if j ≠ 0 then some (.int (i.fmod j)) else none := rfl
@[simp] theorem b_pow : binD .pow (.int i) (.int j) = if 0 ≤ j ∧ j ≤ 1000000 ∧ i.natAbs < 2 ^ 64 then some (.int (i ^ j.toNat)) else none := rfl
@[simp] theorem b_adds : binD .add (.str s) (.str t) = if s.length + t.length ≤ LN then some (.str (s ++ t)) else none := rfl
@[simp] theorem b_addt : binD .add (.tup xs) (.tup ys) = if xs.length + ys.length ≤ LN then some (.tup (xs ++ ys)) else none := rfl
@[simp] theorem b_addl : binD .add (.lst xs) (.lst ys) = if xs.length + ys.length ≤ LN then some (.lst (xs ++ ys)) else none := rfl
@[simp] theorem b_mult : binD .mul (.tup xs) (.int j) = if xs.length ≠ 0 ∧ 2 ≤ j ∧ j ≤ 1000 ∧ xs.length ≤ 1000 then some (.tup (rep j xs)) else none := rfl
@[simp] theorem b_mull : binD .mul (.lst xs) (.int j) = if -(2 ^ 63) ≤ j ∧ j < 2 ^ 63 ∧ xs.length * j.toNat ≤ LN then some (.lst (rep j xs)) else none := rfl
@[simp] theorem c_eq : cmpD .eq x y = if shp 64 x && shp 64 y then some (eqD x y) else none := rfl
@[simp] theorem c_ne : cmpD .ne x y = if shp 64 x && shp 64 y then some (!eqD x y) else none := rfl
@[simp] theorem c_lt : cmpD .lt (.int i) (.int j) = some (decide (i < j)) := rfl
@[simp] theorem c_le : cmpD .le (.int i) (.int j) = some (decide (i ≤ j)) := rfl
@[simp] theorem c_gt : cmpD .gt (.int i) (.int j) = some (decide (j < i)) := rfl
@[simp] theorem c_ge : cmpD .ge (.int i) (.int j) = some (decide (j ≤ i)) := rfl
@[simp] theorem c_isN : cmpD .isN x .non = some (isNon x) := rfl
@[simp] theorem c_notN : cmpD .notN x .non = some (!isNon x) := rfl
@[simp] theorem c_int : cmpD .in_ x (.tup xs) = if shp 64 x && shpL 63 xs then some (xs.any fun y => eqD y x) else none := rfl
@[simp] theorem c_inl : cmpD .in_ x (.lst xs) = if shp 64 x && shpL 63 xs then some (xs.any fun y => eqD y x) else none := rfl
@[simp] theorem c_nint : cmpD .nin x (.tup xs) = if shp 64 x && shpL 63 xs then some (!xs.any fun y => eqD y x) else none := rfl
@[simp] theorem c_ninl : cmpD .nin x (.lst xs) = if shp 64 x && shpL 63 xs then some (!xs.any fun y => eqD y x) else none := rfl
@[simp] theorem n_non : isNon .non = true := rfl
@[simp] theorem n_int : isNon (.int i) = false := rfl
@[simp] theorem n_tup : isNon (.tup xs) = false := rfl
@[simp] theorem n_str : isNon (.str s) = false := rfl
@[simp] theorem n_lst : isNon (.lst xs) = false := rfl
@[simp] theorem n_bl : isNon (.bl b) = false := rfl
@[simp] theorem t_ii : isTy .int (.int i) = some true := rfl
@[simp] theorem t_ib : isTy .int (.bl b) = some true := rfl
@[simp] theorem t_in : isTy .int .non = some false := rfl
@[simp] theorem t_is : isTy .int (.str s) = some false := rfl
@[simp] theorem t_it : isTy .int (.tup xs) = some false := rfl
@[simp] theorem t_il : isTy .int (.lst xs) = some false := rfl
@[simp] theorem t_bi : isTy .bool (.int i) = some false := rfl
@[simp] theorem t_bb : isTy .bool (.bl b) = some true := rfl
@[simp] theorem t_bn : isTy .bool .non = some false := rfl
@[simp] theorem t_bs : isTy .bool (.str s) = some false := rfl
@[simp] theorem t_bt : isTy .bool (.tup xs) = some false := rfl
@[simp] theorem t_bls : isTy .bool (.lst xs) = some false := rfl
@[simp] theorem t_si : isTy .str (.int i) = some false := rfl
@[simp] theorem t_sb : isTy .str (.bl b) = some false := rfl
@[simp] theorem t_sn : isTy .str .non = some false := rfl
@[simp] theorem t_ss : isTy .str (.str s) = some true := rfl
@[simp] theorem t_st : isTy .str (.tup xs) = some false := rfl
@[simp] theorem t_sl : isTy .str (.lst xs) = some false := rfl
@[simp] theorem t_ti : isTy .tuple (.int i) = some false := rfl
@[simp] theorem t_tb : isTy .tuple (.bl b) = some false := rfl
@[simp] theorem t_tn : isTy .tuple .non = some false := rfl
@[simp] theorem t_ts : isTy .tuple (.str s) = some false := rfl
@[simp] theorem t_tt : isTy .tuple (.tup xs) = some true := rfl
@[simp] theorem t_tl : isTy .tuple (.lst xs) = some false := rfl
@[simp] theorem t_li : isTy .list (.int i) = some false := rfl
@[simp] theorem t_lb : isTy .list (.bl b) = some false := rfl
@[simp] theorem t_ln : isTy .list .non = some false := rfl
@[simp] theorem t_ls : isTy .list (.str s) = some false := rfl
@[simp] theorem t_lt : isTy .list (.tup xs) = some false := rfl
@[simp] theorem t_ll : isTy .list (.lst xs) = some true := rfl
@[simp] theorem i_tup : idxD S (.tup xs) (.int i) = L2.atI xs i := rfl
@[simp] theorem i_lst : idxD S (.lst xs) (.int i) = L2.atI xs i := rfl
@[simp] theorem i_ro : idxD S (.ro xs) (.int i) = L2.atI xs i := rfl
@[simp] theorem i_cell (n : Nat) : idxD S (.cell n) (.int i) = match S[n]? with
    | some (.lst xs) => L2.atI xs i
    | some (.dct kvs) => dicGet kvs (.inl i)
    | _ => none := by
  show (match S[n]? with
    | some (.lst xs) => L2.atI xs i
    | some (.dct kvs) => (keyOf (.int i)).bind fun k => dicGet kvs k
    | _ => none) = _
  split <;> first | rfl | (rename_i q; rw [q])
@[simp] theorem ix20 : L2.ixN 2 0 = some 0 := rfl
@[simp] theorem ix21 : L2.ixN 2 1 = some 1 := rfl
@[simp] theorem bi_lent : biD S .len [.tup xs] = some (.int xs.length) := rfl
@[simp] theorem bi_lenl : biD S .len [.lst xs] = some (.int xs.length) := rfl
@[simp] theorem bi_lenr : biD S .len [.ro xs] = some (.int xs.length) := rfl
@[simp] theorem bi_abs : biD S .abs [.int i] = some (.int (if i < 0 then -i else i)) := rfl
@[simp] theorem bi_int : biD S .int [.int i] = some (.int i) := rfl
@[simp] theorem bi_min2 : biD S .min2 [.int i, .int j] = some (.int (if j < i then j else i)) := rfl
@[simp] theorem bi_max2 : biD S .max2 [.int i, .int j] = some (.int (if j > i then j else i)) := rfl
@[simp] theorem bi_all : biD S .all [.lst xs] = (boolsD xs).map fun bs => .bl (bs.all id) := rfl
@[simp] theorem bi_any : biD S .any [.lst xs] = (boolsD xs).map fun bs => .bl (bs.any id) := rfl
@[simp] theorem bi_sum : biD S .sum [.lst xs] = (intsD xs).map fun ns => .int ns.sum := rfl
@[simp] theorem bi_listl : biD S .list [.lst xs] = some (.lst xs) := rfl
@[simp] theorem bi_listt : biD S .list [.tup xs] = some (.lst xs) := rfl
@[simp] theorem bi_tupl : biD S .tuple [.lst xs] = some (.tup xs) := rfl
@[simp] theorem bi_tupt : biD S .tuple [.tup xs] = some (.tup xs) := rfl
@[simp] theorem cut_t (lo hi : Option Int) : cutD (.tup xs) lo hi = some (.tup (cut xs lo hi)) := rfl
@[simp] theorem cut_l (lo hi : Option Int) : cutD (.lst xs) lo hi = some (.lst (cut xs lo hi)) := rfl
end
theorem atI_nat (xs : List D) (n : Nat) : L2.atI xs (n : Int) = xs[n]? := by
  unfold L2.atI L2.ixN
  by_cases h : n < xs.length
  · simp [h]
  · have h2 : ¬ ((n : Int) < (xs.length : Int)) := by omega
    rw [List.getElem?_eq_none (by omega), if_pos (by omega), if_neg h2]
    rfl
@[simp] theorem atI_0 (xs : List D) : L2.atI xs 0 = xs[0]? := atI_nat xs 0
@[simp] theorem atI_1 (xs : List D) : L2.atI xs 1 = xs[1]? := atI_nat xs 1
@[simp] theorem atI_2 (xs : List D) : L2.atI xs 2 = xs[2]? := atI_nat xs 2
@[simp] theorem atI_3 (xs : List D) : L2.atI xs 3 = xs[3]? := atI_nat xs 3
@[simp] theorem atI_4 (xs : List D) : L2.atI xs 4 = xs[4]? := atI_nat xs 4
section
variable (cons : Nat → D) (call : Call) (ρ : Env) (S : Sto)
@[simp] theorem ev_var (i : Nat) : ev cons call (.var i) ρ S = match ρ[i]? with
      | some (some d) => .ok d S
      | _ => .no := rfl
@[simp] theorem ev_con (c : Nat) : ev cons call (.con c) ρ S = .ok (cons c) S := rfl
@[simp] theorem ev_int (i : Int) : ev cons call (.int i) ρ S = .ok (.int i) S := rfl
@[simp] theorem ev_bl (b : Bool) : ev cons call (.bl b) ρ S = .ok (.bl b) S := rfl
@[simp] theorem ev_non  : ev cons call (.non) ρ S = .ok .non S := rfl
@[simp] theorem ev_str (s : Str) : ev cons call (.str s) ρ S = .ok (.str s) S := rfl
@[simp] theorem ev_tup (es : Exs) : ev cons call (.tup es) ρ S = (evs cons call es ρ S).bind fun ds S => if ds.length ≤ LN then .ok (.tup ds) S else .no := rfl
@[simp] theorem ev_lst (es : Exs) : ev cons call (.lst es) ρ S = (evs cons call es ρ S).bind fun ds S => if ds.length ≤ LN then .ok (.lst ds) S else .no := rfl
@[simp] theorem ev_dct (ks : List Str) (es : Exs) : ev cons call (.dct ks es) ρ S = (evs cons call es ρ S).bind fun ds S => if ds.length = ks.length ∧ ks.length ≤ 15 ∧ ks.length ≠ 0 then .ok (.dic (mergeD [] ((ks.map Sum.inr).zip ds))) S else .no := rfl
@[simp] theorem ev_newc (e : Ex) : ev cons call (.newc e) ρ S = (ev cons call e ρ S).bind fun d S => match d with
      | .lst xs => .ok (.cell S.length) (S ++ [.lst xs])
      | .dic kvs => .ok (.cell S.length) (S ++ [.dct kvs])
      | _ => .no := rfl
@[simp] theorem ev_bin (o : Bop) (a : Ex) (b : Ex) : ev cons call (.bin o a b) ρ S = (ev cons call a ρ S).bind fun x S => (ev cons call b ρ S).bind fun y S => lift (binD o x y) S := rfl
@[simp] theorem ev_neg (a : Ex) : ev cons call (.neg a) ρ S = (ev cons call a ρ S).bind fun x S => match x with
      | .int i => .ok (.int (-i)) S
      | _ => .no := rfl
@[simp] theorem ev_cmp (o : Cop) (a : Ex) (b : Ex) : ev cons call (.cmp o a b) ρ S = (ev cons call a ρ S).bind fun x S => (ev cons call b ρ S).bind fun y S => lift ((cmpD o x y).map .bl) S := rfl
@[simp] theorem ev_chn (o : Cop) (p : Cop) (a : Ex) (b : Ex) (c : Ex) : ev cons call (.chn o p a b c) ρ S = (ev cons call a ρ S).bind fun x S => (ev cons call b ρ S).bind fun y S => match cmpD o x y with
      | some true => (ev cons call c ρ S).bind fun z S => lift ((cmpD p y z).map .bl) S
      | some false => .ok (.bl false) S
      | none => .no := rfl
@[simp] theorem ev_and (a : Ex) (b : Ex) : ev cons call (.and a b) ρ S = (ev cons call a ρ S).bind fun x S => match x with
      | .bl true => ev cons call b ρ S
      | .bl false => .ok (.bl false) S
      | _ => .no := rfl
@[simp] theorem ev_or (a : Ex) (b : Ex) : ev cons call (.or a b) ρ S = (ev cons call a ρ S).bind fun x S => match x with
      | .bl false => ev cons call b ρ S
      | .bl true => .ok (.bl true) S
      | _ => .no := rfl
@[simp] theorem ev_not (a : Ex) : ev cons call (.not a) ρ S = (ev cons call a ρ S).bind fun x S => match x with
      | .bl b => .ok (.bl (!b)) S
      | _ => .no := rfl
@[simp] theorem ev_ite (c : Ex) (a : Ex) (b : Ex) : ev cons call (.ite c a b) ρ S = (ev cons call c ρ S).bind fun x S => match x with
      | .bl true => ev cons call a ρ S
      | .bl false => ev cons call b ρ S
      | _ => .no := rfl
@[simp] theorem ev_idx (a : Ex) (i : Ex) : ev cons call (.idx a i) ρ S = (ev cons call a ρ S).bind fun x S => (ev cons call i ρ S).bind fun y S => lift (idxD S x y) S := rfl
@[simp] theorem ev_sli (a : Ex) (lo : Oe) (hi : Oe) : ev cons call (.sli a lo hi) ρ S = (ev cons call a ρ S).bind fun x S => (evo cons call lo ρ S).bind fun l S => (evo cons call hi ρ S).bind fun u S => lift (cutD x l u) S := rfl
@[simp] theorem ev_call (f : Nat) (es : Exs) : ev cons call (.call f es) ρ S = (evs cons call es ρ S).bind fun ds S => call (.glo f) ds S := rfl
@[simp] theorem ev_call0 (f : Nat) : ev cons call (.call0 f) ρ S = shut (call (.glo f) [] S) := rfl
@[simp] theorem ev_rngl (a b : Ex) : ev cons call (.rngl a b) ρ S = (ev cons call a ρ S).bind fun x S => (ev cons call b ρ S).bind fun y S => match x, y with
      | .int i, .int j => if rngOk i && rngOk j && decide ((j - i).toNat ≤ LN) then .ok (.lst (rngL i (j - i).toNat)) S else .no
      | _, _ => .no := rfl
@[simp] theorem ev_bi (b : Bi) (es : Exs) : ev cons call (.bi b es) ρ S = (evs cons call es ρ S).bind fun ds S => lift (biD S b ds) S := rfl
@[simp] theorem ev_isi (a : Ex) (t : Ty) : ev cons call (.isi a t) ρ S = (ev cons call a ρ S).bind fun x S => lift ((isTy t x).map .bl) S := rfl
@[simp] theorem ev_mth (m : Mt) (o : Ex) (es : Exs) : ev cons call (.mth m o es) ρ S = (ev cons call o ρ S).bind fun x S => if mtOk m x = true then (evs cons call es ρ S).bind fun ds S => lift (mtD S m x ds) S else .no := rfl
@[simp] theorem ev_fld (c : Nat) (f : Str) (o : Ex) : ev cons call (.fld c f o) ρ S = (ev cons call o ρ S).bind fun x S => lift (fldD S c f x) S := rfl
@[simp] theorem ev_mcl (c g : Nat) (m : Str) (o : Ex) (es : Exs) : ev cons call (.mcl c g m o es) ρ S = (ev cons call o ρ S).bind fun x S => if insB S c m x = true then (evs cons call es ρ S).bind fun ds S => call (.glo g) (x :: ds) S else .no := rfl
@[simp] theorem ev_mkn (c g : Nat) (es : Exs) : ev cons call (.mkn c g es) ρ S = (evs cons call es ρ S).bind fun ds S => (call (.glo g) (.cell S.length :: ds) (S ++ [.ins c []])).bind fun d S' => if isNon d = true then .ok (.cell S.length) S' else .no := rfl
@[simp] theorem ev_prp (c g : Nat) (m : Str) (o : Ex) : ev cons call (.prp c g m o) ρ S = (ev cons call o ρ S).bind fun x S => if insB S c m x = true then shut (call (.glo g) [x] S) else .no := rfl
@[simp] theorem ev_fnv (i : Nat) : ev cons call (.fnv i) ρ S = .ok (.fn i) S := rfl
@[simp] theorem ev_callv (i : Nat) (es : Exs) : ev cons call (.callv i es) ρ S = match ρ[i]? with
      | some (some d) => if isFn d = true then (evs cons call es ρ S).bind fun ds S => app call d ds S else .no
      | _ => .no := rfl
@[simp] theorem ev_callL (f : Nat) (es : Exs) (np : Nat) (js : List Nat) (e : Ex) : ev cons call (.callL f es np js e) ρ S = (evs cons call es ρ S).bind fun ds S => match grab ρ js with
      | some cs => kept (call (.glo f) (ds ++ [.clo np e cs]) S)
      | none => .no := rfl
end

theorem shp_lit (k : Nat) (s : Str) (h : s.cps.all (· < 0x110000) = true) : shp k (.str s) = true := by cases k <;> exact h
section
variable (k : Nat) (i j : Int) (b c : Bool) (x y : D) (xs ys : List D) (s : Str)
@[simp] theorem shp_int : shp k (.int i) = true := by cases k <;> rfl
@[simp] theorem shp_bl : shp k (.bl b) = true := by cases k <;> rfl
@[simp] theorem shp_non : shp k .non = true := by cases k <;> rfl
@[simp] theorem shpL_nil : shpL k [] = true := by cases k <;> rfl
@[simp] theorem shpL_cons : shpL k (x :: xs) = (shp k x && shpL k xs) := by cases k <;> rfl
@[simp] theorem shp64_tup : shp 64 (.tup xs) = shpL 63 xs := rfl
@[simp] theorem shp64_lst : shp 64 (.lst xs) = shpL 63 xs := rfl
@[simp] theorem shp63_tup : shp 63 (.tup xs) = shpL 62 xs := rfl
@[simp] theorem shp63_lst : shp 63 (.lst xs) = shpL 62 xs := rfl
@[simp] theorem shp62_tup : shp 62 (.tup xs) = shpL 61 xs := rfl
@[simp] theorem eqD_ii : eqD (.int i) (.int j) = (i == j) := rfl
@[simp] theorem eqD_bb : eqD (.bl b) (.bl c) = (b == c) := rfl
@[simp] theorem eqD_nn : eqD .non .non = true := rfl
@[simp] theorem eqD_tt : eqD (.tup xs) (.tup ys) = eqL xs ys := rfl
@[simp] theorem eqD_ll : eqD (.lst xs) (.lst ys) = eqL xs ys := rfl
@[simp] theorem eqD_is : eqD (.int i) (.str s) = false := rfl
@[simp] theorem eqD_si : eqD (.str s) (.int i) = false := rfl
@[simp] theorem eqD_ni : eqD .non (.int i) = false := rfl
@[simp] theorem eqD_in : eqD (.int i) .non = false := rfl
@[simp] theorem eqD_ns : eqD .non (.str s) = false := rfl
@[simp] theorem eqD_sn : eqD (.str s) .non = false := rfl
@[simp] theorem eqD_nt : eqD .non (.tup xs) = false := rfl
@[simp] theorem eqD_tn : eqD (.tup xs) .non = false := rfl
@[simp] theorem eqD_ti : eqD (.tup xs) (.int i) = false := rfl
@[simp] theorem eqD_it : eqD (.int i) (.tup xs) = false := rfl
@[simp] theorem eqL_nn : eqL [] [] = true := rfl
@[simp] theorem eqL_nc : eqL [] (x :: xs) = false := rfl
@[simp] theorem eqL_cn : eqL (x :: xs) [] = false := rfl
@[simp] theorem eqL_cc : eqL (x :: xs) (y :: ys) = (eqD x y && eqL xs ys) := rfl
@[simp] theorem shp_park : shp k (.str "park") = true := shp_lit k _ (by decide +kernel)
@[simp] theorem shp_leave : shp k (.str "leave") = true := shp_lit k _ (by decide +kernel)
@[simp] theorem shp_pull : shp k (.str "pull") = true := shp_lit k _ (by decide +kernel)
@[simp] theorem shp_drop : shp k (.str "drop") = true := shp_lit k _ (by decide +kernel)
@[simp] theorem shp_front : shp k (.str "front") = true := shp_lit k _ (by decide +kernel)
@[simp] theorem shp_back : shp k (.str "back") = true := shp_lit k _ (by decide +kernel)
@[simp] theorem shp_tight : shp k (.str "tight") = true := shp_lit k _ (by decide +kernel)
@[simp] theorem shp_wide : shp k (.str "wide") = true := shp_lit k _ (by decide +kernel)
@[simp] theorem shp_near : shp k (.str "near") = true := shp_lit k _ (by decide +kernel)
@[simp] theorem shp_empty : shp k (.str "") = true := shp_lit k _ (by decide +kernel)
end
theorem lc_map {cons : Nat → D} {call : Call} {own : List Nat} {tg : Tg} {it : It} {c : Oe} {e : Ex} {ρ : Env} {S : Sto} {xs : List D} (f : D → Option D) (hi : evi cons call it ρ S = .ok xs S)
    (ht : ∀ x ∈ xs, (match bindT tg x (wipeE ρ own) with
      | some ρ' => (evc cons call c ρ' S).bind fun b S => bif b then (ev cons call e ρ' S).bind fun d S => .ok (some d) S else .ok none S
      | none => .no) = .ok (f x) S) (hl : xs.length < LN) : ev cons call (.lc own tg it c e) ρ S = .ok (.lst (xs.filterMap f)) S := by
  show (evi cons call it ρ S).bind _ = _
  rw [hi]
  show (evLc _ xs [] S).bind _ = _
  rw [evLc_map (f := f) ht (by simpa using hl)]
  rfl
theorem boolsD_map {α : Type} (f : α → Bool) : ∀ xs : List α, boolsD (xs.map fun x => .bl (f x)) = some (xs.map f)
  | [] => rfl
  | x :: xs => by simp [boolsD, boolsD_map f xs]
theorem intsD_map : ∀ xs : List Int, intsD (xs.map D.int) = some xs
  | [] => rfl
  | x :: xs => by simp [intsD, intsD_map xs]
section
variable (cons : Nat → D) (call : Call) (fuel : Nat) (ρ : Env) (S : Sto)
@[simp] theorem exs_set (i : Nat) (e : Ex) : exs cons call fuel (.set i e) ρ S = onD (ev cons call e ρ S) ρ fun d S => .nx (ρ.set i (some d)) S := rfl
@[simp] theorem exs_unp (tg : Tg) (e : Ex) : exs cons call fuel (.unp tg e) ρ S = onD (ev cons call e ρ S) ρ fun d S => match bindT tg d ρ with
      | some ρ' => .nx ρ' S
      | none => .no := rfl
@[simp] theorem exs_par (i : Nat) (j : Nat) (es : Exs) : exs cons call fuel (.par i j es) ρ S = onD (evs cons call es ρ S) ρ fun ds S => match ds with
      | [x, y] => .nx ((ρ.set i (some x)).set j (some y)) S
      | _ => .no := rfl
@[simp] theorem exs_par3 (i : Nat) (j : Nat) (l : Nat) (es : Exs) : exs cons call fuel (.par3 i j l es) ρ S = onD (evs cons call es ρ S) ρ fun ds S => match ds with
      | [x, y, z] => .nx (((ρ.set i (some x)).set j (some y)).set l (some z)) S
      | _ => .no := rfl
@[simp] theorem exs_put (o : Ex) (i : Ex) (e : Ex) : exs cons call fuel (.put o i e) ρ S = onD (ev cons call e ρ S) ρ fun v S => onD (ev cons call o ρ S) ρ fun o S => onD (ev cons call i ρ S) ρ fun i S => match o, i with
      | .cell n, .int k => match S[n]? with
        | some (.lst xs) => match L2.ixN xs.length k with
          | some j => .nx ρ (S.set n (.lst (xs.set j v)))
          | none => .no
        | _ => .no
      | _, _ => .no := rfl
@[simp] theorem exs_sfd (c : Nat) (f : Str) (o : Ex) (e : Ex) : exs cons call fuel (.sfd c f o e) ρ S = onD (ev cons call e ρ S) ρ fun v S => onD (ev cons call o ρ S) ρ fun x S => match sfdD S c f v x with
      | some (n, fs) => .nx ρ (S.set n (.ins c fs))
      | none => .no := rfl
@[simp] theorem exs_dput (o : Ex) (i : Ex) (e : Ex) : exs cons call fuel (.dput o i e) ρ S = onD (ev cons call e ρ S) ρ fun v S => onD (ev cons call o ρ S) ρ fun o S => onD (ev cons call i ρ S) ρ fun i S => match o, keyOf i with
      | .cell n, some k => match S[n]? with
        | some (.dct kvs) => if kvs.length < 1000 then .nx ρ (S.set n (.dct (dicPut kvs k v))) else .no
        | _ => .no
      | _, _ => .no := rfl
@[simp] theorem exs_app (i : Nat) (e : Ex) : exs cons call fuel (.app i e) ρ S = match ρ[i]? with
      | some (some (.cell n)) => match S[n]? with
        | some (.lst _) => onD (ev cons call e ρ S) ρ fun d S => match S[n]? with
          | some (.lst xs) => if xs.length < LN then .nx ρ (S.set n (.lst (xs ++ [d]))) else .no
          | _ => .no
        | _ => .no
      | _ => .no := rfl
@[simp] theorem exs_frz (i : Nat) : exs cons call fuel (.frz i) ρ S = match ρ[i]? with
      | some (some (.cell n)) => match S[n]? with
        | some (.lst xs) => .nx (ρ.set i (some (.lst xs))) (S.set n .dead)
        | _ => .no
      | _ => .no := rfl
@[simp] theorem exs_ret (e : Ex) : exs cons call fuel (.ret e) ρ S = onD (ev cons call e ρ S) ρ fun d S => .rt d S := rfl
@[simp] theorem exs_ifs (c : Ex) (a : Sxs) (b : Sxs) : exs cons call fuel (.ifs c a b) ρ S = onD (ev cons call c ρ S) ρ fun d S => match d with
      | .bl true => exss cons call fuel a ρ S
      | .bl false => exss cons call fuel b ρ S
      | _ => .no := rfl
@[simp] theorem exs_for_ (tg : Tg) (it : It) (b : Sxs) : exs cons call fuel (.for_ tg it b) ρ S = onD (evi cons call it ρ S) ρ fun xs S => evFor tg (exss cons call fuel b) xs ρ S := rfl
@[simp] theorem exs_whl (c : Ex) (b : Sxs) : exs cons call fuel (.whl c b) ρ S = evWhl (ev cons call c) (exss cons call fuel b) fuel ρ S := rfl
@[simp] theorem exs_exp (e : Ex) : exs cons call fuel (.exp e) ρ S = onD (ev cons call e ρ S) ρ fun _ S => .nx ρ S := rfl
@[simp] theorem exs_rai (c : Nat) : exs cons call fuel (.rai c) ρ S = .exc ⟨c, []⟩ ρ S := rfl
@[simp] theorem exs_raiF (c : Nat) (f : Str) (e : Ex) : exs cons call fuel (.raiF c f e) ρ S = onD (ev cons call e ρ S) ρ fun d S => .exc ⟨c, [(f, d)]⟩ ρ S := rfl
@[simp] theorem exs_try_ (b : Sxs) (hs : List Hd) : exs cons call fuel (.try_ b hs) ρ S = match exss cons call fuel b ρ S with
      | .exc x ρ' S' => hdls hs x ρ' S'
      | r => r := rfl
@[simp] theorem exs_nev  : exs cons call fuel (.nev) ρ S = .no := rfl
@[simp] theorem exss_nil : exss cons call fuel .nil ρ S = .nx ρ S := rfl
@[simp] theorem exss_cons (s : Sx) (ss : Sxs) : exss cons call fuel (.cons s ss) ρ S = (exs cons call fuel s ρ S).then fun ρ S => exss cons call fuel ss ρ S := rfl
end
end KI


set_option Elab.async false
set_option linter.all false
set_option maxRecDepth 100000
set_option autoImplicit false
/-! The defs that laws share, by fixed numbers. -/
namespace KI
open PySem
abbrev f_is_number : Nat := 0
abbrev f_is_tuple : Nat := 1
abbrev f_is_word : Nat := 2
abbrev f_is_deed_of : Nat := 3
abbrev f_are_lengths : Nat := 4
abbrev f_is_good_plan : Nat := 5
abbrev f_need_plan : Nat := 6
abbrev f_is_plan : Nat := 7
abbrev f_is_deed : Nat := 8
abbrev f__law_source : Nat := 9
abbrev f__law_draw : Nat := 10
abbrev f__law_of : Nat := 11
abbrev f__law_rule : Nat := 12
abbrev f__law_deed : Nat := 13
abbrev f__law_plan : Nat := 14
abbrev f_need_n : Nat := 15
abbrev f_added : Nat := 16
abbrev f_less : Nat := 17
abbrev f_worth : Nat := 18
abbrev f_sign_of : Nat := 19
abbrev f_begun : Nat := 20
abbrev f_asks : Nat := 21
abbrev f_all_gaps : Nat := 22
abbrev f_is_fit : Nat := 23
abbrev f_better : Nat := 24
abbrev f_choice : Nat := 25
abbrev f_place_in : Nat := 26
abbrev f_parked : Nat := 27
abbrev f_spot_of : Nat := 28
abbrev f_shifted : Nat := 29
abbrev f_do : Nat := 30
abbrev f_last_of : Nat := 31
abbrev f_place_form : Nat := 32
abbrev f_gap_forms : Nat := 33
abbrev f_places_of : Nat := 34
abbrev f_cars_of : Nat := 35
abbrev f_done : Nat := 36
abbrev f_places : Nat := 37
abbrev f_gaps : Nat := 38
abbrev f_row : Nat := 39
abbrev f__law_n : Nat := 40
abbrev f__law_value : Nat := 41
abbrev f__law_less : Nat := 42
abbrev f__law_spaces : Nat := 43
abbrev f__law_chosen : Nat := 44
abbrev f__law_step : Nat := 45
abbrev f__law_run : Nat := 46
abbrev f__law_forms : Nat := 47
abbrev f__law_places : Nat := 48
abbrev f__law_gaps : Nat := 49
abbrev f__law_known : Nat := 50
abbrev f_need_car : Nat := 51
abbrev f_same_to : Nat := 52
abbrev f_until : Nat := 53
abbrev f_joined : Nat := 54
abbrev f_rows_by : Nat := 55
abbrev f_seen_last : Nat := 56
abbrev f_by_last : Nat := 57
abbrev f_need_both : Nat := 58
abbrev f_done_rows : Nat := 59
abbrev f_place_rows : Nat := 60
abbrev f_gap_rows : Nat := 61
abbrev f_row_rows : Nat := 62
abbrev f__law_spots : Nat := 63
abbrev f__law_told_at : Nat := 64
abbrev f__law_are_rows : Nat := 65
abbrev f_widest : Nat := 66
abbrev f_all_parked : Nat := 67
abbrev f_room : Nat := 68
abbrev f_room_rows : Nat := 69
abbrev f_would_fit : Nat := 70
abbrev f_sure_from : Nat := 71
abbrev f_parked_rows : Nat := 72
abbrev f_least_with : Nat := 73
abbrev f_same_places : Nat := 74
abbrev f_like_told : Nat := 75
abbrev f_parting_number : Nat := 76
abbrev f_need_two : Nat := 77
abbrev f_alike : Nat := 78
abbrev f_parting : Nat := 79
abbrev f__law_near : Nat := 80
abbrev f_without : Nat := 81
abbrev f_exchanged : Nat := 82
abbrev f_idle_deeds : Nat := 83
abbrev f_exchangeable : Nat := 84
abbrev f_only_parks : Nat := 85
abbrev f_need_parking : Nat := 86
abbrev f_all_orders : Nat := 87
abbrev f_ruled : Nat := 88
abbrev f_ordered : Nat := 89
abbrev f_best_told : Nat := 90
abbrev f_rows_of_orders : Nat := 91
abbrev f_best_rules : Nat := 92
abbrev f_best_orders : Nat := 93
abbrev f_worst_orders : Nat := 94
abbrev f__law_parkers : Nat := 95
abbrev f_is_fact : Nat := 96
abbrev f_need_seen : Nat := 97
abbrev f_fact_form : Nat := 98
abbrev f_is_so : Nat := 99
abbrev f_numbers_told : Nat := 100
abbrev f_is_seen : Nat := 101
abbrev f_lines_of : Nat := 102
abbrev f_part_in : Nat := 103
abbrev f_line_in : Nat := 104
abbrev f_plan_in : Nat := 105
abbrev f_need_index : Nat := 106
abbrev f_good_plan : Nat := 107
abbrev f_fewer : Nat := 108
abbrev f_changed : Nat := 109
abbrev f__law_as_value : Nat := 110
abbrev f_plan_text : Nat := 111
abbrev f_read_plan : Nat := 112
abbrev f__wall : Nat := 113
abbrev f_standing : Nat := 114
abbrev f_free_gaps : Nat := 115
abbrev f_best_gap : Nat := 116
abbrev f_spot_for : Nat := 117
abbrev f_with_place : Nat := 118
abbrev f_pulled : Nat := 119
abbrev f_dropped : Nat := 120
abbrev f_done_now : Nat := 121
abbrev f__law_led : Nat := 122
abbrev f__law_free : Nat := 123
abbrev f__law_shows : Nat := 124
abbrev f__law_error : Nat := 125
abbrev c_LEAST : Nat := 0
abbrev c_MOST : Nat := 1
abbrev c_RULES : Nat := 2
abbrev c_CARS : Nat := 3
abbrev c_FAR : Nat := 4
abbrev c_LIMIT : Nat := 5
def d_is_number : Def := { name := "is_number", N := ["value", "least", "most"], nps := 3, reg := true, body := (.cons (.ret (.and (.isi (.var 0) .int) (.and (.not (.isi (.var 0) .bool)) (.chn .le .le (.var 1) (.var 0) (.var 2))))) .nil) }
def d_is_tuple : Def := { name := "is_tuple", N := ["value", "least", "most"], nps := 3, reg := true, body := (.cons (.ret (.and (.isi (.var 0) .tuple) (.chn .le .le (.var 1) (.bi .len (.cons (.var 0) .nil)) (.var 2)))) .nil) }
def d_is_word : Def := { name := "is_word", N := ["value", "words"], nps := 2, reg := true, body := (.cons (.ret (.and (.isi (.var 0) .str) (.cmp .in_ (.var 0) (.var 1)))) .nil) }
def d_is_deed_of : Def := { name := "is_deed_of", N := ["cars", "value"], nps := 2, reg := true, body := (.cons (.ifs (.or (.not (.call f_is_tuple (.cons (.var 1) (.cons (.int 2) (.cons (.int 3) .nil))))) (.not (.call f_is_number (.cons (.idx (.var 1) (.int 1)) (.cons (.int 0) (.cons (.bin .sub (.var 0) (.int 1)) .nil)))))) (.cons (.ret (.bl false)) .nil) .nil) (.cons (.ifs (.cmp .eq (.bi .len (.cons (.var 1) .nil)) (.int 3)) (.cons (.ret (.and (.call f_is_word (.cons (.idx (.var 1) (.int 0)) (.cons (.tup (.cons (.str "park") .nil)) .nil))) (.call f_is_word (.cons (.idx (.var 1) (.int 2)) (.cons (.con c_RULES) .nil))))) .nil) .nil) (.cons (.ret (.call f_is_word (.cons (.idx (.var 1) (.int 0)) (.cons (.tup (.cons (.str "leave") (.cons (.str "pull") (.cons (.str "drop") .nil)))) .nil)))) .nil))) }
def l_are_lengths_0 : Ex := (.lc [1] (.nm 1) (.val (.var 0)) .none (.call f_is_number (.cons (.var 1) (.cons (.int 2) (.cons (.int 9) .nil)))))
def d_are_lengths : Def := { name := "are_lengths", N := ["value", "length"], nps := 1, reg := true, body := (.cons (.ret (.and (.call f_is_tuple (.cons (.var 0) (.cons (.int 1) (.cons (.int 5) .nil)))) (.bi .all (.cons l_are_lengths_0 .nil)))) .nil) }
def l_is_good_plan_0 : Ex := (.lc [1] (.nm 1) (.val (.idx (.var 0) (.int 1))) .none (.call f_is_deed_of (.cons (.bi .len (.cons (.idx (.var 0) (.int 0)) .nil)) (.cons (.var 1) .nil))))
def d_is_good_plan : Def := { name := "is_good_plan", N := ["value", "deed"], nps := 1, reg := true, body := (.cons (.ifs (.or (.not (.call f_is_tuple (.cons (.var 0) (.cons (.int 2) (.cons (.int 2) .nil))))) (.or (.not (.call f_are_lengths (.cons (.idx (.var 0) (.int 0)) .nil))) (.not (.call f_is_tuple (.cons (.idx (.var 0) (.int 1)) (.cons (.int 0) (.cons (.int 8) .nil))))))) (.cons (.ret (.bl false)) .nil) .nil) (.cons (.ret (.bi .all (.cons l_is_good_plan_0 .nil))) .nil)) }
def d_need_plan : Def := { name := "need_plan", N := ["value"], nps := 1, reg := true, body := (.cons (.ifs (.not (.call f_is_good_plan (.cons (.var 0) .nil))) (.cons (.rai 1) .nil) .nil) .nil) }
def d_is_plan : Def := { name := "is_plan", N := ["value"], nps := 1, reg := true, body := (.cons (.ret (.call f_is_good_plan (.cons (.var 0) .nil))) .nil) }
def d_is_deed : Def := { name := "is_deed", N := ["plan", "value"], nps := 2, reg := true, body := (.cons (.exp (.call f_need_plan (.cons (.var 0) .nil))) (.cons (.ret (.call f_is_deed_of (.cons (.bi .len (.cons (.idx (.var 0) (.int 0)) .nil)) (.cons (.var 1) .nil)))) .nil)) }
def d__law_source : Def := { name := "_law_source", N := ["script", "k", "cell"], nps := 2, reg := false, body := (.cons (.set 2 (.int 0)) (.cons (.ifs (.cmp .lt (.var 1) (.bi .len (.cons (.var 0) .nil))) (.cons (.set 2 (.bi .abs (.cons (.bi .int (.cons (.idx (.var 0) (.var 1)) .nil)) .nil))) .nil) .nil) (.cons (.ifs (.cmp .lt (.var 2) (.bin .pow (.int 10) (.int 18))) (.cons (.ret (.newc (.lst (.cons (.int 0) (.cons (.bin .add (.int 1) (.bin .mod (.bi .int (.cons (.bin .add (.bin .mul (.var 2) (.int 7919)) (.bin .mul (.int 104729) (.var 1))) .nil)) (.int 2147483646))) .nil))))) .nil) .nil) (.cons (.ret (.newc (.lst (.cons (.var 2) (.cons (.bin .add (.int 1) (.bin .mod (.bi .int (.cons (.bin .add (.var 2) (.var 1)) .nil)) (.int 2147483646))) .nil))))) .nil)))) }
def d__law_draw : Def := { name := "_law_draw", N := ["source", "many", "found"], nps := 2, reg := false, body := (.cons (.ifs (.cmp .gt (.idx (.var 0) (.int 0)) (.int 0)) (.cons (.set 2 (.bin .mod (.bi .int (.cons (.idx (.var 0) (.int 0)) .nil)) (.var 1))) (.cons (.put (.var 0) (.int 0) (.bin .fdiv (.idx (.var 0) (.int 0)) (.var 1))) (.cons (.ret (.var 2)) .nil))) .nil) (.cons (.put (.var 0) (.int 1) (.bin .mod (.bi .int (.cons (.bin .mul (.idx (.var 0) (.int 1)) (.int 48271)) .nil)) (.int 2147483647))) (.cons (.ret (.bin .mod (.bi .int (.cons (.bin .fdiv (.bin .mod (.bi .int (.cons (.bin .mul (.idx (.var 0) (.int 1)) (.idx (.var 0) (.int 1))) .nil)) (.int 2147483629)) (.int 64)) .nil)) (.var 1))) .nil))) }
def d__law_of : Def := { name := "_law_of", N := ["source", "items"], nps := 2, reg := false, body := (.cons (.ret (.idx (.var 1) (.call f__law_draw (.cons (.var 0) (.cons (.bi .len (.cons (.var 1) .nil)) .nil))))) .nil) }
def d__law_rule : Def := { name := "_law_rule", N := ["source"], nps := 1, reg := false, body := (.cons (.ret (.call f__law_of (.cons (.var 0) (.cons (.lst (.cons (.str "front") (.cons (.str "back") (.cons (.str "tight") (.cons (.str "wide") .nil))))) .nil)))) .nil) }
def d__law_deed : Def := { name := "_law_deed", N := ["source", "cars", "word"], nps := 2, reg := false, body := (.cons (.set 2 (.call f__law_of (.cons (.var 0) (.cons (.lst (.cons (.str "park") (.cons (.str "park") (.cons (.str "park") (.cons (.str "leave") (.cons (.str "leave") (.cons (.str "pull") (.cons (.str "drop") .nil)))))))) .nil)))) (.cons (.ifs (.cmp .eq (.var 2) (.str "park")) (.cons (.ret (.tup (.cons (.var 2) (.cons (.call f__law_draw (.cons (.var 0) (.cons (.var 1) .nil))) (.cons (.call f__law_rule (.cons (.var 0) .nil)) .nil))))) .nil) .nil) (.cons (.ret (.tup (.cons (.var 2) (.cons (.call f__law_draw (.cons (.var 0) (.cons (.var 1) .nil))) .nil)))) .nil))) }
def b__law_plan_0 : Sxs := (.cons (.set 3 (.bin .add (.var 3) (.tup (.cons (.bin .add (.int 2) (.call f__law_draw (.cons (.var 0) (.cons (.int 8) .nil)))) .nil)))) .nil)
def b__law_plan_1 : Sxs := (.cons (.set 5 (.call f__law_deed (.cons (.var 0) (.cons (.bi .len (.cons (.var 3) .nil)) .nil)))) (.cons (.ifs (.and (.cmp .lt (.var 2) (.bi .len (.cons (.var 3) .nil))) (.cmp .gt (.call f__law_draw (.cons (.var 0) (.cons (.int 4) .nil))) (.int 0))) (.cons (.set 5 (.tup (.cons (.str "park") (.cons (.var 2) (.cons (.call f__law_rule (.cons (.var 0) .nil)) .nil))))) .nil) .nil) (.cons (.set 4 (.bin .add (.var 4) (.tup (.cons (.var 5) .nil)))) .nil)))
def d__law_plan : Def := { name := "_law_plan", N := ["source", "most", "turn", "lengths", "deeds", "deed"], nps := 2, reg := false, body := (.cons (.unp (.tp (.cons (.nm 3) (.cons (.nm 4) .nil))) (.tup (.cons (.tup .nil) (.cons (.tup .nil) .nil)))) (.cons (.for_ (.nm 2) (.rng1 (.bin .add (.int 1) (.call f__law_draw (.cons (.var 0) (.cons (.int 5) .nil))))) b__law_plan_0) (.cons (.for_ (.nm 2) (.rng1 (.call f__law_draw (.cons (.var 0) (.cons (.bin .add (.var 1) (.int 1)) .nil)))) b__law_plan_1) (.cons (.ret (.tup (.cons (.var 3) (.cons (.var 4) .nil)))) .nil)))) }
def d_need_n : Def := { name := "need_n", N := ["value"], nps := 1, reg := true, body := (.cons (.ifs (.not (.call f_is_number (.cons (.var 0) (.cons (.con c_LEAST) (.cons (.con c_MOST) .nil))))) (.cons (.rai 2) .nil) .nil) .nil) }
def d_added : Def := { name := "added", N := ["one", "other"], nps := 2, reg := true, body := (.cons (.ret (.tup (.cons (.bin .add (.idx (.var 0) (.int 0)) (.idx (.var 1) (.int 0))) (.cons (.bin .add (.idx (.var 0) (.int 1)) (.idx (.var 1) (.int 1))) .nil)))) .nil) }
def d_less : Def := { name := "less", N := ["one", "other"], nps := 2, reg := true, body := (.cons (.ret (.tup (.cons (.bin .sub (.idx (.var 0) (.int 0)) (.idx (.var 1) (.int 0))) (.cons (.bin .sub (.idx (.var 0) (.int 1)) (.idx (.var 1) (.int 1))) .nil)))) .nil) }
def d_worth : Def := { name := "worth", N := ["form", "n"], nps := 2, reg := true, body := (.cons (.ret (.bin .add (.bin .mul (.idx (.var 0) (.int 0)) (.var 1)) (.idx (.var 0) (.int 1)))) .nil) }
def d_sign_of : Def := { name := "sign_of", N := ["form", "n", "here"], nps := 2, reg := true, body := (.cons (.set 2 (.call f_worth (.cons (.var 0) (.cons (.var 1) .nil)))) (.cons (.ret (.ite (.cmp .gt (.var 2) (.int 0)) (.int 1) (.ite (.cmp .lt (.var 2) (.int 0)) (.neg (.int 1)) (.int 0)))) .nil)) }
def d_begun : Def := { name := "begun", N := ["lengths"], nps := 1, reg := false, body := (.cons (.ret (.newc (.dct ["lengths", "row", "did", "asked"] (.cons (.var 0) (.cons (.tup .nil) (.cons (.tup .nil) (.cons (.tup .nil) .nil))))))) .nil) }
def d_asks : Def := { name := "asks", N := ["state", "form", "n"], nps := 3, reg := false, body := (.cons (.dput (.var 0) (.str "asked") (.bin .add (.idx (.var 0) (.str "asked")) (.tup (.cons (.var 1) .nil)))) (.cons (.ret (.call f_sign_of (.cons (.var 1) (.cons (.var 2) .nil)))) .nil)) }
def b_all_gaps_0 : Sxs := (.cons (.par 1 2 (.cons (.bin .add (.var 1) (.lst (.cons (.tup (.cons (.var 2) (.cons (.call f_less (.cons (.var 4) (.cons (.var 2) .nil))) .nil))) .nil))) (.cons (.call f_added (.cons (.var 4) (.cons (.tup (.cons (.int 0) (.cons (.idx (.idx (.var 0) (.str "lengths")) (.var 3)) .nil))) .nil))) .nil))) .nil)
def d_all_gaps : Def := { name := "all_gaps", N := ["state", "found", "begin", "car", "place"], nps := 1, reg := false, body := (.cons (.par 1 2 (.cons (.lst .nil) (.cons (.tup (.cons (.int 0) (.cons (.int 0) .nil))) .nil))) (.cons (.for_ (.tp (.cons (.nm 3) (.cons (.nm 4) .nil))) (.val (.idx (.var 0) (.str "row"))) b_all_gaps_0) (.cons (.ret (.bin .add (.var 1) (.lst (.cons (.tup (.cons (.var 2) (.cons (.call f_less (.cons (.tup (.cons (.int 1) (.cons (.int 0) .nil))) (.cons (.var 2) .nil))) .nil))) .nil)))) .nil))) }
def d_is_fit : Def := { name := "is_fit", N := ["state", "gap", "length", "n"], nps := 4, reg := false, body := (.cons (.ret (.cmp .ge (.call f_asks (.cons (.var 0) (.cons (.call f_added (.cons (.idx (.var 1) (.int 1)) (.cons (.tup (.cons (.int 0) (.cons (.neg (.var 2)) .nil))) .nil))) (.cons (.var 3) .nil)))) (.int 0))) .nil) }
def d_better : Def := { name := "better", N := ["state", "rule", "gap", "other", "n", "sign"], nps := 5, reg := false, body := (.cons (.ifs (.or (.cmp .eq (.var 1) (.str "front")) (.cmp .eq (.var 1) (.str "back"))) (.cons (.ret (.cmp .eq (.var 1) (.str "back"))) .nil) .nil) (.cons (.set 5 (.call f_asks (.cons (.var 0) (.cons (.call f_less (.cons (.idx (.var 2) (.int 1)) (.cons (.idx (.var 3) (.int 1)) .nil))) (.cons (.var 4) .nil))))) (.cons (.ret (.ite (.cmp .eq (.var 1) (.str "tight")) (.cmp .lt (.var 5) (.int 0)) (.cmp .gt (.var 5) (.int 0)))) .nil))) }
def b_choice_0 : Sxs := (.cons (.ifs (.and (.call f_is_fit (.cons (.var 0) (.cons (.var 7) (.cons (.var 1) (.cons (.var 3) .nil))))) (.or (.cmp .isN (.var 4) .non) (.call f_better (.cons (.var 0) (.cons (.var 2) (.cons (.var 7) (.cons (.idx (.var 5) (.var 4)) (.cons (.var 3) .nil)))))))) (.cons (.set 4 (.var 6)) .nil) .nil) .nil)
def d_choice : Def := { name := "choice", N := ["state", "length", "rule", "n", "best", "gaps", "at", "gap"], nps := 4, reg := false, body := (.cons (.par 4 5 (.cons .non (.cons (.call f_all_gaps (.cons (.var 0) .nil)) .nil))) (.cons (.for_ (.tp (.cons (.nm 6) (.cons (.nm 7) .nil))) (.enum (.var 5)) b_choice_0) (.cons (.ret (.var 4)) .nil))) }
def d_place_in : Def := { name := "place_in", N := ["gap", "length", "rule"], nps := 3, reg := true, body := (.cons (.ret (.ite (.cmp .eq (.var 2) (.str "back")) (.call f_added (.cons (.call f_added (.cons (.idx (.var 0) (.int 0)) (.cons (.idx (.var 0) (.int 1)) .nil))) (.cons (.tup (.cons (.int 0) (.cons (.neg (.var 1)) .nil))) .nil))) (.idx (.var 0) (.int 0)))) .nil) }
def l_parked_0 : Ex := (.lc [8, 5] (.tp (.cons (.nm 8) (.cons (.nm 5) .nil))) (.val (.var 6)) .none (.var 8))
def d_parked : Def := { name := "parked", N := ["state", "car", "rule", "n", "at", "place", "row", "length", "other"], nps := 4, reg := false, body := (.cons (.par 6 7 (.cons (.idx (.var 0) (.str "row")) (.cons (.idx (.idx (.var 0) (.str "lengths")) (.var 1)) .nil))) (.cons (.set 4 (.call f_choice (.cons (.var 0) (.cons (.var 7) (.cons (.var 2) (.cons (.var 3) .nil)))))) (.cons (.ifs (.or (.cmp .isN (.var 4) .non) (.cmp .in_ (.var 1) l_parked_0)) (.cons (.ret (.bl false)) .nil) .nil) (.cons (.set 5 (.call f_place_in (.cons (.idx (.call f_all_gaps (.cons (.var 0) .nil)) (.var 4)) (.cons (.var 7) (.cons (.var 2) .nil))))) (.cons (.dput (.var 0) (.str "row") (.bin .add (.bin .add (.sli (.var 6) .none (.some (.var 4))) (.tup (.cons (.tup (.cons (.var 1) (.cons (.var 5) .nil))) .nil))) (.sli (.var 6) (.some (.var 4)) .none))) (.cons (.ret (.bl true)) .nil)))))) }
def l_spot_of_0 : Ex := (.lc [3, 4, 5] (.tp (.cons (.nm 3) (.cons (.tp (.cons (.nm 4) (.cons (.nm 5) .nil))) .nil))) (.enum (.idx (.var 0) (.str "row"))) (.some (.cmp .eq (.var 4) (.var 1))) (.var 3))
def d_spot_of : Def := { name := "spot_of", N := ["state", "car", "found", "at", "other", "place"], nps := 2, reg := false, body := (.cons (.set 2 l_spot_of_0) (.cons (.ret (.ite (.cmp .ne (.var 2) (.lst .nil)) (.idx (.var 2) (.int 0)) .non)) .nil)) }
def d_shifted : Def := { name := "shifted", N := ["state", "at", "gap", "form", "n", "row"], nps := 5, reg := false, body := (.cons (.ifs (.cmp .eq (.call f_asks (.cons (.var 0) (.cons (.idx (.var 2) (.int 1)) (.cons (.var 4) .nil)))) (.int 0)) (.cons (.ret (.bl false)) .nil) .nil) (.cons (.set 5 (.idx (.var 0) (.str "row"))) (.cons (.dput (.var 0) (.str "row") (.bin .add (.bin .add (.sli (.var 5) .none (.some (.var 1))) (.tup (.cons (.tup (.cons (.idx (.idx (.var 5) (.var 1)) (.int 0)) (.cons (.var 3) .nil))) .nil))) (.sli (.var 5) (.some (.bin .add (.var 1) (.int 1))) .none))) (.cons (.ret (.bl true)) .nil)))) }
def d_do : Def := { name := "do", N := ["state", "deed", "n", "at", "row", "gaps"], nps := 3, reg := false, body := (.cons (.ifs (.cmp .eq (.idx (.var 1) (.int 0)) (.str "park")) (.cons (.ret (.call f_parked (.cons (.var 0) (.cons (.idx (.var 1) (.int 1)) (.cons (.idx (.var 1) (.int 2)) (.cons (.var 2) .nil)))))) .nil) .nil) (.cons (.set 3 (.call f_spot_of (.cons (.var 0) (.cons (.idx (.var 1) (.int 1)) .nil)))) (.cons (.ifs (.cmp .isN (.var 3) .non) (.cons (.ret (.bl false)) .nil) .nil) (.cons (.par 4 5 (.cons (.idx (.var 0) (.str "row")) (.cons (.call f_all_gaps (.cons (.var 0) .nil)) .nil))) (.cons (.ifs (.cmp .eq (.idx (.var 1) (.int 0)) (.str "pull")) (.cons (.ret (.call f_shifted (.cons (.var 0) (.cons (.var 3) (.cons (.idx (.var 5) (.var 3)) (.cons (.idx (.idx (.var 5) (.var 3)) (.int 0)) (.cons (.var 2) .nil))))))) .nil) .nil) (.cons (.ifs (.cmp .eq (.idx (.var 1) (.int 0)) (.str "drop")) (.cons (.ret (.call f_shifted (.cons (.var 0) (.cons (.var 3) (.cons (.idx (.var 5) (.bin .add (.var 3) (.int 1))) (.cons (.call f_added (.cons (.idx (.idx (.var 4) (.var 3)) (.int 1)) (.cons (.idx (.idx (.var 5) (.bin .add (.var 3) (.int 1))) (.int 1)) .nil))) (.cons (.var 2) .nil))))))) .nil) .nil) (.cons (.dput (.var 0) (.str "row") (.bin .add (.sli (.var 4) .none (.some (.var 3))) (.sli (.var 4) (.some (.bin .add (.var 3) (.int 1))) .none))) (.cons (.ret (.bl true)) .nil)))))))) }
def b_last_of_0 : Sxs := (.cons (.set 4 (.call f_do (.cons (.var 2) (.cons (.var 3) (.cons (.var 1) .nil))))) (.cons (.dput (.var 2) (.str "did") (.bin .add (.idx (.var 2) (.str "did")) (.tup (.cons (.var 4) .nil)))) .nil))
def d_last_of : Def := { name := "last_of", N := ["plan", "n", "state", "deed", "truth"], nps := 2, reg := false, body := (.cons (.set 2 (.call f_begun (.cons (.idx (.var 0) (.int 0)) .nil))) (.cons (.for_ (.nm 3) (.val (.idx (.var 0) (.int 1))) b_last_of_0) (.cons (.ret (.var 2)) .nil))) }
def d_place_form : Def := { name := "place_form", N := ["state", "car", "at"], nps := 2, reg := false, body := (.cons (.set 2 (.call f_spot_of (.cons (.var 0) (.cons (.var 1) .nil)))) (.cons (.ret (.ite (.cmp .isN (.var 2) .non) .non (.idx (.idx (.idx (.var 0) (.str "row")) (.var 2)) (.int 1)))) .nil)) }
def l_gap_forms_0 : Ex := (.lc [2] (.nm 2) (.val (.call f_all_gaps (.cons (.var 0) .nil))) (.some (.cmp .gt (.call f_asks (.cons (.var 0) (.cons (.idx (.var 2) (.int 1)) (.cons (.var 1) .nil)))) (.int 0))) (.var 2))
def d_gap_forms : Def := { name := "gap_forms", N := ["state", "n", "gap"], nps := 2, reg := false, body := (.cons (.ret (.bi .tuple (.cons l_gap_forms_0 .nil))) .nil) }
def l_places_of_0 : Ex := (.lc [4] (.nm 4) (.rng1 (.bi .len (.cons (.idx (.var 0) (.int 0)) .nil))) .none (.call f_place_form (.cons (.var 2) (.cons (.var 4) .nil))))
def l_places_of_1 : Ex := (.lc [5] (.nm 5) (.val (.var 3)) .none (.ite (.cmp .isN (.var 5) .non) .non (.call f_worth (.cons (.var 5) (.cons (.var 1) .nil)))))
def d_places_of : Def := { name := "places_of", N := ["plan", "n", "state", "forms", "car", "form"], nps := 2, reg := true, body := (.cons (.set 2 (.call f_last_of (.cons (.var 0) (.cons (.var 1) .nil)))) (.cons (.set 3 l_places_of_0) (.cons (.ret (.bi .tuple (.cons l_places_of_1 .nil))) .nil))) }
def l_cars_of_0 : Ex := (.lc [1, 2] (.tp (.cons (.nm 1) (.cons (.nm 2) .nil))) (.val (.idx (.var 0) (.str "row"))) .none (.var 1))
def d_cars_of : Def := { name := "cars_of", N := ["state", "car", "place"], nps := 1, reg := false, body := (.cons (.ret (.bi .tuple (.cons l_cars_of_0 .nil))) .nil) }
def d_done : Def := { name := "done", N := ["plan", "n"], nps := 2, reg := true, body := (.cons (.exp (.call f_need_plan (.cons (.var 0) .nil))) (.cons (.exp (.call f_need_n (.cons (.var 1) .nil))) (.cons (.ret (.idx (.call f_last_of (.cons (.var 0) (.cons (.var 1) .nil))) (.str "did"))) .nil))) }
def d_places : Def := { name := "places", N := ["plan", "n"], nps := 2, reg := true, body := (.cons (.exp (.call f_need_plan (.cons (.var 0) .nil))) (.cons (.exp (.call f_need_n (.cons (.var 1) .nil))) (.cons (.ret (.call f_places_of (.cons (.var 0) (.cons (.var 1) .nil)))) .nil))) }
def l_gaps_0 : Ex := (.lc [2, 3] (.tp (.cons (.nm 2) (.cons (.nm 3) .nil))) (.val (.call f_gap_forms (.cons (.call f_last_of (.cons (.var 0) (.cons (.var 1) .nil))) (.cons (.var 1) .nil)))) .none (.tup (.cons (.call f_worth (.cons (.var 2) (.cons (.var 1) .nil))) (.cons (.call f_worth (.cons (.var 3) (.cons (.var 1) .nil))) .nil))))
def d_gaps : Def := { name := "gaps", N := ["plan", "n", "begin", "size"], nps := 2, reg := true, body := (.cons (.exp (.call f_need_plan (.cons (.var 0) .nil))) (.cons (.exp (.call f_need_n (.cons (.var 1) .nil))) (.cons (.ret l_gaps_0) .nil))) }
def d_row : Def := { name := "row", N := ["plan", "n"], nps := 2, reg := true, body := (.cons (.exp (.call f_need_plan (.cons (.var 0) .nil))) (.cons (.exp (.call f_need_n (.cons (.var 1) .nil))) (.cons (.ret (.call f_cars_of (.cons (.call f_last_of (.cons (.var 0) (.cons (.var 1) .nil))) .nil))) .nil))) }
def d__law_n : Def := { name := "_law_n", N := ["source", "small", "great"], nps := 1, reg := false, body := (.cons (.par 1 2 (.cons (.bin .add (.int 10) (.call f__law_draw (.cons (.var 0) (.cons (.int 9) .nil)))) (.cons (.bin .add (.bin .pow (.int 10) (.int 9)) (.call f__law_draw (.cons (.var 0) (.cons (.bin .pow (.int 10) (.int 9)) .nil)))) .nil))) (.cons (.ret (.call f__law_of (.cons (.var 0) (.cons (.lst (.cons (.int 10) (.cons (.var 1) (.cons (.bin .add (.var 1) (.call f__law_draw (.cons (.var 0) (.cons (.int 40) .nil)))) (.cons (.var 2) (.cons (.bin .pow (.int 10) (.int 30)) .nil)))))) .nil)))) .nil)) }
def d__law_value : Def := { name := "_law_value", N := ["form", "n"], nps := 2, reg := true, body := (.cons (.ret (.bin .add (.bin .mul (.idx (.var 0) (.int 0)) (.var 1)) (.idx (.var 0) (.int 1)))) .nil) }
def d__law_less : Def := { name := "_law_less", N := ["one", "other"], nps := 2, reg := true, body := (.cons (.ret (.tup (.cons (.bin .sub (.idx (.var 0) (.int 0)) (.idx (.var 1) (.int 0))) (.cons (.bin .sub (.idx (.var 0) (.int 1)) (.idx (.var 1) (.int 1))) .nil)))) .nil) }
def b__law_spaces_0 : Sxs := (.cons (.app 3 (.tup (.cons (.var 4) (.cons (.call f__law_less (.cons (.var 6) (.cons (.var 4) .nil))) .nil)))) (.cons (.set 4 (.tup (.cons (.idx (.var 6) (.int 0)) (.cons (.bin .add (.idx (.var 6) (.int 1)) (.idx (.var 0) (.var 5))) .nil)))) .nil))
def d__law_spaces : Def := { name := "_law_spaces", N := ["lengths", "line", "n", "found", "begin", "car", "form"], nps := 3, reg := true, body := (.cons (.par 3 4 (.cons (.newc (.lst .nil)) (.cons (.tup (.cons (.int 0) (.cons (.int 0) .nil))) .nil))) (.cons (.for_ (.tp (.cons (.nm 5) (.cons (.nm 6) .nil))) (.val (.var 1)) b__law_spaces_0) (.cons (.app 3 (.tup (.cons (.var 4) (.cons (.call f__law_less (.cons (.tup (.cons (.int 1) (.cons (.int 0) .nil))) (.cons (.var 4) .nil))) .nil)))) (.cons (.frz 3) (.cons (.ret (.var 3)) .nil))))) }
def l__law_chosen_0 : Ex := (.lc [8, 9] (.tp (.cons (.nm 8) (.cons (.nm 9) .nil))) (.val (.var 0)) .none (.call f__law_value (.cons (.var 9) (.cons (.var 3) .nil))))
def l__law_chosen_1 : Ex := (.lc [7] (.nm 7) (.rng1 (.bi .len (.cons (.var 0) .nil))) (.some (.cmp .ge (.idx (.var 4) (.var 7)) (.var 1))) (.var 7))
def l__law_chosen_2 : Ex := (.lc [7] (.nm 7) (.val (.var 5)) .none (.idx (.var 4) (.var 7)))
def d__law_chosen : Def := { name := "_law_chosen", N := ["spaces", "length", "rule", "n", "sizes", "some", "fits", "at", "begin", "size"], nps := 4, reg := true, body := (.cons (.set 4 l__law_chosen_0) (.cons (.set 5 l__law_chosen_1) (.cons (.ifs (.cmp .eq (.var 5) (.lst .nil)) (.cons (.ret .non) .nil) .nil) (.cons (.ifs (.or (.cmp .eq (.var 2) (.str "front")) (.cmp .eq (.var 2) (.str "back"))) (.cons (.ret (.ite (.cmp .eq (.var 2) (.str "front")) (.idx (.var 5) (.int 0)) (.idx (.var 5) (.neg (.int 1))))) .nil) .nil) (.cons (.set 6 l__law_chosen_2) (.cons (.ret (.idx (.var 5) (.mth .index (.var 6) (.cons (.ite (.cmp .eq (.var 2) (.str "tight")) (.bi .min1 (.cons (.var 6) .nil)) (.bi .max1 (.cons (.var 6) .nil))) .nil)))) .nil)))))) }
def l__law_step_0 : Ex := (.lc [5] (.nm 5) (.rng1 (.bi .len (.cons (.var 1) .nil))) (.some (.cmp .eq (.idx (.idx (.var 1) (.var 5)) (.int 0)) (.var 8))) (.var 5))
def d__law_step : Def := { name := "_law_step", N := ["lengths", "line", "deed", "n", "spot", "at", "form", "later", "car", "spaces", "begin", "size"], nps := 4, reg := true, body := (.cons (.unp (.tp (.cons (.nm 8) (.cons (.nm 9) .nil))) (.tup (.cons (.idx (.var 2) (.int 1)) (.cons (.call f__law_spaces (.cons (.var 0) (.cons (.var 1) (.cons (.var 3) .nil)))) .nil)))) (.cons (.set 4 l__law_step_0) (.cons (.ifs (.cmp .eq (.idx (.var 2) (.int 0)) (.str "park")) (.cons (.set 5 (.call f__law_chosen (.cons (.var 9) (.cons (.idx (.var 0) (.var 8)) (.cons (.idx (.var 2) (.int 2)) (.cons (.var 3) .nil)))))) (.cons (.ifs (.or (.cmp .ne (.var 4) (.lst .nil)) (.cmp .isN (.var 5) .non)) (.cons (.ret .non) .nil) .nil) (.cons (.unp (.tp (.cons (.nm 6) (.cons (.nm 11) .nil))) (.idx (.var 9) (.var 5))) (.cons (.ifs (.cmp .eq (.idx (.var 2) (.int 2)) (.str "back")) (.cons (.set 6 (.tup (.cons (.bin .add (.idx (.var 6) (.int 0)) (.idx (.var 11) (.int 0))) (.cons (.bin .sub (.bin .add (.idx (.var 6) (.int 1)) (.idx (.var 11) (.int 1))) (.idx (.var 0) (.var 8))) .nil)))) .nil) .nil) (.cons (.ret (.bin .add (.bin .add (.sli (.var 1) .none (.some (.var 5))) (.lst (.cons (.tup (.cons (.var 8) (.cons (.var 6) .nil))) .nil))) (.sli (.var 1) (.some (.var 5)) .none))) .nil))))) .nil) (.cons (.ifs (.cmp .eq (.var 4) (.lst .nil)) (.cons (.ret .non) .nil) .nil) (.cons (.set 5 (.idx (.var 4) (.int 0))) (.cons (.ifs (.cmp .eq (.idx (.var 2) (.int 0)) (.str "leave")) (.cons (.ret (.bin .add (.sli (.var 1) .none (.some (.var 5))) (.sli (.var 1) (.some (.bin .add (.var 5) (.int 1))) .none))) .nil) .nil) (.cons (.unp (.tp (.cons (.nm 10) (.cons (.nm 11) .nil))) (.ite (.cmp .eq (.idx (.var 2) (.int 0)) (.str "pull")) (.idx (.var 9) (.var 5)) (.idx (.var 9) (.bin .add (.var 5) (.int 1))))) (.cons (.ifs (.cmp .eq (.call f__law_value (.cons (.var 11) (.cons (.var 3) .nil))) (.int 0)) (.cons (.ret .non) .nil) .nil) (.cons (.set 6 (.idx (.idx (.var 1) (.var 5)) (.int 1))) (.cons (.set 7 (.var 10)) (.cons (.ifs (.cmp .eq (.idx (.var 2) (.int 0)) (.str "drop")) (.cons (.set 7 (.tup (.cons (.bin .add (.idx (.var 6) (.int 0)) (.idx (.var 11) (.int 0))) (.cons (.bin .add (.idx (.var 6) (.int 1)) (.idx (.var 11) (.int 1))) .nil)))) .nil) .nil) (.cons (.ret (.bin .add (.bin .add (.sli (.var 1) .none (.some (.var 5))) (.lst (.cons (.tup (.cons (.var 8) (.cons (.var 7) .nil))) .nil))) (.sli (.var 1) (.some (.bin .add (.var 5) (.int 1))) .none))) .nil)))))))))))) }
def b__law_run_0 : Sxs := (.cons (.set 5 (.call f__law_step (.cons (.idx (.var 0) (.int 0)) (.cons (.var 3) (.cons (.var 2) (.cons (.var 1) .nil)))))) (.cons (.set 4 (.bin .add (.var 4) (.tup (.cons (.cmp .notN (.var 5) .non) .nil)))) (.cons (.set 3 (.ite (.cmp .isN (.var 5) .non) (.var 3) (.var 5))) .nil)))
def d__law_run : Def := { name := "_law_run", N := ["plan", "n", "deed", "line", "did", "later"], nps := 2, reg := true, body := (.cons (.par 3 4 (.cons (.lst .nil) (.cons (.tup .nil) .nil))) (.cons (.for_ (.nm 2) (.val (.idx (.var 0) (.int 1))) b__law_run_0) (.cons (.ret (.tup (.cons (.var 4) (.cons (.var 3) .nil)))) .nil))) }
def l__law_forms_0 : Ex := (.lc [3] (.nm 3) (.rng1 (.bi .len (.cons (.idx (.var 0) (.int 0)) .nil))) .none (.mth .get (.var 2) (.cons (.var 3) (.cons .non .nil))))
def d__law_forms : Def := { name := "_law_forms", N := ["plan", "n", "found", "car"], nps := 2, reg := true, body := (.cons (.set 2 (.bi .dict (.cons (.idx (.call f__law_run (.cons (.var 0) (.cons (.var 1) .nil))) (.int 1)) .nil))) (.cons (.ret l__law_forms_0) .nil)) }
def b__law_places_0 : Sxs := (.cons (.set 2 (.bin .add (.var 2) (.tup (.cons (.ite (.cmp .isN (.var 3) .non) .non (.call f__law_value (.cons (.var 3) (.cons (.var 1) .nil)))) .nil)))) .nil)
def d__law_places : Def := { name := "_law_places", N := ["plan", "n", "found", "form"], nps := 2, reg := true, body := (.cons (.set 2 (.tup .nil)) (.cons (.for_ (.nm 3) (.val (.call f__law_forms (.cons (.var 0) (.cons (.var 1) .nil)))) b__law_places_0) (.cons (.ret (.var 2)) .nil))) }
def l__law_gaps_0 : Ex := (.lc [3] (.nm 3) (.val (.var 2)) (.some (.cmp .gt (.call f__law_value (.cons (.idx (.var 3) (.int 1)) (.cons (.var 1) .nil))) (.int 0))) (.var 3))
def d__law_gaps : Def := { name := "_law_gaps", N := ["plan", "n", "spaces", "pair"], nps := 2, reg := true, body := (.cons (.set 2 (.call f__law_spaces (.cons (.idx (.var 0) (.int 0)) (.cons (.idx (.call f__law_run (.cons (.var 0) (.cons (.var 1) .nil))) (.int 1)) (.cons (.var 1) .nil))))) (.cons (.ret (.bi .tuple (.cons l__law_gaps_0 .nil))) .nil)) }
def d__law_known : Def := { name := "_law_known", N := ["one", "first", "two", "three", "second", "four"], nps := 0, reg := true, body := (.cons (.set 0 (.tup (.cons (.tup (.cons (.int 4) (.cons (.int 3) (.cons (.int 5) .nil)))) (.cons (.tup (.cons (.tup (.cons (.str "park") (.cons (.int 0) (.cons (.str "front") .nil)))) (.cons (.tup (.cons (.str "park") (.cons (.int 1) (.cons (.str "back") .nil)))) (.cons (.tup (.cons (.str "park") (.cons (.int 2) (.cons (.str "tight") .nil)))) .nil)))) .nil)))) (.cons (.set 1 (.tup (.cons (.tup (.cons (.str "park") (.cons (.int 0) (.cons (.str "front") .nil)))) (.cons (.tup (.cons (.str "park") (.cons (.int 1) (.cons (.str "wide") .nil)))) (.cons (.tup (.cons (.str "leave") (.cons (.int 0) .nil))) .nil))))) (.cons (.set 2 (.tup (.cons (.tup (.cons (.int 2) (.cons (.int 2) (.cons (.int 6) .nil)))) (.cons (.bin .add (.var 1) (.tup (.cons (.tup (.cons (.str "park") (.cons (.int 2) (.cons (.str "tight") .nil)))) (.cons (.tup (.cons (.str "pull") (.cons (.int 1) .nil))) .nil)))) .nil)))) (.cons (.set 3 (.tup (.cons (.tup (.cons (.int 3) (.cons (.int 3) .nil))) (.cons (.tup (.cons (.tup (.cons (.str "park") (.cons (.int 0) (.cons (.str "back") .nil)))) (.cons (.tup (.cons (.str "park") (.cons (.int 1) (.cons (.str "back") .nil)))) (.cons (.tup (.cons (.str "drop") (.cons (.int 0) .nil))) (.cons (.tup (.cons (.str "pull") (.cons (.int 0) .nil))) .nil))))) .nil)))) (.cons (.set 4 (.tup (.cons (.tup (.cons (.str "park") (.cons (.int 0) (.cons (.str "front") .nil)))) (.cons (.tup (.cons (.str "park") (.cons (.int 1) (.cons (.str "front") .nil)))) (.cons (.tup (.cons (.str "leave") (.cons (.int 0) .nil))) .nil))))) (.cons (.set 5 (.tup (.cons (.tup (.cons (.int 5) (.cons (.int 2) (.cons (.int 3) (.cons (.int 4) .nil))))) (.cons (.bin .add (.var 4) (.tup (.cons (.tup (.cons (.str "park") (.cons (.int 2) (.cons (.str "tight") .nil)))) (.cons (.tup (.cons (.str "park") (.cons (.int 3) (.cons (.str "wide") .nil)))) .nil)))) .nil)))) (.cons (.ret (.tup (.cons (.var 0) (.cons (.var 2) (.cons (.var 3) (.cons (.var 5) .nil)))))) .nil))))))) }
def d_need_car : Def := { name := "need_car", N := ["plan", "value"], nps := 2, reg := true, body := (.cons (.ifs (.not (.call f_is_number (.cons (.var 1) (.cons (.int 0) (.cons (.bin .sub (.bi .len (.cons (.idx (.var 0) (.int 0)) .nil)) (.int 1)) .nil))))) (.cons (.rai 3) .nil) .nil) .nil) }
def d_same_to : Def := { name := "same_to", N := ["form", "n", "sign", "more", "base"], nps := 2, reg := true, body := (.cons (.unp (.tp (.cons (.nm 2) (.cons (.tp (.cons (.nm 3) (.cons (.nm 4) .nil))) .nil))) (.tup (.cons (.call f_sign_of (.cons (.var 0) (.cons (.var 1) .nil))) (.cons (.var 0) .nil)))) (.cons (.ifs (.or (.cmp .eq (.var 3) (.int 0)) (.cmp .gt (.bin .mul (.var 2) (.var 3)) (.int 0))) (.cons (.ret .non) .nil) .nil) (.cons (.ifs (.cmp .eq (.var 2) (.int 0)) (.cons (.ret (.var 1)) .nil) .nil) (.cons (.ret (.bin .fdiv (.bin .sub (.bi .abs (.cons (.var 4) .nil)) (.int 1)) (.bi .abs (.cons (.var 3) .nil)))) .nil)))) }
def l_until_0 : Ex := (.lc [3] (.nm 3) (.val (.var 0)) .none (.call f_same_to (.cons (.var 3) (.cons (.var 1) .nil))))
def l_until_1 : Ex := (.lc [4] (.nm 4) (.val (.var 2)) (.some (.cmp .notN (.var 4) .non)) (.bi .int (.cons (.var 4) .nil)))
def d_until : Def := { name := "until", N := ["asked", "n", "ends", "form", "end"], nps := 2, reg := true, body := (.cons (.set 2 l_until_0) (.cons (.set 2 l_until_1) (.cons (.ret (.ite (.cmp .ne (.var 2) (.lst .nil)) (.bi .min1 (.cons (.var 2) .nil)) .non)) .nil))) }
def b_joined_0 : Sxs := (.cons (.ifs (.and (.cmp .ne (.var 1) (.lst .nil)) (.cmp .eq (.idx (.idx (.var 1) (.neg (.int 1))) (.int 2)) (.var 4))) (.cons (.set 1 (.bin .add (.sli (.var 1) .none (.some (.neg (.int 1)))) (.lst (.cons (.tup (.cons (.idx (.idx (.var 1) (.neg (.int 1))) (.int 0)) (.cons (.var 3) (.cons (.var 4) .nil)))) .nil)))) .nil) (.cons (.set 1 (.bin .add (.var 1) (.lst (.cons (.tup (.cons (.var 2) (.cons (.var 3) (.cons (.var 4) .nil)))) .nil)))) .nil)) .nil)
def d_joined : Def := { name := "joined", N := ["rows", "found", "least", "greatest", "told"], nps := 1, reg := true, body := (.cons (.set 1 (.lst .nil)) (.cons (.for_ (.tp (.cons (.nm 2) (.cons (.nm 3) (.cons (.nm 4) .nil)))) (.val (.var 0)) b_joined_0) (.cons (.ret (.var 1)) .nil))) }
def w_rows_by_0 : Ex := (.cmp .notN (.var 2) .non)
def b_rows_by_0 : Sxs := (.cons (.unp (.tp (.cons (.nm 4) (.cons (.nm 5) .nil))) (.callv 0 (.cons (.var 2) .nil))) (.cons (.set 3 (.call f_until (.cons (.var 5) (.cons (.var 2) .nil)))) (.cons (.set 1 (.bin .add (.var 1) (.lst (.cons (.tup (.cons (.var 2) (.cons (.var 3) (.cons (.var 4) .nil)))) .nil)))) (.cons (.set 2 (.ite (.cmp .isN (.var 3) .non) .non (.bin .add (.var 3) (.int 1)))) .nil))))
def d_rows_by : Def := { name := "rows_by", N := ["told", "found", "n", "end", "here", "asked"], nps := 1, reg := true, body := (.cons (.par 1 2 (.cons (.lst .nil) (.cons (.con c_LEAST) .nil))) (.cons (.whl w_rows_by_0 b_rows_by_0) (.cons (.ret (.call f_joined (.cons (.var 1) .nil))) .nil))) }
def d_seen_last : Def := { name := "seen_last", N := ["plan", "told", "n", "state", "here"], nps := 3, reg := true, body := (.cons (.set 3 (.call f_last_of (.cons (.var 0) (.cons (.var 2) .nil)))) (.cons (.set 4 (.callv 1 (.cons (.var 3) (.cons (.var 2) .nil)))) (.cons (.ret (.tup (.cons (.var 4) (.cons (.idx (.var 3) (.str "asked")) .nil)))) .nil))) }
def m_by_last_0 : Ex := (.call f_seen_last (.cons (.var 1) (.cons (.var 2) (.cons (.var 0) .nil))))
def d_by_last : Def := { name := "by_last", N := ["plan", "told"], nps := 2, reg := true, body := (.cons (.ret (.callL f_rows_by .nil 1 [0, 1] m_by_last_0)) .nil) }
def d_need_both : Def := { name := "need_both", N := ["plan", "car"], nps := 2, reg := true, body := (.cons (.exp (.call f_need_plan (.cons (.var 0) .nil))) (.cons (.exp (.call f_need_car (.cons (.var 0) (.cons (.var 1) .nil)))) .nil)) }
def m_done_rows_0 : Ex := (.idx (.var 0) (.str "did"))
def d_done_rows : Def := { name := "done_rows", N := ["plan"], nps := 1, reg := true, body := (.cons (.exp (.call f_need_plan (.cons (.var 0) .nil))) (.cons (.ret (.callL f_by_last (.cons (.var 0) .nil) 2 [] m_done_rows_0)) .nil)) }
def m_place_rows_0 : Ex := (.call f_place_form (.cons (.var 0) (.cons (.var 2) .nil)))
def d_place_rows : Def := { name := "place_rows", N := ["plan", "car"], nps := 2, reg := true, body := (.cons (.exp (.call f_need_both (.cons (.var 0) (.cons (.var 1) .nil)))) (.cons (.ret (.callL f_by_last (.cons (.var 0) .nil) 2 [1] m_place_rows_0)) .nil)) }
def d_gap_rows : Def := { name := "gap_rows", N := ["plan"], nps := 1, reg := true, body := (.cons (.exp (.call f_need_plan (.cons (.var 0) .nil))) (.cons (.ret (.call f_by_last (.cons (.var 0) (.cons (.fnv f_gap_forms) .nil)))) .nil)) }
def m_row_rows_0 : Ex := (.call f_cars_of (.cons (.var 0) .nil))
def d_row_rows : Def := { name := "row_rows", N := ["plan"], nps := 1, reg := true, body := (.cons (.exp (.call f_need_plan (.cons (.var 0) .nil))) (.cons (.ret (.callL f_by_last (.cons (.var 0) .nil) 2 [] m_row_rows_0)) .nil)) }
def b__law_spots_0 : Sxs := (.cons (.set 2 (.bin .add (.var 2) (.lst (.cons (.var 3) (.cons (.bin .add (.var 3) (.int 1)) .nil))))) (.cons (.set 2 (.bin .add (.var 2) (.ite (.cmp .notN (.var 4) .non) (.lst (.cons (.var 4) (.cons (.bin .add (.var 4) (.int 1)) .nil))) (.lst .nil)))) .nil))
def d__law_spots : Def := { name := "_law_spots", N := ["source", "rows", "found", "least", "greatest", "told"], nps := 2, reg := false, body := (.cons (.set 2 (.lst (.cons (.int 10) (.cons (.int 11) (.cons (.bin .pow (.int 10) (.int 30)) (.cons (.bin .add (.int 10) (.call f__law_draw (.cons (.var 0) (.cons (.int 70) .nil)))) (.cons (.bin .add (.bin .pow (.int 10) (.int 6)) (.call f__law_draw (.cons (.var 0) (.cons (.bin .pow (.int 10) (.int 6)) .nil)))) .nil))))))) (.cons (.for_ (.tp (.cons (.nm 3) (.cons (.nm 4) (.cons (.nm 5) .nil)))) (.val (.sli (.var 1) .none (.some (.int 40)))) b__law_spots_0) (.cons (.ret (.var 2)) .nil))) }
def b__law_told_at_0 : Sxs := (.cons (.ifs (.and (.cmp .le (.var 2) (.var 1)) (.or (.cmp .isN (.var 3) .non) (.cmp .le (.var 1) (.var 3)))) (.cons (.ret (.var 4)) .nil) .nil) .nil)
def d__law_told_at : Def := { name := "_law_told_at", N := ["rows", "n", "least", "greatest", "told"], nps := 2, reg := true, body := (.cons (.for_ (.tp (.cons (.nm 2) (.cons (.nm 3) (.cons (.nm 4) .nil)))) (.val (.var 0)) b__law_told_at_0) (.cons (.ret (.str "gap")) .nil)) }
def b__law_are_rows_0 : Sxs := (.cons (.ifs (.or (.cmp .isN (.idx (.var 1) (.int 1)) .non) (.cmp .lt (.idx (.var 1) (.int 1)) (.idx (.var 1) (.int 0)))) (.cons (.ret (.bl false)) .nil) .nil) (.cons (.ifs (.or (.cmp .ne (.idx (.var 2) (.int 0)) (.bin .add (.idx (.var 1) (.int 1)) (.int 1))) (.cmp .eq (.idx (.var 1) (.int 2)) (.idx (.var 2) (.int 2)))) (.cons (.ret (.bl false)) .nil) .nil) .nil))
def d__law_are_rows : Def := { name := "_law_are_rows", N := ["rows", "one", "other"], nps := 1, reg := true, body := (.cons (.ifs (.or (.not (.isi (.var 0) .list)) (.cmp .eq (.var 0) (.lst .nil))) (.cons (.ret (.bl false)) .nil) .nil) (.cons (.ifs (.or (.cmp .ne (.idx (.idx (.var 0) (.int 0)) (.int 0)) (.int 10)) (.cmp .notN (.idx (.idx (.var 0) (.neg (.int 1))) (.int 1)) .non)) (.cons (.ret (.bl false)) .nil) .nil) (.cons (.for_ (.tp (.cons (.nm 1) (.cons (.nm 2) .nil))) (.zip (.var 0) (.sli (.var 0) (.some (.int 1)) .none)) b__law_are_rows_0) (.cons (.ret (.bl true)) .nil)))) }
def b_widest_0 : Sxs := (.cons (.set 2 (.ite (.cmp .gt (.call f_asks (.cons (.var 0) (.cons (.call f_less (.cons (.var 4) (.cons (.var 2) .nil))) (.cons (.var 1) .nil)))) (.int 0)) (.var 4) (.var 2))) .nil)
def d_widest : Def := { name := "widest", N := ["state", "n", "best", "begin", "size"], nps := 2, reg := false, body := (.cons (.set 2 (.tup (.cons (.int 0) (.cons (.int 0) .nil)))) (.cons (.for_ (.tp (.cons (.nm 3) (.cons (.nm 4) .nil))) (.val (.call f_gap_forms (.cons (.var 0) (.cons (.var 1) .nil)))) b_widest_0) (.cons (.ret (.var 2)) .nil))) }
def l_all_parked_0 : Ex := (.lc [2, 3] (.tp (.cons (.nm 2) (.cons (.nm 3) .nil))) (.zip (.idx (.var 1) (.str "did")) (.idx (.var 0) (.int 1))) (.some (.cmp .eq (.idx (.var 3) (.int 0)) (.str "park"))) (.var 2))
def d_all_parked : Def := { name := "all_parked", N := ["plan", "state", "truth", "deed"], nps := 2, reg := false, body := (.cons (.ret (.bi .all (.cons l_all_parked_0 .nil))) .nil) }
def d_room : Def := { name := "room", N := ["plan", "n"], nps := 2, reg := true, body := (.cons (.exp (.call f_need_plan (.cons (.var 0) .nil))) (.cons (.exp (.call f_need_n (.cons (.var 1) .nil))) (.cons (.ret (.call f_worth (.cons (.call f_widest (.cons (.call f_last_of (.cons (.var 0) (.cons (.var 1) .nil))) (.cons (.var 1) .nil))) (.cons (.var 1) .nil)))) .nil))) }
def d_room_rows : Def := { name := "room_rows", N := ["plan"], nps := 1, reg := true, body := (.cons (.exp (.call f_need_plan (.cons (.var 0) .nil))) (.cons (.ret (.call f_by_last (.cons (.var 0) (.cons (.fnv f_widest) .nil)))) .nil)) }
def m_would_fit_0 : Ex := (.cmp .notN (.call f_choice (.cons (.var 0) (.cons (.var 2) (.cons (.str "front") (.cons (.var 1) .nil))))) .non)
def d_would_fit : Def := { name := "would_fit", N := ["plan", "length"], nps := 2, reg := true, body := (.cons (.exp (.call f_need_plan (.cons (.var 0) .nil))) (.cons (.ifs (.not (.call f_is_number (.cons (.var 1) (.cons (.int 1) (.cons (.con c_MOST) .nil))))) (.cons (.rai 2) .nil) .nil) (.cons (.ret (.callL f_by_last (.cons (.var 0) .nil) 2 [1] m_would_fit_0)) .nil))) }
def m_sure_from_0 : Ex := (.call f_all_parked (.cons (.var 2) (.cons (.var 0) .nil)))
def d_sure_from : Def := { name := "sure_from", N := ["plan", "rows", "least", "greatest", "truth"], nps := 1, reg := true, body := (.cons (.exp (.call f_need_plan (.cons (.var 0) .nil))) (.cons (.set 1 (.callL f_by_last (.cons (.var 0) .nil) 2 [0] m_sure_from_0)) (.cons (.unp (.tp (.cons (.nm 2) (.cons (.nm 3) (.cons (.nm 4) .nil)))) (.idx (.var 1) (.neg (.int 1)))) (.cons (.ret (.ite (.var 4) (.var 2) .non)) .nil)))) }
def m_parked_rows_0 : Ex := (.bi .len (.cons (.idx (.var 0) (.str "row")) .nil))
def d_parked_rows : Def := { name := "parked_rows", N := ["plan"], nps := 1, reg := true, body := (.cons (.exp (.call f_need_plan (.cons (.var 0) .nil))) (.cons (.ret (.callL f_by_last (.cons (.var 0) .nil) 2 [] m_parked_rows_0)) .nil)) }
def l_least_with_0 : Ex := (.lc [3, 4, 5] (.tp (.cons (.nm 3) (.cons (.nm 4) (.cons (.nm 5) .nil)))) (.val (.var 0)) (.some (.cmp .eq (.var 5) (.var 1))) (.var 3))
def d_least_with : Def := { name := "least_with", N := ["rows", "told", "found", "least", "greatest", "item"], nps := 2, reg := true, body := (.cons (.set 2 l_least_with_0) (.cons (.ret (.ite (.cmp .ne (.var 2) (.lst .nil)) (.idx (.var 2) (.int 0)) .non)) .nil)) }
def d_same_places : Def := { name := "same_places", N := ["one", "other", "n", "gap"], nps := 3, reg := true, body := (.cons (.ifs (.or (.cmp .isN (.var 0) .non) (.cmp .isN (.var 1) .non)) (.cons (.ret (.tup (.cons (.and (.cmp .isN (.var 0) .non) (.cmp .isN (.var 1) .non)) (.cons (.tup .nil) .nil)))) .nil) .nil) (.cons (.set 3 (.call f_less (.cons (.var 0) (.cons (.var 1) .nil)))) (.cons (.ret (.tup (.cons (.cmp .eq (.call f_sign_of (.cons (.var 3) (.cons (.var 2) .nil))) (.int 0)) (.cons (.tup (.cons (.var 3) .nil)) .nil)))) .nil))) }
def b_like_told_0 : Sxs := (.cons (.unp (.tp (.cons (.nm 8) (.cons (.nm 9) .nil))) (.call f_same_places (.cons (.call f_place_form (.cons (.var 4) (.cons (.var 3) .nil))) (.cons (.call f_place_form (.cons (.var 5) (.cons (.var 3) .nil))) (.cons (.var 2) .nil))))) (.cons (.par 6 7 (.cons (.and (.var 6) (.var 8)) (.cons (.bin .add (.var 7) (.var 9)) .nil))) .nil))
def d_like_told : Def := { name := "like_told", N := ["one", "other", "n", "car", "mine", "yours", "good", "asked", "same", "more"], nps := 3, reg := true, body := (.cons (.par 4 5 (.cons (.call f_last_of (.cons (.var 0) (.cons (.var 2) .nil))) (.cons (.call f_last_of (.cons (.var 1) (.cons (.var 2) .nil))) .nil))) (.cons (.par 6 7 (.cons (.bl true) (.cons (.bin .add (.idx (.var 4) (.str "asked")) (.idx (.var 5) (.str "asked"))) .nil))) (.cons (.for_ (.nm 3) (.rng1 (.bi .len (.cons (.idx (.var 0) (.int 0)) .nil))) b_like_told_0) (.cons (.ret (.tup (.cons (.var 6) (.cons (.var 7) .nil)))) .nil)))) }
def m_parting_number_0 : Ex := (.call f_like_told (.cons (.var 1) (.cons (.var 2) (.cons (.var 0) .nil))))
def d_parting_number : Def := { name := "parting_number", N := ["one", "other"], nps := 2, reg := true, body := (.cons (.ifs (.cmp .ne (.idx (.var 0) (.int 0)) (.idx (.var 1) (.int 0))) (.cons (.ret (.con c_LEAST)) .nil) .nil) (.cons (.ret (.call f_least_with (.cons (.callL f_rows_by .nil 1 [0, 1] m_parting_number_0) (.cons (.bl false) .nil)))) .nil)) }
def d_need_two : Def := { name := "need_two", N := ["one", "other"], nps := 2, reg := true, body := (.cons (.exp (.call f_need_plan (.cons (.var 0) .nil))) (.cons (.exp (.call f_need_plan (.cons (.var 1) .nil))) .nil)) }
def d_alike : Def := { name := "alike", N := ["one", "other"], nps := 2, reg := true, body := (.cons (.exp (.call f_need_two (.cons (.var 0) (.cons (.var 1) .nil)))) (.cons (.ret (.cmp .isN (.call f_parting_number (.cons (.var 0) (.cons (.var 1) .nil))) .non)) .nil)) }
def d_parting : Def := { name := "parting", N := ["one", "other"], nps := 2, reg := true, body := (.cons (.exp (.call f_need_two (.cons (.var 0) (.cons (.var 1) .nil)))) (.cons (.ret (.call f_parting_number (.cons (.var 0) (.cons (.var 1) .nil)))) .nil)) }
def d__law_near : Def := { name := "_law_near", N := ["source", "plan", "at", "new", "mode", "lengths", "deeds", "first", "second"], nps := 2, reg := false, body := (.cons (.unp (.tp (.cons (.nm 4) (.cons (.tp (.cons (.nm 5) (.cons (.nm 6) .nil))) .nil))) (.tup (.cons (.call f__law_draw (.cons (.var 0) (.cons (.int 4) .nil))) (.cons (.var 1) .nil)))) (.cons (.ifs (.cmp .eq (.var 6) (.tup .nil)) (.cons (.ret (.tup (.cons (.var 5) (.cons (.tup (.cons (.tup (.cons (.str "park") (.cons (.int 0) (.cons (.str "back") .nil)))) .nil)) .nil)))) .nil) .nil) (.cons (.set 2 (.call f__law_draw (.cons (.var 0) (.cons (.bi .len (.cons (.var 6) .nil)) .nil)))) (.cons (.ifs (.cmp .eq (.var 4) (.int 0)) (.cons (.ret (.tup (.cons (.var 5) (.cons (.bin .add (.sli (.var 6) .none (.some (.var 2))) (.sli (.var 6) (.some (.bin .add (.var 2) (.int 1))) .none)) .nil)))) .nil) .nil) (.cons (.ifs (.and (.cmp .eq (.var 4) (.int 1)) (.cmp .lt (.bin .add (.var 2) (.int 1)) (.bi .len (.cons (.var 6) .nil)))) (.cons (.par 7 8 (.cons (.idx (.var 6) (.var 2)) (.cons (.idx (.var 6) (.bin .add (.var 2) (.int 1))) .nil))) (.cons (.ret (.tup (.cons (.var 5) (.cons (.bin .add (.bin .add (.sli (.var 6) .none (.some (.var 2))) (.tup (.cons (.var 8) (.cons (.var 7) .nil)))) (.sli (.var 6) (.some (.bin .add (.var 2) (.int 2))) .none)) .nil)))) .nil)) .nil) (.cons (.set 3 (.call f__law_deed (.cons (.var 0) (.cons (.bi .len (.cons (.var 5) .nil)) .nil)))) (.cons (.ret (.tup (.cons (.var 5) (.cons (.bin .add (.bin .add (.sli (.var 6) .none (.some (.var 2))) (.tup (.cons (.var 3) .nil))) (.sli (.var 6) (.some (.bin .add (.var 2) (.int 1))) .none)) .nil)))) .nil))))))) }
def d_without : Def := { name := "without", N := ["plan", "index"], nps := 2, reg := true, body := (.cons (.ret (.tup (.cons (.idx (.var 0) (.int 0)) (.cons (.bin .add (.sli (.idx (.var 0) (.int 1)) .none (.some (.var 1))) (.sli (.idx (.var 0) (.int 1)) (.some (.bin .add (.var 1) (.int 1))) .none)) .nil)))) .nil) }
def d_exchanged : Def := { name := "exchanged", N := ["plan", "index", "deeds"], nps := 2, reg := true, body := (.cons (.set 2 (.idx (.var 0) (.int 1))) (.cons (.ret (.tup (.cons (.idx (.var 0) (.int 0)) (.cons (.bin .add (.bin .add (.sli (.var 2) .none (.some (.var 1))) (.tup (.cons (.idx (.var 2) (.bin .add (.var 1) (.int 1))) (.cons (.idx (.var 2) (.var 1)) .nil)))) (.sli (.var 2) (.some (.bin .add (.var 1) (.int 2))) .none)) .nil)))) .nil)) }
def l_idle_deeds_0 : Ex := (.lc [1] (.nm 1) (.rng1 (.bi .len (.cons (.idx (.var 0) (.int 1)) .nil))) (.some (.cmp .isN (.call f_parting_number (.cons (.var 0) (.cons (.call f_without (.cons (.var 0) (.cons (.var 1) .nil))) .nil))) .non)) (.var 1))
def d_idle_deeds : Def := { name := "idle_deeds", N := ["plan", "index"], nps := 1, reg := true, body := (.cons (.exp (.call f_need_plan (.cons (.var 0) .nil))) (.cons (.ret l_idle_deeds_0) .nil)) }
def l_exchangeable_0 : Ex := (.lc [1] (.nm 1) (.rng1 (.bin .sub (.bi .len (.cons (.idx (.var 0) (.int 1)) .nil)) (.int 1))) (.some (.cmp .isN (.call f_parting_number (.cons (.var 0) (.cons (.call f_exchanged (.cons (.var 0) (.cons (.var 1) .nil))) .nil))) .non)) (.var 1))
def d_exchangeable : Def := { name := "exchangeable", N := ["plan", "index"], nps := 1, reg := true, body := (.cons (.exp (.call f_need_plan (.cons (.var 0) .nil))) (.cons (.ret l_exchangeable_0) .nil)) }
def l_only_parks_0 : Ex := (.lc [2] (.nm 2) (.val (.var 1)) .none (.cmp .eq (.idx (.var 2) (.int 0)) (.str "park")))
def l_only_parks_1 : Ex := (.lc [2] (.nm 2) (.val (.var 1)) .none (.bi .int (.cons (.idx (.var 2) (.int 1)) .nil)))
def d_only_parks : Def := { name := "only_parks", N := ["plan", "deeds", "deed"], nps := 1, reg := true, body := (.cons (.set 1 (.idx (.var 0) (.int 1))) (.cons (.ifs (.or (.not (.chn .le .le (.int 1) (.bi .len (.cons (.var 1) .nil)) (.int 5))) (.not (.bi .all (.cons l_only_parks_0 .nil)))) (.cons (.ret (.bl false)) .nil) .nil) (.cons (.ret (.cmp .eq (.nset l_only_parks_1) (.bi .len (.cons (.var 1) .nil)))) .nil))) }
def d_need_parking : Def := { name := "need_parking", N := ["plan"], nps := 1, reg := true, body := (.cons (.exp (.call f_need_plan (.cons (.var 0) .nil))) (.cons (.ifs (.not (.call f_only_parks (.cons (.var 0) .nil))) (.cons (.rai 7) .nil) .nil) .nil)) }
def l_all_orders_0 : Ex := (.lc [5] (.nm 5) (.rng1 (.var 0)) (.some (.cmp .nin (.var 5) (.var 4))) (.bin .add (.var 4) (.tup (.cons (.var 5) .nil))))
def b_all_orders_0 : Sxs := (.cons (.set 3 (.bin .add (.var 3) l_all_orders_0)) .nil)
def b_all_orders_1 : Sxs := (.cons (.set 3 (.lst .nil)) (.cons (.for_ (.nm 4) (.val (.var 1)) b_all_orders_0) (.cons (.set 1 (.var 3)) .nil)))
def d_all_orders : Def := { name := "all_orders", N := ["many", "found", "turn", "longer", "line", "index"], nps := 1, reg := true, body := (.cons (.set 1 (.lst (.cons (.tup .nil) .nil))) (.cons (.for_ (.nm 2) (.rng1 (.var 0)) b_all_orders_1) (.cons (.ret (.var 1)) .nil))) }
def l_ruled_0 : Ex := (.lc [2] (.nm 2) (.val (.idx (.var 0) (.int 1))) .none (.bin .add (.sli (.var 2) .none (.some (.int 2))) (.tup (.cons (.var 1) .nil))))
def d_ruled : Def := { name := "ruled", N := ["plan", "rule", "deed"], nps := 2, reg := true, body := (.cons (.ret (.tup (.cons (.idx (.var 0) (.int 0)) (.cons (.bi .tuple (.cons l_ruled_0 .nil)) .nil)))) .nil) }
def l_ordered_0 : Ex := (.lc [2] (.nm 2) (.val (.var 1)) .none (.idx (.idx (.var 0) (.int 1)) (.var 2)))
def d_ordered : Def := { name := "ordered", N := ["plan", "order", "index"], nps := 2, reg := true, body := (.cons (.ret (.tup (.cons (.idx (.var 0) (.int 0)) (.cons (.bi .tuple (.cons l_ordered_0 .nil)) .nil)))) .nil) }
def b_best_told_0 : Sxs := (.cons (.set 9 (.call f_last_of (.cons (.var 4) (.cons (.var 3) .nil)))) (.cons (.par 7 8 (.cons (.bin .add (.var 7) (.lst (.cons (.bin .mul (.var 2) (.bi .len (.cons (.idx (.var 9) (.str "row")) .nil))) .nil))) (.cons (.bin .add (.var 8) (.idx (.var 9) (.str "asked"))) .nil))) .nil))
def l_best_told_0 : Ex := (.lc [10] (.nm 10) (.val (.var 7)) .none (.bi .int (.cons (.var 10) .nil)))
def l_best_told_1 : Ex := (.lc [11, 10] (.tp (.cons (.nm 11) (.cons (.nm 10) .nil))) (.zip (.var 0) (.var 7)) (.some (.cmp .eq (.var 10) (.var 5))) (.var 11))
def d_best_told : Def := { name := "best_told", N := ["choices", "plans", "sign", "n", "plan", "best", "some", "counts", "asked", "state", "count", "choice"], nps := 4, reg := true, body := (.cons (.par 7 8 (.cons (.lst .nil) (.cons (.tup .nil) .nil))) (.cons (.for_ (.nm 4) (.val (.var 1)) b_best_told_0) (.cons (.set 5 (.bi .max1 (.cons l_best_told_0 .nil))) (.cons (.set 6 (.bi .tuple (.cons l_best_told_1 .nil))) (.cons (.ret (.tup (.cons (.tup (.cons (.bin .mul (.var 2) (.var 5)) (.cons (.var 6) .nil))) (.cons (.var 8) .nil)))) .nil))))) }
def l_rows_of_orders_0 : Ex := (.lc [4] (.nm 4) (.val (.var 2)) .none (.call f_ordered (.cons (.var 0) (.cons (.var 4) .nil))))
def m_rows_of_orders_0 : Ex := (.call f_best_told (.cons (.var 1) (.cons (.var 2) (.cons (.var 3) (.cons (.var 0) .nil)))))
def d_rows_of_orders : Def := { name := "rows_of_orders", N := ["plan", "sign", "orders", "plans", "order"], nps := 2, reg := true, body := (.cons (.set 2 (.call f_all_orders (.cons (.bi .len (.cons (.idx (.var 0) (.int 1)) .nil)) .nil))) (.cons (.set 3 l_rows_of_orders_0) (.cons (.ret (.callL f_rows_by .nil 1 [2, 3, 1] m_rows_of_orders_0)) .nil))) }
def l_best_rules_0 : Ex := (.lc [2] (.nm 2) (.val (.con c_RULES)) .none (.call f_ruled (.cons (.var 0) (.cons (.var 2) .nil))))
def m_best_rules_0 : Ex := (.call f_best_told (.cons (.con c_RULES) (.cons (.var 1) (.cons (.int 1) (.cons (.var 0) .nil)))))
def d_best_rules : Def := { name := "best_rules", N := ["plan", "plans", "rule"], nps := 1, reg := true, body := (.cons (.exp (.call f_need_parking (.cons (.var 0) .nil))) (.cons (.set 1 l_best_rules_0) (.cons (.ret (.callL f_rows_by .nil 1 [1] m_best_rules_0)) .nil))) }
def d_best_orders : Def := { name := "best_orders", N := ["plan"], nps := 1, reg := true, body := (.cons (.exp (.call f_need_parking (.cons (.var 0) .nil))) (.cons (.ret (.call f_rows_of_orders (.cons (.var 0) (.cons (.int 1) .nil)))) .nil)) }
def d_worst_orders : Def := { name := "worst_orders", N := ["plan"], nps := 1, reg := true, body := (.cons (.exp (.call f_need_parking (.cons (.var 0) .nil))) (.cons (.ret (.call f_rows_of_orders (.cons (.var 0) (.cons (.neg (.int 1)) .nil)))) .nil)) }
def b__law_parkers_0 : Sxs := (.cons (.set 2 (.bin .add (.var 2) (.tup (.cons (.bin .add (.int 2) (.call f__law_draw (.cons (.var 0) (.cons (.int 8) .nil)))) .nil)))) (.cons (.set 3 (.bin .add (.tup (.cons (.tup (.cons (.str "park") (.cons (.var 1) (.cons (.call f__law_rule (.cons (.var 0) .nil)) .nil)))) .nil)) (.var 3))) .nil))
def d__law_parkers : Def := { name := "_law_parkers", N := ["source", "car", "lengths", "deeds"], nps := 1, reg := false, body := (.cons (.unp (.tp (.cons (.nm 2) (.cons (.nm 3) .nil))) (.tup (.cons (.tup .nil) (.cons (.tup .nil) .nil)))) (.cons (.for_ (.nm 1) (.rng1 (.bin .add (.int 1) (.call f__law_draw (.cons (.var 0) (.cons (.int 4) .nil))))) b__law_parkers_0) (.cons (.ret (.tup (.cons (.var 2) (.cons (.var 3) .nil)))) .nil))) }
def d_is_fact : Def := { name := "is_fact", N := ["plan", "value"], nps := 2, reg := true, body := (.cons (.ifs (.not (.call f_is_tuple (.cons (.var 1) (.cons (.int 3) (.cons (.int 3) .nil))))) (.cons (.ret (.bl false)) .nil) .nil) (.cons (.ifs (.call f_is_word (.cons (.idx (.var 1) (.int 0)) (.cons (.tup (.cons (.str "done") .nil)) .nil))) (.cons (.ret (.and (.call f_is_number (.cons (.idx (.var 1) (.int 1)) (.cons (.int 0) (.cons (.bin .sub (.bi .len (.cons (.idx (.var 0) (.int 1)) .nil)) (.int 1)) .nil)))) (.isi (.idx (.var 1) (.int 2)) .bool))) .nil) .nil) (.cons (.ret (.and (.call f_is_word (.cons (.idx (.var 1) (.int 0)) (.cons (.tup (.cons (.str "at") .nil)) .nil))) (.and (.call f_is_number (.cons (.idx (.var 1) (.int 1)) (.cons (.int 0) (.cons (.bin .sub (.bi .len (.cons (.idx (.var 0) (.int 0)) .nil)) (.int 1)) .nil)))) (.call f_is_number (.cons (.idx (.var 1) (.int 2)) (.cons (.int 0) (.cons (.con c_FAR) .nil))))))) .nil))) }
def l_need_seen_0 : Ex := (.lc [2] (.nm 2) (.val (.var 1)) .none (.call f_is_fact (.cons (.var 0) (.cons (.var 2) .nil))))
def d_need_seen : Def := { name := "need_seen", N := ["plan", "value", "fact"], nps := 2, reg := true, body := (.cons (.ifs (.or (.not (.call f_is_tuple (.cons (.var 1) (.cons (.int 1) (.cons (.int 4) .nil))))) (.not (.bi .all (.cons l_need_seen_0 .nil)))) (.cons (.rai 4) .nil) .nil) .nil) }
def d_fact_form : Def := { name := "fact_form", N := ["state", "fact", "form", "word", "at", "told"], nps := 2, reg := false, body := (.cons (.unp (.tp (.cons (.nm 3) (.cons (.nm 4) (.cons (.nm 5) .nil)))) (.var 1)) (.cons (.ifs (.cmp .eq (.var 3) (.str "done")) (.cons (.ret (.tup (.cons (.int 0) (.cons (.ite (.cmp .eq (.idx (.idx (.var 0) (.str "did")) (.var 4)) (.var 5)) (.int 0) (.int 1)) .nil)))) .nil) .nil) (.cons (.set 2 (.call f_place_form (.cons (.var 0) (.cons (.var 4) .nil)))) (.cons (.ret (.ite (.cmp .isN (.var 2) .non) (.tup (.cons (.int 0) (.cons (.int 1) .nil))) (.call f_added (.cons (.var 2) (.cons (.tup (.cons (.int 0) (.cons (.neg (.var 5)) .nil))) .nil))))) .nil)))) }
def l_is_so_0 : Ex := (.lc [5] (.nm 5) (.val (.var 1)) .none (.call f_fact_form (.cons (.var 3) (.cons (.var 5) .nil))))
def l_is_so_1 : Ex := (.lc [6] (.nm 6) (.val (.var 4)) .none (.cmp .eq (.call f_sign_of (.cons (.var 6) (.cons (.var 2) .nil))) (.int 0)))
def d_is_so : Def := { name := "is_so", N := ["plan", "seen", "n", "state", "gaps", "fact", "gap"], nps := 3, reg := true, body := (.cons (.set 3 (.call f_last_of (.cons (.var 0) (.cons (.var 2) .nil)))) (.cons (.set 4 (.bi .tuple (.cons l_is_so_0 .nil))) (.cons (.ret (.tup (.cons (.bi .all (.cons l_is_so_1 .nil)) (.cons (.bin .add (.idx (.var 3) (.str "asked")) (.var 4)) .nil)))) .nil))) }
def m_numbers_told_0 : Ex := (.call f_is_so (.cons (.var 1) (.cons (.var 2) (.cons (.var 0) .nil))))
def d_numbers_told : Def := { name := "numbers_told", N := ["plan", "seen"], nps := 2, reg := true, body := (.cons (.exp (.call f_need_plan (.cons (.var 0) .nil))) (.cons (.exp (.call f_need_seen (.cons (.var 0) (.cons (.var 1) .nil)))) (.cons (.ret (.callL f_rows_by .nil 1 [0, 1] m_numbers_told_0)) .nil))) }
def d_is_seen : Def := { name := "is_seen", N := ["plan", "n", "seen"], nps := 3, reg := true, body := (.cons (.exp (.call f_need_plan (.cons (.var 0) .nil))) (.cons (.exp (.call f_need_n (.cons (.var 1) .nil))) (.cons (.exp (.call f_need_seen (.cons (.var 0) (.cons (.var 2) .nil)))) (.cons (.ret (.idx (.call f_is_so (.cons (.var 0) (.cons (.var 2) (.cons (.var 1) .nil)))) (.int 0))) .nil)))) }
def l_lines_of_0 : Ex := (.lc [5] (.nm 5) (.val (.var 2)) .none (.bi .str (.cons (.var 5) .nil)))
def l_lines_of_1 : Ex := (.lc [6] (.nm 6) (.val (.var 4)) .none (.bi .str (.cons (.var 6) .nil)))
def l_lines_of_2 : Ex := (.lc [4] (.nm 4) (.val (.var 3)) .none (.mth .join (.str " ") (.cons l_lines_of_1 .nil)))
def d_lines_of : Def := { name := "lines_of", N := ["plan", "found", "lengths", "deeds", "deed", "length", "part"], nps := 1, reg := true, body := (.cons (.unp (.tp (.cons (.nm 2) (.cons (.nm 3) .nil))) (.var 0)) (.cons (.set 1 (.lst (.cons (.mth .join (.str " ") (.cons (.bin .add (.lst (.cons (.str "lengths") .nil)) l_lines_of_0) .nil)) .nil))) (.cons (.ret (.bin .add (.var 1) l_lines_of_2)) .nil))) }
def l_part_in_0 : Ex := (.lc [1] (.nm 1) (.rng1 (.int 10)) .none (.bi .str (.cons (.var 1) .nil)))
def d_part_in : Def := { name := "part_in", N := ["word", "number"], nps := 1, reg := true, body := (.cons (.ret (.ite (.cmp .in_ (.var 0) l_part_in_0) (.bi .int (.cons (.var 0) .nil)) (.var 0))) .nil) }
def l_line_in_0 : Ex := (.lc [2] (.nm 2) (.val (.mth .split (.var 0) (.cons (.str " ") .nil))) .none (.call f_part_in (.cons (.var 2) .nil)))
def d_line_in : Def := { name := "line_in", N := ["line", "words", "word"], nps := 1, reg := true, body := (.cons (.set 1 l_line_in_0) (.cons (.ifs (.cmp .eq (.idx (.var 1) (.int 0)) (.str "lengths")) (.cons (.ret (.ite (.call f_are_lengths (.cons (.bi .tuple (.cons (.sli (.var 1) (.some (.int 1)) .none) .nil)) .nil)) (.tup (.cons (.str "lengths") (.cons (.bi .tuple (.cons (.sli (.var 1) (.some (.int 1)) .none) .nil)) .nil))) .non)) .nil) .nil) (.cons (.ret (.ite (.call f_is_deed_of (.cons (.con c_CARS) (.cons (.bi .tuple (.cons (.var 1) .nil)) .nil))) (.tup (.cons (.str "deed") (.cons (.bi .tuple (.cons (.var 1) .nil)) .nil))) .non)) .nil))) }
def l_plan_in_0 : Ex := (.lc [3] (.nm 3) (.val (.mth .split (.var 0) (.cons (.str "\n") .nil))) .none (.call f_line_in (.cons (.var 3) .nil)))
def l_plan_in_1 : Ex := (.lc [4, 5] (.tp (.cons (.nm 4) (.cons (.nm 5) .nil))) (.val (.var 1)) .none (.var 4))
def l_plan_in_2 : Ex := (.lc [4, 5] (.tp (.cons (.nm 4) (.cons (.nm 5) .nil))) (.val (.sli (.var 1) (.some (.int 1)) .none)) .none (.var 5))
def d_plan_in : Def := { name := "plan_in", N := ["value", "found", "plan", "line", "sort", "told"], nps := 1, reg := true, body := (.cons (.ifs (.not (.isi (.var 0) .str)) (.cons (.raiF 101 "line" (.int 0)) .nil) .nil) (.cons (.set 1 l_plan_in_0) (.cons (.ifs (.cmp .in_ .non (.var 1)) (.cons (.raiF 101 "line" (.bin .add (.mth .index (.var 1) (.cons .non .nil)) (.int 1))) .nil) .nil) (.cons (.ifs (.cmp .ne l_plan_in_1 (.bin .add (.lst (.cons (.str "lengths") .nil)) (.bin .mul (.lst (.cons (.str "deed") .nil)) (.bin .sub (.bi .len (.cons (.var 1) .nil)) (.int 1))))) (.cons (.raiF 101 "line" (.bin .add (.bi .len (.cons (.var 1) .nil)) (.int 1))) .nil) .nil) (.cons (.set 2 (.tup (.cons (.idx (.idx (.var 1) (.int 0)) (.int 1)) (.cons (.bi .tuple (.cons l_plan_in_2 .nil)) .nil)))) (.cons (.ifs (.not (.call f_is_good_plan (.cons (.var 2) .nil))) (.cons (.raiF 101 "line" (.bin .add (.bi .len (.cons (.var 1) .nil)) (.int 1))) .nil) .nil) (.cons (.ret (.var 2)) .nil))))))) }
def d_need_index : Def := { name := "need_index", N := ["plan", "value"], nps := 2, reg := true, body := (.cons (.ifs (.not (.call f_is_number (.cons (.var 1) (.cons (.int 0) (.cons (.bin .sub (.bi .len (.cons (.idx (.var 0) (.int 1)) .nil)) (.int 1)) .nil))))) (.cons (.rai 5) .nil) .nil) .nil) }
def d_good_plan : Def := { name := "good_plan", N := ["value"], nps := 1, reg := true, body := (.cons (.exp (.call f_need_plan (.cons (.var 0) .nil))) (.cons (.ret (.var 0)) .nil)) }
def d_fewer : Def := { name := "fewer", N := ["plan", "index"], nps := 2, reg := true, body := (.cons (.exp (.call f_need_index (.cons (.var 0) (.cons (.var 1) .nil)))) (.cons (.ret (.call f_good_plan (.cons (.call f_without (.cons (.var 0) (.cons (.var 1) .nil))) .nil))) .nil)) }
def d_changed : Def := { name := "changed", N := ["plan", "value", "index", "deed"], nps := 2, reg := true, body := (.cons (.ifs (.not (.call f_is_tuple (.cons (.var 1) (.cons (.int 2) (.cons (.int 2) .nil))))) (.cons (.rai 5) .nil) .nil) (.cons (.unp (.tp (.cons (.nm 2) (.cons (.nm 3) .nil))) (.var 1)) (.cons (.exp (.call f_need_index (.cons (.var 0) (.cons (.var 2) .nil)))) (.cons (.ret (.call f_good_plan (.cons (.tup (.cons (.idx (.var 0) (.int 0)) (.cons (.bin .add (.bin .add (.sli (.idx (.var 0) (.int 1)) .none (.some (.var 2))) (.tup (.cons (.var 3) .nil))) (.sli (.idx (.var 0) (.int 1)) (.some (.bin .add (.var 2) (.int 1))) .none)) .nil))) .nil))) .nil)))) }
def b__law_as_value_0 : Sxs := (.cons (.set 1 (.bin .add (.var 1) (.var 2))) .nil)
def d__law_as_value : Def := { name := "_law_as_value", N := ["plan", "found", "deed"], nps := 1, reg := true, body := (.cons .nev (.cons (.for_ (.nm 2) (.val (.idx (.var 0) (.int 1))) b__law_as_value_0) (.cons (.ret (.var 1)) .nil))) }
-- ERR ('_law_as_value', 526, 'call Plan')
def d_plan_text : Def := { name := "plan_text", N := ["plan"], nps := 1, reg := true, body := (.cons (.exp (.call f_need_plan (.cons (.var 0) .nil))) (.cons (.ret (.mth .join (.str "\n") (.cons (.call f_lines_of (.cons (.var 0) .nil)) .nil))) .nil)) }
def d_read_plan : Def := { name := "read_plan", N := ["value"], nps := 1, reg := true, body := (.cons (.ret (.call f_plan_in (.cons (.var 0) .nil))) .nil) }
def w__wall_0 : Ex := (.bl true)
def b__wall_0 : Sxs := (.cons .nev .nil)
def d__wall : Def := { name := "_wall", N := ["k"], nps := 1, reg := true, body := (.cons (.whl w__wall_0 b__wall_0) .nil) }
-- ERR ('_wall', 3, 'Pass')
def d_standing : Def := { name := "standing", N := ["now", "car", "place"], nps := 1, reg := true, body := (.cons .nev .nil) }
-- ERR ('standing', 43, 'call sorted')
def b_free_gaps_0 : Sxs := (.cons (.ifs (.cmp .gt (.var 5) (.var 4)) (.cons (.set 3 (.bin .add (.var 3) (.lst (.cons (.tup (.cons (.var 4) (.cons (.bin .sub (.var 5) (.var 4)) .nil))) .nil)))) .nil) .nil) (.cons (.set 4 (.bin .add (.var 5) (.ite (.cmp .ge (.var 6) (.int 0)) (.idx (.var 1) (.var 6)) (.int 0)))) .nil))
def d_free_gaps : Def := { name := "free_gaps", N := ["n", "lengths", "now", "found", "begin", "place", "car"], nps := 3, reg := true, body := (.cons (.par 3 4 (.cons (.lst .nil) (.cons (.int 0) .nil))) (.cons (.for_ (.tp (.cons (.nm 5) (.cons (.nm 6) .nil))) (.val (.bin .add (.call f_standing (.cons (.var 2) .nil)) (.lst (.cons (.tup (.cons (.var 0) (.cons (.neg (.int 1)) .nil))) .nil)))) b_free_gaps_0) (.cons (.ret (.bi .tuple (.cons (.var 3) .nil))) .nil))) }
def l_best_gap_0 : Ex := (.lc [3, 4] (.tp (.cons (.nm 3) (.cons (.nm 4) .nil))) (.val (.var 0)) .none (.bi .int (.cons (.var 4) .nil)))
def d_best_gap : Def := { name := "best_gap", N := ["some", "rule", "sizes", "begin", "size"], nps := 2, reg := true, body := (.cons (.ifs (.or (.cmp .eq (.var 1) (.str "front")) (.cmp .eq (.var 1) (.str "back"))) (.cons (.ret (.ite (.cmp .eq (.var 1) (.str "front")) (.idx (.var 0) (.int 0)) (.idx (.var 0) (.neg (.int 1))))) .nil) .nil) (.cons (.set 2 l_best_gap_0) (.cons (.ret (.idx (.var 0) (.mth .index (.var 2) (.cons (.ite (.cmp .eq (.var 1) (.str "tight")) (.bi .min1 (.cons (.var 2) .nil)) (.bi .max1 (.cons (.var 2) .nil))) .nil)))) .nil))) }
def l_spot_for_0 : Ex := (.lc [8] (.nm 8) (.val (.call f_free_gaps (.cons (.var 0) (.cons (.var 1) (.cons (.var 2) .nil))))) (.some (.cmp .ge (.idx (.var 8) (.int 1)) (.var 3))) (.var 8))
def d_spot_for : Def := { name := "spot_for", N := ["n", "lengths", "now", "length", "rule", "some", "begin", "size", "gap"], nps := 5, reg := true, body := (.cons (.set 5 l_spot_for_0) (.cons (.ifs (.cmp .eq (.var 5) (.lst .nil)) (.cons (.ret .non) .nil) .nil) (.cons (.unp (.tp (.cons (.nm 6) (.cons (.nm 7) .nil))) (.call f_best_gap (.cons (.var 5) (.cons (.var 4) .nil)))) (.cons (.ret (.ite (.cmp .eq (.var 4) (.str "back")) (.bin .sub (.bin .add (.var 6) (.var 7)) (.var 3)) (.var 6))) .nil)))) }
def d_with_place : Def := { name := "with_place", N := ["now", "car", "place"], nps := 3, reg := true, body := (.cons (.ret (.bin .add (.bin .add (.sli (.var 0) .none (.some (.var 1))) (.tup (.cons (.var 2) .nil))) (.sli (.var 0) (.some (.bin .add (.var 1) (.int 1))) .none))) .nil) }
def l_pulled_0 : Ex := (.lc [5, 6] (.tp (.cons (.nm 5) (.cons (.nm 6) .nil))) (.val (.call f_free_gaps (.cons (.var 0) (.cons (.var 1) (.cons (.var 2) .nil))))) (.some (.cmp .eq (.bin .add (.var 5) (.var 6)) (.idx (.var 2) (.var 3)))) (.var 5))
def d_pulled : Def := { name := "pulled", N := ["n", "lengths", "now", "car", "found", "begin", "size"], nps := 4, reg := true, body := (.cons (.set 4 l_pulled_0) (.cons (.ret (.ite (.cmp .ne (.var 4) (.lst .nil)) (.idx (.var 4) (.int 0)) .non)) .nil)) }
def l_dropped_0 : Ex := (.lc [6, 7] (.tp (.cons (.nm 6) (.cons (.nm 7) .nil))) (.val (.call f_free_gaps (.cons (.var 0) (.cons (.var 1) (.cons (.var 2) .nil))))) (.some (.cmp .eq (.var 6) (.var 4))) (.bin .add (.idx (.var 2) (.var 3)) (.var 7)))
def d_dropped : Def := { name := "dropped", N := ["n", "lengths", "now", "car", "end", "found", "begin", "size"], nps := 4, reg := true, body := (.cons (.set 4 (.bin .add (.idx (.var 2) (.var 3)) (.idx (.var 1) (.var 3)))) (.cons (.set 5 l_dropped_0) (.cons (.ret (.ite (.cmp .ne (.var 5) (.lst .nil)) (.idx (.var 5) (.int 0)) .non)) .nil))) }
def d_done_now : Def := { name := "done_now", N := ["n", "lengths", "now", "deed", "car", "place"], nps := 4, reg := true, body := (.cons (.set 4 (.idx (.var 3) (.int 1))) (.cons (.ifs (.cmp .eq (.idx (.var 3) (.int 0)) (.str "park")) (.cons (.set 5 (.ite (.cmp .isN (.idx (.var 2) (.var 4)) .non) (.call f_spot_for (.cons (.var 0) (.cons (.var 1) (.cons (.var 2) (.cons (.idx (.var 1) (.var 4)) (.cons (.idx (.var 3) (.int 2)) .nil)))))) .non)) (.cons (.ret (.ite (.cmp .isN (.var 5) .non) .non (.call f_with_place (.cons (.var 2) (.cons (.var 4) (.cons (.var 5) .nil)))))) .nil)) .nil) (.cons (.ifs (.cmp .isN (.idx (.var 2) (.var 4)) .non) (.cons (.ret .non) .nil) .nil) (.cons (.ifs (.cmp .eq (.idx (.var 3) (.int 0)) (.str "leave")) (.cons (.ret (.call f_with_place (.cons (.var 2) (.cons (.var 4) (.cons .non .nil))))) .nil) .nil) (.cons (.set 5 (.ite (.cmp .eq (.idx (.var 3) (.int 0)) (.str "pull")) (.call f_pulled (.cons (.var 0) (.cons (.var 1) (.cons (.var 2) (.cons (.var 4) .nil))))) (.call f_dropped (.cons (.var 0) (.cons (.var 1) (.cons (.var 2) (.cons (.var 4) .nil))))))) (.cons (.ret (.ite (.cmp .isN (.var 5) .non) .non (.call f_with_place (.cons (.var 2) (.cons (.var 4) (.cons (.var 5) .nil)))))) .nil)))))) }
def l__law_led_0 : Ex := (.lc [8, 7] (.tp (.cons (.nm 8) (.cons (.nm 7) .nil))) (.val (.var 4)) .none (.tup (.cons (.var 7) (.cons (.tup (.cons (.int 0) (.cons (.var 8) .nil))) .nil))))
def l__law_led_1 : Ex := (.lc [7, 9] (.tp (.cons (.nm 7) (.cons (.nm 9) .nil))) (.val (.var 6)) .none (.tup (.cons (.var 7) (.cons (.call f__law_value (.cons (.var 9) (.cons (.var 0) .nil))) .nil))))
def d__law_led : Def := { name := "_law_led", N := ["n", "lengths", "now", "deed", "pairs", "line", "later", "car", "place", "form"], nps := 4, reg := true, body := (.cons .nev (.cons (.set 5 l__law_led_0) (.cons (.set 6 (.call f__law_step (.cons (.var 1) (.cons (.var 5) (.cons (.var 3) (.cons (.var 0) .nil)))))) (.cons (.ifs (.cmp .isN (.var 6) .non) (.cons (.ret .non) .nil) .nil) (.cons (.ret (.bi .dict (.cons l__law_led_1 .nil))) .nil))))) }
-- ERR ('_law_led', 266, 'call sorted')
def d__law_free : Def := { name := "_law_free", N := ["n", "lengths", "now", "found", "begin", "place", "car"], nps := 3, reg := true, body := (.cons (.par 3 4 (.cons (.newc (.lst .nil)) (.cons (.int 0) .nil))) (.cons .nev (.cons (.frz 3) (.cons (.ret (.bin .add (.var 3) (.ite (.cmp .lt (.var 4) (.var 0)) (.lst (.cons (.tup (.cons (.var 4) (.cons (.bin .sub (.var 0) (.var 4)) .nil))) .nil)) (.lst .nil)))) .nil)))) }
-- ERR ('_law_free', 274, 'call sorted')
def l__law_shows_0 : Ex := (.lc [10] (.nm 10) (.rng1 (.bi .len (.cons (.var 2) .nil))) .none (.mth .get (.var 3) (.cons (.var 10) (.cons .non .nil))))
def l__law_shows_1 : Ex := (.lc [15, 16] (.tp (.cons (.nm 15) (.cons (.nm 16) .nil))) (.val (.var 6)) .none (.bi .int (.cons (.var 16) .nil)))
def l__law_shows_2 : Ex := (.lc [10] (.nm 10) (.val (.var 3)) .none (.idx (.var 3) (.var 10)))
def b__law_shows_0 : Sxs := (.cons (.ifs (.and (.cmp .le (.idx (.var 3) (.var 10)) (.var 8)) (.cmp .lt (.var 8) (.bin .add (.idx (.var 3) (.var 10)) (.idx (.var 2) (.var 10))))) (.cons (.set 12 (.var 10)) .nil) .nil) .nil)
def b__law_shows_1 : Sxs := (.cons (.set 12 .non) (.cons (.for_ (.nm 10) (.val (.var 3)) b__law_shows_0) (.cons (.ifs (.cmp .ne (.idx (.var 0) (.var 8)) (.var 12)) (.cons (.ret (.bl false)) .nil) .nil) .nil)))
def l__law_shows_3 : Ex := (.lc [17] (.nm 17) (.val (.var 6)) (.some (.cmp .ge (.idx (.var 17) (.int 1)) (.var 9))) (.var 17))
def b__law_shows_2 : Sxs := (.cons (.set 13 l__law_shows_3) (.cons (.set 12 (.lst (.cons .non (.cons .non .nil)))) (.cons (.ifs (.cmp .ne (.var 13) (.lst .nil)) (.cons (.set 12 (.lst (.cons (.idx (.idx (.var 13) (.int 0)) (.int 0)) (.cons (.bin .sub (.bin .add (.idx (.idx (.var 13) (.neg (.int 1))) (.int 0)) (.idx (.idx (.var 13) (.neg (.int 1))) (.int 1))) (.var 9)) .nil)))) .nil) .nil) (.cons .nev .nil))))
def b__law_shows_3 : Sxs := (.cons (.ifs (.cmp .ne (.cmp .in_ (.var 10) (.var 0)) (.cmp .in_ (.var 10) (.var 3))) (.cons (.ret (.bl false)) .nil) .nil) .nil)
def d__law_shows : Def := { name := "_law_shows", N := ["kerb", "n", "lengths", "now", "many", "spots", "free", "sizes", "foot", "length", "car", "lines", "due", "some", "place", "begin", "size", "pair"], nps := 5, reg := true, body := (.cons (.set 5 (.bi .tuple (.cons l__law_shows_0 .nil))) (.cons (.set 6 (.call f__law_free (.cons (.var 1) (.cons (.var 2) (.cons (.var 3) .nil))))) (.cons .nev (.cons .nev (.cons (.set 7 l__law_shows_1) (.cons .nev (.cons .nev (.cons (.for_ (.nm 8) (.val (.bin .add (.lst (.cons (.int 0) (.cons (.bin .fdiv (.var 1) (.int 2)) (.cons (.bin .sub (.var 1) (.int 1)) .nil)))) l__law_shows_2)) b__law_shows_1) (.cons (.for_ (.nm 9) (.val (.lst (.cons (.int 1) (.cons (.int 4) (.cons (.var 1) .nil))))) b__law_shows_2) (.cons (.for_ (.nm 10) (.rng1 (.int 6)) b__law_shows_3) (.cons (.set 11 (.newc (.lst .nil))) (.cons .nev (.cons (.frz 11) (.cons .nev .nil)))))))))))))) }
-- ERR ('_law_shows', 282, 'Attribute')
-- ERR ('_law_shows', 284, 'Attribute')
-- ERR ('_law_shows', 287, 'Attribute')
-- ERR ('_law_shows', 289, 'call bool')
-- ERR ('_law_shows', 303, 'call')
-- ERR ('_law_shows', 309, 'call sorted')
-- ERR ('_law_shows', 311, 'call')
def d__law_error : Def := { name := "_law_error", N := ["call", "found", "e", "some", "labels", "every", "label", "truth"], nps := 1, reg := true, body := (.cons (.set 1 (.lst .nil)) (.cons .nev (.cons (.ret (.mth .join (.str " ") (.cons (.var 1) .nil))) .nil))) }
-- ERR ('_law_error', 404, 'handler')
def baseL : List Def := [d_is_number, d_is_tuple, d_is_word, d_is_deed_of, d_are_lengths, d_is_good_plan, d_need_plan, d_is_plan, d_is_deed, d__law_source, d__law_draw, d__law_of, d__law_rule, d__law_deed, d__law_plan, d_need_n, d_added, d_less, d_worth, d_sign_of, d_begun, d_asks, d_all_gaps, d_is_fit, d_better, d_choice, d_place_in, d_parked, d_spot_of, d_shifted, d_do, d_last_of, d_place_form, d_gap_forms, d_places_of, d_cars_of, d_done, d_places, d_gaps, d_row, d__law_n, d__law_value, d__law_less, d__law_spaces, d__law_chosen, d__law_step, d__law_run, d__law_forms, d__law_places, d__law_gaps, d__law_known, d_need_car, d_same_to, d_until, d_joined, d_rows_by, d_seen_last, d_by_last, d_need_both, d_done_rows, d_place_rows, d_gap_rows, d_row_rows, d__law_spots, d__law_told_at, d__law_are_rows, d_widest, d_all_parked, d_room, d_room_rows, d_would_fit, d_sure_from, d_parked_rows, d_least_with, d_same_places, d_like_told, d_parting_number, d_need_two, d_alike, d_parting, d__law_near, d_without, d_exchanged, d_idle_deeds, d_exchangeable, d_only_parks, d_need_parking, d_all_orders, d_ruled, d_ordered, d_best_told, d_rows_of_orders, d_best_rules, d_best_orders, d_worst_orders, d__law_parkers, d_is_fact, d_need_seen, d_fact_form, d_is_so, d_numbers_told, d_is_seen, d_lines_of, d_part_in, d_line_in, d_plan_in, d_need_index, d_good_plan, d_fewer, d_changed, d__law_as_value, d_plan_text, d_read_plan, d__wall, d_standing, d_free_gaps, d_best_gap, d_spot_for, d_with_place, d_pulled, d_dropped, d_done_now, d__law_led, d__law_free, d__law_shows, d__law_error]
def baseC : List D := [(.int 10), (.int (10 ^ 30)), (.tup [.str "back", .str "front", .str "tight", .str "wide"]), (.int 5), (.int (10 ^ 32)), (.int 40)]
/-- the shared defs and constants have their numbers -/
class Lw.Std (L : Lw) : Prop where
  f : ∀ i d, baseL[i]? = some d → L.tf i = some d
  c : ∀ i d, baseC[i]? = some d → L.cons i = d
def tfOf (own : List Def) (i : Nat) : Option Def := if i < 1000 then baseL[i]? else own[i - 1000]?
def consOf (i : Nat) : D := baseC[i]?.getD .non
theorem tfOf_base (own : List Def) {i : Nat} {d : Def} (h : baseL[i]? = some d) : tfOf own i = some d := by
  have := (List.getElem?_eq_some_iff.mp h).1
  have e : baseL.length < 1000 := by decide
  exact (if_pos (Nat.lt_trans this e)).trans h
theorem consOf_base {i : Nat} {d : D} (h : baseC[i]? = some d) : consOf i = d := by
  unfold consOf
  rw [h]
  rfl
section
variable {L : Lw} [s : L.Std]
theorem h_is_number : L.tf f_is_number = some d_is_number := s.f 0 _ rfl
theorem h_is_tuple : L.tf f_is_tuple = some d_is_tuple := s.f 1 _ rfl
theorem h_is_word : L.tf f_is_word = some d_is_word := s.f 2 _ rfl
theorem h_is_deed_of : L.tf f_is_deed_of = some d_is_deed_of := s.f 3 _ rfl
theorem h_are_lengths : L.tf f_are_lengths = some d_are_lengths := s.f 4 _ rfl
theorem h_is_good_plan : L.tf f_is_good_plan = some d_is_good_plan := s.f 5 _ rfl
theorem h_need_plan : L.tf f_need_plan = some d_need_plan := s.f 6 _ rfl
theorem h_is_plan : L.tf f_is_plan = some d_is_plan := s.f 7 _ rfl
theorem h_is_deed : L.tf f_is_deed = some d_is_deed := s.f 8 _ rfl
theorem h__law_source : L.tf f__law_source = some d__law_source := s.f 9 _ rfl
theorem h__law_draw : L.tf f__law_draw = some d__law_draw := s.f 10 _ rfl
theorem h__law_of : L.tf f__law_of = some d__law_of := s.f 11 _ rfl
theorem h__law_rule : L.tf f__law_rule = some d__law_rule := s.f 12 _ rfl
theorem h__law_deed : L.tf f__law_deed = some d__law_deed := s.f 13 _ rfl
theorem h__law_plan : L.tf f__law_plan = some d__law_plan := s.f 14 _ rfl
theorem h_need_n : L.tf f_need_n = some d_need_n := s.f 15 _ rfl
theorem h_added : L.tf f_added = some d_added := s.f 16 _ rfl
theorem h_less : L.tf f_less = some d_less := s.f 17 _ rfl
theorem h_worth : L.tf f_worth = some d_worth := s.f 18 _ rfl
theorem h_sign_of : L.tf f_sign_of = some d_sign_of := s.f 19 _ rfl
theorem h_begun : L.tf f_begun = some d_begun := s.f 20 _ rfl
theorem h_asks : L.tf f_asks = some d_asks := s.f 21 _ rfl
theorem h_all_gaps : L.tf f_all_gaps = some d_all_gaps := s.f 22 _ rfl
theorem h_is_fit : L.tf f_is_fit = some d_is_fit := s.f 23 _ rfl
theorem h_better : L.tf f_better = some d_better := s.f 24 _ rfl
theorem h_choice : L.tf f_choice = some d_choice := s.f 25 _ rfl
theorem h_place_in : L.tf f_place_in = some d_place_in := s.f 26 _ rfl
theorem h_parked : L.tf f_parked = some d_parked := s.f 27 _ rfl
theorem h_spot_of : L.tf f_spot_of = some d_spot_of := s.f 28 _ rfl
theorem h_shifted : L.tf f_shifted = some d_shifted := s.f 29 _ rfl
theorem h_do : L.tf f_do = some d_do := s.f 30 _ rfl
theorem h_last_of : L.tf f_last_of = some d_last_of := s.f 31 _ rfl
theorem h_place_form : L.tf f_place_form = some d_place_form := s.f 32 _ rfl
theorem h_gap_forms : L.tf f_gap_forms = some d_gap_forms := s.f 33 _ rfl
theorem h_places_of : L.tf f_places_of = some d_places_of := s.f 34 _ rfl
theorem h_cars_of : L.tf f_cars_of = some d_cars_of := s.f 35 _ rfl
theorem h_done : L.tf f_done = some d_done := s.f 36 _ rfl
theorem h_places : L.tf f_places = some d_places := s.f 37 _ rfl
theorem h_gaps : L.tf f_gaps = some d_gaps := s.f 38 _ rfl
theorem h_row : L.tf f_row = some d_row := s.f 39 _ rfl
theorem h__law_n : L.tf f__law_n = some d__law_n := s.f 40 _ rfl
theorem h__law_value : L.tf f__law_value = some d__law_value := s.f 41 _ rfl
theorem h__law_less : L.tf f__law_less = some d__law_less := s.f 42 _ rfl
theorem h__law_spaces : L.tf f__law_spaces = some d__law_spaces := s.f 43 _ rfl
theorem h__law_chosen : L.tf f__law_chosen = some d__law_chosen := s.f 44 _ rfl
theorem h__law_step : L.tf f__law_step = some d__law_step := s.f 45 _ rfl
theorem h__law_run : L.tf f__law_run = some d__law_run := s.f 46 _ rfl
theorem h__law_forms : L.tf f__law_forms = some d__law_forms := s.f 47 _ rfl
theorem h__law_places : L.tf f__law_places = some d__law_places := s.f 48 _ rfl
theorem h__law_gaps : L.tf f__law_gaps = some d__law_gaps := s.f 49 _ rfl
theorem h__law_known : L.tf f__law_known = some d__law_known := s.f 50 _ rfl
theorem h_need_car : L.tf f_need_car = some d_need_car := s.f 51 _ rfl
theorem h_same_to : L.tf f_same_to = some d_same_to := s.f 52 _ rfl
theorem h_until : L.tf f_until = some d_until := s.f 53 _ rfl
theorem h_joined : L.tf f_joined = some d_joined := s.f 54 _ rfl
theorem h_rows_by : L.tf f_rows_by = some d_rows_by := s.f 55 _ rfl
theorem h_seen_last : L.tf f_seen_last = some d_seen_last := s.f 56 _ rfl
theorem h_by_last : L.tf f_by_last = some d_by_last := s.f 57 _ rfl
theorem h_need_both : L.tf f_need_both = some d_need_both := s.f 58 _ rfl
theorem h_done_rows : L.tf f_done_rows = some d_done_rows := s.f 59 _ rfl
theorem h_place_rows : L.tf f_place_rows = some d_place_rows := s.f 60 _ rfl
theorem h_gap_rows : L.tf f_gap_rows = some d_gap_rows := s.f 61 _ rfl
theorem h_row_rows : L.tf f_row_rows = some d_row_rows := s.f 62 _ rfl
theorem h__law_spots : L.tf f__law_spots = some d__law_spots := s.f 63 _ rfl
theorem h__law_told_at : L.tf f__law_told_at = some d__law_told_at := s.f 64 _ rfl
theorem h__law_are_rows : L.tf f__law_are_rows = some d__law_are_rows := s.f 65 _ rfl
theorem h_widest : L.tf f_widest = some d_widest := s.f 66 _ rfl
theorem h_all_parked : L.tf f_all_parked = some d_all_parked := s.f 67 _ rfl
theorem h_room : L.tf f_room = some d_room := s.f 68 _ rfl
theorem h_room_rows : L.tf f_room_rows = some d_room_rows := s.f 69 _ rfl
theorem h_would_fit : L.tf f_would_fit = some d_would_fit := s.f 70 _ rfl
theorem h_sure_from : L.tf f_sure_from = some d_sure_from := s.f 71 _ rfl
theorem h_parked_rows : L.tf f_parked_rows = some d_parked_rows := s.f 72 _ rfl
theorem h_least_with : L.tf f_least_with = some d_least_with := s.f 73 _ rfl
theorem h_same_places : L.tf f_same_places = some d_same_places := s.f 74 _ rfl
theorem h_like_told : L.tf f_like_told = some d_like_told := s.f 75 _ rfl
theorem h_parting_number : L.tf f_parting_number = some d_parting_number := s.f 76 _ rfl
theorem h_need_two : L.tf f_need_two = some d_need_two := s.f 77 _ rfl
theorem h_alike : L.tf f_alike = some d_alike := s.f 78 _ rfl
theorem h_parting : L.tf f_parting = some d_parting := s.f 79 _ rfl
theorem h__law_near : L.tf f__law_near = some d__law_near := s.f 80 _ rfl
theorem h_without : L.tf f_without = some d_without := s.f 81 _ rfl
theorem h_exchanged : L.tf f_exchanged = some d_exchanged := s.f 82 _ rfl
theorem h_idle_deeds : L.tf f_idle_deeds = some d_idle_deeds := s.f 83 _ rfl
theorem h_exchangeable : L.tf f_exchangeable = some d_exchangeable := s.f 84 _ rfl
theorem h_only_parks : L.tf f_only_parks = some d_only_parks := s.f 85 _ rfl
theorem h_need_parking : L.tf f_need_parking = some d_need_parking := s.f 86 _ rfl
theorem h_all_orders : L.tf f_all_orders = some d_all_orders := s.f 87 _ rfl
theorem h_ruled : L.tf f_ruled = some d_ruled := s.f 88 _ rfl
theorem h_ordered : L.tf f_ordered = some d_ordered := s.f 89 _ rfl
theorem h_best_told : L.tf f_best_told = some d_best_told := s.f 90 _ rfl
theorem h_rows_of_orders : L.tf f_rows_of_orders = some d_rows_of_orders := s.f 91 _ rfl
theorem h_best_rules : L.tf f_best_rules = some d_best_rules := s.f 92 _ rfl
theorem h_best_orders : L.tf f_best_orders = some d_best_orders := s.f 93 _ rfl
theorem h_worst_orders : L.tf f_worst_orders = some d_worst_orders := s.f 94 _ rfl
theorem h__law_parkers : L.tf f__law_parkers = some d__law_parkers := s.f 95 _ rfl
theorem h_is_fact : L.tf f_is_fact = some d_is_fact := s.f 96 _ rfl
theorem h_need_seen : L.tf f_need_seen = some d_need_seen := s.f 97 _ rfl
theorem h_fact_form : L.tf f_fact_form = some d_fact_form := s.f 98 _ rfl
theorem h_is_so : L.tf f_is_so = some d_is_so := s.f 99 _ rfl
theorem h_numbers_told : L.tf f_numbers_told = some d_numbers_told := s.f 100 _ rfl
theorem h_is_seen : L.tf f_is_seen = some d_is_seen := s.f 101 _ rfl
theorem h_lines_of : L.tf f_lines_of = some d_lines_of := s.f 102 _ rfl
theorem h_part_in : L.tf f_part_in = some d_part_in := s.f 103 _ rfl
theorem h_line_in : L.tf f_line_in = some d_line_in := s.f 104 _ rfl
theorem h_plan_in : L.tf f_plan_in = some d_plan_in := s.f 105 _ rfl
theorem h_need_index : L.tf f_need_index = some d_need_index := s.f 106 _ rfl
theorem h_good_plan : L.tf f_good_plan = some d_good_plan := s.f 107 _ rfl
theorem h_fewer : L.tf f_fewer = some d_fewer := s.f 108 _ rfl
theorem h_changed : L.tf f_changed = some d_changed := s.f 109 _ rfl
theorem h__law_as_value : L.tf f__law_as_value = some d__law_as_value := s.f 110 _ rfl
theorem h_plan_text : L.tf f_plan_text = some d_plan_text := s.f 111 _ rfl
theorem h_read_plan : L.tf f_read_plan = some d_read_plan := s.f 112 _ rfl
theorem h__wall : L.tf f__wall = some d__wall := s.f 113 _ rfl
theorem h_standing : L.tf f_standing = some d_standing := s.f 114 _ rfl
theorem h_free_gaps : L.tf f_free_gaps = some d_free_gaps := s.f 115 _ rfl
theorem h_best_gap : L.tf f_best_gap = some d_best_gap := s.f 116 _ rfl
theorem h_spot_for : L.tf f_spot_for = some d_spot_for := s.f 117 _ rfl
theorem h_with_place : L.tf f_with_place = some d_with_place := s.f 118 _ rfl
theorem h_pulled : L.tf f_pulled = some d_pulled := s.f 119 _ rfl
theorem h_dropped : L.tf f_dropped = some d_dropped := s.f 120 _ rfl
theorem h_done_now : L.tf f_done_now = some d_done_now := s.f 121 _ rfl
theorem h__law_led : L.tf f__law_led = some d__law_led := s.f 122 _ rfl
theorem h__law_free : L.tf f__law_free = some d__law_free := s.f 123 _ rfl
theorem h__law_shows : L.tf f__law_shows = some d__law_shows := s.f 124 _ rfl
theorem h__law_error : L.tf f__law_error = some d__law_error := s.f 125 _ rfl
theorem k_LEAST : L.cons c_LEAST = (.int 10) := s.c 0 _ rfl
theorem k_MOST : L.cons c_MOST = (.int (10 ^ 30)) := s.c 1 _ rfl
theorem k_RULES : L.cons c_RULES = (.tup [.str "back", .str "front", .str "tight", .str "wide"]) := s.c 2 _ rfl
theorem k_CARS : L.cons c_CARS = (.int 5) := s.c 3 _ rfl
theorem k_FAR : L.cons c_FAR = (.int (10 ^ 32)) := s.c 4 _ rfl
theorem k_LIMIT : L.cons c_LIMIT = (.int 40) := s.c 5 _ rfl
end
end KI


set_option Elab.async false
set_option linter.all false
set_option maxRecDepth 100000
set_option autoImplicit false
set_option maxHeartbeats 1000000
/-! The defs that many laws share: what they compute. -/
namespace KI
open PySem

/-! ### good values: none, bools, ints, texts, tuples and lists of such -/
mutual
def gd : Nat → Nat → D → Bool
  | _, _, .non | _, _, .bl _ | _, _, .int _ => true
  | _, _, .str x => x.cps.all (· < 0x110000)
  | h + 1, w, .tup xs => decide (xs.length ≤ w) && gdL h w xs
  | h + 1, w, .lst xs => decide (xs.length ≤ w) && gdL h w xs
  | _, _, _ => false
def gdL : Nat → Nat → List D → Bool
  | _, _, [] => true
  | h, w, x :: xs => gd h w x && gdL h w xs
end
theorem gdL_mem {h w : Nat} : ∀ {xs : List D}, gdL h w xs = true → ∀ x ∈ xs, gd h w x = true
  | [], _, x, hx => nomatch hx
  | y :: ys, g, x, hx => by
    obtain ⟨g1, g2⟩ := ba (show (gd h w y && gdL h w ys) = true from g)
    rcases List.mem_cons.mp hx with e | hx
    · rw [e]; exact g1
    · exact gdL_mem g2 x hx
theorem gdL_of {h w : Nat} : ∀ {xs : List D}, (∀ x ∈ xs, gd h w x = true) → gdL h w xs = true
  | [], _ => rfl
  | y :: ys, g => by
    show (gd h w y && gdL h w ys) = true
    rw [g y List.mem_cons_self, gdL_of fun x hx => g x (List.mem_cons_of_mem _ hx)]
    rfl
mutual
theorem gd_shp : ∀ (h w : Nat) (d : D), gd h w d = true → shp h d = true
  | 0, _, .non, _ | 0, _, .bl _, _ | 0, _, .int _, _ | _ + 1, _, .non, _ | _ + 1, _, .bl _, _ | _ + 1, _, .int _, _ => rfl
  | 0, _, .str x, g | _ + 1, _, .str x, g => g
  | h + 1, w, .tup xs, g => gdL_shp h w xs (ba g).2
  | h + 1, w, .lst xs, g => gdL_shp h w xs (ba g).2
  | 0, _, .tup _, g | 0, _, .lst _, g => by cases g
  | 0, _, .dic _, g | _ + 1, _, .dic _, g | 0, _, .ro _, g | _ + 1, _, .ro _, g | 0, _, .cell _, g | _ + 1, _, .cell _, g => by cases g
theorem gdL_shp : ∀ (h w : Nat) (ds : List D), gdL h w ds = true → shpL h ds = true
  | _, _, [], _ => rfl
  | h, w, d :: ds, g => by
    obtain ⟨g1, g2⟩ := ba (show (gd h w d && gdL h w ds) = true from g)
    show (shp h d && shpL h ds) = true
    rw [gd_shp h w d g1, gdL_shp h w ds g2]
    rfl
end
mutual
theorem gd_pure : ∀ (h w : Nat) (d : D), gd h w d = true → d.pure = true
  | 0, _, .non, _ | 0, _, .bl _, _ | 0, _, .int _, _ | _ + 1, _, .non, _ | _ + 1, _, .bl _, _ | _ + 1, _, .int _, _ => rfl
  | 0, _, .str x, g | _ + 1, _, .str x, g => rfl
  | h + 1, w, .tup xs, g => gdL_pure h w xs (ba g).2
  | h + 1, w, .lst xs, g => gdL_pure h w xs (ba g).2
  | 0, _, .tup _, g | 0, _, .lst _, g => by cases g
  | 0, _, .dic _, g | _ + 1, _, .dic _, g | 0, _, .ro _, g | _ + 1, _, .ro _, g | 0, _, .cell _, g | _ + 1, _, .cell _, g => by cases g
theorem gdL_pure : ∀ (h w : Nat) (ds : List D), gdL h w ds = true → pureL ds = true
  | _, _, [], _ => rfl
  | h, w, d :: ds, g => by
    obtain ⟨g1, g2⟩ := ba (show (gd h w d && gdL h w ds) = true from g)
    show (d.pure && pureL ds) = true
    rw [gd_pure h w d g1, gdL_pure h w ds g2]
    rfl
end
theorem shp_le {d : D} : ∀ {h k : Nat}, h ≤ k → shp h d = true → shp k d = true
  | h, 0, le, g => by
    have : h = 0 := by omega
    subst this
    exact g
  | h, k + 1, le, g => by
    by_cases e : h = k + 1
    · subst e; exact g
    · exact shp_succ k d (shp_le (by omega) g)
theorem shpL_le {ds : List D} : ∀ {h k : Nat}, h ≤ k → shpL h ds = true → shpL k ds = true
  | h, 0, le, g => by
    have : h = 0 := by omega
    subst this
    exact g
  | h, k + 1, le, g => by
    by_cases e : h = k + 1
    · subst e; exact g
    · exact shpL_succ k ds (shpL_le (by omega) g)
mutual
theorem gd_le : ∀ {h k w v : Nat} (d : D), h ≤ k → w ≤ v → gd h w d = true → gd k v d = true
  | 0, 0, _, _, .non, _, _, _ | 0, _ + 1, _, _, .non, _, _, _ | _ + 1, 0, _, _, .non, _, _, _ | _ + 1, _ + 1, _, _, .non, _, _, _ => rfl
  | 0, 0, _, _, .bl _, _, _, _ | 0, _ + 1, _, _, .bl _, _, _, _ | _ + 1, 0, _, _, .bl _, _, _, _ | _ + 1, _ + 1, _, _, .bl _, _, _, _ => rfl
  | 0, 0, _, _, .int _, _, _, _ | 0, _ + 1, _, _, .int _, _, _, _ | _ + 1, 0, _, _, .int _, _, _, _ | _ + 1, _ + 1, _, _, .int _, _, _, _ => rfl
  | 0, 0, _, _, .str _, _, _, g | 0, _ + 1, _, _, .str _, _, _, g | _ + 1, 0, _, _, .str _, _, _, g | _ + 1, _ + 1, _, _, .str _, _, _, g => g
  | h + 1, k + 1, w, v, .tup xs, a, b, g => by
    obtain ⟨g1, g2⟩ := ba (show (decide (xs.length ≤ w) && gdL h w xs) = true from g)
    show (decide (xs.length ≤ v) && gdL k v xs) = true
    rw [gdL_le xs (by omega) b g2, decide_eq_true (Nat.le_trans (of_decide_eq_true g1) b)]
    rfl
  | h + 1, k + 1, w, v, .lst xs, a, b, g => by
    obtain ⟨g1, g2⟩ := ba (show (decide (xs.length ≤ w) && gdL h w xs) = true from g)
    show (decide (xs.length ≤ v) && gdL k v xs) = true
    rw [gdL_le xs (by omega) b g2, decide_eq_true (Nat.le_trans (of_decide_eq_true g1) b)]
    rfl
  | 0, _, _, _, .tup _, _, _, g | 0, _, _, _, .lst _, _, _, g => by cases g
  | _ + 1, 0, _, _, .tup _, a, _, _ | _ + 1, 0, _, _, .lst _, a, _, _ => by omega
  | 0, _, _, _, .dic _, _, _, g | _ + 1, _, _, _, .dic _, _, _, g | 0, _, _, _, .ro _, _, _, g | _ + 1, _, _, _, .ro _, _, _, g | 0, _, _, _, .cell _, _, _, g | _ + 1, _, _, _, .cell _, _, _, g => by cases g
theorem gdL_le : ∀ {h k w v : Nat} (ds : List D), h ≤ k → w ≤ v → gdL h w ds = true → gdL k v ds = true
  | _, _, _, _, [], _, _, _ => rfl
  | h, k, w, v, d :: ds, a, b, g => by
    obtain ⟨g1, g2⟩ := ba (show (gd h w d && gdL h w ds) = true from g)
    show (gd k v d && gdL k v ds) = true
    rw [gd_le d a b g1, gdL_le ds a b g2]
    rfl
end
/-! ### the program's readings -/
def isNum (v : D) (l m : Int) : Bool := match v with
  | .int i => decide (l ≤ i) && decide (i ≤ m)
  | _ => false
def isTup (v : D) (l m : Int) : Bool := match v with
  | .tup xs => decide (l ≤ xs.length) && decide ((xs.length : Int) ≤ m)
  | _ => false
def isWd (v : D) (ws : List D) : Bool := match v with
  | .str _ => ws.any fun y => eqD y v
  | _ => false
section
variable {L : Lw} [L.Std] {k f h w : Nat} {S : Sto}
theorem num_ok {v : D} {l m : Int} (g : gd h w v = true) : L.run (k + 1) (.glo f_is_number) [v, .int l, .int m] S = .ok (.bl (isNum v l m)) S := by
  have hv := gd_pure h w v g
  refine run_reg (S' := []) h_is_number rfl ⟨rfl, by decide⟩ (by simp [pureL, hv, D.pure]) ?_ rfl
  cases v with
  | int i => by_cases c : l ≤ i <;> simp [d_is_number, isNum, c]
  | dic _ => cases h <;> cases g
  | ro _ => cases h <;> cases g
  | cell _ => cases h <;> cases g
  | fn _ => cases h <;> cases g
  | clo _ _ _ => cases h <;> cases g
  | _ => simp [d_is_number, isNum]
theorem tup_ok {v : D} {l m : Int} (g : gd h w v = true) : L.run (k + 1) (.glo f_is_tuple) [v, .int l, .int m] S = .ok (.bl (isTup v l m)) S := by
  have hv := gd_pure h w v g
  refine run_reg (S' := []) h_is_tuple rfl ⟨rfl, by decide⟩ (by simp [pureL, hv, D.pure]) ?_ rfl
  cases v with
  | tup xs => by_cases c : l ≤ (xs.length : Int) <;> simp [d_is_tuple, isTup, c]
  | dic _ => cases h <;> cases g
  | ro _ => cases h <;> cases g
  | cell _ => cases h <;> cases g
  | fn _ => cases h <;> cases g
  | clo _ _ _ => cases h <;> cases g
  | _ => simp [d_is_tuple, isTup]
theorem word_ok {v : D} {ws : List D} (g : gd h w v = true) (hp : pureL ws = true) (hs : shpL 63 ws = true) : L.run (k + 1) (.glo f_is_word) [v, .tup ws] S = .ok (.bl (isWd v ws)) S := by
  have hv := gd_pure h w v g
  refine run_reg (S' := []) h_is_word rfl ⟨rfl, by decide⟩ (by simp [pureL, hv, D.pure, hp]) ?_ rfl
  cases v with
  | str x =>
    have : shp 64 (.str x) = true := by cases h <;> exact g
    simp [d_is_word, isWd, this, hs]
  | dic _ => cases h <;> cases g
  | ro _ => cases h <;> cases g
  | cell _ => cases h <;> cases g
  | fn _ => cases h <;> cases g
  | clo _ _ _ => cases h <;> cases g
  | _ => simp [d_is_word, isWd]
end
def wdPark : List D := [.str "park"]
def wdMove : List D := [.str "leave", .str "pull", .str "drop"]
def wdRule : List D := [.str "back", .str "front", .str "tight", .str "wide"]
def isDeed (cars : Int) (v : D) : Bool := match v with
  | .tup [a, b] => isNum b 0 (cars - 1) && isWd a wdMove
  | .tup [a, b, c] => isNum b 0 (cars - 1) && (isWd a wdPark && isWd c wdRule)
  | _ => false
def isLens (v : D) : Bool := match v with
  | .tup ls => isTup v 1 5 && ls.all fun x => isNum x 2 9
  | _ => false
def isPlan (v : D) : Bool := match v with
  | .tup [.tup ls, .tup ds] => isLens (.tup ls) && (isTup (.tup ds) 0 8 && ds.all fun d => isDeed ls.length d)
  | _ => false
section
variable {L : Lw} [L.Std] {k f h w : Nat} {S : Sto} {fn ft fw fd fl fg fp c : Nat}
theorem deed_ok {v : D} {cars : Int} (g : gd h w v = true) :
    L.run (k + 2) (.glo f_is_deed_of) [.int cars, v] S = .ok (.bl (isDeed cars v)) S := by
  have hv := gd_pure h w v g
  refine run_reg (S' := []) h_is_deed_of rfl ⟨rfl, by simp [d_is_deed_of]⟩ (by simp [pureL, hv, D.pure]) ?_ rfl
  have e1 : L.run (k + 1) (.glo f_is_tuple) [v, .int 2, .int 3] [] = .ok (.bl (isTup v 2 3)) [] := tup_ok g
  cases v with
  | tup xs =>
    cases h with
    | zero => cases g
    | succ h =>
    obtain ⟨g1, g2⟩ := ba (show (decide (xs.length ≤ w) && gdL h w xs) = true from g)
    match xs, g2, e1 with
    | [], g2, e1 => simp [d_is_deed_of, e1, isTup, isDeed]
    | [a], g2, e1 => simp [d_is_deed_of, e1, isTup, isDeed]
    | [a, b], g2, e1 =>
      have ga := gdL_mem g2 a (by simp)
      have gb := gdL_mem g2 b (by simp)
      have e2 : L.run (k + 1) (.glo f_is_number) [b, .int 0, .int (cars - 1)] [] = .ok (.bl (isNum b 0 (cars - 1))) [] := num_ok gb
      have e3 : L.run (k + 1) (.glo f_is_word) [a, .tup [.str "leave", .str "pull", .str "drop"]] [] = .ok (.bl (isWd a wdMove)) [] := word_ok ga rfl (by decide +kernel)
      cases q : isNum b 0 (cars - 1) <;> simp [d_is_deed_of, e1, isTup, isDeed, e2, q, e3]
    | [a, b, d], g2, e1 =>
      have ga := gdL_mem g2 a (by simp)
      have gb := gdL_mem g2 b (by simp)
      have gc := gdL_mem g2 d (by simp)
      have e2 : L.run (k + 1) (.glo f_is_number) [b, .int 0, .int (cars - 1)] [] = .ok (.bl (isNum b 0 (cars - 1))) [] := num_ok gb
      have e3 : L.run (k + 1) (.glo f_is_word) [a, .tup [.str "park"]] [] = .ok (.bl (isWd a wdPark)) [] := word_ok ga rfl (by decide +kernel)
      have e4 : L.run (k + 1) (.glo f_is_word) [d, .tup [.str "back", .str "front", .str "tight", .str "wide"]] [] = .ok (.bl (isWd d wdRule)) [] := word_ok gc rfl (by decide +kernel)
      cases q : isNum b 0 (cars - 1)
      · simp [d_is_deed_of, e1, isTup, isDeed, e2, q]
      · cases q2 : isWd a wdPark <;> simp [d_is_deed_of, e1, isTup, isDeed, e2, q, e3, q2, e4, k_RULES]
    | a :: b :: d :: e :: r, g2, e1 =>
      have : isTup (.tup (a :: b :: d :: e :: r)) 2 3 = false := by simp [isTup]; omega
      rw [this] at e1
      simp [d_is_deed_of, e1, isDeed]
  | dic _ => cases h <;> cases g
  | ro _ => cases h <;> cases g
  | cell _ => cases h <;> cases g
  | fn _ => cases h <;> cases g
  | clo _ _ _ => cases h <;> cases g
  | _ => simp [d_is_deed_of, e1, isTup, isDeed]
theorem lens_ok {v : D} (g : gd h w v = true) (hw : w < LN) :
    L.run (k + 2) (.glo f_are_lengths) [v] S = .ok (.bl (isLens v)) S := by
  have hv := gd_pure h w v g
  refine run_reg (S' := []) h_are_lengths rfl ⟨rfl, by simp [d_are_lengths]⟩ (by simp [pureL, hv]) ?_ rfl
  have e1 : L.run (k + 1) (.glo f_is_tuple) [v, .int 1, .int 5] [] = .ok (.bl (isTup v 1 5)) [] := tup_ok g
  cases v with
  | tup xs =>
    cases h with
    | zero => cases g
    | succ h =>
    obtain ⟨g1, g2⟩ := ba (show (decide (xs.length ≤ w) && gdL h w xs) = true from g)
    cases q : isTup (.tup xs) 1 5 with
    | false => rw [q] at e1; simp [d_are_lengths, l_are_lengths_0, e1, isLens, q]
    | true =>
      rw [q] at e1
      have e2 : ev L.cons (L.run (k + 1)) (.lc [1] (.nm 1) (.val (.var 0)) .none (.call f_is_number (.cons (.var 1) (.cons (.int 2) (.cons (.int 9) .nil))))) [some (.tup xs), none] [] = .ok (.lst (xs.filterMap fun x => some (.bl (isNum x 2 9)))) [] := by
        refine lc_map (fun x => some (.bl (isNum x 2 9))) (xs := xs) (by simp) (fun x hx => ?_) (Nat.lt_of_le_of_lt (of_decide_eq_true g1) hw)
        have e3 : L.run (k + 1) (.glo f_is_number) [x, .int 2, .int 9] [] = .ok (.bl (isNum x 2 9)) [] := num_ok (gdL_mem g2 x hx)
        simp [e3]
      have e4 : xs.filterMap (fun x => some (D.bl (isNum x 2 9))) = xs.map fun x => D.bl (isNum x 2 9) := by rw [← List.filterMap_eq_map]; rfl
      rw [e4] at e2
      simp [d_are_lengths, l_are_lengths_0, e1, isLens, q, e2, boolsD_map, List.all_map, Function.comp_def]
  | dic _ => cases h <;> cases g
  | ro _ => cases h <;> cases g
  | cell _ => cases h <;> cases g
  | fn _ => cases h <;> cases g
  | clo _ _ _ => cases h <;> cases g
  | _ => simp [d_are_lengths, l_are_lengths_0, e1, isTup, isLens]
theorem isTup2 {v : D} (h : isTup v 2 2 = true) : ∃ a b, v = .tup [a, b] := by
  cases v with
  | tup xs =>
    match xs, h with
    | [a, b], _ => exact ⟨a, b, rfl⟩
    | [], h => simp [isTup] at h
    | [a], h => simp [isTup] at h
    | a :: b :: c :: r, h => simp [isTup] at h; omega
  | _ => cases h
theorem good_ok {v : D} (g : gd h w v = true) (hw2 : w < LN) : L.run (k + 3) (.glo f_is_good_plan) [v] S = .ok (.bl (isPlan v)) S := by
  have hv := gd_pure h w v g
  refine run_reg (S' := []) h_is_good_plan rfl ⟨rfl, by simp [d_is_good_plan]⟩ (by simp [pureL, hv]) ?_ rfl
  have e1 : L.run (k + 2) (.glo f_is_tuple) [v, .int 2, .int 2] [] = .ok (.bl (isTup v 2 2)) [] := tup_ok g
  cases q : isTup v 2 2 with
  | false =>
    rw [q] at e1
    have : isPlan v = false := by
      unfold isPlan
      split
      · simp [isTup] at q
      · rfl
    simp [d_is_good_plan, l_is_good_plan_0, e1, this]
  | true =>
    rw [q] at e1
    obtain ⟨a, b, rfl⟩ := isTup2 q
    cases h with
    | zero => cases g
    | succ h =>
    obtain ⟨g1, g2⟩ := ba (show (decide (2 ≤ w) && gdL h w [a, b]) = true from g)
    have ga := gdL_mem g2 a (by simp)
    have gb := gdL_mem g2 b (by simp)
    have e2 : L.run (k + 2) (.glo f_are_lengths) [a] [] = .ok (.bl (isLens a)) [] := lens_ok ga hw2
    have e3 : L.run (k + 2) (.glo f_is_tuple) [b, .int 0, .int 8] [] = .ok (.bl (isTup b 0 8)) [] := tup_ok gb
    cases q2 : isLens a with
    | false =>
      have : isPlan (.tup [a, b]) = false := by
        unfold isPlan
        split
        · rename_i heq
          cases heq
          rw [q2]; rfl
        · rfl
      simp [d_is_good_plan, l_is_good_plan_0, e1, e2, q2, this]
    | true =>
      obtain ⟨ls, rfl⟩ : ∃ ls, a = .tup ls := by cases a <;> first | exact ⟨_, rfl⟩ | cases q2
      cases q3 : isTup b 0 8 with
      | false =>
        have : isPlan (.tup [.tup ls, b]) = false := by
          unfold isPlan
          split
          · rename_i heq
            cases heq
            rw [q3]; simp
          · rfl
        simp [d_is_good_plan, l_is_good_plan_0, e1, e2, q2, e3, q3, this]
      | true =>
        obtain ⟨ds, rfl⟩ : ∃ ds, b = .tup ds := by cases b <;> first | exact ⟨_, rfl⟩ | cases q3
        cases h with
        | zero => cases ga
        | succ h =>
        obtain ⟨g3, g4⟩ := ba (show (decide (ds.length ≤ w) && gdL h w ds) = true from gb)
        have e5 : ev L.cons (L.run (k + 2)) (.lc [1] (.nm 1) (.val (.idx (.var 0) (.int 1))) .none (.call f_is_deed_of (.cons (.bi .len (.cons (.idx (.var 0) (.int 0)) .nil)) (.cons (.var 1) .nil)))) [some (.tup [.tup ls, .tup ds]), none] [] = .ok (.lst (ds.filterMap fun x => some (.bl (isDeed ls.length x)))) [] := by
          refine lc_map (fun x => some (.bl (isDeed ls.length x))) (xs := ds) (by simp) (fun x hx => ?_) (Nat.lt_of_le_of_lt (of_decide_eq_true g3) hw2)
          have e6 : L.run (k + 2) (.glo f_is_deed_of) [.int ls.length, x] [] = .ok (.bl (isDeed ls.length x)) [] := deed_ok (gdL_mem g4 x hx)
          simp [e6]
        have e4 : ds.filterMap (fun x => some (D.bl (isDeed ls.length x))) = ds.map fun x => D.bl (isDeed ls.length x) := by rw [← List.filterMap_eq_map]; rfl
        rw [e4] at e5
        simp [d_is_good_plan, l_is_good_plan_0, e1, e2, q2, e3, q3, e5, boolsD_map, List.all_map, Function.comp_def, isPlan]
theorem need_ok {v : D} (g : gd h w v = true) (hw2 : w < LN) (hp : isPlan v = true) : L.run (k + 4) (.glo f_need_plan) [v] S = .ok .non S := by
  have hv := gd_pure h w v g
  have e1 : L.run (k + 3) (.glo f_is_good_plan) [v] [] = .ok (.bl (isPlan v)) [] := good_ok g hw2
  refine run_regN (ρ := [some v]) (S' := []) h_need_plan rfl ⟨rfl, by simp [d_need_plan]⟩ (by simp [pureL, hv]) ?_
  simp [d_need_plan, e1, hp]
theorem plan_ok {v : D} (g : gd h w v = true) (hw2 : w < LN) : L.run (k + 4) (.glo f_is_plan) [v] S = .ok (.bl (isPlan v)) S := by
  have hv := gd_pure h w v g
  have e1 : L.run (k + 3) (.glo f_is_good_plan) [v] [] = .ok (.bl (isPlan v)) [] := good_ok g hw2
  refine run_reg (S' := []) h_is_plan rfl ⟨rfl, by simp [d_is_plan]⟩ (by simp [pureL, hv]) ?_ rfl
  simp [d_is_plan, e1]
/-- the cars of a plan -/
def carsOf (v : D) : Int := match v with
  | .tup (.tup ls :: _) => ls.length
  | _ => 0
theorem isDeed_ok {p v : D} (gp : gd h w p = true) (g : gd h w v = true) (hw2 : w < LN) (hpl : isPlan p = true) :
    L.run (k + 5) (.glo f_is_deed) [p, v] S = .ok (.bl (isDeed (carsOf p) v)) S := by
  have hv := gd_pure h w v g
  have hv2 := gd_pure h w p gp
  have e1 : L.run (k + 4) (.glo f_need_plan) [p] [] = .ok .non [] := need_ok gp hw2 hpl
  obtain ⟨ls, ds, rfl⟩ : ∃ ls ds, p = .tup [.tup ls, .tup ds] := by
    unfold isPlan at hpl
    split at hpl
    · exact ⟨_, _, rfl⟩
    · cases hpl
  have e2 : L.run (k + 4) (.glo f_is_deed_of) [.int ls.length, v] [] = .ok (.bl (isDeed ls.length v)) [] := deed_ok g
  refine run_reg (S' := []) h_is_deed rfl ⟨rfl, by simp [d_is_deed]⟩ (by simp [pureL, hv, hv2]) ?_ rfl
  simp [d_is_deed, e1, e2, carsOf]
end
end KI


set_option Elab.async false
set_option linter.all false
set_option maxRecDepth 100000
set_option autoImplicit false
set_option maxHeartbeats 1000000
/-! What a law draws. -/
namespace KI
open PySem


/-! ### what is drawn -/
def Src (S : Sto) (n : Nat) : Prop := ∃ a b : Int, S[n]? = some (.lst [.int a, .int b]) ∧ 0 ≤ a ∧ 0 ≤ b ∧ b < 2147483648
theorem Src.lt {S : Sto} {n : Nat} (h : Src S n) : n < S.length := by
  obtain ⟨a, b, h, _⟩ := h
  exact (List.getElem?_eq_some_iff.mp h).1
section
variable {L : Lw} [L.Std] {k f fd fo fr : Nat} {S : Sto} {n : Nat}
theorem mulOk_r {i j : Int} (h1 : -(2 ^ 64) < j) (h2 : j < 2 ^ 64) : mulOk i j = true := by
  unfold mulOk
  rw [Bool.or_eq_true]
  exact .inr (decide_eq_true ⟨h1, h2⟩)
theorem mulOk_l {i j : Int} (h1 : -(2 ^ 64) < i) (h2 : i < 2 ^ 64) : mulOk i j = true := by
  unfold mulOk
  rw [Bool.or_eq_true]
  exact .inl (decide_eq_true ⟨h1, h2⟩)
theorem draw_ok (h : Src S n) {m : Int} (m0 : 0 < m) (m1 : m < 1073741824) :
    ∃ r S', L.run (k + 1) (.glo f__law_draw) [.cell n, .int m] S = .ok (.int r) S' ∧ 0 ≤ r ∧ r < m ∧ Src S' n ∧ S'.length = S.length := by
  have hn := h.lt
  obtain ⟨a, b, hS, a0, b0, b1⟩ := h
  have mne : m ≠ 0 := by omega
  have mna : m.natAbs < 1073741824 := by omega
  by_cases ha : 0 < a
  · refine ⟨a.fmod m, S.set n (.lst [.int (a.fdiv m), .int b]), ?_, Int.fmod_nonneg a0 (by omega), Int.fmod_lt_of_pos _ m0, ⟨a.fdiv m, b, by simp [hn], Int.fdiv_nonneg a0 (by omega), b0, b1⟩, by simp⟩
    refine run_non h__law_draw rfl ⟨rfl, by simp [d__law_draw]⟩ ?_
    simp [d__law_draw, hS, ha, mne, mna]
  · have b2 : 0 ≤ (b * 48271).fmod 2147483647 := Int.fmod_nonneg (by omega) (by omega)
    have b3 : (b * 48271).fmod 2147483647 < 2147483647 := Int.fmod_lt_of_pos _ (by omega)
    obtain ⟨c, hc⟩ : ∃ c, c = (b * 48271).fmod 2147483647 := ⟨_, rfl⟩
    rw [← hc] at b2 b3
    have e1 : mulOk b 48271 = true := mulOk_r (by omega) (by omega)
    have e2 : mulOk c c = true := mulOk_r (by omega) (by omega)
    have e3 : 0 ≤ (c * c).fmod 2147483629 := Int.fmod_nonneg (Int.mul_nonneg b2 b2) (by omega)
    refine ⟨(((c * c).fmod 2147483629).fdiv 64).fmod m, S.set n (.lst [.int a, .int c]), ?_, Int.fmod_nonneg (Int.fdiv_nonneg e3 (by omega)) (by omega), Int.fmod_lt_of_pos _ m0, ⟨a, c, by simp [hn], a0, b2, by omega⟩, by simp⟩
    refine run_non h__law_draw rfl ⟨rfl, by simp [d__law_draw]⟩ ?_
    have hset : ∀ x : Ob, (S.set n x)[n]? = some x := fun x => List.getElem?_set_self hn
    simp [d__law_draw, hS, ha, e1, ← hc, hset, e2, mne]
theorem of_ok (h : Src S n) {xs : List D} (x0 : xs ≠ []) (x1 : xs.length < 1073741824) :
    ∃ x S', L.run (k + 2) (.glo f__law_of) [.cell n, .lst xs] S = .ok x S' ∧ x ∈ xs ∧ Src S' n ∧ S'.length = S.length := by
  have l0 : 0 < xs.length := List.length_pos_iff.mpr x0
  obtain ⟨r, S', e, r0, r1, s', ln⟩ := draw_ok (L := L) (k := k) h (m := xs.length) (by omega) (by omega)
  obtain ⟨j, rfl⟩ := Int.eq_ofNat_of_zero_le r0
  have hj : j < xs.length := by omega
  refine ⟨(xs[j]'hj), S', ?_, List.getElem_mem hj, s', ln⟩
  refine run_non h__law_of rfl ⟨rfl, by simp [d__law_of]⟩ ?_
  simp [d__law_of, e, atI_nat, hj]
theorem source_ok {ns : List Int} {j : Nat} : ∃ S', L.run (k + 1) (.glo f__law_source) [.ro (ns.map .int), .int j] S = .ok (.cell S.length) S' ∧ Src S' S.length ∧ ∃ o, S' = S ++ [o] := by
  obtain ⟨c, hc⟩ : ∃ c : Int, c = if (j : Int) < ns.length then (if (ns[j]?.getD 0) < 0 then -(ns[j]?.getD 0) else ns[j]?.getD 0) else 0 := ⟨_, rfl⟩
  have c0 : 0 ≤ c := by
    rw [hc]
    split
    · split <;> omega
    · omega
  have e1 : mulOk c 7919 = true := mulOk_r (by omega) (by omega)
  have e2 : mulOk 104729 j = true := mulOk_l (by omega) (by omega)
  have body : ∀ S : Sto, ∃ S', exss L.cons (L.run k) L.fuel d__law_source.body [some (.ro (ns.map .int)), some (.int j), none] S = .rt (.cell S.length) S' ∧ Src S' S.length ∧ ∃ o, S' = S ++ [o] := by
    intro S
    by_cases q : c < 1000000000000000000
    · refine ⟨S ++ [.lst [.int 0, .int (1 + (c * 7919 + 104729 * j).fmod 2147483646)]], ?_, ⟨0, 1 + (c * 7919 + 104729 * j).fmod 2147483646, by simp, by omega, ?_, ?_⟩, _, rfl⟩
      · by_cases hj : j < ns.length
        · have hc' : c = if ns[j] < 0 then -ns[j] else ns[j] := by rw [hc, if_pos (by omega), List.getElem?_eq_getElem hj]; rfl
          simp [d__law_source, atI_nat, hj, ← hc', q, e1, e2]
        · have hc' : c = 0 := by rw [hc, if_neg (by omega)]
          subst hc'
          simp [d__law_source, hj, e1, e2]
      · have := Int.fmod_nonneg (a := c * 7919 + 104729 * j) (b := 2147483646) (by omega) (by omega)
        omega
      · have := Int.fmod_lt_of_pos (c * 7919 + 104729 * j) (b := 2147483646) (by omega)
        omega
    · refine ⟨S ++ [.lst [.int c, .int (1 + (c + j).fmod 2147483646)]], ?_, ⟨c, 1 + (c + j).fmod 2147483646, by simp, c0, ?_, ?_⟩, _, rfl⟩
      · by_cases hj : j < ns.length
        · have hc' : c = if ns[j] < 0 then -ns[j] else ns[j] := by rw [hc, if_pos (by omega), List.getElem?_eq_getElem hj]; rfl
          simp [d__law_source, atI_nat, hj, ← hc', q]
        · have hc' : c = 0 := by rw [hc, if_neg (by omega)]
          omega
      · have := Int.fmod_nonneg (a := c + j) (b := 2147483646) (by omega) (by omega)
        omega
      · have := Int.fmod_lt_of_pos (c + j) (b := 2147483646) (by omega)
        omega
  obtain ⟨S', e, h1, h2⟩ := body S
  exact ⟨S', run_non h__law_source rfl ⟨rfl, by simp [d__law_source]⟩ e, h1, h2⟩
end
end KI


set_option Elab.async false
set_option linter.all false
set_option maxRecDepth 100000
set_option autoImplicit false
set_option maxHeartbeats 1000000
/-! A drawn deed, a drawn plan. -/
namespace KI
open PySem


/-! ### a drawn deed, a drawn plan -/
theorem sh_park : shp 64 (.str "park") = true := by decide +kernel
theorem sh_leave : shp 64 (.str "leave") = true := by decide +kernel
theorem sh_pull : shp 64 (.str "pull") = true := by decide +kernel
theorem sh_drop : shp 64 (.str "drop") = true := by decide +kernel
theorem eq_pp : eqD (.str "park") (.str "park") = true := by decide +kernel
theorem eq_lp : eqD (.str "leave") (.str "park") = false := by decide +kernel
theorem eq_up : eqD (.str "pull") (.str "park") = false := by decide +kernel
theorem eq_dp : eqD (.str "drop") (.str "park") = false := by decide +kernel
def Rule (x : D) : Prop := x = .str "front" ∨ x = .str "back" ∨ x = .str "tight" ∨ x = .str "wide"
theorem Rule.wd {x : D} (h : Rule x) : isWd x wdRule = true := by
  rcases h with h | h | h | h <;> subst h <;> decide +kernel
theorem Rule.gd {x : D} (h : Rule x) (k w : Nat) : gd k w x = true := by
  have : ∀ s : Str, s.cps.all (· < 0x110000) = true → KI.gd k w (.str s) = true := fun s q => by cases k <;> exact q
  rcases h with h | h | h | h <;> subst h <;> exact this _ (by decide +kernel)
theorem gd_str0 {x : Str} (h : x.cps.all (· < 0x110000) = true) (k w : Nat) : gd k w (.str x) = true := by cases k <;> exact h
theorem gd_int (i : Int) (k w : Nat) : gd k w (.int i) = true := by cases k <;> rfl
section
variable {L : Lw} [L.Std] {k f fd fo fr fe : Nat} {S : Sto} {n : Nat}
theorem rule_ok (h : Src S n) :
    ∃ x S', L.run (k + 3) (.glo f__law_rule) [.cell n] S = .ok x S' ∧ Rule x ∧ Src S' n ∧ S'.length = S.length := by
  obtain ⟨x, S', e, hx, s', ln⟩ := of_ok (L := L) (k := k) h (xs := [.str "front", .str "back", .str "tight", .str "wide"]) (by simp) (by simp)
  refine ⟨x, S', ?_, by simpa [Rule] using hx, s', ln⟩
  refine run_non h__law_rule rfl ⟨rfl, by simp [d__law_rule]⟩ ?_
  simp [d__law_rule, e]
/-- a drawn deed -/
structure DrawnDeed (cars : Int) (d : D) : Prop where
  ok : isDeed cars d = true
  form : (∃ x r, d = .tup [.str "park", .int r, x] ∧ Rule x ∧ 0 ≤ r ∧ r < cars) ∨ ∃ w r, d = .tup [.str w, .int r] ∧ (w = "leave" ∨ w = "pull" ∨ w = "drop") ∧ 0 ≤ r ∧ r < cars
theorem drawnPark {cars r : Int} {x : D} (hx : Rule x) (r0 : 0 ≤ r) (r1 : r < cars) : DrawnDeed cars (.tup [.str "park", .int r, x]) := by
  refine ⟨?_, .inl ⟨x, r, rfl, hx, r0, r1⟩⟩
  have e : isWd (.str "park") wdPark = true := by decide +kernel
  simp [isDeed, isNum, r0, e, hx.wd]
  omega
theorem drawnMove {cars r : Int} {w : Str} (hw : w = "leave" ∨ w = "pull" ∨ w = "drop") (r0 : 0 ≤ r) (r1 : r < cars) : DrawnDeed cars (.tup [.str w, .int r]) := by
  refine ⟨?_, .inr ⟨w, r, rfl, hw, r0, r1⟩⟩
  have e : isWd (.str w) wdMove = true := by rcases hw with h | h | h <;> subst h <;> decide +kernel
  simp [isDeed, isNum, r0, e]
  omega
theorem DrawnDeed.gd {cars : Int} {d : D} (h : DrawnDeed cars d) : gd 1 3 d = true := by
  rcases h.form with ⟨x, r, rfl, hx, _⟩ | ⟨w, r, rfl, hw, _⟩
  · show (decide (3 ≤ 3) && (_ && (_ && (_ && true)))) = true
    rw [gd_str0 (by decide +kernel) 0 3, hx.gd]
    rfl
  · show (decide (2 ≤ 3) && (_ && (_ && true))) = true
    have : KI.gd 0 3 (.str w) = true := by rcases hw with h | h | h <;> subst h <;> decide +kernel
    rw [this]
    rfl
theorem deedg_ok (h : Src S n) {cars : Int} (c0 : 0 < cars) (c1 : cars < 1073741824) :
    ∃ d S', L.run (k + 4) (.glo f__law_deed) [.cell n, .int cars] S = .ok d S' ∧ DrawnDeed cars d ∧ Src S' n ∧ S'.length = S.length := by
  obtain ⟨x, S1, e1, hx, s1, l1⟩ := of_ok (L := L) (k := k + 1) h (xs := [.str "park", .str "park", .str "park", .str "leave", .str "leave", .str "pull", .str "drop"]) (by simp) (by simp)
  obtain ⟨r, S2, e2, r0, r1, s2, l2⟩ := draw_ok (L := L) (k := k + 2) s1 c0 c1
  obtain ⟨y, S3, e3, hy, s3, l3⟩ := rule_ok (L := L) (k := k) s2
  have hx : x = .str "park" ∨ x = .str "leave" ∨ x = .str "pull" ∨ x = .str "drop" := by
    simp only [List.mem_cons, List.not_mem_nil, or_false] at hx
    rcases hx with h | h | h | h | h | h | h <;> simp [h]
  rcases hx with h | h | h | h <;> subst h
  · refine ⟨.tup [.str "park", .int r, y], S3, ?_, drawnPark hy r0 r1, s3, by omega⟩
    refine run_non h__law_deed rfl ⟨rfl, by simp [d__law_deed]⟩ ?_
    simp [d__law_deed, e1, sh_park, eq_pp, e2, e3]
  · refine ⟨.tup [.str "leave", .int r], S2, ?_, drawnMove (.inl rfl) r0 r1, s2, by omega⟩
    refine run_non h__law_deed rfl ⟨rfl, by simp [d__law_deed]⟩ ?_
    simp [d__law_deed, e1, sh_park, sh_leave, eq_lp, e2]
  · refine ⟨.tup [.str "pull", .int r], S2, ?_, drawnMove (.inr (.inl rfl)) r0 r1, s2, by omega⟩
    refine run_non h__law_deed rfl ⟨rfl, by simp [d__law_deed]⟩ ?_
    simp [d__law_deed, e1, sh_park, sh_pull, eq_up, e2]
  · refine ⟨.tup [.str "drop", .int r], S2, ?_, drawnMove (.inr (.inr rfl)) r0 r1, s2, by omega⟩
    refine run_non h__law_deed rfl ⟨rfl, by simp [d__law_deed]⟩ ?_
    simp [d__law_deed, e1, sh_park, sh_drop, eq_dp, e2]
/-- a drawn plan -/
structure DrawnPlan (most : Int) (p : D) : Prop where
  form : ∃ (ls : List Int) (ds : List D), p = .tup [.tup (ls.map .int), .tup ds] ∧ 1 ≤ ls.length ∧ ls.length ≤ 5 ∧ (∀ x ∈ ls, 2 ≤ x ∧ x ≤ 9) ∧ (ds.length : Int) ≤ most ∧ ∀ d ∈ ds, DrawnDeed ls.length d
theorem rngL_int {n : Nat} : ∀ {lo : Int} {i : Nat} {x : D}, (rngL lo n)[i]? = some x → x = .int (lo + i) ∧ i < n := by
  intro lo i x h
  have hl : i < n := by
    have := (List.getElem?_eq_some_iff.mp h).1
    rwa [rngL_length] at this
  rw [rngL_get n lo i hl] at h
  exact ⟨(Option.some.inj h).symm, hl⟩
theorem plang_ok (h : Src S n) {most : Int} (m0 : 0 ≤ most) (m1 : most < 1000000) :
    ∃ p S', L.run (k + 5) (.glo f__law_plan) [.cell n, .int most] S = .ok p S' ∧ DrawnPlan most p ∧ Src S' n ∧ S'.length = S.length := by
  obtain ⟨r, S1, e1, r0, r1, s1, l1⟩ := draw_ok (L := L) (k := k + 3) h (m := 5) (by omega) (by omega)
  -- the lengths
  obtain ⟨ρ2, S2, e2, t2, ls, rfl, p2, p3, p4, p5⟩ := evFor_ix (tg := .nm 2) (body := exss L.cons (L.run (k + 4)) L.fuel (.cons (.set 3 (.bin .add (.var 3) (.tup (.cons (.bin .add (.int 2) (.call f__law_draw (.cons (.var 0) (.cons (.int 8) .nil)))) .nil)))) .nil)) (xs := rngL 0 (1 + r).toNat)
    (fun i ρ S' => ∃ (t : Option D) (ls : List Int), ρ = [some (.cell n), some (.int most), t, some (.tup (ls.map D.int)), some (.tup []), none] ∧ ls.length = i ∧ (∀ x ∈ ls, (2 : Int) ≤ x ∧ x ≤ 9) ∧ Src S' n ∧ S'.length = S.length)
    (fun i x hx ρ S' ⟨t, ls, q1, q2, q3, q4, q5⟩ => by
      obtain ⟨rfl, hi⟩ := rngL_int hx
      subst q1
      obtain ⟨y, S2, e, y0, y1, s2, l2⟩ := draw_ok (L := L) (k := k + 3) q4 (m := 8) (by omega) (by omega)
      refine ⟨_, rfl, [some (.cell n), some (.int most), some (.int (0 + i)), some (.tup ((ls ++ [2 + y]).map D.int)), some (.tup []), none], S2, ?_, _, ls ++ [2 + y], rfl, by simp [q2], fun x hx => ?_, s2, by omega⟩
      · have : ls.length + 1 ≤ 16777216 := by omega
        simp [e, this]
      · rcases List.mem_append.mp hx with hx | hx
        · exact q3 x hx
        · simp only [List.mem_singleton] at hx
          omega) (ρ := [some (.cell n), some (.int most), none, some (.tup []), some (.tup []), none]) (S := S1) ⟨none, [], rfl, rfl, (fun _ h => nomatch h), s1, l1⟩
  rw [rngL_length] at p2
  obtain ⟨m, S3, e3, m2, m3, s3, l3⟩ := draw_ok (L := L) (k := k + 3) p4 (m := most + 1) (by omega) (by omega)
  -- the deeds
  obtain ⟨ρ4, S4, e4, t4, d4, ds, rfl, p6, p7, p8, p9⟩ := evFor_ix (tg := .nm 2) (body := exss L.cons (L.run (k + 4)) L.fuel (.cons (.set 5 (.call f__law_deed (.cons (.var 0) (.cons (.bi .len (.cons (.var 3) .nil)) .nil)))) (.cons (.ifs (.and (.cmp .lt (.var 2) (.bi .len (.cons (.var 3) .nil))) (.cmp .gt (.call f__law_draw (.cons (.var 0) (.cons (.int 4) .nil))) (.int 0))) (.cons (.set 5 (.tup (.cons (.str "park") (.cons (.var 2) (.cons (.call f__law_rule (.cons (.var 0) .nil)) .nil))))) .nil) .nil) (.cons (.set 4 (.bin .add (.var 4) (.tup (.cons (.var 5) .nil)))) .nil)))) (xs := rngL 0 m.toNat)
    (fun i ρ S' => ∃ (t d : Option D) (ds : List D), ρ = [some (.cell n), some (.int most), t, some (.tup (ls.map D.int)), some (.tup ds), d] ∧ ds.length = i ∧ (∀ x ∈ ds, DrawnDeed ls.length x) ∧ Src S' n ∧ S'.length = S.length)
    (fun i x hx ρ S' ⟨t, d, ds, q1, q2, q3, q4, q5⟩ => by
      obtain ⟨rfl, hi⟩ := rngL_int hx
      subst q1
      obtain ⟨y, S2, e, y1, s2, l2⟩ := deedg_ok (L := L) (k := k) q4 (cars := ls.length) (by omega) (by omega)
      have hds : ds.length + 1 ≤ 16777216 := by omega
      have fin : ∀ {z : D} {S5 : Sto}, DrawnDeed ls.length z → ∀ x ∈ ds ++ [z], DrawnDeed ls.length x := fun hz x hx => by
        rcases List.mem_append.mp hx with hx | hx
        · exact q3 x hx
        · simp only [List.mem_singleton] at hx
          rw [hx]; exact hz
      by_cases hl : (i : Int) < ls.length
      · obtain ⟨z, S5, e5, z0, z1, s5, l5⟩ := draw_ok (L := L) (k := k + 3) s2 (m := 4) (by omega) (by omega)
        by_cases hz : 0 < z
        · obtain ⟨u, S6, e6, hu, s6, l6⟩ := rule_ok (L := L) (k := k + 1) s5
          refine ⟨_, rfl, [some (.cell n), some (.int most), some (.int (0 + i)), some (.tup (ls.map D.int)), some (.tup (ds ++ [.tup [.str "park", .int i, u]])), some (.tup [.str "park", .int i, u])], S6, ?_, _, _, ds ++ [.tup [.str "park", .int i, u]], rfl, by simp [q2], fin (S5 := S6) (drawnPark hu (by omega) hl), s6, by omega⟩
          have hl2 : i < ls.length := by omega
          simp [e, hl2, e5, hz, e6, hds]
        · refine ⟨_, rfl, [some (.cell n), some (.int most), some (.int (0 + i)), some (.tup (ls.map D.int)), some (.tup (ds ++ [y])), some y], S5, ?_, _, _, ds ++ [y], rfl, by simp [q2], fin (S5 := S5) y1, s5, by omega⟩
          have hl2 : i < ls.length := by omega
          simp [e, hl2, e5, hz, hds]
      · refine ⟨_, rfl, [some (.cell n), some (.int most), some (.int (0 + i)), some (.tup (ls.map D.int)), some (.tup (ds ++ [y])), some y], S2, ?_, _, _, ds ++ [y], rfl, by simp [q2], fin (S5 := S2) y1, s2, by omega⟩
        have hl2 : ¬ i < ls.length := by omega
        simp [e, hl2, hds]) (ρ := [some (.cell n), some (.int most), t2, some (.tup (ls.map D.int)), some (.tup []), none]) (S := S3) ⟨t2, none, [], rfl, rfl, (fun _ h => nomatch h), s3, by omega⟩
  rw [rngL_length] at p6
  refine ⟨.tup [.tup (ls.map .int), .tup ds], S4, ?_, ⟨ls, ds, rfl, by omega, by omega, p3, by omega, p7⟩, p8, p9⟩
  have g1 : rngOk (1 + r) = true := rngOk_of (by omega) (by omega)
  have g2 : rngOk m = true := rngOk_of (by omega) (by omega)
  refine run_non h__law_plan rfl ⟨rfl, by simp [d__law_plan]⟩ ?_
  simp [d__law_plan, b__law_plan_0, b__law_plan_1, e1, g1, e2, e3, g2, e4]
theorem DrawnPlan.plan {most : Int} {p : D} (h : DrawnPlan most p) (hm : most ≤ 8) : isPlan p = true := by
  obtain ⟨ls, ds, rfl, l0, l1, hl, hd, hds⟩ := h.form
  have h1 : ∀ x ∈ ls, isNum (.int x) 2 9 = true := fun x hx => by
    obtain ⟨a, b⟩ := hl x hx
    simp [isNum, a, b]
  simp only [isPlan, isLens, isTup, List.length_map, Bool.and_eq_true, decide_eq_true_eq, List.all_eq_true, List.mem_map]
  refine ⟨⟨⟨Int.ofNat_le.mpr l0, Int.ofNat_le.mpr l1⟩, ?_⟩, ⟨Int.natCast_nonneg _, Int.le_trans hd hm⟩, fun d hd => (hds d hd).ok⟩
  rintro _ ⟨x, hx, rfl⟩
  exact h1 x hx
theorem DrawnPlan.gd {most : Int} {p : D} (h : DrawnPlan most p) (hm : most ≤ 8) : gd 3 8 p = true := by
  obtain ⟨ls, ds, rfl, l0, l1, hl, hd, hds⟩ := h.form
  have h1 : KI.gd 2 8 (.tup (ls.map .int)) = true := by
    have q : (ls.map D.int).length ≤ 8 := by rw [List.length_map]; omega
    show (decide ((ls.map D.int).length ≤ 8) && _) = true
    rw [decide_eq_true q, gdL_of]
    · rfl
    · intro x hx
      obtain ⟨y, _, rfl⟩ := List.mem_map.mp hx
      rfl
  have h2 : KI.gd 2 8 (.tup ds) = true := by
    have q : ds.length ≤ 8 := by omega
    show (decide (ds.length ≤ 8) && _) = true
    rw [decide_eq_true q, gdL_of]
    · rfl
    · intro x hx
      exact gd_le (h := 1) (k := 1) (w := 3) (v := 8) x (by omega) (by omega) (hds x hx).gd
  show (decide (2 ≤ 8) && (_ && (_ && true))) = true
  rw [h1, h2]
  rfl
end
end KI


set_option Elab.async false
set_option linter.all false
set_option maxRecDepth 100000
set_option maxHeartbeats 0
namespace K11
open PySem PySem.Spec PyProof.Rows L2 KI
abbrev prog : Program := PySem.Challenge.pw_anykerb_k11_texts_of_plans
def top (i : Nat) : Stmt := prog.main.body.getD i (.Pass ⟨0, 0, 0, 0⟩)
abbrev f__law_text : Nat := 1000
abbrev f__law_read : Nat := 1001
abbrev f__law_small : Nat := 1002
abbrev f__law_sort : Nat := 1003
abbrev f__law_spoilt : Nat := 1004
abbrev f__law_right : Nat := 1005
abbrev f_law : Nat := 1006
def l__law_text_0 : Ex := (.lc [3] (.nm 3) (.val (.idx (.var 0) (.int 0))) .none (.bi .str (.cons (.var 3) .nil)))
def l__law_text_1 : Ex := (.lc [4] (.nm 4) (.val (.var 2)) .none (.bi .str (.cons (.var 4) .nil)))
def b__law_text_0 : Sxs := (.cons (.app 1 (.mth .join (.str " ") (.cons l__law_text_1 .nil))) .nil)
def d__law_text : Def := { name := "_law_text", N := ["plan", "lines", "deed", "length", "part"], nps := 1, reg := true, body := (.cons (.set 1 (.newc (.lst (.cons (.mth .join (.str " ") (.cons (.bin .add (.lst (.cons (.str "lengths") .nil)) l__law_text_0) .nil)) .nil)))) (.cons (.for_ (.nm 2) (.val (.idx (.var 0) (.int 1))) b__law_text_0) (.cons (.frz 1) (.cons (.ret (.mth .join (.str "\n") (.cons (.var 1) .nil))) .nil)))) }
def d__law_read : Def := { name := "_law_read", N := ["text", "e"], nps := 1, reg := true, body := (.cons (.try_ (.cons (.ret (.tup (.cons (.call f_read_plan (.cons (.var 0) .nil)) (.cons .non .nil)))) .nil) [⟨101, some 1, (.ret (.isx 0 (.tup [.non, (.fld "line")]) (.tup [.non, (.str "else")])))⟩]) .nil) }
def l__law_small_0 : Ex := (.lc [3] (.nm 3) (.rng2 (.var 1) (.bin .add (.var 2) (.int 1))) .none (.bi .str (.cons (.var 3) .nil)))
def d__law_small : Def := { name := "_law_small", N := ["word", "least", "most", "amount"], nps := 3, reg := true, body := (.cons (.ret (.cmp .in_ (.var 0) l__law_small_0)) .nil) }
def l__law_sort_0 : Ex := (.lc [4] (.nm 4) (.val (.sli (.var 1) (.some (.int 1)) .none)) (.some (.not (.call f__law_small (.cons (.var 4) (.cons (.int 2) (.cons (.int 9) .nil)))))) (.var 4))
def d__law_sort : Def := { name := "_law_sort", N := ["line", "words", "some", "good", "word"], nps := 1, reg := true, body := (.cons (.set 1 (.mth .split (.var 0) (.cons (.str " ") .nil))) (.cons (.ifs (.cmp .eq (.idx (.var 1) (.int 0)) (.str "lengths")) (.cons (.set 2 l__law_sort_0) (.cons (.ret (.ite (.and (.chn .le .le (.int 2) (.bi .len (.cons (.var 1) .nil)) (.int 6)) (.cmp .eq (.var 2) (.lst .nil))) (.str "lengths") .non)) .nil)) .nil) (.cons (.ifs (.or (.cmp .lt (.bi .len (.cons (.var 1) .nil)) (.int 2)) (.not (.call f__law_small (.cons (.idx (.var 1) (.int 1)) (.cons (.int 0) (.cons (.int 4) .nil)))))) (.cons (.ret .non) .nil) .nil) (.cons (.ifs (.cmp .eq (.idx (.var 1) (.int 0)) (.str "park")) (.cons (.set 3 (.and (.cmp .eq (.bi .len (.cons (.var 1) .nil)) (.int 3)) (.cmp .in_ (.idx (.var 1) (.int 2)) (.tup (.cons (.str "front") (.cons (.str "back") (.cons (.str "tight") (.cons (.str "wide") .nil)))))))) (.cons (.ret (.ite (.var 3) (.str "deed") .non)) .nil)) .nil) (.cons (.ret (.ite (.and (.cmp .eq (.bi .len (.cons (.var 1) .nil)) (.int 2)) (.cmp .in_ (.idx (.var 1) (.int 0)) (.tup (.cons (.str "leave") (.cons (.str "pull") (.cons (.str "drop") .nil)))))) (.str "deed") .non)) .nil))))) }
def d__law_spoilt : Def := { name := "_law_spoilt", N := ["source", "text", "signs", "at", "more", "lines", "spot", "rest"], nps := 2, reg := false, body := (.cons (.par 3 4 (.cons (.call f__law_draw (.cons (.var 0) (.cons (.bin .add (.bi .len (.cons (.var 1) .nil)) (.int 1)) .nil))) (.cons (.call f__law_draw (.cons (.var 0) (.cons (.int 3) .nil))) .nil))) (.cons (.set 2 (.lst (.cons (.str "") (.cons (.str " ") (.cons (.str "0") (.cons (.str "1") (.cons (.str "3") (.cons (.str "4") (.cons (.str "-") (.cons (.str "\n") (.cons (.str "\npull 1") (.cons (.str " 2") (.cons (.str "wide") (.cons (.str "lengths 2\n") (.cons (.str "drop") (.cons (.str "6") (.cons (.str "+") (.cons (.str "5") .nil)))))))))))))))))) (.cons (.ifs (.cmp .eq (.var 4) (.int 2)) (.cons (.set 5 (.mth .split (.var 1) (.cons (.str "\n") .nil))) (.cons (.set 6 (.call f__law_draw (.cons (.var 0) (.cons (.bi .len (.cons (.var 5) .nil)) .nil)))) (.cons (.set 7 (.sli (.var 5) (.some (.var 6)) (.some (.bin .add (.var 6) (.call f__law_draw (.cons (.var 0) (.cons (.int 3) .nil))))))) (.cons (.ret (.mth .join (.str "\n") (.cons (.bin .add (.bin .add (.sli (.var 5) .none (.some (.var 6))) (.sli (.var 5) (.some (.bin .add (.var 6) (.int 1))) .none)) (.var 7)) .nil))) .nil)))) .nil) (.cons (.ret (.bin .add (.bin .add (.sli (.var 1) .none (.some (.var 3))) (.call f__law_of (.cons (.var 0) (.cons (.var 2) .nil)))) (.sli (.var 1) (.some (.bin .add (.var 3) (.var 4))) .none))) .nil)))) }
def l__law_right_0 : Ex := (.lc [5] (.nm 5) (.val (.mth .split (.var 0) (.cons (.str "\n") .nil))) .none (.call f__law_sort (.cons (.var 5) .nil)))
def l__law_right_1 : Ex := (.lc [6, 7] (.tp (.cons (.nm 6) (.cons (.nm 7) .nil))) (.enum (.var 3)) (.some (.cmp .isN (.var 7) .non)) (.bin .add (.var 6) (.int 1)))
def d__law_right : Def := { name := "_law_right", N := ["text", "found", "line", "sorts", "bad", "part", "at", "sort"], nps := 3, reg := true, body := (.cons (.set 3 l__law_right_0) (.cons (.set 4 l__law_right_1) (.cons (.ifs (.cmp .isN (.var 1) .non) (.cons (.ret (.cmp .eq (.var 2) (.idx (.bin .add (.var 4) (.lst (.cons (.bin .add (.bi .len (.cons (.var 3) .nil)) (.int 1)) .nil))) (.int 0)))) .nil) .nil) (.cons (.ret (.and (.cmp .eq (.var 4) (.lst .nil)) (.and (.call f_is_plan (.cons (.var 1) .nil)) (.cmp .eq (.call f__law_text (.cons (.var 1) .nil)) (.var 0))))) .nil)))) }
def b_law_0 : Sxs := (.cons (.unp (.tp (.cons (.nm 7) (.cons (.nm 8) .nil))) (.call f__law_read (.cons (.var 3) .nil))) (.cons (.ifs (.or (.not (.call f__law_right (.cons (.var 3) (.cons (.var 7) (.cons (.var 8) .nil))))) (.and (.cmp .eq (.var 6) (.int 0)) (.cmp .ne (.var 7) (.var 2)))) (.cons (.ret (.bl false)) .nil) .nil) (.cons (.set 3 (.sli (.call f__law_spoilt (.cons (.var 5) (.cons (.var 3) .nil))) .none (.some (.int 900)))) .nil)))
def b_law_1 : Sxs := (.cons (.set 5 (.call f__law_source (.cons (.var 0) (.cons (.var 1) .nil)))) (.cons (.set 2 (.call f__law_plan (.cons (.var 5) (.cons (.int 8) .nil)))) (.cons (.set 3 (.call f__law_text (.cons (.var 2) .nil))) (.cons (.ifs (.cmp .ne (.call f_plan_text (.cons (.var 2) .nil)) (.var 3)) (.cons (.ret (.bl false)) .nil) .nil) (.cons (.for_ (.nm 6) (.rng1 (.int 7)) b_law_0) (.cons (.ifs (.cmp .ne (.call f__law_read (.cons (.call f__law_of (.cons (.var 5) (.cons (.lst (.cons .non (.cons (.int 5) (.cons (.bl true) (.cons (.lst .nil) (.cons (.tup (.cons (.str "pull") .nil)) (.cons (.var 2) .nil))))))) .nil))) .nil)) (.tup (.cons .non (.cons (.int 0) .nil)))) (.cons (.ret (.bl false)) .nil) .nil) .nil))))))
def l_law_0 : Ex := (.lc [3] (.nm 3) (.val (.var 4)) .none (.idx (.call f__law_read (.cons (.var 3) .nil)) (.int 1)))
def d_law : Def := { name := "law", N := ["script", "k", "plan", "text", "texts", "source", "turn", "found", "line"], nps := 1, reg := true, body := (.cons (.for_ (.nm 1) (.rng1 (.bin .add (.int 1) (.bi .min2 (.cons (.bi .len (.cons (.var 0) .nil)) (.cons (.int 10) .nil))))) b_law_1) (.cons (.set 2 (.tup (.cons (.tup (.cons (.int 2) (.cons (.int 9) .nil))) (.cons (.tup (.cons (.tup (.cons (.str "park") (.cons (.int 1) (.cons (.str "tight") .nil)))) (.cons (.tup (.cons (.str "drop") (.cons (.int 0) .nil))) .nil))) .nil)))) (.cons (.set 3 (.str "lengths 2 9\npark 1 tight\ndrop 0")) (.cons (.ifs (.or (.cmp .ne (.call f__law_read (.cons (.var 3) .nil)) (.tup (.cons (.var 2) (.cons .non .nil)))) (.cmp .ne (.call f_plan_text (.cons (.var 2) .nil)) (.var 3))) (.cons (.ret (.bl false)) .nil) .nil) (.cons (.set 4 (.lst (.cons (.str "") (.cons (.str "lengths 2\n") (.cons (.str "lengths") (.cons (.str "lengths 1") (.cons (.str "lengths 2\npull 0\npull 5") (.cons (.str "pull 0") (.cons (.str "lengths 2\npull 1") .nil))))))))) (.cons (.set 4 (.bin .add (.var 4) (.lst (.cons (.str "lengths 2\npark 0") (.cons (.str "lengths 2\npark 0 near") .nil))))) (.cons (.set 4 (.bin .add (.var 4) (.lst (.cons (.str "lengths 2\nleave 00") (.cons (.str "lengths 2\nlengths 2") .nil))))) (.cons (.set 4 (.bin .add (.var 4) (.lst (.cons (.bin .add (.str "lengths 2") (.bin .mul (.str "\npull 0") (.int 9))) (.cons (.str "lengths 2\npull 0 front") .nil))))) (.cons (.set 4 (.bin .add (.var 4) (.lst (.cons (.str "lengths 2  3") (.cons (.str "lengths 2 2 2 2 2 2") .nil))))) (.cons (.ret (.cmp .eq l_law_0 (.lst (.cons (.int 1) (.cons (.int 2) (.cons (.int 1) (.cons (.int 1) (.cons (.int 3) (.cons (.int 2) (.cons (.int 3) (.cons (.int 2) (.cons (.int 2) (.cons (.int 2) (.cons (.int 3) (.cons (.int 11) (.cons (.int 2) (.cons (.int 1) (.cons (.int 1) .nil)))))))))))))))))) .nil)))))))))) }
def ownL : List Def := [d__law_text, d__law_read, d__law_small, d__law_sort, d__law_spoilt, d__law_right, d_law]
def L : Lw := { fns := [(0, ⟨KI.d_is_number, top 6, false, none, 0⟩), (1, ⟨KI.d_is_tuple, top 7, false, none, 0⟩), (2, ⟨KI.d_is_word, top 8, false, none, 0⟩), (3, ⟨KI.d_is_deed_of, top 9, false, none, 0⟩), (4, ⟨KI.d_are_lengths, top 10, false, none, 0⟩), (5, ⟨KI.d_is_good_plan, top 11, false, none, 0⟩), (6, ⟨KI.d_need_plan, top 12, false, none, 0⟩), (7, ⟨KI.d_is_plan, top 13, false, none, 0⟩), (102, ⟨KI.d_lines_of, top 16, false, none, 0⟩), (103, ⟨KI.d_part_in, top 17, false, none, 0⟩), (104, ⟨KI.d_line_in, top 18, false, none, 0⟩), (105, ⟨KI.d_plan_in, top 19, false, none, 0⟩), (111, ⟨KI.d_plan_text, top 20, false, none, 0⟩), (112, ⟨KI.d_read_plan, top 21, false, none, 0⟩), (9, ⟨KI.d__law_source, top 23, false, none, 0⟩), (10, ⟨KI.d__law_draw, top 24, false, none, 0⟩), (11, ⟨KI.d__law_of, top 25, false, none, 0⟩), (12, ⟨KI.d__law_rule, top 26, false, none, 0⟩), (13, ⟨KI.d__law_deed, top 27, false, none, 0⟩), (14, ⟨KI.d__law_plan, top 28, false, none, 0⟩), (1000, ⟨d__law_text, top 29, false, none, 0⟩), (1001, ⟨d__law_read, top 30, false, none, 0⟩), (1002, ⟨d__law_small, top 31, false, none, 0⟩), (1003, ⟨d__law_sort, top 32, false, none, 0⟩), (1004, ⟨d__law_spoilt, top 33, false, none, 0⟩), (1005, ⟨d__law_right, top 34, false, none, 0⟩), (1006, ⟨d_law, top 35, false, none, 0⟩)], cs := [(2, "RULES", (.tup [.str "back", .str "front", .str "tight", .str "wide"])), (3, "CARS", (.int 5))], xs := [(0, "KerbError"), (1, "InvalidPlan"), (101, "InvalidText")], bls := ["abs", "all", "bool", "enumerate", "int", "isinstance", "len", "min", "range", "str", "tuple"], fuel := 1000, tf := tfOf ownL, cons := consOf, xis := [(101, "line")], file := prog.main.file }
def lawI : Nat := 35
def lawF : Nat := 1006
def names : List Str := (["KerbError", "InvalidPlan", "InvalidText", "RULES", "is_number", "is_tuple", "is_word", "is_deed_of", "are_lengths", "is_good_plan", "need_plan", "is_plan"] : List Str) ++ (["CARS", "lines_of", "part_in", "line_in", "plan_in", "plan_text", "read_plan", "_law_source", "_law_draw", "_law_of", "_law_rule", "_law_deed"] : List Str) ++ (["_law_plan", "_law_text", "_law_read", "_law_small", "_law_sort", "_law_spoilt", "_law_right"] : List Str)
instance : L.Std := ⟨fun i d h => tfOf_base ownL h, fun i d h => consOf_base h⟩
theorem chk : L.chk = true := by decide +kernel
theorem fits : L.Fits := ⟨rfl, rfl⟩
abbrev R : PySem.W.OpenRow := PySem.W.OpenLaw.row PySem.Challenge.rw_anykerb_k11_texts_of_plans
theorem run (w : World) : HandSHeadRun.RunEq R (PySem.W.view R.prog [lawI]) (L.hook 2 3) (L.ob 2 3) 40000 names w := by
  intro os
  kernel_rfl
end K11


set_option Elab.async false
set_option linter.all false
set_option maxRecDepth 100000
set_option autoImplicit false
set_option maxHeartbeats 1000000
/-! Texts cut at one sign, and joined by it. -/
namespace KI
open PySem PySem.StrLaws

/-- joined by the sign c -/
def jn (c : Nat) : List (List Nat) → List Nat
  | [] => []
  | [p] => p
  | p :: q :: r => p ++ c :: jn c (q :: r)
theorem jn_head {c : Nat} : ∀ {p q r s : List Nat}, c ∉ p → c ∉ q → p ++ c :: r = q ++ c :: s → p = q ∧ r = s
  | [], [], r, s, _, _, h => by
    simp only [List.nil_append, List.cons.injEq] at h
    exact ⟨rfl, h.2⟩
  | [], y :: q, r, s, _, h2, h => by
    simp only [List.nil_append, List.cons_append, List.cons.injEq] at h
    exact absurd List.mem_cons_self (by rw [h.1] at h2; exact h2)
  | x :: p, [], r, s, h1, _, h => by
    simp only [List.nil_append, List.cons_append, List.cons.injEq] at h
    exact absurd List.mem_cons_self (by rw [← h.1] at h1; exact h1)
  | x :: p, y :: q, r, s, h1, h2, h => by
    simp only [List.cons_append, List.cons.injEq] at h
    obtain ⟨e1, e2⟩ := jn_head (fun z => h1 (List.mem_cons_of_mem _ z)) (fun z => h2 (List.mem_cons_of_mem _ z)) h.2
    exact ⟨by rw [h.1, e1], e2⟩
theorem jn_inj {c : Nat} : ∀ {ps qs : List (List Nat)}, ps ≠ [] → qs ≠ [] → (∀ p ∈ ps, c ∉ p) → (∀ p ∈ qs, c ∉ p) → jn c ps = jn c qs → ps = qs
  | [], _, h, _, _, _, _ => absurd rfl h
  | _, [], _, h, _, _, _ => absurd rfl h
  | [p], [q], _, _, _, _, e => by
    have e : p = q := e
    rw [e]
  | [p], q :: q2 :: qs, _, _, hp, _, e => by
    have e : p = q ++ c :: jn c (q2 :: qs) := e
    exact absurd (by rw [e]; simp) (hp p List.mem_cons_self)
  | p :: p2 :: ps, [q], _, _, _, hq, e => by
    have e : p ++ c :: jn c (p2 :: ps) = q := e
    exact absurd (by rw [← e]; simp) (hq q List.mem_cons_self)
  | p :: p2 :: ps, q :: q2 :: qs, _, _, hp, hq, e => by
    obtain ⟨e1, e2⟩ := jn_head (hp p List.mem_cons_self) (hq q List.mem_cons_self) (show p ++ c :: jn c (p2 :: ps) = q ++ c :: jn c (q2 :: qs) from e)
    rw [e1, jn_inj (List.cons_ne_nil _ _) (List.cons_ne_nil _ _) (fun x hx => hp x (List.mem_cons_of_mem _ hx)) (fun x hx => hq x (List.mem_cons_of_mem _ hx)) e2]
theorem jn_mem {c : Nat} : ∀ {ps : List (List Nat)} {p : List Nat}, p ∈ ps → ∀ a ∈ p, a ∈ jn c ps
  | [p], q, h, a, ha => by rw [List.mem_singleton.mp h] at ha; exact ha
  | p :: p2 :: ps, q, h, a, ha => by
    show a ∈ p ++ c :: jn c (p2 :: ps)
    rcases List.mem_cons.mp h with rfl | h
    · exact List.mem_append_left _ ha
    · exact List.mem_append_right _ (List.mem_cons_of_mem _ (jn_mem h a ha))
theorem jn_len {c : Nat} : ∀ {ps : List (List Nat)} {p : List Nat}, p ∈ ps → p.length + ps.length ≤ (jn c ps).length + 1
  | [p], q, h => by rw [List.mem_singleton.mp h]; exact Nat.le_refl _
  | p :: p2 :: ps, q, h => by
    have e : (jn c (p :: p2 :: ps)).length = p.length + ((jn c (p2 :: ps)).length + 1) := by
      show (p ++ c :: jn c (p2 :: ps)).length = _
      rw [List.length_append, List.length_cons]
    have e2 : (p :: p2 :: ps).length = (p2 :: ps).length + 1 := rfl
    rw [e, e2]
    rcases List.mem_cons.mp h with rfl | h
    · have := jn_len (c := c) (ps := p2 :: ps) (p := p2) List.mem_cons_self
      omega
    · have := jn_len (c := c) h
      omega
theorem jn_all {c : Nat} : ∀ {ps : List (List Nat)} {a : Nat}, a ∈ jn c ps → a = c ∨ ∃ p ∈ ps, a ∈ p
  | [p], a, h => .inr ⟨p, List.mem_cons_self, h⟩
  | p :: p2 :: ps, a, h => by
    have h : a ∈ p ++ c :: jn c (p2 :: ps) := h
    rcases List.mem_append.mp h with h | h
    · exact .inr ⟨p, List.mem_cons_self, h⟩
    · rcases List.mem_cons.mp h with h | h
      · exact .inl h
      · rcases jn_all h with h | ⟨q, h1, h2⟩
        · exact .inl h
        · exact .inr ⟨q, List.mem_cons_of_mem _ h1, h2⟩
theorem jn_lenE {c : Nat} : ∀ {ps : List (List Nat)}, ps ≠ [] → (jn c ps).length + 1 = (ps.map List.length).sum + ps.length
  | [], h => absurd rfl h
  | [p], _ => by simp [jn]
  | p :: p2 :: ps, _ => by
    have := jn_lenE (c := c) (ps := p2 :: ps) (List.cons_ne_nil _ _)
    show (p ++ c :: jn c (p2 :: ps)).length + 1 = _
    simp only [List.length_append, List.length_cons, List.map_cons, List.sum_cons] at this ⊢
    omega
abbrev tl (s : Str) : List Nat := s.cps.toList
theorem tl_inj {a b : Str} (h : tl a = tl b) : a = b := by
  cases a
  cases b
  congr 1
  exact Array.toList_inj.mp h
theorem tl_len (s : Str) : (tl s).length = s.length := by simp [tl, Str.length]
theorem tl_app (a b : Str) : tl (a ++ b) = tl a ++ tl b := by
  show (a ++ b).cps.toList = _
  simp [Str.cps_append]
theorem join_tl (c : Nat) : ∀ ps : List Str, tl (Str.join ⟨#[c]⟩ ps) = jn c (ps.map tl)
  | [] => rfl
  | [p] => rfl
  | p :: q :: r => by
    show tl (p ++ ⟨#[c]⟩ ++ Str.join ⟨#[c]⟩ (q :: r)) = tl p ++ c :: jn c ((q :: r).map tl)
    rw [tl_app, tl_app, join_tl c (q :: r), List.append_assoc]
    rfl
theorem txt_join (sep : Str) (ps : List Str) : Txt.join sep ps = Str.join sep ps := glued_eq_join sep ps
/-- cut, then joined -/
theorem join_split (x : Str) (c : Nat) : Txt.join ⟨#[c]⟩ (Txt.split x ⟨#[c]⟩) = x := by
  rw [txt_join]
  unfold Txt.split
  split
  · rfl
  · split
    · rfl
    · rw [← glued_eq_join]
      exact glued_between_self x ⟨#[c]⟩ _
theorem split_ne (x y : Str) : Txt.split x y ≠ [] := by
  unfold Txt.split
  split
  · exact List.cons_ne_nil _ _
  · split
    · exact List.cons_ne_nil _ _
    · rw [partsBetween_eq]
      obtain ⟨p, r, e⟩ := partsFrom_ne x y.length 0 (Builtin.Str.occurrences x y 0 x.length (x.length + 1))
      rw [e]
      exact List.cons_ne_nil _ _
/-- joined, then cut -/
theorem split_join (c : Nat) {ws : List Str} (h0 : ws ≠ []) (h : ∀ w ∈ ws, c ∉ tl w) : Txt.split (Txt.join ⟨#[c]⟩ ws) ⟨#[c]⟩ = ws := by
  have e := congrArg tl (join_split (Txt.join ⟨#[c]⟩ ws) c)
  rw [txt_join, txt_join, join_tl, join_tl] at e
  have f : ∀ {l : List Str}, (∀ w ∈ l, c ∉ tl w) → ∀ p ∈ l.map tl, c ∉ p := fun hl p hp => by
    obtain ⟨w, hw, rfl⟩ := List.mem_map.mp hp
    exact hl w hw
  have e2 := jn_inj (by simpa using split_ne _ _) (by simpa using h0) (f (split_free _ c)) (f h) e
  rw [txt_join]
  exact (List.map_inj_right fun a b => tl_inj).mp e2
/-- a piece: no sign c, short, of the text's signs -/
theorem split_part {x p : Str} {c : Nat} (h : p ∈ Txt.split x ⟨#[c]⟩) : p.length + (Txt.split x ⟨#[c]⟩).length ≤ x.length + 1 ∧ ∀ a ∈ tl p, a ∈ tl x := by
  have e := congrArg tl (join_split x c)
  rw [txt_join, join_tl] at e
  have hm : tl p ∈ (Txt.split x ⟨#[c]⟩).map tl := List.mem_map.mpr ⟨p, h, rfl⟩
  refine ⟨?_, fun a ha => ?_⟩
  · have := jn_len (c := c) hm
    rw [e, tl_len, tl_len, List.length_map] at this
    exact this
  · rw [← e]
    exact jn_mem hm a ha
theorem split_le {x p : Str} {c : Nat} (h : p ∈ Txt.split x ⟨#[c]⟩) : p.length ≤ x.length := by
  have h1 := (split_part h).1
  have h2 := List.length_pos_of_mem h
  omega
theorem split_len (x : Str) (c : Nat) : (Txt.split x ⟨#[c]⟩).length ≤ x.length + 1 := by
  cases q : Txt.split x ⟨#[c]⟩ with
  | nil => exact absurd q (split_ne _ _)
  | cons p r =>
    have := (split_part (x := x) (c := c) (p := p) (by rw [q]; exact List.mem_cons_self)).1
    rw [q] at this
    omega
theorem join_len {c : Nat} {ws : List Str} (h0 : ws ≠ []) : (Txt.join ⟨#[c]⟩ ws).length + 1 = (ws.map (·.length)).sum + ws.length := by
  have := jn_lenE (c := c) (ps := ws.map tl) (by simpa using h0)
  rw [← join_tl, tl_len, List.length_map, List.map_map] at this
  rw [txt_join, this]
  congr 2
/-- good signs -/
def sg (s : Str) : Bool := s.cps.all (· < 0x110000)
theorem sg_iff {s : Str} : sg s = true ↔ ∀ a ∈ tl s, a < 0x110000 := by
  unfold sg
  rw [← Array.all_toList, List.all_eq_true]
  simp
theorem split_sg {x p : Str} {c : Nat} (hx : sg x = true) (h : p ∈ Txt.split x ⟨#[c]⟩) : sg p = true := sg_iff.mpr fun a ha => sg_iff.mp hx a ((split_part h).2 a ha)
theorem join_sg {c : Nat} {ws : List Str} (hc : c < 0x110000) (h : ∀ w ∈ ws, sg w = true) : sg (Txt.join ⟨#[c]⟩ ws) = true := by
  refine sg_iff.mpr fun a ha => ?_
  rw [txt_join, join_tl] at ha
  rcases jn_all ha with e | ⟨p, hp, ha⟩
  · rw [e]; exact hc
  · obtain ⟨w, hw, rfl⟩ := List.mem_map.mp hp
    exact sg_iff.mp (h w hw) a ha
theorem app_sg {a b : Str} (ha : sg a = true) (hb : sg b = true) : sg (a ++ b) = true := by
  refine sg_iff.mpr fun x hx => ?_
  rw [tl_app] at hx
  rcases List.mem_append.mp hx with h | h
  · exact sg_iff.mp ha x h
  · exact sg_iff.mp hb x h
theorem cutS_tl (z : Str) (lo hi : Option Int) : ∃ i j, tl (L2.cutS z lo hi) = ((tl z).drop i).take j := by
  unfold L2.cutS
  exact ⟨_, _, by first | rfl | simp [tl]⟩
theorem cutS_sg {z : Str} {lo hi : Option Int} (h : sg z = true) : sg (L2.cutS z lo hi) = true := by
  obtain ⟨i, j, e⟩ := cutS_tl z lo hi
  refine sg_iff.mpr fun a ha => ?_
  rw [e] at ha
  exact sg_iff.mp h a (List.mem_of_mem_drop (List.mem_of_mem_take ha))
theorem sg_shp {s : Str} (k : Nat) (h : sg s = true) : shp k (.str s) = true := shp_lit k s h
theorem sg_gd {s : Str} (k w : Nat) (h : sg s = true) : gd k w (.str s) = true := by cases k <;> exact h
end KI


set_option Elab.async false
set_option linter.all false
set_option maxRecDepth 100000
set_option autoImplicit false
set_option maxHeartbeats 1000000
/-! Forms, the state, the spaces: plain and run. -/
namespace KI
open PySem

abbrev Fm := Int × Int
@[simp] def fD (p : Fm) : D := .tup [.int p.1, .int p.2]
@[simp] def gD (g : Fm × Fm) : D := .tup [fD g.1, fD g.2]
@[simp] def cD (c : Nat × Fm) : D := .tup [.int c.1, fD c.2]
abbrev Row := List (Nat × Fm)
def lsD (ls : List Int) : D := .tup (ls.map .int)
def rwD (r : Row) : D := .tup (r.map cD)
def diD (d : List Bool) : D := .tup (d.map .bl)
def akD (a : List Fm) : D := .tup (a.map fD)
/-- the program's state -/
def stO (ls : List Int) (r : Row) (d : List Bool) (a : List Fm) : Ob := .dct [(.inr "lengths", lsD ls), (.inr "row", rwD r), (.inr "did", diD d), (.inr "asked", akD a)]
@[simp] def wo (f : Fm) (n : Int) : Int := f.1 * n + f.2
@[simp] def ad (a b : Fm) : Fm := (a.1 + b.1, a.2 + b.2)
@[simp] def le2 (a b : Fm) : Fm := (a.1 - b.1, a.2 - b.2)
def sgn (f : Fm) (n : Int) : Int := if 0 < wo f n then 1 else if wo f n < 0 then -1 else 0
def lenAt (ls : List Int) (c : Nat) : Int := ls[c]?.getD 0
/-- the spaces ahead of the cars, behind the last -/
def spaces (ls : List Int) : Row → Fm → List (Fm × Fm)
  | [], b => [(b, le2 (1, 0) b)]
  | (c, p) :: r, b => (b, le2 p b) :: spaces ls r (p.1, p.2 + lenAt ls c)
theorem spaces_len (ls : List Int) : ∀ (r : Row) (b : Fm), (spaces ls r b).length = r.length + 1
  | [], _ => rfl
  | (c, p) :: r, b => by
    show (spaces ls r _).length + 1 = _
    rw [spaces_len ls r]
    rfl
section
variable (a b c d : D) (v : D)
@[simp] theorem kn1 : (("lengths" : Str) = ("row" : Str)) = False := eq_false (by decide +kernel)
@[simp] theorem kn2 : (("lengths" : Str) = ("did" : Str)) = False := eq_false (by decide +kernel)
@[simp] theorem kn3 : (("lengths" : Str) = ("asked" : Str)) = False := eq_false (by decide +kernel)
@[simp] theorem kn4 : (("row" : Str) = ("did" : Str)) = False := eq_false (by decide +kernel)
@[simp] theorem kn5 : (("row" : Str) = ("asked" : Str)) = False := eq_false (by decide +kernel)
@[simp] theorem kn6 : (("did" : Str) = ("asked" : Str)) = False := eq_false (by decide +kernel)
@[simp] theorem km1 : (("row" : Str) = ("lengths" : Str)) = False := eq_false (by decide +kernel)
@[simp] theorem km2 : (("did" : Str) = ("lengths" : Str)) = False := eq_false (by decide +kernel)
@[simp] theorem km3 : (("asked" : Str) = ("lengths" : Str)) = False := eq_false (by decide +kernel)
@[simp] theorem km4 : (("did" : Str) = ("row" : Str)) = False := eq_false (by decide +kernel)
@[simp] theorem km5 : (("asked" : Str) = ("row" : Str)) = False := eq_false (by decide +kernel)
@[simp] theorem km6 : (("asked" : Str) = ("did" : Str)) = False := eq_false (by decide +kernel)
abbrev four : List (Key × D) := [(.inr "lengths", a), (.inr "row", b), (.inr "did", c), (.inr "asked", d)]
@[simp] theorem g4_lengths : dicGet (four a b c d) (.inr "lengths") = some a := by simp [dicGet]
@[simp] theorem g4_row : dicGet (four a b c d) (.inr "row") = some b := by simp [dicGet]
@[simp] theorem g4_did : dicGet (four a b c d) (.inr "did") = some c := by simp [dicGet]
@[simp] theorem g4_asked : dicGet (four a b c d) (.inr "asked") = some d := by simp [dicGet]
@[simp] theorem p4_row : dicPut (four a b c d) (.inr "row") v = four a v c d := by simp [dicPut]
@[simp] theorem p4_did : dicPut (four a b c d) (.inr "did") v = four a b v d := by simp [dicPut]
@[simp] theorem p4_asked : dicPut (four a b c d) (.inr "asked") v = four a b c v := by simp [dicPut]
end
@[simp] theorem keyOf_str (s : Str) : keyOf (.str s) = some (.inr s) := rfl
@[simp] theorem keyOf_int (i : Int) : keyOf (.int i) = some (.inl i) := rfl
@[simp] theorem i_cells (S : Sto) (n : Nat) (s : Str) : idxD S (.cell n) (.str s) = match S[n]? with
    | some (.dct kvs) => dicGet kvs (.inr s)
    | _ => none := by
  show (match S[n]? with
    | some (.lst xs) => none
    | some (.dct kvs) => (keyOf (.str s)).bind fun k => dicGet kvs k
    | _ => none) = _
  split <;> first | rfl | (rename_i q; rw [q]) | skip
  all_goals simp_all
@[simp] theorem shpL_ints (k : Nat) : ∀ ls : List Int, shpL k (ls.map D.int) = true
  | [] => by cases k <;> rfl
  | i :: ls => by simp [shpL_ints k ls]
@[simp] theorem pureL_ints : ∀ ls : List Int, pureL (ls.map D.int) = true
  | [] => rfl
  | i :: ls => by simp [pureL, D.pure, pureL_ints ls]
section
variable (i : Int) (b : Bool) (s : Str) (x : D) (xs : List D) (n : Nat)
@[simp] theorem pu_int : D.pure (.int i) = true := rfl
@[simp] theorem pu_bl : D.pure (.bl b) = true := rfl
@[simp] theorem pu_non : D.pure .non = true := rfl
@[simp] theorem pu_str : D.pure (.str s) = true := rfl
@[simp] theorem pu_tup : D.pure (.tup xs) = pureL xs := rfl
@[simp] theorem pu_lst : D.pure (.lst xs) = pureL xs := rfl
@[simp] theorem pu_nil : pureL [] = true := rfl
@[simp] theorem pu_cons : pureL (x :: xs) = (x.pure && pureL xs) := rfl
end
@[simp] theorem pureL_rows : ∀ r : Row, pureL (r.map cD) = true
  | [] => rfl
  | _ :: r => by simp [pureL_rows r]
@[simp] theorem pureL_gs : ∀ r : List (Fm × Fm), pureL (r.map gD) = true
  | [] => rfl
  | _ :: r => by simp [pureL_gs r]
@[simp] theorem pureL_fs : ∀ r : List Fm, pureL (r.map fD) = true
  | [] => rfl
  | _ :: r => by simp [pureL_fs r]
@[simp] theorem pureL_bs : ∀ r : List Bool, pureL (r.map D.bl) = true
  | [] => rfl
  | _ :: r => by simp [pureL_bs r]
theorem mo (i n : Int) (h1 : -100 ≤ i) (h2 : i ≤ 100) : mulOk i n = true := mulOk_l (by omega) (by omega)
section
variable {L : Lw} [L.Std] {k : Nat} {S : Sto} {m : Nat} {a b c d n : Int} {ls : List Int} {r : Row} {dd : List Bool} {ak : List Fm}
@[simp] theorem added_ok : L.run (k + 1) (.glo f_added) [.tup [.int a, .int b], .tup [.int c, .int d]] S = .ok (.tup [.int (a + c), .int (b + d)]) S := by
  refine run_reg (S' := []) h_added rfl ⟨rfl, by decide⟩ (by simp) ?_ (by simp)
  simp [d_added]
@[simp] theorem less_ok : L.run (k + 1) (.glo f_less) [.tup [.int a, .int b], .tup [.int c, .int d]] S = .ok (.tup [.int (a - c), .int (b - d)]) S := by
  refine run_reg (S' := []) h_less rfl ⟨rfl, by decide⟩ (by simp) ?_ (by simp)
  simp [d_less]
theorem worth_ok (h : mulOk a n = true) : L.run (k + 1) (.glo f_worth) [.tup [.int a, .int b], .int n] S = .ok (.int (a * n + b)) S := by
  refine run_reg (S' := []) h_worth rfl ⟨rfl, by decide⟩ (by simp) ?_ (by simp)
  simp [d_worth, h]
theorem sign_ok (h : mulOk a n = true) : L.run (k + 2) (.glo f_sign_of) [.tup [.int a, .int b], .int n] S = .ok (.int (sgn (a, b) n)) S := by
  refine run_reg (S' := []) h_sign_of rfl ⟨rfl, by decide⟩ (by simp) ?_ (by simp)
  simp only [sgn, wo]
  by_cases h1 : 0 < a * n + b
  · simp [d_sign_of, worth_ok h, h1]
  · by_cases h2 : a * n + b < 0 <;> simp [d_sign_of, worth_ok h, h1, h2]
theorem begun_ok : L.run (k + 1) (.glo f_begun) [lsD ls] S = .ok (.cell S.length) (S ++ [stO ls [] [] []]) := by
  refine run_non h_begun rfl ⟨rfl, by decide⟩ ?_
  simp [d_begun, stO, lsD, rwD, diD, akD]
  simp [mergeD, dicPut]
theorem asks_ok (hm : m < S.length) (h : mulOk a n = true) (hl : ak.length + 1 ≤ LN) : L.run (k + 3) (.glo f_asks) [.cell m, .tup [.int a, .int b], .int n] (S.set m (stO ls r dd ak)) = .ok (.int (sgn (a, b) n)) (S.set m (stO ls r dd (ak ++ [(a, b)]))) := by
  refine run_non h_asks rfl ⟨rfl, by decide⟩ ?_
  have hl : ak.length + 1 ≤ 16777216 := hl
  simp [d_asks, stO, lsD, rwD, diD, akD, List.getElem?_set_self hm, List.set_set, sign_ok h, hl]
end
end KI


set_option Elab.async false
set_option linter.all false
set_option maxRecDepth 100000
set_option autoImplicit false
set_option maxHeartbeats 1000000
/-! The state's deeds: spaces, the choice. -/
namespace KI
open PySem
theorem lenAt_eq {ls : List Int} {c : Nat} (h : c < ls.length) : ls[c]? = some (lenAt ls c) := by
  unfold lenAt
  rw [List.getElem?_eq_getElem h]
  rfl
/-- the spaces ahead of the cars; where the last one begins -/
def spa (ls : List Int) : Row → Fm → List (Fm × Fm)
  | [], b => []
  | (c, p) :: r, b => (b, le2 p b) :: spa ls r (p.1, p.2 + lenAt ls c)
def spe (ls : List Int) : Row → Fm → Fm
  | [], b => b
  | (c, p) :: r, b => spe ls r (p.1, p.2 + lenAt ls c)
theorem spaces_eq (ls : List Int) : ∀ (r : Row) (b : Fm), spaces ls r b = spa ls r b ++ [(spe ls r b, le2 (1, 0) (spe ls r b))]
  | [], _ => rfl
  | (c, p) :: r, b => by
    show _ :: spaces ls r _ = _ :: (spa ls r _ ++ _)
    rw [spaces_eq ls r]
    rfl
theorem spa_len (ls : List Int) : ∀ (r : Row) (b : Fm), (spa ls r b).length = r.length
  | [], _ => rfl
  | (c, p) :: r, b => by
    show (spa ls r _).length + 1 = _
    rw [spa_len ls r]
    rfl
/-- a row that may stand -/
def Rk (ls : List Int) (r : Row) : Prop := ∀ c ∈ r, c.1 < ls.length ∧ 0 ≤ c.2.1 ∧ c.2.1 ≤ 1
def Gk (g : Fm × Fm) : Prop := 0 ≤ g.1.1 ∧ g.1.1 ≤ 1 ∧ 0 ≤ g.1.1 + g.2.1 ∧ g.1.1 + g.2.1 ≤ 1
theorem spaces_ok (ls : List Int) : ∀ (r : Row) (b : Fm), Rk ls r → 0 ≤ b.1 → b.1 ≤ 1 → ∀ g ∈ spaces ls r b, Gk g
  | [], b, _, h0, h1, g, hg => by
    have : g = (b, le2 (1, 0) b) := by simpa [spaces] using hg
    subst this
    refine ⟨h0, h1, ?_, ?_⟩ <;> simp <;> omega
  | (c, p) :: r, b, hr, h0, h1, g, hg => by
    obtain ⟨_, p0, p1⟩ := hr (c, p) List.mem_cons_self
    rcases List.mem_cons.mp hg with e | hg
    · subst e
      simp only at p0 p1
      refine ⟨h0, h1, ?_, ?_⟩ <;> simp <;> omega
    · exact spaces_ok ls r (p.1, p.2 + lenAt ls c) (fun c hc => hr c (List.mem_cons_of_mem _ hc)) p0 p1 g hg
theorem spaces_get (ls : List Int) : ∀ (r : Row) (b : Fm) {i : Nat} {c : Nat × Fm}, r[i]? = some c → ∃ g, (spaces ls r b)[i + 1]? = some g ∧ g.1 = (c.2.1, c.2.2 + lenAt ls c.1)
  | [], _, i, c, h => by simp at h
  | (c, p) :: r, b, 0, d, h => by
    have : (c, p) = d := by simpa using h
    subst this
    cases r with
    | nil => exact ⟨_, rfl, rfl⟩
    | cons x r => exact ⟨_, rfl, rfl⟩
  | (c, p) :: r, b, i + 1, d, h => spaces_get ls r (p.1, p.2 + lenAt ls c) (i := i) (by simpa using h)
section
variable {L : Lw} [L.Std] {k : Nat} {S : Sto} {m : Nat} {n : Int} {ls : List Int} {r : Row} {dd : List Bool} {ak : List Fm}
theorem gaps_loop {o : Ob} (hS : S[m]? = some (stO ls r dd ak)) : ∀ (q : Row) (fo : List (Fm × Fm)) (b : Fm) (x y : Option D), Rk ls q → fo.length + q.length < LN →
    ∃ x' y', evFor (.tp (.cons (.nm 3) (.cons (.nm 4) .nil))) (exss L.cons (L.run (k + 1)) L.fuel b_all_gaps_0) (q.map cD) [some (.cell m), some (.lst (fo.map gD)), some (fD b), x, y] S = .nx [some (.cell m), some (.lst ((fo ++ spa ls q b).map gD)), some (fD (spe ls q b)), x', y'] S
  | [], fo, b, x, y, _, _ => ⟨x, y, by simp [evFor, spa, spe]⟩
  | (c, p) :: q, fo, b, x, y, hq, hl => by
    obtain ⟨hc, _⟩ := hq (c, p) List.mem_cons_self
    have hc : c < ls.length := hc
    have hl : fo.length + (q.length + 1) < 16777216 := hl
    have hl2 : fo.length + 1 ≤ 16777216 := by omega
    obtain ⟨x', y', e⟩ := gaps_loop (o := o) hS q (fo ++ [(b, le2 p b)]) (p.1, p.2 + lenAt ls c) (some (.int c)) (some (fD p)) (fun c hc => hq c (List.mem_cons_of_mem _ hc)) (by simp; omega)
    refine ⟨x', y', ?_⟩
    rw [List.map_cons]
    unfold evFor
    simp [b_all_gaps_0, hS, stO, lsD, atI_nat, lenAt_eq hc, hl2]
    simpa [b_all_gaps_0, spa, spe, stO, lsD] using e
theorem all_gaps_ok (hS : S[m]? = some (stO ls r dd ak)) (hr : Rk ls r) (hl : r.length < 1000) : L.run (k + 2) (.glo f_all_gaps) [.cell m] S = .ok (.lst ((spaces ls r (0, 0)).map gD)) S := by
  refine run_non h_all_gaps rfl ⟨rfl, by decide⟩ ?_
  obtain ⟨x, y, e⟩ := gaps_loop (L := L) (k := k) (o := .dead) hS r [] (0, 0) none none hr (by simp; omega)
  have e1 : (spa ls r (0, 0)).length + 1 ≤ 16777216 := by rw [spa_len]; omega
  have hS2 := hS
  unfold stO at hS2
  simp [d_all_gaps, hS2, rwD]
  simp at e
  rw [e]
  simp [e1, spaces_eq]
end
end KI


set_option Elab.async false
set_option linter.all false
set_option maxRecDepth 100000
set_option autoImplicit false
set_option maxHeartbeats 1000000
/-! The choice, a car parked. -/
namespace KI
open PySem
@[simp] theorem es_front_front : eqD (.str "front") (.str "front") = true := by decide +kernel
@[simp] theorem es_front_back : eqD (.str "front") (.str "back") = false := by decide +kernel
@[simp] theorem es_front_tight : eqD (.str "front") (.str "tight") = false := by decide +kernel
@[simp] theorem es_back_front : eqD (.str "back") (.str "front") = false := by decide +kernel
@[simp] theorem es_back_back : eqD (.str "back") (.str "back") = true := by decide +kernel
@[simp] theorem es_back_tight : eqD (.str "back") (.str "tight") = false := by decide +kernel
@[simp] theorem es_tight_front : eqD (.str "tight") (.str "front") = false := by decide +kernel
@[simp] theorem es_tight_back : eqD (.str "tight") (.str "back") = false := by decide +kernel
@[simp] theorem es_tight_tight : eqD (.str "tight") (.str "tight") = true := by decide +kernel
@[simp] theorem es_wide_front : eqD (.str "wide") (.str "front") = false := by decide +kernel
@[simp] theorem es_wide_back : eqD (.str "wide") (.str "back") = false := by decide +kernel
@[simp] theorem es_wide_tight : eqD (.str "wide") (.str "tight") = false := by decide +kernel
@[simp] theorem es_park_park : eqD (.str "park") (.str "park") = true := by decide +kernel
@[simp] theorem es_park_leave : eqD (.str "park") (.str "leave") = false := by decide +kernel
@[simp] theorem es_park_pull : eqD (.str "park") (.str "pull") = false := by decide +kernel
@[simp] theorem es_park_drop : eqD (.str "park") (.str "drop") = false := by decide +kernel
@[simp] theorem es_leave_park : eqD (.str "leave") (.str "park") = false := by decide +kernel
@[simp] theorem es_leave_leave : eqD (.str "leave") (.str "leave") = true := by decide +kernel
@[simp] theorem es_leave_pull : eqD (.str "leave") (.str "pull") = false := by decide +kernel
@[simp] theorem es_leave_drop : eqD (.str "leave") (.str "drop") = false := by decide +kernel
@[simp] theorem es_pull_park : eqD (.str "pull") (.str "park") = false := by decide +kernel
@[simp] theorem es_pull_leave : eqD (.str "pull") (.str "leave") = false := by decide +kernel
@[simp] theorem es_pull_pull : eqD (.str "pull") (.str "pull") = true := by decide +kernel
@[simp] theorem es_pull_drop : eqD (.str "pull") (.str "drop") = false := by decide +kernel
@[simp] theorem es_drop_park : eqD (.str "drop") (.str "park") = false := by decide +kernel
@[simp] theorem es_drop_leave : eqD (.str "drop") (.str "leave") = false := by decide +kernel
@[simp] theorem es_drop_pull : eqD (.str "drop") (.str "pull") = false := by decide +kernel
@[simp] theorem es_drop_drop : eqD (.str "drop") (.str "drop") = true := by decide +kernel
inductive Ru | front | back | tight | wide
  deriving DecidableEq
def ruD : Ru → D
  | .front => .str "front"
  | .back => .str "back"
  | .tight => .str "tight"
  | .wide => .str "wide"
@[simp] theorem ruD_front : ruD .front = .str "front" := rfl
@[simp] theorem ruD_back : ruD .back = .str "back" := rfl
@[simp] theorem ruD_tight : ruD .tight = .str "tight" := rfl
@[simp] theorem ruD_wide : ruD .wide = .str "wide" := rfl
@[simp] theorem pu_ru (r : Ru) : (ruD r).pure = true := by cases r <;> rfl
/-- a size less a length -/
@[simp] def fitF (g : Fm × Fm) (len : Int) : Fm := (g.2.1, g.2.2 + -len)
def betB (n : Int) : Ru → Fm × Fm → Fm × Fm → Bool
  | .front, _, _ => false
  | .back, _, _ => true
  | .tight, g, o => decide (wo (le2 g.2 o.2) n < 0)
  | .wide, g, o => decide (0 < wo (le2 g.2 o.2) n)
def betA : Ru → Fm × Fm → Fm × Fm → List Fm
  | .front, _, _ => []
  | .back, _, _ => []
  | _, g, o => [le2 g.2 o.2]
theorem betA_len (ru : Ru) (g o : Fm × Fm) : (betA ru g o).length ≤ 1 := by cases ru <;> simp [betA]
@[simp] theorem sgn_ge (f : Fm) (n : Int) : (0 ≤ sgn f n) = (0 ≤ wo f n) := by
  unfold sgn
  apply propext
  split
  · omega
  · split <;> omega
@[simp] theorem sgn_lt (f : Fm) (n : Int) : (sgn f n < 0) = (wo f n < 0) := by
  unfold sgn
  apply propext
  split
  · omega
  · split <;> omega
@[simp] theorem sgn_gt (f : Fm) (n : Int) : (0 < sgn f n) = (0 < wo f n) := by
  unfold sgn
  apply propext
  split
  · omega
  · split <;> omega
@[simp] theorem sgn_eq (f : Fm) (n : Int) : (sgn f n = 0) = (wo f n = 0) := by
  unfold sgn
  apply propext
  split
  · omega
  · split <;> omega
def oiD : Option Nat → D
  | none => .non
  | some b => .int b
@[simp] theorem oiD_none : oiD none = .non := rfl
@[simp] theorem oiD_some (b : Nat) : oiD (some b) = .int b := rfl
def dflt : Fm × Fm := ((0, 0), (0, 0))
def gAt (gs : List (Fm × Fm)) (i : Nat) : Fm × Fm := gs[i]?.getD dflt
theorem gAt_eq {gs : List (Fm × Fm)} {i : Nat} (h : i < gs.length) : gs[i]? = some (gAt gs i) := by
  unfold gAt
  rw [List.getElem?_eq_getElem h]
  rfl
theorem gAt_mem {gs : List (Fm × Fm)} {i : Nat} (h : i < gs.length) : gAt gs i ∈ gs := by
  have := gAt_eq h
  exact List.mem_of_getElem? this
def scan (n len : Int) (ru : Ru) (gs : List (Fm × Fm)) : Nat → List (Fm × Fm) → Option Nat → List Fm → Option Nat × List Fm
  | _, [], best, a => (best, a)
  | i, g :: q, best, a => if 0 ≤ wo (fitF g len) n then
      (match best with
      | none => scan n len ru gs (i + 1) q (some i) (a ++ [fitF g len])
      | some b => scan n len ru gs (i + 1) q (if betB n ru g (gAt gs b) = true then some i else some b) (a ++ [fitF g len] ++ betA ru g (gAt gs b)))
    else scan n len ru gs (i + 1) q best (a ++ [fitF g len])
theorem scan_len (n len : Int) (ru : Ru) (gs : List (Fm × Fm)) : ∀ (q : List (Fm × Fm)) (i : Nat) (best : Option Nat) (a : List Fm), (scan n len ru gs i q best a).2.length ≤ a.length + 2 * q.length
  | [], _, _, a => by simp [scan]
  | g :: q, i, best, a => by
    unfold scan
    split
    · split
      · refine Nat.le_trans (scan_len n len ru gs q _ _ _) ?_
        simp; omega
      · rename_i b
        refine Nat.le_trans (scan_len n len ru gs q _ _ _) ?_
        have := betA_len ru g (gAt gs b)
        simp; omega
    · refine Nat.le_trans (scan_len n len ru gs q _ _ _) ?_
      simp; omega
theorem scan_lt (n len : Int) (ru : Ru) (gs : List (Fm × Fm)) : ∀ (q : List (Fm × Fm)) (i : Nat) (best : Option Nat) (a : List Fm), (∀ b, best = some b → b < gs.length) → i + q.length ≤ gs.length → ∀ b, (scan n len ru gs i q best a).1 = some b → b < gs.length
  | [], _, best, a, h, _, b, e => h b e
  | g :: q, i, best, a, h, hl, b, e => by
    rw [List.length_cons] at hl
    unfold scan at e
    split at e
    · split at e
      · exact scan_lt n len ru gs q _ _ _ (fun b q => by cases q; omega) (by omega) b e
      · rename_i b'
        refine scan_lt n len ru gs q _ _ _ (fun b q => ?_) (by omega) b e
        split at q
        · cases q; omega
        · exact h b q
    · exact scan_lt n len ru gs q _ _ _ h (by omega) b e
section
variable {L : Lw} [L.Std] {k : Nat} {S : Sto} {m : Nat} {n len : Int} {ls : List Int} {r : Row} {dd : List Bool} {ak : List Fm} {ru : Ru}
theorem is_fit_ok (hm : m < S.length) {g : Fm × Fm} (h : Gk g) (hl : ak.length + 1 ≤ LN) : L.run (k + 4) (.glo f_is_fit) [.cell m, gD g, .int len, .int n] (S.set m (stO ls r dd ak)) = .ok (.bl (decide (0 ≤ wo (fitF g len) n))) (S.set m (stO ls r dd (ak ++ [fitF g len]))) := by
  refine run_non h_is_fit rfl ⟨rfl, by decide⟩ ?_
  have e := asks_ok (L := L) (k := k) (S := S) (ls := ls) (r := r) (dd := dd) (ak := ak) (a := g.2.1) (b := g.2.2 + -len) (n := n) hm (mo _ _ (by have := h; unfold Gk at this; omega) (by have := h; unfold Gk at this; omega)) hl
  simp [d_is_fit, e]
  exact decide_eq_decide.mpr Iff.rfl
theorem better_ok (hm : m < S.length) {g o : Fm × Fm} (h : Gk g) (h2 : Gk o) (hl : ak.length + 1 ≤ LN) : L.run (k + 4) (.glo f_better) [.cell m, ruD ru, gD g, gD o, .int n] (S.set m (stO ls r dd ak)) = .ok (.bl (betB n ru g o)) (S.set m (stO ls r dd (ak ++ betA ru g o))) := by
  refine run_non h_better rfl ⟨rfl, by decide⟩ ?_
  have e := asks_ok (L := L) (k := k) (S := S) (ls := ls) (r := r) (dd := dd) (ak := ak) (a := g.2.1 - o.2.1) (b := g.2.2 - o.2.2) (n := n) hm (mo _ _ (by unfold Gk at h h2; omega) (by unfold Gk at h h2; omega)) hl
  cases ru <;> simp [d_better, e, betB, betA] <;> exact decide_eq_decide.mpr Iff.rfl
theorem choice_loop (hm : m < S.length) {gs : List (Fm × Fm)} (hg : ∀ g ∈ gs, Gk g) : ∀ (q : List (Fm × Fm)) (i : Nat) (best : Option Nat) (a : List Fm) (x y : Option D), (∀ g ∈ q, Gk g) → (∀ b, best = some b → b < gs.length) → i + q.length ≤ gs.length → a.length + 2 * q.length ≤ LN →
    ∃ x' y', evFor (.tp (.cons (.nm 6) (.cons (.nm 7) .nil))) (exss L.cons (L.run (k + 4)) L.fuel b_choice_0) (enumL i (q.map gD)) [some (.cell m), some (.int len), some (ruD ru), some (.int n), some (oiD best), some (.lst (gs.map gD)), x, y] (S.set m (stO ls r dd a)) = .nx [some (.cell m), some (.int len), some (ruD ru), some (.int n), some (oiD (scan n len ru gs i q best a).1), some (.lst (gs.map gD)), x', y'] (S.set m (stO ls r dd (scan n len ru gs i q best a).2))
  | [], i, best, a, x, y, _, _, _, _ => ⟨x, y, rfl⟩
  | g :: q, i, best, a, x, y, hq, hb, hi, hl => by
    have hgk := hq g List.mem_cons_self
    rw [List.length_cons] at hi
    have hl : a.length + 2 * (q.length + 1) ≤ 16777216 := by simpa using hl
    have e1 := is_fit_ok (L := L) (k := k) (S := S) (ls := ls) (r := r) (dd := dd) (ak := a) (len := len) (n := n) hm hgk (by simp; omega)
    rw [List.map_cons]
    unfold enumL evFor
    simp only [bindT, bindTs]
    unfold scan
    by_cases c : 0 ≤ wo (fitF g len) n
    · rw [if_pos c]
      cases best with
      | none =>
        obtain ⟨x', y', e⟩ := choice_loop hm hg q (i + 1) (some i) (a ++ [fitF g len]) (some (.int i)) (some (gD g)) (fun g hg => hq g (List.mem_cons_of_mem _ hg)) (fun b e => by cases e; omega) (by omega) (by simp; omega)
        refine ⟨x', y', ?_⟩
        have step : exss L.cons (L.run (k + 4)) L.fuel b_choice_0 [some (.cell m), some (.int len), some (ruD ru), some (.int n), some (oiD none), some (.lst (gs.map gD)), some (.int i), some (gD g)] (S.set m (stO ls r dd a)) = .nx [some (.cell m), some (.int len), some (ruD ru), some (.int n), some (oiD (some i)), some (.lst (gs.map gD)), some (.int i), some (gD g)] (S.set m (stO ls r dd (a ++ [fitF g len]))) := by
          have e1 := e1
          rw [decide_eq_true c] at e1
          simp at e1
          simp [b_choice_0, e1]
        exact (congrArg (fun z : Fl => z.then fun ρ S => evFor _ (exss L.cons (L.run (k + 4)) L.fuel b_choice_0) (enumL (i + 1) (q.map gD)) ρ S) step).trans e
      | some b =>
        have hb' := hb b rfl
        have e2 := better_ok (L := L) (k := k) (S := S) (ls := ls) (r := r) (dd := dd) (ak := a ++ [fitF g len]) (n := n) (ru := ru) hm hgk (hg _ (gAt_mem hb')) (by simp; omega)
        obtain ⟨x', y', e⟩ := choice_loop hm hg q (i + 1) (if betB n ru g (gAt gs b) = true then some i else some b) (a ++ [fitF g len] ++ betA ru g (gAt gs b)) (some (.int i)) (some (gD g)) (fun g hg => hq g (List.mem_cons_of_mem _ hg)) (fun b' e => by split at e <;> cases e <;> omega) (by omega) (by have := betA_len ru g (gAt gs b); simp; omega)
        refine ⟨x', y', ?_⟩
        have step : exss L.cons (L.run (k + 4)) L.fuel b_choice_0 [some (.cell m), some (.int len), some (ruD ru), some (.int n), some (oiD (some b)), some (.lst (gs.map gD)), some (.int i), some (gD g)] (S.set m (stO ls r dd a)) = .nx [some (.cell m), some (.int len), some (ruD ru), some (.int n), some (oiD (if betB n ru g (gAt gs b) = true then some i else some b)), some (.lst (gs.map gD)), some (.int i), some (gD g)] (S.set m (stO ls r dd (a ++ [fitF g len] ++ betA ru g (gAt gs b)))) := by
          have e1 := e1
          rw [decide_eq_true c] at e1
          simp at e1 e2
          cases q2 : betB n ru g (gAt gs b) <;> simp [b_choice_0, e1, atI_nat, gAt_eq hb', e2, q2]
        exact (congrArg (fun z : Fl => z.then fun ρ S => evFor _ (exss L.cons (L.run (k + 4)) L.fuel b_choice_0) (enumL (i + 1) (q.map gD)) ρ S) step).trans e
    · rw [if_neg c]
      obtain ⟨x', y', e⟩ := choice_loop hm hg q (i + 1) best (a ++ [fitF g len]) (some (.int i)) (some (gD g)) (fun g hg => hq g (List.mem_cons_of_mem _ hg)) hb (by omega) (by simp; omega)
      refine ⟨x', y', ?_⟩
      have step : exss L.cons (L.run (k + 4)) L.fuel b_choice_0 [some (.cell m), some (.int len), some (ruD ru), some (.int n), some (oiD best), some (.lst (gs.map gD)), some (.int i), some (gD g)] (S.set m (stO ls r dd a)) = .nx [some (.cell m), some (.int len), some (ruD ru), some (.int n), some (oiD best), some (.lst (gs.map gD)), some (.int i), some (gD g)] (S.set m (stO ls r dd (a ++ [fitF g len]))) := by
        have e1 := e1
        rw [decide_eq_false c] at e1
        simp at e1
        simp [b_choice_0, e1]
      exact (congrArg (fun z : Fl => z.then fun ρ S => evFor _ (exss L.cons (L.run (k + 4)) L.fuel b_choice_0) (enumL (i + 1) (q.map gD)) ρ S) step).trans e
abbrev chosen (ls : List Int) (r : Row) (ak : List Fm) (len : Int) (ru : Ru) (n : Int) : Option Nat × List Fm := scan n len ru (spaces ls r (0, 0)) 0 (spaces ls r (0, 0)) none ak
theorem choice_ok (hm : m < S.length) (hr : Rk ls r) (hl : r.length < 1000) (ha : ak.length < 1000000) : L.run (k + 5) (.glo f_choice) [.cell m, .int len, ruD ru, .int n] (S.set m (stO ls r dd ak)) = .ok (oiD (chosen ls r ak len ru n).1) (S.set m (stO ls r dd (chosen ls r ak len ru n).2)) := by
  refine run_non h_choice rfl ⟨rfl, by decide⟩ ?_
  have e0 := all_gaps_ok (L := L) (k := k + 2) (S := S.set m (stO ls r dd ak)) (m := m) (ls := ls) (r := r) (dd := dd) (ak := ak) (List.getElem?_set_self hm) hr hl
  have hg := spaces_ok ls r (0, 0) hr (by simp) (by simp)
  obtain ⟨x, y, e⟩ := choice_loop (L := L) (k := k) (S := S) (len := len) (n := n) (ls := ls) (r := r) (dd := dd) (ru := ru) hm hg (spaces ls r (0, 0)) 0 none ak none none hg (fun b e => by cases e) (by simp) (by rw [spaces_len]; simp; omega)
  simp at e
  simp [d_choice, e0]
  rw [e]
  simp
end
end KI


set_option Elab.async false
set_option linter.all false
set_option maxRecDepth 100000
set_option autoImplicit false
set_option maxHeartbeats 1000000
/-! A deed done. -/
namespace KI
open PySem
theorem evLc_mapA {α : Type} {turn : D → Sto → Res (Option D)} {S : Sto} (h : α → D) (f : α → Option D) : ∀ {as : List α} {acc : List D}, (∀ a ∈ as, turn (h a) S = .ok (f a) S) → acc.length + as.length < LN → evLc turn (as.map h) acc S = .ok (acc ++ as.filterMap f) S
  | [], acc, _, _ => by simp [evLc]
  | a :: as, acc, ht, hl => by
    rw [List.map_cons]
    unfold evLc
    rw [ht a List.mem_cons_self]
    rw [List.length_cons] at hl
    cases q : f a with
    | none =>
      show evLc turn (as.map h) acc S = _
      rw [evLc_mapA h f (fun y hy => ht y (List.mem_cons_of_mem _ hy)) (by omega)]
      simp [List.filterMap_cons, q]
    | some d =>
      show (if acc.length < LN then evLc turn (as.map h) (acc ++ [d]) S else .no) = _
      rw [if_pos (by omega), evLc_mapA h f (fun y hy => ht y (List.mem_cons_of_mem _ hy)) (by rw [List.length_append]; show acc.length + 1 + as.length < LN; omega)]
      simp [List.filterMap_cons, q]
theorem lc_mapA {α : Type} {cons : Nat → D} {call : Call} {own : List Nat} {tg : Tg} {it : It} {c : Oe} {e : Ex} {ρ : Env} {S : Sto} (h : α → D) (f : α → Option D) (as : List α) (hi : evi cons call it ρ S = .ok (as.map h) S)
    (ht : ∀ a ∈ as, (match bindT tg (h a) (wipeE ρ own) with
      | some ρ' => (evc cons call c ρ' S).bind fun b S => bif b then (ev cons call e ρ' S).bind fun d S => .ok (some d) S else .ok none S
      | none => .no) = .ok (f a) S) (hl : as.length < LN) : ev cons call (.lc own tg it c e) ρ S = .ok (.lst (as.filterMap f)) S := by
  show (evi cons call it ρ S).bind _ = _
  rw [hi]
  show (evLc _ (as.map h) [] S).bind _ = _
  rw [evLc_mapA h f ht (by simpa using hl)]
  rfl
theorem lc_allA {α : Type} {cons : Nat → D} {call : Call} {own : List Nat} {tg : Tg} {it : It} {e : Ex} {ρ : Env} {S : Sto} (h : α → D) (f : α → D) (as : List α) (hi : evi cons call it ρ S = .ok (as.map h) S)
    (ht : ∀ a ∈ as, (match bindT tg (h a) (wipeE ρ own) with
      | some ρ' => (ev cons call e ρ' S).bind fun d S => .ok (some d) S
      | none => .no) = .ok (some (f a)) S) (hl : as.length < LN) : ev cons call (.lc own tg it .none e) ρ S = .ok (.lst (as.map f)) S := by
  rw [lc_mapA (c := .none) (own := own) (tg := tg) (e := e) h (fun a => some (f a)) as hi (fun a ha => ht a ha) hl]
  rw [← List.filterMap_eq_map]
  rfl
@[simp] theorem cut_to {α : Type} (xs : List α) (i : Nat) : cut xs none (some (i : Int)) = xs.take i := by
  unfold cut
  rw [HT.sIx_none, HT.sIx_nat]
  by_cases h : i ≤ xs.length
  · simp [Nat.min_eq_left h]
  · rw [Nat.min_eq_right (by omega), List.take_of_length_le (show xs.length ≤ i by omega)]
    simp
@[simp] theorem cut_from {α : Type} (xs : List α) (i : Nat) : cut xs (some (i : Int)) none = xs.drop i := by
  unfold cut
  rw [HT.sIx_none, HT.sIx_nat]
  by_cases h : i ≤ xs.length
  · rw [Nat.min_eq_left h, List.take_of_length_le (by simp)]
  · rw [Nat.min_eq_right (by omega), List.drop_of_length_le (by omega), List.drop_of_length_le (by omega)]
    simp
@[simp] theorem cut_from1 {α : Type} (xs : List α) (i : Nat) : cut xs (some ((i : Int) + 1)) none = xs.drop (i + 1) := cut_from xs (i + 1)
@[simp] theorem atI_1n (xs : List D) (i : Nat) : L2.atI xs ((i : Int) + 1) = xs[i + 1]? := atI_nat xs (i + 1)
@[simp] theorem shpL_intm {α : Type} (f : α → Int) (k : Nat) : ∀ l : List α, shpL k (l.map fun x => D.int (f x)) = true
  | [] => by cases k <;> rfl
  | x :: l => by simp [shpL_intm f k l]
def placeF (ru : Ru) (g : Fm × Fm) (len : Int) : Fm := match ru with
  | .back => (g.1.1 + g.2.1, g.1.2 + g.2.2 + -len)
  | _ => g.1
def hasCar (r : Row) (c : Nat) : Bool := r.any fun x => decide (x.1 = c)
def parkP (ls : List Int) (r : Row) (ak : List Fm) (c : Nat) (ru : Ru) (n : Int) : Bool × Row × List Fm :=
  match (chosen ls r ak (lenAt ls c) ru n).1 with
  | none => (false, r, (chosen ls r ak (lenAt ls c) ru n).2)
  | some i => if hasCar r c = true then (false, r, (chosen ls r ak (lenAt ls c) ru n).2) else (true, r.take i ++ [(c, placeF ru (gAt (spaces ls r (0, 0)) i) (lenAt ls c))] ++ r.drop i, (chosen ls r ak (lenAt ls c) ru n).2)
/-- where a car stands -/
def spots (c : Nat) : Nat → Row → List Nat
  | _, [] => []
  | i, x :: r => if x.1 = c then i :: spots c (i + 1) r else spots c (i + 1) r
def spotP (r : Row) (c : Nat) : Option Nat := (spots c 0 r).head?
theorem spots_lt (c : Nat) : ∀ (i : Nat) (r : Row), ∀ j ∈ spots c i r, i ≤ j ∧ j < i + r.length
  | _, [], j, h => nomatch h
  | i, x :: r, j, h => by
    unfold spots at h
    rw [List.length_cons]
    split at h
    · rcases List.mem_cons.mp h with e | h
      · omega
      · have := spots_lt c (i + 1) r j h; omega
    · have := spots_lt c (i + 1) r j h; omega
theorem spotP_lt {r : Row} {c i : Nat} (h : spotP r c = some i) : i < r.length := by
  unfold spotP at h
  have := spots_lt c 0 r i (List.mem_of_mem_head? (by rw [h]; rfl))
  omega
def rAt (r : Row) (i : Nat) : Nat × Fm := r[i]?.getD (0, 0, 0)
theorem rAt_eq {r : Row} {i : Nat} (h : i < r.length) : r[i]? = some (rAt r i) := by
  unfold rAt
  rw [List.getElem?_eq_getElem h]
  rfl
def moveTo (r : Row) (i : Nat) (f : Fm) : Row := r.take i ++ [((rAt r i).1, f)] ++ r.drop (i + 1)
def shiftP (r : Row) (ak : List Fm) (i : Nat) (g : Fm × Fm) (f : Fm) (n : Int) : Bool × Row × List Fm :=
  if wo g.2 n = 0 then (false, r, ak ++ [g.2]) else (true, moveTo r i f, ak ++ [g.2])
inductive Dd | park (c : Nat) (ru : Ru) | leave (c : Nat) | pull (c : Nat) | drop (c : Nat)
  deriving DecidableEq
def Dd.car : Dd → Nat
  | .park c _ | .leave c | .pull c | .drop c => c
def ddD : Dd → D
  | .park c ru => .tup [.str "park", .int c, ruD ru]
  | .leave c => .tup [.str "leave", .int c]
  | .pull c => .tup [.str "pull", .int c]
  | .drop c => .tup [.str "drop", .int c]
@[simp] theorem ddD_park (c : Nat) (ru : Ru) : ddD (.park c ru) = .tup [.str "park", .int c, ruD ru] := rfl
@[simp] theorem ddD_leave (c : Nat) : ddD (.leave c) = .tup [.str "leave", .int c] := rfl
@[simp] theorem ddD_pull (c : Nat) : ddD (.pull c) = .tup [.str "pull", .int c] := rfl
@[simp] theorem ddD_drop (c : Nat) : ddD (.drop c) = .tup [.str "drop", .int c] := rfl
@[simp] theorem car_park (c : Nat) (ru : Ru) : (Dd.park c ru).car = c := rfl
@[simp] theorem car_leave (c : Nat) : (Dd.leave c).car = c := rfl
@[simp] theorem car_pull (c : Nat) : (Dd.pull c).car = c := rfl
@[simp] theorem car_drop (c : Nat) : (Dd.drop c).car = c := rfl
def doP (ls : List Int) (r : Row) (ak : List Fm) (n : Int) : Dd → Bool × Row × List Fm
  | .park c ru => parkP ls r ak c ru n
  | .leave c => match spotP r c with
    | none => (false, r, ak)
    | some i => (true, r.take i ++ r.drop (i + 1), ak)
  | .pull c => match spotP r c with
    | none => (false, r, ak)
    | some i => shiftP r ak i (gAt (spaces ls r (0, 0)) i) (gAt (spaces ls r (0, 0)) i).1 n
  | .drop c => match spotP r c with
    | none => (false, r, ak)
    | some i => shiftP r ak i (gAt (spaces ls r (0, 0)) (i + 1)) (ad (rAt r i).2 (gAt (spaces ls r (0, 0)) (i + 1)).2) n
section
variable {L : Lw} [L.Std] {k : Nat} {S : Sto} {m : Nat} {n len : Int} {ls : List Int} {r : Row} {dd : List Bool} {ak : List Fm} {ru : Ru}
theorem place_in_ok {g : Fm × Fm} : L.run (k + 2) (.glo f_place_in) [gD g, .int len, ruD ru] S = .ok (fD (placeF ru g len)) S := by
  refine run_reg (S' := []) h_place_in rfl ⟨rfl, by decide⟩ (by simp) ?_ (by cases ru <;> simp)
  cases ru <;> simp [d_place_in, placeF]
theorem cars_lc {cons : Nat → D} {call : Call} {tg : Tg} {it : It} {own : List Nat} {e : Ex} {ρ : Env} {r : Row} (hi : evi cons call it ρ S = .ok (r.map cD) S) (ht : ∀ a ∈ r, (match bindT tg (cD a) (wipeE ρ own) with
      | some ρ' => (ev cons call e ρ' S).bind fun d S => .ok (some d) S
      | none => .no) = .ok (some (.int a.1)) S) (hl : r.length < 1000) : ev cons call (.lc own tg it .none e) ρ S = .ok (.lst (r.map fun a => .int a.1)) S := lc_allA cD (fun a => .int a.1) r hi ht (by simp; omega)
theorem any_cars (r : Row) (c : Nat) : ((r.map fun a => D.int a.1).any fun y => eqD y (.int c)) = hasCar r c := by
  unfold hasCar
  rw [List.any_map]
  congr 1
  funext x
  simp
  by_cases h : x.1 = c <;> simp [h] <;> omega
theorem any_cars2 (r : Row) (c : Nat) : r.any ((fun y => eqD y (.int c)) ∘ fun a => D.int a.1) = hasCar r c := by
  rw [← any_cars, List.any_map]
theorem parked_ok (hm : m < S.length) (hr : Rk ls r) (hl : r.length < 1000) (ha : ak.length < 1000000) {c : Nat} (hc : c < ls.length) :
    L.run (k + 6) (.glo f_parked) [.cell m, .int c, ruD ru, .int n] (S.set m (stO ls r dd ak)) = .ok (.bl (parkP ls r ak c ru n).1) (S.set m (stO ls (parkP ls r ak c ru n).2.1 dd (parkP ls r ak c ru n).2.2)) := by
  refine run_non h_parked rfl ⟨rfl, by decide⟩ ?_
  have e0 := choice_ok (L := L) (k := k) (S := S) (len := lenAt ls c) (n := n) (ls := ls) (r := r) (dd := dd) (ak := ak) (ru := ru) hm hr hl ha
  have e1 := all_gaps_ok (L := L) (k := k + 3) (S := S.set m (stO ls r dd (chosen ls r ak (lenAt ls c) ru n).2)) (m := m) (ls := ls) (r := r) (dd := dd) (ak := (chosen ls r ak (lenAt ls c) ru n).2) (List.getElem?_set_self hm) hr hl
  have g0 : idxD (S.set m (stO ls r dd ak)) (.cell m) (.str "row") = some (rwD r) := by simp [List.getElem?_set_self hm, stO]
  have g1 : idxD (S.set m (stO ls r dd ak)) (.cell m) (.str "lengths") = some (lsD ls) := by simp [List.getElem?_set_self hm, stO]
  unfold parkP
  cases q : (chosen ls r ak (lenAt ls c) ru n).1 with
  | none =>
    rw [q] at e0
    simp only [oiD] at e0
    simp [-i_cells, d_parked, g0, g1, lsD, atI_nat, lenAt_eq hc, e0]
  | some i =>
    have hi : i < (spaces ls r (0, 0)).length := scan_lt n (lenAt ls c) ru (spaces ls r (0, 0)) (spaces ls r (0, 0)) 0 none ak (fun b e => by cases e) (by simp) i q
    rw [q] at e0
    simp only [oiD] at e0
    have e2 : ∀ S, ev L.cons (L.run (k + 5)) l_parked_0 [some (.cell m), some (.int c), some (ruD ru), some (.int n), some (.int i), none, some (rwD r), some (.int (lenAt ls c)), none] S = .ok (.lst (r.map fun a => .int a.1)) S := fun S => by
      refine cars_lc (by simp [rwD]) (fun a ha => by simp) hl
    have e3 := place_in_ok (L := L) (k := k + 3) (S := S.set m (stO ls r dd (chosen ls r ak (lenAt ls c) ru n).2)) (len := lenAt ls c) (ru := ru) (g := gAt (spaces ls r (0, 0)) i)
    have hl2 : r.length + 1 ≤ 16777216 := by omega
    have hl3 : min i r.length + 1 ≤ 16777216 := by omega
    have hl4 : min i r.length + (1 + (r.length - i)) ≤ 16777216 := by omega
    have hl5 : min i r.length + 1 + (r.length - i) ≤ 16777216 := by omega
    simp only
    cases qc : hasCar r c with
    | true =>
      simp [-i_cells, d_parked, g0, g1, lsD, atI_nat, lenAt_eq hc, e0, e2, any_cars2, qc]
    | false =>
      simp at e3
      simp [-i_cells, d_parked, g0, g1, lsD, atI_nat, lenAt_eq hc, e0, e2, any_cars2, qc, e1, atI_nat, gAt_eq hi, e3]
      simp [rwD, stO, List.getElem?_set_self hm, List.set_set, hl3, hl5]
theorem spot_lc (r : Row) (c : Nat) : ∀ i : Nat, (enumL i (r.map cD)).filterMap (fun x => match x with
    | .tup [a, .tup [.int b, _]] => if b = (c : Int) then some a else none
    | _ => none) = (spots c i r).map fun j => D.int (j : Nat) := by
  induction r with
  | nil => intro i; rfl
  | cons x r ih =>
    intro i
    obtain ⟨a, p⟩ := x
    have h := ih (i + 1)
    show List.filterMap _ (.tup [.int i, cD (a, p)] :: enumL (i + 1) (r.map cD)) = _
    rw [List.filterMap_cons]
    unfold spots
    by_cases e : a = c
    · subst e
      simpa using h
    · have e2 : ¬ (a : Int) = (c : Int) := by omega
      simpa [e, e2] using h
theorem enumL_mem : ∀ {r : Row} {i : Nat} {x : D}, x ∈ enumL i (r.map cD) → ∃ (j : Nat) (c : Nat × Fm), x = .tup [.int j, cD c]
  | [], _, _, h => nomatch h
  | c :: r, i, x, h => by
    rcases List.mem_cons.mp (show x ∈ .tup [.int i, cD c] :: enumL (i + 1) (r.map cD) from h) with e | h
    · exact ⟨i, c, e⟩
    · exact enumL_mem h
theorem spots_len (c : Nat) : ∀ (i : Nat) (r : Row), (spots c i r).length ≤ r.length
  | _, [] => by simp [spots]
  | i, x :: r => by
    unfold spots
    have := spots_len c (i + 1) r
    split <;> simp <;> omega
theorem spot_of_ok (hm : m < S.length) (hl : r.length < 1000) {c : Nat} : L.run (k + 1) (.glo f_spot_of) [.cell m, .int c] (S.set m (stO ls r dd ak)) = .ok (oiD (spotP r c)) (S.set m (stO ls r dd ak)) := by
  refine run_non h_spot_of rfl ⟨rfl, by decide⟩ ?_
  have g0 : idxD (S.set m (stO ls r dd ak)) (.cell m) (.str "row") = some (rwD r) := by simp [List.getElem?_set_self hm, stO]
  have e2 : ev L.cons (L.run k) l_spot_of_0 [some (.cell m), some (.int c), none, none, none, none] (S.set m (stO ls r dd ak)) = .ok (.lst ((spots c 0 r).map fun j => D.int (j : Nat))) (S.set m (stO ls r dd ak)) := by
    rw [← spot_lc]
    refine lc_map _ (by simp [-i_cells, g0, rwD]) (fun x hx => ?_) (by rw [enumL_length]; simp; omega)
    obtain ⟨j, c', rfl⟩ := enumL_mem hx
    by_cases e : (c'.1 : Int) = (c : Int)
    · simp [e]
    · have e3 : ((c'.1 : Int) == (c : Int)) = false := by simpa using e
      simp [e, e3]
  unfold spotP
  cases q : spots c 0 r with
  | nil =>
    rw [q] at e2
    simp [d_spot_of, e2]
  | cons j js =>
    rw [q] at e2
    simp [d_spot_of, e2]
theorem shifted_ok (hm : m < S.length) (hl : r.length < 1000) (ha : ak.length < 1000000) {g : Fm × Fm} {f : Fm} (hg : Gk g) {i : Nat} (hi : i < r.length) :
    L.run (k + 4) (.glo f_shifted) [.cell m, .int i, gD g, fD f, .int n] (S.set m (stO ls r dd ak)) = .ok (.bl (shiftP r ak i g f n).1) (S.set m (stO ls (shiftP r ak i g f n).2.1 dd (shiftP r ak i g f n).2.2)) := by
  refine run_non h_shifted rfl ⟨rfl, by decide⟩ ?_
  have e0 := asks_ok (L := L) (k := k) (S := S) (ls := ls) (r := r) (dd := dd) (ak := ak) (a := g.2.1) (b := g.2.2) (n := n) hm (mo _ _ (by unfold Gk at hg; omega) (by unfold Gk at hg; omega)) (by simp; omega)
  have g0 : idxD (S.set m (stO ls r dd (ak ++ [g.2]))) (.cell m) (.str "row") = some (rwD r) := by simp [List.getElem?_set_self hm, stO]
  have hl5 : i + 1 + (r.length - (i + 1)) ≤ 16777216 := by omega
  have hl3 : min i r.length + 1 ≤ 16777216 := by omega
  have hl6 : min i r.length + 1 + (r.length - (i + 1)) ≤ 16777216 := by omega
  have hl7 : min i r.length ≤ 16777215 := by omega
  unfold shiftP
  by_cases q : wo g.2 n = 0
  · rw [if_pos q]
    have q2 : (sgn (g.2.1, g.2.2) n == 0) = true := by rw [beq_iff_eq, sgn_eq]; exact q
    simp [d_shifted, e0, q2]
  · rw [if_neg q]
    have q : (sgn (g.2.1, g.2.2) n == 0) = false := by rw [beq_eq_false_iff_ne, ne_eq, sgn_eq]; exact q
    simp [-i_cells, d_shifted, e0, q, g0, rwD, atI_nat, rAt_eq hi]
    simp [rwD, stO, moveTo, List.getElem?_set_self hm, List.set_set, hl7, hl6]
end
end KI


set_option Elab.async false
set_option linter.all false
set_option maxRecDepth 100000
set_option autoImplicit false
set_option maxHeartbeats 1000000
/-! All deeds done. -/
namespace KI
open PySem
theorem placeF_ok {ru : Ru} {g : Fm × Fm} {len : Int} (h : Gk g) : 0 ≤ (placeF ru g len).1 ∧ (placeF ru g len).1 ≤ 1 := by
  obtain ⟨h1, h2, h3, h4⟩ := h
  cases ru <;> exact ⟨by assumption, by assumption⟩
theorem Rk.take {ls : List Int} {r : Row} (h : Rk ls r) (i : Nat) : Rk ls (r.take i) := fun c hc => h c (List.mem_of_mem_take hc)
theorem Rk.drop {ls : List Int} {r : Row} (h : Rk ls r) (i : Nat) : Rk ls (r.drop i) := fun c hc => h c (List.mem_of_mem_drop hc)
theorem Rk.app {ls : List Int} {r q : Row} (h : Rk ls r) (h2 : Rk ls q) : Rk ls (r ++ q) := fun c hc => (List.mem_append.mp hc).elim (h c) (h2 c)
theorem Rk.one {ls : List Int} {c : Nat} {f : Fm} (h : c < ls.length) (h1 : 0 ≤ f.1 ∧ f.1 ≤ 1) : Rk ls [(c, f)] := fun x hx => by
  have : x = (c, f) := by simpa using hx
  subst this
  exact ⟨h, h1.1, h1.2⟩
theorem rAt_mem {r : Row} {i : Nat} (h : i < r.length) : rAt r i ∈ r := List.mem_of_getElem? (rAt_eq h)
theorem moveTo_rk {ls : List Int} {r : Row} (h : Rk ls r) {i : Nat} (hi : i < r.length) {f : Fm} (h1 : 0 ≤ f.1 ∧ f.1 ≤ 1) : Rk ls (moveTo r i f) := ((h.take i).app (.one (h _ (rAt_mem hi)).1 h1)).app (h.drop _)
theorem moveTo_len {r : Row} {i : Nat} {f : Fm} : (moveTo r i f).length ≤ r.length + 1 := by simp [moveTo]; omega
theorem chosen_lt {ls : List Int} {r : Row} {ak : List Fm} {len n : Int} {ru : Ru} {i : Nat} (q : (chosen ls r ak len ru n).1 = some i) : i < (spaces ls r (0, 0)).length :=
  scan_lt n len ru (spaces ls r (0, 0)) (spaces ls r (0, 0)) 0 none ak (fun b e => by cases e) (by simp) i q
theorem chosen_len (ls : List Int) (r : Row) (ak : List Fm) (len n : Int) (ru : Ru) : (chosen ls r ak len ru n).2.length ≤ ak.length + 2 * (r.length + 1) := by
  have := scan_len n len ru (spaces ls r (0, 0)) (spaces ls r (0, 0)) 0 none ak
  rw [spaces_len] at this
  exact this
theorem drop_gk {ls : List Int} {r : Row} (h : Rk ls r) {i : Nat} (hi : i < r.length) : 0 ≤ (ad (rAt r i).2 (gAt (spaces ls r (0, 0)) (i + 1)).2).1 ∧ (ad (rAt r i).2 (gAt (spaces ls r (0, 0)) (i + 1)).2).1 ≤ 1 := by
  obtain ⟨g, h1, h2⟩ := spaces_get ls r (0, 0) (rAt_eq hi)
  have e : gAt (spaces ls r (0, 0)) (i + 1) = g := by unfold gAt; rw [h1]; rfl
  rw [e]
  obtain ⟨_, _, h3, h4⟩ := spaces_ok ls r (0, 0) h (by simp) (by simp) g (List.mem_of_getElem? h1)
  rw [h2] at h3 h4
  exact ⟨h3, h4⟩
theorem shiftP_ok {ls : List Int} {r : Row} (ak : List Fm) {n : Int} {i : Nat} (g : Fm × Fm) {f : Fm} (h : Rk ls r) (hi : i < r.length) (h1 : 0 ≤ f.1 ∧ f.1 ≤ 1) : Rk ls (shiftP r ak i g f n).2.1 ∧ (shiftP r ak i g f n).2.1.length ≤ r.length + 1 ∧ (shiftP r ak i g f n).2.2.length ≤ ak.length + 2 * (r.length + 1) := by
  unfold shiftP
  split
  · exact ⟨h, by simp, by simp; omega⟩
  · exact ⟨moveTo_rk h hi h1, moveTo_len, by simp; omega⟩
theorem doP_ok (ls : List Int) (r : Row) (ak : List Fm) (n : Int) (d : Dd) (h : Rk ls r) (hd : d.car < ls.length) : Rk ls (doP ls r ak n d).2.1 ∧ (doP ls r ak n d).2.1.length ≤ r.length + 1 ∧ (doP ls r ak n d).2.2.length ≤ ak.length + 2 * (r.length + 1) := by
  have hg := spaces_ok ls r (0, 0) h (by simp) (by simp)
  cases d with
  | park c ru =>
    show Rk ls (parkP ls r ak c ru n).2.1 ∧ (parkP ls r ak c ru n).2.1.length ≤ _ ∧ (parkP ls r ak c ru n).2.2.length ≤ _
    have hc := chosen_len ls r ak (lenAt ls c) n ru
    unfold parkP
    split
    · exact ⟨h, by simp, hc⟩
    · rename_i i q
      split
      · exact ⟨h, by simp, hc⟩
      · exact ⟨((h.take i).app (.one hd (placeF_ok (hg _ (gAt_mem (chosen_lt q)))))).app (h.drop i), by simp; omega, hc⟩
  | leave c =>
    simp only [doP]
    cases q : spotP r c with
    | none => exact ⟨h, by simp, by simp⟩
    | some i => exact ⟨(h.take i).app (h.drop _), by simp; omega, by simp⟩
  | pull c =>
    simp only [doP]
    cases q : spotP r c with
    | none => exact ⟨h, by simp, by simp⟩
    | some i =>
      have hi := spotP_lt q
      have hm := hg _ (gAt_mem (i := i) (by rw [spaces_len]; omega))
      exact shiftP_ok ak _ h hi ⟨hm.1, hm.2.1⟩
  | drop c =>
    simp only [doP]
    cases q : spotP r c with
    | none => exact ⟨h, by simp, by simp⟩
    | some i => exact shiftP_ok ak _ h (spotP_lt q) (drop_gk h (spotP_lt q))
/-- all deeds: the row, what was done, what was asked -/
def runP (ls : List Int) (n : Int) : List Dd → Row → List Bool → List Fm → Row × List Bool × List Fm
  | [], r, b, a => (r, b, a)
  | d :: ds, r, b, a => runP ls n ds (doP ls r a n d).2.1 (b ++ [(doP ls r a n d).1]) (doP ls r a n d).2.2
theorem runP_ok (ls : List Int) (n : Int) : ∀ (ds : List Dd) (r : Row) (b : List Bool) (a : List Fm), Rk ls r → (∀ d ∈ ds, d.car < ls.length) → r.length + ds.length ≤ 1000 → Rk ls (runP ls n ds r b a).1 ∧ (runP ls n ds r b a).1.length ≤ r.length + ds.length ∧ (runP ls n ds r b a).2.1.length = b.length + ds.length ∧ (runP ls n ds r b a).2.2.length ≤ a.length + 2002 * ds.length
  | [], r, b, a, h, _, _ => ⟨h, by simp [runP], by simp [runP], by simp [runP]⟩
  | d :: ds, r, b, a, h, hd, hl => by
    rw [List.length_cons] at hl
    obtain ⟨h1, h2, h3⟩ := doP_ok ls r a n d h (hd d List.mem_cons_self)
    obtain ⟨g1, g2, g3, g4⟩ := runP_ok ls n ds (doP ls r a n d).2.1 (b ++ [(doP ls r a n d).1]) (doP ls r a n d).2.2 h1 (fun d hd' => hd d (List.mem_cons_of_mem _ hd')) (by omega)
    refine ⟨g1, ?_, ?_, ?_⟩
    · show (runP ls n ds _ _ _).1.length ≤ _
      rw [List.length_cons]; omega
    · show (runP ls n ds _ _ _).2.1.length = _
      rw [g3, List.length_append, List.length_cons]
      simp; omega
    · show (runP ls n ds _ _ _).2.2.length ≤ _
      rw [List.length_cons]; omega
def plD (ls : List Int) (ds : List Dd) : D := .tup [lsD ls, .tup (ds.map ddD)]
section
variable {L : Lw} [L.Std] {k : Nat} {S : Sto} {m : Nat} {n : Int} {ls : List Int} {r : Row} {dd : List Bool} {ak : List Fm}
theorem do_ok (hm : m < S.length) (hr : Rk ls r) (hl : r.length < 1000) (ha : ak.length < 1000000) {d : Dd} (hc : d.car < ls.length) :
    L.run (k + 7) (.glo f_do) [.cell m, ddD d, .int n] (S.set m (stO ls r dd ak)) = .ok (.bl (doP ls r ak n d).1) (S.set m (stO ls (doP ls r ak n d).2.1 dd (doP ls r ak n d).2.2)) := by
  refine run_non h_do rfl ⟨rfl, by decide⟩ ?_
  have g0 : idxD (S.set m (stO ls r dd ak)) (.cell m) (.str "row") = some (rwD r) := by simp [List.getElem?_set_self hm, stO]
  have hg := spaces_ok ls r (0, 0) hr (by simp) (by simp)
  have eg := all_gaps_ok (L := L) (k := k + 4) (S := S.set m (stO ls r dd ak)) (m := m) (ls := ls) (r := r) (dd := dd) (ak := ak) (List.getElem?_set_self hm) hr hl
  cases d with
  | park c ru =>
    have e := parked_ok (L := L) (k := k) (S := S) (n := n) (ls := ls) (r := r) (dd := dd) (ak := ak) (ru := ru) (c := c) hm hr hl ha hc
    simp [d_do, e, doP]
  | leave c =>
    have e1 := spot_of_ok (L := L) (k := k + 5) (S := S) (ls := ls) (r := r) (dd := dd) (ak := ak) (c := c) hm hl
    simp only [doP]
    cases q : spotP r c with
    | none =>
      rw [q] at e1
      simp at e1
      simp [d_do, e1]
    | some i =>
      rw [q] at e1
      simp at e1
      have hi := spotP_lt q
      have hl6 : min i r.length + (r.length - (i + 1)) ≤ 16777216 := by omega
      simp [-i_cells, d_do, e1, g0, eg]
      simp [rwD, stO, List.getElem?_set_self hm, List.set_set, hl6]
  | pull c =>
    have e1 := spot_of_ok (L := L) (k := k + 5) (S := S) (ls := ls) (r := r) (dd := dd) (ak := ak) (c := c) hm hl
    simp only [doP]
    cases q : spotP r c with
    | none =>
      rw [q] at e1
      simp at e1
      simp [d_do, e1]
    | some i =>
      rw [q] at e1
      simp at e1
      have hi := spotP_lt q
      have hi2 : i < (spaces ls r (0, 0)).length := by rw [spaces_len]; omega
      have e2 := shifted_ok (L := L) (k := k + 2) (S := S) (n := n) (ls := ls) (r := r) (dd := dd) (ak := ak) (f := (gAt (spaces ls r (0, 0)) i).1) hm hl ha (hg _ (gAt_mem hi2)) hi
      simp at e2
      simp [-i_cells, d_do, e1, g0, eg, atI_nat, gAt_eq hi2, e2]
  | drop c =>
    have e1 := spot_of_ok (L := L) (k := k + 5) (S := S) (ls := ls) (r := r) (dd := dd) (ak := ak) (c := c) hm hl
    simp only [doP]
    cases q : spotP r c with
    | none =>
      rw [q] at e1
      simp at e1
      simp [d_do, e1]
    | some i =>
      rw [q] at e1
      simp at e1
      have hi := spotP_lt q
      have hi2 : i + 1 < (spaces ls r (0, 0)).length := by rw [spaces_len]; omega
      have e2 := shifted_ok (L := L) (k := k + 2) (S := S) (n := n) (ls := ls) (r := r) (dd := dd) (ak := ak) (f := ad (rAt r i).2 (gAt (spaces ls r (0, 0)) (i + 1)).2) hm hl ha (hg _ (gAt_mem hi2)) hi
      simp at e2
      simp [-i_cells, d_do, e1, g0, eg, atI_nat, gAt_eq hi2, e2, rwD, rAt_eq hi]
theorem last_loop (hm : m < S.length) {x0 : Option D} : ∀ (ds : List Dd) (r : Row) (b : List Bool) (a : List Fm) (x y : Option D), Rk ls r → (∀ d ∈ ds, d.car < ls.length) → r.length + ds.length < 1000 → b.length + ds.length < 1000 → a.length + 2002 * ds.length < 1000000 →
    ∃ x' y', evFor (.nm 3) (exss L.cons (L.run (k + 7)) L.fuel b_last_of_0) (ds.map ddD) [x0, some (.int n), some (.cell m), x, y] (S.set m (stO ls r b a)) = .nx [x0, some (.int n), some (.cell m), x', y'] (S.set m (stO ls (runP ls n ds r b a).1 (runP ls n ds r b a).2.1 (runP ls n ds r b a).2.2))
  | [], r, b, a, x, y, _, _, _, _, _ => ⟨x, y, rfl⟩
  | d :: ds, r, b, a, x, y, hr, hd, hl, hb, ha => by
    rw [List.length_cons] at hl hb ha
    obtain ⟨h1, h2, h3⟩ := doP_ok ls r a n d hr (hd d List.mem_cons_self)
    have e0 := do_ok (L := L) (k := k) (S := S) (n := n) (ls := ls) (r := r) (dd := b) (ak := a) hm hr (by omega) (by omega) (hd d List.mem_cons_self)
    obtain ⟨x', y', e⟩ := last_loop hm ds (doP ls r a n d).2.1 (b ++ [(doP ls r a n d).1]) (doP ls r a n d).2.2 (some (ddD d)) (some (.bl (doP ls r a n d).1)) h1 (fun d hd' => hd d (List.mem_cons_of_mem _ hd')) (by omega) (by simp; omega) (by omega)
    refine ⟨x', y', ?_⟩
    rw [List.map_cons]
    unfold evFor
    simp only [bindT]
    have hb2 : b.length + 1 ≤ 16777216 := by omega
    have step : exss L.cons (L.run (k + 7)) L.fuel b_last_of_0 [x0, some (.int n), some (.cell m), some (ddD d), y] (S.set m (stO ls r b a)) = .nx [x0, some (.int n), some (.cell m), some (ddD d), some (.bl (doP ls r a n d).1)] (S.set m (stO ls (doP ls r a n d).2.1 (b ++ [(doP ls r a n d).1]) (doP ls r a n d).2.2)) := by
      simp [b_last_of_0, e0]
      simp [diD, stO, List.getElem?_set_self hm, List.set_set, hb2]
    exact (congrArg (fun z : Fl => z.then fun ρ S => evFor _ (exss L.cons (L.run (k + 7)) L.fuel b_last_of_0) (ds.map ddD) ρ S) step).trans e
/-- a plan that may be asked -/
structure Pk (ls : List Int) (ds : List Dd) : Prop where
  l0 : 1 ≤ ls.length
  l1 : ls.length ≤ 5
  ln : ∀ x ∈ ls, 2 ≤ x ∧ x ≤ 9
  d1 : ds.length ≤ 8
  car : ∀ d ∈ ds, d.car < ls.length
abbrev endP (ls : List Int) (ds : List Dd) (n : Int) : Row × List Bool × List Fm := runP ls n ds [] [] []
theorem last_of_ok {ds : List Dd} (h : Pk ls ds) : L.run (k + 8) (.glo f_last_of) [plD ls ds, .int n] S = .ok (.cell S.length) (S ++ [stO ls (endP ls ds n).1 (endP ls ds n).2.1 (endP ls ds n).2.2]) := by
  refine run_non h_last_of rfl ⟨rfl, by decide⟩ ?_
  have hd := h.d1
  have e0 := begun_ok (L := L) (k := k + 6) (S := S) (ls := ls)
  have hS : ∀ o : Ob, (S ++ [stO ls [] [] []]).set S.length o = S ++ [o] := fun o => by simp
  obtain ⟨x, y, e⟩ := last_loop (L := L) (k := k) (S := S ++ [stO ls [] [] []]) (m := S.length) (n := n) (ls := ls) (x0 := some (plD ls ds)) (by simp) ds [] [] [] none none (fun _ h => nomatch h) h.car (by simp; omega) (by simp; omega) (by simp; omega)
  rw [hS, hS] at e
  simp [d_last_of, plD, e0]
  simp [plD] at e
  rw [e]
  simp
theorem endP_ok {ds : List Dd} (h : Pk ls ds) : Rk ls (endP ls ds n).1 ∧ (endP ls ds n).1.length ≤ 8 ∧ (endP ls ds n).2.1.length = ds.length ∧ (endP ls ds n).2.2.length ≤ 16016 := by
  have hd := h.d1
  obtain ⟨h1, h2, h3, h4⟩ := runP_ok ls n ds [] [] [] (fun _ h => nomatch h) h.car (by simp; omega)
  exact ⟨h1, Nat.le_trans h2 (by simp; omega), by simpa using h3, Nat.le_trans h4 (by simp; omega)⟩
end
end KI


set_option Elab.async false
set_option linter.all false
set_option maxRecDepth 100000
set_option autoImplicit false
set_option maxHeartbeats 1000000
/-! What is told of a plan with a length. -/
namespace KI
open PySem
theorem ru_gd (ru : Ru) (h w : Nat) : gd h w (ruD ru) = true := by
  cases ru <;> exact gd_str0 (by decide +kernel) h w
theorem ru_wd (ru : Ru) : isWd (ruD ru) wdRule = true := by cases ru <;> decide +kernel
theorem dd_gd (d : Dd) : gd 1 3 (ddD d) = true := by
  cases d with
  | park c ru =>
    show (decide (3 ≤ 3) && (_ && (_ && (_ && true)))) = true
    rw [gd_str0 (by decide +kernel) 0 3, ru_gd]
    rfl
  | leave c =>
    show (decide (2 ≤ 3) && (_ && (_ && true))) = true
    rw [gd_str0 (by decide +kernel) 0 3]
    rfl
  | pull c =>
    show (decide (2 ≤ 3) && (_ && (_ && true))) = true
    rw [gd_str0 (by decide +kernel) 0 3]
    rfl
  | drop c =>
    show (decide (2 ≤ 3) && (_ && (_ && true))) = true
    rw [gd_str0 (by decide +kernel) 0 3]
    rfl
theorem dd_deed {d : Dd} {n : Nat} (h : d.car < n) : isDeed n (ddD d) = true := by
  have e1 : isWd (.str "park") wdPark = true := by decide +kernel
  have e2 : isWd (.str "leave") wdMove = true := by decide +kernel
  have e3 : isWd (.str "pull") wdMove = true := by decide +kernel
  have e4 : isWd (.str "drop") wdMove = true := by decide +kernel
  cases d with
  | park c ru =>
    have h : c < n := h
    simp [isDeed, isNum, e1, ru_wd]; omega
  | leave c =>
    have h : c < n := h
    simp [isDeed, isNum, e2]; omega
  | pull c =>
    have h : c < n := h
    simp [isDeed, isNum, e3]; omega
  | drop c =>
    have h : c < n := h
    simp [isDeed, isNum, e4]; omega
theorem Pk.plan {ls : List Int} {ds : List Dd} (h : Pk ls ds) : isPlan (plD ls ds) = true := by
  have h0 := h.l0
  have h1 := h.l1
  have h2 := h.d1
  simp only [plD, lsD, isPlan, isLens, isTup, List.length_map, Bool.and_eq_true, decide_eq_true_eq, List.all_eq_true, List.mem_map]
  refine ⟨⟨⟨by omega, by omega⟩, ?_⟩, ⟨by omega, by omega⟩, ?_⟩
  · rintro _ ⟨x, hx, rfl⟩
    obtain ⟨a, b⟩ := h.ln x hx
    simp [isNum, a, b]
  · rintro _ ⟨d, hd, rfl⟩
    exact dd_deed (h.car d hd)
theorem Pk.gd {ls : List Int} {ds : List Dd} (h : Pk ls ds) : gd 3 8 (plD ls ds) = true := by
  have h1' := h.l1
  have h2' := h.d1
  have h1 : KI.gd 2 8 (lsD ls) = true := by
    show (decide ((ls.map D.int).length ≤ 8) && _) = true
    rw [decide_eq_true (by rw [List.length_map]; omega), gdL_of]
    · rfl
    · intro x hx
      obtain ⟨y, _, rfl⟩ := List.mem_map.mp hx
      rfl
  have h2 : KI.gd 2 8 (.tup (ds.map ddD)) = true := by
    show (decide ((ds.map ddD).length ≤ 8) && _) = true
    rw [decide_eq_true (by rw [List.length_map]; omega), gdL_of]
    · rfl
    · intro x hx
      obtain ⟨y, _, rfl⟩ := List.mem_map.mp hx
      exact gd_le (h := 1) (k := 1) (w := 3) (v := 8) _ (by omega) (by omega) (dd_gd y)
  show (decide (2 ≤ 8) && (_ && (_ && true))) = true
  rw [h1, h2]
  rfl
/-- a length that may be asked -/
def Nk (n : Int) : Prop := 10 ≤ n ∧ n ≤ 10 ^ 30
theorem rngL_map (n : Nat) : ∀ lo : Int, rngL lo n = (List.range n).map fun j => D.int (lo + (j : Nat)) := by
  induction n with
  | zero => intro lo; rfl
  | succ n ih =>
    intro lo
    rw [List.range_succ_eq_map, List.map_cons, List.map_map]
    show D.int lo :: rngL (lo + 1) n = _
    rw [ih (lo + 1)]
    congr 1
    · simp
    · apply List.map_congr_left
      intro j _
      simp only [Function.comp]
      congr 1
      push_cast
      omega
theorem rngL_nat (n : Nat) : rngL 0 n = (List.range n).map fun j => D.int (j : Nat) := by
  rw [rngL_map]
  apply List.map_congr_left
  intro j _
  simp
def placeOf (r : Row) (c : Nat) : Option Fm := (spotP r c).map fun i => (rAt r i).2
def ofD : Option Fm → D
  | none => .non
  | some f => fD f
def owD : Option Int → D
  | none => .non
  | some f => .int f
theorem evLc_mapS {α : Type} {turn : D → Sto → Res (Option D)} (h : α → D) (f : α → Option D) (T : List α → Sto) (B : Nat) : ∀ {as : List α} {acc : List D} {p : List α}, (∀ a ∈ as, ∀ p, p.length < B → turn (h a) (T p) = .ok (f a) (T (p ++ [a]))) → acc.length + as.length < LN → p.length + as.length ≤ B → evLc turn (as.map h) acc (T p) = .ok (acc ++ as.filterMap f) (T (p ++ as))
  | [], acc, p, _, _, _ => by simp [evLc]
  | a :: as, acc, p, ht, hl, hb => by
    rw [List.length_cons] at hl hb
    rw [List.map_cons]
    unfold evLc
    rw [ht a List.mem_cons_self p (by omega)]
    have hb2 : (p ++ [a]).length + as.length ≤ B := by simp; omega
    cases q : f a with
    | none =>
      show evLc turn (as.map h) acc _ = _
      rw [evLc_mapS h f T B (fun y hy => ht y (List.mem_cons_of_mem _ hy)) (by omega) hb2]
      simp [List.filterMap_cons, q]
    | some d =>
      show (if acc.length < LN then evLc turn (as.map h) (acc ++ [d]) _ else .no) = _
      rw [if_pos (by omega), evLc_mapS h f T B (fun y hy => ht y (List.mem_cons_of_mem _ hy)) (by rw [List.length_append]; show acc.length + 1 + as.length < LN; omega) hb2]
      simp [List.filterMap_cons, q]
theorem filterMap_if {α β : Type} (p : α → Bool) (f : α → β) : ∀ l : List α, (l.filterMap fun a => if p a = true then some (f a) else none) = (l.filter p).map f
  | [] => rfl
  | a :: l => by
    rw [List.filterMap_cons, List.filter_cons]
    have := filterMap_if p f l
    cases p a <;> simp_all
/-- the gaps of at least one foot -/
def gapP (ls : List Int) (r : Row) (n : Int) : List (Fm × Fm) := (spaces ls r (0, 0)).filter fun g => decide (0 < wo g.2 n)
section
variable {L : Lw} [L.Std] {k : Nat} {S : Sto} {m : Nat} {n : Int} {ls : List Int} {ds : List Dd} {r : Row} {dd : List Bool} {ak : List Fm}
theorem needp_ok (h : Pk ls ds) : L.run (k + 4) (.glo f_need_plan) [plD ls ds] S = .ok .non S := need_ok h.gd (by decide) h.plan
theorem needn_ok (h : Nk n) : L.run (k + 2) (.glo f_need_n) [.int n] S = .ok .non S := by
  have e1 : L.run (k + 1) (.glo f_is_number) [.int n, .int 10, .int (10 ^ 30)] [] = .ok (.bl (isNum (.int n) 10 (10 ^ 30))) [] := num_ok (L := L) (h := 0) (w := 0) rfl
  have e2 : isNum (.int n) 10 (10 ^ 30) = true := by simp only [isNum, Bool.and_eq_true, decide_eq_true_eq]; exact h
  rw [e2] at e1
  refine run_regN (ρ := [some (.int n)]) (S' := []) h_need_n rfl ⟨rfl, by decide⟩ (by simp) ?_
  simp at e1
  simp [d_need_n, k_LEAST, k_MOST, e1]
theorem last0_ok (h : Pk ls ds) : L.run (k + 8) (.glo f_last_of) [plD ls ds, .int n] [] = .ok (.cell 0) [stO ls (endP ls ds n).1 (endP ls ds n).2.1 (endP ls ds n).2.2] := last_of_ok (L := L) (k := k) (S := []) (n := n) h
theorem done_ok (h : Pk ls ds) (hn : Nk n) : L.run (k + 9) (.glo f_done) [plD ls ds, .int n] S = .ok (diD (endP ls ds n).2.1) S := by
  have e1 := needp_ok (L := L) (k := k + 4) (S := []) h
  have e2 := needn_ok (L := L) (k := k + 6) (S := []) hn
  have e3 := last0_ok (L := L) (k := k) (n := n) h
  refine run_reg h_done rfl ⟨rfl, by decide⟩ (by simp [gd_pure _ _ _ h.gd]) (S' := [stO ls (endP ls ds n).1 (endP ls ds n).2.1 (endP ls ds n).2.2]) ?_ (by simp [diD])
  simp [d_done, e1, e2, e3, stO]
theorem cars_of_ok (hm : m < S.length) (hl : r.length < 1000) : L.run (k + 1) (.glo f_cars_of) [.cell m] (S.set m (stO ls r dd ak)) = .ok (.tup (r.map fun c => .int c.1)) (S.set m (stO ls r dd ak)) := by
  refine run_non h_cars_of rfl ⟨rfl, by decide⟩ ?_
  have e : ev L.cons (L.run k) l_cars_of_0 [some (.cell m), none, none] (S.set m (stO ls r dd ak)) = .ok (.lst (r.map fun a => .int a.1)) (S.set m (stO ls r dd ak)) := by
    refine cars_lc ?_ (fun a ha => by simp) hl
    simp [List.getElem?_set_self hm, stO, rwD]
  simp [d_cars_of, e]
theorem set0 (o : Ob) : ([o] : Sto).set 0 o = [o] := rfl
theorem row_ok (h : Pk ls ds) (hn : Nk n) : L.run (k + 9) (.glo f_row) [plD ls ds, .int n] S = .ok (.tup ((endP ls ds n).1.map fun c => .int c.1)) S := by
  have e1 := needp_ok (L := L) (k := k + 4) (S := []) h
  have e2 := needn_ok (L := L) (k := k + 6) (S := []) hn
  have e3 := last0_ok (L := L) (k := k) (n := n) h
  have hl := (endP_ok (n := n) h).2.1
  have e4 := cars_of_ok (L := L) (k := k + 7) (S := [stO ls (endP ls ds n).1 (endP ls ds n).2.1 (endP ls ds n).2.2]) (m := 0) (ls := ls) (r := (endP ls ds n).1) (dd := (endP ls ds n).2.1) (ak := (endP ls ds n).2.2) (by simp) (by omega)
  rw [set0] at e4
  refine run_reg h_row rfl ⟨rfl, by decide⟩ (by simp [gd_pure _ _ _ h.gd]) (S' := [stO ls (endP ls ds n).1 (endP ls ds n).2.1 (endP ls ds n).2.2]) ?_ ?_
  · simp [d_row, e1, e2, e3, e4]
  · have : ∀ r : Row, pureL (r.map fun c => D.int c.1) = true := fun r => by induction r <;> simp_all
    simp [this]
theorem place_form_ok (hm : m < S.length) (hl : r.length < 1000) {c : Nat} : L.run (k + 2) (.glo f_place_form) [.cell m, .int c] (S.set m (stO ls r dd ak)) = .ok (ofD (placeOf r c)) (S.set m (stO ls r dd ak)) := by
  refine run_non h_place_form rfl ⟨rfl, by decide⟩ ?_
  have e1 := spot_of_ok (L := L) (k := k) (S := S) (ls := ls) (r := r) (dd := dd) (ak := ak) (c := c) hm hl
  have g0 : idxD (S.set m (stO ls r dd ak)) (.cell m) (.str "row") = some (rwD r) := by simp [List.getElem?_set_self hm, stO]
  unfold placeOf
  cases q : spotP r c with
  | none =>
    rw [q] at e1
    simp at e1
    simp [d_place_form, e1, ofD]
  | some i =>
    rw [q] at e1
    simp at e1
    have hi := spotP_lt q
    simp [-i_cells, d_place_form, e1, ofD, g0, rwD, atI_nat, rAt_eq hi]
theorem placeOf_ok (h : Rk ls r) {c : Nat} {f : Fm} (q : placeOf r c = some f) : 0 ≤ f.1 ∧ f.1 ≤ 1 := by
  unfold placeOf at q
  cases q2 : spotP r c with
  | none => rw [q2] at q; cases q
  | some i =>
    rw [q2] at q
    cases q
    exact (h _ (rAt_mem (spotP_lt q2))).2
def placesP (ls : List Int) (r : Row) (n : Int) : List D := (List.range ls.length).map fun c => owD ((placeOf r c).map (wo · n))
theorem pureL_map {α : Type} (f : α → D) (h : ∀ a, (f a).pure = true) : ∀ l : List α, pureL (l.map f) = true
  | [] => rfl
  | a :: l => by simp [h a, pureL_map f h l]
@[simp] theorem pu_ow (o : Option Int) : (owD o).pure = true := by cases o <;> rfl
theorem places_pure (ls : List Int) (r : Row) (n : Int) : (D.tup (placesP ls r n)).pure = true := by simp [placesP, pureL_map]
theorem places_of_ok (h : Pk ls ds) : L.run (k + 9) (.glo f_places_of) [plD ls ds, .int n] S = .ok (.tup (placesP ls (endP ls ds n).1 n)) S := by
  have e3 := last0_ok (L := L) (k := k) (n := n) h
  have hr := (endP_ok (n := n) h).1
  have hl := (endP_ok (n := n) h).2.1
  have hl1 := h.l1
  refine run_reg h_places_of rfl ⟨rfl, by decide⟩ (by simp [gd_pure _ _ _ h.gd]) (S' := [stO ls (endP ls ds n).1 (endP ls ds n).2.1 (endP ls ds n).2.2]) ?_ (places_pure _ _ _)
  have e4 : ev L.cons (L.run (k + 8)) l_places_of_0 [some (plD ls ds), some (.int n), some (.cell 0), none, none, none] [stO ls (endP ls ds n).1 (endP ls ds n).2.1 (endP ls ds n).2.2] = .ok (.lst ((List.range ls.length).map fun c => ofD (placeOf (endP ls ds n).1 c))) [stO ls (endP ls ds n).1 (endP ls ds n).2.1 (endP ls ds n).2.2] := by
    refine lc_allA (fun j : Nat => D.int j) _ _ ?_ (fun c _ => ?_) (by simp; omega)
    · have : rngOk ls.length = true := rngOk_of (by omega) (by omega)
      simp [plD, lsD, this, rngL_nat]
    · have e5 := place_form_ok (L := L) (k := k + 6) (S := [stO ls (endP ls ds n).1 (endP ls ds n).2.1 (endP ls ds n).2.2]) (m := 0) (ls := ls) (r := (endP ls ds n).1) (dd := (endP ls ds n).2.1) (ak := (endP ls ds n).2.2) (c := c) (by simp) (by omega)
      rw [set0] at e5
      simp [e5]
  have e6 : ∀ x y, ev L.cons (L.run (k + 8)) l_places_of_1 [some (plD ls ds), some (.int n), some (.cell 0), some (.lst ((List.range ls.length).map fun c => ofD (placeOf (endP ls ds n).1 c))), x, y] [stO ls (endP ls ds n).1 (endP ls ds n).2.1 (endP ls ds n).2.2] = .ok (.lst (placesP ls (endP ls ds n).1 n)) [stO ls (endP ls ds n).1 (endP ls ds n).2.1 (endP ls ds n).2.2] := fun x y => by
    refine lc_allA (fun c => ofD (placeOf (endP ls ds n).1 c)) _ _ (by simp) (fun c _ => ?_) (by simp; omega)
    cases q : placeOf (endP ls ds n).1 c with
    | none => simp [ofD, owD]
    | some f =>
      have := placeOf_ok hr q
      simp [ofD, owD, worth_ok (L := L) (k := k + 7) (a := f.1) (b := f.2) (n := n) (mo _ _ (by omega) (by omega))]
  have e7 : exs L.cons (L.run (k + 8)) L.fuel (.set 2 (.call f_last_of (.cons (.var 0) (.cons (.var 1) .nil)))) [some (plD ls ds), some (.int n), none, none, none, none] [] = .nx [some (plD ls ds), some (.int n), some (.cell 0), none, none, none] [stO ls (endP ls ds n).1 (endP ls ds n).2.1 (endP ls ds n).2.2] := by simp [e3]
  have e8 : exs L.cons (L.run (k + 8)) L.fuel (.set 3 l_places_of_0) [some (plD ls ds), some (.int n), some (.cell 0), none, none, none] [stO ls (endP ls ds n).1 (endP ls ds n).2.1 (endP ls ds n).2.2] = .nx [some (plD ls ds), some (.int n), some (.cell 0), some (.lst ((List.range ls.length).map fun c => ofD (placeOf (endP ls ds n).1 c))), none, none] [stO ls (endP ls ds n).1 (endP ls ds n).2.1 (endP ls ds n).2.2] := by simp [e4]
  have e9 : exs L.cons (L.run (k + 8)) L.fuel (.ret (.bi .tuple (.cons l_places_of_1 .nil))) [some (plD ls ds), some (.int n), some (.cell 0), some (.lst ((List.range ls.length).map fun c => ofD (placeOf (endP ls ds n).1 c))), none, none] [stO ls (endP ls ds n).1 (endP ls ds n).2.1 (endP ls ds n).2.2] = .rt (.tup (placesP ls (endP ls ds n).1 n)) [stO ls (endP ls ds n).1 (endP ls ds n).2.1 (endP ls ds n).2.2] := by simp [e6]
  show exss L.cons (L.run (k + 8)) L.fuel (.cons (.set 2 (.call f_last_of (.cons (.var 0) (.cons (.var 1) .nil)))) (.cons (.set 3 l_places_of_0) (.cons (.ret (.bi .tuple (.cons l_places_of_1 .nil))) .nil))) [some (plD ls ds), some (.int n), none, none, none, none] [] = _
  rw [exss_cons, e7, then_nx, exss_cons, e8, then_nx, exss_cons, e9, then_rt]
theorem places_ok (h : Pk ls ds) (hn : Nk n) : L.run (k + 10) (.glo f_places) [plD ls ds, .int n] S = .ok (.tup (placesP ls (endP ls ds n).1 n)) S := by
  have e1 := needp_ok (L := L) (k := k + 5) (S := []) h
  have e2 := needn_ok (L := L) (k := k + 7) (S := []) hn
  have e3 := places_of_ok (L := L) (k := k) (S := []) (n := n) h
  refine run_reg h_places rfl ⟨rfl, by decide⟩ (by simp [gd_pure _ _ _ h.gd]) (S' := []) ?_ (places_pure _ _ _)
  simp [d_places, e1, e2, e3]
theorem gap_forms_ok (hm : m < S.length) (hr : Rk ls r) (hl : r.length < 1000) (ha : ak.length < 1000000) : L.run (k + 4) (.glo f_gap_forms) [.cell m, .int n] (S.set m (stO ls r dd ak)) = .ok (.tup ((gapP ls r n).map gD)) (S.set m (stO ls r dd (ak ++ (spaces ls r (0, 0)).map (·.2)))) := by
  refine run_non h_gap_forms rfl ⟨rfl, by decide⟩ ?_
  have hg := spaces_ok ls r (0, 0) hr (by simp) (by simp)
  have eg := all_gaps_ok (L := L) (k := k + 1) (S := S.set m (stO ls r dd ak)) (m := m) (ls := ls) (r := r) (dd := dd) (ak := ak) (List.getElem?_set_self hm) hr hl
  have hsl := spaces_len ls r (0, 0)
  have e1 : ev L.cons (L.run (k + 3)) l_gap_forms_0 [some (.cell m), some (.int n), none] (S.set m (stO ls r dd ak)) = .ok (.lst ((gapP ls r n).map gD)) (S.set m (stO ls r dd (ak ++ (spaces ls r (0, 0)).map (·.2)))) := by
    show (evi L.cons (L.run (k + 3)) (.val (.call f_all_gaps (.cons (.var 0) .nil))) _ _).bind _ = _
    have e2 : evi L.cons (L.run (k + 3)) (.val (.call f_all_gaps (.cons (.var 0) .nil))) [some (.cell m), some (.int n), none] (S.set m (stO ls r dd ak)) = .ok ((spaces ls r (0, 0)).map gD) (S.set m (stO ls r dd ak)) := by simp [eg]
    rw [e2]
    show (evLc _ ((spaces ls r (0, 0)).map gD) [] _).bind _ = _
    have e5 : S.set m (stO ls r dd ak) = (fun p : List (Fm × Fm) => S.set m (stO ls r dd (ak ++ p.map (·.2)))) [] := by simp
    rw [e5, evLc_mapS gD (fun g => if decide (0 < wo g.2 n) = true then some (gD g) else none) (fun p => S.set m (stO ls r dd (ak ++ p.map (·.2)))) 2000 (fun g hgm p hp => ?_) (by simp; omega) (by simp; omega)]
    · show Res.ok (D.lst _) _ = _
      rw [List.nil_append, List.nil_append, filterMap_if]
      rfl
    · have hgk := hg g hgm
      have e3 := asks_ok (L := L) (k := k) (S := S) (ls := ls) (r := r) (dd := dd) (ak := ak ++ p.map (·.2)) (a := g.2.1) (b := g.2.2) (n := n) hm (mo _ _ (by unfold Gk at hgk; omega) (by unfold Gk at hgk; omega)) (by simp; omega)
      by_cases c : 0 < wo g.2 n
      · have c3 : decide (0 < sgn (g.2.1, g.2.2) n) = true := by rw [decide_eq_true_eq, sgn_gt]; exact c
        have c2 : decide (0 < wo g.2 n) = true := decide_eq_true c
        rw [c2]
        simp only [bindT, wipeE]
        simp [-sgn_gt, e3, c3] <;> rfl
      · have c3 : decide (0 < sgn (g.2.1, g.2.2) n) = false := by rw [decide_eq_false_iff_not, sgn_gt]; exact c
        have c2 : decide (0 < wo g.2 n) = false := decide_eq_false c
        rw [c2]
        simp only [bindT, wipeE]
        simp [-sgn_gt, e3, c3] <;> rfl
  simp [d_gap_forms, e1]
theorem gapP_ok (hr : Rk ls r) : ∀ g ∈ gapP ls r n, Gk g := fun g hg => spaces_ok ls r (0, 0) hr (by simp) (by simp) g ((List.mem_filter.mp hg).1)
theorem gaps_ok (h : Pk ls ds) (hn : Nk n) : L.run (k + 9) (.glo f_gaps) [plD ls ds, .int n] S = .ok (.lst ((gapP ls (endP ls ds n).1 n).map fun g => .tup [.int (wo g.1 n), .int (wo g.2 n)])) S := by
  have e1 := needp_ok (L := L) (k := k + 4) (S := []) h
  have e2 := needn_ok (L := L) (k := k + 6) (S := []) hn
  have e3 := last0_ok (L := L) (k := k) (n := n) h
  have hr := (endP_ok (n := n) h).1
  have hl := (endP_ok (n := n) h).2.1
  have ha := (endP_ok (n := n) h).2.2.2
  have e4 := gap_forms_ok (L := L) (k := k + 4) (S := [stO ls (endP ls ds n).1 (endP ls ds n).2.1 (endP ls ds n).2.2]) (m := 0) (n := n) (ls := ls) (r := (endP ls ds n).1) (dd := (endP ls ds n).2.1) (ak := (endP ls ds n).2.2) (by simp) hr (by omega) (by omega)
  rw [set0] at e4
  obtain ⟨S', hS'⟩ : ∃ S', S' = ([stO ls (endP ls ds n).1 (endP ls ds n).2.1 (endP ls ds n).2.2] : Sto).set 0 (stO ls (endP ls ds n).1 (endP ls ds n).2.1 ((endP ls ds n).2.2 ++ (spaces ls (endP ls ds n).1 (0, 0)).map (·.2))) := ⟨_, rfl⟩
  rw [← hS'] at e4
  have e5 : ev L.cons (L.run (k + 8)) l_gaps_0 [some (plD ls ds), some (.int n), none, none] [] = .ok (.lst ((gapP ls (endP ls ds n).1 n).map fun g => .tup [.int (wo g.1 n), .int (wo g.2 n)])) S' := by
    show (evi L.cons (L.run (k + 8)) (.val (.call f_gap_forms (.cons (.call f_last_of (.cons (.var 0) (.cons (.var 1) .nil))) (.cons (.var 1) .nil)))) _ _).bind _ = _
    have e6 : evi L.cons (L.run (k + 8)) (.val (.call f_gap_forms (.cons (.call f_last_of (.cons (.var 0) (.cons (.var 1) .nil))) (.cons (.var 1) .nil)))) [some (plD ls ds), some (.int n), none, none] [] = .ok ((gapP ls (endP ls ds n).1 n).map gD) S' := by simp [e3, e4]
    rw [e6]
    show (evLc _ ((gapP ls (endP ls ds n).1 n).map gD) [] _).bind _ = _
    have hl3 : (gapP ls (endP ls ds n).1 n).length ≤ 1000 := by
      refine Nat.le_trans (List.length_filter_le _ _) ?_
      rw [spaces_len]; omega
    rw [evLc_mapA gD (fun g => some (.tup [.int (wo g.1 n), .int (wo g.2 n)])) (fun g hg => ?_) (by simp; omega)]
    · show Res.ok (D.lst _) _ = _
      rw [List.nil_append, ← List.filterMap_eq_map]
      rfl
    · have hgk := gapP_ok hr g hg
      unfold Gk at hgk
      have w1 := worth_ok (L := L) (k := k + 7) (S := S') (a := g.1.1) (b := g.1.2) (n := n) (mo _ _ (by omega) (by omega))
      have w2 := worth_ok (L := L) (k := k + 7) (S := S') (a := g.2.1) (b := g.2.2) (n := n) (mo _ _ (by omega) (by omega))
      simp [w1, w2]
  refine run_reg h_gaps rfl ⟨rfl, by decide⟩ (by simp [gd_pure _ _ _ h.gd]) (S' := S') ?_ (by rw [pu_lst]; exact pureL_map _ (fun _ => rfl) _)
  simp [d_gaps, e1, e2, e5]
end
end KI


set_option Elab.async false
set_option linter.all false
set_option maxRecDepth 100000
set_option autoImplicit false
set_option maxHeartbeats 1000000
/-! The law's own spaces and choice. -/
namespace KI
open PySem
def lnD (r : Row) : D := .lst (r.map cD)
def gsD (gs : List (Fm × Fm)) : D := .lst (gs.map gD)
@[simp] theorem pu_ln (r : Row) : (lnD r).pure = true := by simp [lnD]
@[simp] theorem pu_gs (r : List (Fm × Fm)) : (gsD r).pure = true := by simp [gsD]
@[simp] theorem pu_ls (r : List Int) : (lsD r).pure = true := by simp [lsD]
@[simp] theorem pu_di (r : List Bool) : (diD r).pure = true := by simp [diD]
/-- the spaces that are long enough -/
def fitsL (len n : Int) (gs : List (Fm × Fm)) : List Nat := (List.range gs.length).filter fun i => decide (len ≤ wo (gAt gs i).2 n)
def betI (n : Int) (ru : Ru) (gs : List (Fm × Fm)) (b j : Nat) : Nat := if betB n ru (gAt gs j) (gAt gs b) = true then j else b
def pick (n : Int) (ru : Ru) (gs : List (Fm × Fm)) : List Nat → Option Nat
  | [] => none
  | i :: r => some (r.foldl (betI n ru gs) i)
theorem fit_iff (g : Fm × Fm) (len n : Int) : (0 ≤ wo (fitF g len) n) ↔ (len ≤ wo g.2 n) := by
  simp only [wo, fitF]
  omega
theorem foldl_none (n : Int) (ru : Ru) (gs : List (Fm × Fm)) : ∀ (l : List Nat) (b : Nat), l.foldl (fun best j => match best with
    | none => some j
    | some b => some (betI n ru gs b j)) (some b) = some (l.foldl (betI n ru gs) b)
  | [], b => rfl
  | j :: l, b => foldl_none n ru gs l (betI n ru gs b j)
theorem pick_fold (n : Int) (ru : Ru) (gs : List (Fm × Fm)) (l : List Nat) : pick n ru gs l = l.foldl (fun best j => match best with
    | none => some j
    | some b => some (betI n ru gs b j)) none := by
  cases l with
  | nil => rfl
  | cons i r => exact (foldl_none n ru gs r i).symm
theorem scan_fold (n len : Int) (ru : Ru) (gs : List (Fm × Fm)) : ∀ (q : List (Fm × Fm)) (i : Nat) (best : Option Nat) (a : List Fm), (∀ j, q[j]? = gs[i + j]?) → (scan n len ru gs i q best a).1 = ((List.range' i q.length).filter fun i => decide (len ≤ wo (gAt gs i).2 n)).foldl (fun best j => match best with
    | none => some j
    | some b => some (betI n ru gs b j)) best
  | [], i, best, a, _ => by simp [scan]
  | g :: q, i, best, a, h => by
    have h0 : gs[i]? = some g := by have := h 0; simpa using this.symm
    have hg : gAt gs i = g := by unfold gAt; rw [h0]; rfl
    have h1 : ∀ j, q[j]? = gs[i + 1 + j]? := fun j => by
      have := h (j + 1)
      rw [List.getElem?_cons_succ] at this
      rw [this]
      congr 1
      omega
    rw [List.length_cons, List.range'_succ, List.filter_cons, hg]
    unfold scan
    by_cases c : 0 ≤ wo (fitF g len) n
    · rw [if_pos c, decide_eq_true ((fit_iff g len n).mp c)]
      simp only [if_true]
      cases best with
      | none => rw [scan_fold n len ru gs q _ _ _ h1]; rfl
      | some b =>
        simp only
        rw [scan_fold n len ru gs q _ _ _ h1, List.foldl_cons]
        congr 1
        simp only [betI, hg]
        split <;> rfl
    · rw [if_neg c, decide_eq_false (fun z => c ((fit_iff g len n).mpr z)), scan_fold n len ru gs q _ _ _ h1]
      rfl
theorem chosen_pick (ls : List Int) (r : Row) (ak : List Fm) (len n : Int) (ru : Ru) : (chosen ls r ak len ru n).1 = pick n ru (spaces ls r (0, 0)) (fitsL len n (spaces ls r (0, 0))) := by
  unfold chosen
  rw [scan_fold n len ru _ _ _ _ _ (fun j => by rw [Nat.zero_add]), pick_fold]
  unfold fitsL
  rw [List.range_eq_range']
/-! the least, the greatest -/
section
variable (v : Nat → Int)
theorem minL_le' (l : List Int) (m : Int) : minL m l ≤ m := (minL_le l m).1
theorem maxL_ge' (l : List Int) (m : Int) : m ≤ maxL m l := (maxL_ge l m).1
theorem amin_eq : ∀ (l : List Nat) (b : Nat), l.foldl (fun b j => if v j < v b then j else b) b = (if minL (v b) (l.map v) = v b then b else (l.find? fun j => decide (v j = minL (v b) (l.map v))).getD b)
  | [], b => by simp [minL]
  | j :: l, b => by
    rw [List.foldl_cons, List.map_cons]
    unfold minL
    by_cases c : v j < v b
    · have h := minL_le' (l.map v) (v j)
      have hne : ¬ minL (v j) (l.map v) = v b := by omega
      rw [if_pos c, if_pos c, amin_eq l j, if_neg hne, List.find?_cons]
      by_cases e : minL (v j) (l.map v) = v j
      · rw [if_pos e, e]; simp
      · rw [if_neg e]
        have : decide (v j = minL (v j) (l.map v)) = false := decide_eq_false (fun z => e z.symm)
        rw [this]
        cases q : l.find? fun j' => decide (v j' = minL (v j) (l.map v)) with
        | some x => rfl
        | none =>
          exfalso
          have key : ∀ (l : List Nat) (m : Int), minL m (l.map v) = m ∨ ∃ x ∈ l, v x = minL m (l.map v) := by
            intro l
            induction l with
            | nil => intro m; exact .inl rfl
            | cons y l ih =>
              intro m
              rw [List.map_cons]
              unfold minL
              rcases ih (if v y < m then v y else m) with h | ⟨x, hx, h⟩
              · split at h
                · rename_i z
                  rw [if_pos z]
                  exact .inr ⟨y, List.mem_cons_self, h.symm⟩
                · rename_i z
                  rw [if_neg z]
                  exact .inl h
              · exact .inr ⟨x, List.mem_cons_of_mem _ hx, h⟩
          rcases key l (v j) with h | ⟨x, hx, h⟩
          · exact e h
          · have := List.find?_eq_none.mp q x hx
            simp [h] at this
    · have h := minL_le' (l.map v) (v b)
      rw [if_neg c, if_neg c, amin_eq l b]
      by_cases e : minL (v b) (l.map v) = v b
      · rw [if_pos e, if_pos e]
      · rw [if_neg e, if_neg e, List.find?_cons]
        have : decide (v j = minL (v b) (l.map v)) = false := decide_eq_false (by omega)
        rw [this]
theorem amax_eq : ∀ (l : List Nat) (b : Nat), l.foldl (fun b j => if v b < v j then j else b) b = (if maxL (v b) (l.map v) = v b then b else (l.find? fun j => decide (v j = maxL (v b) (l.map v))).getD b)
  | [], b => by simp [maxL]
  | j :: l, b => by
    rw [List.foldl_cons, List.map_cons]
    unfold maxL
    by_cases c : v b < v j
    · have h := maxL_ge' (l.map v) (v j)
      have hne : ¬ maxL (v j) (l.map v) = v b := by omega
      rw [if_pos c, if_pos c, amax_eq l j, if_neg hne, List.find?_cons]
      by_cases e : maxL (v j) (l.map v) = v j
      · rw [if_pos e, e]; simp
      · rw [if_neg e]
        have : decide (v j = maxL (v j) (l.map v)) = false := decide_eq_false (fun z => e z.symm)
        rw [this]
        cases q : l.find? fun j' => decide (v j' = maxL (v j) (l.map v)) with
        | some x => rfl
        | none =>
          exfalso
          have key : ∀ (l : List Nat) (m : Int), maxL m (l.map v) = m ∨ ∃ x ∈ l, v x = maxL m (l.map v) := by
            intro l
            induction l with
            | nil => intro m; exact .inl rfl
            | cons y l ih =>
              intro m
              rw [List.map_cons]
              unfold maxL
              rcases ih (if v y > m then v y else m) with h | ⟨x, hx, h⟩
              · split at h
                · rename_i z
                  rw [if_pos z]
                  exact .inr ⟨y, List.mem_cons_self, h.symm⟩
                · rename_i z
                  rw [if_neg z]
                  exact .inl h
              · exact .inr ⟨x, List.mem_cons_of_mem _ hx, h⟩
          rcases key l (v j) with h | ⟨x, hx, h⟩
          · exact e h
          · have := List.find?_eq_none.mp q x hx
            simp [h] at this
    · have h := maxL_ge' (l.map v) (v b)
      have c' : ¬ v j > v b := c
      rw [if_neg c, if_neg c', amax_eq l b]
      by_cases e : maxL (v b) (l.map v) = v b
      · rw [if_pos e, if_pos e]
      · rw [if_neg e, if_neg e, List.find?_cons]
        have : decide (v j = maxL (v b) (l.map v)) = false := decide_eq_false (by omega)
        rw [this]
theorem findIx_v (m : Int) : ∀ (l : List Nat) (o : Nat), (∃ x ∈ l, v x = m) → ∃ p, findIx o (l.map fun j => D.int (v j)) (.int m) = some (o + p) ∧ l[p]? = l.find? fun j => decide (v j = m)
  | [], o, h => by obtain ⟨x, hx, _⟩ := h; cases hx
  | j :: l, o, h => by
    by_cases c : v j = m
    · exact ⟨0, by simp [findIx, c], by simp [c]⟩
    · obtain ⟨x, hx, e⟩ := h
      rcases List.mem_cons.mp hx with q | hx
      · subst q; exact absurd e c
      · obtain ⟨p, h1, h2⟩ := findIx_v m l (o + 1) ⟨x, hx, e⟩
        refine ⟨p + 1, ?_, ?_⟩
        · have c2 : (v j == m) = false := by simpa using c
          simp only [List.map_cons, findIx, eqD_ii, c2]
          rw [show (o + (p + 1)) = o + 1 + p by omega]
          simpa using h1
        · simp [c, h2]
theorem minL_mem : ∀ (l : List Nat) (i : Nat), ∃ x ∈ i :: l, v x = minL (v i) (l.map v)
  | [], i => ⟨i, by simp, rfl⟩
  | j :: l, i => by
    rw [List.map_cons]
    unfold minL
    by_cases c : v j < v i
    · rw [if_pos c]
      obtain ⟨x, hx, e⟩ := minL_mem l j
      exact ⟨x, List.mem_cons_of_mem _ hx, e⟩
    · rw [if_neg c]
      obtain ⟨x, hx, e⟩ := minL_mem l i
      refine ⟨x, ?_, e⟩
      rcases List.mem_cons.mp hx with q | hx
      · rw [q]; exact List.mem_cons_self
      · exact List.mem_cons_of_mem _ (List.mem_cons_of_mem _ hx)
theorem maxL_mem : ∀ (l : List Nat) (i : Nat), ∃ x ∈ i :: l, v x = maxL (v i) (l.map v)
  | [], i => ⟨i, by simp, rfl⟩
  | j :: l, i => by
    rw [List.map_cons]
    unfold maxL
    by_cases c : v j > v i
    · rw [if_pos c]
      obtain ⟨x, hx, e⟩ := maxL_mem l j
      exact ⟨x, List.mem_cons_of_mem _ hx, e⟩
    · rw [if_neg c]
      obtain ⟨x, hx, e⟩ := maxL_mem l i
      refine ⟨x, ?_, e⟩
      rcases List.mem_cons.mp hx with q | hx
      · rw [q]; exact List.mem_cons_self
      · exact List.mem_cons_of_mem _ (List.mem_cons_of_mem _ hx)
theorem amin_ix (l : List Nat) (i : Nat) : ∃ p, findIx 0 ((i :: l).map fun j => D.int (v j)) (.int (minL (v i) (l.map v))) = some p ∧ (i :: l)[p]? = some (l.foldl (fun b j => if v j < v b then j else b) i) := by
  obtain ⟨p, h1, h2⟩ := findIx_v v (minL (v i) (l.map v)) (i :: l) 0 (minL_mem v l i)
  refine ⟨p, by simpa using h1, ?_⟩
  rw [h2, amin_eq, List.find?_cons]
  by_cases e : minL (v i) (l.map v) = v i
  · rw [if_pos e, e]; simp
  · have : decide (v i = minL (v i) (l.map v)) = false := decide_eq_false (fun z => e z.symm)
    rw [this, if_neg e]
    obtain ⟨x, hx, e2⟩ := minL_mem v l i
    rcases List.mem_cons.mp hx with q | hx
    · subst q; exact absurd e2.symm e
    · cases q : l.find? fun j => decide (v j = minL (v i) (l.map v)) with
      | some y => rfl
      | none =>
        have := List.find?_eq_none.mp q x hx
        simp [e2] at this
theorem amax_ix (l : List Nat) (i : Nat) : ∃ p, findIx 0 ((i :: l).map fun j => D.int (v j)) (.int (maxL (v i) (l.map v))) = some p ∧ (i :: l)[p]? = some (l.foldl (fun b j => if v b < v j then j else b) i) := by
  obtain ⟨p, h1, h2⟩ := findIx_v v (maxL (v i) (l.map v)) (i :: l) 0 (maxL_mem v l i)
  refine ⟨p, by simpa using h1, ?_⟩
  rw [h2, amax_eq, List.find?_cons]
  by_cases e : maxL (v i) (l.map v) = v i
  · rw [if_pos e, e]; simp
  · have : decide (v i = maxL (v i) (l.map v)) = false := decide_eq_false (fun z => e z.symm)
    rw [this, if_neg e]
    obtain ⟨x, hx, e2⟩ := maxL_mem v l i
    rcases List.mem_cons.mp hx with q | hx
    · subst q; exact absurd e2.symm e
    · cases q : l.find? fun j => decide (v j = maxL (v i) (l.map v)) with
      | some y => rfl
      | none =>
        have := List.find?_eq_none.mp q x hx
        simp [e2] at this
end
end KI


set_option Elab.async false
set_option linter.all false
set_option maxRecDepth 100000
set_option autoImplicit false
set_option maxHeartbeats 1000000
/-! The law's own spaces, choice, step: run. -/
namespace KI
open PySem
/-- a deed done, told without the questions -/
def stepP (ls : List Int) (r : Row) (n : Int) : Dd → Option Row
  | .park c ru => match pick n ru (spaces ls r (0, 0)) (fitsL (lenAt ls c) n (spaces ls r (0, 0))) with
    | none => none
    | some i => if hasCar r c = true then none else some (r.take i ++ [(c, placeF ru (gAt (spaces ls r (0, 0)) i) (lenAt ls c))] ++ r.drop i)
  | .leave c => match spotP r c with
    | none => none
    | some i => some (r.take i ++ r.drop (i + 1))
  | .pull c => match spotP r c with
    | none => none
    | some i => if wo (gAt (spaces ls r (0, 0)) i).2 n = 0 then none else some (moveTo r i (gAt (spaces ls r (0, 0)) i).1)
  | .drop c => match spotP r c with
    | none => none
    | some i => if wo (gAt (spaces ls r (0, 0)) (i + 1)).2 n = 0 then none else some (moveTo r i (ad (rAt r i).2 (gAt (spaces ls r (0, 0)) (i + 1)).2))
theorem doP_step (ls : List Int) (r : Row) (ak : List Fm) (n : Int) (d : Dd) : (doP ls r ak n d).1 = (stepP ls r n d).isSome ∧ (doP ls r ak n d).2.1 = (stepP ls r n d).getD r := by
  cases d with
  | park c ru =>
    simp only [doP, stepP, parkP, chosen_pick]
    cases pick n ru (spaces ls r (0, 0)) (fitsL (lenAt ls c) n (spaces ls r (0, 0))) with
    | none => exact ⟨rfl, rfl⟩
    | some i => cases hasCar r c <;> exact ⟨rfl, rfl⟩
  | leave c =>
    simp only [doP, stepP]
    cases spotP r c <;> exact ⟨rfl, rfl⟩
  | pull c =>
    simp only [doP, stepP, shiftP]
    cases spotP r c with
    | none => exact ⟨rfl, rfl⟩
    | some i => by_cases q : wo (gAt (spaces ls r (0, 0)) i).2 n = 0 <;> simp only [q, if_true, if_false] <;> exact ⟨rfl, rfl⟩
  | drop c =>
    simp only [doP, stepP, shiftP]
    cases spotP r c with
    | none => exact ⟨rfl, rfl⟩
    | some i => by_cases q : wo (gAt (spaces ls r (0, 0)) (i + 1)).2 n = 0 <;> simp only [q, if_true, if_false] <;> exact ⟨rfl, rfl⟩
/-- deeds done, told without the questions -/
def runQ (ls : List Int) (n : Int) : List Dd → Row → List Bool → Row × List Bool
  | [], r, b => (r, b)
  | d :: ds, r, b => runQ ls n ds ((stepP ls r n d).getD r) (b ++ [(stepP ls r n d).isSome])
theorem runP_runQ (ls : List Int) (n : Int) : ∀ (ds : List Dd) (r : Row) (b : List Bool) (a : List Fm), (runP ls n ds r b a).1 = (runQ ls n ds r b).1 ∧ (runP ls n ds r b a).2.1 = (runQ ls n ds r b).2
  | [], _, _, _ => ⟨rfl, rfl⟩
  | d :: ds, r, b, a => by
    obtain ⟨h1, h2⟩ := doP_step ls r a n d
    unfold runP runQ
    rw [h1, h2]
    exact runP_runQ ls n ds _ _ _
theorem spots_car (c : Nat) : ∀ (i : Nat) (r : Row) (j : Nat), j ∈ spots c i r → ∃ x, r[j - i]? = some x ∧ x.1 = c
  | _, [], j, h => nomatch h
  | i, x :: r, j, h => by
    unfold spots at h
    have hrec : j ∈ spots c (i + 1) r → ∃ x', (x :: r)[j - i]? = some x' ∧ x'.1 = c := fun h => by
      obtain ⟨y, h1, h2⟩ := spots_car c (i + 1) r j h
      have := (spots_lt c (i + 1) r j h).1
      refine ⟨y, ?_, h2⟩
      rw [show j - i = (j - (i + 1)) + 1 by omega]
      simpa using h1
    split at h
    · rename_i e
      rcases List.mem_cons.mp h with q | h
      · subst q
        exact ⟨x, by simp, e⟩
      · exact hrec h
    · exact hrec h
theorem spotP_car {r : Row} {c i : Nat} (h : spotP r c = some i) : (rAt r i).1 = c := by
  unfold spotP at h
  obtain ⟨x, h1, h2⟩ := spots_car c 0 r i (List.mem_of_mem_head? (by rw [h]; rfl))
  unfold rAt
  rw [show i - 0 = i by omega] at h1
  rw [h1]
  exact h2
theorem spots_nil (c : Nat) : ∀ (i : Nat) (r : Row), (spots c i r = []) ↔ hasCar r c = false
  | _, [] => by simp [spots, hasCar]
  | i, x :: r => by
    have := spots_nil c (i + 1) r
    unfold spots
    by_cases e : x.1 = c
    · simp [e, hasCar]
    · rw [if_neg e, this]
      simp [hasCar, e]
section
variable {L : Lw} [L.Std] {k : Nat} {S : Sto} {m : Nat} {a b c d n len : Int} {ls : List Int} {r : Row} {ru : Ru}
theorem lvalue_ok (h : mulOk a n = true) : L.run (k + 1) (.glo f__law_value) [.tup [.int a, .int b], .int n] S = .ok (.int (a * n + b)) S := by
  refine run_reg (S' := []) h__law_value rfl ⟨rfl, by decide⟩ (by simp) ?_ (by simp)
  simp [d__law_value, h]
@[simp] theorem lless_ok : L.run (k + 1) (.glo f__law_less) [.tup [.int a, .int b], .tup [.int c, .int d]] S = .ok (.tup [.int (a - c), .int (b - d)]) S := by
  refine run_reg (S' := []) h__law_less rfl ⟨rfl, by decide⟩ (by simp) ?_ (by simp)
  simp [d__law_less]
theorem lspaces_loop {v1 v2 : Option D} : ∀ (q : Row) (fo : List (Fm × Fm)) (b : Fm) (x y : Option D), Rk ls q → fo.length + q.length < LN →
    ∃ x' y', evFor (.tp (.cons (.nm 5) (.cons (.nm 6) .nil))) (exss L.cons (L.run (k + 1)) L.fuel b__law_spaces_0) (q.map cD) [some (lsD ls), v1, v2, some (.cell 0), some (fD b), x, y] [.lst (fo.map gD)] = .nx [some (lsD ls), v1, v2, some (.cell 0), some (fD (spe ls q b)), x', y'] [.lst ((fo ++ spa ls q b).map gD)]
  | [], fo, b, x, y, _, _ => ⟨x, y, by simp [evFor, spa, spe]⟩
  | (c, p) :: q, fo, b, x, y, hq, hl => by
    obtain ⟨hc, _⟩ := hq (c, p) List.mem_cons_self
    have hc : c < ls.length := hc
    have hl : fo.length + (q.length + 1) < 16777216 := hl
    have hl2 : fo.length < 16777216 := by omega
    obtain ⟨x', y', e⟩ := lspaces_loop (v1 := v1) (v2 := v2) q (fo ++ [(b, le2 p b)]) (p.1, p.2 + lenAt ls c) (some (.int c)) (some (fD p)) (fun c hc => hq c (List.mem_cons_of_mem _ hc)) (by simp; omega)
    refine ⟨x', y', ?_⟩
    have step : exss L.cons (L.run (k + 1)) L.fuel b__law_spaces_0 [some (lsD ls), v1, v2, some (.cell 0), some (fD b), some (.int c), some (fD p)] [.lst (fo.map gD)] = .nx [some (lsD ls), v1, v2, some (.cell 0), some (fD (p.1, p.2 + lenAt ls c)), some (.int c), some (fD p)] [.lst ((fo ++ [(b, le2 p b)]).map gD)] := by
      simp [b__law_spaces_0, hl2, lsD, atI_nat, lenAt_eq hc]
    rw [List.map_cons]
    unfold evFor
    exact (congrArg (fun z : Fl => z.then fun ρ S => evFor _ (exss L.cons (L.run (k + 1)) L.fuel b__law_spaces_0) (q.map cD) ρ S) step).trans (e.trans (by simp [spa, spe]))
theorem lspaces_ok (hr : Rk ls r) (hl : r.length < 1000) : L.run (k + 2) (.glo f__law_spaces) [lsD ls, lnD r, .int n] S = .ok (gsD (spaces ls r (0, 0))) S := by
  refine run_reg (S' := [.dead]) h__law_spaces rfl ⟨rfl, by decide⟩ (by simp) ?_ (by simp)
  obtain ⟨x, y, e⟩ := lspaces_loop (L := L) (k := k) (ls := ls) (v1 := some (lnD r)) (v2 := some (.int n)) r [] (0, 0) none none hr (by simp; omega)
  have e1 : (spa ls r (0, 0)).length < 16777216 := by rw [spa_len]; omega
  simp at e
  simp [d__law_spaces, lnD]
  simp [lnD] at e
  rw [e]
  simp [e1, spaces_eq, gsD]
theorem ints_D : ∀ l : List Nat, (l.map fun j => D.int (j : Nat)) = (l.map fun j : Nat => (j : Int)).map D.int := fun l => by rw [List.map_map]; rfl
theorem intsD_v (v : Nat → Int) : ∀ l : List Nat, intsD (l.map fun j => D.int (v j)) = some (l.map v)
  | [] => rfl
  | j :: l => by
    simp only [List.map_cons, intsD]
    rw [intsD_v v l]
    rfl
theorem atI_last (l : List D) (x : D) : L2.atI (x :: l) (-1) = some ((x :: l).getLast (by simp)) := by
  unfold L2.atI L2.ixN
  simp
  have e : (-1 + ((l.length : Int) + 1)).toNat = l.length := by omega
  rw [if_pos (by omega), e]
  show (x :: l)[l.length]? = _
  rw [List.getLast_eq_getElem]
  simp
theorem fold_const : ∀ (l : List Nat) (i : Nat), l.foldl (fun (b : Nat) (_ : Nat) => b) i = i
  | [], _ => rfl
  | _ :: l, i => fold_const l i
theorem fold_last (l : List Nat) : ∀ i : Nat, l.foldl (fun b j => j) i = (i :: l).getLast (by simp) := by
  induction l with
  | nil => intro i; rfl
  | cons j l ih =>
    intro i
    rw [List.foldl_cons, ih j]
    rfl
theorem lchosen_ok {gs : List (Fm × Fm)} (hg : ∀ g ∈ gs, Gk g) (hl : gs.length < 1000) : L.run (k + 2) (.glo f__law_chosen) [gsD gs, .int len, ruD ru, .int n] S = .ok (oiD (pick n ru gs (fitsL len n gs))) S := by
  refine run_reg (S' := []) h__law_chosen rfl ⟨rfl, by decide⟩ (by simp) ?_ (by cases pick n ru gs (fitsL len n gs) <;> rfl)
  obtain ⟨v, hv⟩ : ∃ v : Nat → Int, v = fun j => wo (gAt gs j).2 n := ⟨_, rfl⟩
  have e1 : ev L.cons (L.run (k + 1)) l__law_chosen_0 [some (gsD gs), some (.int len), some (ruD ru), some (.int n), none, none, none, none, none, none] [] = .ok (.lst (gs.map fun g => .int (wo g.2 n))) [] := by
    refine lc_allA gD _ gs (by simp [gsD]) (fun g hgm => ?_) (by simp; omega)
    have hgk := hg g hgm
    unfold Gk at hgk
    simp [lvalue_ok (L := L) (k := k) (a := g.2.1) (b := g.2.2) (n := n) (mo _ _ (by omega) (by omega))]
  have e2 : ev L.cons (L.run (k + 1)) l__law_chosen_1 [some (gsD gs), some (.int len), some (ruD ru), some (.int n), some (.lst (gs.map fun g => .int (wo g.2 n))), none, none, none, none, none] [] = .ok (.lst ((fitsL len n gs).map fun j => .int (j : Nat))) [] := by
    have hro : rngOk gs.length = true := rngOk_of (by omega) (by omega)
    unfold fitsL
    rw [← filterMap_if]
    refine lc_mapA (fun j : Nat => D.int j) _ (List.range gs.length) (by simp [gsD, hro, rngL_nat]) (fun j hj => ?_) (by simp; omega)
    have hj : j < gs.length := by simpa using hj
    have hj2 := gAt_eq hj
    by_cases q : len ≤ wo (gAt gs j).2 n
    · have q2 := q
      simp at q2
      simp [atI_nat, hj2, q2]
    · have q2 := q
      simp at q2
      have q3 : ¬ (len ≤ (gAt gs j).2.1 * n + (gAt gs j).2.2) := by omega
      simp [atI_nat, hj2, q3]
  have hfl : (fitsL len n gs).length < 1000 := by
    unfold fitsL
    exact Nat.lt_of_le_of_lt (List.length_filter_le _ _) (by simpa using hl)
  have hfm : ∀ j ∈ fitsL len n gs, j < gs.length := fun j hj => by
    unfold fitsL at hj
    simpa using (List.mem_filter.mp hj).1
  cases q : fitsL len n gs with
  | nil =>
    rw [q] at e2
    simp at e1 e2
    simp [d__law_chosen, e1, e2, pick]
  | cons i l =>
    rw [q] at e2 hfl hfm
    have e3 : ev L.cons (L.run (k + 1)) l__law_chosen_2 [some (gsD gs), some (.int len), some (ruD ru), some (.int n), some (.lst (gs.map fun g => .int (wo g.2 n))), some (.lst ((i :: l).map fun j => .int (j : Nat))), none, none, none, none] [] = .ok (.lst ((i :: l).map fun j => .int (v j))) [] := by
      refine lc_allA (fun j : Nat => D.int j) _ (i :: l) (by simp) (fun j hj => ?_) (by simp at hfl ⊢; omega)
      have hj2 := gAt_eq (hfm j hj)
      simp [atI_nat, hj2, hv]
    have hs : shpL 63 (l.map fun j => D.int (v j)) = true := shpL_intm v 63 l
    have hsn : shpL 63 (l.map fun j => D.int (j : Nat)) = true := shpL_intm (fun j : Nat => (j : Int)) 63 l
    have hint := intsD_v v (i :: l)
    simp only [List.map_cons] at e2 e3 hint
    cases ru with
    | front =>
      have : l.foldl (betI n .front gs) i = i := fold_const l i
      simp at e1 e2 e3
      simp [d__law_chosen, e1, e2, hsn, pick, this]
    | back =>
      have h1 : l.foldl (betI n .back gs) i = (i :: l).getLast (by simp) := fold_last l i
      have h2 := atI_last (l.map fun j => D.int (j : Nat)) (.int i)
      have h3 : ((D.int i) :: l.map fun j => D.int (j : Nat)).getLast (by simp) = .int ((i :: l).getLast (by simp) : Nat) := by
        have := List.getLast_map (f := fun j : Nat => D.int j) (l := i :: l) (by simp)
        simpa using this
      rw [h3] at h2
      simp at e1 e2 e3
      simp [d__law_chosen, e1, e2, hsn, pick, h1, h2]
    | tight =>
      have h1 : l.foldl (betI n .tight gs) i = l.foldl (fun b j => if v j < v b then j else b) i := by
        congr 1
        funext b j
        subst hv
        simp only [betI, betB, le2, wo, decide_eq_true_eq, Int.sub_mul]
        congr 1
        apply propext
        omega
      obtain ⟨p, h2, h3⟩ := amin_ix v l i
      simp only [List.map_cons] at h2
      have h4 : ((D.int i) :: l.map fun j => D.int (j : Nat))[p]? = some (.int (l.foldl (betI n .tight gs) i : Nat)) := by
        rw [h1, ← List.map_cons (f := fun j : Nat => D.int j), List.getElem?_map, h3]
        rfl
      simp at e1 e2 e3
      simp [d__law_chosen, e1, e2, hsn, pick, e3, biD, hint, mtOk, mtD, hs, h2, atI_nat, h4]
    | wide =>
      have h1 : l.foldl (betI n .wide gs) i = l.foldl (fun b j => if v b < v j then j else b) i := by
        congr 1
        funext b j
        subst hv
        simp only [betI, betB, le2, wo, decide_eq_true_eq, Int.sub_mul]
        congr 1
        apply propext
        omega
      obtain ⟨p, h2, h3⟩ := amax_ix v l i
      simp only [List.map_cons] at h2
      have h4 : ((D.int i) :: l.map fun j => D.int (j : Nat))[p]? = some (.int (l.foldl (betI n .wide gs) i : Nat)) := by
        rw [h1, ← List.map_cons (f := fun j : Nat => D.int j), List.getElem?_map, h3]
        rfl
      simp at e1 e2 e3
      simp [d__law_chosen, e1, e2, hsn, pick, e3, biD, hint, mtOk, mtD, hs, h2, atI_nat, h4]
end
end KI


set_option Elab.async false
set_option linter.all false
set_option maxRecDepth 100000
set_option autoImplicit false
set_option maxHeartbeats 1000000
/-! The law's own step, run, forms, places, gaps. -/
namespace KI
open PySem
def orD : Option Row → D
  | none => .non
  | some r => lnD r
@[simp] theorem pu_or (o : Option Row) : (orD o).pure = true := by cases o <;> simp [orD]
theorem take_D (r : Row) (i : Nat) : (r.map cD).take i = (r.take i).map cD := (List.map_take ..).symm
theorem drop_D (r : Row) (i : Nat) : (r.map cD).drop i = (r.drop i).map cD := (List.map_drop ..).symm
section
variable {L : Lw} [L.Std] {k : Nat} {S : Sto} {n : Int} {ls : List Int} {r : Row}
theorem idx_ls {c : Nat} (hc : c < ls.length) : idxD S (lsD ls) (.int c) = some (.int (lenAt ls c)) := by simp [lsD, atI_nat, lenAt_eq hc]
theorem idx_gs {gs : List (Fm × Fm)} {i : Nat} (hi : i < gs.length) : idxD S (gsD gs) (.int i) = some (gD (gAt gs i)) := by simp [gsD, atI_nat, gAt_eq hi]
theorem idx_gs1 {gs : List (Fm × Fm)} {i : Nat} (hi : i + 1 < gs.length) : idxD S (gsD gs) (.int ((i : Int) + 1)) = some (gD (gAt gs (i + 1))) := by simp [gsD, atI_nat, gAt_eq hi]
theorem idx_ln {i : Nat} (hi : i < r.length) : idxD S (lnD r) (.int i) = some (cD (rAt r i)) := by simp [lnD, atI_nat, rAt_eq hi]
theorem cut_ln_to {i : Nat} : cutD (lnD r) none (some (i : Int)) = some (lnD (r.take i)) := by simp [lnD]
theorem cut_ln_from {i : Nat} : cutD (lnD r) (some (i : Int)) none = some (lnD (r.drop i)) := by simp [lnD]
theorem cut_ln_from1 {i : Nat} : cutD (lnD r) (some ((i : Int) + 1)) none = some (lnD (r.drop (i + 1))) := by simp [lnD]
theorem add_ln1 {a : Row} {c : Nat} {x y : Int} (h : a.length < 2000) : binD .add (lnD a) (.lst [.tup [.int c, .tup [.int x, .int y]]]) = some (lnD (a ++ [(c, (x, y))])) := by
  have : a.length + 1 ≤ 16777216 := by omega
  have h2 : a.length ≤ 16777215 := by omega
  simp [lnD, this, h2]
theorem add_ln {a b : Row} (h : a.length < 3000) (h2 : b.length < 3000) : binD .add (lnD a) (lnD b) = some (lnD (a ++ b)) := by
  have : a.length + b.length ≤ 16777216 := by omega
  simp [lnD, this]
theorem spots_fm (c : Nat) : ∀ (q : Row) (i : Nat), (∀ j, q[j]? = r[i + j]?) → ((List.range' i q.length).filter fun j => decide ((rAt r j).1 = c)) = spots c i q
  | [], i, _ => rfl
  | x :: q, i, h => by
    have h0 : r[i]? = some x := by have := h 0; simpa using this.symm
    have hx : rAt r i = x := by unfold rAt; rw [h0]; rfl
    have h1 : ∀ j, q[j]? = r[i + 1 + j]? := fun j => by
      have := h (j + 1)
      rw [List.getElem?_cons_succ] at this
      rw [this]
      congr 1
      omega
    rw [List.length_cons, List.range'_succ, List.filter_cons, hx, spots_fm c q (i + 1) h1]
    show _ = if x.1 = c then i :: spots c (i + 1) q else spots c (i + 1) q
    by_cases e : x.1 = c <;> simp [e]
theorem lstep_ok (hr : Rk ls r) (hl : r.length < 999) {d : Dd} (hc : d.car < ls.length) : L.run (k + 3) (.glo f__law_step) [lsD ls, lnD r, ddD d, .int n] S = .ok (orD (stepP ls r n d)) S := by
  have hlenS : (spaces ls r (0, 0)).length < 1000 := by rw [spaces_len]; omega
  have hg := spaces_ok ls r (0, 0) hr (by simp) (by simp)
  refine run_reg (S' := []) h__law_step rfl ⟨rfl, by decide⟩ (by simp [gd_pure _ _ _ (dd_gd d)]) ?_ (by simp)
  have e1 := lspaces_ok (L := L) (k := k) (S := []) (n := n) hr (by omega)
  have e2 : ∀ (c : Nat) (v2 : D), ev L.cons (L.run (k + 2)) l__law_step_0 [some (lsD ls), some (lnD r), some v2, some (.int n), none, none, none, none, some (.int c), some (gsD (spaces ls r (0, 0))), none, none] [] = .ok (.lst ((spots c 0 r).map fun j => .int (j : Nat))) [] := fun c v2 => by
    have hro : rngOk r.length = true := rngOk_of (by omega) (by omega)
    rw [← spots_fm (r := r) c r 0 (fun j => by rw [Nat.zero_add]), ← List.range_eq_range', ← filterMap_if]
    refine lc_mapA (fun j : Nat => D.int j) _ (List.range r.length) (by simp [lnD, hro, rngL_nat]) (fun j hj => ?_) (by simp; omega)
    have hj : j < r.length := by simpa using hj
    have hj2 := rAt_eq hj
    by_cases q : (rAt r j).1 = c
    · simp [lnD, atI_nat, hj2, q]
    · have q3 : (((rAt r j).1 : Int) == (c : Int)) = false := by simp; omega
      simp [lnD, atI_nat, hj2, q, q3]
  have hsn : ∀ l : List Nat, shpL 63 (l.map fun j => D.int (j : Nat)) = true := fun l => shpL_intm (fun j : Nat => (j : Int)) 63 l
  have hs : ∀ c, spotP r c = (spots c 0 r).head? := fun _ => rfl
  have gl : ∀ (S : Sto) (c : Nat), c < ls.length → idxD S (lsD ls) (.int c) = some (.int (lenAt ls c)) := fun S c hc => idx_ls hc
  have gg : ∀ (S : Sto) (i : Nat), i < (spaces ls r (0, 0)).length → idxD S (gsD (spaces ls r (0, 0))) (.int i) = some (gD (gAt (spaces ls r (0, 0)) i)) := fun S i hi => idx_gs hi
  have ht : ∀ i, (r.take i).length < 1000 := fun i => by rw [List.length_take]; omega
  have hdp : ∀ i, (r.drop i).length < 1000 := fun i => by rw [List.length_drop]; omega
  cases d with
  | park c ru =>
    have hc : c < ls.length := hc
    have e3 := lchosen_ok (L := L) (k := k) (S := []) (len := lenAt ls c) (n := n) (ru := ru) hg hlenS
    have e4 := e2 c (ddD (.park c ru))
    simp only [ddD_park] at e4
    simp only [stepP]
    cases q : pick n ru (spaces ls r (0, 0)) (fitsL (lenAt ls c) n (spaces ls r (0, 0))) with
    | none =>
      rw [q] at e3
      simp only [oiD_none] at e3
      cases qs : spots c 0 r with
      | nil =>
        rw [qs] at e4
        simp only [List.map_nil] at e4
        simp [d__law_step, e1, e4, gl _ _ hc, e3, orD]
      | cons j js =>
        rw [qs] at e4
        simp only [List.map_cons] at e4
        simp [d__law_step, e1, e4, gl _ _ hc, e3, orD, hsn]
    | some i =>
      rw [q] at e3
      simp only [oiD_some] at e3
      have hi : i < (spaces ls r (0, 0)).length := by
        have := chosen_pick ls r [] (lenAt ls c) n ru
        rw [q] at this
        exact chosen_lt this
      cases qs : spots c 0 r with
      | nil =>
        have qc := (spots_nil c 0 r).mp qs
        rw [qs] at e4
        simp only [List.map_nil] at e4
        simp only [qc]
        cases ru with
        | back =>
          simp only [ruD_back] at e3 e4
          simp [d__law_step, e1, e4]
          rw [gl [] c hc]
          simp [e3]
          rw [gg [] i hi]
          simp [gl [] c hc, cut_ln_to, cut_ln_from]
          rw [add_ln1 (Nat.lt_of_lt_of_le (ht i) (by decide))]
          simp
          rw [add_ln (by rw [List.length_append]; have := ht i; simp; omega) (Nat.lt_of_lt_of_le (hdp i) (by decide))]
          simp [orD, placeF, Int.sub_eq_add_neg]
        | front =>
          simp only [ruD_front] at e3 e4
          simp [d__law_step, e1, e4]
          rw [gl [] c hc]
          simp [e3]
          rw [gg [] i hi]
          simp [gl [] c hc, cut_ln_to, cut_ln_from]
          rw [add_ln1 (Nat.lt_of_lt_of_le (ht i) (by decide))]
          simp
          rw [add_ln (by rw [List.length_append]; have := ht i; simp; omega) (Nat.lt_of_lt_of_le (hdp i) (by decide))]
          simp [orD, placeF, Int.sub_eq_add_neg]
        | tight =>
          simp only [ruD_tight] at e3 e4
          simp [d__law_step, e1, e4]
          rw [gl [] c hc]
          simp [e3]
          rw [gg [] i hi]
          simp [gl [] c hc, cut_ln_to, cut_ln_from]
          rw [add_ln1 (Nat.lt_of_lt_of_le (ht i) (by decide))]
          simp
          rw [add_ln (by rw [List.length_append]; have := ht i; simp; omega) (Nat.lt_of_lt_of_le (hdp i) (by decide))]
          simp [orD, placeF, Int.sub_eq_add_neg]
        | wide =>
          simp only [ruD_wide] at e3 e4
          simp [d__law_step, e1, e4]
          rw [gl [] c hc]
          simp [e3]
          rw [gg [] i hi]
          simp [gl [] c hc, cut_ln_to, cut_ln_from]
          rw [add_ln1 (Nat.lt_of_lt_of_le (ht i) (by decide))]
          simp
          rw [add_ln (by rw [List.length_append]; have := ht i; simp; omega) (Nat.lt_of_lt_of_le (hdp i) (by decide))]
          simp [orD, placeF, Int.sub_eq_add_neg]
      | cons j js =>
        have qc : hasCar r c = true := by
          cases q2 : hasCar r c with
          | true => rfl
          | false => rw [(spots_nil c 0 r).mpr q2] at qs; cases qs
        rw [qs] at e4
        simp only [List.map_cons] at e4
        simp only [qc]
        simp [d__law_step, e1, e4, gl _ _ hc, e3, orD, hsn]
  | leave c =>
    have hc : c < ls.length := hc
    have e4 := e2 c (ddD (.leave c))
    simp only [ddD_leave] at e4
    simp only [stepP, hs]
    cases qs : spots c 0 r with
    | nil =>
      rw [qs] at e4
      simp only [List.map_nil] at e4
      simp [d__law_step, e1, e4, orD]
    | cons i js =>
      rw [qs] at e4
      simp only [List.map_cons] at e4
      simp [d__law_step, e1, e4, orD, hsn, cut_ln_to, cut_ln_from1]
      rw [add_ln (Nat.lt_of_lt_of_le (ht i) (by decide)) (Nat.lt_of_lt_of_le (hdp (i + 1)) (by decide))]
  | pull c =>
    have hc : c < ls.length := hc
    have e4 := e2 c (ddD (.pull c))
    simp only [ddD_pull] at e4
    cases qs : spots c 0 r with
    | nil =>
      rw [qs] at e4
      simp only [List.map_nil] at e4
      rw [show stepP ls r n (.pull c) = none from by simp only [stepP, hs, qs, List.head?_nil]]
      simp [d__law_step, e1, e4, orD]
    | cons i js =>
      have hp : spotP r c = some i := by rw [hs, qs]; rfl
      have hi := spotP_lt hp
      have hca := spotP_car hp
      have hi2 : i < (spaces ls r (0, 0)).length := by rw [spaces_len]; omega
      have hgk := hg _ (gAt_mem hi2)
      unfold Gk at hgk
      have ev := lvalue_ok (L := L) (k := k + 1) (S := []) (a := (gAt (spaces ls r (0, 0)) i).2.1) (b := (gAt (spaces ls r (0, 0)) i).2.2) (n := n) (mo _ _ (by omega) (by omega))
      rw [qs] at e4
      simp only [List.map_cons] at e4
      by_cases q : wo (gAt (spaces ls r (0, 0)) i).2 n = 0
      · rw [show stepP ls r n (.pull c) = none from by simp only [stepP, hp]; rw [if_pos q]]
        simp only [wo] at q
        simp [d__law_step, e1, e4, orD, hsn, idx_gs hi2, ev, q]
      · rw [show stepP ls r n (.pull c) = some (moveTo r i (gAt (spaces ls r (0, 0)) i).1) from by simp only [stepP, hp]; rw [if_neg q]]
        have q2 : ((gAt (spaces ls r (0, 0)) i).2.1 * n + (gAt (spaces ls r (0, 0)) i).2.2 == 0) = false := by simpa using q
        simp [d__law_step, e1, e4, orD, hsn, idx_gs hi2, ev, q2, idx_ln hi, cut_ln_to, cut_ln_from1]
        simp [add_ln1 (Nat.lt_of_lt_of_le (ht i) (by decide))]
        rw [add_ln (by rw [List.length_append]; have := ht i; simp; omega) (Nat.lt_of_lt_of_le (hdp (i + 1)) (by decide))]
        simp [moveTo, hca]
  | drop c =>
    have hc : c < ls.length := hc
    have e4 := e2 c (ddD (.drop c))
    simp only [ddD_drop] at e4
    cases qs : spots c 0 r with
    | nil =>
      rw [qs] at e4
      simp only [List.map_nil] at e4
      rw [show stepP ls r n (.drop c) = none from by simp only [stepP, hs, qs, List.head?_nil]]
      simp [d__law_step, e1, e4, orD]
    | cons i js =>
      have hp : spotP r c = some i := by rw [hs, qs]; rfl
      have hi := spotP_lt hp
      have hca := spotP_car hp
      have hi2 : i + 1 < (spaces ls r (0, 0)).length := by rw [spaces_len]; omega
      have hgk := hg _ (gAt_mem hi2)
      unfold Gk at hgk
      have ev := lvalue_ok (L := L) (k := k + 1) (S := []) (a := (gAt (spaces ls r (0, 0)) (i + 1)).2.1) (b := (gAt (spaces ls r (0, 0)) (i + 1)).2.2) (n := n) (mo _ _ (by omega) (by omega))
      rw [qs] at e4
      simp only [List.map_cons] at e4
      by_cases q : wo (gAt (spaces ls r (0, 0)) (i + 1)).2 n = 0
      · rw [show stepP ls r n (.drop c) = none from by simp only [stepP, hp]; rw [if_pos q]]
        simp only [wo] at q
        simp [d__law_step, e1, e4, orD, hsn, idx_gs1 hi2, ev, q]
      · rw [show stepP ls r n (.drop c) = some (moveTo r i (ad (rAt r i).2 (gAt (spaces ls r (0, 0)) (i + 1)).2)) from by simp only [stepP, hp]; rw [if_neg q]]
        have q2 : ((gAt (spaces ls r (0, 0)) (i + 1)).2.1 * n + (gAt (spaces ls r (0, 0)) (i + 1)).2.2 == 0) = false := by simpa using q
        simp [d__law_step, e1, e4, orD, hsn, idx_gs1 hi2, ev, q2, idx_ln hi, cut_ln_to, cut_ln_from1]
        simp [add_ln1 (Nat.lt_of_lt_of_le (ht i) (by decide))]
        rw [add_ln (by rw [List.length_append]; have := ht i; simp; omega) (Nat.lt_of_lt_of_le (hdp (i + 1)) (by decide))]
        simp [moveTo, hca]
end
end KI


set_option Elab.async false
set_option linter.all false
set_option maxRecDepth 100000
set_option autoImplicit false
set_option maxHeartbeats 1000000
/-! The law's own run, forms, places, gaps. -/
namespace KI
open PySem
/-! ### no car stands twice -/
def Nd (r : Row) : Prop := (r.map (·.1)).Nodup
theorem row_split {r : Row} {i : Nat} (h : i < r.length) : r = r.take i ++ rAt r i :: r.drop (i + 1) := by
  have e := rAt_eq h
  rw [List.getElem?_eq_getElem h] at e
  injection e with e
  rw [← e, ← List.drop_eq_getElem_cons h, List.take_append_drop]
theorem moveTo_nd {r : Row} (h : Nd r) {i : Nat} (hi : i < r.length) (f : Fm) : Nd (moveTo r i f) := by
  have e : (moveTo r i f).map (·.1) = r.map (·.1) := by
    conv => rhs; rw [row_split hi]
    simp [moveTo]
  unfold Nd
  rw [e]
  exact h
theorem hasCar_mem {r : Row} {c : Nat} (h : hasCar r c = false) : c ∉ r.map (·.1) := by
  intro hm
  obtain ⟨x, hx, e⟩ := List.mem_map.mp hm
  have := List.any_eq_false.mp h x hx
  simp at this
  exact this e
theorem stepP_nd {ls : List Int} {r : Row} {n : Int} {d : Dd} (h : Nd r) : Nd ((stepP ls r n d).getD r) := by
  cases d with
  | park c ru =>
    simp only [stepP]
    cases pick n ru (spaces ls r (0, 0)) (fitsL (lenAt ls c) n (spaces ls r (0, 0))) with
    | none => exact h
    | some i =>
      cases q : hasCar r c with
      | true => exact h
      | false =>
        show Nd (r.take i ++ [(c, placeF ru (gAt (spaces ls r (0, 0)) i) (lenAt ls c))] ++ r.drop i)
        unfold Nd
        have e : (r.take i ++ [(c, placeF ru (gAt (spaces ls r (0, 0)) i) (lenAt ls c))] ++ r.drop i).map (·.1) = (r.map (·.1)).take i ++ c :: (r.map (·.1)).drop i := by simp
        rw [e]
        have hp : List.Perm ((r.map (·.1)).take i ++ c :: (r.map (·.1)).drop i) (c :: r.map (·.1)) := by
          have := @List.perm_middle _ c ((r.map (·.1)).take i) ((r.map (·.1)).drop i)
          rwa [List.take_append_drop] at this
        exact hp.nodup_iff.mpr (List.nodup_cons.mpr ⟨hasCar_mem q, h⟩)
  | leave c =>
    simp only [stepP]
    cases q : spotP r c with
    | none => exact h
    | some i =>
      show Nd (r.take i ++ r.drop (i + 1))
      have hs : List.Sublist (r.take i ++ r.drop (i + 1)) r := by
        conv => rhs; rw [row_split (spotP_lt q)]
        exact List.Sublist.append (List.Sublist.refl _) (List.sublist_cons_self _ _)
      exact List.Nodup.sublist (hs.map _) h
  | pull c =>
    simp only [stepP]
    cases q : spotP r c with
    | none => exact h
    | some i =>
      by_cases q2 : wo (gAt (spaces ls r (0, 0)) i).2 n = 0
      · simp only [q2, if_true]; exact h
      · simp only [q2, if_false]; exact moveTo_nd h (spotP_lt q) _
  | drop c =>
    simp only [stepP]
    cases q : spotP r c with
    | none => exact h
    | some i =>
      by_cases q2 : wo (gAt (spaces ls r (0, 0)) (i + 1)).2 n = 0
      · simp only [q2, if_true]; exact h
      · simp only [q2, if_false]; exact moveTo_nd h (spotP_lt q) _
theorem stepP_ok (ls : List Int) (r : Row) (n : Int) (d : Dd) (h : Rk ls r) (hd : d.car < ls.length) : Rk ls ((stepP ls r n d).getD r) ∧ ((stepP ls r n d).getD r).length ≤ r.length + 1 := by
  obtain ⟨h1, h2, _⟩ := doP_ok ls r [] n d h hd
  rw [(doP_step ls r [] n d).2] at h1 h2
  exact ⟨h1, h2⟩
theorem runQ_nd (ls : List Int) (n : Int) : ∀ (ds : List Dd) (r : Row) (b : List Bool), Nd r → Nd (runQ ls n ds r b).1
  | [], r, b, h => h
  | d :: ds, r, b, h => runQ_nd ls n ds _ _ (stepP_nd h)
theorem find_place (c : Nat) (r : Row) : ∀ (q : Row) (i : Nat), (∀ j, q[j]? = r[i + j]?) → (spots c i q).head?.map (fun j => (rAt r j).2) = (q.find? fun x => decide (x.1 = c)).map (·.2)
  | [], i, _ => rfl
  | x :: q, i, h => by
    have h0 : r[i]? = some x := by have := h 0; simpa using this.symm
    have hx : rAt r i = x := by unfold rAt; rw [h0]; rfl
    have h1 : ∀ j, q[j]? = r[i + 1 + j]? := fun j => by
      have := h (j + 1)
      rw [List.getElem?_cons_succ] at this
      rw [this]
      congr 1
      omega
    have ih := find_place c r q (i + 1) h1
    unfold spots
    by_cases e : x.1 = c
    · simp [e, hx]
    · simp only [if_neg e, List.find?_cons, decide_eq_false e]
      exact ih
theorem placeOf_find (r : Row) (c : Nat) : placeOf r c = (r.find? fun x => decide (x.1 = c)).map (·.2) := find_place c r r 0 fun j => by rw [Nat.zero_add]
theorem dicPut_new {kvs : List (Key × D)} {k : Key} {v : D} (h : k ∉ kvs.map (·.1)) : dicPut kvs k v = kvs ++ [(k, v)] := by
  unfold dicPut
  have : kvs.any (fun kv => decide (kv.1 = k)) = false := by
    rw [List.any_eq_false]
    intro x hx e
    exact h (List.mem_map.mpr ⟨x, hx, of_decide_eq_true e⟩)
  rw [this]
  rfl
theorem mergeD_nd : ∀ (l acc : List (Key × D)), ((acc ++ l).map (·.1)).Nodup → mergeD acc l = acc ++ l
  | [], acc, _ => by simp [mergeD]
  | (k, v) :: l, acc, h => by
    have hk : k ∉ acc.map (·.1) := by
      rw [List.map_append, List.nodup_append] at h
      intro hm
      exact h.2.2 k hm k (by simp) rfl
    unfold mergeD
    rw [dicPut_new hk, mergeD_nd l (acc ++ [(k, v)]) (by simpa using h)]
    simp
theorem pairs_row : ∀ r : Row, pairsOf (r.map cD) = some (r.map fun x => ((Sum.inl (x.1 : Int) : Key), fD x.2))
  | [] => rfl
  | x :: r => by
    have := pairs_row r
    show (keyOf (.int x.1)).bind (fun k => (pairsOf (r.map cD)).map ((k, fD x.2) :: ·)) = _
    rw [this]
    rfl
def kvR (r : Row) : List (Key × D) := r.map fun x => ((Sum.inl (x.1 : Int) : Key), fD x.2)
theorem kvR_nd {r : Row} (h : Nd r) : mergeD [] (kvR r) = kvR r := by
  rw [mergeD_nd (kvR r) []]
  · rfl
  · rw [List.nil_append]
    unfold kvR
    rw [List.map_map]
    have e : ((fun x : Key × D => x.1) ∘ fun x : Nat × Fm => ((Sum.inl (x.1 : Int) : Key), fD x.2)) = (fun c : Nat => (Sum.inl (c : Int) : Key)) ∘ fun x : Nat × Fm => x.1 := rfl
    rw [e, ← List.map_map]
    refine List.Pairwise.map _ (fun a b hab e => hab ?_) h
    have := Sum.inl.inj e
    omega
theorem dicGet_row (r : Row) (c : Nat) : dicGet (kvR r) (.inl (c : Int)) = (placeOf r c).map fD := by
  rw [placeOf_find]
  unfold dicGet kvR
  induction r with
  | nil => rfl
  | cons x r ih =>
    rw [List.map_cons, List.find?_cons, List.find?_cons]
    by_cases e : x.1 = c
    · have e2 : decide ((Sum.inl (x.1 : Int) : Key) = Sum.inl (c : Int)) = true := decide_eq_true (by rw [e])
      simp [e]
    · have e2 : decide ((Sum.inl (x.1 : Int) : Key) = Sum.inl (c : Int)) = false := decide_eq_false (fun z => e (by have := Sum.inl.inj z; omega))
      simp only [e2, decide_eq_false e]
      exact ih
/-! ### equal to itself -/
mutual
theorem eqD_refl : ∀ (k : Nat) (d : D), shp k d = true → eqD d d = true
  | _, .non, _ => rfl
  | _, .bl b, _ => by simp [eqD]
  | _, .int i, _ => by simp [eqD]
  | _, .str s, _ => by show (s == s) = true; exact beq_self_eq_true s
  | k + 1, .tup xs, h => eqL_refl k xs h
  | k + 1, .lst xs, h => eqL_refl k xs h
  | 0, .tup xs, h | 0, .lst xs, h => by cases h
  | 0, .dic _, h | _ + 1, .dic _, h | 0, .ro _, h | _ + 1, .ro _, h | 0, .cell _, h | _ + 1, .cell _, h | 0, .fn _, h | _ + 1, .fn _, h | 0, .clo _ _ _, h | _ + 1, .clo _ _ _, h => by cases h
theorem eqL_refl : ∀ (k : Nat) (ds : List D), shpL k ds = true → eqL ds ds = true
  | _, [], _ => rfl
  | k, d :: ds, h => by
    obtain ⟨h1, h2⟩ := ba (show (shp k d && shpL k ds) = true by cases k <;> exact h)
    show (eqD d d && eqL ds ds) = true
    rw [eqD_refl k d h1, eqL_refl k ds h2]
    rfl
end
theorem ne_self {d : D} (h : shp 64 d = true) : cmpD .ne d d = some false := by rw [c_ne, h, eqD_refl 64 d h]; rfl
theorem eq_self' {d : D} (h : shp 64 d = true) : cmpD .eq d d = some true := by rw [c_eq, h, eqD_refl 64 d h]; rfl
section
variable {L : Lw} [L.Std] {k : Nat} {S : Sto} {n : Int} {ls : List Int} {ds : List Dd} {r : Row}
theorem lrun_loop {x0 : Option D} {dd0 : D} : ∀ (ds : List Dd) (r : Row) (b : List Bool) (x y : Option D), Rk ls r → (∀ d ∈ ds, d.car < ls.length) → r.length + ds.length < 900 → b.length + ds.length < 900 →
    ∃ x' y', evFor (.nm 2) (exss L.cons (L.run (k + 3)) L.fuel b__law_run_0) (ds.map ddD) [some (.tup [lsD ls, dd0]), some (.int n), x, some (lnD r), some (diD b), y] [] = .nx [some (.tup [lsD ls, dd0]), some (.int n), x', some (lnD (runQ ls n ds r b).1), some (diD (runQ ls n ds r b).2), y'] []
  | [], r, b, x, y, _, _, _, _ => ⟨x, y, rfl⟩
  | d :: ds, r, b, x, y, hr, hd, hl, hb => by
    rw [List.length_cons] at hl hb
    obtain ⟨h1, h2⟩ := stepP_ok ls r n d hr (hd d List.mem_cons_self)
    have e0 := lstep_ok (L := L) (k := k) (S := []) (n := n) hr (by omega) (hd d List.mem_cons_self)
    obtain ⟨x', y', e⟩ := lrun_loop (x0 := x0) (dd0 := dd0) ds ((stepP ls r n d).getD r) (b ++ [(stepP ls r n d).isSome]) (some (ddD d)) (some (orD (stepP ls r n d))) h1 (fun d hd' => hd d (List.mem_cons_of_mem _ hd')) (by omega) (by simp; omega)
    refine ⟨x', y', ?_⟩
    rw [List.map_cons]
    unfold evFor
    simp only [bindT]
    have hb2 : b.length + 1 ≤ 16777216 := by omega
    have hb3 : b.length ≤ 16777215 := by omega
    have step : exss L.cons (L.run (k + 3)) L.fuel b__law_run_0 [some (.tup [lsD ls, dd0]), some (.int n), some (ddD d), some (lnD r), some (diD b), y] [] = .nx [some (.tup [lsD ls, dd0]), some (.int n), some (ddD d), some (lnD ((stepP ls r n d).getD r)), some (diD (b ++ [(stepP ls r n d).isSome])), some (orD (stepP ls r n d))] [] := by
      cases q : stepP ls r n d with
      | none =>
        rw [q] at e0
        simp [b__law_run_0, e0, orD, diD, hb2, hb3]
      | some r' =>
        rw [q] at e0
        have hn : isNon (lnD r') = false := rfl
        simp [b__law_run_0, e0, orD, diD, hb2, hb3, hn]
    exact (congrArg (fun z : Fl => z.then fun ρ S => evFor _ (exss L.cons (L.run (k + 3)) L.fuel b__law_run_0) (ds.map ddD) ρ S) step).trans e
theorem lrun_ok (h : Pk ls ds) : L.run (k + 4) (.glo f__law_run) [plD ls ds, .int n] S = .ok (.tup [diD (endP ls ds n).2.1, lnD (endP ls ds n).1]) S := by
  have hd := h.d1
  obtain ⟨x, y, e⟩ := lrun_loop (L := L) (k := k) (n := n) (ls := ls) (x0 := none) (dd0 := .tup (ds.map ddD)) ds [] [] none none (fun _ h => nomatch h) h.car (by simp; omega) (by simp; omega)
  obtain ⟨q1, q2⟩ := runP_runQ ls n ds [] [] []
  rw [← q1, ← q2] at e
  refine run_reg (S' := []) h__law_run rfl ⟨rfl, by decide⟩ (by simp [gd_pure _ _ _ h.gd]) ?_ (by simp)
  simp [d__law_run, plD]
  simp [lnD, diD] at e ⊢
  rw [e]
  simp
theorem endP_nd (h : Pk ls ds) : Nd (endP ls ds n).1 := by
  rw [endP, (runP_runQ ls n ds [] [] []).1]
  exact runQ_nd ls n ds [] [] List.nodup_nil
end
end KI


set_option Elab.async false
set_option linter.all false
set_option maxRecDepth 100000
set_option autoImplicit false
set_option maxHeartbeats 1000000
/-! The law's own forms, places, gaps; a drawn length; drawn plans. -/
namespace KI
open PySem
theorem exss_nx {cons : Nat → D} {call : Call} {fuel : Nat} {s : Sx} {ss : Sxs} {ρ ρ' : Env} {S S' : Sto} (h : exs cons call fuel s ρ S = .nx ρ' S') : exss cons call fuel (.cons s ss) ρ S = exss cons call fuel ss ρ' S' := by rw [exss_cons, h]
theorem exss_rt {cons : Nat → D} {call : Call} {fuel : Nat} {s : Sx} {ss : Sxs} {ρ : Env} {d : D} {S S' : Sto} (h : exs cons call fuel s ρ S = .rt d S') : exss cons call fuel (.cons s ss) ρ S = .rt d S' := by rw [exss_cons, h]
@[simp] theorem pu_of (o : Option Fm) : (ofD o).pure = true := by cases o <;> rfl
/-- the places, as forms -/
def formsP (ls : List Int) (r : Row) : List (Option Fm) := (List.range ls.length).map fun c => placeOf r c
theorem placesP_forms (ls : List Int) (r : Row) (n : Int) : placesP ls r n = (formsP ls r).map fun o => owD (o.map (wo · n)) := by
  unfold placesP formsP
  rw [List.map_map]
  rfl
section
variable {L : Lw} [L.Std] {k : Nat} {S : Sto} {n : Int} {ls : List Int} {ds : List Dd} {r : Row}
theorem lforms_ok (h : Pk ls ds) : L.run (k + 5) (.glo f__law_forms) [plD ls ds, .int n] S = .ok (.lst ((formsP ls (endP ls ds n).1).map ofD)) S := by
  have hl1 := h.l1
  have e1 := lrun_ok (L := L) (k := k) (S := []) (n := n) h
  refine run_reg (S' := []) h__law_forms rfl ⟨rfl, by decide⟩ (by simp [gd_pure _ _ _ h.gd]) ?_ (by rw [pu_lst]; exact pureL_map _ (fun o => by simp) _)
  have e2 : ∀ y, ev L.cons (L.run (k + 4)) l__law_forms_0 [some (plD ls ds), some (.int n), some (.dic (kvR (endP ls ds n).1)), y] [] = .ok (.lst ((formsP ls (endP ls ds n).1).map ofD)) [] := fun y => by
    unfold formsP
    rw [List.map_map]
    refine lc_allA (fun j : Nat => D.int j) _ _ ?_ (fun c _ => ?_) (by simp; omega)
    · have : rngOk ls.length = true := rngOk_of (by omega) (by omega)
      simp [plD, lsD, this, rngL_nat]
    · simp [mtOk, mtD, dicGet_row]
      cases placeOf (endP ls ds n).1 c <;> rfl
  have e3 : biD [] .dict [lnD (endP ls ds n).1] = some (.dic (kvR (endP ls ds n).1)) := by
    show (pairsOf ((endP ls ds n).1.map cD)).map (fun ps => D.dic (mergeD [] ps)) = _
    rw [pairs_row]
    show some (D.dic (mergeD [] (kvR (endP ls ds n).1))) = _
    rw [kvR_nd (endP_nd h)]
  have e4 : exs L.cons (L.run (k + 4)) L.fuel (.set 2 (.bi .dict (.cons (.idx (.call f__law_run (.cons (.var 0) (.cons (.var 1) .nil))) (.int 1)) .nil))) [some (plD ls ds), some (.int n), none, none] [] = .nx [some (plD ls ds), some (.int n), some (.dic (kvR (endP ls ds n).1)), none] [] := by simp [e1, e3]
  exact (exss_nx e4).trans (exss_rt (by rw [exs_ret, e2]))
theorem lplaces_loop {x0 : Option D} : ∀ (fs : List (Option Fm)) (acc : List D) (y : Option D), (∀ f ∈ fs, ∀ g, f = some g → 0 ≤ g.1 ∧ g.1 ≤ 1) → acc.length + fs.length < 1000 →
    ∃ y', evFor (.nm 3) (exss L.cons (L.run (k + 1)) L.fuel b__law_places_0) (fs.map ofD) [x0, some (.int n), some (.tup acc), y] S = .nx [x0, some (.int n), some (.tup (acc ++ fs.map fun o => owD (o.map (wo · n)))), y'] S
  | [], acc, y, _, _ => ⟨y, by simp [evFor]⟩
  | f :: fs, acc, y, hf, hl => by
    rw [List.length_cons] at hl
    obtain ⟨y', e⟩ := lplaces_loop (x0 := x0) fs (acc ++ [owD (f.map (wo · n))]) (some (ofD f)) (fun g hg => hf g (List.mem_cons_of_mem _ hg)) (by simp; omega)
    refine ⟨y', ?_⟩
    rw [List.map_cons]
    unfold evFor
    simp only [bindT]
    have hl2 : acc.length + 1 ≤ 16777216 := by omega
    have hl3 : acc.length ≤ 16777215 := by omega
    have step : exss L.cons (L.run (k + 1)) L.fuel b__law_places_0 [x0, some (.int n), some (.tup acc), some (ofD f)] S = .nx [x0, some (.int n), some (.tup (acc ++ [owD (f.map (wo · n))])), some (ofD f)] S := by
      cases f with
      | none => simp [b__law_places_0, ofD, owD, hl2, hl3]
      | some g =>
        have := hf _ List.mem_cons_self g rfl
        have ev := lvalue_ok (L := L) (k := k) (S := S) (a := g.1) (b := g.2) (n := n) (mo _ _ (by omega) (by omega))
        simp [b__law_places_0, ofD, owD, ev, hl2, hl3]
    exact (congrArg (fun z : Fl => z.then fun ρ S => evFor _ (exss L.cons (L.run (k + 1)) L.fuel b__law_places_0) (fs.map ofD) ρ S) step).trans (e.trans (by simp))
theorem formsP_ok (hr : Rk ls r) : ∀ f ∈ formsP ls r, ∀ g, f = some g → 0 ≤ g.1 ∧ g.1 ≤ 1 := fun f hf g e => by
  obtain ⟨c, _, q⟩ := List.mem_map.mp hf
  exact placeOf_ok hr (q.trans e)
theorem lplaces_ok (h : Pk ls ds) : L.run (k + 6) (.glo f__law_places) [plD ls ds, .int n] S = .ok (.tup (placesP ls (endP ls ds n).1 n)) S := by
  have hl1 := h.l1
  have e1 := lforms_ok (L := L) (k := k) (S := []) (n := n) h
  refine run_reg (S' := []) h__law_places rfl ⟨rfl, by decide⟩ (by simp [gd_pure _ _ _ h.gd]) ?_ (places_pure _ _ _)
  obtain ⟨y, e⟩ := lplaces_loop (L := L) (k := k + 4) (S := []) (n := n) (x0 := some (plD ls ds)) (formsP ls (endP ls ds n).1) [] none (formsP_ok (endP_ok h).1) (by simp [formsP]; omega)
  rw [List.nil_append, ← placesP_forms] at e
  have e4 : exs L.cons (L.run (k + 5)) L.fuel (.set 2 (.tup .nil)) [some (plD ls ds), some (.int n), none, none] [] = .nx [some (plD ls ds), some (.int n), some (.tup []), none] [] := by simp
  have e5 : exs L.cons (L.run (k + 5)) L.fuel (.for_ (.nm 3) (.val (.call f__law_forms (.cons (.var 0) (.cons (.var 1) .nil)))) b__law_places_0) [some (plD ls ds), some (.int n), some (.tup []), none] [] = .nx [some (plD ls ds), some (.int n), some (.tup (placesP ls (endP ls ds n).1 n)), y] [] := by
    have e6 : evi L.cons (L.run (k + 5)) (.val (.call f__law_forms (.cons (.var 0) (.cons (.var 1) .nil)))) [some (plD ls ds), some (.int n), some (.tup []), none] [] = .ok ((formsP ls (endP ls ds n).1).map ofD) [] := by simp [e1]
    rw [exs_for_, e6]
    exact e
  exact (exss_nx e4).trans ((exss_nx e5).trans (exss_rt (by simp)))
theorem lgaps_ok (h : Pk ls ds) : L.run (k + 5) (.glo f__law_gaps) [plD ls ds, .int n] S = .ok (.tup ((gapP ls (endP ls ds n).1 n).map gD)) S := by
  have hr := (endP_ok (n := n) h).1
  have hl := (endP_ok (n := n) h).2.1
  have e1 := lrun_ok (L := L) (k := k) (S := []) (n := n) h
  have e2 := lspaces_ok (L := L) (k := k + 2) (S := []) (n := n) hr (by omega)
  have hg := spaces_ok ls (endP ls ds n).1 (0, 0) hr (by simp) (by simp)
  have hsl := spaces_len ls (endP ls ds n).1 (0, 0)
  refine run_reg (S' := []) h__law_gaps rfl ⟨rfl, by decide⟩ (by simp [gd_pure _ _ _ h.gd]) ?_ (by rw [pu_tup]; exact pureL_gs _)
  have e3 : exs L.cons (L.run (k + 4)) L.fuel (.set 2 (.call f__law_spaces (.cons (.idx (.var 0) (.int 0)) (.cons (.idx (.call f__law_run (.cons (.var 0) (.cons (.var 1) .nil))) (.int 1)) (.cons (.var 1) .nil))))) [some (plD ls ds), some (.int n), none, none] [] = .nx [some (plD ls ds), some (.int n), some (gsD (spaces ls (endP ls ds n).1 (0, 0))), none] [] := by
    have e0 : idxD [] (plD ls ds) (.int 0) = some (lsD ls) := by simp [plD]
    simp [e1, e2, e0]
  have e4 : ev L.cons (L.run (k + 4)) l__law_gaps_0 [some (plD ls ds), some (.int n), some (gsD (spaces ls (endP ls ds n).1 (0, 0))), none] [] = .ok (.lst ((gapP ls (endP ls ds n).1 n).map gD)) [] := by
    unfold gapP
    rw [← filterMap_if]
    refine lc_mapA gD _ (spaces ls (endP ls ds n).1 (0, 0)) (by simp [gsD]) (fun g hgm => ?_) (by simp; omega)
    have hgk := hg g hgm
    unfold Gk at hgk
    have ev := lvalue_ok (L := L) (k := k + 3) (S := []) (a := g.2.1) (b := g.2.2) (n := n) (mo _ _ (by omega) (by omega))
    by_cases c : 0 < wo g.2 n
    · have c2 : (0 : Int) < g.2.1 * n + g.2.2 := c
      simp [ev, c2]
    · have c2 : ¬ (0 : Int) < g.2.1 * n + g.2.2 := c
      simp [ev, c2]
  exact (exss_nx e3).trans (exss_rt (by simp [e4]))
/-- a drawn length -/
theorem ln_ok {m : Nat} (h : Src S m) : ∃ (n : Int) (S' : Sto), L.run (k + 3) (.glo f__law_n) [.cell m] S = .ok (.int n) S' ∧ Nk n ∧ Src S' m ∧ S'.length = S.length := by
  obtain ⟨a, S1, e1, a0, a1, s1, l1⟩ := draw_ok (L := L) (k := k + 1) h (m := 9) (by omega) (by omega)
  obtain ⟨b, S2, e2, b0, b1, s2, l2⟩ := draw_ok (L := L) (k := k + 1) s1 (m := 1000000000) (by omega) (by omega)
  obtain ⟨c, S3, e3, c0, c1, s3, l3⟩ := draw_ok (L := L) (k := k + 1) s2 (m := 40) (by omega) (by omega)
  obtain ⟨x, S4, e4, hx, s4, l4⟩ := of_ok (L := L) (k := k) s3 (xs := [.int 10, .int (10 + a), .int (10 + a + c), .int (1000000000 + b), .int 1000000000000000000000000000000]) (by simp) (by simp)
  have hn : ∃ n : Int, x = .int n ∧ Nk n := by
    simp only [List.mem_cons, List.not_mem_nil, or_false] at hx
    rcases hx with h | h | h | h | h
    · exact ⟨_, h, by unfold Nk; omega⟩
    · exact ⟨_, h, by unfold Nk; omega⟩
    · exact ⟨_, h, by unfold Nk; omega⟩
    · exact ⟨_, h, by unfold Nk; omega⟩
    · exact ⟨_, h, by unfold Nk; omega⟩
  obtain ⟨n, rfl, hn⟩ := hn
  refine ⟨n, S4, ?_, hn, s4, by omega⟩
  refine run_non h__law_n rfl ⟨rfl, by decide⟩ ?_
  simp [d__law_n, e1, e2, e3, e4]
/-! ### drawn plans -/
theorem rule_ru {x : D} (h : Rule x) : ∃ ru, x = ruD ru := by
  rcases h with h | h | h | h
  · exact ⟨.front, h⟩
  · exact ⟨.back, h⟩
  · exact ⟨.tight, h⟩
  · exact ⟨.wide, h⟩
theorem drawn_dd {cars : Nat} {d : D} (h : DrawnDeed cars d) : ∃ x : Dd, d = ddD x ∧ x.car < cars := by
  rcases h.form with ⟨x, r, e, hx, r0, r1⟩ | ⟨w, r, e, hw, r0, r1⟩
  · obtain ⟨ru, rfl⟩ := rule_ru hx
    obtain ⟨c, rfl⟩ := Int.eq_ofNat_of_zero_le r0
    exact ⟨.park c ru, e, by show c < cars; omega⟩
  · obtain ⟨c, rfl⟩ := Int.eq_ofNat_of_zero_le r0
    rcases hw with h | h | h <;> subst h
    · exact ⟨.leave c, e, by show c < cars; omega⟩
    · exact ⟨.pull c, e, by show c < cars; omega⟩
    · exact ⟨.drop c, e, by show c < cars; omega⟩
theorem drawn_dds {cars : Nat} : ∀ {ds : List D}, (∀ d ∈ ds, DrawnDeed cars d) → ∃ xs : List Dd, ds = xs.map ddD ∧ ∀ x ∈ xs, x.car < cars
  | [], _ => ⟨[], rfl, fun _ h => nomatch h⟩
  | d :: ds, h => by
    obtain ⟨x, e1, h1⟩ := drawn_dd (h d List.mem_cons_self)
    obtain ⟨xs, e2, h2⟩ := drawn_dds (ds := ds) fun d hd => h d (List.mem_cons_of_mem _ hd)
    refine ⟨x :: xs, by rw [e1, e2]; rfl, fun y hy => ?_⟩
    rcases List.mem_cons.mp hy with q | hy
    · rw [q]; exact h1
    · exact h2 y hy
theorem drawn_pk {most : Int} {p : D} (h : DrawnPlan most p) (hm : most ≤ 8) : ∃ ls ds, p = plD ls ds ∧ Pk ls ds := by
  obtain ⟨ls, ds, rfl, l0, l1, hl, hd, hds⟩ := h.form
  obtain ⟨xs, rfl, hx⟩ := drawn_dds hds
  exact ⟨ls, xs, rfl, l0, l1, hl, by simp at hd; omega, hx⟩
end
end KI


set_option Elab.async false
set_option linter.all false
set_option maxRecDepth 100000
set_option autoImplicit false
set_option maxHeartbeats 1000000
/-! Small things that laws' own texts need. -/
namespace KI
open PySem
theorem shpL_map {α : Type} (f : α → D) (k : Nat) (h : ∀ a, shp k (f a) = true) : ∀ l : List α, shpL k (l.map f) = true
  | [] => by cases k <;> rfl
  | a :: l => by rw [List.map_cons, shpL_cons, h a, shpL_map f k h l]; rfl
theorem shp_di (b : List Bool) : shp 64 (diD b) = true := by rw [diD, shp64_tup]; exact shpL_map _ _ (fun a => by simp) b
theorem shp_ow (o : Option Int) (k : Nat) : shp k (owD o) = true := by cases o <;> simp [owD]
theorem shp_places (ls : List Int) (r : Row) (n : Int) : shp 64 (.tup (placesP ls r n)) = true := by rw [shp64_tup]; exact shpL_map _ _ (fun a => shp_ow _ _) _
theorem shp_row (r : Row) : shp 64 (.tup (r.map fun c => D.int c.1)) = true := by rw [shp64_tup]; exact shpL_map _ _ (fun a => by simp) _
def gvD (n : Int) (g : Fm × Fm) : D := .tup [.int (wo g.1 n), .int (wo g.2 n)]
theorem shp_gaps (n : Int) (l : List (Fm × Fm)) : shp 64 (.lst (l.map (gvD n))) = true := by rw [shp64_lst]; exact shpL_map _ _ (fun a => by simp [gvD]) _
def tailS : Sxs → Sxs
  | .nil => .nil
  | .cons _ ss => ss
theorem ne_false {L : Lw} {call : Call} {a b : Ex} {ρ : Env} {S S1 S2 : Sto} {d : D} (h1 : ev L.cons call a ρ S = .ok d S1) (h2 : ev L.cons call b ρ S1 = .ok d S2) (hs : shp 64 d = true) : ev L.cons call (.cmp .ne a b) ρ S = .ok (.bl false) S2 := by
  rw [ev_cmp, h1]
  show (ev L.cons call b ρ S1).bind _ = _
  rw [h2]
  show lift (Option.map D.bl (cmpD _ d d)) S2 = _
  rw [ne_self hs]
  rfl
theorem eq_true' {L : Lw} {call : Call} {a b : Ex} {ρ : Env} {S S1 S2 : Sto} {d : D} (h1 : ev L.cons call a ρ S = .ok d S1) (h2 : ev L.cons call b ρ S1 = .ok d S2) (hs : shp 64 d = true) : ev L.cons call (.cmp .eq a b) ρ S = .ok (.bl true) S2 := by
  rw [ev_cmp, h1]
  show (ev L.cons call b ρ S1).bind _ = _
  rw [h2]
  show lift (Option.map D.bl (cmpD _ d d)) S2 = _
  rw [eq_self' hs]
  rfl
theorem ifs_false {cons : Nat → D} {call : Call} {fuel : Nat} {c : Ex} {a : Sxs} {ρ : Env} {S S' : Sto} (h : ev cons call c ρ S = .ok (.bl false) S') : exs cons call fuel (.ifs c a .nil) ρ S = .nx ρ S' := by rw [exs_ifs, h]; rfl
end KI


set_option Elab.async false
set_option linter.all false
set_option maxRecDepth 100000
set_option autoImplicit false
set_option maxHeartbeats 2000000
/-! k11: words, lines. -/
namespace K11
open PySem KI
/-- the figures -/
def D10 : List (Str × Int) := [("0", 0), ("1", 1), ("2", 2), ("3", 3), ("4", 4), ("5", 5), ("6", 6), ("7", 7), ("8", 8), ("9", 9)]
/-- what a word is read as -/
def pt (w : Str) : D := match D10.lookup w with
  | some i => .int i
  | none => .str w
theorem dig_cases (w : Str) : w = "0" ∨ w = "1" ∨ w = "2" ∨ w = "3" ∨ w = "4" ∨ w = "5" ∨ w = "6" ∨ w = "7" ∨ w = "8" ∨ w = "9" ∨ (w ≠ "0" ∧ w ≠ "1" ∧ w ≠ "2" ∧ w ≠ "3" ∧ w ≠ "4" ∧ w ≠ "5" ∧ w ≠ "6" ∧ w ≠ "7" ∧ w ≠ "8" ∧ w ≠ "9") := by
  by_cases h0 : w = "0"; · exact .inl h0
  by_cases h1 : w = "1"; · exact .inr (.inl h1)
  by_cases h2 : w = "2"; · exact .inr (.inr (.inl h2))
  by_cases h3 : w = "3"; · exact .inr (.inr (.inr (.inl h3)))
  by_cases h4 : w = "4"; · exact .inr (.inr (.inr (.inr (.inl h4))))
  by_cases h5 : w = "5"; · exact .inr (.inr (.inr (.inr (.inr (.inl h5)))))
  by_cases h6 : w = "6"; · exact .inr (.inr (.inr (.inr (.inr (.inr (.inl h6))))))
  by_cases h7 : w = "7"; · exact .inr (.inr (.inr (.inr (.inr (.inr (.inr (.inl h7)))))))
  by_cases h8 : w = "8"; · exact .inr (.inr (.inr (.inr (.inr (.inr (.inr (.inr (.inl h8))))))))
  by_cases h9 : w = "9"; · exact .inr (.inr (.inr (.inr (.inr (.inr (.inr (.inr (.inr (.inl h9)))))))))
  exact .inr (.inr (.inr (.inr (.inr (.inr (.inr (.inr (.inr (.inr ⟨h0, h1, h2, h3, h4, h5, h6, h7, h8, h9⟩)))))))))
theorem pt_none {w : Str} (h : w ≠ "0" ∧ w ≠ "1" ∧ w ≠ "2" ∧ w ≠ "3" ∧ w ≠ "4" ∧ w ≠ "5" ∧ w ≠ "6" ∧ w ≠ "7" ∧ w ≠ "8" ∧ w ≠ "9") : pt w = .str w := by
  obtain ⟨h0, h1, h2, h3, h4, h5, h6, h7, h8, h9⟩ := h
  have e : ∀ {a : Str}, w ≠ a → (w == a) = false := fun z => by simpa using z
  simp only [pt, D10, List.lookup, e h0, e h1, e h2, e h3, e h4, e h5, e h6, e h7, e h8, e h9]
/-- all ten words -/
def digs : List D := [.str "0", .str "1", .str "2", .str "3", .str "4", .str "5", .str "6", .str "7", .str "8", .str "9"]
theorem digs_ev (call : Call) (x y : Option D) (S : Sto) : ev L.cons call l_part_in_0 [x, y] S = .ok (.lst digs) S := by kernel_rfl
theorem shp_digs (k : Nat) : shpL k digs = true := by
  have e : ∀ s : Str, s.cps.all (· < 0x110000) = true → shp k (.str s) = true := fun s h => shp_lit k s h
  simp only [digs, shpL_cons, shpL_nil, Bool.and_true, Bool.and_eq_true]
  exact ⟨e _ (by decide +kernel), e _ (by decide +kernel), e _ (by decide +kernel), e _ (by decide +kernel), e _ (by decide +kernel), e _ (by decide +kernel), e _ (by decide +kernel), e _ (by decide +kernel), e _ (by decide +kernel), e _ (by decide +kernel)⟩
theorem eqD_ss (a b : Str) : eqD (.str a) (.str b) = (a == b) := rfl
section
variable {k : Nat} {S : Sto}
theorem part_ok {w : Str} (hw : sg w = true) : L.run (k + 1) (.glo f_part_in) [.str w] S = .ok (pt w) S := by
  have hp : (pt w).pure = true := by unfold pt; split <;> rfl
  refine run_reg (S' := []) h_part_in rfl ⟨rfl, by decide⟩ rfl ?_ hp
  rcases dig_cases w with rfl | rfl | rfl | rfl | rfl | rfl | rfl | rfl | rfl | rfl | h
  · kernel_rfl
  · kernel_rfl
  · kernel_rfl
  · kernel_rfl
  · kernel_rfl
  · kernel_rfl
  · kernel_rfl
  · kernel_rfl
  · kernel_rfl
  · kernel_rfl
  · rw [pt_none h]
    obtain ⟨h0, h1, h2, h3, h4, h5, h6, h7, h8, h9⟩ := h
    have e : ∀ {a : Str}, w ≠ a → (a == w) = false := fun z => by simpa using fun q => z q.symm
    have ha : digs.any (fun y => eqD y (.str w)) = false := by
      simp only [digs, List.any_cons, List.any_nil, eqD_ss, e h0, e h1, e h2, e h3, e h4, e h5, e h6, e h7, e h8, e h9, Bool.or_self]
    have hd := digs_ev (L.run k) (some (.str w)) none []
    have e1 : ev L.cons (L.run k) (.cmp .in_ (.var 0) l_part_in_0) [some (.str w), none] [] = .ok (.bl false) [] := by
      simp [hd, sg_shp 64 hw, shp_digs, ha]
    show exss L.cons (L.run k) L.fuel d_part_in.body [some (.str w), none] [] = _
    simp [d_part_in, e1]
end
/-! ### a word, written again -/
/-- what a part is written as -/
def wr : D → Option Str
  | .int i => if i.natAbs.log2 < 1920 then some (toString i) else none
  | .str s => some s
  | _ => none
theorem str_wr (d : D) (S : Sto) : biD S .str [d] = (wr d).map .str := by
  cases d <;> first | rfl | (simp only [biD, wr]; split <;> rfl)
theorem wr_pt (w : Str) : wr (pt w) = some w := by
  rcases dig_cases w with rfl | rfl | rfl | rfl | rfl | rfl | rfl | rfl | rfl | rfl | h
  · kernel_rfl
  · kernel_rfl
  · kernel_rfl
  · kernel_rfl
  · kernel_rfl
  · kernel_rfl
  · kernel_rfl
  · kernel_rfl
  · kernel_rfl
  · kernel_rfl
  · rw [pt_none h]; rfl
theorem pt_gd {w : Str} (hw : sg w = true) (h n : Nat) : gd h n (pt w) = true := by
  unfold pt
  split
  · cases h <;> rfl
  · exact sg_gd h n hw
/-- the words 2 to 9, 0 to 4 -/
def w29 : List Str := ["2", "3", "4", "5", "6", "7", "8", "9"]
def w04 : List Str := ["0", "1", "2", "3", "4"]
theorem num29 (w : Str) : isNum (pt w) 2 9 = decide (w ∈ w29) := by
  rcases dig_cases w with rfl | rfl | rfl | rfl | rfl | rfl | rfl | rfl | rfl | rfl | h
  · decide +kernel
  · decide +kernel
  · decide +kernel
  · decide +kernel
  · decide +kernel
  · decide +kernel
  · decide +kernel
  · decide +kernel
  · decide +kernel
  · decide +kernel
  · rw [pt_none h]
    obtain ⟨h0, h1, h2, h3, h4, h5, h6, h7, h8, h9⟩ := h
    have : w ∉ w29 := by simp only [w29, List.mem_cons, List.not_mem_nil, or_false, not_or]; exact ⟨h2, h3, h4, h5, h6, h7, h8, h9⟩
    rw [decide_eq_false this]
    rfl
theorem num04 (w : Str) : isNum (pt w) 0 4 = decide (w ∈ w04) := by
  rcases dig_cases w with rfl | rfl | rfl | rfl | rfl | rfl | rfl | rfl | rfl | rfl | h
  · decide +kernel
  · decide +kernel
  · decide +kernel
  · decide +kernel
  · decide +kernel
  · decide +kernel
  · decide +kernel
  · decide +kernel
  · decide +kernel
  · decide +kernel
  · rw [pt_none h]
    obtain ⟨h0, h1, h2, h3, h4, h5, h6, h7, h8, h9⟩ := h
    have : w ∉ w04 := by simp only [w04, List.mem_cons, List.not_mem_nil, or_false, not_or]; exact ⟨h0, h1, h2, h3, h4⟩
    rw [decide_eq_false this]
    rfl
/-- a word among words none of which is a figure -/
theorem wd_pt (w : Str) (ws : List Str) (h : ∀ a ∈ ws, D10.lookup a = none) : isWd (pt w) (ws.map .str) = decide (w ∈ ws) := by
  cases q : D10.lookup w with
  | some i =>
    have e : pt w = .int i := by unfold pt; rw [q]
    have : w ∉ ws := fun z => by rw [h w z] at q; cases q
    rw [e, decide_eq_false this]
    rfl
  | none =>
    have e : pt w = .str w := by unfold pt; rw [q]
    rw [e]
    show (ws.map D.str).any (fun y => eqD y (.str w)) = _
    rw [List.any_map]
    by_cases hm : w ∈ ws
    · rw [decide_eq_true hm, List.any_eq_true]
      exact ⟨w, hm, by show eqD (.str w) (.str w) = true; rw [eqD_ss]; exact beq_self_eq_true w⟩
    · rw [decide_eq_false hm, List.any_eq_false]
      intro a ha q
      have : (a == w) = true := q
      rw [eq_of_beq this] at ha
      exact hm ha
theorem eqD_pt (w a : Str) (h : D10.lookup a = none) : eqD (pt w) (.str a) = decide (w = a) := by
  cases q : D10.lookup w with
  | some i =>
    have e : pt w = .int i := by unfold pt; rw [q]
    have : w ≠ a := fun z => by rw [z, h] at q; cases q
    rw [e, decide_eq_false this]
    rfl
  | none =>
    have e : pt w = .str w := by unfold pt; rw [q]
    rw [e, eqD_ss]
    by_cases z : w = a
    · rw [z, beq_self_eq_true, decide_eq_true rfl]
    · rw [decide_eq_false z]
      simpa using z
/-! ### a line -/
/-- what a line is read as, by its words -/
def lineP : List Str → D
  | [] => .non
  | w :: ws => if w = "lengths" then (if isLens (.tup (ws.map pt)) then .tup [.str "lengths", .tup (ws.map pt)] else .non)
    else if isDeed 5 (.tup ((w :: ws).map pt)) then .tup [.str "deed", .tup ((w :: ws).map pt)] else .non
/-- its sort by the law -/
def sortP : List Str → D
  | [] => .non
  | w :: ws => if w = "lengths" then (if 1 ≤ ws.length ∧ ws.length ≤ 5 ∧ ∀ a ∈ ws, a ∈ w29 then .str "lengths" else .non)
    else match ws with
      | [] => .non
      | b :: r => if b ∉ w04 then .non else if w = "park" then (match r with
          | [c] => if c ∈ (["front", "back", "tight", "wide"] : List Str) then .str "deed" else .non
          | _ => .non)
        else if r = [] ∧ w ∈ (["leave", "pull", "drop"] : List Str) then .str "deed" else .non
def sortOf : D → D
  | .tup (s :: _) => s
  | _ => .non
theorem lens_pt (ws : List Str) : isLens (.tup (ws.map pt)) = decide (1 ≤ ws.length ∧ ws.length ≤ 5 ∧ ∀ a ∈ ws, a ∈ w29) := by
  simp only [isLens, isTup, List.length_map]
  rw [Bool.eq_iff_iff]
  simp only [Bool.and_eq_true, decide_eq_true_eq, List.all_eq_true, List.mem_map, forall_exists_index, and_imp, forall_apply_eq_imp_iff₂, num29]
  constructor
  · rintro ⟨⟨a, b⟩, c⟩
    exact ⟨by omega, by omega, c⟩
  · rintro ⟨a, b, c⟩
    exact ⟨⟨by omega, by omega⟩, c⟩
theorem sort_line (ws : List Str) : sortOf (lineP ws) = sortP ws := by
  cases ws with
  | nil => rfl
  | cons w ws =>
    simp only [lineP, sortP]
    by_cases hl : w = "lengths"
    · rw [if_pos hl, if_pos hl, lens_pt]
      by_cases z : 1 ≤ ws.length ∧ ws.length ≤ 5 ∧ ∀ a ∈ ws, a ∈ w29
      · rw [if_pos z, if_pos (decide_eq_true z)]; rfl
      · rw [if_neg z, if_neg (by rw [decide_eq_false z]; simp)]; rfl
    · rw [if_neg hl, if_neg hl]
      match ws with
      | [] => rfl
      | [b] =>
        have e : isDeed 5 (.tup ([w, b].map pt)) = (decide (b ∈ w04) && decide (w ∈ (["leave", "pull", "drop"] : List Str))) := by
          show (isNum (pt b) 0 (5 - 1) && isWd (pt w) wdMove) = _
          rw [show (5 - 1 : Int) = 4 from rfl, num04, show wdMove = (["leave", "pull", "drop"] : List Str).map .str from rfl, wd_pt w _ (by decide +kernel)]
        rw [e]
        by_cases hb : b ∈ w04
        · simp only [hb, not_true, if_false, decide_true, Bool.true_and, decide_eq_true_eq, true_and]
          by_cases hp : w = "park"
          · subst hp
            rw [if_pos rfl, if_neg (by decide +kernel)]
            rfl
          · rw [if_neg hp]
            by_cases hm : w ∈ (["leave", "pull", "drop"] : List Str)
            · rw [if_pos hm, if_pos hm]; rfl
            · rw [if_neg hm, if_neg hm]; rfl
        · simp [hb, sortOf]
      | [b, c] =>
        have e : isDeed 5 (.tup ([w, b, c].map pt)) = (decide (b ∈ w04) && (decide (w ∈ (["park"] : List Str)) && decide (c ∈ (["back", "front", "tight", "wide"] : List Str)))) := by
          show (isNum (pt b) 0 (5 - 1) && (isWd (pt w) wdPark && isWd (pt c) wdRule)) = _
          rw [show (5 - 1 : Int) = 4 from rfl, num04, show wdPark = (["park"] : List Str).map .str from rfl, wd_pt w _ (by decide +kernel), show wdRule = (["back", "front", "tight", "wide"] : List Str).map .str from rfl, wd_pt c _ (by decide +kernel)]
        rw [e]
        have hc : c ∈ (["front", "back", "tight", "wide"] : List Str) ↔ c ∈ (["back", "front", "tight", "wide"] : List Str) := by
          simp only [List.mem_cons, List.not_mem_nil, or_false]
          constructor <;> (rintro (h | h | h | h) <;> simp [h])
        by_cases hb : b ∈ w04
        · by_cases hp : w = "park"
          · subst hp
            by_cases hm : c ∈ (["back", "front", "tight", "wide"] : List Str)
            · simp [hb, hm, hc.mpr hm, sortOf]
            · have hm2 : c ∉ (["front", "back", "tight", "wide"] : List Str) := fun z => hm (hc.mp z)
              simp only [hb, hm, hm2, not_true, if_false, if_true, decide_true, decide_false, Bool.and_false, Bool.false_eq_true]
              rfl
          · simp [hb, hp, sortOf]
        · simp [hb, sortOf]
      | b :: c :: d :: r =>
        have e : isDeed 5 (.tup ((w :: b :: c :: d :: r).map pt)) = false := rfl
        rw [e]
        by_cases hb : b ∈ w04
        · by_cases hp : w = "park" <;> simp [hb, hp, sortOf]
        · simp [hb, sortOf]
end K11


set_option Elab.async false
set_option linter.all false
set_option maxRecDepth 100000
set_option autoImplicit false
set_option maxHeartbeats 2000000
/-! k11: lines and texts read. -/
namespace K11
open PySem KI
theorem sp_eq : (" " : Str) = ⟨#[32]⟩ := by decide +kernel
theorem nl_eq : ("\n" : Str) = ⟨#[10]⟩ := by decide +kernel
abbrev wds (l : Str) : List Str := Txt.split l ⟨#[32]⟩
abbrev lns (t : Str) : List Str := Txt.split t ⟨#[10]⟩
theorem split_sp {l : Str} {S : Sto} (h : l.length ≤ 100000) : mtD S .split (.str l) [.str " "] = some (.lst ((wds l).map .str)) := by
  rw [sp_eq]
  show (if _ then _ else _) = _
  exact if_pos ⟨rfl, by show _ ≤ 16777216; omega⟩
theorem split_nl {l : Str} {S : Sto} (h : l.length ≤ 100000) : mtD S .split (.str l) [.str "\n"] = some (.lst ((lns l).map .str)) := by
  rw [nl_eq]
  show (if _ then _ else _) = _
  exact if_pos ⟨rfl, by show _ ≤ 16777216; omega⟩
theorem cut1 (a : D) (xs : List D) : cut (a :: xs) (some 1) none = xs := by
  unfold cut
  have e1 : HT.sIx (a :: xs).length 0 (some 1) = 1 := by
    unfold HT.sIx
    simp
    try omega
  have e2 : HT.sIx (a :: xs).length (a :: xs).length none = (a :: xs).length := rfl
  rw [e1, e2]
  simp
section
variable {k : Nat} {S : Sto}
theorem line_ok {l : Str} (hl : sg l = true) (hn : l.length ≤ 100000) : L.run (k + 3) (.glo f_line_in) [.str l] S = .ok (lineP (wds l)) S := by
  have hws : ∀ w ∈ wds l, sg w = true := fun w hw => split_sg hl hw
  have hlen : (wds l).length ≤ l.length + 1 := split_len l 32
  have hpt : ∀ h n, gdL h n ((wds l).map pt) = true := fun h n => gdL_of fun x hx => by
    obtain ⟨w, hw, rfl⟩ := List.mem_map.mp hx
    exact pt_gd (hws w hw) h n
  have e0 : ev L.cons (L.run (k + 2)) l_line_in_0 [some (.str l), none, none] [] = .ok (.lst ((wds l).map pt)) [] := by
    have := lc_map (cons := L.cons) (call := L.run (k + 2)) (own := [2]) (tg := .nm 2) (it := .val (.mth .split (.var 0) (.cons (.str " ") .nil))) (c := .none) (e := .call f_part_in (.cons (.var 2) .nil)) (ρ := [some (.str l), none, none]) (S := []) (xs := (wds l).map .str)
      (fun x => match x with
        | .str w => some (pt w)
        | _ => none) (by simp [mtOk, split_sp hn]) (fun x hx => by
        obtain ⟨w, hw, rfl⟩ := List.mem_map.mp hx
        simp [part_ok (k := k + 1) (hws w hw)]) (by rw [List.length_map]; show _ < 16777216; omega)
    rw [List.filterMap_map] at this
    have e : (wds l).filterMap ((fun x => match x with
        | D.str w => some (pt w)
        | _ => none) ∘ D.str) = (wds l).map pt := by rw [← List.filterMap_eq_map]; rfl
    rw [e] at this
    exact this
  have hpure : (lineP (wds l)).pure = true := by
    have pl : ∀ ws : List Str, pureL (ws.map pt) = true := fun ws => by
      induction ws with
      | nil => rfl
      | cons w ws ih =>
        show ((pt w).pure && pureL (ws.map pt)) = true
        rw [ih]
        unfold pt
        split <;> rfl
    cases wds l with
    | nil => rfl
    | cons w ws =>
      simp only [lineP]
      split
      · split
        · simp [D.pure, pureL, pl ws]
        · rfl
      · split
        · have := pl (w :: ws)
          simp [D.pure, pureL] at this ⊢
          exact this
        · rfl
  refine run_reg (S' := []) h_line_in rfl ⟨rfl, by decide⟩ rfl ?_ hpure
  show exss L.cons (L.run (k + 2)) L.fuel d_line_in.body [some (.str l), none, none] [] = _
  cases hw : wds l with
  | nil => exact absurd hw (split_ne _ _)
  | cons w ws =>
    rw [hw] at e0 hpt hlen
    have g1 := hpt 0 0
    have s64 : shp 64 (pt w) = true := gd_shp 64 0 _ (pt_gd (hws w (by rw [hw]; exact List.mem_cons_self)) _ _)
    have sl : shp 64 (.str "lengths") = true := shp_lit 64 _ (by decide +kernel)
    have el : eqD (pt w) (.str "lengths") = decide (w = "lengths") := eqD_pt w _ (by decide +kernel)
    have e1 : L.run (k + 2) (.glo f_are_lengths) [.tup (ws.map pt)] [] = .ok (.bl (isLens (.tup (ws.map pt)))) [] := by
      refine lens_ok (h := 1) (w := 200000) ?_ (by decide)
      show (decide ((ws.map pt).length ≤ 200000) && gdL 0 200000 (ws.map pt)) = true
      have := hpt 0 200000
      obtain ⟨_, z⟩ := KI.ba (show (gd 0 200000 (pt w) && gdL 0 200000 (ws.map pt)) = true from this)
      rw [z, Bool.and_true, decide_eq_true_eq, List.length_map]
      rw [List.length_cons] at hlen
      omega
    have e2 : L.run (k + 2) (.glo f_is_deed_of) [.int 5, .tup ((w :: ws).map pt)] [] = .ok (.bl (isDeed 5 (.tup ((w :: ws).map pt)))) [] := by
      refine deed_ok (h := 1) (w := 200000) ?_
      show (decide (((w :: ws).map pt).length ≤ 200000) && gdL 0 200000 ((w :: ws).map pt)) = true
      rw [hpt 0 200000, Bool.and_true, decide_eq_true_eq, List.length_map]
      omega
    have l1 : ws.length + 1 ≤ 16777216 := by rw [List.length_cons] at hlen; omega
    simp only [lineP]
    simp only [List.map_cons] at e0 e2 ⊢
    by_cases hwl : w = "lengths"
    · subst hwl
      cases q : isLens (.tup (ws.map pt)) with
      | true =>
        rw [q] at e1
        have z : ws.length ≤ 16777216 := by omega
        simp [d_line_in, e0, s64, sl, el, cut1, e1, q]
      | false =>
        rw [q] at e1
        simp [d_line_in, e0, s64, sl, el, cut1, e1, q]
    · cases q : isDeed 5 (.tup (pt w :: ws.map pt)) with
      | true =>
        rw [q] at e2
        simp [d_line_in, e0, s64, sl, el, hwl, e2, k_CARS, q]
      | false =>
        rw [q] at e2
        simp [d_line_in, e0, s64, sl, el, hwl, e2, k_CARS, q]
end
end K11


set_option Elab.async false
set_option linter.all false
set_option maxRecDepth 100000
set_option autoImplicit false
set_option maxHeartbeats 2000000
/-! k11: texts read. -/
namespace K11
open PySem KI
/-- the lines, read -/
def fnd (t : Str) : List D := (lns t).map fun l => lineP (wds l)
def toldOf : D → D
  | .tup [_, u] => u
  | _ => .non
/-- where the first line that is none stands -/
def badAt : Nat → List D → Option Nat
  | _, [] => none
  | n, d :: ds => if isNon d then some n else badAt (n + 1) ds
def sortsOk (fs : List D) : Bool := eqL (fs.map sortOf) (.str "lengths" :: List.replicate (fs.length - 1) (.str "deed"))
def planOf : List D → D
  | [] => .non
  | f :: fs => .tup [toldOf f, .tup (fs.map toldOf)]
/-- the plan, or the line of the error -/
def readP (t : Str) : D × Int := match badAt 0 (fnd t) with
  | some i => (.non, (i : Int) + 1)
  | none => if sortsOk (fnd t) && isPlan (planOf (fnd t)) then (planOf (fnd t), 0) else (.non, ((fnd t).length : Int) + 1)
/-- a line's reading -/
theorem lineP_form (ws : List Str) : lineP ws = .non ∨ (∃ r : List Str, ws = ("lengths" : Str) :: r ∧ lineP ws = .tup [.str "lengths", .tup (r.map pt)]) ∨ lineP ws = .tup [.str "deed", .tup (ws.map pt)] := by
  cases ws with
  | nil => exact .inl rfl
  | cons w ws =>
    simp only [lineP]
    by_cases h : w = "lengths"
    · subst h
      rw [if_pos rfl]
      split
      · exact .inr (.inl ⟨ws, rfl, rfl⟩)
      · exact .inl rfl
    · rw [if_neg h]
      split
      · exact .inr (.inr rfl)
      · exact .inl rfl
theorem pts_gd {N : Nat} : ∀ {ws : List Str}, (∀ w ∈ ws, sg w = true) → ∀ h, gdL h N (ws.map pt) = true := fun {ws} hw h => gdL_of fun x hx => by
  obtain ⟨w, hm, rfl⟩ := List.mem_map.mp hx
  exact pt_gd (hw w hm) h N
theorem lineP_gd {ws : List Str} (hw : ∀ w ∈ ws, sg w = true) (hl : ws.length ≤ 200000) : gd 2 200000 (lineP ws) = true := by
  have sl : gd 1 200000 (.str "lengths") = true := sg_gd _ _ (by decide +kernel)
  have sd : gd 1 200000 (.str "deed") = true := sg_gd _ _ (by decide +kernel)
  have key : ∀ r : List Str, (∀ w ∈ r, sg w = true) → r.length ≤ 200000 → gd 1 200000 (.tup (r.map pt)) = true := fun r hr hl => by
    show (decide ((r.map pt).length ≤ 200000) && gdL 0 200000 (r.map pt)) = true
    rw [pts_gd hr, Bool.and_true, decide_eq_true_eq, List.length_map]
    exact hl
  rcases lineP_form ws with h | ⟨r, h1, h⟩ | h
  · rw [h]; rfl
  · rw [h]
    show (decide (2 ≤ 200000) && (gd 1 200000 (.str "lengths") && (gd 1 200000 (.tup (r.map pt)) && true))) = true
    subst h1
    rw [sl, key r (fun w hm => hw w (List.mem_cons_of_mem _ hm)) (by rw [List.length_cons] at hl; omega)]
    rfl
  · rw [h]
    show (decide (2 ≤ 200000) && (gd 1 200000 (.str "deed") && (gd 1 200000 (.tup (ws.map pt)) && true))) = true
    rw [sd, key ws hw hl]
    rfl
theorem fnd_gd {t : Str} (ht : sg t = true) (hn : t.length ≤ 100000) : ∀ d ∈ fnd t, gd 2 200000 d = true := fun d hd => by
  obtain ⟨l, hl, rfl⟩ := List.mem_map.mp hd
  have h1 := split_sg ht hl
  have h2 := (split_part hl).1
  have h3 : (wds l).length ≤ l.length + 1 := split_len l 32
  exact lineP_gd (fun w hw => split_sg h1 hw) (by omega)
theorem fnd_len (t : Str) : (fnd t).length ≤ t.length + 1 := by
  unfold fnd
  rw [List.length_map]
  exact split_len t 10
theorem fnd_ne (t : Str) : fnd t ≠ [] := by
  unfold fnd
  simpa using split_ne _ _
theorem eqD_non (d : D) : eqD d .non = isNon d := by cases d <;> rfl
theorem any_non (fs : List D) : (fs.any fun y => eqD y .non) = (badAt 0 fs).isSome := by
  have key : ∀ (fs : List D) (n : Nat), (fs.any fun y => eqD y .non) = (badAt n fs).isSome := fun fs => by
    induction fs with
    | nil => intro n; rfl
    | cons d ds ih =>
      intro n
      simp only [List.any_cons, badAt, eqD_non]
      cases q : isNon d with
      | true => simp
      | false => simp [← ih (n + 1), eqD_non]
  exact key fs 0
theorem findIx_bad : ∀ (fs : List D) (n : Nat), findIx n fs .non = badAt n fs
  | [], n => rfl
  | d :: ds, n => by
    simp only [findIx, badAt, eqD_non, findIx_bad ds]
/-- none is none: all are pairs -/
theorem pairs_of : ∀ {fs : List D} {n : Nat}, badAt n fs = none → ∀ d ∈ fs, isNon d = false
  | [], _, _, _, h => nomatch h
  | d :: ds, n, h, e, he => by
    simp only [badAt] at h
    split at h
    · cases h
    · rename_i q
      rcases List.mem_cons.mp he with rfl | he
      · simpa using q
      · exact pairs_of h e he
theorem fnd_pair {t : Str} (h : badAt 0 (fnd t) = none) : ∀ d ∈ fnd t, ∃ s u, d = .tup [s, u] ∧ sortOf d = s ∧ toldOf d = u := fun d hd => by
  have hn := pairs_of h d hd
  obtain ⟨l, hl, rfl⟩ := List.mem_map.mp hd
  rcases lineP_form (wds l) with e | ⟨r, _, e⟩ | e
  · rw [e] at hn; cases hn
  · exact ⟨_, _, e, by rw [e]; rfl, by rw [e]; rfl⟩
  · exact ⟨_, _, e, by rw [e]; rfl, by rw [e]; rfl⟩
/-- a comprehension over pairs -/
theorem lc_pair {cons : Nat → D} {call : Call} {a b : Nat} {it : It} {e : Ex} {ρ : KI.Env} {S : Sto} {xs : List D} (f : D → D) (hi : evi cons call it ρ S = .ok xs S) (hx : ∀ x ∈ xs, ∃ s u, x = .tup [s, u] ∧ ev cons call e (((wipeE ρ [a, b]).set a (some s)).set b (some u)) S = .ok (f x) S) (hl : xs.length < LN) :
    ev cons call (.lc [a, b] (.tp (.cons (.nm a) (.cons (.nm b) .nil))) it .none e) ρ S = .ok (.lst (xs.map f)) S := by
  have := lc_map (cons := cons) (call := call) (own := [a, b]) (tg := .tp (.cons (.nm a) (.cons (.nm b) .nil))) (it := it) (c := .none) (e := e) (ρ := ρ) (S := S) (xs := xs) (fun x => some (f x)) hi (fun x hm => by
    obtain ⟨s, u, rfl, h⟩ := hx x hm
    simp only [bindT, bindTs]
    simp only [evc, bind_ok, cond_true]
    rw [h]) hl
  rw [this]
  have e2 : xs.filterMap (fun x => some (f x)) = xs.map f := by rw [← List.filterMap_eq_map]; rfl
  rw [e2]
section
variable {k : Nat} {S : Sto}
/-- what reading a text gives -/
def readR (t : Str) (S : Sto) : Res D := match readP t with
  | (.non, i) => .exc ⟨101, [("line", .int i)]⟩ S
  | (p, _) => .ok p S
theorem plan_in_ok {t : Str} (ht : sg t = true) (hn : t.length ≤ 100000) : L.run (k + 4) (.glo f_plan_in) [.str t] S = readR t S := by
  have hg := fnd_gd ht hn
  have hfl := fnd_len t
  have hfl2 : (fnd t).length < 16777216 := by omega
  have e0 : ev L.cons (L.run (k + 3)) l_plan_in_0 [some (.str t), none, none, none, none, none] [] = .ok (.lst (fnd t)) [] := by
    have := lc_map (cons := L.cons) (call := L.run (k + 3)) (own := [3]) (tg := .nm 3) (it := .val (.mth .split (.var 0) (.cons (.str "\n") .nil))) (c := .none) (e := .call f_line_in (.cons (.var 3) .nil)) (ρ := [some (.str t), none, none, none, none, none]) (S := []) (xs := (lns t).map .str)
      (fun x => match x with
        | .str l => some (lineP (wds l))
        | _ => none) (by simp [mtOk, split_nl hn]) (fun x hx => by
        obtain ⟨l, hl, rfl⟩ := List.mem_map.mp hx
        have h1 := split_sg ht hl
        have h2 := split_le hl
        simp [line_ok (k := k) h1 (by omega)]) (by rw [List.length_map]; have : (lns t).length ≤ t.length + 1 := split_len t 10; show _ < 16777216; omega)
    rw [List.filterMap_map] at this
    have e : (lns t).filterMap ((fun x => match x with
        | D.str l => some (lineP (wds l))
        | _ => none) ∘ D.str) = fnd t := by unfold fnd; rw [← List.filterMap_eq_map]; rfl
    rw [e] at this
    exact this
  have hs : shpL 63 (fnd t) = true := shpL_le (h := 2) (by omega) (gdL_shp 2 200000 _ (gdL_of hg))
  have e1 : ∀ ρ : KI.Env, ρ[1]? = some (some (.lst (fnd t))) → ev L.cons (L.run (k + 3)) (.cmp .in_ .non (.var 1)) ρ [] = .ok (.bl (badAt 0 (fnd t)).isSome) [] := fun ρ hρ => by
    simp [hρ, hs, any_non]
  have hne := fnd_ne t
  have run_x : ∀ {x : Xn} {ρ : KI.Env} {S' : Sto}, exss L.cons (L.run (k + 3)) L.fuel d_plan_in.body [some (.str t), none, none, none, none, none] [] = .exc x ρ S' → pureL (x.fs.map (·.2)) = true → L.run (k + 4) (.glo f_plan_in) [.str t] S = .exc x S := fun h1 h2 =>
    run_regX (k := k + 3) h_plan_in rfl ⟨rfl, by decide⟩ rfl h1 h2
  unfold readR readP
  cases q : badAt 0 (fnd t) with
  | some i =>
    rw [q] at e1
    have e2 := findIx_bad (fnd t) 0
    rw [q] at e2
    show L.run (k + 4) (.glo f_plan_in) [.str t] S = .exc ⟨101, [("line", .int ((i : Int) + 1))]⟩ S
    refine run_x (ρ := [some (.str t), some (.lst (fnd t)), none, none, none, none]) (S' := []) ?_ rfl
    have e3 := e1 [some (.str t), some (.lst (fnd t)), none, none, none, none] rfl
    have s2 : exs L.cons (L.run (k + 3)) L.fuel (.set 1 l_plan_in_0) [some (.str t), none, none, none, none, none] [] = .nx [some (.str t), some (.lst (fnd t)), none, none, none, none] [] := by simp [e0]
    have s1 : exs L.cons (L.run (k + 3)) L.fuel (.ifs (.not (.isi (.var 0) .str)) (.cons (.raiF 101 "line" (.int 0)) .nil) .nil) [some (.str t), none, none, none, none, none] [] = .nx [some (.str t), none, none, none, none, none] [] := by simp
    refine (exss_nx s1).trans ((exss_nx s2).trans ?_)
    rw [exss_cons, exs_ifs, e3]
    simp [mtOk, mtD, hs, e2]
  | none =>
    rw [q] at e1
    have hp := fnd_pair q
    show L.run (k + 4) (.glo f_plan_in) [.str t] S = (match (if sortsOk (fnd t) && isPlan (planOf (fnd t)) then (planOf (fnd t), (0 : Int)) else (D.non, ((fnd t).length : Int) + 1)) with
      | (.non, i) => .exc ⟨101, [("line", .int i)]⟩ S
      | (p, _) => .ok p S)
    have s1 : exs L.cons (L.run (k + 3)) L.fuel (.ifs (.not (.isi (.var 0) .str)) (.cons (.raiF 101 "line" (.int 0)) .nil) .nil) [some (.str t), none, none, none, none, none] [] = .nx [some (.str t), none, none, none, none, none] [] := by simp
    have s2 : exs L.cons (L.run (k + 3)) L.fuel (.set 1 l_plan_in_0) [some (.str t), none, none, none, none, none] [] = .nx [some (.str t), some (.lst (fnd t)), none, none, none, none] [] := by simp [e0]
    have e3 := e1 [some (.str t), some (.lst (fnd t)), none, none, none, none] rfl
    have e4 : ev L.cons (L.run (k + 3)) l_plan_in_1 [some (.str t), some (.lst (fnd t)), none, none, none, none] [] = .ok (.lst ((fnd t).map sortOf)) [] :=
      lc_pair sortOf (by simp) (fun x hx => by
        obtain ⟨s, u, rfl, h1, h2⟩ := hp x hx
        exact ⟨s, u, rfl, by simp [h1]⟩) hfl2
    have hss : shpL 63 ((fnd t).map sortOf) = true := by
      refine shpL_le (h := 1) (by omega) (gdL_shp 1 200000 _ (gdL_of fun x hx => ?_))
      obtain ⟨d, hd, rfl⟩ := List.mem_map.mp hx
      obtain ⟨s, u, rfl, h1, h2⟩ := hp d hd
      have := hg _ hd
      have : (decide (2 ≤ 200000) && (gd 1 200000 s && (gd 1 200000 u && true))) = true := this
      rw [h1]
      exact (KI.ba (KI.ba this).2).1
    have hr : rep (((fnd t).length : Int) - 1) [.str "deed"] = List.replicate ((fnd t).length - 1) (.str "deed") := by
      unfold rep
      have : (((fnd t).length : Int) - 1).toNat = (fnd t).length - 1 := by omega
      rw [this]
      generalize (fnd t).length - 1 = m
      induction m with
      | zero => rfl
      | succ m ih => rw [List.replicate_succ, List.replicate_succ, List.flatten_cons, ih]; rfl
    have hsr : shpL 63 (.str "lengths" :: List.replicate ((fnd t).length - 1) (.str "deed")) = true := by
      rw [shpL_cons, shp_lit 63 "lengths" (by decide +kernel), Bool.true_and]
      generalize (fnd t).length - 1 = m
      induction m with
      | zero => rfl
      | succ m ih => rw [List.replicate_succ, shpL_cons, ih, shp_lit 63 "deed" (by decide +kernel)]; rfl
    have hlen0 : 0 < (fnd t).length := List.length_pos_iff.mpr hne
    have e5 : ev L.cons (L.run (k + 3)) (.cmp .ne l_plan_in_1 (.bin .add (.lst (.cons (.str "lengths") .nil)) (.bin .mul (.lst (.cons (.str "deed") .nil)) (.bin .sub (.bi .len (.cons (.var 1) .nil)) (.int 1))))) [some (.str t), some (.lst (fnd t)), none, none, none, none] [] = .ok (.bl (!sortsOk (fnd t))) [] := by
      have c1 : -(2 ^ 63) ≤ ((fnd t).length : Int) - 1 ∧ ((fnd t).length : Int) - 1 < 2 ^ 63 ∧ 1 * (((fnd t).length : Int) - 1).toNat ≤ 16777216 := by omega
      have c2 : (fnd t).length - 1 + 1 ≤ 16777216 := by omega
      have m1 : binD .mul (.lst [.str "deed"]) (.int (((fnd t).length : Int) - 1)) = some (.lst (List.replicate ((fnd t).length - 1) (.str "deed"))) := by
        rw [← hr]
        exact if_pos c1
      have m2 : binD .add (.lst [.str "lengths"]) (.lst (List.replicate ((fnd t).length - 1) (.str "deed"))) = some (.lst (.str "lengths" :: List.replicate ((fnd t).length - 1) (.str "deed"))) := by
        refine (if_pos ?_).trans rfl
        rw [List.length_replicate]
        show 1 + _ ≤ 16777216
        omega
      have m3 : cmpD .ne (.lst ((fnd t).map sortOf)) (.lst (.str "lengths" :: List.replicate ((fnd t).length - 1) (.str "deed"))) = some (!sortsOk (fnd t)) := by
        rw [c_ne, shp64_lst, shp64_lst, hss, hsr]
        rfl
      have a1 : ev L.cons (L.run (k + 3)) (.bin .mul (.lst (.cons (.str "deed") .nil)) (.bin .sub (.bi .len (.cons (.var 1) .nil)) (.int 1))) [some (.str t), some (.lst (fnd t)), none, none, none, none] [] = .ok (.lst (List.replicate ((fnd t).length - 1) (.str "deed"))) [] := by
        have b1 : ev L.cons (L.run (k + 3)) (.bin .sub (.bi .len (.cons (.var 1) .nil)) (.int 1)) [some (.str t), some (.lst (fnd t)), none, none, none, none] [] = .ok (.int (((fnd t).length : Int) - 1)) [] := by simp
        have b2 : ev L.cons (L.run (k + 3)) (.lst (.cons (.str "deed") .nil)) [some (.str t), some (.lst (fnd t)), none, none, none, none] [] = .ok (.lst [.str "deed"]) [] := by simp
        rw [ev_bin, b2, bind_ok, b1, bind_ok, m1]
      have a2 : ev L.cons (L.run (k + 3)) (.bin .add (.lst (.cons (.str "lengths") .nil)) (.bin .mul (.lst (.cons (.str "deed") .nil)) (.bin .sub (.bi .len (.cons (.var 1) .nil)) (.int 1)))) [some (.str t), some (.lst (fnd t)), none, none, none, none] [] = .ok (.lst (.str "lengths" :: List.replicate ((fnd t).length - 1) (.str "deed"))) [] := by
        have b2 : ev L.cons (L.run (k + 3)) (.lst (.cons (.str "lengths") .nil)) [some (.str t), some (.lst (fnd t)), none, none, none, none] [] = .ok (.lst [.str "lengths"]) [] := by simp
        rw [ev_bin, b2, bind_ok, a1, bind_ok, m2]
      rw [ev_cmp, e4, bind_ok, a2, bind_ok, m3]
      rfl
    have s3 : exs L.cons (L.run (k + 3)) L.fuel (.ifs (.cmp .in_ .non (.var 1)) (.cons (.raiF 101 "line" (.bin .add (.mth .index (.var 1) (.cons .non .nil)) (.int 1))) .nil) .nil) [some (.str t), some (.lst (fnd t)), none, none, none, none] [] = .nx [some (.str t), some (.lst (fnd t)), none, none, none, none] [] := by
      rw [exs_ifs, e3]
      rfl
    have rai : ∀ (p : Option D), exs L.cons (L.run (k + 3)) L.fuel (.raiF 101 "line" (.bin .add (.bi .len (.cons (.var 1) .nil)) (.int 1))) [some (.str t), some (.lst (fnd t)), p, none, none, none] [] = .exc ⟨101, [("line", .int (((fnd t).length : Int) + 1))]⟩ [some (.str t), some (.lst (fnd t)), p, none, none, none] [] := fun p => by simp
    cases qs : sortsOk (fnd t) with
    | false =>
      rw [qs] at e5
      rw [Bool.false_and, if_neg Bool.false_ne_true]
      refine run_x (ρ := [some (.str t), some (.lst (fnd t)), none, none, none, none]) (S' := []) ?_ rfl
      refine (exss_nx s1).trans ((exss_nx s2).trans ((exss_nx s3).trans ?_))
      rw [exss_cons, exs_ifs, e5]
      show ((exss L.cons (L.run (k + 3)) L.fuel (.cons _ .nil) _ []).then _) = _
      rw [exss_cons, rai none]
    | true =>
      rw [qs] at e5
      have s4 : exs L.cons (L.run (k + 3)) L.fuel (.ifs (.cmp .ne l_plan_in_1 (.bin .add (.lst (.cons (.str "lengths") .nil)) (.bin .mul (.lst (.cons (.str "deed") .nil)) (.bin .sub (.bi .len (.cons (.var 1) .nil)) (.int 1))))) (.cons (.raiF 101 "line" (.bin .add (.bi .len (.cons (.var 1) .nil)) (.int 1))) .nil) .nil) [some (.str t), some (.lst (fnd t)), none, none, none, none] [] = .nx [some (.str t), some (.lst (fnd t)), none, none, none, none] [] := by
        rw [exs_ifs, e5]
        rfl
      obtain ⟨f, fs, hf⟩ := List.exists_cons_of_ne_nil hne
      have s5 : exs L.cons (L.run (k + 3)) L.fuel (.set 2 (.tup (.cons (.idx (.idx (.var 1) (.int 0)) (.int 1)) (.cons (.bi .tuple (.cons l_plan_in_2 .nil)) .nil)))) [some (.str t), some (.lst (fnd t)), none, none, none, none] [] = .nx [some (.str t), some (.lst (fnd t)), some (planOf (fnd t)), none, none, none] [] := by
        rw [hf] at hp hfl2 ⊢
        obtain ⟨s, u, rfl, h1, h2⟩ := hp f List.mem_cons_self
        have e6 : ev L.cons (L.run (k + 3)) l_plan_in_2 [some (.str t), some (.lst (.tup [s, u] :: fs)), none, none, none, none] [] = .ok (.lst (fs.map toldOf)) [] :=
          lc_pair toldOf (by simp [cut1]) (fun x hx => by
            obtain ⟨s, u, rfl, h1, h2⟩ := hp x (List.mem_cons_of_mem _ hx)
            exact ⟨s, u, rfl, by simp [h2]⟩) (by rw [List.length_cons] at hfl2; show _ < 16777216; omega)
        simp [e6, planOf, h2]
      have hgp : gd 3 200000 (planOf (fnd t)) = true := by
        have ht2 : ∀ d ∈ fnd t, gd 1 200000 (toldOf d) = true := fun d hd => by
          obtain ⟨s, u, rfl, h1, h2⟩ := hp d hd
          have : (decide (2 ≤ 200000) && (gd 1 200000 s && (gd 1 200000 u && true))) = true := hg _ hd
          rw [h2]
          exact (KI.ba (KI.ba (KI.ba this).2).2).1
        rw [hf] at ht2 ⊢
        have z1 : gd 2 200000 (toldOf f) = true := gd_le _ (by omega) (Nat.le_refl _) (ht2 f List.mem_cons_self)
        have z2 : gdL 1 200000 (fs.map toldOf) = true := gdL_of fun x hx => by
          obtain ⟨d, hd, rfl⟩ := List.mem_map.mp hx
          exact ht2 d (List.mem_cons_of_mem _ hd)
        have z3 : (fs.map toldOf).length ≤ 200000 := by
          rw [List.length_map]
          rw [hf, List.length_cons] at hfl
          omega
        show (decide (2 ≤ 200000) && (gd 2 200000 (toldOf f) && ((decide ((fs.map toldOf).length ≤ 200000) && gdL 1 200000 (fs.map toldOf)) && true))) = true
        rw [z1, z2, decide_eq_true z3]
        rfl
      have e7 : L.run (k + 3) (.glo f_is_good_plan) [planOf (fnd t)] [] = .ok (.bl (isPlan (planOf (fnd t)))) [] := good_ok hgp (by decide)
      have e8 : ev L.cons (L.run (k + 3)) (.not (.call f_is_good_plan (.cons (.var 2) .nil))) [some (.str t), some (.lst (fnd t)), some (planOf (fnd t)), none, none, none] [] = .ok (.bl (!isPlan (planOf (fnd t)))) [] := by simp [e7]
      cases qp : isPlan (planOf (fnd t)) with
      | false =>
        rw [qp] at e8
        rw [Bool.and_false, if_neg Bool.false_ne_true]
        refine run_x (ρ := [some (.str t), some (.lst (fnd t)), some (planOf (fnd t)), none, none, none]) (S' := []) ?_ rfl
        refine (exss_nx s1).trans ((exss_nx s2).trans ((exss_nx s3).trans ((exss_nx s4).trans ((exss_nx s5).trans ?_))))
        rw [exss_cons, exs_ifs, e8]
        show ((exss L.cons (L.run (k + 3)) L.fuel (.cons _ .nil) _ []).then _) = _
        rw [exss_cons, rai]
      | true =>
        rw [qp] at e8
        rw [Bool.true_and, if_pos rfl]
        have e9 : (match (planOf (fnd t), (0 : Int)) with
          | (.non, i) => Res.exc ⟨101, [("line", .int i)]⟩ S
          | (p, _) => Res.ok p S) = .ok (planOf (fnd t)) S := by rw [hf]; rfl
        refine Eq.trans ?_ e9.symm
        refine run_reg (S' := []) h_plan_in rfl ⟨rfl, by decide⟩ rfl ?_ (gd_pure _ _ _ hgp)
        refine (exss_nx s1).trans ((exss_nx s2).trans ((exss_nx s3).trans ((exss_nx s4).trans ((exss_nx s5).trans ?_))))
        rw [exss_cons, exs_ifs, e8]
        simp
end
end K11


set_option Elab.async false
set_option linter.all false
set_option maxRecDepth 100000
set_option autoImplicit false
set_option maxHeartbeats 2000000
/-! k11: the law's own reading. -/
namespace K11
open PySem KI
section
variable {k : Nat} {S : Sto}
theorem readP_pure {t : Str} (ht : sg t = true) (hn : t.length ≤ 100000) : ∀ p i, readP t = (p, i) → p.pure = true := fun p i h => by
  have hg := fnd_gd ht hn
  unfold readP at h
  split at h
  · cases h; rfl
  · split at h
    · cases h
      cases q : fnd t with
      | nil => rfl
      | cons f fs =>
        rw [q] at hg
        have tp : ∀ d ∈ f :: fs, (toldOf d).pure = true := fun d hd => by
          have := gd_pure _ _ _ (hg d hd)
          unfold toldOf
          split
          · simp [D.pure, pureL] at this
            exact this.2
          · rfl
        have : pureL (fs.map toldOf) = true := by
          have : ∀ l : List D, (∀ d ∈ l, (toldOf d).pure = true) → pureL (l.map toldOf) = true := fun l => by
            induction l with
            | nil => intro _; rfl
            | cons x xs ih =>
              intro hx
              show ((toldOf x).pure && pureL (xs.map toldOf)) = true
              rw [hx x List.mem_cons_self, ih fun d hd => hx d (List.mem_cons_of_mem _ hd)]
              rfl
          exact this fs fun d hd => tp d (List.mem_cons_of_mem _ hd)
        simp [planOf, D.pure, pureL, tp f List.mem_cons_self, this]
    · cases h; rfl
theorem read_ok {t : Str} (ht : sg t = true) (hn : t.length ≤ 100000) : L.run (k + 5) (.glo f_read_plan) [.str t] S = readR t S := by
  have e := plan_in_ok (k := k) (S := []) ht hn
  unfold readR at e ⊢
  cases q : readP t with
  | mk p i =>
    rw [q] at e
    have hp := readP_pure ht hn p i q
    have okc : L.run (k + 4) (.glo f_plan_in) [.str t] [] = .ok p [] → L.run (k + 5) (.glo f_read_plan) [.str t] S = .ok p S := fun h => by
      refine run_reg (S' := []) h_read_plan rfl ⟨rfl, by decide⟩ rfl ?_ hp
      show exss L.cons (L.run (k + 4)) L.fuel d_read_plan.body [some (.str t)] [] = _
      simp [d_read_plan, h]
    cases p with
    | non =>
      have e : L.run (k + 4) (.glo f_plan_in) [.str t] [] = .exc ⟨101, [("line", .int i)]⟩ [] := e
      refine run_regX (k := k + 4) (ρ := [some (.str t)]) (S' := []) h_read_plan rfl ⟨rfl, by decide⟩ rfl ?_ rfl
      show exss L.cons (L.run (k + 4)) L.fuel d_read_plan.body [some (.str t)] [] = _
      simp [d_read_plan, e]
    | _ => exact okc e
/-- values that are no texts -/
theorem read_no {v : D} (hv : v.pure = true) (h : isTy .str v = some false) : L.run (k + 5) (.glo f_read_plan) [v] S = .exc ⟨101, [("line", .int 0)]⟩ S := by
  have e : L.run (k + 4) (.glo f_plan_in) [v] [] = .exc ⟨101, [("line", .int 0)]⟩ [] := by
    refine run_regX (k := k + 3) (ρ := [some v, none, none, none, none, none]) (S' := []) h_plan_in rfl ⟨rfl, by decide⟩ (by simp [pureL, hv]) ?_ rfl
    show exss L.cons (L.run (k + 3)) L.fuel d_plan_in.body [some v, none, none, none, none, none] [] = _
    simp [d_plan_in, h]
  refine run_regX (k := k + 4) (ρ := [some v]) (S' := []) h_read_plan rfl ⟨rfl, by decide⟩ (by simp [pureL, hv]) ?_ rfl
  show exss L.cons (L.run (k + 4)) L.fuel d_read_plan.body [some v] [] = _
  simp [d_read_plan, e]
/-- the plan and none, or none and the line -/
def lread (t : Str) : D := match readP t with
  | (.non, i) => .tup [.non, .int i]
  | (p, _) => .tup [p, .non]
theorem lread_exc {v : D} {i : Int} (hv : v.pure = true) (e : L.run (k + 5) (.glo f_read_plan) [v] [] = .exc ⟨101, [("line", .int i)]⟩ []) : L.run (k + 6) (.glo f__law_read) [v] S = .ok (.tup [.non, .int i]) S := by
  refine run_reg (S' := []) (d := d__law_read) rfl rfl ⟨rfl, by decide⟩ (by simp [pureL, hv]) ?_ rfl
  show exss L.cons (L.run (k + 5)) L.fuel d__law_read.body [some v, none] [] = _
  have b : exss L.cons (L.run (k + 5)) L.fuel (.cons (.ret (.tup (.cons (.call f_read_plan (.cons (.var 0) .nil)) (.cons .non .nil)))) .nil) [some v, none] [] = .exc ⟨101, [("line", .int i)]⟩ [some v, none] [] := by simp [e]
  show (exs L.cons (L.run (k + 5)) L.fuel (.try_ _ _) _ _).then _ = _
  rw [exs_try_, b]
  kernel_rfl
theorem lread_ok {t : Str} (ht : sg t = true) (hn : t.length ≤ 100000) : L.run (k + 6) (.glo f__law_read) [.str t] S = .ok (lread t) S := by
  have e := read_ok (k := k) (S := []) ht hn
  unfold readR at e
  unfold lread
  cases q : readP t with
  | mk p i =>
    rw [q] at e
    have okc : p.pure = true → L.run (k + 5) (.glo f_read_plan) [.str t] [] = .ok p [] → L.run (k + 6) (.glo f__law_read) [.str t] S = .ok (.tup [p, .non]) S := fun hp h => by
      refine run_reg (S' := []) (d := d__law_read) rfl rfl ⟨rfl, by decide⟩ rfl ?_ (by simp [D.pure, pureL, hp])
      show exss L.cons (L.run (k + 5)) L.fuel d__law_read.body [some (.str t), none] [] = _
      simp [d__law_read, h]
    have hp : p.pure = true := readP_pure ht hn p i q
    cases p with
    | non => exact lread_exc rfl e
    | _ => exact okc hp e
end
end K11


set_option Elab.async false
set_option linter.all false
set_option maxRecDepth 100000
set_option autoImplicit false
set_option maxHeartbeats 2000000
/-! k11: the law's sorts; what it asks of a reading. -/
namespace K11
open PySem KI
theorem any_str (w : Str) (l : List Str) : (l.map D.str).any (fun y => eqD y (.str w)) = decide (w ∈ l) := by
  rw [List.any_map]
  by_cases hm : w ∈ l
  · rw [decide_eq_true hm, List.any_eq_true]
    exact ⟨w, hm, by show eqD (.str w) (.str w) = true; rw [eqD_ss]; exact beq_self_eq_true w⟩
  · rw [decide_eq_false hm, List.any_eq_false]
    intro a ha q
    have : (a == w) = true := q
    rw [eq_of_beq this] at ha
    exact hm ha
theorem any_str' (w : Str) (l : List Str) : l.any ((fun y => eqD y (.str w)) ∘ D.str) = decide (w ∈ l) := by rw [← any_str w l, List.any_map]
theorem shp_strs {l : List Str} (h : ∀ a ∈ l, sg a = true) (k : Nat) : shpL k (l.map .str) = true := by
  induction l with
  | nil => rw [List.map_nil, shpL_nil]
  | cons a l ih =>
    rw [List.map_cons, shpL_cons, sg_shp k (h a List.mem_cons_self), ih fun b hb => h b (List.mem_cons_of_mem _ hb)]
    rfl
def f29 : D → Option D
  | .str a => if a ∉ w29 then some (.str a) else none
  | _ => none
section
variable {k : Nat} {S : Sto}
theorem small29 {w : Str} (hw : sg w = true) : L.run (k + 1) (.glo f__law_small) [.str w, .int 2, .int 9] S = .ok (.bl (decide (w ∈ w29))) S := by
  refine run_reg (S' := []) (d := d__law_small) rfl rfl ⟨rfl, by decide⟩ rfl ?_ rfl
  have e : ev L.cons (L.run k) l__law_small_0 [some (.str w), some (.int 2), some (.int 9), none] [] = .ok (.lst (w29.map .str)) [] := by kernel_rfl
  show exss L.cons (L.run k) L.fuel d__law_small.body [some (.str w), some (.int 2), some (.int 9), none] [] = _
  have hs : shpL 63 (w29.map .str) = true := shp_strs (by decide +kernel) 63
  simp [d__law_small, e, sg_shp 64 hw, hs, any_str']
theorem small04 {w : Str} (hw : sg w = true) : L.run (k + 1) (.glo f__law_small) [.str w, .int 0, .int 4] S = .ok (.bl (decide (w ∈ w04))) S := by
  refine run_reg (S' := []) (d := d__law_small) rfl rfl ⟨rfl, by decide⟩ rfl ?_ rfl
  have e : ev L.cons (L.run k) l__law_small_0 [some (.str w), some (.int 0), some (.int 4), none] [] = .ok (.lst (w04.map .str)) [] := by kernel_rfl
  show exss L.cons (L.run k) L.fuel d__law_small.body [some (.str w), some (.int 0), some (.int 4), none] [] = _
  have hs : shpL 63 (w04.map .str) = true := shp_strs (by decide +kernel) 63
  simp [d__law_small, e, sg_shp 64 hw, hs, any_str']
theorem sortP_pure (ws : List Str) : (sortP ws).pure = true := by
  unfold sortP
  repeat (first | rfl | split)
theorem sort_ok {l : Str} (hl : sg l = true) (hn : l.length ≤ 100000) : L.run (k + 2) (.glo f__law_sort) [.str l] S = .ok (sortP (wds l)) S := by
  have hws : ∀ w ∈ wds l, sg w = true := fun w hw => split_sg hl hw
  have hlen : (wds l).length ≤ l.length + 1 := split_len l 32
  refine run_reg (S' := []) (d := d__law_sort) rfl rfl ⟨rfl, by decide⟩ rfl ?_ (sortP_pure _)
  show exss L.cons (L.run (k + 1)) L.fuel d__law_sort.body [some (.str l), none, none, none, none] [] = _
  have s1 : exs L.cons (L.run (k + 1)) L.fuel (.set 1 (.mth .split (.var 0) (.cons (.str " ") .nil))) [some (.str l), none, none, none, none] [] = .nx [some (.str l), some (.lst ((wds l).map .str)), none, none, none] [] := by simp [mtOk, split_sp hn]
  refine (exss_nx s1).trans ?_
  cases hw : wds l with
  | nil => exact absurd hw (split_ne _ _)
  | cons w ws =>
    rw [hw] at hws hlen
    rw [List.length_cons] at hlen
    have sw : shp 64 (.str w) = true := sg_shp 64 (hws w List.mem_cons_self)
    have sl : shp 64 (.str "lengths") = true := shp_lit 64 _ (by decide +kernel)
    have el : eqD (.str w) (.str "lengths") = decide (w = "lengths") := by rw [eqD_ss]; by_cases z : w = "lengths" <;> simp [z]
    have e1 : ev L.cons (L.run (k + 1)) l__law_sort_0 [some (.str l), some (.lst (.str w :: ws.map .str)), none, none, none] [] = .ok (.lst ((ws.filter fun a => decide (a ∉ w29)).map .str)) [] := by
      have := lc_map (cons := L.cons) (call := L.run (k + 1)) (own := [4]) (tg := .nm 4) (it := .val (.sli (.var 1) (.some (.int 1)) .none)) (c := .some (.not (.call f__law_small (.cons (.var 4) (.cons (.int 2) (.cons (.int 9) .nil)))))) (e := .var 4) (ρ := [some (.str l), some (.lst (.str w :: ws.map .str)), none, none, none]) (S := []) (xs := ws.map .str)
        f29 (by simp [cut1]) (fun x hx => by
          obtain ⟨a, ha, rfl⟩ := List.mem_map.mp hx
          have := small29 (k := k) (S := []) (hws a (List.mem_cons_of_mem _ ha))
          by_cases q : a ∈ w29 <;> simp [this, q, f29]) (by rw [List.length_map]; show _ < 16777216; omega)
      have e : (ws.map D.str).filterMap f29 = (ws.filter fun a => decide (a ∉ w29)).map D.str := by
        clear this
        clear hws hlen hw
        induction ws with
        | nil => rfl
        | cons a ws ih =>
          rw [List.map_cons, List.filterMap_cons, ih]
          by_cases q : a ∈ w29 <;> simp [q, f29]
      rw [e] at this
      exact this
    have hf : (∀ a ∈ ws, a ∈ w29) ↔ (ws.filter fun a => decide (a ∉ w29)) = [] := by
      rw [List.filter_eq_nil_iff]
      simp
    simp only [List.map_cons]
    have cl : ∀ (x : Option D), ev L.cons (L.run (k + 1)) (.cmp .eq (.idx (.var 1) (.int 0)) (.str "lengths")) [some (.str l), some (.lst (.str w :: ws.map .str)), none, none, none] [] = .ok (.bl (decide (w = "lengths"))) [] := fun x => by simp [sw, sl, el]
    simp only [sortP]
    by_cases hwl : w = "lengths"
    · subst hwl
      rw [if_pos rfl]
      have hss : shpL 63 ((ws.filter fun a => decide (a ∉ w29)).map .str) = true := shp_strs (fun a ha => hws a (List.mem_cons_of_mem _ (List.mem_filter.mp ha).1)) 63
      have e2 : eqL ((ws.filter fun a => decide (a ∉ w29)).map .str) [] = decide (∀ a ∈ ws, a ∈ w29) := by
        cases q : ws.filter fun a => decide (a ∉ w29) with
        | nil => rw [decide_eq_true (hf.mpr q)]; rfl
        | cons x xs =>
          have : ¬ ∀ a ∈ ws, a ∈ w29 := fun z => by rw [hf.mp z] at q; cases q
          rw [decide_eq_false this]
          rfl
      have v2 : ev L.cons (L.run (k + 1)) (.cmp .eq (.var 2) (.lst .nil)) [some (.str l), some (.lst (.str "lengths" :: ws.map .str)), some (.lst ((ws.filter fun a => decide (a ∉ w29)).map .str)), none, none] [] = .ok (.bl (decide (∀ a ∈ ws, a ∈ w29))) [] := by
        have : cmpD .eq (.lst ((ws.filter fun a => decide (a ∉ w29)).map .str)) (.lst []) = some (decide (∀ a ∈ ws, a ∈ w29)) := by
          rw [c_eq, shp64_lst, hss, shp64_lst, shpL_nil, eqD_ll, e2]
          rfl
        rw [ev_cmp]
        show lift ((cmpD .eq (.lst ((ws.filter fun a => decide (a ∉ w29)).map .str)) (.lst [])).map D.bl) [] = _
        rw [this]
        rfl
      have ch : ev L.cons (L.run (k + 1)) (.chn .le .le (.int 2) (.bi .len (.cons (.var 1) .nil)) (.int 6)) [some (.str l), some (.lst (.str "lengths" :: ws.map .str)), some (.lst ((ws.filter fun a => decide (a ∉ w29)).map .str)), none, none] [] = .ok (.bl (decide (1 ≤ ws.length ∧ ws.length ≤ 5))) [] := by
        by_cases c1 : (2 : Int) ≤ ws.length + 1
        · by_cases c2 : (ws.length : Int) + 1 ≤ 6
          · have : 1 ≤ ws.length ∧ ws.length ≤ 5 := by omega
            simp [c1, c2, this]
          · have : ¬ (1 ≤ ws.length ∧ ws.length ≤ 5) := by omega
            rw [decide_eq_false this]
            simp [c1, c2]
        · have : ¬ (1 ≤ ws.length ∧ ws.length ≤ 5) := by omega
          rw [decide_eq_false this]
          simp [c1]
      have rt : ev L.cons (L.run (k + 1)) (.ite (.and (.chn .le .le (.int 2) (.bi .len (.cons (.var 1) .nil)) (.int 6)) (.cmp .eq (.var 2) (.lst .nil))) (.str "lengths") .non) [some (.str l), some (.lst (.str "lengths" :: ws.map .str)), some (.lst ((ws.filter fun a => decide (a ∉ w29)).map .str)), none, none] [] = .ok (if 1 ≤ ws.length ∧ ws.length ≤ 5 ∧ ∀ a ∈ ws, a ∈ w29 then .str "lengths" else .non) [] := by
        rw [ev_ite, ev_and, ch, bind_ok]
        by_cases c1 : 1 ≤ ws.length ∧ ws.length ≤ 5
        · rw [decide_eq_true c1]
          show ((ev L.cons (L.run (k + 1)) (.cmp .eq (.var 2) (.lst .nil)) _ []).bind _) = _
          rw [v2, bind_ok]
          by_cases c3 : ∀ a ∈ ws, a ∈ w29
          · rw [decide_eq_true c3, if_pos ⟨c1.1, c1.2, c3⟩]; rfl
          · rw [decide_eq_false c3, if_neg fun z => c3 z.2.2]; rfl
        · rw [decide_eq_false c1, if_neg fun z => c1 ⟨z.1, z.2.1⟩]; rfl
      have c0 := cl none
      rw [decide_eq_true rfl] at c0
      rw [exss_cons, exs_ifs, c0]
      show ((exss L.cons (L.run (k + 1)) L.fuel _ _ []).then _) = _
      have t1 : exs L.cons (L.run (k + 1)) L.fuel (.set 2 l__law_sort_0) [some (.str l), some (.lst (.str "lengths" :: ws.map .str)), none, none, none] [] = .nx [some (.str l), some (.lst (.str "lengths" :: ws.map .str)), some (.lst ((ws.filter fun a => decide (a ∉ w29)).map .str)), none, none] [] := by
        rw [exs_set, e1]
        rfl
      rw [(exss_nx t1).trans (exss_rt (by rw [exs_ret, rt]))]
    · rw [if_neg hwl]
      have c0 := cl none
      rw [decide_eq_false hwl] at c0
      rw [exss_cons, exs_ifs, c0]
      show ((exss L.cons (L.run (k + 1)) L.fuel .nil _ []).then _) = _
      rw [exss_nil, then_nx]
      match ws, hws, hlen with
      | [], _, _ => simp
      | b :: r, hws, hlen =>
        dsimp only
        have hb := hws b (by simp)
        have sm := small04 (k := k) (S := []) hb
        have c1 : ev L.cons (L.run (k + 1)) (.or (.cmp .lt (.bi .len (.cons (.var 1) .nil)) (.int 2)) (.not (.call f__law_small (.cons (.idx (.var 1) (.int 1)) (.cons (.int 0) (.cons (.int 4) .nil)))))) [some (.str l), some (.lst (.str w :: (b :: r).map .str)), none, none, none] [] = .ok (.bl (decide (b ∉ w04))) [] := by
          have q : ¬ ((r.length : Int) + 1 + 1 < 2) := by omega
          by_cases z : b ∈ w04 <;> simp [q, sm, z]
        rw [exss_cons, exs_ifs, c1]
        by_cases hb4 : b ∈ w04
        · have n1 : ¬ (b ∉ w04) := fun z => z hb4
          rw [decide_eq_false n1, if_neg n1]
          show ((exss L.cons (L.run (k + 1)) L.fuel .nil _ []).then _) = _
          rw [exss_nil, then_nx]
          have c2 : ev L.cons (L.run (k + 1)) (.cmp .eq (.idx (.var 1) (.int 0)) (.str "park")) [some (.str l), some (.lst (.str w :: (b :: r).map .str)), none, none, none] [] = .ok (.bl (decide (w = "park"))) [] := by
            have : eqD (.str w) (.str "park") = decide (w = "park") := by rw [eqD_ss]; by_cases z : w = "park" <;> simp [z]
            simp [sw, this]
          rw [exss_cons, exs_ifs, c2]
          by_cases hp : w = "park"
          · rw [decide_eq_true hp, if_pos hp]
            show ((exss L.cons (L.run (k + 1)) L.fuel _ _ []).then _) = _
            match r, hws, hlen with
            | [], _, _ => simp
            | [c], hws, _ =>
              dsimp only
              have hc : shp 64 (.str c) = true := sg_shp 64 (hws c (by simp))
              have e3 : cmpD .in_ (.str c) (.tup [.str "front", .str "back", .str "tight", .str "wide"]) = some (decide (c ∈ (["front", "back", "tight", "wide"] : List Str))) := by
                rw [c_int, hc]
                have := any_str c ["front", "back", "tight", "wide"]
                simp only [List.map_cons, List.map_nil] at this
                rw [this]
                simp
              have t1 : exs L.cons (L.run (k + 1)) L.fuel (.set 3 (.and (.cmp .eq (.bi .len (.cons (.var 1) .nil)) (.int 3)) (.cmp .in_ (.idx (.var 1) (.int 2)) (.tup (.cons (.str "front") (.cons (.str "back") (.cons (.str "tight") (.cons (.str "wide") .nil)))))))) [some (.str l), some (.lst (.str w :: [b, c].map .str)), none, none, none] [] = .nx [some (.str l), some (.lst (.str w :: [b, c].map .str)), none, some (.bl (decide (c ∈ (["front", "back", "tight", "wide"] : List Str)))), none] [] := by
                have a1 : ev L.cons (L.run (k + 1)) (.cmp .eq (.bi .len (.cons (.var 1) .nil)) (.int 3)) [some (.str l), some (.lst (.str w :: [b, c].map .str)), none, none, none] [] = .ok (.bl true) [] := by simp
                have a2 : ev L.cons (L.run (k + 1)) (.cmp .in_ (.idx (.var 1) (.int 2)) (.tup (.cons (.str "front") (.cons (.str "back") (.cons (.str "tight") (.cons (.str "wide") .nil)))))) [some (.str l), some (.lst (.str w :: [b, c].map .str)), none, none, none] [] = .ok (.bl (decide (c ∈ (["front", "back", "tight", "wide"] : List Str)))) [] := by
                  rw [ev_cmp]
                  show lift ((cmpD .in_ (.str c) (.tup [.str "front", .str "back", .str "tight", .str "wide"])).map D.bl) [] = _
                  rw [e3]
                  rfl
                rw [exs_set, ev_and, a1, bind_ok]
                show onD (ev L.cons (L.run (k + 1)) (.cmp .in_ _ _) _ []) _ _ = _
                rw [a2]
                rfl
              rw [(exss_nx t1)]
              by_cases hm : c ∈ (["front", "back", "tight", "wide"] : List Str)
              · rw [if_pos hm, decide_eq_true hm]
                simp
              · rw [if_neg hm, decide_eq_false hm]
                simp
            | c :: d :: r, _, _ =>
              dsimp only
              have q : ((r.length : Int) + 1 + 1 + 1 + 1 == 3) = false := by
                rw [beq_eq_false_iff_ne]
                omega
              simp [q]
          · rw [decide_eq_false hp, if_neg hp]
            show ((exss L.cons (L.run (k + 1)) L.fuel .nil _ []).then _) = _
            rw [exss_nil, then_nx]
            have e3 : cmpD .in_ (.str w) (.tup [.str "leave", .str "pull", .str "drop"]) = some (decide (w ∈ (["leave", "pull", "drop"] : List Str))) := by
              rw [c_int, sw]
              have := any_str w ["leave", "pull", "drop"]
              simp only [List.map_cons, List.map_nil] at this
              rw [this]
              simp
            match r with
            | [] =>
              have a1 : ev L.cons (L.run (k + 1)) (.cmp .eq (.bi .len (.cons (.var 1) .nil)) (.int 2)) [some (.str l), some (.lst (.str w :: [b].map .str)), none, none, none] [] = .ok (.bl true) [] := by simp
              have a2 : ev L.cons (L.run (k + 1)) (.cmp .in_ (.idx (.var 1) (.int 0)) (.tup (.cons (.str "leave") (.cons (.str "pull") (.cons (.str "drop") .nil))))) [some (.str l), some (.lst (.str w :: [b].map .str)), none, none, none] [] = .ok (.bl (decide (w ∈ (["leave", "pull", "drop"] : List Str)))) [] := by
                rw [ev_cmp]
                show lift ((cmpD .in_ (.str w) (.tup [.str "leave", .str "pull", .str "drop"])).map D.bl) [] = _
                rw [e3]
                rfl
              rw [exss_cons, exs_ret, ev_ite, ev_and, a1, bind_ok]
              show (onD ((ev L.cons (L.run (k + 1)) (.cmp .in_ _ _) _ []).bind _) _ _).then _ = _
              rw [a2, bind_ok]
              by_cases hm : w ∈ (["leave", "pull", "drop"] : List Str)
              · rw [if_pos ⟨rfl, hm⟩, decide_eq_true hm]; rfl
              · rw [if_neg fun z => hm z.2, decide_eq_false hm]; rfl
            | c :: r =>
              have q : ((r.length : Int) + 1 + 1 + 1 == 2) = false := by
                rw [beq_eq_false_iff_ne]
                omega
              rw [if_neg fun z => by cases z.1]
              simp [q]
        · rw [decide_eq_true hb4, if_pos hb4]
          show ((exss L.cons (L.run (k + 1)) L.fuel (.cons (.ret .non) .nil) _ []).then _) = _
          simp
end
end K11


set_option Elab.async false
set_option linter.all false
set_option maxRecDepth 100000
set_option autoImplicit false
set_option maxHeartbeats 2000000
/-! k11: plans by words; texts written; what is right. -/
namespace K11
open PySem KI
abbrev jsp (ws : List Str) : Str := Txt.join ⟨#[32]⟩ ws
abbrev jnl (ws : List Str) : Str := Txt.join ⟨#[10]⟩ ws
/-- a plan by its words -/
def plW (ws : List Str) (dss : List (List Str)) : D := .tup [.tup (ws.map pt), .tup (dss.map fun w => .tup (w.map pt))]
def txW (ws : List Str) (dss : List (List Str)) : Str := jnl (jsp ("lengths" :: ws) :: dss.map jsp)
theorem sum_mem {l : List Nat} {a : Nat} (h : a ∈ l) : a ≤ l.sum := by
  induction l with
  | nil => cases h
  | cons x l ih =>
    rw [List.sum_cons]
    rcases List.mem_cons.mp h with rfl | h
    · omega
    · have := ih h
      omega
theorem line_le {ls : List Str} {l : Str} (h : l ∈ ls) : l.length + ls.length ≤ (jnl ls).length + 1 := by
  have h0 : ls ≠ [] := fun z => by rw [z] at h; cases h
  have e : (jnl ls).length + 1 = (ls.map (·.length)).sum + ls.length := join_len h0
  have := sum_mem (List.mem_map.mpr ⟨l, h, rfl⟩ : l.length ∈ ls.map (·.length))
  omega
theorem word_le {ls : List Str} {l : Str} (h : l ∈ ls) : l.length + ls.length ≤ (jsp ls).length + 1 := by
  have h0 : ls ≠ [] := fun z => by rw [z] at h; cases h
  have e : (jsp ls).length + 1 = (ls.map (·.length)).sum + ls.length := join_len h0
  have := sum_mem (List.mem_map.mpr ⟨l, h, rfl⟩ : l.length ∈ ls.map (·.length))
  omega
theorem strs_some (ws : List Str) : strsD (ws.map .str) = some ws := by
  induction ws with
  | nil => rfl
  | cons w ws ih =>
    show (strsD (ws.map .str)).map (w :: ·) = _
    rw [ih]
    rfl
theorem join_sp {ws : List Str} {S : Sto} (h : (jsp ws).length ≤ 200000) : mtD S .join (.str " ") [.lst (ws.map .str)] = some (.str (jsp ws)) := by
  rw [sp_eq]
  show (match strsD (ws.map .str) with
    | some ys => if (ys.map fun y : Str => y.length).sum + ys.length * (⟨#[32]⟩ : Str).length ≤ 16777216 then some (D.str (Txt.join ⟨#[32]⟩ ys)) else none
    | none => none) = _
  rw [strs_some]
  refine if_pos ?_
  show _ + ws.length * 1 ≤ _
  cases ws with
  | nil => simp
  | cons w ws =>
    have : (jsp (w :: ws)).length + 1 = ((w :: ws).map fun y : Str => y.length).sum + (w :: ws).length := join_len (List.cons_ne_nil _ _)
    omega
theorem join_nl {ws : List Str} {S : Sto} (h : (jnl ws).length ≤ 200000) : mtD S .join (.str "\n") [.lst (ws.map .str)] = some (.str (jnl ws)) := by
  rw [nl_eq]
  show (match strsD (ws.map .str) with
    | some ys => if (ys.map fun y : Str => y.length).sum + ys.length * (⟨#[10]⟩ : Str).length ≤ 16777216 then some (D.str (Txt.join ⟨#[10]⟩ ys)) else none
    | none => none) = _
  rw [strs_some]
  refine if_pos ?_
  show _ + ws.length * 1 ≤ _
  cases ws with
  | nil => simp
  | cons w ws =>
    have : (jnl (w :: ws)).length + 1 = ((w :: ws).map fun y : Str => y.length).sum + (w :: ws).length := join_len (List.cons_ne_nil _ _)
    omega
/-- the parts of a line written -/
theorem lc_str {cons : Nat → D} {call : Call} {a : Nat} {it : It} {ρ : KI.Env} {S : Sto} {ws : List Str} (hi : evi cons call it ρ S = .ok (ws.map pt) S) (ha : a < ρ.length) (hl : ws.length < LN) :
    ev cons call (.lc [a] (.nm a) it .none (.bi .str (.cons (.var a) .nil))) ρ S = .ok (.lst (ws.map .str)) S := by
  have := lc_map (cons := cons) (call := call) (own := [a]) (tg := .nm a) (it := it) (c := .none) (e := .bi .str (.cons (.var a) .nil)) (ρ := ρ) (S := S) (xs := ws.map pt) (fun x => (wr x).map .str) hi (fun x hx => by
    obtain ⟨w, hw, rfl⟩ := List.mem_map.mp hx
    have hg : ((ρ.set a none).set a (some (pt w)))[a]? = some (some (pt w)) := List.getElem?_set_self (by rw [List.length_set]; exact ha)
    have hb := str_wr (pt w) S
    rw [wr_pt] at hb
    simp only [bindT, wipeE, evc, bind_ok, cond_true, ev_bi, evs, ev_var, hg, wr_pt]
    show (lift (biD S .str [pt w]) S).bind _ = _
    rw [hb]
    rfl) (by rw [List.length_map]; exact hl)
  rw [this]
  have e : (ws.map pt).filterMap (fun x => (wr x).map D.str) = ws.map .str := by
    clear this hi hl
    induction ws with
    | nil => rfl
    | cons w ws ih => rw [List.map_cons, List.filterMap_cons, wr_pt, ih]; rfl
  rw [e]
section
variable {k : Nat} {S : Sto}
theorem text_loop {x0 : Option D} : ∀ (dss : List (List Str)) (acc : List Str) (y : Option D), (∀ w ∈ dss, (jsp w).length ≤ 200000 ∧ w.length ≤ 200000) → acc.length + dss.length ≤ 300000 →
    ∃ y', evFor (.nm 2) (exss L.cons (L.run k) L.fuel b__law_text_0) (dss.map fun w => .tup (w.map pt)) [x0, some (.cell 0), y, none, none] [.lst (acc.map .str)] = .nx [x0, some (.cell 0), y', none, none] [.lst ((acc ++ dss.map jsp).map .str)]
  | [], acc, y, _, _ => ⟨y, by simp [evFor]⟩
  | w :: dss, acc, y, hw, hl => by
    rw [List.length_cons] at hl
    obtain ⟨h1, h2⟩ := hw w List.mem_cons_self
    obtain ⟨y', e⟩ := text_loop dss (acc ++ [jsp w]) (some (.tup (w.map pt))) (fun v hv => hw v (List.mem_cons_of_mem _ hv)) (by rw [List.length_append]; simp; omega)
    refine ⟨y', ?_⟩
    have hl2 : acc.length < 16777216 := by omega
    have e1 : ev L.cons (L.run k) l__law_text_1 [x0, some (.cell 0), some (.tup (w.map pt)), none, none] [.lst (acc.map .str)] = .ok (.lst (w.map .str)) [.lst (acc.map .str)] := lc_str (by simp) (by simp) (by show _ < 16777216; omega)
    have step : exss L.cons (L.run k) L.fuel b__law_text_0 [x0, some (.cell 0), some (.tup (w.map pt)), none, none] [.lst (acc.map .str)] = .nx [x0, some (.cell 0), some (.tup (w.map pt)), none, none] [.lst ((acc ++ [jsp w]).map .str)] := by
      simp [b__law_text_0, e1, mtOk, join_sp h1, hl2]
    rw [List.map_cons]
    unfold evFor
    show (exss L.cons (L.run k) L.fuel b__law_text_0 [x0, some (.cell 0), some (.tup (w.map pt)), none, none] [.lst (acc.map .str)]).then _ = _
    rw [step]
    exact e.trans (by simp)
theorem plW_pure (ws : List Str) (dss : List (List Str)) : (plW ws dss).pure = true := by
  have h1 : ∀ l : List Str, pureL (l.map pt) = true := fun l => by
    induction l with
    | nil => rfl
    | cons w l ih =>
      show ((pt w).pure && pureL (l.map pt)) = true
      rw [ih]
      unfold pt
      split <;> rfl
  have h2 : pureL (dss.map fun w => D.tup (w.map pt)) = true := by
    induction dss with
    | nil => rfl
    | cons w dss ih =>
      show ((D.tup (w.map pt)).pure && pureL (dss.map fun w => D.tup (w.map pt))) = true
      rw [ih]
      simp [D.pure, h1]
  simp [plW, D.pure, pureL, h1, h2]
theorem txW_le {ws : List Str} {dss : List (List Str)} (h : (txW ws dss).length ≤ 100000) : (jsp ("lengths" :: ws)).length ≤ 100000 ∧ ws.length ≤ 100000 ∧ dss.length ≤ 100000 ∧ ∀ w ∈ dss, (jsp w).length ≤ 100000 ∧ w.length ≤ 100001 := by
  have h : (jnl (jsp ("lengths" :: ws) :: dss.map jsp)).length ≤ 100000 := h
  have h1 := line_le (ls := jsp ("lengths" :: ws) :: dss.map jsp) (l := jsp ("lengths" :: ws)) List.mem_cons_self
  rw [List.length_cons, List.length_map] at h1
  have h2 := word_le (ls := "lengths" :: ws) (l := "lengths") List.mem_cons_self
  rw [List.length_cons] at h2
  refine ⟨by omega, by omega, by omega, fun w hw => ?_⟩
  have h3 := line_le (ls := jsp ("lengths" :: ws) :: dss.map jsp) (l := jsp w) (List.mem_cons_of_mem _ (List.mem_map.mpr ⟨w, hw, rfl⟩))
  rw [List.length_cons, List.length_map] at h3
  refine ⟨by omega, ?_⟩
  cases w with
  | nil => simp
  | cons a w =>
    have := word_le (ls := a :: w) (l := a) List.mem_cons_self
    omega
theorem ltext_ok {ws : List Str} {dss : List (List Str)} (h : (txW ws dss).length ≤ 100000) : L.run (k + 1) (.glo f__law_text) [plW ws dss] S = .ok (.str (txW ws dss)) S := by
  obtain ⟨h1, h2, h3, h4⟩ := txW_le h
  refine run_reg (S' := [.dead]) (d := d__law_text) rfl rfl ⟨rfl, by decide⟩ (by simp [pureL, plW_pure]) ?_ rfl
  show exss L.cons (L.run k) L.fuel d__law_text.body [some (plW ws dss), none, none, none, none] [] = _
  have e0 : ev L.cons (L.run k) l__law_text_0 [some (plW ws dss), none, none, none, none] [] = .ok (.lst (ws.map .str)) [] := lc_str (by simp [plW]) (by simp) (by show _ < 16777216; omega)
  have l1 : 1 + ws.length ≤ 16777216 := by omega
  have j1 := join_sp (ws := "lengths" :: ws) (S := []) (by omega)
  rw [List.map_cons] at j1
  have s1 : exs L.cons (L.run k) L.fuel (.set 1 (.newc (.lst (.cons (.mth .join (.str " ") (.cons (.bin .add (.lst (.cons (.str "lengths") .nil)) l__law_text_0) .nil)) .nil)))) [some (plW ws dss), none, none, none, none] [] = .nx [some (plW ws dss), some (.cell 0), none, none, none] [.lst ([jsp ("lengths" :: ws)].map .str)] := by
    simp [e0, l1, mtOk, j1]
  obtain ⟨y, e1⟩ := text_loop (k := k) (x0 := some (plW ws dss)) dss [jsp ("lengths" :: ws)] none (fun w hw => ⟨by have := (h4 w hw).1; omega, by have := (h4 w hw).2; omega⟩) (by simp; omega)
  have s2 : exs L.cons (L.run k) L.fuel (.for_ (.nm 2) (.val (.idx (.var 0) (.int 1))) b__law_text_0) [some (plW ws dss), some (.cell 0), none, none, none] [.lst ([jsp ("lengths" :: ws)].map .str)] = .nx [some (plW ws dss), some (.cell 0), y, none, none] [.lst ((jsp ("lengths" :: ws) :: dss.map jsp).map .str)] := by
    have e9 : evi L.cons (L.run k) (.val (.idx (.var 0) (.int 1))) [some (plW ws dss), some (.cell 0), none, none, none] [.lst ([jsp ("lengths" :: ws)].map .str)] = .ok (dss.map fun w => .tup (w.map pt)) [.lst ([jsp ("lengths" :: ws)].map .str)] := by simp [plW]
    rw [exs_for_, e9]
    exact e1
  have s3 : exs L.cons (L.run k) L.fuel (.frz 1) [some (plW ws dss), some (.cell 0), y, none, none] [.lst ((jsp ("lengths" :: ws) :: dss.map jsp).map .str)] = .nx [some (plW ws dss), some (.lst ((jsp ("lengths" :: ws) :: dss.map jsp).map .str)), y, none, none] [.dead] := by simp
  have j2 := join_nl (ws := jsp ("lengths" :: ws) :: dss.map jsp) (S := [.dead]) (by have : (jnl (jsp ("lengths" :: ws) :: dss.map jsp)).length ≤ 100000 := h; omega)
  have s4 : exs L.cons (L.run k) L.fuel (.ret (.mth .join (.str "\n") (.cons (.var 1) .nil))) [some (plW ws dss), some (.lst ((jsp ("lengths" :: ws) :: dss.map jsp).map .str)), y, none, none] [.dead] = .rt (.str (txW ws dss)) [.dead] := by
    rw [exs_ret, ev_mth]
    show onD (lift (mtD [.dead] .join (.str "\n") [.lst ((jsp ("lengths" :: ws) :: dss.map jsp).map .str)]) [.dead]) _ _ = _
    rw [j2]
    rfl
  exact (exss_nx s1).trans ((exss_nx s2).trans ((exss_nx s3).trans (exss_rt s4)))
end
end K11


set_option Elab.async false
set_option linter.all false
set_option maxRecDepth 100000
set_option autoImplicit false
set_option maxHeartbeats 2000000
/-! k11: what is right of a reading; drawn plans. -/
namespace K11
open PySem KI
theorem line_words (l : Str) : jsp (wds l) = l := join_split l 32
theorem text_lines (t : Str) : jnl (lns t) = t := join_split t 10
theorem deeds_words : ∀ ls : List Str, eqL ((ls.map fun l => lineP (wds l)).map sortOf) (List.replicate ls.length (.str "deed")) = true → ((ls.map fun l => lineP (wds l)).map toldOf) = (ls.map wds).map fun w => D.tup (w.map pt)
  | [], _ => rfl
  | l :: ls, h => by
    obtain ⟨h1, h2⟩ := KI.ba (show (eqD (sortOf (lineP (wds l))) (.str "deed") && eqL ((ls.map fun l => lineP (wds l)).map sortOf) (List.replicate ls.length (.str "deed"))) = true from h)
    rw [List.map_cons, List.map_cons, List.map_cons, List.map_cons, deeds_words ls h2]
    congr 1
    rcases lineP_form (wds l) with e | ⟨r, _, e⟩ | e
    · rw [e] at h1; cases h1
    · rw [e] at h1
      have : eqD (.str "lengths") (.str "deed") = true := h1
      exact absurd this (by decide +kernel)
    · rw [e]; rfl
theorem fnd_words {t : Str} (h : sortsOk (fnd t) = true) : ∃ r dss, planOf (fnd t) = plW r dss ∧ txW r dss = t := by
  cases q : lns t with
  | nil => exact absurd q (split_ne _ _)
  | cons l0 ls =>
    have ef : fnd t = lineP (wds l0) :: ls.map fun l => lineP (wds l) := by unfold fnd; rw [q]; rfl
    rw [ef] at h
    obtain ⟨h1, h2⟩ := KI.ba (show (eqD (sortOf (lineP (wds l0))) (.str "lengths") && eqL ((ls.map fun l => lineP (wds l)).map sortOf) (List.replicate ((lineP (wds l0) :: ls.map fun l => lineP (wds l)).length - 1) (.str "deed"))) = true from h)
    rw [List.length_cons, Nat.add_sub_cancel, List.length_map] at h2
    rcases lineP_form (wds l0) with e | ⟨r, e1, e⟩ | e
    · rw [e] at h1; cases h1
    · refine ⟨r, ls.map wds, ?_, ?_⟩
      · rw [ef, e]
        show D.tup [.tup (r.map pt), .tup _] = _
        rw [deeds_words ls h2]
        rfl
      · show jnl (jsp ("lengths" :: r) :: (ls.map wds).map jsp) = t
        rw [← e1, line_words, List.map_map]
        have : ls.map (jsp ∘ wds) = ls := by
          rw [show (jsp ∘ wds) = id from funext line_words, List.map_id]
        rw [this, ← q]
        exact text_lines t
    · rw [e] at h1
      have : eqD (.str "deed") (.str "lengths") = true := h1
      exact absurd this (by decide +kernel)
/-- the numbers of the lines that are none -/
def badL : Nat → List D → List D
  | _, [] => []
  | n, d :: ds => if isNon d then .int ((n : Int) + 1) :: badL (n + 1) ds else badL (n + 1) ds
theorem badL_none : ∀ (n : Nat) (ds : List D), badAt n ds = none → badL n ds = []
  | _, [], _ => rfl
  | n, d :: ds, h => by
    simp only [badAt] at h
    split at h
    · cases h
    · rename_i q
      simp only [badL]
      rw [if_neg q, badL_none (n + 1) ds h]
theorem badL_some : ∀ (n : Nat) (ds : List D) (i : Nat), badAt n ds = some i → ∃ r, badL n ds = .int ((i : Int) + 1) :: r
  | n, d :: ds, i, h => by
    simp only [badAt] at h
    split at h
    · rename_i q
      cases h
      simp only [badL]
      rw [if_pos q]
      exact ⟨_, rfl⟩
    · rename_i q
      simp only [badL]
      rw [if_neg q]
      exact badL_some (n + 1) ds i h
theorem badAt_sorts {t : Str} (n : Nat) : badAt n ((fnd t).map sortOf) = badAt n (fnd t) := by
  unfold fnd
  generalize lns t = ls
  induction ls generalizing n with
  | nil => rfl
  | cons l ls ih =>
    simp only [List.map_cons, badAt]
    rw [ih (n + 1)]
    have : isNon (sortOf (lineP (wds l))) = isNon (lineP (wds l)) := by
      rcases lineP_form (wds l) with e | ⟨r, _, e⟩ | e <;> (rw [e]; rfl)
    rw [this]
theorem badL_len : ∀ (n : Nat) (ds : List D), (badL n ds).length ≤ ds.length
  | _, [] => Nat.le_refl _
  | n, d :: ds => by
    have := badL_len (n + 1) ds
    simp only [badL]
    split
    · simp only [List.length_cons]; omega
    · simp only [List.length_cons]; omega
def bf : D → Option D
  | .tup [.int i, s] => if isNon s then some (.int (i + 1)) else none
  | _ => none
theorem badL_fm : ∀ (n : Nat) (ds : List D), (enumL n ds).filterMap bf = badL n ds
  | _, [] => rfl
  | n, d :: ds => by
    simp only [enumL, List.filterMap_cons, badL, bf, badL_fm (n + 1) ds]
    split <;> (rename_i h; split at h <;> simp_all)
theorem enum_mem : ∀ (n : Nat) (ds : List D) (x : D), x ∈ enumL n ds → ∃ i d, x = .tup [.int i, d] ∧ d ∈ ds
  | n, d :: ds, x, h => by
    rcases List.mem_cons.mp h with rfl | h
    · exact ⟨_, d, rfl, List.mem_cons_self⟩
    · obtain ⟨i, e, h1, h2⟩ := enum_mem (n + 1) ds x h
      exact ⟨i, e, h1, List.mem_cons_of_mem _ h2⟩
theorem enum_len : ∀ (n : Nat) (ds : List D), (enumL n ds).length = ds.length
  | _, [] => rfl
  | n, _ :: ds => by simp [enumL, enum_len (n + 1) ds]
theorem planOf_gd {t : Str} (ht : sg t = true) (hn : t.length ≤ 100000) (q : badAt 0 (fnd t) = none) : gd 3 200000 (planOf (fnd t)) = true := by
  have hp := fnd_pair q
  have hg := fnd_gd ht hn
  have hfl := fnd_len t
  obtain ⟨f, fs, hf⟩ := List.exists_cons_of_ne_nil (fnd_ne t)
  have ht2 : ∀ d ∈ fnd t, gd 1 200000 (toldOf d) = true := fun d hd => by
    obtain ⟨s, u, rfl, h1, h2⟩ := hp d hd
    have : (decide (2 ≤ 200000) && (gd 1 200000 s && (gd 1 200000 u && true))) = true := hg _ hd
    rw [h2]
    exact (KI.ba (KI.ba (KI.ba this).2).2).1
  rw [hf] at ht2 ⊢
  have z1 : gd 2 200000 (toldOf f) = true := gd_le _ (by omega) (Nat.le_refl _) (ht2 f List.mem_cons_self)
  have z2 : gdL 1 200000 (fs.map toldOf) = true := gdL_of fun x hx => by
    obtain ⟨d, hd, rfl⟩ := List.mem_map.mp hx
    exact ht2 d (List.mem_cons_of_mem _ hd)
  have z3 : (fs.map toldOf).length ≤ 200000 := by
    rw [List.length_map]
    rw [hf, List.length_cons] at hfl
    omega
  show (decide (2 ≤ 200000) && (gd 2 200000 (toldOf f) && ((decide ((fs.map toldOf).length ≤ 200000) && gdL 1 200000 (fs.map toldOf)) && true))) = true
  rw [z1, z2, decide_eq_true z3]
  rfl
section
variable {k : Nat} {S : Sto}
theorem right_ok {t : Str} (ht : sg t = true) (hn : t.length ≤ 100000) : ∃ p i, lread t = .tup [p, i] ∧ L.run (k + 6) (.glo f__law_right) [.str t, p, i] S = .ok (.bl true) S := by
  have hfl := fnd_len t
  have sorts : ∀ (p i : D), ev L.cons (L.run (k + 5)) l__law_right_0 [some (.str t), some p, some i, none, none, none, none, none] [] = .ok (.lst ((fnd t).map sortOf)) [] := fun p i => by
    have := lc_map (cons := L.cons) (call := L.run (k + 5)) (own := [5]) (tg := .nm 5) (it := .val (.mth .split (.var 0) (.cons (.str "\n") .nil))) (c := .none) (e := .call f__law_sort (.cons (.var 5) .nil)) (ρ := [some (.str t), some p, some i, none, none, none, none, none]) (S := []) (xs := (lns t).map .str)
      (fun x => match x with
        | .str l => some (sortP (wds l))
        | _ => none) (by simp [mtOk, split_nl hn]) (fun x hx => by
        obtain ⟨l, hl, rfl⟩ := List.mem_map.mp hx
        have h1 := split_sg ht hl
        have h2 := split_le hl
        simp [sort_ok (k := k + 3) h1 (by omega)]) (by rw [List.length_map]; have : (lns t).length ≤ t.length + 1 := split_len t 10; show _ < 16777216; omega)
    rw [List.filterMap_map] at this
    have e : (lns t).filterMap ((fun x => match x with
        | D.str l => some (sortP (wds l))
        | _ => none) ∘ D.str) = (fnd t).map sortOf := by
      unfold fnd
      rw [List.map_map, ← List.filterMap_eq_map]
      congr 1
      funext l
      show some (sortP (wds l)) = some (sortOf (lineP (wds l)))
      rw [sort_line]
    rw [e] at this
    exact this
  have bad : ∀ (p i : D), ev L.cons (L.run (k + 5)) l__law_right_1 [some (.str t), some p, some i, some (.lst ((fnd t).map sortOf)), none, none, none, none] [] = .ok (.lst (badL 0 ((fnd t).map sortOf))) [] := fun p i => by
    have := lc_map (cons := L.cons) (call := L.run (k + 5)) (own := [6, 7]) (tg := .tp (.cons (.nm 6) (.cons (.nm 7) .nil))) (it := .enum (.var 3)) (c := .some (.cmp .isN (.var 7) .non)) (e := .bin .add (.var 6) (.int 1)) (ρ := [some (.str t), some p, some i, some (.lst ((fnd t).map sortOf)), none, none, none, none]) (S := []) (xs := enumL 0 ((fnd t).map sortOf))
      bf (by simp) (fun x hx => by
        obtain ⟨j, d, rfl, _⟩ := enum_mem _ _ _ hx
        cases q : isNon d <;> simp [bf, q]) (by rw [enum_len, List.length_map]; show _ < 16777216; omega)
    rw [badL_fm] at this
    exact this
  have hbl := badL_len 0 ((fnd t).map sortOf)
  rw [List.length_map] at hbl
  have hb := badAt_sorts (t := t) 0
  -- none and a line
  have noneCase : ∀ (i : Int), (∀ S', ev L.cons (L.run (k + 5)) (.idx (.bin .add (.var 4) (.lst (.cons (.bin .add (.bi .len (.cons (.var 3) .nil)) (.int 1)) .nil))) (.int 0)) [some (.str t), some .non, some (.int i), some (.lst ((fnd t).map sortOf)), some (.lst (badL 0 ((fnd t).map sortOf))), none, none, none] S' = .ok (.int i) S') →
      L.run (k + 6) (.glo f__law_right) [.str t, .non, .int i] S = .ok (.bl true) S := fun i hi => by
    refine run_reg (S' := []) (d := d__law_right) rfl rfl ⟨rfl, by decide⟩ rfl ?_ rfl
    show exss L.cons (L.run (k + 5)) L.fuel d__law_right.body [some (.str t), some .non, some (.int i), none, none, none, none, none] [] = _
    have s1 : exs L.cons (L.run (k + 5)) L.fuel (.set 3 l__law_right_0) [some (.str t), some .non, some (.int i), none, none, none, none, none] [] = .nx [some (.str t), some .non, some (.int i), some (.lst ((fnd t).map sortOf)), none, none, none, none] [] := by rw [exs_set, sorts]; rfl
    have s2 : exs L.cons (L.run (k + 5)) L.fuel (.set 4 l__law_right_1) [some (.str t), some .non, some (.int i), some (.lst ((fnd t).map sortOf)), none, none, none, none] [] = .nx [some (.str t), some .non, some (.int i), some (.lst ((fnd t).map sortOf)), some (.lst (badL 0 ((fnd t).map sortOf))), none, none, none] [] := by rw [exs_set, bad]; rfl
    refine (exss_nx s1).trans ((exss_nx s2).trans ?_)
    have e1 : ev L.cons (L.run (k + 5)) (.cmp .eq (.var 2) (.idx (.bin .add (.var 4) (.lst (.cons (.bin .add (.bi .len (.cons (.var 3) .nil)) (.int 1)) .nil))) (.int 0))) [some (.str t), some .non, some (.int i), some (.lst ((fnd t).map sortOf)), some (.lst (badL 0 ((fnd t).map sortOf))), none, none, none] [] = .ok (.bl true) [] := by
      rw [ev_cmp]
      show ((ev L.cons (L.run (k + 5)) (.idx _ _) _ []).bind _) = _
      rw [hi, bind_ok]
      simp
    have c0 : ev L.cons (L.run (k + 5)) (.cmp .isN (.var 1) .non) [some (.str t), some .non, some (.int i), some (.lst ((fnd t).map sortOf)), some (.lst (badL 0 ((fnd t).map sortOf))), none, none, none] [] = .ok (.bl true) [] := by simp
    rw [exss_cons, exs_ifs, c0]
    show ((exss L.cons (L.run (k + 5)) L.fuel (.cons (.ret _) .nil) _ []).then _) = _
    rw [exss_rt (by rw [exs_ret, e1])]
  have l1 : (badL 0 ((fnd t).map sortOf)).length + 1 ≤ 16777216 := by omega
  have e2 : ∀ (p i : D) (S' : Sto), ev L.cons (L.run (k + 5)) (.bin .add (.var 4) (.lst (.cons (.bin .add (.bi .len (.cons (.var 3) .nil)) (.int 1)) .nil))) [some (.str t), some p, some i, some (.lst ((fnd t).map sortOf)), some (.lst (badL 0 ((fnd t).map sortOf))), none, none, none] S' = .ok (.lst (badL 0 ((fnd t).map sortOf) ++ [.int (((fnd t).length : Int) + 1)])) S' := fun p i S' => by
    simp [l1]
  unfold lread
  have hrd : readP t = readP t := rfl
  cases q : badAt 0 (fnd t) with
  | some j =>
    have hr : readP t = (.non, (j : Int) + 1) := by unfold readP; rw [q]
    rw [hr]
    refine ⟨.non, .int ((j : Int) + 1), rfl, noneCase _ fun S' => ?_⟩
    rw [q] at hb
    obtain ⟨r, e⟩ := badL_some 0 _ j hb
    rw [ev_idx, e2, bind_ok, e]
    simp
  | none =>
    rw [q] at hb
    have e := badL_none 0 _ hb
    cases qs : (sortsOk (fnd t) && isPlan (planOf (fnd t))) with
    | false =>
      have hr : readP t = (.non, ((fnd t).length : Int) + 1) := by unfold readP; rw [q]; simp only [qs]; rfl
      rw [hr]
      refine ⟨.non, .int (((fnd t).length : Int) + 1), rfl, noneCase _ fun S' => ?_⟩
      rw [ev_idx, e2, bind_ok, e]
      simp
    | true =>
      obtain ⟨z1, z2⟩ := KI.ba qs
      obtain ⟨r, dss, w1, w2⟩ := fnd_words z1
      have hr : readP t = (plW r dss, 0) := by unfold readP; rw [q]; simp only [qs]; rw [w1]; rfl
      rw [hr]
      refine ⟨plW r dss, .non, rfl, ?_⟩
      have hgp : gd 3 200000 (plW r dss) = true := by rw [← w1]; exact planOf_gd ht hn q
      rw [w1] at z2
      refine run_reg (S' := []) (d := d__law_right) rfl rfl ⟨rfl, by decide⟩ (by simp [pureL, plW_pure, D.pure]) ?_ rfl
      show exss L.cons (L.run (k + 5)) L.fuel d__law_right.body [some (.str t), some (plW r dss), some .non, none, none, none, none, none] [] = _
      have s1 : exs L.cons (L.run (k + 5)) L.fuel (.set 3 l__law_right_0) [some (.str t), some (plW r dss), some .non, none, none, none, none, none] [] = .nx [some (.str t), some (plW r dss), some .non, some (.lst ((fnd t).map sortOf)), none, none, none, none] [] := by rw [exs_set, sorts]; rfl
      have s2 : exs L.cons (L.run (k + 5)) L.fuel (.set 4 l__law_right_1) [some (.str t), some (plW r dss), some .non, some (.lst ((fnd t).map sortOf)), none, none, none, none] [] = .nx [some (.str t), some (plW r dss), some .non, some (.lst ((fnd t).map sortOf)), some (.lst []), none, none, none] [] := by rw [exs_set, bad, e]; rfl
      refine (exss_nx s1).trans ((exss_nx s2).trans ?_)
      have e5 : L.run (k + 5) (.glo f_is_plan) [plW r dss] [] = .ok (.bl true) [] := by
        have := plan_ok (L := L) (k := k + 1) (S := []) hgp (by decide)
        rw [z2] at this
        exact this
      have e6 : L.run (k + 5) (.glo f__law_text) [plW r dss] [] = .ok (.str t) [] := by
        have := ltext_ok (k := k + 4) (S := []) (ws := r) (dss := dss) (by rw [w2]; exact hn)
        rw [w2] at this
        exact this
      have c0 : isNon (plW r dss) = false := rfl
      have h6 : shp 64 (.str t) = true := sg_shp 64 ht
      have h7 : eqD (.str t) (.str t) = true := by rw [eqD_ss]; exact beq_self_eq_true t
      simp [d__law_right, c0, e5, e6, h6, h7]
end
end K11


set_option Elab.async false
set_option linter.all false
set_option maxRecDepth 100000
set_option autoImplicit false
set_option maxHeartbeats 2000000
/-! k11: drawn plans by their words. -/
namespace K11
open PySem KI
/-- a word of a plan -/
structure Wg (w : Str) : Prop where
  sp : 32 ∉ tl w
  nl : 10 ∉ tl w
  sg : sg w = true
  ln : w.length ≤ 5
  nn : w ≠ "lengths"
theorem wg_of {w : Str} (h : (decide (32 ∉ tl w) && decide (10 ∉ tl w) && sg w && decide (w.length ≤ 5) && decide (w ≠ "lengths")) = true) : Wg w := by
  simp only [Bool.and_eq_true, decide_eq_true_eq] at h
  exact ⟨h.1.1.1.1, h.1.1.1.2, h.1.1.2, h.1.2, h.2⟩
theorem wg_int {i : Int} (h0 : 0 ≤ i) (h1 : i ≤ 9) : ∃ w, pt w = .int i ∧ Wg w := by
  obtain ⟨n, rfl⟩ := Int.eq_ofNat_of_zero_le h0
  have : n ≤ 9 := by omega
  have : ∀ m : Fin 10, ∃ w, pt w = .int (m.1 : Int) ∧ Wg w := fun m => match m with
    | 0 => ⟨"0", by kernel_rfl, wg_of (by decide +kernel)⟩
    | 1 => ⟨"1", by kernel_rfl, wg_of (by decide +kernel)⟩
    | 2 => ⟨"2", by kernel_rfl, wg_of (by decide +kernel)⟩
    | 3 => ⟨"3", by kernel_rfl, wg_of (by decide +kernel)⟩
    | 4 => ⟨"4", by kernel_rfl, wg_of (by decide +kernel)⟩
    | 5 => ⟨"5", by kernel_rfl, wg_of (by decide +kernel)⟩
    | 6 => ⟨"6", by kernel_rfl, wg_of (by decide +kernel)⟩
    | 7 => ⟨"7", by kernel_rfl, wg_of (by decide +kernel)⟩
    | 8 => ⟨"8", by kernel_rfl, wg_of (by decide +kernel)⟩
    | 9 => ⟨"9", by kernel_rfl, wg_of (by decide +kernel)⟩
  exact this ⟨n, by omega⟩
theorem wg_ru (r : Ru) : ∃ w, pt w = ruD r ∧ Wg w := by
  cases r
  · exact ⟨"front", by kernel_rfl, wg_of (by decide +kernel)⟩
  · exact ⟨"back", by kernel_rfl, wg_of (by decide +kernel)⟩
  · exact ⟨"tight", by kernel_rfl, wg_of (by decide +kernel)⟩
  · exact ⟨"wide", by kernel_rfl, wg_of (by decide +kernel)⟩
theorem wg_dd {d : Dd} (h : (d.car : Int) < 5) : ∃ ws : List Str, D.tup (ws.map pt) = ddD d ∧ ws ≠ [] ∧ ws.length ≤ 3 ∧ ∀ w ∈ ws, Wg w := by
  cases d with
  | park c ru =>
    obtain ⟨w, e, g⟩ := wg_int (i := c) (by omega) (by have : (c : Int) < 5 := h; omega)
    obtain ⟨v, e2, g2⟩ := wg_ru ru
    refine ⟨["park", w, v], ?_, List.cons_ne_nil _ _, Nat.le_refl _, ?_⟩
    · simp only [List.map_cons, List.map_nil, e, e2]; rfl
    · intro x hx
      simp only [List.mem_cons, List.not_mem_nil, or_false] at hx
      rcases hx with rfl | rfl | rfl
      · exact wg_of (by decide +kernel)
      · exact g
      · exact g2
  | leave c =>
    obtain ⟨w, e, g⟩ := wg_int (i := c) (by omega) (by have : (c : Int) < 5 := h; omega)
    refine ⟨["leave", w], ?_, List.cons_ne_nil _ _, by simp, ?_⟩
    · simp only [List.map_cons, List.map_nil, e]; rfl
    · intro x hx
      simp only [List.mem_cons, List.not_mem_nil, or_false] at hx
      rcases hx with rfl | rfl
      · exact wg_of (by decide +kernel)
      · exact g
  | pull c =>
    obtain ⟨w, e, g⟩ := wg_int (i := c) (by omega) (by have : (c : Int) < 5 := h; omega)
    refine ⟨["pull", w], ?_, List.cons_ne_nil _ _, by simp, ?_⟩
    · simp only [List.map_cons, List.map_nil, e]; rfl
    · intro x hx
      simp only [List.mem_cons, List.not_mem_nil, or_false] at hx
      rcases hx with rfl | rfl
      · exact wg_of (by decide +kernel)
      · exact g
  | drop c =>
    obtain ⟨w, e, g⟩ := wg_int (i := c) (by omega) (by have : (c : Int) < 5 := h; omega)
    refine ⟨["drop", w], ?_, List.cons_ne_nil _ _, by simp, ?_⟩
    · simp only [List.map_cons, List.map_nil, e]; rfl
    · intro x hx
      simp only [List.mem_cons, List.not_mem_nil, or_false] at hx
      rcases hx with rfl | rfl
      · exact wg_of (by decide +kernel)
      · exact g
inductive FA {α β : Type} (P : α → β → Prop) : List α → List β → Prop
  | nil : FA P [] []
  | cons {a : α} {b : β} {as : List α} {bs : List β} : P a b → FA P as bs → FA P (a :: as) (b :: bs)
theorem all_ex {α β : Type} (P : α → β → Prop) : ∀ as : List α, (∀ a ∈ as, ∃ b, P a b) → ∃ bs : List β, bs.length = as.length ∧ FA P as bs
  | [], _ => ⟨[], rfl, .nil⟩
  | a :: as, h => by
    obtain ⟨b, hb⟩ := h a List.mem_cons_self
    obtain ⟨bs, e, hbs⟩ := all_ex P as fun x hx => h x (List.mem_cons_of_mem _ hx)
    exact ⟨b :: bs, by rw [List.length_cons, List.length_cons, e], .cons hb hbs⟩
/-- a plan of good words -/
structure Pw (ws : List Str) (dss : List (List Str)) : Prop where
  w0 : ws.length ≤ 5
  wg : ∀ w ∈ ws, Wg w
  d0 : dss.length ≤ 8
  dn : ∀ d ∈ dss, d ≠ [] ∧ d.length ≤ 3 ∧ ∀ w ∈ d, Wg w
  pl : isPlan (plW ws dss) = true
theorem fa_map {α β : Type} {P : α → β → Prop} {f : β → D} {g : α → D} : ∀ {as : List α} {bs : List β}, FA P as bs → (∀ a b, P a b → f b = g a) → bs.map f = as.map g
  | _, _, .nil, _ => rfl
  | _, _, .cons h t, hp => by rw [List.map_cons, List.map_cons, hp _ _ h, fa_map t hp]
theorem fa_mem {α β : Type} {P : α → β → Prop} {Q : β → Prop} : ∀ {as : List α} {bs : List β}, FA P as bs → (∀ a b, P a b → Q b) → ∀ b ∈ bs, Q b
  | _, _, .nil, _, _, h => absurd h List.not_mem_nil
  | _, _, .cons h t, hp, b, hb => by
    rcases List.mem_cons.mp hb with rfl | hb
    · exact hp _ _ h
    · exact fa_mem t hp b hb
theorem pw_of {ls : List Int} {ds : List Dd} (h : Pk ls ds) : ∃ ws dss, plD ls ds = plW ws dss ∧ Pw ws dss := by
  have hl1 := h.l1
  have hd1 := h.d1
  obtain ⟨ws, e1, f1⟩ := all_ex (fun (i : Int) w => pt w = .int i ∧ Wg w) ls fun i hi => by
    have := h.ln i hi
    exact wg_int (by omega) (by omega)
  obtain ⟨dss, e2, f2⟩ := all_ex (fun (d : Dd) ws => D.tup (ws.map pt) = ddD d ∧ ws ≠ [] ∧ ws.length ≤ 3 ∧ ∀ w ∈ ws, Wg w) ds fun d hd => by
    have := h.car d hd
    exact wg_dd (by omega)
  have e : plD ls ds = plW ws dss := by
    unfold plD plW lsD
    rw [fa_map (g := fun i => D.int i) f1 fun a b q => q.1, fa_map (f := fun w => D.tup (w.map pt)) (g := ddD) f2 fun a b q => q.1]
  refine ⟨ws, dss, e, ⟨by omega, fa_mem f1 fun a b q => q.2, by omega, fa_mem f2 fun a b q => q.2, ?_⟩⟩
  rw [← e]
  exact h.plan
theorem lens_wg : 32 ∉ tl "lengths" ∧ 10 ∉ tl "lengths" ∧ sg "lengths" = true ∧ ("lengths" : Str).length = 7 := by decide +kernel
theorem jn_not {c a : Nat} {ws : List Str} (hc : a ≠ c) (h : ∀ w ∈ ws, a ∉ tl w) : a ∉ tl (Txt.join ⟨#[c]⟩ ws) := fun ha => by
  rw [txt_join, join_tl] at ha
  rcases jn_all ha with e | ⟨p, hp, ha⟩
  · exact hc e
  · obtain ⟨w, hw, rfl⟩ := List.mem_map.mp hp
    exact h w hw ha
theorem sum_le {c : Nat} : ∀ {l : List Nat}, (∀ a ∈ l, a ≤ c) → l.sum ≤ c * l.length
  | [], _ => Nat.zero_le _
  | a :: l, h => by
    have h1 := h a List.mem_cons_self
    have h2 := sum_le (l := l) fun x hx => h x (List.mem_cons_of_mem _ hx)
    rw [List.sum_cons, List.length_cons, Nat.mul_succ]
    omega
theorem Pw.d {ws : List Str} {dss : List (List Str)} (p : Pw ws dss) {d : List Str} (hd : d ∈ dss) : 10 ∉ tl (jsp d) ∧ wds (jsp d) = d ∧ sg (jsp d) = true ∧ (jsp d).length ≤ 17 := by
  obtain ⟨a, b, c⟩ := p.dn d hd
  refine ⟨jn_not (by decide) fun w hw => (c w hw).nl, split_join 32 a fun w hw => (c w hw).sp, join_sg (by decide) fun w hw => (c w hw).sg, ?_⟩
  have h1 := join_len (c := 32) a
  have h2 := sum_le (c := 5) (l := d.map (·.length)) fun x hx => by
    obtain ⟨w, hw, rfl⟩ := List.mem_map.mp hx
    exact (c w hw).ln
  rw [List.length_map] at h2
  show (Txt.join ⟨#[32]⟩ d).length ≤ 17
  omega
theorem Pw.h {ws : List Str} {dss : List (List Str)} (p : Pw ws dss) : 10 ∉ tl (jsp ("lengths" :: ws)) ∧ wds (jsp ("lengths" :: ws)) = ("lengths" : Str) :: ws ∧ sg (jsp ("lengths" :: ws)) = true ∧ (jsp ("lengths" :: ws)).length ≤ 37 := by
  have hw0 := p.w0
  have c := p.wg
  obtain ⟨l1, l2, l3, l4⟩ := lens_wg
  refine ⟨jn_not (by decide) fun w hw => ?_, split_join 32 (List.cons_ne_nil _ _) fun w hw => ?_, join_sg (by decide) fun w hw => ?_, ?_⟩
  · rcases List.mem_cons.mp hw with rfl | hw
    · exact l2
    · exact (c w hw).nl
  · rcases List.mem_cons.mp hw with rfl | hw
    · exact l1
    · exact (c w hw).sp
  · rcases List.mem_cons.mp hw with rfl | hw
    · exact l3
    · exact (c w hw).sg
  · have h1 := join_len (c := 32) (ws := "lengths" :: ws) (List.cons_ne_nil _ _)
    have h2 := sum_le (c := 5) (l := ws.map (·.length)) fun x hx => by
      obtain ⟨w, hw, rfl⟩ := List.mem_map.mp hx
      exact (c w hw).ln
    rw [List.length_map] at h2
    rw [List.map_cons, List.sum_cons, l4, List.length_cons] at h1
    show (Txt.join ⟨#[32]⟩ ("lengths" :: ws)).length ≤ 37
    omega
theorem Pw.txt {ws : List Str} {dss : List (List Str)} (p : Pw ws dss) : sg (txW ws dss) = true ∧ (txW ws dss).length ≤ 900 ∧ lns (txW ws dss) = jsp ("lengths" :: ws) :: dss.map jsp := by
  obtain ⟨a1, a2, a3, a4⟩ := p.h
  refine ⟨join_sg (by decide) fun l hl => ?_, ?_, split_join 10 (List.cons_ne_nil _ _) fun l hl => ?_⟩
  · rcases List.mem_cons.mp hl with rfl | hl
    · exact a3
    · obtain ⟨d, hd, rfl⟩ := List.mem_map.mp hl
      exact (p.d hd).2.2.1
  · have h1 := join_len (c := 10) (ws := jsp ("lengths" :: ws) :: dss.map jsp) (List.cons_ne_nil _ _)
    have h2 := sum_le (c := 17) (l := (dss.map jsp).map (·.length)) fun x hx => by
      obtain ⟨l, hl, rfl⟩ := List.mem_map.mp hx
      obtain ⟨d, hd, rfl⟩ := List.mem_map.mp hl
      exact (p.d hd).2.2.2
    rw [List.length_map, List.length_map] at h2
    rw [List.map_cons, List.sum_cons, List.length_cons, List.length_map] at h1
    have := p.d0
    show (Txt.join ⟨#[10]⟩ (jsp ("lengths" :: ws) :: dss.map jsp)).length ≤ 900
    omega
  · rcases List.mem_cons.mp hl with rfl | hl
    · exact a1
    · obtain ⟨d, hd, rfl⟩ := List.mem_map.mp hl
      exact (p.d hd).1
theorem deed_mono {n : Nat} {d : D} (hn : n ≤ 5) (h : isDeed n d = true) : isDeed 5 d = true := by
  unfold isDeed at h ⊢
  split
  · simp only [Bool.and_eq_true] at h ⊢
    refine ⟨?_, h.2⟩
    have h := h.1
    unfold isNum at h ⊢
    split <;> simp_all <;> omega
  · simp only [Bool.and_eq_true] at h ⊢
    refine ⟨?_, h.2⟩
    have h := h.1
    unfold isNum at h ⊢
    split <;> simp_all <;> omega
  · simp_all
theorem Pw.fnd {ws : List Str} {dss : List (List Str)} (p : Pw ws dss) : fnd (txW ws dss) = .tup [.str "lengths", .tup (ws.map pt)] :: dss.map fun d => .tup [.str "deed", .tup (d.map pt)] := by
  obtain ⟨a1, a2, a3, a4⟩ := p.h
  obtain ⟨b1, b2, b3⟩ := p.txt
  have hp := p.pl
  obtain ⟨h1, h2⟩ := KI.ba (show (isLens (.tup (ws.map pt)) && (isTup (.tup (dss.map fun w => D.tup (w.map pt))) 0 8 && (dss.map fun w => D.tup (w.map pt)).all fun d => isDeed (ws.map pt).length d)) = true from hp)
  obtain ⟨_, h3⟩ := KI.ba h2
  rw [List.all_eq_true] at h3
  unfold K11.fnd
  rw [b3, List.map_cons, a2, List.map_map]
  have e1 : lineP ("lengths" :: ws) = .tup [.str "lengths", .tup (ws.map pt)] := by
    simp only [lineP, if_true, h1]
  rw [e1]
  congr 1
  apply List.map_congr_left
  intro d hd
  show lineP (wds (jsp d)) = _
  rw [(p.d hd).2.1]
  obtain ⟨c1, c2, c3⟩ := p.dn d hd
  obtain ⟨w, r, rfl⟩ := List.exists_cons_of_ne_nil c1
  have := h3 _ (List.mem_map.mpr ⟨w :: r, hd, rfl⟩)
  rw [List.length_map] at this
  simp only [lineP]
  rw [if_neg (c3 w List.mem_cons_self).nn, if_pos (deed_mono p.w0 this)]
theorem Pw.read {ws : List Str} {dss : List (List Str)} (p : Pw ws dss) : lread (txW ws dss) = .tup [plW ws dss, .non] := by
  have e := p.fnd
  have b : ∀ (n : Nat) (l : List (List Str)), badAt n (l.map fun d => D.tup [.str "deed", .tup (d.map pt)]) = none := fun n l => by
    induction l generalizing n with
    | nil => rfl
    | cons d l ih => rw [List.map_cons]; exact ih (n + 1)
  have b1 : badAt 0 (K11.fnd (txW ws dss)) = none := by
    rw [e]
    exact b 1 dss
  have s : ∀ l : List (List Str), eqL ((l.map fun d => D.tup [.str "deed", .tup (d.map pt)]).map sortOf) (List.replicate l.length (.str "deed")) = true := fun l => by
    induction l with
    | nil => rfl
    | cons d l ih =>
      show (eqD (.str "deed") (.str "deed") && eqL ((l.map fun d => D.tup [.str "deed", .tup (d.map pt)]).map sortOf) (List.replicate l.length (.str "deed"))) = true
      rw [ih, show eqD (.str "deed") (.str "deed") = true from by decide +kernel]
      rfl
  have s1 : sortsOk (K11.fnd (txW ws dss)) = true := by
    rw [e]
    show (eqD (.str "lengths") (.str "lengths") && eqL ((dss.map fun d => D.tup [.str "deed", .tup (d.map pt)]).map sortOf) (List.replicate ((_ :: dss.map fun d => D.tup [.str "deed", .tup (d.map pt)]).length - 1) (.str "deed"))) = true
    rw [List.length_cons, Nat.add_sub_cancel, List.length_map, s, show eqD (.str "lengths") (.str "lengths") = true from by decide +kernel]
    rfl
  have pl : planOf (K11.fnd (txW ws dss)) = plW ws dss := by
    rw [e]
    show D.tup [.tup (ws.map pt), .tup ((dss.map fun d => D.tup [.str "deed", .tup (d.map pt)]).map toldOf)] = plW ws dss
    rw [List.map_map]
    rfl
  have r : readP (txW ws dss) = (plW ws dss, 0) := by
    unfold readP
    rw [b1]
    simp only [s1, pl, p.pl]
    rfl
  unfold lread
  rw [r]
  rfl
end K11


set_option Elab.async false
set_option linter.all false
set_option maxRecDepth 100000
set_option autoImplicit false
set_option maxHeartbeats 2000000
/-! k11: texts of drawn plans; spoilt texts. -/
namespace K11
open PySem KI
section
variable {k : Nat} {S : Sto}
theorem Pw.gd {ws : List Str} {dss : List (List Str)} (p : Pw ws dss) : gd 3 8 (plW ws dss) = true := by
  have w0 := p.w0
  have d0 := p.d0
  have g1 : ∀ (h : Nat) (l : List Str), (∀ w ∈ l, Wg w) → gdL h 8 (l.map pt) = true := fun h l hl => gdL_of fun x hx => by
    obtain ⟨w, hw, rfl⟩ := List.mem_map.mp hx
    exact pt_gd (hl w hw).sg h 8
  have g2 : KI.gd 2 8 (.tup (ws.map pt)) = true := by
    show (decide ((ws.map pt).length ≤ 8) && _) = true
    rw [decide_eq_true (by rw [List.length_map]; omega), g1 _ ws p.wg]
    rfl
  have g3 : KI.gd 2 8 (.tup (dss.map fun w => .tup (w.map pt))) = true := by
    show (decide ((dss.map fun w => D.tup (w.map pt)).length ≤ 8) && _) = true
    rw [decide_eq_true (by rw [List.length_map]; omega), gdL_of]
    · rfl
    · intro x hx
      obtain ⟨d, hd, rfl⟩ := List.mem_map.mp hx
      obtain ⟨_, b, c⟩ := p.dn d hd
      show (decide ((d.map pt).length ≤ 8) && _) = true
      rw [decide_eq_true (by rw [List.length_map]; omega), g1 _ d c]
      rfl
  show (decide (2 ≤ 8) && (_ && (_ && true))) = true
  rw [g2, g3]
  rfl
theorem Pw.lines {ws : List Str} {dss : List (List Str)} (p : Pw ws dss) : L.run (k + 1) (.glo f_lines_of) [plW ws dss] S = .ok (.lst ((jsp ("lengths" :: ws) :: dss.map jsp).map .str)) S := by
  have w0 := p.w0
  have d0 := p.d0
  refine run_reg (S' := []) (d := d_lines_of) h_lines_of rfl ⟨rfl, by decide⟩ (by simp [pureL, plW_pure]) ?_ (by
    show pureL _ = true
    generalize (jsp ("lengths" :: ws) :: dss.map jsp) = l
    induction l with
    | nil => rfl
    | cons a l ih => exact ih)
  show exss L.cons (L.run k) L.fuel d_lines_of.body [some (plW ws dss), none, none, none, none, none, none] [] = _
  have s1 : exs L.cons (L.run k) L.fuel (.unp (.tp (.cons (.nm 2) (.cons (.nm 3) .nil))) (.var 0)) [some (plW ws dss), none, none, none, none, none, none] [] = .nx [some (plW ws dss), none, some (.tup (ws.map pt)), some (.tup (dss.map fun w => .tup (w.map pt))), none, none, none] [] := by simp [plW]
  have e0 : ev L.cons (L.run k) l_lines_of_0 [some (plW ws dss), none, some (.tup (ws.map pt)), some (.tup (dss.map fun w => .tup (w.map pt))), none, none, none] [] = .ok (.lst (ws.map .str)) [] := lc_str (by simp) (by simp) (by show _ < 16777216; omega)
  have l1 : 1 + ws.length ≤ 16777216 := by omega
  have j1 := join_sp (ws := "lengths" :: ws) (S := []) (by have := p.h.2.2.2; omega)
  rw [List.map_cons] at j1
  have s2 : exs L.cons (L.run k) L.fuel (.set 1 (.lst (.cons (.mth .join (.str " ") (.cons (.bin .add (.lst (.cons (.str "lengths") .nil)) l_lines_of_0) .nil)) .nil))) [some (plW ws dss), none, some (.tup (ws.map pt)), some (.tup (dss.map fun w => .tup (w.map pt))), none, none, none] [] = .nx [some (plW ws dss), some (.lst [.str (jsp ("lengths" :: ws))]), some (.tup (ws.map pt)), some (.tup (dss.map fun w => .tup (w.map pt))), none, none, none] [] := by
    simp [e0, l1, mtOk, j1]
  have e2 : ev L.cons (L.run k) l_lines_of_2 [some (plW ws dss), some (.lst [.str (jsp ("lengths" :: ws))]), some (.tup (ws.map pt)), some (.tup (dss.map fun w => .tup (w.map pt))), none, none, none] [] = .ok (.lst (dss.map fun w => .str (jsp w))) [] :=
    lc_allA (fun w : List Str => D.tup (w.map pt)) (fun w => .str (jsp w)) dss (by simp) (fun w hw => by
      obtain ⟨a, b, c⟩ := p.dn w hw
      have e3 : ∀ x : D, ev L.cons (L.run k) l_lines_of_1 [some (plW ws dss), some x, some (.tup (ws.map pt)), some (.tup (dss.map fun w => .tup (w.map pt))), some (.tup (w.map pt)), none, none] [] = .ok (.lst (w.map .str)) [] := fun x => lc_str (by simp) (by simp) (by show _ < 16777216; omega)
      have j2 := join_sp (ws := w) (S := []) (by have := (p.d hw).2.2.2; omega)
      simp [e3, mtOk, j2]) (by show _ < 16777216; omega)
  refine (exss_nx s1).trans ((exss_nx s2).trans (exss_rt ?_))
  have l2 : 1 + dss.length ≤ 16777216 := by omega
  rw [exs_ret]
  simp [e2, l2, Function.comp_def]
theorem Pw.text {ws : List Str} {dss : List (List Str)} (p : Pw ws dss) : L.run (k + 5) (.glo f_plan_text) [plW ws dss] S = .ok (.str (txW ws dss)) S := by
  have e1 : L.run (k + 4) (.glo f_need_plan) [plW ws dss] [] = .ok .non [] := need_ok p.gd (by decide) p.pl
  have e2 : L.run (k + 4) (.glo f_lines_of) [plW ws dss] [] = .ok (.lst ((jsp ("lengths" :: ws) :: dss.map jsp).map .str)) [] := p.lines
  refine run_reg (S' := []) (d := d_plan_text) h_plan_text rfl ⟨rfl, by decide⟩ (by simp [pureL, plW_pure]) ?_ rfl
  show exss L.cons (L.run (k + 4)) L.fuel d_plan_text.body [some (plW ws dss)] [] = _
  have j2 := join_nl (ws := jsp ("lengths" :: ws) :: dss.map jsp) (S := []) (by have := p.txt.2.1; have : (jnl (jsp ("lengths" :: ws) :: dss.map jsp)).length ≤ 900 := this; omega)
  have s1 : exs L.cons (L.run (k + 4)) L.fuel (.exp (.call f_need_plan (.cons (.var 0) .nil))) [some (plW ws dss)] [] = .nx [some (plW ws dss)] [] := by simp [e1]
  refine (exss_nx s1).trans (exss_rt ?_)
  have a1 : ev L.cons (L.run (k + 4)) (.call f_lines_of (.cons (.var 0) .nil)) [some (plW ws dss)] [] = .ok (.lst ((jsp ("lengths" :: ws) :: dss.map jsp).map .str)) [] := by simp [e2]
  rw [exs_ret, ev_mth]
  show onD ((evs L.cons (L.run (k + 4)) (.cons (.call f_lines_of (.cons (.var 0) .nil)) .nil) [some (plW ws dss)] []).bind fun ds S => lift (mtD S .join (.str "\n") ds) S) _ _ = _
  have a2 : evs L.cons (L.run (k + 4)) (.cons (.call f_lines_of (.cons (.var 0) .nil)) .nil) [some (plW ws dss)] [] = .ok [.lst ((jsp ("lengths" :: ws) :: dss.map jsp).map .str)] [] := by
    show ((ev L.cons (L.run (k + 4)) (.call f_lines_of (.cons (.var 0) .nil)) [some (plW ws dss)] []).bind _) = _
    rw [a1]
    rfl
  rw [a2]
  show onD (lift (mtD [] .join (.str "\n") [.lst ((jsp ("lengths" :: ws) :: dss.map jsp).map .str)]) []) _ _ = _
  rw [j2]
  rfl
/-! ### spoilt texts -/
theorem cut_mem {α : Type} {xs : List α} {lo hi : Option Int} {x : α} (h : x ∈ cut xs lo hi) : x ∈ xs := List.mem_of_mem_drop (List.mem_of_mem_take h)
theorem cut_len {α : Type} (xs : List α) (lo hi : Option Int) : (cut xs lo hi).length ≤ xs.length := by
  unfold cut
  rw [List.length_take, List.length_drop]
  omega
theorem cut_map {α β : Type} (f : α → β) (xs : List α) (lo hi : Option Int) : cut (xs.map f) lo hi = (cut xs lo hi).map f := by
  unfold cut
  rw [List.length_map, List.map_take, List.map_drop]
theorem cutS_len (z : Str) (lo hi : Option Int) : (L2.cutS z lo hi).length ≤ z.length := by
  obtain ⟨i, j, e⟩ := cutS_tl z lo hi
  rw [← tl_len, e, ← tl_len z, List.length_take, List.length_drop]
  omega
theorem cutS_900 (z : Str) : (L2.cutS z none (some 900)).length ≤ 900 := by
  show (((z.cps.toList.drop (HT.sIx z.length 0 none)).take (HT.sIx z.length z.length (some 900) - HT.sIx z.length 0 none)).toArray).size ≤ 900
  rw [List.size_toArray, List.length_take]
  have : HT.sIx z.length z.length (some 900) ≤ 900 := by
    unfold HT.sIx
    simp
    omega
  omega
def signs : List D := [.str "", .str " ", .str "0", .str "1", .str "3", .str "4", .str "-", .str "\n", .str "\npull 1", .str " 2", .str "wide", .str "lengths 2\n", .str "drop", .str "6", .str "+", .str "5"]
theorem signs_ok {x : D} (h : x ∈ signs) : ∃ u : Str, x = .str u ∧ sg u = true ∧ u.length ≤ 10 := by
  have : ∀ y ∈ signs, (match y with
    | .str u => sg u && decide (u.length ≤ 10)
    | _ => false) = true := by decide +kernel
  have := this x h
  split at this
  · obtain ⟨a, b⟩ := KI.ba this
    exact ⟨_, rfl, a, of_decide_eq_true b⟩
  · cases this
theorem ifs_false' {cons : Nat → D} {call : Call} {fuel : Nat} {c : Ex} {a : Sxs} {ρ : KI.Env} {S S' : Sto} (h : ev cons call c ρ S = .ok (.bl false) S') : exs cons call fuel (.ifs c a .nil) ρ S = .nx ρ S' := ifs_false h
theorem app_len (a b : Str) : (a ++ b).length = a.length + b.length := by
  rw [← tl_len, tl_app, List.length_append, tl_len, tl_len]
end
end K11


set_option Elab.async false
set_option linter.all false
set_option maxRecDepth 100000
set_option autoImplicit false
set_option maxHeartbeats 2000000
/-! k11: spoilt texts; the loops. -/
namespace K11
open PySem KI
section
variable {k : Nat} {S : Sto}
theorem spoilt_ok {n : Nat} {t : Str} (hs : Src S n) (ht : sg t = true) (hn : t.length ≤ 900) : ∃ u S', L.run (k + 3) (.glo f__law_spoilt) [.cell n, .str t] S = .ok (.str u) S' ∧ sg u = true ∧ u.length ≤ 16777216 ∧ Src S' n := by
  obtain ⟨a, S1, e1, a0, a1, s1, _⟩ := draw_ok (L := L) (k := k + 1) hs (m := (t.length : Int) + 1) (by omega) (by omega)
  obtain ⟨b, S2, e2, b0, b1, s2, _⟩ := draw_ok (L := L) (k := k + 1) s1 (m := 3) (by omega) (by omega)
  have e1 : L.run (k + 2) (.glo f__law_draw) [.cell n, .int ((t.length : Int) + 1)] S = .ok (.int a) S1 := e1
  have e2 : L.run (k + 2) (.glo f__law_draw) [.cell n, .int 3] S1 = .ok (.int b) S2 := e2
  have bl : biD S .len [.str t] = some (.int (t.length : Int)) := if_pos (show t.length ≤ 16777216 by omega)
  have g0 : rngOk ((t.length : Int) + 1) = true := rngOk_of (by omega) (by omega)
  have m1 : exs L.cons (L.run (k + 2)) L.fuel (.par 3 4 (.cons (.call f__law_draw (.cons (.var 0) (.cons (.bin .add (.bi .len (.cons (.var 1) .nil)) (.int 1)) .nil))) (.cons (.call f__law_draw (.cons (.var 0) (.cons (.int 3) .nil))) .nil))) [some (.cell n), some (.str t), none, none, none, none, none, none] S = .nx [some (.cell n), some (.str t), none, some (.int a), some (.int b), none, none, none] S2 := by simp [e1, e2, g0, bl]
  have m2 : exs L.cons (L.run (k + 2)) L.fuel (.set 2 (.lst (.cons (.str "") (.cons (.str " ") (.cons (.str "0") (.cons (.str "1") (.cons (.str "3") (.cons (.str "4") (.cons (.str "-") (.cons (.str "\n") (.cons (.str "\npull 1") (.cons (.str " 2") (.cons (.str "wide") (.cons (.str "lengths 2\n") (.cons (.str "drop") (.cons (.str "6") (.cons (.str "+") (.cons (.str "5") .nil)))))))))))))))))) [some (.cell n), some (.str t), none, some (.int a), some (.int b), none, none, none] S2 = .nx [some (.cell n), some (.str t), some (.lst signs), some (.int a), some (.int b), none, none, none] S2 := rfl
  by_cases hb : b = 2
  · subst hb
    have hl := split_len t 10
    have hl : (lns t).length ≤ t.length + 1 := hl
    have hl0 : lns t ≠ [] := split_ne _ _
    have hl1 := List.length_pos_iff.mpr hl0
    obtain ⟨p, S3, e3, p0, p1, s3, _⟩ := draw_ok (L := L) (k := k + 1) s2 (m := ((lns t).length : Int)) (by omega) (by omega)
    obtain ⟨q, S4, e4, q0, q1, s4, _⟩ := draw_ok (L := L) (k := k + 1) s3 (m := 3) (by omega) (by omega)
    have e3 : L.run (k + 2) (.glo f__law_draw) [.cell n, .int ((lns t).length : Int)] S2 = .ok (.int p) S3 := e3
    have e4 : L.run (k + 2) (.glo f__law_draw) [.cell n, .int 3] S3 = .ok (.int q) S4 := e4
    obtain ⟨c1, hc1⟩ : ∃ l, l = cut (lns t) none (some p) := ⟨_, rfl⟩
    obtain ⟨c2, hc2⟩ : ∃ l, l = cut (lns t) (some (p + 1)) none := ⟨_, rfl⟩
    obtain ⟨c3, hc3⟩ : ∃ l, l = cut (lns t) (some p) (some (p + q)) := ⟨_, rfl⟩
    have n1 : c1.length ≤ (lns t).length := by rw [hc1]; exact cut_len _ _ _
    have n2 : c2.length ≤ (lns t).length := by rw [hc2]; exact cut_len _ _ _
    have n3 : c3.length ≤ (lns t).length := by rw [hc3]; exact cut_len _ _ _
    have hm : ∀ w ∈ c1 ++ c2 ++ c3, w ∈ lns t := fun w hw => by
      rcases List.mem_append.mp hw with hw | hw
      · rcases List.mem_append.mp hw with hw | hw
        · rw [hc1] at hw; exact cut_mem hw
        · rw [hc2] at hw; exact cut_mem hw
      · rw [hc3] at hw; exact cut_mem hw
    have hsum : ((c1 ++ c2 ++ c3).map fun y : Str => y.length).sum ≤ 900 * (c1 ++ c2 ++ c3).length := by
      have := sum_le (c := 900) (l := (c1 ++ c2 ++ c3).map fun y : Str => y.length) fun x hx => by
        obtain ⟨w, hw, rfl⟩ := List.mem_map.mp hx
        exact Nat.le_trans (split_le (hm w hw)) hn
      rw [List.length_map] at this
      exact this
    have hlen : (c1 ++ c2 ++ c3).length ≤ 2703 := by
      rw [List.length_append, List.length_append]
      omega
    have hj : mtD S4 .join (.str "\n") [.lst ((c1 ++ c2 ++ c3).map .str)] = some (.str (jnl (c1 ++ c2 ++ c3))) := by
      rw [nl_eq]
      show (match strsD ((c1 ++ c2 ++ c3).map .str) with
        | some ys => if (ys.map fun y : Str => y.length).sum + ys.length * (⟨#[10]⟩ : Str).length ≤ 16777216 then some (D.str (Txt.join ⟨#[10]⟩ ys)) else none
        | none => none) = _
      rw [strs_some]
      refine if_pos ?_
      show _ + (c1 ++ c2 ++ c3).length * 1 ≤ _
      omega
    have hjl : (jnl (c1 ++ c2 ++ c3)).length ≤ 16777216 := by
      by_cases z : c1 ++ c2 ++ c3 = []
      · rw [z]; decide
      · have : (jnl (c1 ++ c2 ++ c3)).length + 1 = ((c1 ++ c2 ++ c3).map fun y : Str => y.length).sum + (c1 ++ c2 ++ c3).length := join_len z
        omega
    refine ⟨jnl (c1 ++ c2 ++ c3), S4, ?_, join_sg (by decide) fun w hw => split_sg ht (hm w hw), hjl, s4⟩
    refine run_non (d := d__law_spoilt) rfl rfl ⟨rfl, by decide⟩ ?_
    show exss L.cons (L.run (k + 2)) L.fuel d__law_spoilt.body [some (.cell n), some (.str t), none, none, none, none, none, none] S = _
    refine (exss_nx m1).trans ((exss_nx m2).trans ?_)
    have g1 : exs L.cons (L.run (k + 2)) L.fuel (.set 5 (.mth .split (.var 1) (.cons (.str "\n") .nil))) [some (.cell n), some (.str t), some (.lst signs), some (.int a), some (.int 2), none, none, none] S2 = .nx [some (.cell n), some (.str t), some (.lst signs), some (.int a), some (.int 2), some (.lst ((lns t).map .str)), none, none] S2 := by
      simp [mtOk, split_nl (l := t) (S := S2) (by omega)]
    have g2 : exs L.cons (L.run (k + 2)) L.fuel (.set 6 (.call f__law_draw (.cons (.var 0) (.cons (.bi .len (.cons (.var 5) .nil)) .nil)))) [some (.cell n), some (.str t), some (.lst signs), some (.int a), some (.int 2), some (.lst ((lns t).map .str)), none, none] S2 = .nx [some (.cell n), some (.str t), some (.lst signs), some (.int a), some (.int 2), some (.lst ((lns t).map .str)), some (.int p), none] S3 := by
      simp [e3]
    have r1 : rngOk p = true := rngOk_of (by omega) (by omega)
    have r2 : rngOk (p + q) = true := rngOk_of (by omega) (by omega)
    have r3 : rngOk (p + 1) = true := rngOk_of (by omega) (by omega)
    have g3 : exs L.cons (L.run (k + 2)) L.fuel (.set 7 (.sli (.var 5) (.some (.var 6)) (.some (.bin .add (.var 6) (.call f__law_draw (.cons (.var 0) (.cons (.int 3) .nil))))))) [some (.cell n), some (.str t), some (.lst signs), some (.int a), some (.int 2), some (.lst ((lns t).map .str)), some (.int p), none] S3 = .nx [some (.cell n), some (.str t), some (.lst signs), some (.int a), some (.int 2), some (.lst ((lns t).map .str)), some (.int p), some (.lst (c3.map .str))] S4 := by
      simp [e4, r1, r2, cut_map, hc3]
    have g4 : ev L.cons (L.run (k + 2)) (.bin .add (.bin .add (.sli (.var 5) .none (.some (.var 6))) (.sli (.var 5) (.some (.bin .add (.var 6) (.int 1))) .none)) (.var 7)) [some (.cell n), some (.str t), some (.lst signs), some (.int a), some (.int 2), some (.lst ((lns t).map .str)), some (.int p), some (.lst (c3.map .str))] S4 = .ok (.lst ((c1 ++ c2 ++ c3).map .str)) S4 := by
      have l1 : c1.length + c2.length ≤ 16777216 := by omega
      have l2 : c1.length + c2.length + c3.length ≤ 16777216 := by omega
      simp [r1, r3, cut_map, ← hc1, ← hc2, l1, l2]
    have g5 : exs L.cons (L.run (k + 2)) L.fuel (.ret (.mth .join (.str "\n") (.cons (.bin .add (.bin .add (.sli (.var 5) .none (.some (.var 6))) (.sli (.var 5) (.some (.bin .add (.var 6) (.int 1))) .none)) (.var 7)) .nil))) [some (.cell n), some (.str t), some (.lst signs), some (.int a), some (.int 2), some (.lst ((lns t).map .str)), some (.int p), some (.lst (c3.map .str))] S4 = .rt (.str (jnl (c1 ++ c2 ++ c3))) S4 := by
      rw [exs_ret, ev_mth]
      show onD (((ev L.cons (L.run (k + 2)) _ _ S4).bind _).bind _) _ _ = _
      rw [g4]
      show onD (lift (mtD S4 .join (.str "\n") [.lst ((c1 ++ c2 ++ c3).map .str)]) S4) _ _ = _
      rw [hj]
    rw [exss_cons, exs_ifs]
    have c0 : ev L.cons (L.run (k + 2)) (.cmp .eq (.var 4) (.int 2)) [some (.cell n), some (.str t), some (.lst signs), some (.int a), some (.int 2), none, none, none] S2 = .ok (.bl true) S2 := by simp
    rw [c0]
    show ((exss L.cons (L.run (k + 2)) L.fuel (.cons _ (.cons _ (.cons _ (.cons _ .nil)))) _ S2).then _) = _
    rw [exss_nx g1, exss_nx g2, exss_nx g3, exss_rt g5]
  · obtain ⟨x, S3, e3, hx, s3, _⟩ := of_ok (L := L) (k := k) s2 (xs := signs) (List.cons_ne_nil _ _) (by decide)
    obtain ⟨u, rfl, hu, hul⟩ := signs_ok hx
    have q1 := cutS_len t none (some a)
    have q2 := cutS_len t (some (a + b)) none
    refine ⟨L2.cutS t none (some a) ++ u ++ L2.cutS t (some (a + b)) none, S3, ?_, app_sg (app_sg (cutS_sg ht) hu) (cutS_sg ht), by rw [app_len, app_len]; omega, s3⟩
    refine run_non (d := d__law_spoilt) rfl rfl ⟨rfl, by decide⟩ ?_
    show exss L.cons (L.run (k + 2)) L.fuel d__law_spoilt.body [some (.cell n), some (.str t), none, none, none, none, none, none] S = _
    refine (exss_nx m1).trans ((exss_nx m2).trans ?_)
    have c0 : ev L.cons (L.run (k + 2)) (.cmp .eq (.var 4) (.int 2)) [some (.cell n), some (.str t), some (.lst signs), some (.int a), some (.int b), none, none, none] S2 = .ok (.bl false) S2 := by simp [hb]
    refine (exss_nx (ifs_false' c0)).trans (exss_rt ?_)
    have e3 : L.run (k + 2) (.glo f__law_of) [.cell n, .lst signs] S2 = .ok (.str u) S3 := e3
    have r1 : rngOk a = true := rngOk_of (by omega) (by omega)
    have r2 : rngOk (a + b) = true := rngOk_of (by omega) (by omega)
    have l1 : t.length ≤ LN := by show _ ≤ 16777216; omega
    have l2 : (L2.cutS t none (some a)).length + u.length ≤ 16777216 := by omega
    have l3 : (L2.cutS t none (some a) ++ u).length + (L2.cutS t (some (a + b)) none).length ≤ 16777216 := by rw [app_len]; omega
    rw [exs_ret]
    simp [r1, r2, e3, cutD, l1, binD, l2, l3]
end
end K11


set_option Elab.async false
set_option linter.all false
set_option maxRecDepth 100000
set_option autoImplicit false
set_option maxHeartbeats 2000000
/-! k11: the loops; the law. -/
namespace K11
open PySem KI
section
variable {k : Nat} {S : Sto}
theorem turn_ok {x0 x1 x4 x7 x8 : Option D} {ws : List Str} {dss : List (List Str)} (p : Pw ws dss) {m i : Nat} {t : Str} (hs : Src S m) (ht : sg t = true) (hn : t.length ≤ 900) (h0 : i = 0 → t = txW ws dss) :
    ∃ t' y z S', exss L.cons (L.run (k + 7)) L.fuel b_law_0 [x0, x1, some (plW ws dss), some (.str t), x4, some (.cell m), some (.int (0 + i)), x7, x8] S = .nx [x0, x1, some (plW ws dss), some (.str t'), x4, some (.cell m), some (.int (0 + i)), some y, some z] S' ∧ sg t' = true ∧ t'.length ≤ 900 ∧ Src S' m := by
  have e1 := lread_ok (k := k + 1) (S := S) ht (by omega)
  obtain ⟨pp, ii, e2, e3⟩ := right_ok (k := k + 1) (S := S) ht (by omega)
  rw [e2] at e1
  obtain ⟨u, S1, e4, hu, hul, s1⟩ := spoilt_ok (k := k + 4) hs ht hn
  have m1 : exs L.cons (L.run (k + 7)) L.fuel (.unp (.tp (.cons (.nm 7) (.cons (.nm 8) .nil))) (.call f__law_read (.cons (.var 3) .nil))) [x0, x1, some (plW ws dss), some (.str t), x4, some (.cell m), some (.int (0 + i)), x7, x8] S = .nx [x0, x1, some (plW ws dss), some (.str t), x4, some (.cell m), some (.int (0 + i)), some pp, some ii] S := by simp [e1]
  have c1 : ev L.cons (L.run (k + 7)) (.not (.call f__law_right (.cons (.var 3) (.cons (.var 7) (.cons (.var 8) .nil))))) [x0, x1, some (plW ws dss), some (.str t), x4, some (.cell m), some (.int (0 + i)), some pp, some ii] S = .ok (.bl false) S := by simp [e3]
  have c2 : ev L.cons (L.run (k + 7)) (.and (.cmp .eq (.var 6) (.int 0)) (.cmp .ne (.var 7) (.var 2))) [x0, x1, some (plW ws dss), some (.str t), x4, some (.cell m), some (.int (0 + i)), some pp, some ii] S = .ok (.bl false) S := by
    by_cases hi : i = 0
    · have e9 := p.read
      rw [← h0 hi, e2] at e9
      obtain ⟨rfl, rfl⟩ : pp = plW ws dss ∧ ii = .non := by
        injection e9 with e9
        injection e9 with a b
        injection b with b
        exact ⟨a, b⟩
      have n1 : ev L.cons (L.run (k + 7)) (.cmp .ne (.var 7) (.var 2)) [x0, x1, some (plW ws dss), some (.str t), x4, some (.cell m), some (.int (0 + i)), some (plW ws dss), some .non] S = .ok (.bl false) S := ne_false (S1 := S) (d := plW ws dss) (by simp) (by simp) (shp_le (by omega) (gd_shp _ _ _ p.gd))
      have n0 : ev L.cons (L.run (k + 7)) (.cmp .eq (.var 6) (.int 0)) [x0, x1, some (plW ws dss), some (.str t), x4, some (.cell m), some (.int (0 + i)), some (plW ws dss), some .non] S = .ok (.bl true) S := by subst hi; simp
      rw [ev_and, n0, bind_ok]
      exact n1
    · have n0 : ev L.cons (L.run (k + 7)) (.cmp .eq (.var 6) (.int 0)) [x0, x1, some (plW ws dss), some (.str t), x4, some (.cell m), some (.int (0 + i)), some pp, some ii] S = .ok (.bl false) S := by
        have : ¬ ((i : Int) = 0) := by omega
        simp [hi]
      rw [ev_and, n0, bind_ok]
  have c3 : ev L.cons (L.run (k + 7)) (.or (.not (.call f__law_right (.cons (.var 3) (.cons (.var 7) (.cons (.var 8) .nil))))) (.and (.cmp .eq (.var 6) (.int 0)) (.cmp .ne (.var 7) (.var 2)))) [x0, x1, some (plW ws dss), some (.str t), x4, some (.cell m), some (.int (0 + i)), some pp, some ii] S = .ok (.bl false) S := by
    rw [ev_or, c1, bind_ok]
    exact c2
  have l1 : u.length ≤ LN := hul
  have m3 : exs L.cons (L.run (k + 7)) L.fuel (.set 3 (.sli (.call f__law_spoilt (.cons (.var 5) (.cons (.var 3) .nil))) .none (.some (.int 900)))) [x0, x1, some (plW ws dss), some (.str t), x4, some (.cell m), some (.int (0 + i)), some pp, some ii] S = .nx [x0, x1, some (plW ws dss), some (.str (L2.cutS u none (some 900))), x4, some (.cell m), some (.int (0 + i)), some pp, some ii] S1 := by
    simp [e4, cutD, l1]
  exact ⟨L2.cutS u none (some 900), pp, ii, S1, (exss_nx m1).trans ((exss_nx (ifs_false c3)).trans ((exss_nx m3).trans (exss_nil ..))), cutS_sg hu, cutS_900 u, s1⟩
theorem turns_ok {x0 x1 x4 x6 x7 x8 : Option D} {ws : List Str} {dss : List (List Str)} (p : Pw ws dss) {m : Nat} (hs : Src S m) :
    ∃ t' x y z S', evFor (.nm 6) (exss L.cons (L.run (k + 7)) L.fuel b_law_0) (rngL 0 7) [x0, x1, some (plW ws dss), some (.str (txW ws dss)), x4, some (.cell m), x6, x7, x8] S = .nx [x0, x1, some (plW ws dss), some (.str t'), x4, some (.cell m), x, y, z] S' ∧ Src S' m := by
  obtain ⟨a, b, _⟩ := p.txt
  obtain ⟨ρ, S', e, t', x, y, z, rfl, _, _, _, s'⟩ := evFor_ix (tg := .nm 6) (body := exss L.cons (L.run (k + 7)) L.fuel b_law_0) (xs := rngL 0 7)
    (fun i ρ S => ∃ t' x y z, ρ = [x0, x1, some (plW ws dss), some (.str t'), x4, some (.cell m), x, y, z] ∧ (i = 0 → t' = txW ws dss) ∧ sg t' = true ∧ t'.length ≤ 900 ∧ Src S m)
    (fun i x hx ρ S ⟨t, x6, x7, x8, q1, q2, q3, q4, q5⟩ => by
      obtain ⟨rfl, hi⟩ := rngL_int hx
      subst q1
      obtain ⟨t', y, z, S1, e1, h1, h2, s1⟩ := turn_ok (k := k) (x0 := x0) (x1 := x1) (x4 := x4) (x7 := x7) (x8 := x8) (i := i) p q5 q3 q4 q2
      exact ⟨_, rfl, _, S1, e1, t', _, _, _, rfl, fun z => absurd z (Nat.succ_ne_zero _), h1, h2, s1⟩) (ρ := [x0, x1, some (plW ws dss), some (.str (txW ws dss)), x4, some (.cell m), x6, x7, x8]) (S := S) ⟨txW ws dss, x6, x7, x8, rfl, fun _ => rfl, a, b, hs⟩
  exact ⟨t', x, y, z, S', e, s'⟩
theorem odd_ok {ws : List Str} {dss : List (List Str)} {v : D} (p : Pw ws dss) (h : v ∈ ([.non, .int 5, .bl true, .lst [], .tup [.str "pull"], plW ws dss] : List D)) : v.pure = true ∧ isTy .str v = some false := by
  simp only [List.mem_cons, List.not_mem_nil, or_false] at h
  rcases h with rfl | rfl | rfl | rfl | rfl | rfl
  · exact ⟨rfl, rfl⟩
  · exact ⟨rfl, rfl⟩
  · exact ⟨rfl, rfl⟩
  · exact ⟨rfl, rfl⟩
  · exact ⟨rfl, rfl⟩
  · exact ⟨plW_pure _ _, rfl⟩
theorem outer_ok {ns : List Int} {c : Nat} : ∃ a b d f g h i j S', evFor (.nm 1) (exss L.cons (L.run (k + 8)) L.fuel b_law_1) (rngL 0 c) [some (.ro (ns.map .int)), none, none, none, none, none, none, none, none] [] = .nx [some (.ro (ns.map .int)), a, b, d, none, f, g, h, i] S' ∧ j = S' := by
  obtain ⟨ρ, S', e, a, b, d, f, g, h, i, rfl⟩ := evFor_ix (tg := .nm 1) (body := exss L.cons (L.run (k + 8)) L.fuel b_law_1) (xs := rngL 0 c)
    (fun i ρ S => ∃ a b d f g h i, ρ = [some (.ro (ns.map .int)), a, b, d, none, f, g, h, i])
    (fun i x hx ρ S ⟨a, b, d, f, g, h, j, q1⟩ => by
      obtain ⟨rfl, hi⟩ := rngL_int hx
      subst q1
      obtain ⟨S1, e1, s1, _⟩ := source_ok (L := L) (k := k + 7) (S := S) (ns := ns) (j := i)
      obtain ⟨p, S2, e2, hp, s2, _⟩ := plang_ok (L := L) (k := k + 3) s1 (most := 8) (by omega) (by omega)
      obtain ⟨ls, ds, rfl, hk⟩ := drawn_pk hp (by omega)
      obtain ⟨ws, dss, e0, pw⟩ := pw_of hk
      rw [e0] at e2
      have tx := pw.txt
      have e3 := ltext_ok (k := k + 7) (S := S2) (ws := ws) (dss := dss) (by omega)
      have e4 := pw.text (k := k + 3) (S := S2)
      obtain ⟨t', x, y, z, S3, e5, s3⟩ := turns_ok (k := k + 1) (x0 := some (.ro (ns.map .int))) (x1 := some (.int (0 + i))) (x4 := none) (x6 := g) (x7 := h) (x8 := j) pw s2
      obtain ⟨v, S4, e6, hv, s4, _⟩ := of_ok (L := L) (k := k + 6) s3 (xs := [.non, .int 5, .bl true, .lst [], .tup [.str "pull"], plW ws dss]) (List.cons_ne_nil _ _) (by show 6 < 1073741824; omega)
      obtain ⟨v1, v2⟩ := odd_ok pw hv
      have e7 := lread_exc (k := k + 2) (S := S4) v1 (read_no (k := k + 2) (S := []) v1 v2)
      refine ⟨_, rfl, [some (.ro (ns.map .int)), some (.int (0 + i)), some (plW ws dss), some (.str t'), none, some (.cell S.length), x, y, z], S4, ?_, _, _, _, _, _, _, _, rfl⟩
      have m1 : exs L.cons (L.run (k + 8)) L.fuel (.set 5 (.call f__law_source (.cons (.var 0) (.cons (.var 1) .nil)))) [some (.ro (ns.map .int)), some (.int (0 + i)), b, d, none, f, g, h, j] S = .nx [some (.ro (ns.map .int)), some (.int (0 + i)), b, d, none, some (.cell S.length), g, h, j] S1 := by simp [e1]
      have m2 : exs L.cons (L.run (k + 8)) L.fuel (.set 2 (.call f__law_plan (.cons (.var 5) (.cons (.int 8) .nil)))) [some (.ro (ns.map .int)), some (.int (0 + i)), b, d, none, some (.cell S.length), g, h, j] S1 = .nx [some (.ro (ns.map .int)), some (.int (0 + i)), some (plW ws dss), d, none, some (.cell S.length), g, h, j] S2 := by simp [e2]
      have m3 : exs L.cons (L.run (k + 8)) L.fuel (.set 3 (.call f__law_text (.cons (.var 2) .nil))) [some (.ro (ns.map .int)), some (.int (0 + i)), some (plW ws dss), d, none, some (.cell S.length), g, h, j] S2 = .nx [some (.ro (ns.map .int)), some (.int (0 + i)), some (plW ws dss), some (.str (txW ws dss)), none, some (.cell S.length), g, h, j] S2 := by simp [e3]
      have m4 : exs L.cons (L.run (k + 8)) L.fuel (.ifs (.cmp .ne (.call f_plan_text (.cons (.var 2) .nil)) (.var 3)) (.cons (.ret (.bl false)) .nil) .nil) [some (.ro (ns.map .int)), some (.int (0 + i)), some (plW ws dss), some (.str (txW ws dss)), none, some (.cell S.length), g, h, j] S2 = .nx [some (.ro (ns.map .int)), some (.int (0 + i)), some (plW ws dss), some (.str (txW ws dss)), none, some (.cell S.length), g, h, j] S2 := ifs_false (ne_false (S1 := S2) (d := .str (txW ws dss)) (by simp [e4]) (by simp) (sg_shp 64 tx.1))
      have m5 : exs L.cons (L.run (k + 8)) L.fuel (.for_ (.nm 6) (.rng1 (.int 7)) b_law_0) [some (.ro (ns.map .int)), some (.int (0 + i)), some (plW ws dss), some (.str (txW ws dss)), none, some (.cell S.length), g, h, j] S2 = .nx [some (.ro (ns.map .int)), some (.int (0 + i)), some (plW ws dss), some (.str t'), none, some (.cell S.length), x, y, z] S3 := by
        have g7 : rngOk 7 = true := by decide
        have e9 : evi L.cons (L.run (k + 8)) (.rng1 (.int 7)) [some (.ro (ns.map .int)), some (.int (0 + i)), some (plW ws dss), some (.str (txW ws dss)), none, some (.cell S.length), g, h, j] S2 = .ok (rngL 0 7) S2 := by simp [g7]
        rw [exs_for_, e9]
        exact e5
      have m6 : exs L.cons (L.run (k + 8)) L.fuel (.ifs (.cmp .ne (.call f__law_read (.cons (.call f__law_of (.cons (.var 5) (.cons (.lst (.cons .non (.cons (.int 5) (.cons (.bl true) (.cons (.lst .nil) (.cons (.tup (.cons (.str "pull") .nil)) (.cons (.var 2) .nil))))))) .nil))) .nil)) (.tup (.cons .non (.cons (.int 0) .nil)))) (.cons (.ret (.bl false)) .nil) .nil) [some (.ro (ns.map .int)), some (.int (0 + i)), some (plW ws dss), some (.str t'), none, some (.cell S.length), x, y, z] S3 = .nx [some (.ro (ns.map .int)), some (.int (0 + i)), some (plW ws dss), some (.str t'), none, some (.cell S.length), x, y, z] S4 :=
        ifs_false (ne_false (S1 := S4) (d := .tup [.non, .int 0]) (by simp [e6, e7]) (by simp) (by decide))
      exact (exss_nx m1).trans ((exss_nx m2).trans ((exss_nx m3).trans ((exss_nx m4).trans ((exss_nx m5).trans ((exss_nx m6).trans (exss_nil ..))))))) (ρ := [some (.ro (ns.map .int)), none, none, none, none, none, none, none, none]) (S := []) ⟨none, none, none, none, none, none, none, rfl⟩
  exact ⟨a, b, d, f, g, h, i, S', S', e, rfl⟩
end
theorem tail_ok (x a b d f g h i : Option D) (S : Sto) : exss L.cons (L.run 59) L.fuel (tailS d_law.body) [x, a, b, d, none, f, g, h, i] S = .rt (.bl true) S := by
  kernel_rfl
theorem good : L.Good 60 lawF 63 := by
  intro ns hns _
  obtain ⟨a, b, d, f, g, h, i, j, S', e, _⟩ := outer_ok (ns := ns) (k := 51) (c := ((1 : Int) + (if (10 : Int) < ns.length then (10 : Int) else (ns.length : Int))).toNat)
  refine ⟨[], run_reg (d := d_law) (S' := S') rfl rfl ⟨rfl, by decide⟩ (by simp [pureL, D.pure]) ?_ rfl⟩
  have g1 : rngOk ((1 : Int) + (if (10 : Int) < ns.length then (10 : Int) else (ns.length : Int))) = true := by
    split
    · decide
    · exact rngOk_of (by omega) (by omega)
  have m1 : exs L.cons (L.run 59) L.fuel (.for_ (.nm 1) (.rng1 (.bin .add (.int 1) (.bi .min2 (.cons (.bi .len (.cons (.var 0) .nil)) (.cons (.int 10) .nil))))) b_law_1) [some (.ro (ns.map .int)), none, none, none, none, none, none, none, none] [] = .nx [some (.ro (ns.map .int)), a, b, d, none, f, g, h, i] S' := by
    have e6 : evi L.cons (L.run 59) (.rng1 (.bin .add (.int 1) (.bi .min2 (.cons (.bi .len (.cons (.var 0) .nil)) (.cons (.int 10) .nil))))) [some (.ro (ns.map .int)), none, none, none, none, none, none, none, none] [] = .ok (rngL 0 ((1 : Int) + (if (10 : Int) < ns.length then (10 : Int) else (ns.length : Int))).toNat) [] := by simp [g1]
    rw [exs_for_, e6]
    exact e
  exact (exss_nx m1).trans (tail_ok _ _ _ _ _ _ _ _ _)
end K11


set_option Elab.async false
set_option linter.all false
set_option maxRecDepth 100000
set_option maxHeartbeats 0
open PySem PySem.W PySem.Calls PyProof.Rows
theorem PySem.Challenge.cw_anykerb_k11_texts_of_plans_holds : PySem.Challenge.rw_anykerb_k11_texts_of_plans.Holds := by
  w_on; o_law
  refine HandSHeadRun.head_any (r := OpenLaw.row PySem.Challenge.rw_anykerb_k11_texts_of_plans) (q := view (OpenLaw.row PySem.Challenge.rw_anykerb_k11_texts_of_plans).prog [K11.lawI]) (H := K11.L.hook 2 3) (ob := K11.L.ob 2 3) (M := 40000) (loose := K11.names) (d := HandSHeadRun.topDef (OpenLaw.row PySem.Challenge.rw_anykerb_k11_texts_of_plans).prog K11.lawI) (kwd := []) (K11.L.ob_eq 2 3)
    (by kernel_rfl) (fun s => by kernel_rfl) K11.run (by kernel_rfl) (by kernel_rfl) (by kernel_rfl) (by rfl) (by first | assumption | decide +kernel) (by decide +kernel) ⟨rfl, rfl, rfl, rfl, rfl, by decide +kernel⟩ ?hw ?hc
  case hw => w_witness2
  case hc =>
    exact KI.Lw.walk (L := K11.L) (l := PySem.Challenge.rw_anykerb_k11_texts_of_plans) (k := 60) (li := K11.lawF) (e := ⟨K11.d_law, K11.top K11.lawI, false, none, 0⟩) (x := "script") rfl (by kernel_rfl) ⟨rfl, by decide, by decide⟩ (by decide +kernel) K11.chk K11.fits rfl rfl (by kernel_rfl) K11.good ⟨rfl, rfl⟩

