import PyProof.Rows.All
import Wide.All
import OpenK.AllK
import Wide.FinOn
import HandS.ForMost
import HandS.Walk
import HandS.Comp
import HandS.Nested
import PyProof.Rows.IntBool
import HandS.TupAny
import HandS.TupMul
import HandS.Deep
import HandS.IsInst
import HandS.Sort
import HandS.CallSlots
import HandS.ForExc
import KE.GoesMore
import HandS.Iter
import HandS.Zip
import HandS.Text
import HandS.Exc
import HandS.ExcOwn
import HandS.TryOnly
import HandS.TryMany
import KE.KLam
import HandS.Defaults
import HandS.Conv
import HandS.Style
import HandS.Words
import HandS.WordsExc
import HandS.Head0
import HandS.Head1
import HandS.Head2
import HandS.HeadEnd
import HandS.HeadHook1
import HandS.HeadHook2
import HandS.HeadHook3
import HandS.HeadHook4
import HandS.HeadWalk
import HandS.EndTab
import KE.KStateDown
import HandS.Ends
import HandS.More
import PySem.Challenge.RW_anykerb_k05_plans_compared
set_option Elab.async false
set_option linter.all false
set_option maxRecDepth 100000
/-! A small interpreter over plain data: data, store, code, evaluation. Nothing of the model in it but Str and Key. -/
namespace KI
open PySem

/-! ### code -/
inductive Bop where | add | sub | mul | fdiv | mod | pow
  deriving DecidableEq
inductive Cop where | eq | ne | lt | le | gt | ge | isN | notN | in_ | nin
  deriving DecidableEq
inductive Ty where | int | bool | str | tuple | list
  deriving DecidableEq
inductive Bi where | len | abs | int | str | min1 | max1 | min2 | max2 | all | any | sum | list | tuple | dict
  deriving DecidableEq
inductive Mt where | index | get | split | join
  deriving DecidableEq
mutual
inductive Tg where
  | nm (i : Nat)
  | tp (ts : Tgs)
inductive Tgs where
  | nil
  | cons (t : Tg) (ts : Tgs)
end
mutual
/-- an expression -/
inductive Ex where
  | var (i : Nat)
  | con (c : Nat)
  | int (i : Int) | bl (b : Bool) | non | str (s : Str)
  | tup (es : Exs) | lst (es : Exs)
  | dct (ks : List Str) (es : Exs)
  /-- a new list, dict, that may change -/
  | newc (e : Ex)
  | bin (o : Bop) (a b : Ex)
  | neg (a : Ex)
  | cmp (o : Cop) (a b : Ex)
  | chn (o p : Cop) (a b c : Ex)
  | and (a b : Ex) | or (a b : Ex) | not (a : Ex)
  | ite (c a b : Ex)
  | idx (a i : Ex)
  | sli (a : Ex) (lo hi : Oe)
  | call (f : Nat) (es : Exs)
  /-- a call without arguments (no exception comes of it) -/
  | call0 (f : Nat)
  /-- a call whose last argument is a lambda: np parameters, js the slots that it captures, e its body -/
  | callL (f : Nat) (es : Exs) (np : Nat) (js : List Nat) (e : Ex)
  /-- a call of what a slot holds -/
  | callv (i : Nat) (es : Exs)
  /-- a def as a value -/
  | fnv (f : Nat)
  /-- len(set(e)), e a list of ints -/
  | nset (e : Ex)
  /-- list(range(a, b)) -/
  | rngl (a b : Ex)
  | bi (b : Bi) (es : Exs)
  | isi (a : Ex) (t : Ty)
  | mth (m : Mt) (o : Ex) (es : Exs)
  | lc (own : List Nat) (tg : Tg) (it : It) (c : Oe) (e : Ex)
inductive Exs where
  | nil
  | cons (e : Ex) (es : Exs)
inductive Oe where
  | none
  | some (e : Ex)
/-- what a loop walks -/
inductive It where
  | val (e : Ex) | rng1 (e : Ex) | rng2 (a b : Ex) | enum (e : Ex) | zip (a b : Ex)
end
/-- what a handler returns: isx c a b: a if isinstance(e, C) else b; fld: a field of the exception -/
inductive Hx where
  | str (s : Str) | bl (b : Bool) | non | fld (f : Str) | tup (es : List Hx) | isx (c : Nat) (a b : Hx)
inductive Hb where
  | ret (h : Hx)
  | set (i : Nat) (s : Str)
/-- except C (as n): n the slot -/
structure Hd where
  c : Nat
  n : Option Nat
  b : Hb
mutual
inductive Sx where
  | set (i : Nat) (e : Ex)
  | unp (tg : Tg) (e : Ex)
  | par (i j : Nat) (es : Exs)
  | par3 (i j l : Nat) (es : Exs)
  /-- into a list -/
  | put (o i e : Ex)
  /-- into a dict -/
  | dput (o i e : Ex)
  | app (i : Nat) (e : Ex)
  /-- a list that is no longer changed (nothing in the text) -/
  | frz (i : Nat)
  | ret (e : Ex)
  | ifs (c : Ex) (a b : Sxs)
  | for_ (tg : Tg) (it : It) (b : Sxs)
  | whl (c : Ex) (b : Sxs)
  | exp (e : Ex)
  /-- raise C("..") -/
  | rai (c : Nat)
  /-- raise C(e) of a class with a field -/
  | raiF (c : Nat) (f : Str) (e : Ex)
  | try_ (b : Sxs) (hs : List Hd)
  | nev
inductive Sxs where
  | nil
  | cons (s : Sx) (ss : Sxs)
end
abbrev Key := L2.Key
/-- plain data. cell: an object that may change (it stands in the store); ro: a list that is only read -/
inductive D where
  | non | bl (b : Bool) | int (i : Int) | str (s : Str)
  | tup (xs : List D) | lst (xs : List D) | dic (kvs : List (Key × D)) | ro (xs : List D)
  | cell (n : Nat)
  /-- a def; a lambda: np parameters, its body, what it has captured -/
  | fn (i : Nat) | clo (np : Nat) (e : Ex) (caps : List D)
instance : Inhabited D := ⟨.non⟩
/-- what stands in the store -/
inductive Ob where
  | lst (xs : List D) | dct (kvs : List (Key × D)) | ins (c : Nat) (fs : List (Str × D)) | dead
abbrev Sto := List Ob
/-- an exception: its class (a number that the texts fix), what it holds -/
structure Xn where
  cls : Nat
  fs : List (Str × D)
inductive Res (α : Type) where
  | ok (a : α) (S : Sto) | exc (x : Xn) (S : Sto) | no
@[reducible, simp] def Res.bind {α β : Type} (r : Res α) (f : α → Sto → Res β) : Res β := match r with
  | .ok a S => f a S
  | .exc x S => .exc x S
  | .no => .no
/-- a partial value as a result -/
@[reducible, simp] def lift {α : Type} (o : Option α) (S : Sto) : Res α := match o with
  | some a => .ok a S
  | none => .no

/-! ### no cells within -/
mutual
def D.pure : D → Bool
  | .non | .bl _ | .int _ | .str _ => true
  | .tup xs | .lst xs => pureL xs
  | .dic kvs => pureK kvs
  | .ro xs => pureL xs
  | .cell _ => false
  | .fn _ => true
  | .clo _ _ cs => pureL cs
def pureL : List D → Bool
  | [] => true
  | x :: xs => x.pure && pureL xs
def pureK : List (Key × D) → Bool
  | [] => true
  | (_, x) :: xs => x.pure && pureK xs
end

/-! ### no lambdas within -/
mutual
def D.cf : D → Bool
  | .non | .bl _ | .int _ | .str _ | .cell _ | .fn _ => true
  | .tup xs | .lst xs => cfL xs
  | .dic kvs => cfK kvs
  | .ro xs => cfL xs
  | .clo _ _ _ => false
def cfL : List D → Bool
  | [] => true
  | x :: xs => x.cf && cfL xs
def cfK : List (Key × D) → Bool
  | [] => true
  | (_, x) :: xs => x.cf && cfK xs
end
def Ob.cf : Ob → Bool
  | .lst xs => cfL xs
  | .dct kvs => cfK kvs
  | .ins _ fs => cfL (fs.map (·.2))
  | .dead => true
def stoCf (S : Sto) : Bool := S.all Ob.cf

/-! ### equality of data, its depth -/
mutual
def eqD : D → D → Bool
  | .non, .non => true
  | .bl a, .bl b => a == b
  | .bl a, .int j => (if a then 1 else 0) == j
  | .int i, .bl b => i == (if b then 1 else 0)
  | .int i, .int j => i == j
  | .str x, .str y => x == y
  | .lst xs, .lst ys => eqL xs ys
  | .tup xs, .tup ys => eqL xs ys
  | _, _ => false
def eqL : List D → List D → Bool
  | [], [] => true
  | x :: xs, y :: ys => eqD x y && eqL xs ys
  | _, _ => false
end
mutual
/-- may be compared: none, a bool, an int, a text, tuples and lists of such, at most k deep -/
def shp : Nat → D → Bool
  | _, .non | _, .bl _ | _, .int _ => true
  | _, .str x => x.cps.all (· < 0x110000)
  | k + 1, .tup xs => shpL k xs
  | k + 1, .lst xs => shpL k xs
  | _, _ => false
def shpL : Nat → List D → Bool
  | _, [] => true
  | k, x :: xs => shp k x && shpL k xs
end

/-! ### operators -/
/-- the longest list -/
@[simp] abbrev LN : Nat := 16777216
def mulOk (i j : Int) : Bool := decide (-(2 ^ 64) < i ∧ i < 2 ^ 64) || decide (-(2 ^ 64) < j ∧ j < 2 ^ 64)
def rep (k : Int) (xs : List D) : List D := (List.replicate k.toNat xs).flatten
def binD : Bop → D → D → Option D
  | .add, .int i, .int j => some (.int (i + j))
  | .add, .bl k, .int j => some (.int ((if k = true then (1 : Int) else 0) + j))
  | .add, .str a, .str b => if a.length + b.length ≤ LN then some (.str (a ++ b)) else none
  | .add, .tup a, .tup b => if a.length + b.length ≤ LN then some (.tup (a ++ b)) else none
  | .add, .lst a, .lst b => if a.length + b.length ≤ LN then some (.lst (a ++ b)) else none
  | .sub, .int i, .int j => some (.int (i - j))
  | .mul, .int i, .int j => if mulOk i j then some (.int (i * j)) else none
  | .mul, .lst a, .int k => if -(2 ^ 63) ≤ k ∧ k < 2 ^ 63 ∧ a.length * k.toNat ≤ LN then some (.lst (rep k a)) else none
  | .mul, .tup a, .int k => if a.length ≠ 0 ∧ 2 ≤ k ∧ k ≤ 1000 ∧ a.length ≤ 1000 then some (.tup (rep k a)) else none
  | .fdiv, .int i, .int j => if j ≠ 0 ∧ j.natAbs < 1073741824 then some (.int (i.fdiv j)) else none
  | .mod, .int i, .int j => if j ≠ 0 then some (.int (i.fmod j)) else none
  | .pow, .int i, .int j => if 0 ≤ j ∧ j ≤ 1000000 ∧ i.natAbs < 2 ^ 64 then some (.int (i ^ j.toNat)) else none
  | _, _, _ => none
@[simp] def items : D → Option (List D)
  | .tup xs => some xs
  | .lst xs => some xs
  | _ => none
def isNon : D → Bool
  | .non => true
  | _ => false
def cmpD : Cop → D → D → Option Bool
  | .eq, x, y => if shp 64 x && shp 64 y then some (eqD x y) else none
  | .ne, x, y => if shp 64 x && shp 64 y then some (!eqD x y) else none
  | .lt, .int i, .int j => some (decide (i < j))
  | .le, .int i, .int j => some (decide (i ≤ j))
  | .gt, .int i, .int j => some (decide (j < i))
  | .ge, .int i, .int j => some (decide (j ≤ i))
  | .isN, x, .non => some (isNon x)
  | .notN, x, .non => some (!isNon x)
  | .in_, x, c => match items c with
    | some xs => if shp 64 x && shpL 63 xs then some (xs.any fun y => eqD y x) else none
    | none => none
  | .nin, x, c => match items c with
    | some xs => if shp 64 x && shpL 63 xs then some (!xs.any fun y => eqD y x) else none
    | none => none
  | _, _, _ => none

/-! ### subscripts -/
def dicGet (kvs : List (Key × D)) (k : Key) : Option D := (kvs.find? fun kv => decide (kv.1 = k)).map (·.2)
def dicPut (kvs : List (Key × D)) (k : Key) (d : D) : List (Key × D) := bif kvs.any fun kv => decide (kv.1 = k) then kvs.map (fun kv => if kv.1 = k then (kv.1, d) else kv) else kvs ++ [(k, d)]
def keyOf : D → Option Key
  | .int i => some (.inl i)
  | .str s => some (.inr s)
  | _ => none
def idxD (S : Sto) : D → D → Option D
  | .tup xs, .int i => L2.atI xs i
  | .lst xs, .int i => L2.atI xs i
  | .ro xs, .int i => L2.atI xs i
  | .dic kvs, k => (keyOf k).bind fun k => dicGet kvs k
  | .cell n, k => match S[n]? with
    | some (.lst xs) => match k with
      | .int i => L2.atI xs i
      | _ => none
    | some (.dct kvs) => (keyOf k).bind fun k => dicGet kvs k
    | _ => none
  | _, _ => none
/-- xs[lo:hi] -/
def cut {α : Type} (xs : List α) (lo hi : Option Int) : List α := (xs.drop (HT.sIx xs.length 0 lo)).take (HT.sIx xs.length xs.length hi - HT.sIx xs.length 0 lo)
def cutD (d : D) (lo hi : Option Int) : Option D := match d with
  | .tup xs => some (.tup (cut xs lo hi))
  | .lst xs => some (.lst (cut xs lo hi))
  | _ => none

/-! ### types, built-in functions, methods -/
def isTy : Ty → D → Option Bool
  | _, .cell _ => none
  | _, .dic _ => none
  | _, .fn _ => none
  | _, .clo _ _ _ => none
  | .int, .int _ => some true
  | .int, .bl _ => some true
  | .bool, .bl _ => some true
  | .str, .str _ => some true
  | .tuple, .tup _ => some true
  | .list, .lst _ => some true
  | .list, .ro _ => some true
  | _, _ => some false
def intsD : List D → Option (List Int)
  | [] => some []
  | .int i :: r => (intsD r).map (i :: ·)
  | _ :: _ => none
def boolsD : List D → Option (List Bool)
  | [] => some []
  | .bl b :: r => (boolsD r).map (b :: ·)
  | _ :: _ => none
def minL : Int → List Int → Int
  | m, [] => m
  | m, x :: xs => minL (if x < m then x else m) xs
def maxL : Int → List Int → Int
  | m, [] => m
  | m, x :: xs => maxL (if x > m then x else m) xs
def pairsOf : List D → Option (List (Key × D))
  | [] => some []
  | .tup [k, v] :: r => (keyOf k).bind fun k => (pairsOf r).map ((k, v) :: ·)
  | _ :: _ => none
def mergeD : List (Key × D) → List (Key × D) → List (Key × D)
  | acc, [] => acc
  | acc, (k, v) :: r => mergeD (dicPut acc k v) r
def biD (S : Sto) : Bi → List D → Option D
  | .len, [.tup xs] => some (.int xs.length)
  | .len, [.lst xs] => some (.int xs.length)
  | .len, [.ro xs] => some (.int xs.length)
  | .len, [.str s] => if s.length ≤ LN then some (.int s.length) else none
  | .abs, [.int i] => some (.int (if i < 0 then -i else i))
  | .int, [.int i] => some (.int i)
  | .int, [.bl b] => some (.int (if b then 1 else 0))
  | .str, [.int i] => if i.natAbs.log2 < 1920 then some (.str (toString i)) else none
  | .min1, [.lst xs] => match intsD xs with
    | some (m :: r) => some (.int (minL m r))
    | _ => none
  | .max1, [.lst xs] => match intsD xs with
    | some (m :: r) => some (.int (maxL m r))
    | _ => none
  | .min2, [.int i, .int j] => some (.int (if j < i then j else i))
  | .max2, [.int i, .int j] => some (.int (if j > i then j else i))
  | .all, [.lst xs] => (boolsD xs).map fun bs => .bl (bs.all id)
  | .any, [.lst xs] => (boolsD xs).map fun bs => .bl (bs.any id)
  | .sum, [.lst xs] => (intsD xs).map fun ns => .int ns.sum
  | .list, [.lst xs] => some (.lst xs)
  | .list, [.tup xs] => some (.lst xs)
  | .tuple, [.lst xs] => some (.tup xs)
  | .tuple, [.tup xs] => some (.tup xs)
  | .dict, [.lst xs] => (pairsOf xs).map fun ps => .dic (mergeD [] ps)
  | _, _ => none
def findIx : Nat → List D → D → Option Nat
  | _, [], _ => none
  | n, y :: ys, x => if eqD y x then some n else findIx (n + 1) ys x
/-- the object has the method -/
def mtOk : Mt → D → Bool
  | .index, .lst _ | .get, .dic _ | .split, .str _ | .join, .str _ => true
  | _, _ => false
/-- how many arguments it takes -/
def mtN : Mt → Nat
  | .get => 2
  | _ => 1
def strsD : List D → Option (List Str)
  | [] => some []
  | .str s :: r => (strsD r).map (s :: ·)
  | _ :: _ => none
def mtD (S : Sto) : Mt → D → List D → Option D
  | .split, .str a, [.str b] => if (b.length == 0) = false ∧ a.length + 2 ≤ LN then some (.lst ((PySem.Txt.split a b).map .str)) else none
  | .join, .str a, [.lst xs] => match strsD xs with
    | some ys => if (ys.map (·.length)).sum + ys.length * a.length ≤ 16777216 then some (.str (PySem.Txt.join a ys)) else none
    | none => none
  | .index, .lst xs, [x] => if shp 64 x && shpL 63 xs then (findIx 0 xs x).map fun (n : Nat) => .int n else none
  | .get, .dic kvs, [k, z] => (keyOf k).map fun k => (dicGet kvs k).getD z
  | _, _, _ => none

abbrev Env := List (Option D)
/-- what is called: a def of the table, a lambda's body (its captured values stand behind its arguments) -/
inductive Fn where
  | glo (f : Nat) | lam (e : Ex)
abbrev Call := Fn → List D → Sto → Res D
def isFn : D → Bool
  | .fn _ => true
  | .clo _ _ _ => true
  | _ => false
/-- a function value called -/
@[simp] def app (call : Call) : D → List D → Sto → Res D
  | .fn i, ds, S => call (.glo i) ds S
  | .clo np e cs, ds, S => if ds.length = np ∧ cfL ds = true ∧ stoCf S = true then call (.lam e) (ds ++ cs) S else .no
  | _, _, _ => .no
/-- the slots' values -/
@[simp] def grab (ρ : Env) : List Nat → Option (List D)
  | [] => some []
  | j :: js => match ρ[j]? with
    | some (some d) => (grab ρ js).map (d :: ·)
    | _ => none
/-- behind a call that was handed a lambda: no lambda is left -/
def kept (r : Res D) : Res D := match r with
  | .ok v S' => if v.cf = true ∧ stoCf S' = true then .ok v S' else .no
  | _ => .no

mutual
@[simp] def bindT : Tg → D → Env → Option Env
  | .nm i, d, ρ => some (ρ.set i (some d))
  | .tp ts, d, ρ => match d with
    | .tup xs => bindTs ts xs ρ
    | .lst xs => bindTs ts xs ρ
    | _ => none
@[simp] def bindTs : Tgs → List D → Env → Option Env
  | .nil, [], ρ => some ρ
  | .cons t ts, x :: xs, ρ => match bindT t x ρ with
    | some ρ' => bindTs ts xs ρ'
    | none => none
  | _, _, _ => none
end
mutual
/-- the slots that a target sets -/
def slotsT : Tg → List Nat
  | .nm i => [i]
  | .tp ts => slotsTs ts
def slotsTs : Tgs → List Nat
  | .nil => []
  | .cons t ts => slotsT t ++ slotsTs ts
end
@[simp] def wipeE (ρ : Env) : List Nat → Env
  | [] => ρ
  | v :: vs => (wipeE ρ vs).set v none
/-- lo, lo + 1, ..: n of them -/
def rngL (lo : Int) : Nat → List D
  | 0 => []
  | n + 1 => .int lo :: rngL (lo + 1) n
def enumL : Nat → List D → List D
  | _, [] => []
  | n, x :: xs => .tup [.int (n : Int), x] :: enumL (n + 1) xs
def zipL : List D → List D → List D
  | x :: xs, y :: ys => .tup [x, y] :: zipL xs ys
  | _, _ => []
/-- (the kernel must not count down from 2 ** 62) -/
def rngOk (i : Int) : Bool := decide (i.natAbs < 4611686018427387904)
theorem rngOk_ok {i : Int} (h : rngOk i = true) : -(2 ^ 62) ≤ i ∧ i < 2 ^ 62 := by
  have := of_decide_eq_true h
  omega
theorem rngOk_of {i : Int} (h1 : -4611686018427387904 < i) (h2 : i < 4611686018427387904) : rngOk i = true := decide_eq_true (by omega)
/-- no exception is let through -/
@[reducible, simp] def shut {α : Type} (r : Res α) : Res α := match r with
  | .ok a S => .ok a S
  | _ => .no
def boolD : D → Option Bool
  | .bl b => some b
  | _ => none
/-- the turns of a comprehension -/
def evLc (turn : D → Sto → Res (Option D)) : List D → List D → Sto → Res (List D)
  | [], acc, S => .ok acc S
  | x :: xs, acc, S => match turn x S with
    | .ok (some d) S' => if acc.length < LN then evLc turn xs (acc ++ [d]) S' else .no
    | .ok none S' => evLc turn xs acc S'
    | _ => .no
section
variable (cons : Nat → D) (call : Call)
mutual
def ev : Ex → Env → Sto → Res D
  | .var i, ρ, S => match ρ[i]? with
    | some (some d) => .ok d S
    | _ => .no
  | .con c, _, S => .ok (cons c) S
  | .int i, _, S => .ok (.int i) S
  | .bl b, _, S => .ok (.bl b) S
  | .non, _, S => .ok .non S
  | .str s, _, S => .ok (.str s) S
  | .tup es, ρ, S => (evs es ρ S).bind fun ds S => if ds.length ≤ LN then .ok (.tup ds) S else .no
  | .lst es, ρ, S => (evs es ρ S).bind fun ds S => if ds.length ≤ LN then .ok (.lst ds) S else .no
  | .dct ks es, ρ, S => (evs es ρ S).bind fun ds S => if ds.length = ks.length ∧ ks.length ≤ 15 ∧ ks.length ≠ 0 then .ok (.dic (mergeD [] ((ks.map Sum.inr).zip ds))) S else .no
  | .newc e, ρ, S => (ev e ρ S).bind fun d S => match d with
    | .lst xs => .ok (.cell S.length) (S ++ [.lst xs])
    | .dic kvs => .ok (.cell S.length) (S ++ [.dct kvs])
    | _ => .no
  | .bin o a b, ρ, S => (ev a ρ S).bind fun x S => (ev b ρ S).bind fun y S => lift (binD o x y) S
  | .neg a, ρ, S => (ev a ρ S).bind fun x S => match x with
    | .int i => .ok (.int (-i)) S
    | _ => .no
  | .cmp o a b, ρ, S => (ev a ρ S).bind fun x S => (ev b ρ S).bind fun y S => lift ((cmpD o x y).map .bl) S
  | .chn o p a b c, ρ, S => (ev a ρ S).bind fun x S => (ev b ρ S).bind fun y S => match cmpD o x y with
    | some true => (ev c ρ S).bind fun z S => lift ((cmpD p y z).map .bl) S
    | some false => .ok (.bl false) S
    | none => .no
  | .and a b, ρ, S => (ev a ρ S).bind fun x S => match x with
    | .bl true => ev b ρ S
    | .bl false => .ok (.bl false) S
    | _ => .no
  | .or a b, ρ, S => (ev a ρ S).bind fun x S => match x with
    | .bl false => ev b ρ S
    | .bl true => .ok (.bl true) S
    | _ => .no
  | .not a, ρ, S => (ev a ρ S).bind fun x S => match x with
    | .bl b => .ok (.bl (!b)) S
    | _ => .no
  | .ite c a b, ρ, S => (ev c ρ S).bind fun x S => match x with
    | .bl true => ev a ρ S
    | .bl false => ev b ρ S
    | _ => .no
  | .idx a i, ρ, S => (ev a ρ S).bind fun x S => (ev i ρ S).bind fun y S => lift (idxD S x y) S
  | .sli a lo hi, ρ, S => (ev a ρ S).bind fun x S => (evo lo ρ S).bind fun l S => (evo hi ρ S).bind fun u S => lift (cutD x l u) S
  | .call f es, ρ, S => (evs es ρ S).bind fun ds S => call (.glo f) ds S
  | .call0 f, _, S => shut (call (.glo f) [] S)
  | .callL f es np js e, ρ, S => (evs es ρ S).bind fun ds S => match grab ρ js with
    | some cs => kept (call (.glo f) (ds ++ [.clo np e cs]) S)
    | none => .no
  | .callv i es, ρ, S => match ρ[i]? with
    | some (some d) => if isFn d = true then (evs es ρ S).bind fun ds S => app call d ds S else .no
    | _ => .no
  | .fnv i, _, S => .ok (.fn i) S
  | .nset e, ρ, S => (ev e ρ S).bind fun d S => match d with
    | .lst xs => lift (match intsD xs with
      | some ns => if ns.Nodup ∧ ns.length ≤ 4000 then some (.int ns.length) else none
      | none => none) S
    | _ => .no
  | .rngl a b, ρ, S => (ev a ρ S).bind fun x S => (ev b ρ S).bind fun y S => match x, y with
    | .int i, .int j => if rngOk i && rngOk j && decide ((j - i).toNat ≤ LN) then .ok (.lst (rngL i (j - i).toNat)) S else .no
    | _, _ => .no
  | .bi b es, ρ, S => (evs es ρ S).bind fun ds S => lift (biD S b ds) S
  | .isi a t, ρ, S => (ev a ρ S).bind fun x S => lift ((isTy t x).map .bl) S
  | .mth m o es, ρ, S => (ev o ρ S).bind fun x S => if mtOk m x = true then (evs es ρ S).bind fun ds S => lift (mtD S m x ds) S else .no
  | .lc own tg it c e, ρ, S => (evi it ρ S).bind fun xs S => (evLc (fun x S => match bindT tg x (wipeE ρ own) with
      | some ρ' => (evc c ρ' S).bind fun b S => bif b then (ev e ρ' S).bind fun d S => .ok (some d) S else .ok none S
      | none => .no) xs [] S).bind fun ds S => .ok (.lst ds) S
@[simp] def evs : Exs → Env → Sto → Res (List D)
  | .nil, _, S => .ok [] S
  | .cons e es, ρ, S => (ev e ρ S).bind fun d S => (evs es ρ S).bind fun ds S => .ok (d :: ds) S
@[simp] def evo : Oe → Env → Sto → Res (Option Int)
  | .none, _, S => .ok none S
  | .some e, ρ, S => (ev e ρ S).bind fun d S => match d with
    | .int i => .ok (some i) S
    | _ => .no
/-- a test, where one stands -/
@[simp] def evc : Oe → Env → Sto → Res Bool
  | .none, _, S => .ok true S
  | .some e, ρ, S => (ev e ρ S).bind fun d S => match d with
    | .bl b => .ok b S
    | _ => .no
@[simp] def evi : It → Env → Sto → Res (List D)
  | .val e, ρ, S => (ev e ρ S).bind fun d S => lift (items d) S
  | .rng1 e, ρ, S => (ev e ρ S).bind fun d S => match d with
    | .int j => if rngOk j then .ok (rngL 0 j.toNat) S else .no
    | _ => .no
  | .rng2 a b, ρ, S => (ev a ρ S).bind fun x S => (ev b ρ S).bind fun y S => match x, y with
    | .int i, .int j => if rngOk i && rngOk j then .ok (rngL i (j - i).toNat) S else .no
    | _, _ => .no
  | .enum e, ρ, S => (ev e ρ S).bind fun d S => lift ((items d).map (enumL 0)) S
  | .zip a b, ρ, S => (ev a ρ S).bind fun x S => (ev b ρ S).bind fun y S => match x, y with
    | .lst xs, .lst ys => .ok (zipL xs ys) S
    | .tup xs, .tup ys => .ok (zipL xs ys) S
    | _, _ => .no
end
end

/-- how a statement ends -/
inductive Fl where
  | nx (ρ : Env) (S : Sto) | rt (d : D) (S : Sto) | exc (x : Xn) (ρ : Env) (S : Sto) | no
@[reducible, simp] def onD {α : Type} (r : Res α) (ρ : Env) (f : α → Sto → Fl) : Fl := match r with
  | .ok d S => f d S
  | .exc x S => .exc x ρ S
  | .no => .no
@[reducible, simp] def Fl.then (r : Fl) (f : Env → Sto → Fl) : Fl := match r with
  | .nx ρ S => f ρ S
  | r => r
/-- the turns of a for -/
def evFor (tg : Tg) (body : Env → Sto → Fl) : List D → Env → Sto → Fl
  | [], ρ, S => .nx ρ S
  | x :: xs, ρ, S => match bindT tg x ρ with
    | some ρ' => (body ρ' S).then fun ρ S => evFor tg body xs ρ S
    | none => .no
/-- the turns of a while, at most so many -/
def evWhl (c : Env → Sto → Res D) (body : Env → Sto → Fl) : Nat → Env → Sto → Fl
  | 0, _, _ => .no
  | n + 1, ρ, S => onD (c ρ S) ρ fun d S => match d with
    | .bl true => (body ρ S).then fun ρ S => evWhl c body n ρ S
    | .bl false => .nx ρ S
    | _ => .no
/-- the exceptions of the program: KerbError is 0, all others are its direct subclasses -/
def subX (x c : Nat) : Bool := decide (x = c) || decide (c = 0)
mutual
/-- what a handler returns, of an exception -/
def hev (x : Xn) : Hx → Option D
  | .str s => some (.str s)
  | .bl b => some (.bl b)
  | .non => some .non
  | .fld f => x.fs.lookup f
  | .tup es => (hevs x es).map .tup
  | .isx c a b => bif subX x.cls c then hev x a else hev x b
def hevs (x : Xn) : List Hx → Option (List D)
  | [] => some []
  | h :: hs => match hev x h with
    | some d => (hevs x hs).map (d :: ·)
    | none => none
end
@[simp] def hbd (x : Xn) : Hb → Env → Sto → Fl
  | .ret h, _, S => match hev x h with
    | some d => .rt d S
    | none => .no
  | .set i s, ρ, S => .nx (ρ.set i (some (.str s))) S
@[simp] def hdls : List Hd → Xn → Env → Sto → Fl
  | [], x, ρ, S => .exc x ρ S
  | h :: hs, x, ρ, S => bif subX x.cls h.c then hbd x h.b ρ S else hdls hs x ρ S
section
variable (cons : Nat → D) (call : Call) (fuel : Nat)
mutual
def exs : Sx → Env → Sto → Fl
  | .set i e, ρ, S => onD (ev cons call e ρ S) ρ fun d S => .nx (ρ.set i (some d)) S
  | .unp tg e, ρ, S => onD (ev cons call e ρ S) ρ fun d S => match bindT tg d ρ with
    | some ρ' => .nx ρ' S
    | none => .no
  | .par i j es, ρ, S => onD (evs cons call es ρ S) ρ fun ds S => match ds with
    | [x, y] => .nx ((ρ.set i (some x)).set j (some y)) S
    | _ => .no
  | .par3 i j l es, ρ, S => onD (evs cons call es ρ S) ρ fun ds S => match ds with
    | [x, y, z] => .nx (((ρ.set i (some x)).set j (some y)).set l (some z)) S
    | _ => .no
  | .put o i e, ρ, S => onD (ev cons call e ρ S) ρ fun v S => onD (ev cons call o ρ S) ρ fun o S => onD (ev cons call i ρ S) ρ fun i S => match o, i with
    | .cell n, .int k => match S[n]? with
      | some (.lst xs) => match L2.ixN xs.length k with
        | some j => .nx ρ (S.set n (.lst (xs.set j v)))
        | none => .no
      | _ => .no
    | _, _ => .no
  | .dput o i e, ρ, S => onD (ev cons call e ρ S) ρ fun v S => onD (ev cons call o ρ S) ρ fun o S => onD (ev cons call i ρ S) ρ fun i S => match o, keyOf i with
    | .cell n, some k => match S[n]? with
      | some (.dct kvs) => if kvs.length < 1000 then .nx ρ (S.set n (.dct (dicPut kvs k v))) else .no
      | _ => .no
    | _, _ => .no
  | .app i e, ρ, S => match ρ[i]? with
    | some (some (.cell n)) => match S[n]? with
      | some (.lst _) => onD (ev cons call e ρ S) ρ fun d S => match S[n]? with
        | some (.lst xs) => if xs.length < LN then .nx ρ (S.set n (.lst (xs ++ [d]))) else .no
        | _ => .no
      | _ => .no
    | _ => .no
  | .frz i, ρ, S => match ρ[i]? with
    | some (some (.cell n)) => match S[n]? with
      | some (.lst xs) => .nx (ρ.set i (some (.lst xs))) (S.set n .dead)
      | _ => .no
    | _ => .no
  | .ret e, ρ, S => onD (ev cons call e ρ S) ρ fun d S => .rt d S
  | .ifs c a b, ρ, S => onD (ev cons call c ρ S) ρ fun d S => match d with
    | .bl true => exss a ρ S
    | .bl false => exss b ρ S
    | _ => .no
  | .for_ tg it b, ρ, S => onD (evi cons call it ρ S) ρ fun xs S => evFor tg (exss b) xs ρ S
  | .whl c b, ρ, S => evWhl (ev cons call c) (exss b) fuel ρ S
  | .exp e, ρ, S => onD (ev cons call e ρ S) ρ fun _ S => .nx ρ S
  | .rai c, ρ, S => .exc ⟨c, []⟩ ρ S
  | .raiF c f e, ρ, S => onD (ev cons call e ρ S) ρ fun d S => .exc ⟨c, [(f, d)]⟩ ρ S
  | .try_ b hs, ρ, S => match exss b ρ S with
    | .exc x ρ' S' => hdls hs x ρ' S'
    | r => r
  | .nev, _, _ => .no
def exss : Sxs → Env → Sto → Fl
  | .nil, ρ, S => .nx ρ S
  | .cons s ss, ρ, S => (exs s ρ S).then fun ρ S => exss ss ρ S
end
end
/-- a def -/
structure Def where
  name : Str
  /-- its names by slot, the parameters first -/
  N : List Str
  nps : Nat
  body : Sxs
  /-- it is run in a store of its own -/
  reg : Bool := false
def callN (cons : Nat → D) (T : Nat → Option Def) (fuel : Nat) : Nat → Call
  | 0, _, _, _ => .no
  | k + 1, .lam e, ds, S => ev cons (callN cons T fuel k) e (ds.map some) S
  | k + 1, .glo f, ds, S => match T f with
    | none => .no
    | some d => if ds.length = d.nps ∧ d.nps ≤ d.N.length then
        (match d.reg with
        | false => (match exss cons (callN cons T fuel k) fuel d.body (ds.map some ++ List.replicate (d.N.length - d.nps) none) S with
          | .nx _ S' => .ok .non S'
          | .rt v S' => .ok v S'
          | .exc x _ S' => .exc x S'
          | .no => .no)
        | true => if pureL ds then
            (match exss cons (callN cons T fuel k) fuel d.body (ds.map some ++ List.replicate (d.N.length - d.nps) none) [] with
            | .nx _ _ => .ok .non S
            | .rt v _ => if v.pure then .ok v S else .no
            | .exc x _ _ => if pureL (x.fs.map (·.2)) then .exc x S else .no
            | .no => .no) else .no)
      else .no
end KI


set_option Elab.async false
set_option linter.all false
set_option maxRecDepth 100000
set_option autoImplicit false
/-! The checker: the code is the text's. -/
namespace KI
open PySem PySem.Spec PyProof.Rows L2

def opOf : Bop → Operator
  | .add => .Add | .sub => .Sub | .mul => .Mult | .fdiv => .FloorDiv | .mod => .Mod | .pow => .Pow
def copOf : Cop → CmpOp
  | .eq => .Eq | .ne => .NotEq | .lt => .Lt | .le => .LtE | .gt => .Gt | .ge => .GtE | .isN => .Is | .notN => .IsNot | .in_ => .In | .nin => .NotIn
def notStar : Expr → Bool
  | .Starred _ _ => false
  | _ => true
def biId : Bi → String
  | .len => "len" | .abs => "abs" | .int => "int" | .str => "str" | .min1 => "min" | .max1 => "max" | .min2 => "min" | .max2 => "max" | .all => "all" | .any => "any" | .sum => "sum" | .list => "list" | .tuple => "tuple" | .dict => "dict"
def tyName : Ty → String
  | .int => "int" | .bool => "bool" | .str => "str" | .tuple => "tuple" | .list => "list"
def mtId : Mt → String
  | .index => "index" | .get => "get" | .split => "split" | .join => "join"
/-- where an expression stands: the def's names by slot, the scope, the scope whose cells are its own -/
structure Cc where
  N : List Str
  sc : Scope
  ss : Scope
  /-- not within an except suite -/
  calm : Bool
  /-- lambdas may be made here -/
  lam : Bool
/-- the names of defs (with how many parameters) and constants -/
structure Tb where
  fn : Nat → Option (Str × Nat)
  cn : Nat → Option Str
  bl : Str → Bool
  xc : Nat → Option Str
def visB (sc : Scope) (x : Str) : Bool := match sc.names.lookup x with
  | some .local | some .cell | some .free => true
  | _ => false
def glB (sc : Scope) (x : Str) : Bool := match sc.names.lookup x with
  | some .globalImplicit => true
  | _ => false
def locB (sc ss : Scope) (x : Str) : Bool := match sc.names.lookup x with
  | some .local => true
  | some .cell => (match ss.names.lookup x with
    | some .cell => true
    | _ => false)
  | _ => false
def nmOk (x : Str) : Bool := !(x == ("__debug__" : Str)) && !(x == ("__classdict__" : Str))
def ixB : Expr → Bool
  | .Slice _ _ _ _ => false
  | _ => true
def markB : Expr → Bool
  | .Set _ _ _ => false
  | _ => true
def opB : Operator → Operator → Bool
  | .Add, .Add | .Sub, .Sub | .Mult, .Mult | .FloorDiv, .FloorDiv | .Mod, .Mod | .Pow, .Pow => true
  | _, _ => false
theorem opB_ok {a b : Operator} (h : opB a b = true) : a = b := by
  cases a <;> cases b <;> first | rfl | cases h
def tupX : Expr → Bool
  | .Tuple _ _ _ => true
  | _ => false
/-- no call of super() -/
def attB : Expr → Bool
  | .Call (.Name _ _) [] [] _ => false
  | _ => true
/-- plain parameters of these names -/
def argOk (p : Arguments) (ps : List Str) : Bool := p.posonlyargs.isEmpty && p.vararg.isNone && p.kwonlyargs.isEmpty && p.kwarg.isNone && p.defaults.isEmpty && decide (p.args.map (·.arg) = ps) && decide ps.Nodup
/-- the names of slots -/
def namesOf (N : List Str) : List Nat → Option (List Str)
  | [] => some []
  | j :: js => match N[j]? with
    | some x => (namesOf N js).map (x :: ·)
    | none => none
def keysX : List Str → List (Option Expr) → Bool
  | [], [] => true
  | k :: ks, .some (.Constant (.str s) _ _) :: xs => decide (s = k) && keysX ks xs
  | _, _ => false
def cpB (a b : CmpOp) : Bool := decide (a = b)
def lenEs : Exs → Nat
  | .nil => 0
  | .cons _ es => lenEs es + 1
mutual
def chkG (C : Cc) : Tg → Expr → Bool
  | .nm i, x => (match x with
    | .Name y _ => decide (C.N[i]? = some y) && locB C.sc C.ss y
    | _ => false)
  | .tp ts, x => (match x with
    | .Tuple ys _ _ => C.calm && chkGs C ts ys
    | _ => false)
def chkGs (C : Cc) : Tgs → List Expr → Bool
  | .nil, xs => (match xs with
    | [] => true
    | _ => false)
  | .cons t ts, xs => (match xs with
    | x :: xs => chkG C t x && notStar x && chkGs C ts xs
    | _ => false)
end
/-- of the lambda: its parameters, what it captures, its names -/
def lamB (sc : Scope) (np : Nat) (fr : List Str) (p : Arguments) (scope : Scope) : Bool :=
  p.kw_defaults.isEmpty && argOk p (p.args.map (·.arg)) && decide ((p.args.map (·.arg)).length = np) && NdefX.nscB (p.args.map (·.arg) ++ fr) (p.args.map (·.arg)) fr scope && NdefX.ndefB sc scope fr
mutual
def chkE (T : Tb) (C : Cc) : Ex → Expr → Bool
  | .var i, x => (match x with
    | .Name y _ => decide (C.N[i]? = some y) && visB C.sc y && nmOk y
    | _ => false)
  | .con c, x => (match x with
    | .Name y _ => decide (T.cn c = some y) && glB C.sc y && nmOk y
    | _ => false)
  | .int i, x => (match x with
    | .Constant (.int j) _ _ => decide (j = i)
    | _ => false)
  | .bl i, x => (match x with
    | .Constant (.bool j) _ _ => decide (j = i)
    | _ => false)
  | .non, x => (match x with
    | .Constant .none _ _ => true
    | _ => false)
  | .str i, x => (match x with
    | .Constant (.str j) _ _ => decide (j = i)
    | _ => false)
  | .tup es, x => (match x with
    | .Tuple ys _ _ => chkEs T C es ys
    | _ => false)
  | .lst es, x => (match x with
    | .List ys _ => chkEs T C es ys
    | _ => false)
  | .dct _ _, _ => false
  | .newc e, x => (match e with
    | .lst es => (match x with
      | .List ys _ => chkEs T C es ys
      | _ => false)
    | .dct ks es => (match x with
      | .Dict ys zs _ => keysX ks ys && decide (ks.length = zs.length) && decide (ks.length ≤ 15) && decide (ks ≠ []) && chkEs T C es zs
      | _ => false)
    | _ => false)
  | .bin o a b, x => (match x with
    | .BinOp y p z _ => opB p (opOf o) && chkE T C a y && chkE T C b z
    | _ => false)
  | .neg a, x => (match x with
    | .UnaryOp .USub y _ => chkE T C a y
    | _ => false)
  | .cmp o a b, x => (match x with
    | .Compare y [p] [z] _ => cpB p (copOf o) && chkE T C a y && chkE T C b z && markB z
    | _ => false)
  | .chn o p a b c, x => (match x with
    | .Compare y [o', p'] [z, u] _ => cpB o' (copOf o) && cpB p' (copOf p) && chkE T C a y && chkE T C b z && chkE T C c u && markB u
    | _ => false)
  | .and a b, x => (match x with
    | .BoolOp .And (y :: z :: r) pos => chkE T C a y && (match r with
      | [] => chkE T C b z
      | _ :: _ => chkE T C b (.BoolOp .And (z :: r) pos))
    | _ => false)
  | .or a b, x => (match x with
    | .BoolOp .Or (y :: z :: r) pos => chkE T C a y && (match r with
      | [] => chkE T C b z
      | _ :: _ => chkE T C b (.BoolOp .Or (z :: r) pos))
    | _ => false)
  | .not a, x => (match x with
    | .UnaryOp .Not y _ => chkE T C a y
    | _ => false)
  | .ite c a b, x => (match x with
    | .IfExp u y z _ => chkE T C c u && chkE T C a y && chkE T C b z
    | _ => false)
  | .idx a i, x => (match x with
    | .Subscript y z _ => chkE T C a y && chkE T C i z && ixB z
    | _ => false)
  | .sli a lo hi, x => (match x with
    | .Subscript y (.Slice l u .none _) _ => chkE T C a y && chkO T C lo l && chkO T C hi u
    | _ => false)
  | .call f es, x => (match x with
    | .Call (.Name y _) (z :: zs) [] _ => decide (T.fn f = some (y, lenEs es)) && glB C.sc y && nmOk y && chkEs T C es (z :: zs)
    | _ => false)
  | .call0 f, x => (match x with
    | .Call (.Name y _) [] [] _ => decide (T.fn f = some (y, 0)) && glB C.sc y && nmOk y
    | _ => false)
  | .callL f es np js e, x => (match x with
    | .Call (.Name y _) (z :: zs) [] _ => C.lam && decide (T.fn f = some (y, lenEs es + 1)) && glB C.sc y && nmOk y && chkL T C es (fun p b scope => match namesOf C.N js with
      | some fr => lamB C.sc np fr p scope && chkE T ⟨p.args.map (·.arg) ++ fr, scope, scope, true, false⟩ e b
      | none => false) (z :: zs)
    | _ => false)
  | .callv i es, x => (match x with
    | .Call (.Name y _) zs [] _ => decide (C.N[i]? = some y) && visB C.sc y && nmOk y && chkEs T C es zs
    | _ => false)
  | .fnv i, x => (match x with
    | .Name y _ => decide ((T.fn i).map (·.1) = some y) && glB C.sc y && nmOk y
    | _ => false)
  | .nset e, x => (match x with
    | .Call (.Name y _) [.Call (.Name u _) [z] [] _] [] _ => decide (y = Str.ofString "len") && T.bl y && glB C.sc y && decide (u = Str.ofString "set") && T.bl u && glB C.sc u && chkE T C e z && notStar z && C.calm
    | _ => false)
  | .rngl a b, x => (match x with
    | .Call (.Name y _) [.Call (.Name u _) [z, w] [] _] [] _ => decide (y = Str.ofString "list") && T.bl y && glB C.sc y && decide (u = Str.ofString "range") && T.bl u && glB C.sc u && chkE T C a z && notStar z && chkE T C b w && notStar w && C.calm
    | _ => false)
  | .bi b es, x => (match x with
    | .Call (.Name y _) (z :: zs) [] _ => decide (y = Str.ofString (biId b)) && T.bl y && glB C.sc y && chkEs T C es (z :: zs) && C.calm
    | _ => false)
  | .isi a t, x => (match x with
    | .Call (.Name y _) [z, .Name u _] [] _ => decide (y = Str.ofString "isinstance") && T.bl y && glB C.sc y && decide (u = Str.ofString (tyName t)) && T.bl u && glB C.sc u && chkE T C a z && notStar z
    | _ => false)
  | .mth m o es, x => (match x with
    | .Call (.Attribute y n apos) (z :: zs) [] cpos => attB y && decide (n = Str.ofString (mtId m)) && (apos.endLine == cpos.line) && chkE T C o y && chkEs T C es (z :: zs) && decide (lenEs es = mtN m)
    | _ => false)
  | .lc own tg it c e, x => (match x with
    | .ListComp elt [⟨tgx, iter, ifs, k⟩] scope _ => C.calm && decide (k = 0) && blkC C.N C.sc scope (own.filterMap fun i => (C.N[i]?).map fun y => (y, i)) && decide ((own.filterMap fun i => (C.N[i]?).map fun y => (y, i)).map (·.2) = own) && (slotsT tg).all (fun i => own.contains i)
        && chkI T C tgx it iter && chkG ⟨C.N, relS scope C.sc, scope, C.calm, false⟩ tg tgx && chkC T ⟨C.N, relS scope C.sc, scope, C.calm, false⟩ c ifs && chkE T ⟨C.N, relS scope C.sc, scope, C.calm, false⟩ e elt
    | _ => false)
def chkEs (T : Tb) (C : Cc) : Exs → List Expr → Bool
  | .nil, xs => (match xs with
    | [] => true
    | _ => false)
  | .cons e es, xs => (match xs with
    | x :: xs => chkE T C e x && notStar x && chkEs T C es xs
    | _ => false)
/-- the arguments, the last one a lambda -/
def chkL (T : Tb) (C : Cc) : Exs → (Arguments → Expr → Scope → Bool) → List Expr → Bool
  | .nil, k, xs => (match xs with
    | [.Lambda p b scope _] => k p b scope
    | _ => false)
  | .cons a es, k, xs => (match xs with
    | x :: y :: xs => chkE T C a x && notStar x && chkL T C es k (y :: xs)
    | _ => false)
def chkO (T : Tb) (C : Cc) : Oe → Option Expr → Bool
  | .none, x => (match x with
    | .none => true
    | _ => false)
  | .some e, x => (match x with
    | .some x => chkE T C e x
    | _ => false)
def chkC (T : Tb) (C : Cc) : Oe → List Expr → Bool
  | .none, x => (match x with
    | [] => true
    | _ => false)
  | .some e, x => (match x with
    | [x] => chkE T C e x
    | _ => false)
def chkI (T : Tb) (C : Cc) (tg : Expr) : It → Expr → Bool
  | .val e, x => chkE T C e x && markB x
  | .rng1 e, x => (match x with
    | .Call (.Name y _) [z] [] _ => decide (y = Str.ofString "range") && T.bl y && glB C.sc y && chkE T C e z && notStar z
    | _ => false)
  | .rng2 a b, x => (match x with
    | .Call (.Name y _) [z, u] [] _ => decide (y = Str.ofString "range") && T.bl y && glB C.sc y && chkE T C a z && notStar z && chkE T C b u && notStar u
    | _ => false)
  | .enum e, x => (match x with
    | .Call (.Name y _) [z] [] _ => decide (y = Str.ofString "enumerate") && T.bl y && glB C.sc y && chkE T C e z && notStar z && tupX tg
    | _ => false)
  | .zip a b, x => (match x with
    | .Call (.Name y _) [z, u] [] _ => decide (y = Str.ofString "zip") && T.bl y && glB C.sc y && chkE T C a z && notStar z && chkE T C b u && notStar u && tupX tg
    | _ => false)
end

end KI


set_option Elab.async false
set_option linter.all false
set_option maxRecDepth 100000
set_option autoImplicit false
/-! How plain data lies in the abstract heap. -/
namespace KI
open PySem PySem.Spec PyProof.Rows L2

/-- a tuple of the written part -/
def KT (K : PySem.W.Frag) (a : Addr) (xs : List V) : Prop := ∃ (o : Obj) (its : Array Value) (n : Nat), K.lookup a = some o ∧ o.cls = .type "tuple" ∧ o.data = .seq its n ∧ its.size ≤ sizeLine ∧ Vals xs its.toList
def KL (K : PySem.W.Frag) (a : Addr) (xs : List V) : Prop := ∃ (o : Obj) (its : Array Value) (n : Nat), K.lookup a = some o ∧ o.cls = .type "list" ∧ o.dict = none ∧ o.data = .seq its n ∧ its.size ≤ sizeLine ∧ Vals xs its.toList
def SqTm (K : PySem.W.Frag) (mu : List Addr) (H : Hp) (a : Addr) (xs : List V) : Prop := (Rd H a (.tup xs) ∧ a ∉ mu) ∨ KT K a xs
def SqLm (K : PySem.W.Frag) (mu : List Addr) (H : Hp) (a : Addr) (xs : List V) : Prop := (Rd H a (.lst xs) ∧ a ∉ mu) ∨ KL K a xs
theorem SqTm.sq {K : PySem.W.Frag} {mu : List Addr} {H : Hp} {a : Addr} {xs : List V} (h : SqTm K mu H a xs) : SqT K H a xs := by
  rcases h with h | h
  · exact .inl h.1
  · exact .inr h
theorem SqLm.sq {K : PySem.W.Frag} {mu : List Addr} {H : Hp} {a : Addr} {xs : List V} (h : SqLm K mu H a xs) : SqL K H a xs := by
  rcases h with h | h
  · exact .inl h.1
  · exact .inr h
/-- what Is leans on besides: where the defs stand, the table of names, the tables of code objects -/
structure Ek where
  FA : Nat → Addr
  CA : Nat → Addr
  TB : Tb
  T : List (Addr × Str)
/-- a lambda's words, the cells that it captured, its code object -/
structure LF where
  qual : Str
  params : Arguments
  body : Expr
  scope : Scope
  cl : List (Str × Addr)
  c : Addr
/-- the object at f is the function F -/
def FnL (f : Addr) (F : LF) : HO := .ext fun h => ∃ (od : Option Addr) (sl : Array (Option Value)) (pm ctv : Value), h.get? f = some (⟨.type "function", od, .func (PySem.W.kla_fn "<lambda>" F.qual F.params F.body F.scope F.cl pm (.ref F.c) ctv), sl⟩ : Obj)
/-- the object at c, known -/
def CelO (c : Addr) (o : Obj) : HO := .frz o (.own c)
/-- the lambda's text is the code -/
def lamC (T : Tb) (np : Nat) (e : Ex) (fr : List Str) (F : LF) : Bool := argOk F.params (F.params.args.map (·.arg)) && decide ((F.params.args.map (·.arg)).length = np) && NdefX.nscB (F.params.args.map (·.arg) ++ fr) (F.params.args.map (·.arg)) fr F.scope
  && chkE T ⟨F.params.args.map (·.arg) ++ fr, F.scope, F.scope, true, false⟩ e F.body
def hideC (H : Hp) (cs : List Addr) : Hp := fun b => if b ∈ cs then none else H b
/-- what the captured cells hold -/
structure CelsAt (mu : List Addr) (H : Hp) (cl : List (Str × Addr)) (fr : List Str) (vs : List V) : Prop where
  len : vs.length = fr.length
  all : ∀ c, c ∈ cl.map (·.2) → c ∉ mu ∧ ∃ o u, H c = some (CelO c o) ∧ o.data = .cell u
  inj : ∀ x y c, cl.lookup x = some c → cl.lookup y = some c → x = y
  has : ∀ (i : Nat) (y : Str), fr[i]? = some y → ∃ c o u v, cl.lookup y = some c ∧ H c = some (CelO c o) ∧ o.data = .cell (some u) ∧ vs[i]? = some v ∧ RelV v u
mutual
/-- v is d: ca: where the cells stand; mu: the addresses whose objects may change -/
inductive Is (K : PySem.W.Frag) (EE : Ek) (ca mu : List Addr) : Hp → V → D → Prop
  | non {H : Hp} : Is K EE ca mu H .non .non
  | bl {H : Hp} (b : Bool) : Is K EE ca mu H (.bl b) (.bl b)
  | int {H : Hp} (i : Int) : Is K EE ca mu H (.int i) (.int i)
  | str {H : Hp} (x : Str) : Is K EE ca mu H (.str x) (.str x)
  | tup {H : Hp} {a : Addr} {vs : List V} {ds : List D} : SqTm K mu H a vs → IsL K EE ca mu H vs ds → Is K EE ca mu H (.ref a) (.tup ds)
  | lst {H : Hp} {a : Addr} {vs : List V} {ds : List D} : H a = some (.lst vs) → a ∉ mu → IsL K EE ca mu H vs ds → Is K EE ca mu H (.ref a) (.lst ds)
  | dic {H : Hp} {a : Addr} {kvs : List (Key × V)} {kds : List (Key × D)} : H a = some (.dK kvs) → a ∉ mu → IsK K EE ca mu H kvs kds → Is K EE ca mu H (.ref a) (.dic kds)
  | ro {H : Hp} {a : Addr} {vs : List V} {ds : List D} : SqLm K mu H a vs → IsL K EE ca mu H vs ds → Is K EE ca mu H (.ref a) (.ro ds)
  | cell {H : Hp} {a : Addr} {n : Nat} : ca[n]? = some a → Is K EE ca mu H (.ref a) (.cell n)
  | fn {H : Hp} (i : Nat) : (EE.TB.fn i).isSome = true → Is K EE ca mu H (.ref (EE.FA i)) (.fn i)
  | clo {H : Hp} {f : Addr} {F : LF} {np : Nat} {e : Ex} {fr : List Str} {vs : List V} {ds : List D} : H f = some (FnL f F) → f ∉ mu → H F.c = some (LamX.CodeO F.c F.qual) → F.c ∉ mu → lamC EE.TB np e fr F = true → CelsAt mu H F.cl fr vs →
      IsL K EE ca mu (hideC H (F.cl.map (·.2))) vs ds → Is K EE ca mu H (.ref f) (.clo np e ds)
inductive IsL (K : PySem.W.Frag) (EE : Ek) (ca mu : List Addr) : Hp → List V → List D → Prop
  | nil {H : Hp} : IsL K EE ca mu H [] []
  | cons {H : Hp} {v : V} {vs : List V} {d : D} {ds : List D} : Is K EE ca mu H v d → IsL K EE ca mu H vs ds → IsL K EE ca mu H (v :: vs) (d :: ds)
inductive IsK (K : PySem.W.Frag) (EE : Ek) (ca mu : List Addr) : Hp → List (Key × V) → List (Key × D) → Prop
  | nil {H : Hp} : IsK K EE ca mu H [] []
  | cons {H : Hp} {k : Key} {v : V} {vs : List (Key × V)} {d : D} {ds : List (Key × D)} : Is K EE ca mu H v d → IsK K EE ca mu H vs ds → IsK K EE ca mu H ((k, v) :: vs) ((k, d) :: ds)
end
/-- what may stand at an address whose object changes -/
def chg : HO → Bool
  | .lst _ | .dK _ | .ins _ _ _ => true
  | _ => false
def notTbl (o : HO) : Prop := ∀ ps, o ≠ .tbl ps
/-- what stands at a cell -/
def ObR (K : PySem.W.Frag) (EE : Ek) (ca mu : List Addr) (H : Hp) (a : Addr) : Ob → Prop
  | .lst xs => a ∈ mu ∧ ∃ vs, H a = some (.lst vs) ∧ IsL K EE ca mu H vs xs
  | .dct kds => a ∈ mu ∧ ∃ kvs, H a = some (.dK kvs) ∧ IsK K EE ca mu H kvs kds
  | .ins c fs => a ∈ mu ∧ ∃ dx vs, H a = some (.ins (EE.CA c) dx vs) ∧ vs.map (·.1) = fs.map (·.1) ∧ IsL K EE ca mu H (vs.map (·.2)) (fs.map (·.2))
  | .dead => True
structure Wd (K : PySem.W.Frag) (EE : Ek) (ca mu : List Addr) (H : Hp) (S : Sto) : Prop where
  len : ca.length = S.length
  nd : ca.Nodup
  ob : ∀ (n : Nat) (a : Addr) (o : Ob), ca[n]? = some a → S[n]? = some o → ObR K EE ca mu H a o
  tm : ∀ a, a ∈ mu → ∃ o, H a = some o ∧ chg o = true
  tb : LamX.Tabs EE.T H
  tc : ∀ a, a ∈ ca → ∃ o, H a = some o ∧ chg o = true
structure Ext (ca mu : List Addr) (H : Hp) (ca' mu' : List Addr) (H' : Hp) : Prop where
  pre : ∃ nw, ca' = ca ++ nw ∧ ∀ a ∈ nw, H a = none
  mus : ∀ a, a ∈ mu' → a ∈ mu ∨ H a = none
  kp : ∀ a o, H a = some o → notTbl o → ¬ (a ∈ ca ∧ a ∈ mu) → H' a = some o
  tr : ∀ a, H a ≠ none → H' a ≠ none
  fb : ∀ a, a ∈ mu → a ∉ ca → H a ≠ none → a ∈ mu'
section
variable {K : PySem.W.Frag} {EE : Ek} {ca mu ca' mu' ca2 mu2 : List Addr} {H H' H2 : Hp} {S : Sto}
theorem nt_lst (xs : List V) : notTbl (.lst xs) := fun _ z => nomatch z
theorem nt_tup (xs : List V) : notTbl (.tup xs) := fun _ z => nomatch z
theorem nt_dK (xs : List (Key × V)) : notTbl (.dK xs) := fun _ z => nomatch z
theorem nt_ext (φ : Heap → Prop) : notTbl (.ext φ) := fun _ z => nomatch z
theorem nt_frz (o : Obj) (u : HO) : notTbl (.frz o u) := fun _ z => nomatch z
theorem nt_ins (C dx : Addr) (fs : List (Str × V)) : notTbl (.ins C dx fs) := fun _ z => nomatch z
theorem nt_chg {o : HO} (h : chg o = true) : notTbl o := fun ps z => by rw [z] at h; cases h
theorem Ext.refl : Ext ca mu H ca mu H := ⟨⟨[], by simp, fun _ h => nomatch h⟩, fun _ h => .inl h, fun _ _ h _ _ => h, fun _ h => h, fun _ h _ _ => h⟩
theorem Ext.trans (x : Ext ca mu H ca' mu' H') (y : Ext ca' mu' H' ca2 mu2 H2) : Ext ca mu H ca2 mu2 H2 := by
  have back : ∀ a, H' a = none → H a = none := fun a h => by
    cases q : H a with
    | none => rfl
    | some o => exact absurd h (x.tr a (by rw [q]; simp))
  refine ⟨?_, fun a h => ?_, fun a o h t n => ?_, fun a h => y.tr a (x.tr a h), fun a h1 h2 h3 => y.fb a (x.fb a h1 h2 h3) (fun z => ?_) (x.tr a h3)⟩
  · obtain ⟨n1, e1, f1⟩ := x.pre
    obtain ⟨n2, e2, f2⟩ := y.pre
    refine ⟨n1 ++ n2, by rw [e2, e1, List.append_assoc], fun a ha => ?_⟩
    rcases List.mem_append.mp ha with h | h
    · exact f1 a h
    · exact back a (f2 a h)
  · rcases y.mus a h with h | h
    · exact x.mus a h
    · exact .inr (back a h)
  · refine y.kp a o (x.kp a o h t n) t fun ⟨h1, h2⟩ => n ?_
    obtain ⟨n1, e1, f1⟩ := x.pre
    rw [e1] at h1
    refine ⟨?_, ?_⟩
    · rcases List.mem_append.mp h1 with h1 | h1
      · exact h1
      · rw [f1 a h1] at h; cases h
    · rcases x.mus a h2 with h2 | h2
      · exact h2
      · rw [h2] at h; cases h
  · obtain ⟨n1, e1, f1⟩ := x.pre
    rw [e1] at z
    rcases List.mem_append.mp z with z | z
    · exact h2 z
    · exact h3 (f1 a z)
theorem Ext.out {a : Addr} {o : HO} (x : Ext ca mu H ca' mu' H') (h : H a = some o) (t : notTbl o) (n : a ∉ mu) : H' a = some o ∧ a ∉ mu' :=
  ⟨x.kp a o h t fun z => n z.2, fun z => (x.mus a z).elim n fun e => by rw [e] at h; cases h⟩
theorem Ext.rd {a : Addr} {u : HO} (x : Ext ca mu H ca' mu' H') (h : Rd H a u) (t : notTbl u) (n : a ∉ mu) : Rd H' a u ∧ a ∉ mu' := by
  rcases h with h | ⟨o, h⟩
  · exact ⟨.inl (x.out h t n).1, (x.out h t n).2⟩
  · exact ⟨.inr ⟨o, (x.out h (nt_frz _ _) n).1⟩, (x.out h (nt_frz _ _) n).2⟩
theorem Ext.cell {a : Addr} {n : Nat} (x : Ext ca mu H ca' mu' H') (h : ca[n]? = some a) : ca'[n]? = some a := by
  obtain ⟨nw, e, _⟩ := x.pre
  rw [e, List.getElem?_append_left (List.getElem?_eq_some_iff.mp h).1]
  exact h
theorem SqTm.ext {a : Addr} {xs : List V} (h : SqTm K mu H a xs) (x : Ext ca mu H ca' mu' H') : SqTm K mu' H' a xs := by
  rcases h with h | h
  · exact .inl (x.rd h.1 (nt_tup _) h.2)
  · exact .inr h
theorem SqLm.ext {a : Addr} {xs : List V} (h : SqLm K mu H a xs) (x : Ext ca mu H ca' mu' H') : SqLm K mu' H' a xs := by
  rcases h with h | h
  · exact .inl (x.rd h.1 (nt_lst _) h.2)
  · exact .inr h
theorem hideC_some {cs : List Addr} {a : Addr} {o : HO} (h : hideC H cs a = some o) : a ∉ cs ∧ H a = some o := by
  unfold hideC at h
  split at h
  · cases h
  · exact ⟨by assumption, h⟩
theorem hideC_out {cs : List Addr} {a : Addr} (h : a ∉ cs) : hideC H cs a = H a := by unfold hideC; rw [if_neg h]
theorem hideC_in {cs : List Addr} {a : Addr} (h : a ∈ cs) : hideC H cs a = none := by unfold hideC; rw [if_pos h]
theorem hideC_ne {cs : List Addr} {a : Addr} (h : hideC H cs a ≠ none) : a ∉ cs ∧ H a ≠ none := by
  unfold hideC at h
  split at h
  · exact absurd rfl h
  · exact ⟨by assumption, h⟩
theorem hideC_none {cs : List Addr} {a : Addr} (h : H a = none) : hideC H cs a = none := by unfold hideC; split <;> first | rfl | exact h
theorem Ext.hide (x : Ext ca mu H ca' mu' H') (cs : List Addr) : Ext ca mu (hideC H cs) ca' mu' (hideC H' cs) := by
  refine ⟨?_, fun a h => (x.mus a h).imp id hideC_none, fun a o h t n => ?_, fun a h => ?_, fun a h1 h2 h3 => x.fb a h1 h2 (hideC_ne h3).2⟩
  · obtain ⟨nw, e, f⟩ := x.pre
    exact ⟨nw, e, fun a h => hideC_none (f a h)⟩
  · obtain ⟨h1, h2⟩ := hideC_some h
    rw [hideC_out h1]
    exact x.kp a o h2 t n
  · obtain ⟨h1, h2⟩ := hideC_ne h
    rw [hideC_out h1]
    exact x.tr a h2
theorem CelsAt.ext {cl : List (Str × Addr)} {fr : List Str} {vs : List V} (h : CelsAt mu H cl fr vs) (x : Ext ca mu H ca' mu' H') : CelsAt mu' H' cl fr vs := by
  refine ⟨h.len, fun c hc => ?_, h.inj, fun i y e => ?_⟩
  · obtain ⟨n, o, u, e1, e2⟩ := h.all c hc
    exact ⟨(x.out e1 (nt_frz _ _) n).2, o, u, (x.out e1 (nt_frz _ _) n).1, e2⟩
  · obtain ⟨c, o, u, v, e1, e2, e3, e4, e5⟩ := h.has i y e
    exact ⟨c, o, u, v, e1, (x.out e2 (nt_frz _ _) (h.all c (List.mem_map.mpr ⟨(y, c), PySem.mem_of_lookup e1, rfl⟩)).1).1, e3, e4, e5⟩
mutual
theorem Is.ext {ca mu ca' mu' : List Addr} {H H' : Hp} (x : Ext ca mu H ca' mu' H') : ∀ (d : D) {v : V}, Is K EE ca mu H v d → Is K EE ca' mu' H' v d
  | .non, _, h => by cases h; exact .non
  | .bl b, _, h => by cases h; exact .bl b
  | .int i, _, h => by cases h; exact .int i
  | .str s, _, h => by cases h; exact .str s
  | .tup ds, _, h => by cases h with | tup h1 h2 => exact .tup (h1.ext x) (IsL.ext x ds h2)
  | .lst ds, _, h => by cases h with | lst h1 h2 h3 => exact .lst (x.out h1 (nt_lst _) h2).1 (x.out h1 (nt_lst _) h2).2 (IsL.ext x ds h3)
  | .dic ds, _, h => by cases h with | dic h1 h2 h3 => exact .dic (x.out h1 (nt_dK _) h2).1 (x.out h1 (nt_dK _) h2).2 (IsK.ext x ds h3)
  | .ro ds, _, h => by cases h with | ro h1 h2 => exact .ro (h1.ext x) (IsL.ext x ds h2)
  | .cell n, _, h => by cases h with | cell h => exact .cell (x.cell h)
  | .fn i, _, h => by cases h with | fn _ h => exact .fn i h
  | .clo np e ds, _, h => by cases h with | clo h1 h2 h3 h4 h5 h6 h7 => exact .clo (x.out h1 (nt_ext _) h2).1 (x.out h1 (nt_ext _) h2).2 (x.out h3 (nt_ext _) h4).1 (x.out h3 (nt_ext _) h4).2 h5 (h6.ext x) (IsL.ext (x.hide _) ds h7)
theorem IsL.ext {ca mu ca' mu' : List Addr} {H H' : Hp} (x : Ext ca mu H ca' mu' H') : ∀ (ds : List D) {vs : List V}, IsL K EE ca mu H vs ds → IsL K EE ca' mu' H' vs ds
  | [], _, h => by cases h; exact .nil
  | d :: ds, _, h => by cases h with | cons h1 h2 => exact .cons (Is.ext x d h1) (IsL.ext x ds h2)
theorem IsK.ext {ca mu ca' mu' : List Addr} {H H' : Hp} (x : Ext ca mu H ca' mu' H') : ∀ (ds : List (Key × D)) {vs : List (Key × V)}, IsK K EE ca mu H vs ds → IsK K EE ca' mu' H' vs ds
  | [], _, h => by cases h; exact .nil
  | (_, d) :: ds, _, h => by cases h with | cons h1 h2 => exact .cons (Is.ext x d h1) (IsK.ext x ds h2)
end
/-! ### lists of data -/
theorem IsL.length {vs : List V} {ds : List D} (h : IsL K EE ca mu H vs ds) : vs.length = ds.length := by
  induction ds generalizing vs with
  | nil => cases h; rfl
  | cons d ds ih => cases h with | cons h1 h2 => simp [ih h2]
theorem IsL.get {vs : List V} {ds : List D} (h : IsL K EE ca mu H vs ds) {i : Nat} {d : D} (e : ds[i]? = some d) : ∃ v, vs[i]? = some v ∧ Is K EE ca mu H v d := by
  induction ds generalizing vs i with
  | nil => simp at e
  | cons d' ds ih =>
    cases h with
    | cons h1 h2 =>
      cases i with
      | zero => simp at e; subst e; exact ⟨_, rfl, h1⟩
      | succ i => exact ih h2 (by simpa using e)
theorem IsL.get' {vs : List V} {ds : List D} (h : IsL K EE ca mu H vs ds) {i : Nat} {v : V} (e : vs[i]? = some v) : ∃ d, ds[i]? = some d ∧ Is K EE ca mu H v d := by
  induction ds generalizing vs i with
  | nil => cases h; simp at e
  | cons d' ds ih =>
    cases h with
    | cons h1 h2 =>
      cases i with
      | zero => simp at e; subst e; exact ⟨_, rfl, h1⟩
      | succ i => exact ih h2 (by simpa using e)
theorem IsL.append {vs us : List V} {ds es : List D} (h : IsL K EE ca mu H vs ds) (g : IsL K EE ca mu H us es) : IsL K EE ca mu H (vs ++ us) (ds ++ es) := by
  induction ds generalizing vs with
  | nil => cases h; exact g
  | cons d ds ih => cases h with | cons h1 h2 => exact .cons h1 (ih h2)
theorem IsL.take {vs : List V} {ds : List D} (n : Nat) (h : IsL K EE ca mu H vs ds) : IsL K EE ca mu H (vs.take n) (ds.take n) := by
  induction ds generalizing vs n with
  | nil => cases h; cases n <;> exact .nil
  | cons d ds ih =>
    cases h with
    | cons h1 h2 =>
      cases n with
      | zero => exact .nil
      | succ n => exact .cons h1 (ih n h2)
theorem IsL.drop {vs : List V} {ds : List D} (n : Nat) (h : IsL K EE ca mu H vs ds) : IsL K EE ca mu H (vs.drop n) (ds.drop n) := by
  induction ds generalizing vs n with
  | nil => cases h; cases n <;> exact .nil
  | cons d ds ih =>
    cases h with
    | cons h1 h2 =>
      cases n with
      | zero => exact .cons h1 h2
      | succ n => exact ih n h2
theorem IsL.set {vs : List V} {ds : List D} {v : V} {d : D} (n : Nat) (h : IsL K EE ca mu H vs ds) (g : Is K EE ca mu H v d) : IsL K EE ca mu H (vs.set n v) (ds.set n d) := by
  induction ds generalizing vs n with
  | nil => cases h; exact .nil
  | cons e ds ih =>
    cases h with
    | cons h1 h2 =>
      cases n with
      | zero => exact .cons g h2
      | succ n => exact .cons h1 (ih n h2)
theorem IsL.rep {vs : List V} {ds : List D} (n : Nat) (h : IsL K EE ca mu H vs ds) : IsL K EE ca mu H (List.replicate n vs).flatten (List.replicate n ds).flatten := by
  induction n with
  | zero => exact .nil
  | succ n ih => rw [List.replicate_succ, List.replicate_succ, List.flatten_cons, List.flatten_cons]; exact h.append ih
theorem IsL.cut {vs : List V} {ds : List D} (h : IsL K EE ca mu H vs ds) (lo hi : Option Int) : IsL K EE ca mu H (cutV vs lo hi) (cut ds lo hi) := by
  unfold cutV KI.cut
  rw [h.length]
  exact (h.drop _).take _
theorem IsL.nil_iff {vs : List V} {ds : List D} (h : IsL K EE ca mu H vs ds) : vs = [] ↔ ds = [] := by
  cases ds with
  | nil => cases h; simp
  | cons _ _ => cases h; simp
theorem IsL.at_ {vs : List V} {ds : List D} (h : IsL K EE ca mu H vs ds) {i : Int} {d : D} (e : atI ds i = some d) : ∃ v, atI vs i = some v ∧ Is K EE ca mu H v d := by
  unfold atI at e ⊢
  rw [h.length]
  cases q : ixN ds.length i with
  | none => rw [q] at e; cases e
  | some j => rw [q] at e; exact h.get e
/-! ### dicts -/
theorem IsK.length {vs : List (Key × V)} {ds : List (Key × D)} (h : IsK K EE ca mu H vs ds) : vs.length = ds.length := by
  induction ds generalizing vs with
  | nil => cases h; rfl
  | cons d ds ih => cases h with | cons h1 h2 => simp [ih h2]
/-! ### a new object -/
theorem Wd.tm0 {a : Addr} (w : Wd K EE ca mu H S) (h : a ∈ mu) : H a ≠ none := by
  obtain ⟨o, e, _⟩ := w.tm a h
  rw [e]
  simp
theorem Wd.tc0 {a : Addr} (w : Wd K EE ca mu H S) (h : a ∈ ca) : H a ≠ none := by
  obtain ⟨o, e, _⟩ := w.tc a h
  rw [e]
  simp
theorem Wd.fresh {p : Addr} (w : Wd K EE ca mu H S) (h : H p = none) : p ∉ mu ∧ p ∉ ca := ⟨fun z => w.tm0 z h, fun z => w.tc0 z h⟩
theorem Ext.new {p : Addr} {o : HO} (h : H p = none) : Ext ca mu H ca mu (upd H p o) :=
  ⟨⟨[], by simp, fun _ z => nomatch z⟩, fun _ z => .inl z, fun a u q _ _ => by rw [upd_ne (ne_of_none q h)]; exact q, fun a q => by
    by_cases e : a = p
    · subst e; exact absurd h q
    · rw [upd_ne e]; exact q, fun _ z _ _ => z⟩
theorem ObR.ext {a : Addr} {o : Ob} (x : Ext ca mu H ca' mu' H') (hm : a ∈ mu → a ∈ mu') (hh : a ∈ mu → H' a = H a) (h : ObR K EE ca mu H a o) : ObR K EE ca' mu' H' a o := by
  cases o with
  | lst xs => obtain ⟨h1, vs, h2, h3⟩ := h; exact ⟨hm h1, vs, by rw [hh h1]; exact h2, h3.ext x⟩
  | dct ks => obtain ⟨h1, vs, h2, h3⟩ := h; exact ⟨hm h1, vs, by rw [hh h1]; exact h2, h3.ext x⟩
  | ins c fs => obtain ⟨h1, dx, vs, h2, h3, h4⟩ := h; exact ⟨hm h1, dx, vs, by rw [hh h1]; exact h2, h3, h4.ext x⟩
  | dead => trivial
theorem tabs_new {T : List (Addr × Str)} {p : Addr} {o : HO} (t : LamX.Tabs T H) (h : H p = none) : LamX.Tabs T (upd H p o) := t.ext fun b u e => by rw [upd_ne (ne_of_none e h)]; exact e
theorem Wd.new {p : Addr} {o : HO} (w : Wd K EE ca mu H S) (h : H p = none) : Wd K EE ca mu (upd H p o) S := by
  have f := w.fresh h
  have ne : ∀ a, a ∈ mu → upd H p o a = H a := fun a ha => upd_ne fun e => f.1 (by subst e; exact ha)
  refine ⟨w.len, w.nd, fun n a o' h1 h2 => (w.ob n a o' h1 h2).ext (Ext.new h) id (ne a), fun a ha => ?_, tabs_new w.tb h, fun a ha => ?_⟩
  · rw [ne a ha]; exact w.tm a ha
  · rw [upd_ne (show a ≠ p from fun e => f.2 (by subst e; exact ha))]; exact w.tc a ha
/-- a change at an address of mu leaves the tables -/
theorem tabs_upd {p : Addr} {o : HO} (w : Wd K EE ca mu H S) (hp : p ∈ mu) : LamX.Tabs EE.T (upd H p o) := fun q hq => by
  obtain ⟨o0, e0, g0⟩ := w.tm p hp
  obtain ⟨ps, h1, h2, h3⟩ := w.tb q hq
  have n1 : q.1 ≠ p := fun e => by rw [e, e0] at h1; cases h1; cases g0
  refine ⟨ps, by rw [upd_ne n1]; exact h1, h2, fun pos cv hc => ?_⟩
  obtain ⟨c, e1, e2⟩ := h3 pos cv hc
  exact ⟨c, e1, by rw [upd_ne fun e => by rw [e, e0] at e2; cases e2; cases g0]; exact e2⟩
/-! ### an object that is nobody's changes; fewer addresses are kept out -/
section
variable {p : Addr} {o : HO}
theorem Rd.updOut {a : Addr} {u : HO} (hp : p ∈ mu) (h : Rd H a u ∧ a ∉ mu) : Rd (upd H p o) a u ∧ a ∉ mu := by
  have ne : a ≠ p := fun e => h.2 (by subst e; exact hp)
  refine ⟨?_, h.2⟩
  rcases h.1 with q | ⟨z, q⟩
  · exact .inl (by rw [upd_ne ne]; exact q)
  · exact .inr ⟨z, by rw [upd_ne ne]; exact q⟩
theorem at_out {a : Addr} {u : HO} (hp : p ∈ mu) (h : H a = some u) (n : a ∉ mu) : upd H p o a = some u := by rw [upd_ne fun e => n (by subst e; exact hp)]; exact h
theorem CelsAt.updOut {cl : List (Str × Addr)} {fr : List Str} {vs : List V} (hp : p ∈ mu) (h : CelsAt mu H cl fr vs) : CelsAt mu (upd H p o) cl fr vs := by
  refine ⟨h.len, fun c hc => ?_, h.inj, fun i y e => ?_⟩
  · obtain ⟨n, o, u, e1, e2⟩ := h.all c hc
    exact ⟨n, o, u, at_out hp e1 n, e2⟩
  · obtain ⟨c, o, u, v, e1, e2, e3, e4, e5⟩ := h.has i y e
    exact ⟨c, o, u, v, e1, at_out hp e2 (h.all c (List.mem_map.mpr ⟨(y, c), PySem.mem_of_lookup e1, rfl⟩)).1, e3, e4, e5⟩
theorem hideC_upd {cs : List Addr} (h : p ∉ cs) : hideC (upd H p o) cs = upd (hideC H cs) p o := by
  funext b
  unfold hideC upd
  by_cases e : b = p
  · subst e
    rw [if_neg h, if_pos rfl, if_pos rfl]
  · rw [if_neg e, if_neg e]
theorem CelsAt.out {cl : List (Str × Addr)} {fr : List Str} {vs : List V} (h : CelsAt mu H cl fr vs) (hp : p ∈ mu) : p ∉ cl.map (·.2) := fun z => (h.all p z).1 hp
mutual
theorem Is.updOut {H : Hp} (hp : p ∈ mu) : ∀ (d : D) {v : V}, Is K EE ca mu H v d → Is K EE ca mu (upd H p o) v d
  | .non, _, h => by cases h; exact .non
  | .bl b, _, h => by cases h; exact .bl b
  | .int i, _, h => by cases h; exact .int i
  | .str s, _, h => by cases h; exact .str s
  | .tup ds, _, h => by cases h with | tup h1 h2 => exact .tup (h1.imp (Rd.updOut hp) id) (IsL.updOut hp ds h2)
  | .lst ds, _, h => by cases h with | lst h1 h2 h3 => exact .lst (by rw [upd_ne fun e => h2 (by subst e; exact hp)]; exact h1) h2 (IsL.updOut hp ds h3)
  | .dic ds, _, h => by cases h with | dic h1 h2 h3 => exact .dic (by rw [upd_ne fun e => h2 (by subst e; exact hp)]; exact h1) h2 (IsK.updOut hp ds h3)
  | .ro ds, _, h => by cases h with | ro h1 h2 => exact .ro (h1.imp (Rd.updOut hp) id) (IsL.updOut hp ds h2)
  | .cell n, _, h => by cases h with | cell h => exact .cell h
  | .fn i, _, h => by cases h with | fn _ h => exact .fn i h
  | .clo np e ds, _, h => by cases h with | clo h1 h2 h3 h4 h5 h6 h7 => exact .clo (at_out hp h1 h2) h2 (at_out hp h3 h4) h4 h5 (h6.updOut hp) (by rw [hideC_upd (h6.out hp)]; exact IsL.updOut hp ds h7)
theorem IsL.updOut {H : Hp} (hp : p ∈ mu) : ∀ (ds : List D) {vs : List V}, IsL K EE ca mu H vs ds → IsL K EE ca mu (upd H p o) vs ds
  | [], _, h => by cases h; exact .nil
  | d :: ds, _, h => by cases h with | cons h1 h2 => exact .cons (Is.updOut hp d h1) (IsL.updOut hp ds h2)
theorem IsK.updOut {H : Hp} (hp : p ∈ mu) : ∀ (ds : List (Key × D)) {vs : List (Key × V)}, IsK K EE ca mu H vs ds → IsK K EE ca mu (upd H p o) vs ds
  | [], _, h => by cases h; exact .nil
  | (_, d) :: ds, _, h => by cases h with | cons h1 h2 => exact .cons (Is.updOut hp d h1) (IsK.updOut hp ds h2)
end
theorem CelsAt.mono {cl : List (Str × Addr)} {fr : List Str} {vs : List V} (hp : ∀ a, a ∈ mu' → a ∈ mu) (h : CelsAt mu H cl fr vs) : CelsAt mu' H cl fr vs :=
  ⟨h.len, fun c hc => let ⟨n, r⟩ := h.all c hc; ⟨fun z => n (hp c z), r⟩, h.inj, h.has⟩
mutual
theorem Is.mono {H : Hp} (hp : ∀ a, a ∈ mu' → a ∈ mu) : ∀ (d : D) {v : V}, Is K EE ca mu H v d → Is K EE ca mu' H v d
  | .non, _, h => by cases h; exact .non
  | .bl b, _, h => by cases h; exact .bl b
  | .int i, _, h => by cases h; exact .int i
  | .str s, _, h => by cases h; exact .str s
  | .tup ds, _, h => by cases h with | tup h1 h2 => exact .tup (h1.imp (fun z => ⟨z.1, fun q => z.2 (hp _ q)⟩) id) (IsL.mono hp ds h2)
  | .lst ds, _, h => by cases h with | lst h1 h2 h3 => exact .lst h1 (fun q => h2 (hp _ q)) (IsL.mono hp ds h3)
  | .dic ds, _, h => by cases h with | dic h1 h2 h3 => exact .dic h1 (fun q => h2 (hp _ q)) (IsK.mono hp ds h3)
  | .ro ds, _, h => by cases h with | ro h1 h2 => exact .ro (h1.imp (fun z => ⟨z.1, fun q => z.2 (hp _ q)⟩) id) (IsL.mono hp ds h2)
  | .cell n, _, h => by cases h with | cell h => exact .cell h
  | .fn i, _, h => by cases h with | fn _ h => exact .fn i h
  | .clo np e ds, _, h => by cases h with | clo h1 h2 h3 h4 h5 h6 h7 => exact .clo h1 (fun q => h2 (hp _ q)) h3 (fun q => h4 (hp _ q)) h5 (h6.mono hp) (IsL.mono hp ds h7)
theorem IsL.mono {H : Hp} (hp : ∀ a, a ∈ mu' → a ∈ mu) : ∀ (ds : List D) {vs : List V}, IsL K EE ca mu H vs ds → IsL K EE ca mu' H vs ds
  | [], _, h => by cases h; exact .nil
  | d :: ds, _, h => by cases h with | cons h1 h2 => exact .cons (Is.mono hp d h1) (IsL.mono hp ds h2)
theorem IsK.mono {H : Hp} (hp : ∀ a, a ∈ mu' → a ∈ mu) : ∀ (ds : List (Key × D)) {vs : List (Key × V)}, IsK K EE ca mu H vs ds → IsK K EE ca mu' H vs ds
  | [], _, h => by cases h; exact .nil
  | (_, d) :: ds, _, h => by cases h with | cons h1 h2 => exact .cons (Is.mono hp d h1) (IsK.mono hp ds h2)
end
theorem Wd.updOut (w : Wd K EE ca mu H S) (hp : p ∈ mu) (hc : p ∉ ca) (ho : chg o = true) : Wd K EE ca mu (upd H p o) S := by
  have ne : ∀ a, a ∈ ca → a ≠ p := fun a h e => hc (by subst e; exact h)
  refine ⟨w.len, w.nd, fun n a b h1 h2 => ?_, fun a ha => ?_, tabs_upd w hp, fun a ha => ?_⟩
  · have hb := w.ob n a b h1 h2
    have na := ne a (List.mem_of_getElem? h1)
    cases b with
    | lst xs => obtain ⟨q1, vs, q2, q3⟩ := hb; exact ⟨q1, vs, by rw [upd_ne na]; exact q2, IsL.updOut hp _ q3⟩
    | dct xs => obtain ⟨q1, vs, q2, q3⟩ := hb; exact ⟨q1, vs, by rw [upd_ne na]; exact q2, IsK.updOut hp _ q3⟩
    | ins c xs => obtain ⟨q1, dx, vs, q2, q3, q4⟩ := hb; exact ⟨q1, dx, vs, by rw [upd_ne na]; exact q2, q3, IsL.updOut hp _ q4⟩
    | dead => trivial
  · by_cases e : a = p
    · exact ⟨o, by rw [e, upd_same], ho⟩
    · rw [upd_ne e]; exact w.tm a ha
  · rw [upd_ne (ne a ha)]; exact w.tc a ha
theorem Ext.updOut (x : Ext ca mu H ca' mu' H') (hp : H p = none) : Ext ca mu H ca' mu' (upd H' p o) :=
  ⟨x.pre, x.mus, fun a u h t n => by rw [upd_ne (ne_of_none h hp)]; exact x.kp a u h t n, fun a h => by
    by_cases e : a = p
    · rw [e, upd_same]; simp
    · rw [upd_ne e]; exact x.tr a h, x.fb⟩
/-- p is kept out no longer -/
theorem Ext.drop (x : Ext ca mu H ca' mu' H') (hp : H p = none) : Ext ca mu H ca' (mu'.filter (· ≠ p)) H' :=
  ⟨x.pre, fun a h => x.mus a (List.mem_filter.mp h).1, x.kp, x.tr, fun a h1 h2 h3 => List.mem_filter.mpr ⟨x.fb a h1 h2 h3, by simpa using fun e : a = p => h3 (by rw [e]; exact hp)⟩⟩
theorem Wd.drop (w : Wd K EE ca mu H S) (hc : p ∉ ca) : Wd K EE ca (mu.filter (· ≠ p)) H S := by
  have sub : ∀ a, a ∈ mu.filter (· ≠ p) → a ∈ mu := fun a h => (List.mem_filter.mp h).1
  refine ⟨w.len, w.nd, fun n a b h1 h2 => ?_, fun a ha => w.tm a (sub a ha), w.tb, w.tc⟩
  have hb := w.ob n a b h1 h2
  have na : a ≠ p := fun e => hc (by subst e; exact List.mem_of_getElem? h1)
  have mm : a ∈ mu → a ∈ mu.filter (· ≠ p) := fun q1 => List.mem_filter.mpr ⟨q1, by simpa using na⟩
  cases b with
  | lst xs => obtain ⟨q1, vs, q2, q3⟩ := hb; exact ⟨mm q1, vs, q2, IsL.mono sub _ q3⟩
  | dct xs => obtain ⟨q1, vs, q2, q3⟩ := hb; exact ⟨mm q1, vs, q2, IsK.mono sub _ q3⟩
  | ins c xs => obtain ⟨q1, dx, vs, q2, q3, q4⟩ := hb; exact ⟨mm q1, dx, vs, q2, q3, IsL.mono sub _ q4⟩
  | dead => trivial
end
/-! ### environments -/
structure RE (K : PySem.W.Frag) (EE : Ek) (ca mu : List Addr) (H : Hp) (σ : L2.St) (ρ : Env) : Prop where
  len : σ.length = ρ.length
  at_ : ∀ (i : Nat) (d : D), ρ[i]? = some (some d) → ∃ v, σ[i]? = some (some v) ∧ Is K EE ca mu H v d
theorem RE.ext {σ : L2.St} {ρ : Env} (h : RE K EE ca mu H σ ρ) (x : Ext ca mu H ca' mu' H') : RE K EE ca' mu' H' σ ρ :=
  ⟨h.len, fun i d e => let ⟨v, h1, h2⟩ := h.at_ i d e; ⟨v, h1, h2.ext x⟩⟩
theorem RE.set {σ : L2.St} {ρ : Env} {v : V} {d : D} (h : RE K EE ca mu H σ ρ) (i : Nat) (g : Is K EE ca mu H v d) : RE K EE ca mu H (σ.set i (some v)) (ρ.set i (some d)) := by
  refine ⟨by simp [h.len], fun j e q => ?_⟩
  by_cases hj : i = j
  · subst hj
    by_cases hl : i < ρ.length
    · rw [List.getElem?_set_self hl] at q
      cases q
      exact ⟨v, List.getElem?_set_self (by rw [h.len]; exact hl), g⟩
    · rw [List.getElem?_eq_none (by simpa using hl)] at q; cases q
  · rw [List.getElem?_set_ne hj] at q
    rw [List.getElem?_set_ne hj]
    exact h.at_ j e q
theorem wipeE_length (ρ : Env) : ∀ vs : List Nat, (wipeE ρ vs).length = ρ.length
  | [] => rfl
  | v :: vs => by unfold wipeE; rw [List.length_set, wipeE_length ρ vs]
theorem RE.wipe {σ : L2.St} {ρ : Env} (h : RE K EE ca mu H σ ρ) : ∀ vs : List Nat, RE K EE ca mu H (wipe σ vs) (wipeE ρ vs)
  | [] => h
  | v :: vs => by
    have ih := RE.wipe h vs
    refine ⟨by rw [wipe_length, wipeE_length, h.len], fun j e q => ?_⟩
    unfold wipeE at q
    unfold L2.wipe
    by_cases hj : v = j
    · subst hj
      by_cases hl : v < (wipeE ρ vs).length
      · rw [List.getElem?_set_self hl] at q; cases q
      · rw [List.getElem?_eq_none (by simpa using hl)] at q; cases q
    · rw [List.getElem?_set_ne hj] at q
      rw [List.getElem?_set_ne hj]
      exact ih.at_ j e q
end
/-! ### comparisons -/
mutual
def toP : D → PyData
  | .non => .none
  | .bl b => .bool b
  | .int i => .int i
  | .str s => .str s
  | .tup xs => .tuple (toPL xs)
  | .lst xs => .list (toPL xs)
  | _ => .none
def toPL : List D → List PyData
  | [] => []
  | x :: xs => toP x :: toPL xs
end
mutual
theorem eqv_toP : ∀ (k : Nat) (x y : D), shp k x = true → shp k y = true → PyData.eqv (toP x) (toP y) = eqD x y
  | k, .non, y, _, h => by cases y <;> first | rfl | (cases k <;> cases h)
  | k, .bl b, y, _, h => by cases y <;> first | rfl | (cases k <;> cases h)
  | k, .int i, y, _, h => by cases y <;> first | rfl | (cases k <;> cases h)
  | k, .str s, y, _, h => by cases y <;> first | rfl | (cases k <;> cases h)
  | 0, .tup xs, y, h, _ => by cases h
  | k + 1, .tup xs, y, h, h' => by
    cases y with
    | tup ys => exact eqv_toPL k xs ys h h'
    | _ => first | rfl | cases h'
  | 0, .lst xs, y, h, _ => by cases h
  | k + 1, .lst xs, y, h, h' => by
    cases y with
    | lst ys => exact eqv_toPL k xs ys h h'
    | _ => first | rfl | cases h'
  | k, .dic _, _, h, _ => by cases k <;> cases h
  | k, .ro _, _, h, _ => by cases k <;> cases h
  | k, .cell _, _, h, _ => by cases k <;> cases h
  | k, .fn _, _, h, _ => by cases k <;> cases h
  | k, .clo _ _ _, _, h, _ => by cases k <;> cases h
theorem eqv_toPL : ∀ (k : Nat) (xs ys : List D), shpL k xs = true → shpL k ys = true → PyData.eqvAll (toPL xs) (toPL ys) = eqL xs ys
  | _, [], [], _, _ => rfl
  | _, [], _ :: _, _, _ => rfl
  | _, _ :: _, [], _, _ => rfl
  | k, x :: xs, y :: ys, h, h' => by
    have h1 := Bool.and_eq_true_iff.mp (show (shp k x && shpL k xs) = true from h)
    have h2 := Bool.and_eq_true_iff.mp (show (shp k y && shpL k ys) = true from h')
    show (PyData.eqv (toP x) (toP y) && PyData.eqvAll (toPL xs) (toPL ys)) = (eqD x y && eqL xs ys)
    rw [eqv_toP k x y h1.1 h2.1, eqv_toPL k xs ys h1.2 h2.2]
end
mutual
theorem lay_toP : ∀ (k : Nat) (x : D), shp k x = true → (toP x).canLay0 = true ∧ (toP x).depth ≤ k
  | k, .non, _ => by constructor <;> simp [toP, PyData.canLay0, PyData.depth]
  | k, .bl b, _ => by constructor <;> simp [toP, PyData.canLay0, PyData.depth]
  | k, .int i, _ => by constructor <;> simp [toP, PyData.canLay0, PyData.depth]
  | k, .str s, h => by
    refine ⟨?_, by simp [toP, PyData.depth]⟩
    have h' : (s.cps.all (· < 0x110000)) = true := by cases k <;> exact h
    show PyData.strOk s = true
    exact h'
  | 0, .tup xs, h => by cases h
  | k + 1, .tup xs, h => by
    obtain ⟨h1, h2⟩ := lay_toPL k xs h
    exact ⟨by simpa [toP, PyData.canLay0] using h1, by simp only [toP, PyData.depth]; omega⟩
  | 0, .lst xs, h => by cases h
  | k + 1, .lst xs, h => by
    obtain ⟨h1, h2⟩ := lay_toPL k xs h
    exact ⟨by simpa [toP, PyData.canLay0] using h1, by simp only [toP, PyData.depth]; omega⟩
  | k, .dic _, h => by cases k <;> cases h
  | k, .ro _, h => by cases k <;> cases h
  | k, .cell _, h => by cases k <;> cases h
  | k, .fn _, h => by cases k <;> cases h
  | k, .clo _ _ _, h => by cases k <;> cases h
theorem lay_toPL : ∀ (k : Nat) (xs : List D), shpL k xs = true → PyData.canLayAll0 (toPL xs) = true ∧ PyData.depthAll (toPL xs) ≤ k
  | k, [], _ => by constructor <;> simp [toPL, PyData.canLayAll0, PyData.depthAll]
  | k, x :: xs, h => by
    have h1 := Bool.and_eq_true_iff.mp (show (shp k x && shpL k xs) = true from h)
    obtain ⟨a1, a2⟩ := lay_toP k x h1.1
    obtain ⟨b1, b2⟩ := lay_toPL k xs h1.2
    refine ⟨by simp only [toPL, PyData.canLayAll0, a1, b1, Bool.and_self], by simp only [toPL, PyData.depthAll]; omega⟩
end
theorem shaped_toP {x : D} (h : shp 64 x = true) : SeqAt.shaped (toP x) = true := by
  obtain ⟨h1, h2⟩ := lay_toP 64 x h
  unfold SeqAt.shaped
  rw [h1, decide_eq_true h2]
  rfl
mutual
theorem shp_succ : ∀ (k : Nat) (x : D), shp k x = true → shp (k + 1) x = true
  | k, .non, _ => rfl
  | k, .bl b, _ => rfl
  | k, .int i, _ => rfl
  | k, .str s, h => by cases k <;> exact h
  | 0, .tup xs, h => by cases h
  | k + 1, .tup xs, h => shpL_succ k xs h
  | 0, .lst xs, h => by cases h
  | k + 1, .lst xs, h => shpL_succ k xs h
  | k, .dic _, h => by cases k <;> cases h
  | k, .ro _, h => by cases k <;> cases h
  | k, .cell _, h => by cases k <;> cases h
  | k, .fn _, h => by cases k <;> cases h
  | k, .clo _ _ _, h => by cases k <;> cases h
theorem shpL_succ : ∀ (k : Nat) (xs : List D), shpL k xs = true → shpL (k + 1) xs = true
  | k, [], _ => rfl
  | k, x :: xs, h => by
    have h1 := Bool.and_eq_true_iff.mp (show (shp k x && shpL k xs) = true from h)
    show (shp (k + 1) x && shpL (k + 1) xs) = true
    rw [shp_succ k x h1.1, shpL_succ k xs h1.2]
    rfl
end
section
variable {K : PySem.W.Frag} {EE : Ek} {ca mu : List Addr} {H : Hp}
mutual
theorem Is.dp : ∀ (k : Nat) (d : D) {v : V}, shp k d = true → Is K EE ca mu H v d → Dp K H v (toP d)
  | k, .non, _, _, h => by cases h; exact .non
  | k, .bl b, _, _, h => by cases h; exact .bl b
  | k, .int i, _, _, h => by cases h; exact .int i
  | k, .str s, _, _, h => by cases h; exact .str s
  | 0, .tup xs, _, s, h => by cases s
  | k + 1, .tup xs, _, s, h => by cases h with | tup h1 h2 => exact .tup h1.sq (IsL.dp k xs s h2)
  | 0, .lst xs, _, s, h => by cases s
  | k + 1, .lst xs, _, s, h => by cases h with | lst h1 _ h2 => exact .lst (SqL.of h1) (IsL.dp k xs s h2)
  | k, .dic _, _, s, _ => by cases k <;> cases s
  | k, .ro _, _, s, _ => by cases k <;> cases s
  | k, .cell _, _, s, _ => by cases k <;> cases s
  | k, .fn _, _, s, _ => by cases k <;> cases s
  | k, .clo _ _ _, _, s, _ => by cases k <;> cases s
theorem IsL.dp : ∀ (k : Nat) (ds : List D) {vs : List V}, shpL k ds = true → IsL K EE ca mu H vs ds → DpAll K H vs (toPL ds)
  | k, [], _, _, h => by cases h; exact .nil
  | k, d :: ds, _, s, h => by
    have h1 := Bool.and_eq_true_iff.mp (show (shp k d && shpL k ds) = true from s)
    cases h with | cons a b => exact .cons (Is.dp k d h1.1 a) (IsL.dp k ds h1.2 b)
end
end
end KI


set_option Elab.async false
set_option linter.all false
set_option maxRecDepth 100000
set_option autoImplicit false
set_option maxHeartbeats 1000000
/-! What operators, subscripts and built-in functions do, by plain data. -/
namespace KI
open PySem PySem.Spec PyProof.Rows L2

/-- an exception in the heap: XA: where the classes stand -/
def XnR (K : PySem.W.Frag) (EE : Ek) (XA : Nat → Addr) (ca mu : List Addr) (H : Hp) (cls : Value) (dd : Option Addr) (x : Xn) : Prop :=
  cls = .ref (XA x.cls) ∧ match x.fs with
    | [] => dd = none
    | fs => ∃ d vs, dd = some d ∧ d ∉ mu ∧ H d = some (.xd vs) ∧ vs.map (·.1) = fs.map (·.1) ∧ IsL K EE ca mu H (vs.map (·.2)) (fs.map (·.2))
/-- what is wanted behind a result -/
def okR (K : PySem.W.Frag) (EE : Ek) (XA : Nat → Addr) {α β : Type} (rel : List Addr → List Addr → Hp → β → α → Prop) (ca mu : List Addr) (H : Hp) (r : Res α) (Q : β → Hp → Prop) (W : XK) : Prop := match r with
  | .ok a S => ∀ b ca' mu' H', Ext ca mu H ca' mu' H' → Wd K EE ca' mu' H' S → rel ca' mu' H' b a → Q b H'
  | .exc x S => ∀ cls dd ca' mu' H', Ext ca mu H ca' mu' H' → Wd K EE ca' mu' H' S → XnR K EE XA ca' mu' H' cls dd x → W cls dd H'
  | .no => False
section
variable {K : PySem.W.Frag} {EE : Ek} {XA : Nat → Addr} {ca mu ca' mu' ca2 mu2 : List Addr} {H H' H2 : Hp} {S : Sto} {α β α' β' : Type} {rel : List Addr → List Addr → Hp → β → α → Prop} {rel' : List Addr → List Addr → Hp → β' → α' → Prop}
theorem okR.rebase {r : Res α} {Q : β → Hp → Prop} {W : XK} (h : okR K EE XA rel ca mu H r Q W) (x : Ext ca mu H ca' mu' H') : okR K EE XA rel ca' mu' H' r Q W := by
  cases r with
  | ok a S => exact fun b _ _ _ e w i => h b _ _ _ (x.trans e) w i
  | exc y S => exact fun c d _ _ _ e w i => h c d _ _ _ (x.trans e) w i
  | no => exact h
theorem okR.bind {r : Res α} {f : α → Sto → Res α'} {Q : β' → Hp → Prop} {W : XK} {R : β → Hp → Prop} (h : okR K EE XA rel' ca mu H (r.bind f) Q W)
    (k : ∀ a S b ca' mu' H', r = .ok a S → Ext ca mu H ca' mu' H' → Wd K EE ca' mu' H' S → rel ca' mu' H' b a → okR K EE XA rel' ca' mu' H' (f a S) Q W → R b H') : okR K EE XA rel ca mu H r R W := by
  cases r with
  | ok a S => exact fun b _ _ _ e w i => k a S b _ _ _ rfl e w i (okR.rebase h e)
  | exc y S => exact h
  | no => exact h
theorem okR.imp {r : Res α} {Q R : β → Hp → Prop} {W : XK} (h : okR K EE XA rel ca mu H r Q W) (k : ∀ a S b ca' mu' H', r = .ok a S → Ext ca mu H ca' mu' H' → Wd K EE ca' mu' H' S → rel ca' mu' H' b a → Q b H' → R b H') : okR K EE XA rel ca mu H r R W := by
  cases r with
  | ok a S => exact fun b _ _ _ e w i => k a S b _ _ _ rfl e w i (h b _ _ _ e w i)
  | exc y S => exact h
  | no => exact h
end
abbrev IsR (K : PySem.W.Frag) (EE : Ek) : List Addr → List Addr → Hp → V → D → Prop := fun ca mu H v d => Is K EE ca mu H v d
abbrev IsLR (K : PySem.W.Frag) (EE : Ek) : List Addr → List Addr → Hp → List V → List D → Prop := fun ca mu H v d => IsL K EE ca mu H v d
section
variable {K : PySem.W.Frag} {EE : Ek} {XA : Nat → Addr} {ca mu ca' mu' : List Addr} {H H' : Hp} {S : Sto} {Q : VK} {W : XK}
theorem got {d : D} {v : V} (w : Wd K EE ca mu H S) (i : Is K EE ca mu H v d) (h : okR K EE XA (IsR K EE) ca mu H (.ok d S) Q W) : Q v H := h v ca mu H Ext.refl w i
theorem newL {ds : List D} {vs : List V} (w : Wd K EE ca mu H S) (i : IsL K EE ca mu H vs ds) (h : okR K EE XA (IsR K EE) ca mu H (.ok (.lst ds) S) Q W) : ∀ p, H p = none → Q (.ref p) (upd H p (.lst vs)) :=
  fun p hp => h _ ca mu _ (Ext.new hp) (w.new hp) (.lst upd_same (w.fresh hp).1 (i.ext (Ext.new hp)))
theorem newT {ds : List D} {vs : List V} (w : Wd K EE ca mu H S) (i : IsL K EE ca mu H vs ds) (h : okR K EE XA (IsR K EE) ca mu H (.ok (.tup ds) S) Q W) : ∀ p, H p = none → Q (.ref p) (upd H p (.tup vs)) :=
  fun p hp => h _ ca mu _ (Ext.new hp) (w.new hp) (.tup (.inl ⟨.inl upd_same, (w.fresh hp).1⟩) (i.ext (Ext.new hp)))
theorem newD {ds : List (Key × D)} {vs : List (Key × V)} (w : Wd K EE ca mu H S) (i : IsK K EE ca mu H vs ds) (h : okR K EE XA (IsR K EE) ca mu H (.ok (.dic ds) S) Q W) : ∀ p, H p = none → Q (.ref p) (upd H p (.dK vs)) :=
  fun p hp => h _ ca mu _ (Ext.new hp) (w.new hp) (.dic upd_same (w.fresh hp).1 (i.ext (Ext.new hp)))
/-! ### + - * // % ** -/
theorem LN_eq : sizeLine = LN := sizeLine_eq
def rAddB : R2 := fun x y H Q => ∃ k i, x = .bl k ∧ y = .int i ∧ Q (.int ((if k = true then (1 : Int) else 0) + i)) H
theorem op_add_bi {X : Cx} : OpR X (binaryOp .Add) rAddB := by
  intro pins s σ H x y v u Q I rx ry h
  obtain ⟨k, i, rfl, rfl, q⟩ := h
  obtain ⟨t, rfl⟩ := ry
  cases rx
  exact PySem.IntBool.add_bool_int ⟨.int ((if k = true then (1 : Int) else 0) + i), H, I.tok _, ⟨_, rfl⟩, q⟩
def rAddA (K : PySem.W.Frag) : R2 := fun x y H Q => rAddB x y H Q ∨ (rI0 fun i j => .int (i + j)) x y H Q ∨ (∃ i j, x = .str i ∧ y = .str j ∧ i.length + j.length ≤ sizeLine ∧ Q (.str (i ++ j)) H) ∨ rCatA K x y H Q ∨ rCat x y H Q
theorem op_addA {X : Cx} : OpR X (binaryOp .Add) (rAddA X.K) := op_add_bi.or <| op_add.or (op_add_str.or (op_catA.or op_cat))
theorem add_ok {d e : D} {x y : V} (w : Wd K EE ca mu H S) (hd : Is K EE ca mu H x d) (he : Is K EE ca mu H y e) (h : okR K EE XA (IsR K EE) ca mu H (lift (binD .add d e) S) Q W) : rAddA K x y H Q := by
  cases hd with
  | int i =>
    cases he with
    | int j => exact .inr (.inl ⟨i, j, rfl, rfl, got w (.int _) h⟩)
    | _ => exact h.elim
  | bl k =>
    cases he with
    | int j => exact .inl ⟨k, j, rfl, rfl, got w (.int _) h⟩
    | _ => exact h.elim
  | str a =>
    cases he with
    | str b =>
      simp only [binD] at h
      split at h
      · rename_i hz
        exact .inr (.inr (.inl ⟨a, b, rfl, rfl, by rw [LN_eq]; exact hz, got w (.str _) h⟩))
      · exact h.elim
    | _ => exact h.elim
  | @tup _ a vs ds h1 h2 =>
    cases he with
    | @tup _ b us es g1 g2 =>
      simp only [binD] at h
      split at h
      · rename_i hz
        refine .inr (.inr (.inr (.inl ⟨a, b, vs, us, rfl, rfl, h1.sq, g1.sq, by rw [LN_eq, h2.length, g2.length]; exact hz, fun e => ?_, fun e1 e => ?_, fun e1 e2 => newT w (h2.append g2) h⟩)))
        · have e' := h2.nil_iff.mp e
          subst e'
          exact got w (.tup g1 g2) h
        · have e' := g2.nil_iff.mp e
          subst e'
          rw [List.append_nil] at h
          exact got w (.tup h1 h2) h
      · exact h.elim
    | _ => exact h.elim
  | @lst _ a vs ds h1 h2 h3 =>
    cases he with
    | @lst _ b us es g1 g2 g3 =>
      simp only [binD] at h
      split at h
      · rename_i hz
        exact .inr (.inr (.inr (.inr ⟨a, b, vs, us, rfl, rfl, h1, g1, by rw [LN_eq, h3.length, g3.length]; exact hz, newL w (h3.append g3) h⟩)))
      · exact h.elim
    | _ => exact h.elim
  | _ => exact h.elim
theorem sub_ok {d e : D} {x y : V} (w : Wd K EE ca mu H S) (hd : Is K EE ca mu H x d) (he : Is K EE ca mu H y e) (h : okR K EE XA (IsR K EE) ca mu H (lift (binD .sub d e) S) Q W) : (rI0 fun i j => V.int (i - j)) x y H Q := by
  cases hd with
  | int i =>
    cases he with
    | int j => exact ⟨i, j, rfl, rfl, got w (.int _) h⟩
    | _ => exact h.elim
  | _ => exact h.elim
def rMulA (K : PySem.W.Frag) : R2 := fun x y H Q => (rI CMul fun i j => .int (i * j)) x y H Q ∨ rRep x y H Q ∨ rRepT K x y H Q
theorem op_mulA {X : Cx} : OpR X (binaryOp .Mult) (rMulA X.K) := op_mul.or (op_rep.or op_repT)
theorem mulOk_ok {i j : Int} (h : mulOk i j = true) : CMul i j := by
  unfold mulOk at h
  rcases Bool.or_eq_true_iff.mp h with h | h
  · exact .inl (of_decide_eq_true h)
  · exact .inr (of_decide_eq_true h)
theorem mul_ok {d e : D} {x y : V} (w : Wd K EE ca mu H S) (hd : Is K EE ca mu H x d) (he : Is K EE ca mu H y e) (h : okR K EE XA (IsR K EE) ca mu H (lift (binD .mul d e) S) Q W) : rMulA K x y H Q := by
  cases hd with
  | int i =>
    cases he with
    | int j =>
      simp only [binD] at h
      split at h
      · rename_i hz
        exact .inl ⟨i, j, rfl, rfl, mulOk_ok hz, got w (.int _) h⟩
      · exact h.elim
    | _ => exact h.elim
  | @tup _ a vs ds h1 h2 =>
    cases he with
    | int k =>
      simp only [binD] at h
      split at h
      · rename_i hz
        obtain ⟨z1, z2, z3, z4⟩ := hz
        refine .inr (.inr ⟨a, k, vs, rfl, rfl, h1.sq, fun e => z1 ?_, z2, z3, by rw [h2.length]; exact z4, newT w (h2.rep _) h⟩)
        rw [h2.nil_iff.mp e]
        rfl
      · exact h.elim
    | _ => exact h.elim
  | @lst _ a vs ds h1 h2 h3 =>
    cases he with
    | int k =>
      simp only [binD] at h
      split at h
      · rename_i hz
        obtain ⟨z1, z2, z3⟩ := hz
        exact .inr (.inl ⟨a, k, vs, rfl, rfl, h1, z1, z2, by rw [LN_eq, h3.length]; exact z3, newL w (h3.rep _) h⟩)
      · exact h.elim
    | _ => exact h.elim
  | _ => exact h.elim
theorem fdiv_ok {d e : D} {x y : V} (w : Wd K EE ca mu H S) (hd : Is K EE ca mu H x d) (he : Is K EE ca mu H y e) (h : okR K EE XA (IsR K EE) ca mu H (lift (binD .fdiv d e) S) Q W) : (rI CDivN fun i j => V.int (i.fdiv j)) x y H Q := by
  cases hd with
  | int i =>
    cases he with
    | int j =>
      simp only [binD] at h
      split at h
      · rename_i hz
        exact ⟨i, j, rfl, rfl, hz, got w (.int _) h⟩
      · exact h.elim
    | _ => exact h.elim
  | _ => exact h.elim
theorem mod_ok {d e : D} {x y : V} (w : Wd K EE ca mu H S) (hd : Is K EE ca mu H x d) (he : Is K EE ca mu H y e) (h : okR K EE XA (IsR K EE) ca mu H (lift (binD .mod d e) S) Q W) : (rI (fun _ j => j ≠ 0) fun i j => V.int (i.fmod j)) x y H Q := by
  cases hd with
  | int i =>
    cases he with
    | int j =>
      simp only [binD] at h
      split at h
      · rename_i hz
        exact ⟨i, j, rfl, rfl, hz, got w (.int _) h⟩
      · exact h.elim
    | _ => exact h.elim
  | _ => exact h.elim
theorem pow_ok {d e : D} {x y : V} (w : Wd K EE ca mu H S) (hd : Is K EE ca mu H x d) (he : Is K EE ca mu H y e) (h : okR K EE XA (IsR K EE) ca mu H (lift (binD .pow d e) S) Q W) : (rI CPow fun i j => V.int (i ^ j.toNat)) x y H Q := by
  cases hd with
  | int i =>
    cases he with
    | int j =>
      simp only [binD] at h
      split at h
      · rename_i hz
        exact ⟨i, j, rfl, rfl, hz, got w (.int _) h⟩
      · exact h.elim
    | _ => exact h.elim
  | _ => exact h.elim
def rBin (K : PySem.W.Frag) : Bop → R2
  | .add => rAddA K
  | .sub => rI0 fun i j => .int (i - j)
  | .mul => rMulA K
  | .fdiv => rI CDivN fun i j => .int (i.fdiv j)
  | .mod => rI (fun _ j => j ≠ 0) fun i j => .int (i.fmod j)
  | .pow => rI CPow fun i j => .int (i ^ j.toNat)
theorem op_bin {X : Cx} (o : Bop) : OpR X (binaryOp (opOf o)) (rBin X.K o) := by
  cases o
  · exact op_addA
  · exact op_sub
  · exact op_mulA
  · exact op_fdivN
  · exact op_modN
  · exact op_pow
theorem bin_ok {o : Bop} {d e : D} {x y : V} (w : Wd K EE ca mu H S) (hd : Is K EE ca mu H x d) (he : Is K EE ca mu H y e) (h : okR K EE XA (IsR K EE) ca mu H (lift (binD o d e) S) Q W) : rBin K o x y H Q := by
  cases o
  · exact add_ok w hd he h
  · exact sub_ok w hd he h
  · exact mul_ok w hd he h
  · exact fdiv_ok w hd he h
  · exact mod_ok w hd he h
  · exact pow_ok w hd he h
end
/-! ### comparisons -/
section
variable {X : Cx}
def rInT (K : PySem.W.Frag) (neg : Bool) : R2 := fun x y H Q => ∃ d ds, Dp K H x d ∧ Dp K H y (.tuple ds) ∧ SeqAt.shaped d = true ∧ SeqAt.shaped (.tuple ds) = true ∧ Q (.bl (neg ^^ ds.any fun z => PyData.eqv z d)) H
theorem room_in_t {ds : List PyData} {d : PyData} {A : Around} (sd : SeqAt.shaped d = true) (hu : A.units + 65 < cLine) : A.units + 1 + min (PyData.depthAll ds) d.depth < cLine := by
  have h1 := SeqAt.depth_of_shaped sd
  omega
theorem op_inT (hu : X.A.units + 65 < cLine) : OpR X (compareOp .In) (rInT X.K false) := by
  intro pins s σ H x y v u Q I rx ry h
  obtain ⟨d, ds, hd, he, sd, se, q⟩ := h
  obtain ⟨as, r1⟩ := Dp.reads I d x v hd rx
  obtain ⟨bs, r2⟩ := Dp.reads I (.tuple ds) y u he ry
  exact SeqAt.in_tuple_reads r2 r1 (SeqAt.canLay_of_shaped se) (SeqAt.canLay_of_shaped sd) (room_in_t sd hu) ⟨.bl _, H, I, rfl, by simpa using q⟩
theorem op_notInT (hu : X.A.units + 65 < cLine) : OpR X (compareOp .NotIn) (rInT X.K true) := by
  intro pins s σ H x y v u Q I rx ry h
  obtain ⟨d, ds, hd, he, sd, se, q⟩ := h
  obtain ⟨as, r1⟩ := Dp.reads I d x v hd rx
  obtain ⟨bs, r2⟩ := Dp.reads I (.tuple ds) y u he ry
  exact SeqAt.notIn_tuple_reads r2 r1 (SeqAt.canLay_of_shaped se) (SeqAt.canLay_of_shaped sd) (room_in_t sd hu) ⟨.bl _, H, I, rfl, by simpa using q⟩
end
def rCmp (K : PySem.W.Frag) : Cop → R2
  | .eq => rEqD K
  | .ne => rNeD K
  | .lt => rI0 fun i j => .bl (decide (i < j))
  | .le => rI0 fun i j => .bl (decide (i ≤ j))
  | .gt => rI0 fun i j => .bl (decide (j < i))
  | .ge => rI0 fun i j => .bl (decide (j ≤ i))
  | .isN => fun x y H Q => y = .non ∧ Q (.bl (decide (x = .non))) H
  | .notN => fun x y H Q => y = .non ∧ Q (.bl (!decide (x = .non))) H
  | .in_ => fun x y H Q => rInD K x y H Q ∨ rInT K false x y H Q
  | .nin => fun x y H Q => rNotInD K x y H Q ∨ rInT K true x y H Q
theorem op_cmp {X : Cx} (hu : X.A.units + 65 < cLine) (o : Cop) : OpR X (compareOp (copOf o)) (rCmp X.K o) := by
  cases o
  · exact op_eqD (by omega)
  · exact op_neD (by omega)
  · exact op_lt
  · exact op_le
  · exact op_gt
  · exact op_ge
  · exact op_isN
  · exact op_notN
  · exact (op_inD hu).or (op_inT hu)
  · exact (op_notInD hu).or (op_notInT hu)
section
variable {K : PySem.W.Frag} {EE : Ek} {XA : Nat → Addr} {ca mu : List Addr} {H : Hp} {S : Sto} {Q : VK} {W : XK}
theorem Is.non_iff {v : V} {d : D} (h : Is K EE ca mu H v d) : decide (v = .non) = isNon d := by
  cases h <;> rfl
theorem any_toPL (k : Nat) (x : D) (hx : shp (k + 1) x = true) : ∀ xs : List D, shpL k xs = true → ((toPL xs).any fun z => PyData.eqv z (toP x)) = xs.any fun y => eqD y x
  | [], _ => rfl
  | y :: ys, h => by
    have h1 := Bool.and_eq_true_iff.mp (show (shp k y && shpL k ys) = true from h)
    simp only [toPL, List.any_cons, any_toPL k x hx ys h1.2]
    rw [eqv_toP (k + 1) y x (shp_succ k y h1.1) hx]
/-- Q is handed the bool that a comparison tells -/
theorem cmp_ok {o : Cop} {d e : D} {x y : V} {R : VK} (hd : Is K EE ca mu H x d) (he : Is K EE ca mu H y e) {b : Bool} (hb : cmpD o d e = some b) (h : R (.bl b) H) : rCmp K o x y H R := by
  cases o with
  | eq =>
    simp only [cmpD] at hb
    split at hb
    · rename_i z
      obtain ⟨z1, z2⟩ := Bool.and_eq_true_iff.mp z
      cases hb
      exact ⟨toP d, toP e, hd.dp 64 _ z1, he.dp 64 _ z2, shaped_toP z1, shaped_toP z2, by rw [eqv_toP 64 d e z1 z2]; exact h⟩
    · cases hb
  | ne =>
    simp only [cmpD] at hb
    split at hb
    · rename_i z
      obtain ⟨z1, z2⟩ := Bool.and_eq_true_iff.mp z
      cases hb
      exact ⟨toP d, toP e, hd.dp 64 _ z1, he.dp 64 _ z2, shaped_toP z1, shaped_toP z2, by rw [eqv_toP 64 d e z1 z2]; exact h⟩
    · cases hb
  | lt => cases hd <;> cases he <;> first | (cases hb; done) | (cases hb; exact ⟨_, _, rfl, rfl, h⟩)
  | le => cases hd <;> cases he <;> first | (cases hb; done) | (cases hb; exact ⟨_, _, rfl, rfl, h⟩)
  | gt => cases hd <;> cases he <;> first | (cases hb; done) | (cases hb; exact ⟨_, _, rfl, rfl, h⟩)
  | ge => cases hd <;> cases he <;> first | (cases hb; done) | (cases hb; exact ⟨_, _, rfl, rfl, h⟩)
  | isN =>
    cases he with
    | non => cases hb; exact ⟨rfl, by rw [hd.non_iff]; exact h⟩
    | _ => cases hb
  | notN =>
    cases he with
    | non => cases hb; exact ⟨rfl, by rw [hd.non_iff]; exact h⟩
    | _ => cases hb
  | in_ =>
    cases he with
    | @tup _ a vs ds h1 h2 =>
      simp only [cmpD, items] at hb
      split at hb
      · rename_i z
        obtain ⟨z1, z2⟩ := Bool.and_eq_true_iff.mp z
        cases hb
        refine .inr ⟨toP d, toPL ds, hd.dp 64 _ z1, .tup h1.sq (h2.dp 63 _ z2), shaped_toP z1, shaped_toP (x := .tup ds) z2, ?_⟩
        rw [Bool.false_xor, any_toPL 63 d z1 ds z2]
        exact h
      · cases hb
    | @lst _ a vs ds h1 h2 h3 =>
      simp only [cmpD, items] at hb
      split at hb
      · rename_i z
        obtain ⟨z1, z2⟩ := Bool.and_eq_true_iff.mp z
        cases hb
        refine .inl ⟨toP d, toPL ds, hd.dp 64 _ z1, .lst (SqL.of h1) (h3.dp 63 _ z2), shaped_toP z1, shaped_toP (x := .lst ds) z2, ?_⟩
        rw [any_toPL 63 d z1 ds z2]
        exact h
      · cases hb
    | _ => cases hb
  | nin =>
    cases he with
    | @tup _ a vs ds h1 h2 =>
      simp only [cmpD, items] at hb
      split at hb
      · rename_i z
        obtain ⟨z1, z2⟩ := Bool.and_eq_true_iff.mp z
        cases hb
        refine .inr ⟨toP d, toPL ds, hd.dp 64 _ z1, .tup h1.sq (h2.dp 63 _ z2), shaped_toP z1, shaped_toP (x := .tup ds) z2, ?_⟩
        rw [Bool.true_xor, any_toPL 63 d z1 ds z2]
        exact h
      · cases hb
    | @lst _ a vs ds h1 h2 h3 =>
      simp only [cmpD, items] at hb
      split at hb
      · rename_i z
        obtain ⟨z1, z2⟩ := Bool.and_eq_true_iff.mp z
        cases hb
        refine .inl ⟨toP d, toPL ds, hd.dp 64 _ z1, .lst (SqL.of h1) (h3.dp 63 _ z2), shaped_toP z1, shaped_toP (x := .lst ds) z2, ?_⟩
        rw [any_toPL 63 d z1 ds z2]
        exact h
      · cases hb
    | _ => cases hb
end
end KI


set_option Elab.async false
set_option linter.all false
set_option maxRecDepth 100000
set_option autoImplicit false
set_option maxHeartbeats 1000000
/-! Subscripts, slices, built-in functions, what a loop walks. -/
namespace KI
open PySem PySem.Spec PyProof.Rows L2
section
variable {K : PySem.W.Frag} {EE : Ek} {XA : Nat → Addr} {ca mu ca' mu' : List Addr} {H H' : Hp} {S : Sto} {Q : VK} {W : XK}
/-! ### keys, dicts -/
theorem keyOf_kV {v : V} {d : D} {k : Key} (h : Is K EE ca mu H v d) (e : keyOf d = some k) : v = kV k := by
  cases h <;> cases e <;> rfl
theorem IsK.get {k : Key} {d : D} : ∀ {ds : List (Key × D)} {vs : List (Key × V)}, IsK K EE ca mu H vs ds → dicGet ds k = some d → ∃ v, valV vs k = some v ∧ Is K EE ca mu H v d
  | [], _, h, e => by cases e
  | (j, d') :: ds, _, h, e => by
    cases h with
    | @cons _ _ v vs _ _ h1 h2 =>
      unfold dicGet at e
      unfold valV
      rw [List.find?_cons] at e ⊢
      cases q : decide (j = k) with
      | true =>
        rw [q] at e
        dsimp only at e ⊢
        cases e
        exact ⟨v, rfl, h1⟩
      | false =>
        rw [q] at e
        exact IsK.get h2 e
theorem IsK.none {k : Key} : ∀ {ds : List (Key × D)} {vs : List (Key × V)}, IsK K EE ca mu H vs ds → dicGet ds k = none → valV vs k = none
  | [], _, h, e => by cases h; rfl
  | (j, d') :: ds, _, h, e => by
    cases h with
    | @cons _ _ v vs _ _ h1 h2 =>
      unfold dicGet at e
      unfold valV
      rw [List.find?_cons] at e ⊢
      cases q : decide (j = k) with
      | true =>
        rw [q] at e
        cases e
      | false =>
        rw [q] at e
        exact IsK.none h2 e
theorem IsK.any {k : Key} : ∀ {ds : List (Key × D)} {vs : List (Key × V)}, IsK K EE ca mu H vs ds → (vs.any fun kv => decide (kv.1 = k)) = ds.any fun kv => decide (kv.1 = k)
  | [], _, h => by cases h; rfl
  | (j, d') :: ds, _, h => by
    cases h with
    | cons h1 h2 => simp only [List.any_cons, IsK.any h2]
theorem IsK.mapPut {k : Key} {v : V} {d : D} (g : Is K EE ca mu H v d) : ∀ {ds : List (Key × D)} {vs : List (Key × V)}, IsK K EE ca mu H vs ds → IsK K EE ca mu H (vs.map fun kv => if kv.1 = k then (kv.1, v) else kv) (ds.map fun kv => if kv.1 = k then (kv.1, d) else kv)
  | [], _, h => by cases h; exact .nil
  | (j, d') :: ds, _, h => by
    cases h with
    | cons h1 h2 =>
      rw [List.map_cons, List.map_cons]
      by_cases e : j = k
      · simp only [if_pos e]; exact .cons g (IsK.mapPut g h2)
      · simp only [if_neg e]; exact .cons h1 (IsK.mapPut g h2)
theorem IsK.snoc {k : Key} {v : V} {d : D} (g : Is K EE ca mu H v d) : ∀ {ds : List (Key × D)} {vs : List (Key × V)}, IsK K EE ca mu H vs ds → IsK K EE ca mu H (vs ++ [(k, v)]) (ds ++ [(k, d)])
  | [], _, h => by cases h; exact .cons g .nil
  | (j, d') :: ds, _, h => by cases h with | cons h1 h2 => exact .cons h1 (IsK.snoc g h2)
theorem IsK.put {k : Key} {v : V} {d : D} {ds : List (Key × D)} {vs : List (Key × V)} (h : IsK K EE ca mu H vs ds) (g : Is K EE ca mu H v d) : IsK K EE ca mu H (putK vs k v) (dicPut ds k d) := by
  unfold putK dicPut
  rw [h.any]
  cases (ds.any fun kv => decide (kv.1 = k)) with
  | true => exact IsK.mapPut g h
  | false => exact IsK.snoc g h
theorem IsK.merge : ∀ (ps : List (Key × D)) {qs : List (Key × V)} {ds : List (Key × D)} {vs : List (Key × V)}, IsK K EE ca mu H vs ds → IsK K EE ca mu H qs ps → IsK K EE ca mu H (mergeK vs qs) (mergeD ds ps)
  | [], _, _, _, h, g => by cases g; exact h
  | (k, d) :: ps, _, ds, vs, h, g => by
    cases g with
    | @cons _ _ v qs _ _ g1 g2 =>
      have z := IsK.merge ps (h.put (k := k) g1) g2
      show IsK K EE ca mu H (mergeK (putK vs k v) qs) (mergeD (dicPut ds k d) ps)
      exact z
/-! ### a[i] -/
/-- the dict at a, its value at a key -/
theorem dic_get {a : Addr} {kvs : List (Key × V)} {kds : List (Key × D)} {y : V} {e d : D} {k : Key} (h1 : H a = some (.dK kvs)) (h2 : IsK K EE ca mu H kvs kds) (he : Is K EE ca mu H y e) (hk : keyOf e = some k) (hg : dicGet kds k = some d) :
    ∃ v, DGet H a y (some v) ∧ Is K EE ca mu H v d := by
  obtain ⟨v, q1, q2⟩ := h2.get hg
  have z : DGet H a (kV k) (valV kvs k) := DGet.k h1
  rw [q1, ← keyOf_kV he hk] at z
  exact ⟨v, z, q2⟩
def dicLike (S : Sto) : D → Bool
  | .dic _ => true
  | .cell n => (match S[n]? with
    | some (.dct _) => true
    | _ => false)
  | _ => false
/-- a subscript: a sequence's, or a dict's -/
theorem idx_ok {d e z : D} {x y : V} (w : Wd K EE ca mu H S) (hd : Is K EE ca mu H x d) (he : Is K EE ca mu H y e) (hz : idxD S d e = some z) :
    (dicLike S d = false ∧ ∃ v, Is K EE ca mu H v z ∧ ∀ R : VK, R v H → rIx K x y H R) ∨ (dicLike S d = true ∧ ∃ a v, x = .ref a ∧ DGet H a y (some v) ∧ Is K EE ca mu H v z) := by
  cases hd with
  | @tup _ a vs ds h1 h2 =>
    cases he with
    | int i => obtain ⟨v, q1, q2⟩ := h2.at_ hz; exact .inl ⟨rfl, v, q2, fun R r => .inr (.inl ⟨a, vs, i, v, rfl, rfl, h1.sq, q1, r⟩)⟩
    | _ => cases hz
  | @lst _ a vs ds h1 h2 h3 =>
    cases he with
    | int i => obtain ⟨v, q1, q2⟩ := h3.at_ hz; exact .inl ⟨rfl, v, q2, fun R r => .inl ⟨a, vs, i, v, rfl, rfl, SqL.of h1, q1, r⟩⟩
    | _ => cases hz
  | @ro _ a vs ds h1 h2 =>
    cases he with
    | int i => obtain ⟨v, q1, q2⟩ := h2.at_ hz; exact .inl ⟨rfl, v, q2, fun R r => .inl ⟨a, vs, i, v, rfl, rfl, h1.sq, q1, r⟩⟩
    | _ => cases hz
  | @dic _ a kvs kds h1 h2 h3 =>
    have hz : (keyOf e).bind (fun k => dicGet kds k) = some z := by cases he <;> exact hz
    cases hk : keyOf e with
    | none => rw [hk] at hz; cases hz
    | some k =>
      rw [hk] at hz
      obtain ⟨v, q1, q2⟩ := dic_get h1 h3 he hk hz
      exact .inr ⟨rfl, a, v, rfl, q1, q2⟩
  | @cell _ a n hc =>
    have hz : (match S[n]? with
      | some (.lst xs) => (match e with
        | .int i => atI xs i
        | _ => none)
      | some (.dct kvs) => (keyOf e).bind fun k => dicGet kvs k
      | _ => none) = some z := by cases he <;> exact hz
    cases hs : S[n]? with
    | none => rw [hs] at hz; cases hz
    | some o =>
      rw [hs] at hz
      have r := w.ob n a o hc hs
      cases o with
      | lst xs =>
        obtain ⟨_, vs, h1, h2⟩ := r
        cases he with
        | int i => obtain ⟨v, q1, q2⟩ := h2.at_ hz; exact .inl ⟨by simp only [dicLike, hs], v, q2, fun R r => .inl ⟨a, vs, i, v, rfl, rfl, SqL.of h1, q1, r⟩⟩
        | _ => cases hz
      | dct kds =>
        obtain ⟨_, kvs, h1, h2⟩ := r
        cases hk : keyOf e with
        | none => rw [hk] at hz; cases hz
        | some k =>
          rw [hk] at hz
          obtain ⟨v, q1, q2⟩ := dic_get h1 h2 he hk hz
          exact .inr ⟨by simp only [dicLike, hs], a, v, rfl, q1, q2⟩
      | ins _ _ => cases hz
      | dead => cases hz
  | _ => cases he <;> cases hz
/-! ### a[lo:hi] -/
def rCut (K : PySem.W.Frag) : V → Option Int → Option Int → Hp → VK → Prop := fun x lo hi H Q => rSlA K x lo hi H Q ∨ rSlL K x lo hi H Q
theorem sl_cut {X : Cx} : SlR X (rCut X.K) := sl_tupA.or sl_list
theorem sIx_le' (n : Nat) (o : Option Int) (d : Nat) (hd : d ≤ n) : HT.sIx n d o ≤ n := HT.sIx_le n d hd o
theorem cut_whole {α : Type} {xs : List α} {lo hi : Option Int} (h : HT.sIx xs.length 0 lo = 0 ∧ HT.sIx xs.length xs.length hi = xs.length) : cut xs lo hi = xs := by
  unfold cut
  rw [h.1, h.2]
  simp
theorem cut_ok {d : D} {x : V} {lo hi : Option Int} (w : Wd K EE ca mu H S) (hd : Is K EE ca mu H x d) (h : okR K EE XA (IsR K EE) ca mu H (lift (cutD d lo hi) S) Q W) : rCut K x lo hi H Q := by
  cases hd with
  | @tup _ a vs ds h1 h2 =>
    refine .inl ⟨a, vs, rfl, h1.sq, fun e => ?_, fun _ => newT w (h2.cut lo hi) h⟩
    have e2 : cut ds lo hi = ds := cut_whole (by rw [← h2.length]; exact e)
    have h : okR K EE XA (IsR K EE) ca mu H (.ok (.tup (cut ds lo hi)) S) Q W := h
    rw [e2] at h
    exact got w (.tup h1 h2) h
  | @lst _ a vs ds h1 h2 h3 => exact .inr ⟨a, vs, rfl, SqL.of h1, newL w (h3.cut lo hi) h⟩
  | _ => exact h.elim
/-! ### built-in functions -/
theorem intsD_ok : ∀ {ds : List D} {vs : List V} {ns : List Int}, IsL K EE ca mu H vs ds → intsD ds = some ns → vs = ns.map V.int
  | [], _, _, h, e => by cases h; cases e; rfl
  | d :: ds, _, _, h, e => by
    cases h with
    | cons h1 h2 =>
      cases h1 with
      | int i =>
        have e : (intsD ds).map (i :: ·) = some _ := e
        cases q : intsD ds with
        | none => rw [q] at e; cases e
        | some ns => rw [q] at e; cases e; rw [List.map_cons, intsD_ok h2 q]
      | _ => cases e
theorem boolsD_ok : ∀ {ds : List D} {vs : List V} {ns : List Bool}, IsL K EE ca mu H vs ds → boolsD ds = some ns → vs = ns.map V.bl
  | [], _, _, h, e => by cases h; cases e; rfl
  | d :: ds, _, _, h, e => by
    cases h with
    | cons h1 h2 =>
      cases h1 with
      | bl i =>
        have e : (boolsD ds).map (i :: ·) = some _ := e
        cases q : boolsD ds with
        | none => rw [q] at e; cases e
        | some ns => rw [q] at e; cases e; rw [List.map_cons, boolsD_ok h2 q]
      | _ => cases e
theorem minL_le : ∀ (xs : List Int) (m : Int), minL m xs ≤ m ∧ (∀ y ∈ xs, minL m xs ≤ y) ∧ (minL m xs = m ∨ minL m xs ∈ xs)
  | [], m => ⟨Int.le_refl _, fun y h => absurd h (by simp), Or.inl rfl⟩
  | x :: xs, m => by
    by_cases e : x < m
    · obtain ⟨h1, h2, h3⟩ := minL_le xs x
      rw [show minL m (x :: xs) = minL x xs by show minL (if x < m then x else m) xs = _; rw [if_pos e]]
      refine ⟨by omega, fun y hy => ?_, Or.inr ?_⟩
      · rcases List.mem_cons.mp hy with rfl | hy
        · exact h1
        · exact h2 y hy
      · rcases h3 with h3 | h3
        · rw [h3]; exact List.mem_cons_self
        · exact List.mem_cons_of_mem _ h3
    · obtain ⟨h1, h2, h3⟩ := minL_le xs m
      rw [show minL m (x :: xs) = minL m xs by show minL (if x < m then x else m) xs = _; rw [if_neg e]]
      refine ⟨h1, fun y hy => ?_, ?_⟩
      · rcases List.mem_cons.mp hy with rfl | hy
        · omega
        · exact h2 y hy
      · rcases h3 with h3 | h3
        · exact Or.inl h3
        · exact Or.inr (List.mem_cons_of_mem _ h3)
theorem maxL_ge : ∀ (xs : List Int) (m : Int), m ≤ maxL m xs ∧ (∀ y ∈ xs, y ≤ maxL m xs) ∧ (maxL m xs = m ∨ maxL m xs ∈ xs)
  | [], m => ⟨Int.le_refl _, fun y h => absurd h (by simp), Or.inl rfl⟩
  | x :: xs, m => by
    by_cases e : x > m
    · obtain ⟨h1, h2, h3⟩ := maxL_ge xs x
      rw [show maxL m (x :: xs) = maxL x xs by show maxL (if x > m then x else m) xs = _; rw [if_pos e]]
      refine ⟨by omega, fun y hy => ?_, Or.inr ?_⟩
      · rcases List.mem_cons.mp hy with rfl | hy
        · exact h1
        · exact h2 y hy
      · rcases h3 with h3 | h3
        · rw [h3]; exact List.mem_cons_self
        · exact List.mem_cons_of_mem _ h3
    · obtain ⟨h1, h2, h3⟩ := maxL_ge xs m
      rw [show maxL m (x :: xs) = maxL m xs by show maxL (if x > m then x else m) xs = _; rw [if_neg e]]
      refine ⟨h1, fun y hy => ?_, ?_⟩
      · rcases List.mem_cons.mp hy with rfl | hy
        · omega
        · exact h2 y hy
      · rcases h3 with h3 | h3
        · exact Or.inl h3
        · exact Or.inr (List.mem_cons_of_mem _ h3)
def biTy : Bi → Bool
  | .int => true | .str => true | .list => true | .tuple => true | .dict => true
  | _ => false
def biVal (b : Bi) : Value := if biTy b then .type (biId b) else .builtin (biId b)
def biN : Bi → Nat
  | .min2 => 2 | .max2 => 2
  | _ => 1
def rBi (K : PySem.W.Frag) : Bi → List V → Hp → VK → Prop
  | .len => fun xs H Q => ∃ x n, xs = [x] ∧ LenV K x H n ∧ Q (.int n) H
  | .abs => fun xs H Q => ∃ i, xs = [.int i] ∧ Q (.int (if i < 0 then -i else i)) H
  | .int => fun xs H Q => (∃ i, xs = [.int i] ∧ Q (.int i) H) ∨ ∃ k, xs = [.bl k] ∧ Q (.int (if k then 1 else 0)) H
  | .str => fun xs H Q => ∃ i, xs = [.int i] ∧ i.natAbs.log2 < 1920 ∧ Q (.str (toString i)) H
  | .min1 => rMin K
  | .max1 => rMax K
  | .min2 => fun xs H Q => ∃ i j, xs = [.int i, .int j] ∧ Q (.int (if j < i then j else i)) H
  | .max2 => fun xs H Q => ∃ i j, xs = [.int i, .int j] ∧ Q (.int (if j > i then j else i)) H
  | .all => rAll K
  | .any => rAny K
  | .sum => rSum K
  | .list => fun xs H Q => ∃ p ys, xs = [.ref p] ∧ (SqL K H p ys ∨ SqT K H p ys) ∧ ∀ l, H l = none → Q (.ref l) (upd H l (.lst ys))
  | .tuple => fun xs H Q => ∃ p ys, xs = [.ref p] ∧ ((SqL K H p ys ∧ ∀ l, H l = none → Q (.ref l) (upd H l (.tup ys))) ∨ (SqT K H p ys ∧ Q (.ref p) H))
  | .dict => fun xs H Q => ∃ (a : Addr) (ps : List Addr) (kvs : List (Key × V)), xs = [.ref a] ∧ SqL K H a (ps.map V.ref) ∧ Paired (fun p kv => SqT K H p [kV kv.1, kv.2]) ps kvs ∧ ∀ p, H p = none → Q (.ref p) (upd H p (.dK (mergeK [] kvs)))
theorem cr_bi {X : Cx} (hc : X.calm = true) (b : Bi) : CallR X (biVal b) (rBi X.K b) := by
  cases b
  · exact call_len
  · exact call_abs
  · exact call_int1
  · exact call_str_int
  · exact cr_min hc
  · exact cr_max hc
  · exact call_min2 hc
  · exact call_max2 hc
  · exact cr_all hc
  · exact cr_any hc
  · exact cr_sum hc
  · exact call_list_of
  · exact call_tuple_of
  · exact call_dictP hc
theorem pairsOf_ok : ∀ {ds : List D} {vs : List V} {ps : List (Key × D)}, IsL K EE ca mu H vs ds → pairsOf ds = some ps → ∃ (as : List Addr) (qs : List (Key × V)), vs = as.map V.ref ∧ Paired (fun p kv => SqT K H p [kV kv.1, kv.2]) as qs ∧ IsK K EE ca mu H qs ps
  | [], _, _, h, e => by cases h; cases e; exact ⟨[], [], rfl, .nil, .nil⟩
  | d :: ds, _, _, h, e => by
    cases h with
    | cons h1 h2 =>
      cases h1 with
      | @tup _ a us es g1 g2 =>
        cases es with
        | nil => cases e
        | cons k es =>
          cases es with
          | nil => cases e
          | cons z es =>
            cases es with
            | cons _ _ => cases e
            | nil =>
              cases g2 with
              | cons k1 g2 =>
                cases g2 with
                | cons z1 g2 =>
                  cases g2
                  have e : (keyOf k).bind (fun k => (pairsOf ds).map ((k, z) :: ·)) = some _ := e
                  cases hk : keyOf k with
                  | none => rw [hk] at e; cases e
                  | some kk =>
                    rw [hk] at e
                    have e : (pairsOf ds).map ((kk, z) :: ·) = some _ := e
                    cases q : pairsOf ds with
                    | none => rw [q] at e; cases e
                    | some ps =>
                      rw [q] at e
                      cases e
                      obtain ⟨as, qs, r1, r2, r3⟩ := pairsOf_ok h2 q
                      have ek := keyOf_kV k1 hk
                      subst ek
                      exact ⟨a :: as, (kk, _) :: qs, by rw [r1]; rfl, .cons g1.sq r2, .cons z1 r3⟩
      | _ => cases e
theorem bi_ok {b : Bi} {ds : List D} {vs : List V} (w : Wd K EE ca mu H S) (hd : IsL K EE ca mu H vs ds) (h : okR K EE XA (IsR K EE) ca mu H (lift (biD S b ds) S) Q W) : rBi K b vs H Q := by
  cases hd with
  | nil => cases b <;> exact h.elim
  | @cons _ v vs d ds h1 h2 =>
    cases h2 with
    | nil =>
      cases b with
      | len =>
        cases h1 with
        | @tup _ a us es g1 g2 => exact ⟨_, us.length, rfl, .inr ⟨us, g1.sq, rfl⟩, by rw [g2.length]; exact got w (.int _) h⟩
        | @lst _ a us es g1 g2 g3 => exact ⟨_, us.length, rfl, .inl ⟨us, SqL.of g1, rfl⟩, by rw [g3.length]; exact got w (.int _) h⟩
        | @ro _ a us es g1 g2 => exact ⟨_, us.length, rfl, .inl ⟨us, g1.sq, rfl⟩, by rw [g2.length]; exact got w (.int _) h⟩
        | str x =>
          simp only [biD] at h
          split at h
          · rename_i z
            exact ⟨_, x.length, rfl, ⟨by rw [LN_eq]; exact z, rfl⟩, got w (.int _) h⟩
          · exact h.elim
        | _ => exact h.elim
      | abs => cases h1 <;> first | exact h.elim | exact ⟨_, rfl, got w (.int _) h⟩
      | int => cases h1 <;> first | exact h.elim | exact .inl ⟨_, rfl, got w (.int _) h⟩ | exact .inr ⟨_, rfl, got w (.int _) h⟩
      | str =>
        cases h1 with
        | int i =>
          simp only [biD] at h
          split at h
          · rename_i z
            exact ⟨i, rfl, z, got w (.str _) h⟩
          · exact h.elim
        | _ => exact h.elim
      | min1 =>
        cases h1 with
        | @lst _ a us es g1 g2 g3 =>
          simp only [biD] at h
          cases q : intsD es with
          | none => rw [q] at h; exact h.elim
          | some ns =>
            rw [q] at h
            cases ns with
            | nil => exact h.elim
            | cons m r =>
              have ev := intsD_ok g3 q
              subst ev
              refine ⟨a, m :: r, rfl, SqL.of g1, by simp, fun z h1 h2 => ?_⟩
              obtain ⟨a1, a2, a3⟩ := minL_le r m
              have e : z = minL m r := by
                have b1 : z ≤ minL m r := by
                  rcases a3 with a3 | a3
                  · rw [a3]; exact h2 m List.mem_cons_self
                  · exact h2 _ (List.mem_cons_of_mem _ a3)
                have b2 : minL m r ≤ z := by
                  rcases List.mem_cons.mp h1 with e | e
                  · rw [e]; exact a1
                  · exact a2 z e
                omega
              rw [e]
              exact got w (.int _) h
        | _ => exact h.elim
      | max1 =>
        cases h1 with
        | @lst _ a us es g1 g2 g3 =>
          simp only [biD] at h
          cases q : intsD es with
          | none => rw [q] at h; exact h.elim
          | some ns =>
            rw [q] at h
            cases ns with
            | nil => exact h.elim
            | cons m r =>
              have ev := intsD_ok g3 q
              subst ev
              refine ⟨a, m :: r, rfl, SqL.of g1, by simp, fun z h1 h2 => ?_⟩
              obtain ⟨a1, a2, a3⟩ := maxL_ge r m
              have e : z = maxL m r := by
                have b1 : maxL m r ≤ z := by
                  rcases a3 with a3 | a3
                  · rw [a3]; exact h2 m List.mem_cons_self
                  · exact h2 _ (List.mem_cons_of_mem _ a3)
                have b2 : z ≤ maxL m r := by
                  rcases List.mem_cons.mp h1 with e | e
                  · rw [e]; exact a1
                  · exact a2 z e
                omega
              rw [e]
              exact got w (.int _) h
        | _ => exact h.elim
      | min2 => cases h1 <;> exact h.elim
      | max2 => cases h1 <;> exact h.elim
      | all =>
        cases h1 with
        | @lst _ a us es g1 g2 g3 =>
          simp only [biD] at h
          cases q : boolsD es with
          | none => rw [q] at h; exact h.elim
          | some ns =>
            rw [q] at h
            have ev := boolsD_ok g3 q
            subst ev
            exact ⟨a, ns, rfl, SqL.of g1, got w (.bl _) h⟩
        | _ => exact h.elim
      | any =>
        cases h1 with
        | @lst _ a us es g1 g2 g3 =>
          simp only [biD] at h
          cases q : boolsD es with
          | none => rw [q] at h; exact h.elim
          | some ns =>
            rw [q] at h
            have ev := boolsD_ok g3 q
            subst ev
            exact ⟨a, ns, rfl, SqL.of g1, got w (.bl _) h⟩
        | _ => exact h.elim
      | sum =>
        cases h1 with
        | @lst _ a us es g1 g2 g3 =>
          simp only [biD] at h
          cases q : intsD es with
          | none => rw [q] at h; exact h.elim
          | some ns =>
            rw [q] at h
            have ev := intsD_ok g3 q
            subst ev
            exact ⟨a, ns, rfl, SqL.of g1, got w (.int _) h⟩
        | _ => exact h.elim
      | list =>
        cases h1 with
        | @lst _ a us es g1 g2 g3 => exact ⟨a, us, rfl, .inl (SqL.of g1), newL w g3 h⟩
        | @tup _ a us es g1 g2 => exact ⟨a, us, rfl, .inr g1.sq, newL w g2 h⟩
        | _ => exact h.elim
      | tuple =>
        cases h1 with
        | @lst _ a us es g1 g2 g3 => exact ⟨a, us, rfl, .inl ⟨SqL.of g1, newT w g3 h⟩⟩
        | @tup _ a us es g1 g2 => exact ⟨a, us, rfl, .inr ⟨g1.sq, got w (.tup g1 g2) h⟩⟩
        | _ => exact h.elim
      | dict =>
        cases h1 with
        | @lst _ a us es g1 g2 g3 =>
          simp only [biD] at h
          cases q : pairsOf es with
          | none => rw [q] at h; exact h.elim
          | some ps =>
            rw [q] at h
            obtain ⟨as, qs, r1, r2, r3⟩ := pairsOf_ok g3 q
            subst r1
            exact ⟨a, as, qs, rfl, SqL.of g1, r2, newD w (IsK.merge _ .nil r3) h⟩
        | _ => exact h.elim
    | @cons _ v2 vs d2 ds g1 g2 =>
      cases g2 with
      | cons _ _ => cases b <;> cases h1 <;> cases g1 <;> exact h.elim
      | nil =>
        cases b with
        | min2 => cases h1 <;> cases g1 <;> first | exact h.elim | exact ⟨_, _, rfl, got w (.int _) h⟩
        | max2 => cases h1 <;> cases g1 <;> first | exact h.elim | exact ⟨_, _, rfl, got w (.int _) h⟩
        | _ => cases h1 <;> cases g1 <;> exact h.elim
/-! ### isinstance -/
theorem kit_all : ∀ (a b : Ty), kitB (tyName a) (tyName b) = some (match a, b with
    | .bool, .int => true
    | a, b => decide (a = b)) := by
  intro a b
  cases a <;> cases b <;> decide +kernel
theorem kit_non : ∀ b : Ty, kitB "NoneType" (tyName b) = some false := by
  intro b
  cases b <;> decide +kernel
theorem isi_ok {t : Ty} {d : D} {x : V} {b : Bool} (hd : Is K EE ca mu H x d) (hb : isTy t d = some b) : ∃ T, TyX K H x T ∧ PySem.W.kitOne K T (.type (tyName t)) = some b := by
  cases hd with
  | non => refine ⟨_, .base .non, kit_ty ?_⟩; rw [kit_non t, ← hb]; cases t <;> rfl
  | bl k => refine ⟨_, .base (.bl k), kit_ty ?_⟩; rw [show "bool" = tyName .bool from rfl, kit_all .bool t, ← hb]; cases t <;> rfl
  | int k => refine ⟨_, .base (.int k), kit_ty ?_⟩; rw [show "int" = tyName .int from rfl, kit_all .int t, ← hb]; cases t <;> rfl
  | str k => refine ⟨_, .base (.str k), kit_ty ?_⟩; rw [show "str" = tyName .str from rfl, kit_all .str t, ← hb]; cases t <;> rfl
  | @tup _ a vs ds h1 h2 =>
    have e : kitB "tuple" (tyName t) = some b := by rw [show "tuple" = tyName .tuple from rfl, kit_all .tuple t, ← hb]; cases t <;> rfl
    rcases h1 with ⟨h1 | ⟨o, h1⟩, _⟩ | ⟨o, its, n, h1, h3, _⟩
    · exact ⟨_, .base (.tup h1), kit_ty e⟩
    · exact ⟨_, .fTuple h1, kit_ty e⟩
    · exact ⟨_, .kTuple h1 h3, kit_ty e⟩
  | @lst _ a vs ds h1 h2 h3 =>
    have e : kitB "list" (tyName t) = some b := by rw [show "list" = tyName .list from rfl, kit_all .list t, ← hb]; cases t <;> rfl
    exact ⟨_, .base (.lst h1), kit_ty e⟩
  | @ro _ a vs ds h1 h2 =>
    have e : kitB "list" (tyName t) = some b := by rw [show "list" = tyName .list from rfl, kit_all .list t, ← hb]; cases t <;> rfl
    rcases h1 with ⟨h1 | ⟨o, h1⟩, _⟩ | ⟨o, its, n, h1, h3, _⟩
    · exact ⟨_, .base (.lst h1), kit_ty e⟩
    · exact ⟨_, .base (.frz h1), kit_ty e⟩
    · exact ⟨_, .kList h1 h3, kit_ty e⟩
  | dic _ _ _ => cases t <;> cases hb
  | cell _ => cases t <;> cases hb
  | fn _ _ => cases t <;> cases hb
  | clo _ _ _ _ _ _ _ => cases t <;> cases hb
end
end KI


set_option Elab.async false
set_option linter.all false
set_option maxRecDepth 100000
set_option autoImplicit false
set_option maxHeartbeats 1000000
/-! Expressions: the reading of each piece of code, and that the text's expression has it. -/
namespace KI
open PySem PySem.Spec PyProof.Rows L2

theorem Is.ex {K : PySem.W.Frag} {EE : Ek} {ca mu ca' mu' : List Addr} {H H' : Hp} {v : V} {d : D} (h : Is K EE ca mu H v d) (x : Ext ca mu H ca' mu' H') : Is K EE ca' mu' H' v d := Is.ext x d h
theorem IsL.ex {K : PySem.W.Frag} {EE : Ek} {ca mu ca' mu' : List Addr} {H H' : Hp} {v : List V} {d : List D} (h : IsL K EE ca mu H v d) (x : Ext ca mu H ca' mu' H') : IsL K EE ca' mu' H' v d := IsL.ext x d h
theorem IsK.ex {K : PySem.W.Frag} {EE : Ek} {ca mu ca' mu' : List Addr} {H H' : Hp} {v : List (Key × V)} {d : List (Key × D)} (h : IsK K EE ca mu H v d) (x : Ext ca mu H ca' mu' H') : IsK K EE ca' mu' H' v d := IsK.ext x d h
/-! ### weaker readings -/
section
variable {X : Cx} {e : Expr} {t u : TE}
theorem PEimp (h : PE X e t) (w : ∀ σ H Q, u σ H Q → t σ H Q) : PE X e u := ⟨fun pins s σ H Q I hu => h.run pins s σ H Q I (w _ _ _ hu)⟩
theorem PEor (h : PE X e t) (g : PE X e u) : PE X e (fun σ H Q => t σ H Q ∨ u σ H Q) := ⟨fun pins s σ H Q I hu => hu.elim (h.run pins s σ H Q I) (g.run pins s σ H Q I)⟩
theorem PTimp {t u : TT} (h : PT X e t) (w : ∀ σ H Q, u σ H Q → t σ H Q) : PT X e u := ⟨fun pins s σ H Q I hu => h.run pins s σ H Q I (w _ _ _ hu)⟩
theorem PWimp {t u : TT} (h : PW X e t) (w : ∀ σ H Q, u σ H Q → t σ H Q) : PW X e u := ⟨fun wh pins s σ H Q I hu => h.run wh pins s σ H Q I (w _ _ _ hu)⟩
theorem PAimp {es : List Expr} {t u : TA} (h : PA X es t) (w : ∀ σ H Q, u σ H Q → t σ H Q) : PA X es u := ⟨fun pos pins s σ H Q I hu => h.run pos pins s σ H Q I (w _ _ _ hu)⟩
theorem POimp {o : Option Expr} {t u : TO} (h : PO X o t) (w : ∀ σ H Q, u σ H Q → t σ H Q) : PO X o u := ⟨fun pins s σ H Q I hu => h.run pins s σ H Q I (w _ _ _ hu)⟩
theorem PIimp {tg it : Expr} {t u : TI} (h : PI X tg it t) (w : ∀ σ H Q, u σ H Q → t σ H Q) : PI X tg it u := ⟨fun pins s σ H Q I hu => h.run pins s σ H Q I (w _ _ _ hu)⟩
theorem PIor {tg it : Expr} {t u : TI} (h : PI X tg it t) (g : PI X tg it u) : PI X tg it (fun σ H Q => t σ H Q ∨ u σ H Q) := ⟨fun pins s σ H Q I hu => hu.elim (h.run pins s σ H Q I) (g.run pins s σ H Q I)⟩
theorem PGor {tg : Expr} {t u : TG} (h : PG X tg t) (g : PG X tg u) : PG X tg (fun v σ H Q => t v σ H Q ∨ u v σ H Q) := ⟨fun pins s σ H v w Q I r hu => hu.elim (h.run pins s σ H v w Q I r) (g.run pins s σ H v w Q I r)⟩
theorem PGimp {tg : Expr} {t u : TG} (h : PG X tg t) (k : ∀ v σ H Q, u v σ H Q → t v σ H Q) : PG X tg u := ⟨fun pins s σ H v w Q I r hu => h.run pins s σ H v w Q I r (k _ _ _ _ hu)⟩
theorem PGsimp {tg : List Expr} {t u : TGs} (h : PGs X tg t) (k : ∀ v σ H Q, u v σ H Q → t v σ H Q) : PGs X tg u := ⟨fun pins s σ H v w Q I r hu => h.run pins s σ H v w Q I r (k _ _ _ _ hu)⟩
end
/-! ### readings -/
/-- what the code is run with -/
structure En where
  EE : Ek
  XA : Nat → Addr
  cons : Nat → D
  call : Call
/-- what a walked thing gives, turn by turn -/
structure WalkD (K : PySem.W.Frag) (EE : Ek) (J : L2.It) (ca0 mu0 : List Addr) (H0 : Hp) (xs : List D) : Prop where
  goes : ∀ i ca mu H, i < xs.length → Ext ca0 mu0 H0 ca mu H → J.go i H
  stops : ∀ ca mu H, Ext ca0 mu0 H0 ca mu H → J.stop xs.length H
  yields : ∀ i x ca mu H H' S, i < xs.length → Ext ca0 mu0 H0 ca mu H → Wd K EE ca mu H S → J.yld i H x H' → ∃ d, xs[i]? = some d ∧ Ext ca mu H ca mu H' ∧ Wd K EE ca mu H' S ∧ Is K EE ca mu H' x d
abbrev WalkR (K : PySem.W.Frag) (EE : Ek) : List Addr → List Addr → Hp → L2.It → List D → Prop := fun ca mu H J xs => WalkD K EE J ca mu H xs
/-- a reading by an evaluation -/
def Rd0 (K : PySem.W.Frag) (G : En) {α β : Type} (rel : List Addr → List Addr → Hp → β → α → Prop) (f : Env → Sto → Res α) (W : WX) (σ : L2.St) (H : Hp) (Q : β → Hp → Prop) : Prop :=
  ∃ ca mu ρ S, Wd K G.EE ca mu H S ∧ RE K G.EE ca mu H σ ρ ∧ okR K G.EE G.XA rel ca mu H (f ρ S) Q (fun c d H' => W c d σ H')
abbrev RdE (K : PySem.W.Frag) (G : En) (W : WX) (e : Ex) : TE := Rd0 K G (IsR K G.EE) (ev G.cons G.call e) W
abbrev RdA (K : PySem.W.Frag) (G : En) (W : WX) (es : Exs) : TA := Rd0 K G (IsLR K G.EE) (evs G.cons G.call es) W
abbrev RdO (K : PySem.W.Frag) (G : En) (W : WX) (o : Oe) : TO := Rd0 K G (fun _ _ _ (b a : Option Int) => b = a) (evo G.cons G.call o) W
abbrev RdI (K : PySem.W.Frag) (G : En) (W : WX) (it : It) : TI := Rd0 K G (WalkR K G.EE) (evi G.cons G.call it) W
abbrev RdT (K : PySem.W.Frag) (G : En) (W : WX) (e : Ex) : TT := fun σ H Q => RdE K G W e σ H fun v H' => ∃ b, v = .bl b ∧ Q b H'
section
variable {K : PySem.W.Frag} {G : En} {ca mu : List Addr} {H : Hp} {σ : L2.St} {ρ : Env} {S : Sto} {α β α' β' : Type} {rel : List Addr → List Addr → Hp → β → α → Prop} {rel' : List Addr → List Addr → Hp → β' → α' → Prop} {W : WX}
theorem step {f : Env → Sto → Res α} {g : α → Sto → Res α'} {Q : β' → Hp → Prop} {R : β → Hp → Prop} (w : Wd K G.EE ca mu H S) (re : RE K G.EE ca mu H σ ρ) (h : okR K G.EE G.XA rel' ca mu H ((f ρ S).bind g) Q (fun c d H' => W c d σ H'))
    (k : ∀ a S' b ca' mu' H', Ext ca mu H ca' mu' H' → Wd K G.EE ca' mu' H' S' → RE K G.EE ca' mu' H' σ ρ → rel ca' mu' H' b a → okR K G.EE G.XA rel' ca' mu' H' (g a S') Q (fun c d H' => W c d σ H') → R b H') : Rd0 K G rel f W σ H R :=
  ⟨ca, mu, ρ, S, w, re, okR.bind h fun a S' b ca' mu' H' _ e w' i h' => k a S' b ca' mu' H' e w' (re.ext e) i h'⟩
/-- the last of a row -/
theorem last {f : Env → Sto → Res α} {Q : β → Hp → Prop} (w : Wd K G.EE ca mu H S) (re : RE K G.EE ca mu H σ ρ) (h : okR K G.EE G.XA rel ca mu H (f ρ S) Q (fun c d H' => W c d σ H')) : Rd0 K G rel f W σ H Q := ⟨ca, mu, ρ, S, w, re, h⟩
end
/-! ### the pieces -/
section
variable {X : Cx} {G : En} {W : WX} {a b c : Ex} {ea eb ec : Expr} {pos : Pos}
theorem snd_int {i : Int} {j : Nat} : PE X (.Constant (.int i) j pos) (RdE X.K G W (.int i)) := PEimp pe_int fun σ H Q ⟨ca, mu, ρ, S, w, re, h⟩ => got w (.int i) h
theorem snd_bl {i : Bool} {j : Nat} : PE X (.Constant (.bool i) j pos) (RdE X.K G W (.bl i)) := PEimp pe_bl fun σ H Q ⟨ca, mu, ρ, S, w, re, h⟩ => got w (.bl i) h
theorem snd_non {j : Nat} : PE X (.Constant .none j pos) (RdE X.K G W .non) := PEimp pe_non fun σ H Q ⟨ca, mu, ρ, S, w, re, h⟩ => got w .non h
theorem snd_str {x : Str} {j : Nat} : PE X (.Constant (.str x) j pos) (RdE X.K G W (.str x)) := PEimp pe_str fun σ H Q ⟨ca, mu, ρ, S, w, re, h⟩ => got w (.str x) h
theorem snd_var {i : Nat} {x : Str} (hN : X.N[i]? = some x) (hv : Vis X.env.scope x) (hd : (x == ("__debug__" : Str)) = false) (hcd : (x == ("__classdict__" : Str)) = false) : PE X (.Name x pos) (RdE X.K G W (.var i)) :=
  PEimp (pe_var hN hv hd hcd) fun σ H Q ⟨ca, mu, ρ, S, w, re, h⟩ => by
    have h : okR X.K G.EE G.XA (IsR X.K G.EE) ca mu H (match ρ[i]? with
      | some (some d) => .ok d S
      | _ => .no) Q (fun c d H' => W c d σ H') := h
    cases q : ρ[i]? with
    | none => rw [q] at h; exact h.elim
    | some o =>
      rw [q] at h
      cases o with
      | none => exact h.elim
      | some d =>
        obtain ⟨v, h1, h2⟩ := re.at_ i d q
        exact ⟨v, h1, got w h2 h⟩
theorem snd_con {n : Nat} {x : Str} {v : V} {u : Value} (hg : Gl X x) (hm : X.mg x = some u) (r : RelV v u) (hd : (x == ("__debug__" : Str)) = false) (hi : ∀ ca mu H, Is X.K G.EE ca mu H v (G.cons n)) : PE X (.Name x pos) (RdE X.K G W (.con n)) :=
  PEimp (pe_glob hg hm r hd) fun σ H Q ⟨ca, mu, ρ, S, w, re, h⟩ => got w (hi ca mu H) h
theorem snd_bin {o : Bop} (ha : PE X ea (RdE X.K G W a)) (hb : PE X eb (RdE X.K G W b)) : PE X (.BinOp ea (opOf o) eb pos) (RdE X.K G W (.bin o a b)) :=
  PEimp (pe_op (op_bin o) ha hb) fun σ H Q ⟨ca, mu, ρ, S, w, re, h⟩ => step w re h fun d S1 v ca1 mu1 H1 e1 w1 re1 i1 h1 => step w1 re1 h1 fun d2 S2 v2 ca2 mu2 H2 e2 w2 re2 i2 h2 => bin_ok w2 (i1.ex e2) i2 h2
theorem snd_neg (ha : PE X ea (RdE X.K G W a)) : PE X (.UnaryOp .USub ea pos) (RdE X.K G W (.neg a)) :=
  PEimp (pe_un un_neg ha) fun σ H Q ⟨ca, mu, ρ, S, w, re, h⟩ => step w re h fun d S1 v ca1 mu1 H1 e1 w1 re1 i1 h1 => by
    cases i1 with
    | int i => exact ⟨i, rfl, got w1 (.int _) h1⟩
    | _ => exact h1.elim
theorem snd_cmp {o : Cop} (hu : X.A.units + 65 < cLine) (ha : PE X ea (RdE X.K G W a)) (hb : PE X eb (RdE X.K G W b)) (hm : behindInMarks (copOf o) eb = false) : PE X (.Compare ea [copOf o] [eb] pos) (RdE X.K G W (.cmp o a b)) :=
  PEimp (pe_cmpR (op_cmp hu o) ha hb hm) fun σ H Q ⟨ca, mu, ρ, S, w, re, h⟩ => step w re h fun d S1 v ca1 mu1 H1 e1 w1 re1 i1 h1 => step w1 re1 h1 fun d2 S2 v2 ca2 mu2 H2 e2 w2 re2 i2 h2 => by
    cases q : cmpD o d d2 with
    | none => rw [q] at h2; exact h2.elim
    | some k => rw [q] at h2; exact cmp_ok (i1.ex e2) i2 q (got w2 (.bl k) h2)
theorem snd_cmpT {o : Cop} (hu : X.A.units + 65 < cLine) (ha : PE X ea (RdE X.K G W a)) (hb : PE X eb (RdE X.K G W b)) (hm : behindInMarks (copOf o) eb = false) : PT X (.Compare ea [copOf o] [eb] pos) (RdT X.K G W (.cmp o a b)) :=
  PTimp (pt_cmpR (op_cmp hu o) ha hb hm) fun σ H Q ⟨ca, mu, ρ, S, w, re, h⟩ => step w re h fun d S1 v ca1 mu1 H1 e1 w1 re1 i1 h1 => step w1 re1 h1 fun d2 S2 v2 ca2 mu2 H2 e2 w2 re2 i2 h2 => by
    cases q : cmpD o d d2 with
    | none => rw [q] at h2; exact h2.elim
    | some k => rw [q] at h2; exact cmp_ok (i1.ex e2) i2 q (got w2 (.bl k) h2)
theorem chain_ok {o p : Cop} {σ : L2.St} {H : Hp} {Q : VK} (h : RdE X.K G W (.chn o p a b c) σ H Q) : tChain (rCmp X.K o) (rCmp X.K p) (RdE X.K G W a) (RdE X.K G W b) (RdE X.K G W c) σ H Q := by
  obtain ⟨ca, mu, ρ, S, w, re, h⟩ := h
  refine step w re h fun d S1 v ca1 mu1 H1 e1 w1 re1 i1 h1 => step w1 re1 h1 fun d2 S2 v2 ca2 mu2 H2 e2 w2 re2 i2 h2 => ?_
  cases q : cmpD o d d2 with
  | none => rw [q] at h2; exact h2.elim
  | some k =>
    rw [q] at h2
    refine cmp_ok (i1.ex e2) i2 q ⟨k, rfl, ?_⟩
    cases k with
    | false => exact iteF (got w2 (.bl _) h2)
    | true =>
      refine iteT (step w2 re2 h2 fun d3 S3 v3 ca3 mu3 H3 e3 w3 re3 i3 h3 => ?_)
      cases q' : cmpD p d2 d3 with
      | none => rw [q'] at h3; exact h3.elim
      | some k => rw [q'] at h3; exact cmp_ok (i2.ex e3) i3 q' (got w3 (.bl k) h3)
theorem snd_chn {o p : Cop} (hu : X.A.units + 65 < cLine) (ha : PE X ea (RdE X.K G W a)) (hb : PE X eb (RdE X.K G W b)) (hc : PE X ec (RdE X.K G W c)) (hm : lastMarks [copOf o, copOf p] [eb, ec] = false) : PE X (.Compare ea [copOf o, copOf p] [eb, ec] pos) (RdE X.K G W (.chn o p a b c)) :=
  PEimp (pe_chain (op_cmp hu o) (op_cmp hu p) ha hb hc hm) fun σ H Q h => chain_ok h
theorem snd_chnT {o p : Cop} (hu : X.A.units + 65 < cLine) (ha : PE X ea (RdE X.K G W a)) (hb : PE X eb (RdE X.K G W b)) (hc : PE X ec (RdE X.K G W c)) (hm : lastMarks [copOf o, copOf p] [eb, ec] = false) : PT X (.Compare ea [copOf o, copOf p] [eb, ec] pos) (RdT X.K G W (.chn o p a b c)) :=
  PTimp (pt_chain (op_cmp hu o) (op_cmp hu p) ha hb hc hm) fun σ H Q h => chain_ok h
/-- a value that is a bool -/
theorem bool_of {K : PySem.W.Frag} {EE : Ek} {ca mu : List Addr} {H : Hp} {S : Sto} {v : V} {d : D} {R : VK} {W' : XK} {XA : Nat → Addr} {f : Bool → Sto → Res D} (i : Is K EE ca mu H v d) {r : Res D} (hr : r = match d with
      | .bl true => f true S
      | .bl false => f false S
      | _ => .no) (h : okR K EE XA (IsR K EE) ca mu H r R W') : ∃ k, v = .bl k ∧ okR K EE XA (IsR K EE) ca mu H (f k S) R W' := by
  subst hr
  cases i with
  | bl k => cases k <;> exact ⟨_, rfl, h⟩
  | _ => exact h.elim
theorem snd_and {rest : List Expr} (ha : PE X ea (RdE X.K G W a)) (hb : PE X (.BoolOp .And (eb :: rest) pos) (RdE X.K G W b)) : PE X (.BoolOp .And (ea :: eb :: rest) pos) (RdE X.K G W (.and a b)) :=
  PEimp (pe_and ha hb) fun σ H Q ⟨ca, mu, ρ, S, w, re, h⟩ => step w re h fun d S1 v ca1 mu1 H1 e1 w1 re1 i1 h1 => by
    obtain ⟨k, rfl, h2⟩ := bool_of (S := S1) (f := fun k S => bif k then ev G.cons G.call b ρ S else .ok (.bl false) S) i1 (by cases d <;> first | rfl | (rename_i z; cases z <;> rfl)) h1
    refine ⟨k, rfl, ?_⟩
    cases k with
    | true => exact iteT (last w1 re1 h2)
    | false => exact iteF (got w1 (.bl _) h2)
theorem snd_or {rest : List Expr} (ha : PE X ea (RdE X.K G W a)) (hb : PE X (.BoolOp .Or (eb :: rest) pos) (RdE X.K G W b)) : PE X (.BoolOp .Or (ea :: eb :: rest) pos) (RdE X.K G W (.or a b)) :=
  PEimp (pe_or ha hb) fun σ H Q ⟨ca, mu, ρ, S, w, re, h⟩ => step w re h fun d S1 v ca1 mu1 H1 e1 w1 re1 i1 h1 => by
    obtain ⟨k, rfl, h2⟩ := bool_of (S := S1) (f := fun k S => bif k then .ok (.bl true) S else ev G.cons G.call b ρ S) i1 (by cases d <;> first | rfl | (rename_i z; cases z <;> rfl)) h1
    refine ⟨k, rfl, ?_⟩
    cases k with
    | true => exact iteT (got w1 (.bl _) h2)
    | false => exact iteF (last w1 re1 h2)
theorem snd_not (ha : PE X ea (RdE X.K G W a)) : PE X (.UnaryOp .Not ea pos) (RdE X.K G W (.not a)) :=
  PEimp (pe_not ha) fun σ H Q ⟨ca, mu, ρ, S, w, re, h⟩ => step w re h fun d S1 v ca1 mu1 H1 e1 w1 re1 i1 h1 => by
    obtain ⟨k, rfl, h2⟩ := bool_of (S := S1) (f := fun k S => .ok (.bl (!k)) S) i1 (by cases d <;> first | rfl | (rename_i z; cases z <;> rfl)) h1
    exact ⟨k, rfl, got w1 (.bl _) h2⟩
theorem snd_andT {rest : List Expr} (ha : PT X ea (RdT X.K G W a)) (hb : PW X (.BoolOp .And (eb :: rest) pos) (RdT X.K G W b)) : PW X (.BoolOp .And (ea :: eb :: rest) pos) (RdT X.K G W (.and a b)) :=
  PWimp (pw_and ha hb) fun σ H Q ⟨ca, mu, ρ, S, w, re, h⟩ => step w re h fun d S1 v ca1 mu1 H1 e1 w1 re1 i1 h1 => by
    obtain ⟨k, rfl, h2⟩ := bool_of (S := S1) (f := fun k S => bif k then ev G.cons G.call b ρ S else .ok (.bl false) S) i1 (by cases d <;> first | rfl | (rename_i z; cases z <;> rfl)) h1
    refine ⟨k, rfl, ?_⟩
    cases k with
    | true => exact iteT (last w1 re1 h2)
    | false =>
      obtain ⟨b, e, q⟩ := got w1 (.bl _) h2
      cases e
      exact iteF q
theorem snd_orT {rest : List Expr} (ha : PT X ea (RdT X.K G W a)) (hb : PW X (.BoolOp .Or (eb :: rest) pos) (RdT X.K G W b)) : PW X (.BoolOp .Or (ea :: eb :: rest) pos) (RdT X.K G W (.or a b)) :=
  PWimp (pw_or ha hb) fun σ H Q ⟨ca, mu, ρ, S, w, re, h⟩ => step w re h fun d S1 v ca1 mu1 H1 e1 w1 re1 i1 h1 => by
    obtain ⟨k, rfl, h2⟩ := bool_of (S := S1) (f := fun k S => bif k then .ok (.bl true) S else ev G.cons G.call b ρ S) i1 (by cases d <;> first | rfl | (rename_i z; cases z <;> rfl)) h1
    refine ⟨k, rfl, ?_⟩
    cases k with
    | true =>
      obtain ⟨b, e, q⟩ := got w1 (.bl _) h2
      cases e
      exact iteT q
    | false => exact iteF (last w1 re1 h2)
theorem snd_notT (ha : PT X ea (RdT X.K G W a)) : PT X (.UnaryOp .Not ea pos) (RdT X.K G W (.not a)) :=
  PTimp (pt_not ha) fun σ H Q ⟨ca, mu, ρ, S, w, re, h⟩ => step w re h fun d S1 v ca1 mu1 H1 e1 w1 re1 i1 h1 => by
    obtain ⟨k, rfl, h2⟩ := bool_of (S := S1) (f := fun k S => .ok (.bl (!k)) S) i1 (by cases d <;> first | rfl | (rename_i z; cases z <;> rfl)) h1
    refine ⟨k, rfl, ?_⟩
    obtain ⟨b, e, q⟩ := got w1 (.bl _) h2
    cases e
    exact q
theorem snd_ite (hc : PT X ec (RdT X.K G W c)) (ha : PE X ea (RdE X.K G W a)) (hb : PE X eb (RdE X.K G W b)) : PE X (.IfExp ec ea eb pos) (RdE X.K G W (.ite c a b)) :=
  PEimp (pe_ifExp hc ha hb) fun σ H Q ⟨ca, mu, ρ, S, w, re, h⟩ => step w re h fun d S1 v ca1 mu1 H1 e1 w1 re1 i1 h1 => by
    obtain ⟨k, rfl, h2⟩ := bool_of (S := S1) (f := fun k S => bif k then ev G.cons G.call a ρ S else ev G.cons G.call b ρ S) i1 (by cases d <;> first | rfl | (rename_i z; cases z <;> rfl)) h1
    refine ⟨k, rfl, ?_⟩
    cases k with
    | true => exact iteT (last w1 re1 h2)
    | false => exact iteF (last w1 re1 h2)
theorem snd_idx (hu : X.A.units + 65 < cLine) (ha : PE X ea (RdE X.K G W a)) (hb : PE X eb (RdE X.K G W b)) (hs : PlainIx eb) : PE X (.Subscript ea eb pos) (RdE X.K G W (.idx a b)) :=
  PEimp (PEor (pe_ix ix_seq ha hb hs) (pe_dget (by omega) ha hb hs)) fun σ H Q ⟨ca, mu, ρ, S, w, re, h⟩ => by
    have h : okR X.K G.EE G.XA (IsR X.K G.EE) ca mu H ((ev G.cons G.call a ρ S).bind fun x S => (ev G.cons G.call b ρ S).bind fun y S => lift (idxD S x y) S) Q (fun c d H' => W c d σ H') := h
    cases qa : ev G.cons G.call a ρ S with
    | no => rw [qa] at h; exact h.elim
    | exc x S1 => rw [qa] at h; exact .inl ⟨ca, mu, ρ, S, w, re, by rw [qa]; exact h⟩
    | ok d S1 =>
      rw [qa] at h
      have h : okR X.K G.EE G.XA (IsR X.K G.EE) ca mu H ((ev G.cons G.call b ρ S1).bind fun y S => lift (idxD S d y) S) Q (fun c d H' => W c d σ H') := h
      cases qb : ev G.cons G.call b ρ S1 with
      | no => rw [qb] at h; exact h.elim
      | exc x S2 =>
        rw [qb] at h
        refine .inl ⟨ca, mu, ρ, S, w, re, ?_⟩
        rw [qa]
        intro v ca1 mu1 H1 e1 w1 i1
        refine ⟨ca1, mu1, ρ, S1, w1, re.ext e1, ?_⟩
        rw [qb]
        exact okR.rebase (r := .exc x S2) (rel := IsR X.K G.EE) (Q := fun _ _ => True) h e1
      | ok d2 S2 =>
        rw [qb] at h
        have h : okR X.K G.EE G.XA (IsR X.K G.EE) ca mu H (lift (idxD S2 d d2) S2) Q (fun c d H' => W c d σ H') := h
        cases qz : idxD S2 d d2 with
        | none => rw [qz] at h; exact h.elim
        | some z =>
          rw [qz] at h
          cases hk : dicLike S2 d with
          | true =>
            right
            refine ⟨ca, mu, ρ, S, w, re, ?_⟩
            rw [qa]
            intro v ca1 mu1 H1 e1 w1 i1
            refine ⟨ca1, mu1, ρ, S1, w1, re.ext e1, ?_⟩
            rw [qb]
            intro v2 ca2 mu2 H2 e2 w2 i2
            rcases idx_ok w2 (i1.ex e2) i2 qz with ⟨z0, _⟩ | ⟨_, p, u, g1, g2, g3⟩
            · rw [hk] at z0; cases z0
            · exact ⟨p, u, g1, g2, got w2 g3 (okR.rebase h (e1.trans e2))⟩
          | false =>
            left
            refine ⟨ca, mu, ρ, S, w, re, ?_⟩
            rw [qa]
            intro v ca1 mu1 H1 e1 w1 i1
            refine ⟨ca1, mu1, ρ, S1, w1, re.ext e1, ?_⟩
            rw [qb]
            intro v2 ca2 mu2 H2 e2 w2 i2
            rcases idx_ok w2 (i1.ex e2) i2 qz with ⟨_, u, g1, g2⟩ | ⟨z0, _⟩
            · exact g2 Q (got w2 g1 (okR.rebase h (e1.trans e2)))
            · rw [hk] at z0; cases z0

/-! ### slices -/
theorem bind_assoc {α β γ : Type} (r : Res α) (f : α → Sto → Res β) (g : β → Sto → Res γ) : (r.bind f).bind g = r.bind fun a S => (f a S).bind g := by
  cases r <;> rfl
theorem snd_onone : PO X none (RdO X.K G W .none) := POimp po_none fun σ H Q ⟨ca, mu, ρ, S, w, re, h⟩ => h none ca mu H Ext.refl w rfl
theorem snd_osome (ha : PE X ea (RdE X.K G W a)) : PO X (some ea) (RdO X.K G W (.some a)) :=
  POimp (po_some ha) fun σ H Q ⟨ca, mu, ρ, S, w, re, h⟩ => step w re h fun d S1 v ca1 mu1 H1 e1 w1 re1 i1 h1 => by
    cases i1 with
    | int i => exact ⟨i, rfl, h1 _ ca1 mu1 H1 Ext.refl w1 rfl⟩
    | _ => exact h1.elim
theorem snd_sli {lo hi : Oe} {l u : Option Expr} {p2 : Pos} (ha : PE X ea (RdE X.K G W a)) (hl : PO X l (RdO X.K G W lo)) (hh : PO X u (RdO X.K G W hi)) : PE X (.Subscript ea (.Slice l u none p2) pos) (RdE X.K G W (.sli a lo hi)) :=
  PEimp (pe_slice sl_cut ha hl hh) fun σ H Q ⟨ca, mu, ρ, S, w, re, h⟩ => step w re h fun d S1 v ca1 mu1 H1 e1 w1 re1 i1 h1 => step w1 re1 h1 fun o S2 o' ca2 mu2 H2 e2 w2 re2 i2 h2 => step w2 re2 h2 fun o3 S3 o3' ca3 mu3 H3 e3 w3 re3 i3 h3 => by
    subst i2 i3
    exact cut_ok w3 ((i1.ex e2).ex e3) h3
/-! ### argument lists, displays -/
theorem star_ne {e : Expr} (h : notStar e = true) (es : List Expr) (env : PySem.Env) : starEach (e :: es) env = (false, eval e env) :: starEach es env := by
  cases e <;> first | rfl | cases h
theorem snd_anil : PA X [] (RdA X.K G W .nil) := PAimp pa_nil fun σ H Q ⟨ca, mu, ρ, S, w, re, h⟩ => h [] ca mu H Ext.refl w .nil
theorem snd_acons {es : List Expr} {as : Exs} (ha : PE X ea (RdE X.K G W a)) (hs : PA X es (RdA X.K G W as)) (hn : notStar ea = true) : PA X (ea :: es) (RdA X.K G W (.cons a as)) :=
  PAimp (pa_cons ha hs (star_ne hn es _)) fun σ H Q ⟨ca, mu, ρ, S, w, re, h⟩ => step w re h fun d S1 v ca1 mu1 H1 e1 w1 re1 i1 h1 => step w1 re1 h1 fun ds S2 vs ca2 mu2 H2 e2 w2 re2 i2 h2 =>
    h2 (v :: vs) ca2 mu2 H2 Ext.refl w2 (.cons (i1.ex e2) i2)
variable {es : List Expr} {as : Exs}
theorem snd_tup {k : Nat} (hs : PA X es (RdA X.K G W as)) : PE X (.Tuple es k pos) (RdE X.K G W (.tup as)) :=
  PEimp (pe_tup hs) fun σ H Q ⟨ca, mu, ρ, S, w, re, h⟩ => step w re h fun ds S1 vs ca1 mu1 H1 e1 w1 re1 i1 h1 => by
    split at h1
    · rename_i z
      exact ⟨by rw [i1.length, LN_eq]; exact z, newT w1 i1 h1⟩
    · exact h1.elim
theorem snd_lst (hs : PA X es (RdA X.K G W as)) : PE X (.List es pos) (RdE X.K G W (.lst as)) :=
  PEimp (pe_lst hs) fun σ H Q ⟨ca, mu, ρ, S, w, re, h⟩ => step w re h fun ds S1 vs ca1 mu1 H1 e1 w1 re1 i1 h1 => by
    split at h1
    · rename_i z
      exact ⟨by rw [i1.length, LN_eq]; exact z, newL w1 i1 h1⟩
    · exact h1.elim
/-- a new cell -/
theorem newCell {K : PySem.W.Frag} {EE : Ek} {ca mu : List Addr} {H : Hp} {S : Sto} {p : Addr} {o : HO} {b : Ob} (w : Wd K EE ca mu H S) (hp : H p = none) (hb : ∀ ca' mu' H', Ext ca mu H ca' mu' H' → p ∈ mu' → H' p = some o → ObR K EE ca' mu' H' p b) (ho : chg o = true) :
    Ext ca mu H (ca ++ [p]) (p :: mu) (upd H p o) ∧ Wd K EE (ca ++ [p]) (p :: mu) (upd H p o) (S ++ [b]) ∧ Is K EE (ca ++ [p]) (p :: mu) (upd H p o) (.ref p) (.cell S.length) := by
  have f := w.fresh hp
  have x : Ext ca mu H (ca ++ [p]) (p :: mu) (upd H p o) := ⟨⟨[p], rfl, fun a ha => by rw [List.mem_singleton.mp ha]; exact hp⟩, fun a ha => (List.mem_cons.mp ha).elim (fun e => .inr (by rw [e]; exact hp)) .inl,
    (Ext.new (ca := ca) (mu := mu) hp).kp, (Ext.new (ca := ca) (mu := mu) hp).tr, fun a h _ _ => List.mem_cons_of_mem _ h⟩
  refine ⟨x, ⟨by rw [List.length_append, List.length_append, w.len]; rfl, ?_, fun n a o' h1 h2 => ?_, fun a ha => ?_, tabs_new w.tb hp, fun a ha => ?_⟩, .cell ?_⟩
  · exact List.nodup_append.mpr ⟨w.nd, by simp, fun a ha b hb e => f.2 (by rw [List.mem_singleton.mp hb] at e; rw [← e]; exact ha)⟩
  · by_cases hn : n < ca.length
    · rw [List.getElem?_append_left hn] at h1
      rw [List.getElem?_append_left (by rw [← w.len]; exact hn)] at h2
      exact (w.ob n a o' h1 h2).ext x (fun h => List.mem_cons_of_mem _ h) fun h => upd_ne (fun e => f.1 (by subst e; exact h))
    · have e : n = ca.length := by
        have := (List.getElem?_eq_some_iff.mp h1).1
        rw [List.length_append] at this
        simp at this
        omega
      subst e
      rw [List.getElem?_append_right (Nat.le_refl _)] at h1
      rw [w.len, List.getElem?_append_right (Nat.le_refl _)] at h2
      simp at h1 h2
      subst h1 h2
      exact hb _ _ _ x (List.mem_cons_self ..) upd_same
  · rcases List.mem_cons.mp ha with e | ha
    · exact ⟨o, by rw [e, upd_same], ho⟩
    · obtain ⟨o1, e1, g1⟩ := w.tm a ha
      exact ⟨o1, by rw [upd_ne (ne_of_none e1 hp)]; exact e1, g1⟩
  · rcases List.mem_append.mp ha with ha | ha
    · obtain ⟨o1, e1, g1⟩ := w.tc a ha
      exact ⟨o1, by rw [upd_ne (ne_of_none e1 hp)]; exact e1, g1⟩
    · exact ⟨o, by rw [List.mem_singleton.mp ha, upd_same], ho⟩
  · rw [← w.len, List.getElem?_append_right (Nat.le_refl _)]
    simp
/-- kept out from now on -/
theorem Ext.keep {K : PySem.W.Frag} {EE : Ek} {ca mu : List Addr} {H : Hp} {S : Sto} {p : Addr} {o : HO} (w : Wd K EE ca mu H S) (hp : H p = none) (ho : chg o = true) : Ext ca mu H ca (p :: mu) (upd H p o) ∧ Wd K EE ca (p :: mu) (upd H p o) S := by
  have f := w.fresh hp
  have x : Ext ca mu H ca (p :: mu) (upd H p o) := ⟨⟨[], by simp, fun _ z => nomatch z⟩, fun a ha => (List.mem_cons.mp ha).elim (fun e => .inr (by rw [e]; exact hp)) .inl, (Ext.new (ca := ca) (mu := mu) hp).kp, (Ext.new (ca := ca) (mu := mu) hp).tr, fun a h _ _ => List.mem_cons_of_mem _ h⟩
  refine ⟨x, w.len, w.nd, fun n a o q1 q2 => (w.ob n a o q1 q2).ext x (fun z => List.mem_cons_of_mem _ z) fun z => upd_ne fun e => f.1 (by subst e; exact z), fun a ha => ?_, tabs_new w.tb hp, fun a ha => by
    obtain ⟨o1, e1, g1⟩ := w.tc a ha
    exact ⟨o1, by rw [upd_ne (ne_of_none e1 hp)]; exact e1, g1⟩⟩
  rcases List.mem_cons.mp ha with e | ha
  · exact ⟨o, by rw [e, upd_same], ho⟩
  · obtain ⟨o1, e1, g1⟩ := w.tm a ha
    exact ⟨o1, by rw [upd_ne (ne_of_none e1 hp)]; exact e1, g1⟩
theorem snd_newl (hs : PA X es (RdA X.K G W as)) : PE X (.List es pos) (RdE X.K G W (.newc (.lst as))) :=
  PEimp (pe_lst hs) fun σ H Q ⟨ca, mu, ρ, S, w, re, h⟩ => by
    have h : okR X.K G.EE G.XA (IsR X.K G.EE) ca mu H ((evs G.cons G.call as ρ S).bind fun ds S => if ds.length ≤ LN then (Res.ok (D.cell S.length) (S ++ [Ob.lst ds])) else .no) Q (fun c d H' => W c d σ H') := by
      have e : ev G.cons G.call (.newc (.lst as)) ρ S = (evs G.cons G.call as ρ S).bind fun ds S => if ds.length ≤ LN then (Res.ok (D.cell S.length) (S ++ [Ob.lst ds])) else .no := by
        show ((evs G.cons G.call as ρ S).bind _).bind _ = _
        rw [bind_assoc]
        congr 1
        funext ds S
        split <;> rfl
      rw [← e]
      exact h
    refine step w re h fun ds S1 vs ca1 mu1 H1 e1 w1 re1 i1 h1 => ?_
    split at h1
    · rename_i z
      refine ⟨by rw [i1.length, LN_eq]; exact z, fun p hp => ?_⟩
      obtain ⟨x1, x2, x3⟩ := newCell (o := .lst vs) (b := .lst ds) w1 hp (fun ca' mu' H' x m e => ⟨m, vs, e, i1.ex x⟩) rfl
      exact h1 _ _ _ _ x1 x2 x3
    · exact h1.elim
/-! ### calls -/
/-- what a def is held to: n arguments -/
def SpF (K : PySem.W.Frag) (G : En) (f n : Nat) : Sp := fun vs H Q E => vs.length = n ∧ ∃ ca mu ds S, Wd K G.EE ca mu H S ∧ IsL K G.EE ca mu H vs ds ∧ okR K G.EE G.XA (IsR K G.EE) ca mu H (G.call (.glo f) ds S) Q E
variable {f n k : Nat} {x : Str} {p : Pos} {ad : Addr} {fd : FuncData} {ps : List Str}
theorem plain_back {e : Expr} {es : List Expr} (h : ∀ e ∈ es, notStar e = true) (pos : Pos) (env : PySem.Env) : (backTo pos (starEach es env)).any (·.1) = false := by
  induction es with
  | nil => rfl
  | cons e es ih =>
    rw [star_ne (h e List.mem_cons_self)]
    show (false || (backTo pos (starEach es env)).any (·.1)) = false
    rw [ih fun e' he => h e' (List.mem_cons_of_mem _ he)]
    rfl
theorem pe_callS' {CX : CXT} {sp : Sp} {E : L2.St → XK} {e : Expr} {es : List Expr} {t : TA} (F : FnOk X.prog X.w X.K X.mg X.base CX k ad fd ps sp) (hr : Room k X.A) (hg : Gl X x) (hm : X.mg x = some (.ref ad)) (hk : PySem.W.keepIn X.K (.ref ad) = true) (hb : Binds X.K fd ps []) (hx : ∀ σ, PassesAt CX X σ (E σ))
    (ha : PA X (e :: es) t) (hdb : (x == ("__debug__" : Str)) = false) (he : starEach (e :: es) X.env = (false, eval e X.env) :: starEach es X.env) (hpl : (backTo pos (starEach es X.env)).any (·.1) = false) :
    PE X (.Call (.Name x p) (e :: es) [] pos) (tCallS sp E t) := pe_callS F hr hg hm hk hb hx ha hdb he hpl
theorem snd_call (tk : Takes X W) (F : FnOk X.prog X.w X.K X.mg X.base (L2.CX X.prog X.w) k ad fd ps (SpF X.K G f n)) (hr : Room k X.A) (hg : Gl X x) (hm : X.mg x = some (.ref ad)) (hk : PySem.W.keepIn X.K (.ref ad) = true) (hb : Binds X.K fd ps [])
    (hdb : (x == ("__debug__" : Str)) = false) (hl : ∀ ρ S ds S', evs G.cons G.call as ρ S = .ok ds S' → ds.length = n) (hs : PA X (ea :: es) (RdA X.K G W as)) (hn : notStar ea = true) (hn2 : ∀ e ∈ es, notStar e = true) :
    PE X (.Call (.Name x p) (ea :: es) [] pos) (RdE X.K G W (.call f as)) :=
  PEimp (pe_callS' F hr hg hm hk hb (fun σ => passAt tk σ) hs hdb (star_ne hn es _) (plain_back (e := ea) hn2 _ _)) fun σ H Q ⟨ca, mu, ρ, S, w, re, h⟩ =>
    ⟨ca, mu, ρ, S, w, re, okR.bind h fun ds S1 vs ca1 mu1 H1 q e1 w1 i1 h1 => ⟨by rw [i1.length]; exact hl _ _ _ _ q, ca1, mu1, ds, S1, w1, i1, h1⟩⟩
theorem snd_call0 (F : FnOk X.prog X.w X.K X.mg X.base (L2.CX X.prog X.w) k ad fd ps (SpF X.K G f 0)) (hr : Room k X.A) (hg : Gl X x) (hm : X.mg x = some (.ref ad)) (hk : PySem.W.keepIn X.K (.ref ad) = true) (hb : Binds X.K fd ps [])
    (hdb : (x == ("__debug__" : Str)) = false) : PE X (.Call (.Name x p) [] [] pos) (RdE X.K G W (.call0 f)) :=
  PEimp (pe_call0 F hr hg hm hk hb .nil passL hdb) fun σ H Q ⟨ca, mu, ρ, S, w, re, h⟩ => by
    refine ⟨rfl, ca, mu, [], S, w, .nil, ?_⟩
    have h : okR X.K G.EE G.XA (IsR X.K G.EE) ca mu H (shut (G.call (.glo f) [] S)) Q (fun c d H' => W c d σ H') := h
    cases q : G.call (.glo f) [] S with
    | ok d S' => rw [q] at h; exact h
    | exc _ _ => rw [q] at h; exact h.elim
    | no => rw [q] at h; exact h.elim
theorem boot_bi : ∀ b : Bi, bootBuiltins (Str.ofString (biId b)) = some (biVal b) := by
  intro b
  cases b <;> decide +kernel
theorem bi_names : ∀ b : Bi, Str.ofString (biId b) ≠ ("__name__" : Str) ∧ ((Str.ofString (biId b)) == ("__debug__" : Str)) = false := by
  intro b
  cases b <;> decide +kernel
theorem snd_bi {b : Bi} (hc : X.calm = true) (hg : Gl X (Str.ofString (biId b))) (hm : X.mg (Str.ofString (biId b)) = none) (hs : PA X (ea :: es) (RdA X.K G W as)) (hn : notStar ea = true) (hn2 : ∀ e ∈ es, notStar e = true) :
    PE X (.Call (.Name (Str.ofString (biId b)) p) (ea :: es) [] pos) (RdE X.K G W (.bi b as)) := by
  have hv := boot_bi b
  have hcr := cr_bi hc b
  unfold biVal at hv hcr
  have fin : ∀ σ H Q, RdE X.K G W (.bi b as) σ H Q → tCB (rBi X.K b) (RdA X.K G W as) σ H Q := fun σ H Q ⟨ca, mu, ρ, S, w, re, h⟩ => step w re h fun ds S1 vs ca1 mu1 H1 e1 w1 re1 i1 h1 => bi_ok w1 i1 h1
  cases q : biTy b with
  | true =>
    rw [q] at hv hcr
    exact PEimp (pe_callTy hcr hg hm hv hs (bi_names b).1 (bi_names b).2 (star_ne hn es _) (plain_back (e := ea) hn2 _ _)) fin
  | false =>
    rw [q] at hv hcr
    exact PEimp (pe_callB hcr hg hm hv hs (bi_names b).1 (bi_names b).2 (star_ne hn es _) (plain_back (e := ea) hn2 _ _)) fin
theorem boot_ty : ∀ t : Ty, bootBuiltins (Str.ofString (tyName t)) = some (.type (tyName t)) := by
  intro b
  cases b <;> decide +kernel
theorem ty_names : ∀ t : Ty, Str.ofString (tyName t) ≠ ("__name__" : Str) ∧ ((Str.ofString (tyName t)) == ("__debug__" : Str)) = false := by
  intro b
  cases b <;> decide +kernel
theorem snd_isi {t : Ty} {p2 : Pos} (hg : Gl X "isinstance") (hm : X.mg "isinstance" = none) (hg2 : Gl X (Str.ofString (tyName t))) (hm2 : X.mg (Str.ofString (tyName t)) = none) (ha : PE X ea (RdE X.K G W a)) (hn : notStar ea = true) :
    PE X (.Call (.Name "isinstance" p) [ea, .Name (Str.ofString (tyName t)) p2] [] pos) (RdE X.K G W (.isi a t)) :=
  PEimp (pe_callB call_isi hg hm boot_isinstance (pa_cons ha (pa_cons (pe_bltn hg2 hm2 (boot_ty t) (v := .ty (tyName t)) rfl (ty_names t).1 (ty_names t).2) pa_nil) (star_ne hn _ _)) (by decide) (by decide) (star_ne hn _ _)) fun σ H Q ⟨ca, mu, ρ, S, w, re, h⟩ => step w re h fun d S1 v ca1 mu1 H1 e1 w1 re1 i1 h1 => by
    cases q : isTy t d with
    | none => rw [q] at h1; exact h1.elim
    | some b =>
      rw [q] at h1
      obtain ⟨T, g1, g2⟩ := isi_ok i1 q
      exact ⟨v, .ty (tyName t), T, _, b, rfl, .ty _, g1, g2, got w1 (.bl b) h1⟩
end
end KI


set_option Elab.async false
set_option linter.all false
set_option maxRecDepth 100000
set_option autoImplicit false
set_option maxHeartbeats 1000000
/-! Targets, walked things, comprehensions. -/
namespace KI
open PySem PySem.Spec PyProof.Rows L2

/-! ### targets -/
/-- the target gets d: its slots are set, nothing else -/
def RdG (K : PySem.W.Frag) (EE : Ek) (tg : Tg) : TG := fun v σ H Q => ∃ ca mu d ρ ρ', Is K EE ca mu H v d ∧ RE K EE ca mu H σ ρ ∧ bindT tg d ρ = some ρ' ∧ ∀ σ', RE K EE ca mu H σ' ρ' → (∀ vs, (∀ i ∈ slotsT tg, i ∈ vs) → wipe σ' vs = wipe σ vs) → Q σ' H
def RdGs (K : PySem.W.Frag) (EE : Ek) (ts : Tgs) : TGs := fun us σ H Q => ∃ ca mu ds ρ ρ', IsL K EE ca mu H us ds ∧ RE K EE ca mu H σ ρ ∧ bindTs ts ds ρ = some ρ' ∧ ∀ σ', RE K EE ca mu H σ' ρ' → (∀ vs, (∀ i ∈ slotsTs ts, i ∈ vs) → wipe σ' vs = wipe σ vs) → Q σ' H
theorem wipe_set {σ : L2.St} {i : Nat} {o : Option V} : ∀ {vs : List Nat}, i ∈ vs → wipe (σ.set i o) vs = wipe σ vs
  | v :: vs, h => by
    unfold wipe
    by_cases hi : i ∈ vs
    · rw [wipe_set hi]
    · have e : i = v := (List.mem_cons.mp h).resolve_right hi
      subst e
      have q : ∀ us : List Nat, i ∉ us → wipe (σ.set i o) us = (wipe σ us).set i o := by
        intro us
        induction us with
        | nil => intro _; rfl
        | cons u us ih =>
          intro hu
          unfold wipe
          rw [ih fun z => hu (List.mem_cons_of_mem _ z)]
          exact List.set_comm _ _ (fun e => hu (by rw [e]; exact List.mem_cons_self))
      rw [q vs hi, List.set_set]
section
variable {X : Cx} {G : En} {W : WX} {pos : Pos}
theorem sndG_nm {i : Nat} {x : Str} (hN : X.N.Nodup) (hi : X.N[i]? = some x) (hx : Loc X.env.scope x) (hf : X.fn x = true ∨ X.env.scope.names.lookup x = some .local) : PG X (.Name x pos) (RdG X.K G.EE (.nm i)) :=
  PGimp (pg_name hN hi hx hf) fun v σ H Q ⟨ca, mu, d, ρ, ρ', i1, re, e, k⟩ => by
    cases e
    exact k _ (re.set i i1) fun vs h => wipe_set (h i (by simp [slotsT]))
theorem sndG_nil : PGs X [] (RdGs X.K G.EE .nil) :=
  PGsimp pgs_nil fun us σ H Q ⟨ca, mu, ds, ρ, ρ', i1, re, e, k⟩ => by
    cases ds with
    | nil =>
      cases i1
      cases e
      exact ⟨rfl, k _ re fun _ _ => rfl⟩
    | cons _ _ => cases e
theorem assign_ne {e : Expr} (h : notStar e = true) (es : List Expr) (env : PySem.Env) : assignEach (e :: es) env = (false, assign e env) :: assignEach es env := by
  cases e <;> first | rfl | cases h
theorem sndG_cons {e : Expr} {es : List Expr} {t : Tg} {ts : Tgs} (h1 : PG X e (RdG X.K G.EE t)) (h2 : PGs X es (RdGs X.K G.EE ts)) (hn : notStar e = true) : PGs X (e :: es) (RdGs X.K G.EE (.cons t ts)) :=
  PGsimp (pgs_cons h1 h2 (by rw [assign_ne hn]; rfl)) fun us σ H Q ⟨ca, mu, ds, ρ, ρ', i1, re, e, k⟩ => by
    cases i1 with
    | nil => cases e
    | @cons _ v vs d ds i1 i2 =>
      have e : (match bindT t d ρ with
        | some ρ' => bindTs ts ds ρ'
        | none => none) = some ρ' := e
      cases q : bindT t d ρ with
      | none => rw [q] at e; cases e
      | some ρ1 =>
        rw [q] at e
        refine ⟨v, vs, rfl, ca, mu, d, ρ, ρ1, i1, re, q, fun σ1 re1 w1 => ⟨ca, mu, ds, ρ1, ρ', i2, re1, e, fun σ2 re2 w2 => k σ2 re2 fun us h => ?_⟩⟩
        rw [w2 us fun i hi => h i (by simp [slotsTs, hi]), w1 us fun i hi => h i (by simp [slotsTs, hi])]
theorem noStar_find {es : List Expr} (h : ∀ e ∈ es, notStar e = true) (env : PySem.Env) : (assignEach es env).findIdx? (·.1) = none ∧ (assignEach es env).length = es.length := by
  induction es with
  | nil => exact ⟨rfl, rfl⟩
  | cons e es ih =>
    obtain ⟨h1, h2⟩ := ih fun e' he => h e' (List.mem_cons_of_mem _ he)
    rw [assign_ne (h e List.mem_cons_self)]
    exact ⟨by rw [List.findIdx?_cons, h1]; rfl, by rw [List.length_cons, List.length_cons, h2]⟩
/-- how many targets -/
def lenTs : Tgs → Nat
  | .nil => 0
  | .cons _ ts => lenTs ts + 1
theorem bindTs_length : ∀ {ts : Tgs} {ds : List D} {ρ ρ' : Env}, bindTs ts ds ρ = some ρ' → ds.length = lenTs ts
  | .nil, [], _, _, _ => rfl
  | .nil, _ :: _, _, _, e => by cases e
  | .cons t ts, [], _, _, e => by cases e
  | .cons t ts, d :: ds, ρ, ρ', e => by
    have e : (match bindT t d ρ with
      | some ρ' => bindTs ts ds ρ'
      | none => none) = some ρ' := e
    cases q : bindT t d ρ with
    | none => rw [q] at e; cases e
    | some ρ1 => rw [q] at e; rw [List.length_cons, bindTs_length e]; rfl
theorem sndG_tp {es : List Expr} {k : Nat} {ts : Tgs} (hc : X.calm = true) (h : PGs X es (RdGs X.K G.EE ts)) (hn : ∀ e ∈ es, notStar e = true) (hl : es.length = lenTs ts) : PG X (.Tuple es k pos) (RdG X.K G.EE (.tp ts)) :=
  PGimp (PGor (pg_tup hc h (noStar_find hn _).2 (noStar_find hn _).1) (pg_lst hc h (noStar_find hn _).2 (noStar_find hn _).1)) fun v σ H Q ⟨ca, mu, d, ρ, ρ', i1, re, e, kk⟩ => by
    cases i1 with
    | @tup _ a vs ds g1 g2 => exact .inl ⟨a, vs, rfl, g1.sq, by rw [g2.length, hl]; exact bindTs_length (ts := ts) e, ca, mu, ds, ρ, ρ', g2, re, e, kk⟩
    | @lst _ a vs ds g1 g2 g3 => exact .inr ⟨a, vs, rfl, SqL.of g1, by rw [g3.length, hl]; exact bindTs_length (ts := ts) e, ca, mu, ds, ρ, ρ', g3, re, e, kk⟩
    | _ => cases e
end
/-! ### what is walked -/
section
variable {K : PySem.W.Frag} {EE : Ek} {ca mu : List Addr} {H : Hp} {S : Sto}
theorem walkD_tup {a : Addr} {vs : List V} {ds : List D} (h1 : SqTm K mu H a vs) (h2 : IsL K EE ca mu H vs ds) : WalkD K EE (Itt K a) ca mu H ds := by
  have hl := h2.length
  refine ⟨fun i ca' mu' H' hi x => ⟨vs, vs[i]'(by omega), (h1.ext x).sq, by simp [show i < vs.length by omega]⟩, fun ca' mu' H' x => ⟨vs, (h1.ext x).sq, by omega⟩, fun i v ca' mu' H' H2 S' hi x w y => ?_⟩
  obtain ⟨e, y⟩ := y
  subst e
  obtain ⟨d, q1, q2⟩ := (h2.ex x).get' (y vs (h1.ext x).sq)
  exact ⟨d, q1, Ext.refl, w, q2⟩
theorem walkD_lst {a : Addr} {vs : List V} {ds : List D} (h1 : H a = some (.lst vs)) (hm : a ∉ mu) (h2 : IsL K EE ca mu H vs ds) : WalkD K EE (Itl K a) ca mu H ds := by
  have hl := h2.length
  refine ⟨fun i ca' mu' H' hi x => ⟨vs, vs[i]'(by omega), SqL.of (x.out h1 (nt_lst _) hm).1, by simp [show i < vs.length by omega]⟩, fun ca' mu' H' x => ⟨vs, SqL.of (x.out h1 (nt_lst _) hm).1, by omega⟩, fun i v ca' mu' H' H2 S' hi x w y => ?_⟩
  obtain ⟨e, y⟩ := y
  subst e
  obtain ⟨d, q1, q2⟩ := (h2.ex x).get' (y vs (SqL.of (x.out h1 (nt_lst _) hm).1))
  exact ⟨d, q1, Ext.refl, w, q2⟩
theorem rngL_get (n : Nat) : ∀ (lo : Int) (i : Nat), i < n → (rngL lo n)[i]? = some (.int (lo + i)) := by
  induction n with
  | zero => intro _ i h; omega
  | succ n ih =>
    intro lo i h
    cases i with
    | zero => simp [rngL]
    | succ i =>
      show (rngL (lo + 1) n)[i]? = _
      rw [ih (lo + 1) i (by omega)]
      congr 2
      omega
theorem rngL_length (n : Nat) : ∀ lo : Int, (rngL lo n).length = n := by
  induction n with
  | zero => intro _; rfl
  | succ n ih => intro lo; show (rngL (lo + 1) n).length + 1 = _; rw [ih]
theorem walkD_rng {lo : Int} {n : Nat} : WalkD K EE (Itr lo n) ca mu H (rngL lo n) := by
  refine ⟨fun i ca' mu' H' hi x => by rw [rngL_length] at hi; exact hi, fun ca' mu' H' x => by rw [rngL_length]; exact Nat.le_refl _, fun i v ca' mu' H' H2 S' hi x w y => ?_⟩
  rw [rngL_length] at hi
  obtain ⟨e, y⟩ := y
  subst e y
  exact ⟨_, rngL_get n lo i hi, Ext.refl, w, .int _⟩
end
section
variable {X : Cx} {G : En} {W : WX} {a b : Ex} {ea eb tg : Expr} {pos p : Pos}
theorem sndI_val (ha : PE X ea (RdE X.K G W a)) : PI X tg ea (RdI X.K G W (.val a)) :=
  PIimp (PIor (pi_tup ha) (pi_list ha)) fun σ H R ⟨ca, mu, ρ, S, w, re, h⟩ => by
    have h : okR X.K G.EE G.XA (WalkR X.K G.EE) ca mu H ((ev G.cons G.call a ρ S).bind fun d S => lift (items d) S) R (fun c d H' => W c d σ H') := h
    by_cases q : ∃ ds S1, ev G.cons G.call a ρ S = .ok (.lst ds) S1
    · right
      obtain ⟨ds, S1, q⟩ := q
      refine ⟨ca, mu, ρ, S, w, re, okR.bind h fun d S1' v ca1 mu1 H1 e e1 w1 i1 h1 => ?_⟩
      rw [q] at e
      cases e
      cases i1 with
      | @lst _ p vs _ g1 g2 g3 => exact ⟨p, rfl, ⟨vs, SqL.of g1⟩, h1 _ ca1 mu1 H1 Ext.refl w1 (walkD_lst g1 g2 g3)⟩
    · left
      refine ⟨ca, mu, ρ, S, w, re, okR.bind h fun d S1' v ca1 mu1 H1 e e1 w1 i1 h1 => ?_⟩
      cases i1 with
      | @lst _ p vs _ g1 g2 g3 => exact absurd ⟨_, _, e⟩ q
      | @tup _ p vs _ g1 g2 => exact ⟨p, rfl, ⟨vs, g1.sq⟩, h1 _ ca1 mu1 H1 Ext.refl w1 (walkD_tup g1 g2)⟩
      | _ => exact h1.elim
theorem sndI_rng1 (hg : Gl X "range") (hm : X.mg "range" = none) (ha : PE X ea (RdE X.K G W a)) (hn : notStar ea = true) : PI X tg (.Call (.Name "range" p) [ea] [] pos) (RdI X.K G W (.rng1 a)) :=
  PIimp (pi_range1 hg hm (pa_cons ha pa_nil (star_ne hn _ _)) (star_ne hn _ _)) fun σ H R ⟨ca, mu, ρ, S, w, re, h⟩ => by
    refine step w re h fun d S1 v ca1 mu1 H1 e1 w1 re1 i1 h1 => ?_
    cases i1 with
    | int j =>
      have h1 : okR X.K G.EE G.XA (WalkR X.K G.EE) ca1 mu1 H1 (if rngOk j then .ok (rngL 0 j.toNat) S1 else .no) R (fun c d H' => W c d σ H') := h1
      split at h1
      · rename_i z
        have z' : -(2 ^ 62) ≤ j ∧ j < 2 ^ 62 := rngOk_ok z
        exact ⟨j, rfl, z'.1, z'.2, h1 _ ca1 mu1 H1 Ext.refl w1 walkD_rng⟩
      · exact h1.elim
    | _ => exact h1.elim
theorem sndI_rng2 (hg : Gl X "range") (hm : X.mg "range" = none) (ha : PE X ea (RdE X.K G W a)) (hb : PE X eb (RdE X.K G W b)) (hn : notStar ea = true) (hn2 : notStar eb = true) : PI X tg (.Call (.Name "range" p) [ea, eb] [] pos) (RdI X.K G W (.rng2 a b)) :=
  PIimp (pi_range2 hg hm (pa_cons ha (pa_cons hb pa_nil (star_ne hn2 _ _)) (star_ne hn _ _)) (by rw [star_ne hn, star_ne hn2]; rfl) (by rw [star_ne hn2]; rfl)) fun σ H R ⟨ca, mu, ρ, S, w, re, h⟩ => by
    refine step w re h fun d S1 v ca1 mu1 H1 e1 w1 re1 i1 h1 => step w1 re1 h1 fun d2 S2 v2 ca2 mu2 H2 e2 w2 re2 i2 h2 => ?_
    cases i1 with
    | int i =>
      cases i2 with
      | int j =>
        have h2 : okR X.K G.EE G.XA (WalkR X.K G.EE) ca2 mu2 H2 (if rngOk i && rngOk j then .ok (rngL i (j - i).toNat) S2 else .no) R (fun c d H' => W c d σ H') := h2
        split at h2
        · rename_i z
          obtain ⟨z1, z2⟩ := Bool.and_eq_true_iff.mp z
          have z1' : -(2 ^ 62) ≤ i ∧ i < 2 ^ 62 := rngOk_ok z1
          have z2' : -(2 ^ 62) ≤ j ∧ j < 2 ^ 62 := rngOk_ok z2
          exact ⟨i, j, rfl, ⟨z1'.1, z1'.2, z2'.1, z2'.2⟩, h2 _ ca2 mu2 H2 Ext.refl w2 walkD_rng⟩
        · exact h2.elim
      | _ => exact h2.elim
    | _ => exact h2.elim
end
/-! ### comprehensions -/
/-- a turn, its target set -/
def lcBody (G : En) (c : Oe) (e : Ex) (ρ' : Env) (S : Sto) : Res (Option D) := (evc G.cons G.call c ρ' S).bind fun b S => bif b then (ev G.cons G.call e ρ' S).bind fun d S => .ok (some d) S else .ok none S
/-- one turn -/
def lcTurn (G : En) (own : List Nat) (tg : Tg) (c : Oe) (e : Ex) (ρ : Env) : D → Sto → Res (Option D) := fun x S => match bindT tg x (wipeE ρ own) with
  | some ρ' => lcBody G c e ρ' S
  | none => .no
theorem ev_lc (G : En) (own : List Nat) (tg : Tg) (it : It) (c : Oe) (e : Ex) (ρ : Env) (S : Sto) : ev G.cons G.call (.lc own tg it c e) ρ S = (evi G.cons G.call it ρ S).bind fun xs S => (evLc (lcTurn G own tg c e ρ) xs [] S).bind fun ds S => .ok (.lst ds) S := by
  rfl
/-- the wish of a block: nothing is raised -/
abbrev W0 : WX := fun _ _ _ _ => False
/-- what a turn does, seen from what is wanted of it -/
def tTurn (K : PySem.W.Frag) (G : En) (c : Oe) (e : Ex) (yes : VK) (no : Hp → Prop) : L2.St → Hp → Prop := fun σ H => match c with
  | .none => RdE K G W0 e σ H yes
  | .some c => RdT K G W0 c σ H fun b H' => if b = true then RdE K G W0 e σ H' yes else no H'
section
variable {K : PySem.W.Frag} {G : En} {ca mu : List Addr} {H : Hp} {S : Sto}
/-- a turn that comes through -/
theorem turn_ok {c : Oe} {e : Ex} {σ : L2.St} {ρ : Env} {yes : VK} {no : Hp → Prop} {r : Option D} {S' : Sto} (w : Wd K G.EE ca mu H S) (re : RE K G.EE ca mu H σ ρ)
    (h : lcBody G c e ρ S = .ok r S')
    (hy : ∀ d, r = some d → ∀ v ca' mu' H', Ext ca mu H ca' mu' H' → Wd K G.EE ca' mu' H' S' → Is K G.EE ca' mu' H' v d → yes v H')
    (hn : r = none → ∀ ca' mu' H', Ext ca mu H ca' mu' H' → Wd K G.EE ca' mu' H' S' → no H') : tTurn K G c e yes no σ H := by
  have elt : ∀ {ca1 mu1 H1 S1}, Ext ca mu H ca1 mu1 H1 → Wd K G.EE ca1 mu1 H1 S1 → ((ev G.cons G.call e ρ S1).bind fun d S => Res.ok (some d) S) = .ok r S' → RdE K G W0 e σ H1 yes := fun {ca1 mu1 H1 S1} x1 w1 q => by
    refine ⟨ca1, mu1, ρ, S1, w1, re.ext x1, ?_⟩
    cases qe : ev G.cons G.call e ρ S1 with
    | ok d S2 =>
      rw [qe] at q
      cases q
      exact fun v ca2 mu2 H2 x2 w2 i2 => hy d rfl v ca2 mu2 H2 (x1.trans x2) w2 i2
    | exc _ _ => rw [qe] at q; cases q
    | no => rw [qe] at q; cases q
  cases c with
  | none => exact elt Ext.refl w h
  | some c =>
    have h : (((ev G.cons G.call c ρ S).bind fun d S => match d with
        | .bl b => Res.ok b S
        | _ => .no).bind fun b S => bif b then (ev G.cons G.call e ρ S).bind fun d S => .ok (some d) S else .ok none S) = .ok r S' := h
    refine ⟨ca, mu, ρ, S, w, re, ?_⟩
    cases qc : ev G.cons G.call c ρ S with
    | no => rw [qc] at h; cases h
    | exc _ _ => rw [qc] at h; cases h
    | ok b S1 =>
      rw [qc] at h
      intro v ca1 mu1 H1 x1 w1 i1
      cases i1 with
      | bl k =>
        refine ⟨k, rfl, ?_⟩
        cases k with
        | true => exact iteT (elt x1 w1 h)
        | false =>
          cases h
          exact iteF (hn rfl ca1 mu1 H1 x1 w1)
      | _ => cases h
end
section
variable {X : Cx} {G : En} {W : WX}
/-- the tests of a clause, as a Oe has them -/
def ttOf (K : PySem.W.Frag) (G : En) : Oe → TT
  | .none => tYes
  | .some c => RdT K G W0 c
/-- what a comprehension computes is what its text asks -/
theorem lc_read {K : PySem.W.Frag} {it : It} {tg : Tg} {c : Oe} {e : Ex} {ow : List Nat} (hsl : ∀ i ∈ slotsT tg, i ∈ ow) {σ : L2.St} {H : Hp} {Q : VK} (h : RdE K G W (.lc ow tg it c e) σ H Q) : tLc (RdI K G W it) (RdG K G.EE tg) (ttOf K G c) (RdE K G W0 e) ow σ H Q := by
    obtain ⟨ca, mu, ρ, S, w, re, h⟩ := h
    rw [ev_lc] at h
    refine step w re h fun xs S1 J ca1 mu1 H1 e1 w1 re1 wk h1 => ?_
    intro D hD
    -- the list under way stands at D
    have f1 := w1.fresh hD
    obtain ⟨r0, hr0⟩ : ∃ r0, r0 = evLc (lcTurn G ow tg c e ρ) xs [] S1 := ⟨_, rfl⟩
    rw [← hr0] at h1
    have nono : r0 ≠ .no := fun z => by rw [z] at h1; exact h1
    obtain ⟨Wt, hWt⟩ : ∃ Wt : Nat → Hp → Prop, ∀ i H, Wt i H ↔ ∃ ca2 mu2 S2 acc accV, Ext ca1 mu1 H1 ca2 mu2 H ∧ D ∈ mu2 ∧ D ∉ ca2 ∧ Wd K G.EE ca2 mu2 H S2 ∧ H D = some (.lst accV) ∧ IsL K G.EE ca2 mu2 H accV acc ∧ evLc (lcTurn G ow tg c e ρ) (xs.drop i) acc S2 = r0 := ⟨_, fun _ _ => Iff.rfl⟩
    refine ⟨fun i m H => m = xs.length - i ∧ i ≤ xs.length ∧ Wt i H, ⟨xs.length, by simp, Nat.zero_le _, (hWt _ _).mpr ⟨ca1, D :: mu1, S1, [], [], (Ext.keep w1 hD rfl).1, List.mem_cons_self, f1.2, (Ext.keep w1 hD rfl).2, upd_same, .nil, by rw [List.drop_zero]; exact hr0.symm⟩⟩, ?_⟩
    rintro i m H2 ⟨rfl, hi2, hw2⟩
    obtain ⟨ca2, mu2, S2, acc, accV, x2, m2, n2, w2, d2, a2, q2⟩ := (hWt _ _).mp hw2
    by_cases hlt : i < xs.length
    · right
      refine ⟨wk.goes i ca2 mu2 H2 hlt x2, Wt (i + 1), fun H' p' => ⟨xs.length - (i + 1), by omega, rfl, hlt, p'⟩, fun v H3 y => ?_⟩
      obtain ⟨d, qd, x3, w3, i3⟩ := wk.yields i v ca2 mu2 H2 H3 S2 hlt x2 w2 y
      have hdrop : xs.drop i = d :: xs.drop (i + 1) := by
        rw [List.drop_eq_getElem_cons hlt]
        congr 1
        have := List.getElem?_eq_getElem hlt
        rw [this] at qd
        exact Option.some.inj qd
      rw [hdrop] at q2
      have q2 : (match lcTurn G ow tg c e ρ d S2 with
        | .ok (some d) S' => if acc.length < LN then evLc (lcTurn G ow tg c e ρ) (xs.drop (i + 1)) (acc ++ [d]) S' else .no
        | .ok none S' => evLc (lcTurn G ow tg c e ρ) (xs.drop (i + 1)) acc S'
        | _ => .no) = r0 := q2
      have re3 : RE K G.EE ca2 mu2 H3 (wipe σ ow) (wipeE ρ ow) := ((re1.ext x2).ext x3).wipe ow
      have D3 : H3 D = some (.lst accV) := x3.kp D _ d2 (nt_lst _) fun z => n2 z.1
      -- D behind a further piece
      have more : ∀ {ca4 mu4 H4}, Ext ca2 mu2 H3 ca4 mu4 H4 → H4 D = some (.lst accV) ∧ D ∈ mu4 ∧ D ∉ ca4 ∧ Ext ca1 mu1 H1 ca4 mu4 H4 ∧ IsL K G.EE ca4 mu4 H4 accV acc := fun {ca4 mu4 H4} x4 => by
        refine ⟨x4.kp D _ D3 (nt_lst _) fun z => n2 z.1, x4.fb D m2 n2 (by rw [D3]; simp), fun z => ?_, x2.trans (x3.trans x4), (a2.ex x3).ex x4⟩
        obtain ⟨nw, e5, f5⟩ := x4.pre
        rw [e5] at z
        rcases List.mem_append.mp z with z | z
        · exact n2 z
        · rw [f5 D z] at D3; cases D3
      cases qb : bindT tg d (wipeE ρ ow) with
      | none =>
        exfalso
        have : lcTurn G ow tg c e ρ d S2 = .no := by unfold lcTurn; rw [qb]
        rw [this] at q2
        exact nono q2.symm
      | some ρ3 =>
        have qt : lcTurn G ow tg c e ρ d S2 = lcBody G c e ρ3 S2 := by unfold lcTurn; rw [qb]
        refine ⟨ca2, mu2, d, wipeE ρ ow, ρ3, i3, re3, qb, fun σ4 re4 hw4 => ⟨?_, ?_⟩⟩
        · rw [hw4 ow hsl]
          have ww : ∀ us : List Nat, (∀ u ∈ us, u ∈ ow) → wipe (wipe σ ow) us = wipe σ ow := by
            intro us
            induction us with
            | nil => intro _; rfl
            | cons u us ih =>
              intro hu
              show (wipe (wipe σ ow) us).set u none = _
              rw [ih fun z hz => hu z (List.mem_cons_of_mem _ hz)]
              refine List.ext_getElem? fun j => ?_
              by_cases hj : u = j
              · subst hj
                by_cases hlen : u < (wipe σ ow).length
                · rw [List.getElem?_set_self hlen]
                  cases qq : (wipe σ ow)[u]? with
                  | none => rw [List.getElem?_eq_none_iff] at qq; omega
                  | some o =>
                    cases o with
                    | none => rfl
                    | some z => exact absurd (hu u List.mem_cons_self) (wipe_some qq).2
                · rw [List.getElem?_eq_none (by simpa using hlen), List.getElem?_eq_none (by omega)]
              · rw [List.getElem?_set_ne hj]
          exact ww ow fun _ h => h
        · cases qr : lcTurn G ow tg c e ρ d S2 with
          | no => rw [qr] at q2; exact absurd q2.symm nono
          | exc _ _ => rw [qr] at q2; exact absurd q2.symm nono
          | ok r S4 =>
            rw [qr] at q2
            have T := turn_ok (G := G) (c := c) (e := e) (yes := fun y H4 => ∃ acc, H4 D = some (.lst acc) ∧ acc.length < sizeLine ∧ Wt (i + 1) (upd H4 D (.lst (acc ++ [y])))) (no := Wt (i + 1)) w3 re4 (qt.symm.trans qr) (fun d4 e4 v4 ca4 mu4 H4 x4 w4 i4 => ?_) (fun e4 ca4 mu4 H4 x4 w4 => ?_)
            · cases c with
              | none => exact T
              | some c => exact T
            · -- one item more
              subst e4
              have q2 : (if acc.length < LN then evLc (lcTurn G ow tg c e ρ) (xs.drop (i + 1)) (acc ++ [d4]) S4 else .no) = r0 := q2
              by_cases hz : acc.length < LN
              · rw [if_pos hz] at q2
                obtain ⟨z1, z2, z3, z4, z5⟩ := more x4
                exact ⟨accV, z1, by rw [LN_eq, z5.length]; exact hz, (hWt _ _).mpr ⟨ca4, mu4, S4, acc ++ [d4], accV ++ [v4], z4.updOut hD, z2, z3, w4.updOut z2 z3 rfl, upd_same, IsL.updOut z2 _ (z5.append (.cons i4 .nil)), q2⟩⟩
              · rw [if_neg hz] at q2
                exact absurd q2.symm nono
            · subst e4
              obtain ⟨z1, z2, z3, z4, z5⟩ := more x4
              exact (hWt _ _).mpr ⟨ca4, mu4, S4, acc, accV, z4, z2, z3, w4, z1, z5, q2⟩
    · left
      have e : i = xs.length := by omega
      subst e
      refine ⟨wk.stops ca2 mu2 H2 x2, ?_⟩
      rw [List.drop_length] at q2
      have q2 : Res.ok acc S2 = r0 := q2
      rw [← q2] at h1
      exact h1 _ ca2 _ H2 (x2.drop hD) (w2.drop n2) (.lst d2 (by simp) (IsL.mono (fun a h => (List.mem_filter.mp h).1) _ a2))
theorem snd_lc {elt tgx iter : Expr} {ifs : List Expr} {scope : Scope} {own : List (Str × Nat)} {ow : List Nat} {pos : Pos} {it : It} {tg : Tg} {c : Oe} {e : Ex} (hc : X.calm = true) (hN : X.N.Nodup) (hi : PI X tgx iter (RdI X.K G W it)) (ok : BlkOk X.N X.env.scope scope own) (ho : own.map (·.2) = ow) (hsl : ∀ i ∈ slotsT tg, i ∈ ow)
    (hg : ∀ (s : Shared) (H : Hp) (C : Addr) (cl : List (Str × Addr)) (fp : List Addr), PG (X.blk s H scope (compEnvC scope cl C X.env) fp) tgx (RdG X.K G.EE tg))
    (ht : ∀ (s : Shared) (H : Hp) (C : Addr) (cl : List (Str × Addr)) (fp : List Addr), PTs (X.blk s H scope (compEnvC scope cl C X.env) fp) ifs (ttOf X.K G c))
    (he : ∀ (s : Shared) (H : Hp) (C : Addr) (cl : List (Str × Addr)) (fp : List Addr), PE (X.blk s H scope (compEnvC scope cl C X.env) fp) elt (RdE X.K G W0 e)) (hs : ∀ x, foldedSetIterable iter X.env x = pure x) :
    PE X (.ListComp elt [⟨tgx, iter, ifs, 0⟩] scope pos) (RdE X.K G W (.lc ow tg it c e)) :=
  PEimp (pe_lc hc hN hi ok hg ht he hs) fun σ H Q h => by rw [ho]; exact lc_read hsl h
end
end KI


set_option Elab.async false
set_option linter.all false
set_option maxRecDepth 100000
set_option autoImplicit false
set_option maxHeartbeats 2000000
/-! enumerate of a tuple. -/
namespace KI
open PySem PySem.Spec PyProof.Rows L2
open Sem (wp)
open AutoSeq1 (wpAny_loadPart')

theorem meets_enumT (l : Addr) (items : Array Value) (n : Nat) (dct : Option Addr) (sl : Array (Option Value)) :
    Meets (Builtin.«enumerate.__new__» ⟨[.type "enumerate", .ref l], []⟩) (fun _ R s => s.heap.get? l = some { cls := .type "tuple", dict := dct, data := .seq items n, slots := sl } ∧
      R (.ok (.ret (.ref (s.heap.push { cls := .type "tuple_iterator", data := .fields #[.ref l, .int 0 0] }).objs.size)))
        { s with heap := (s.heap.push { cls := .type "tuple_iterator", data := .fields #[.ref l, .int 0 0] }).push { cls := .type "enumerate", data := .fields #[.none, .bool false, .ref s.heap.objs.size, rawInt 0, .none, .none] } }) :=
  .of_wp fun prog w A R s h => by
    obtain ⟨hp, g, d, tk, os⟩ := s; obtain ⟨hl, h⟩ := h
    have hsub := sub_enumerate
    have hL : Heap.IsTuple (Shared.heap ⟨hp, g, d, tk, os⟩) l items := ⟨_, hl, rfl, n, rfl⟩
    wp_walk using wpAny_loadPart' hl
    refine wpAny_stack_any fun st => wpAny_pure ?_
    split
    · rename_i c _ _ _ _ _
      cases (c == Value.type "enumerate")
      · wp_walk using wpAny_loadPart' hl, wpAny_pyIter_tuple hL
        exact ⟨_, rfl, h⟩
      · wp_walk using wpAny_loadPart' hl, wpAny_pyIter_tuple hL
        exact ⟨_, rfl, h⟩
    · wp_walk using wpAny_loadPart' hl, wpAny_pyIter_tuple hL
      exact ⟨_, rfl, h⟩
section
variable {prog : Program} {w : World} {A : Around} {E : Value → Shared → Prop} {s : Shared}
theorem call_enumT {l : Addr} {items : Array Value} {Q : Value → Shared → Prop} (hL : s.heap.IsTuple l items)
    (h : ∀ h', IsEnum h' (s.heap.objs.size + 1) s.heap.objs.size 0 .none → h'.IsTupleIter s.heap.objs.size l 0 → h'.objs.size = s.heap.objs.size + 2 →
      (∀ b o, s.heap.get? b = some o → h'.get? b = some o) → Q (.ref (s.heap.objs.size + 1)) { s with heap := h' }) :
    wpAny (model prog w) A (call (.type "enumerate") [.ref l]) Q E s := by
  obtain ⟨⟨c, dct, dt, sl⟩, hl, hc, n, hd⟩ := hL
  replace hc : c = .type "tuple" := hc
  replace hd : dt = .seq items n := hd
  subst hc hd
  refine callType_new F.called_enumerate (by decide) (F.typeCall_enumerate_1 _) (F.newCall_enumerate_1 _) (fun obj => F.args_object_init_2 obj _) F.entry_enumerate_new
    (meets_enumT l items n dct sl) ⟨hl, ?_⟩
  have hz : (s.heap.push { cls := .type "tuple_iterator", data := .fields #[.ref l, .int 0 0] }).objs.size = s.heap.objs.size + 1 := Heap.size_push ..
  show _ ∧ _
  rw [hz]
  have he : IsEnum ((s.heap.push { cls := .type "tuple_iterator", data := .fields #[.ref l, .int 0 0] }).push
      { cls := .type "enumerate", data := .fields #[.none, .bool false, .ref s.heap.objs.size, rawInt 0, .none, .none] }) (s.heap.objs.size + 1) s.heap.objs.size 0 .none := by
    have := Heap.get?_push_size (s.heap.push { cls := .type "tuple_iterator", data := .fields #[.ref l, .int 0 0] })
      (o := { cls := .type "enumerate", data := .fields #[.none, .bool false, .ref s.heap.objs.size, rawInt 0, .none, .none] }) rfl
    rw [hz] at this; exact this
  refine ⟨⟨_, he, rfl⟩, h _ he ⟨_, Heap.get?_push_of_some _ (Heap.get?_push_size _ rfl), rfl, rfl⟩ (by rw [Heap.size_push, hz]) fun b o x => Heap.get?_push_of_some _ (Heap.get?_push_of_some _ x)⟩
end
/-- the tuple at a, each item in a new pair -/
def IteT (K : PySem.W.Frag) (a : Addr) : L2.It :=
  ⟨fun i H => ∃ (xs : List V) (x : V), SqT K H a xs ∧ xs[i]? = some x, fun i H v H' => ∃ T x, v = .ref T ∧ H T = none ∧ H' = upd H T (.tup [.int (i : Nat), x]) ∧ ∀ xs, SqT K H a xs → xs[i]? = some x, fun i H => ∃ xs : List V, SqT K H a xs ∧ xs.length = i⟩
theorem turn_enumT {P : Program} {w : World} {K : PySem.W.Frag} {elts : List Expr} {kk : Nat} {tpos : Pos} (a e it : Addr) :
    Turn P w K (.Tuple elts kk tpos) (IteT K a) [e, it] e (fun i h => (∃ old, IsEnum h e it ((i : Nat) : Int) old) ∧ h.IsTupleIter it a i ∧ e ≠ it) where
  mem := by simp
  obj := fun i h st b hb => by
    obtain ⟨⟨old, he⟩, ⟨o, ho, hc, hd⟩, _⟩ := st
    have e' : b = e ∨ b = it := by simpa using hb
    rcases e' with z | z
    · rw [z]; exact ⟨_, he, fun v q => nomatch q⟩
    · rw [z]; exact ⟨o, ho, fun v q => by rw [hd] at q; cases q⟩
  keep := fun i h h' st k => let ⟨⟨old, he⟩, hi, hne⟩ := st; ⟨⟨old, k e (by simp) _ he⟩, hi.at fun o q => k it (by simp) o q, hne⟩
  item := by
    intro X hP hw hK hc i pins s σ H E I hf st hg
    subst hP hw hK
    obtain ⟨⟨old, he⟩, hit, hne⟩ := st
    obtain ⟨xs, x, hq, hx⟩ := hg
    obtain ⟨its, rv, p, hz⟩ := I.tuple hq
    obtain ⟨u, hu, ru⟩ := rv.get hx
    have hel : e < s.heap.objs.size := Heap.lt_size he
    have hil : it < s.heap.objs.size := by obtain ⟨_, q, _⟩ := hit; exact Heap.lt_size q
    have pT : s.heap.IsTuple a its.toArray := p
    have hai : a ≠ it := fun q => by
      subst q
      obtain ⟨o, h1, h2, _⟩ := pT
      obtain ⟨o', h3, h4, _⟩ := hit
      rw [h1] at h3
      cases h3
      rw [h2] at h4
      exact absurd h4 (by decide)
    have hea : e ≠ a := fun q => by
      subst q
      obtain ⟨o, h1, h2, _⟩ := pT
      unfold IsEnum at he
      rw [h1] at he
      cases he
      have h2 : Value.type "enumerate" = Value.type "tuple" := h2
      exact absurd h2 (by decide)
    have hl : i < its.toArray.size := by
      have := (List.getElem?_eq_some_iff.mp hu).1
      simpa using this
    refine wpAny_pyNext_enum_itemD (Draws.tuple (prog := X.prog) (w := X.w) (A := X.A.in1) (by have := I.ok.hd hc; exact this) it a hai its.toArray) he ⟨hit, pT⟩ hl hne (by simp [hne, hea]) fun x' h' tk hx' ho hit' hT hsz hk => ?_
    have exx : x' = u := by
      have hx' : its.toArray[i]? = some x' := hx'
      simp at hx'
      rw [hu] at hx'
      exact (Option.some.inj hx').symm
    subst exx
    refine ⟨_, rfl, wpAny_letOwnedTupleGo_enum (s := { s with heap := h', toks := tk + 1 }) ho fun h'' he' sb => ?_⟩
    have hT2 : h''.get? s.heap.objs.size = some { cls := .type "tuple", data := .seq #[.int i tk, x'] } := (sb.2 _ (Nat.ne_of_gt hel)).trans hT
    have new : ObjOk X.prog X.w (upd H s.heap.objs.size (.tup [.int (i : Nat), x])) h'' s.heap.objs.size (.tup [.int (i : Nat), x]) :=
      ⟨by show 2 ≤ sizeLine; decide, [.int i tk, x'], .cons ⟨_, rfl⟩ (.cons ru .nil), ⟨_, hT2, rfl, _, rfl⟩⟩
    have I1 : Inv X pins σ (upd H s.heap.objs.size (.tup [.int (i : Nat), x])) { s with heap := h'', toks := tk + 1 } :=
      I.turnedNew (ch := [e, it]) (fun b ob hb q => (sb.2 b (fun z => hb (by simp [z]))).trans (hk b ob (fun z => hb (by simp [z])) (fun z => hb (by simp [z])) q)) hf (Nat.le_refl _) new
    refine ⟨.ref s.heap.objs.size, _, I1, rfl, ⟨_, x, rfl, I.hok.fresh (Nat.le_refl _), rfl, fun ys hy => by rw [I.tuple_inj hy hq]; exact hx⟩, ⟨⟨x', ?_⟩, hit'.1.at fun o q => (sb.2 it (Ne.symm hne)).trans q, hne⟩, fun b hb => ?_⟩
    · have e1 : ((i + 1 : Nat) : Int) = (i : Int) + 1 := by omega
      rw [e1]; exact he'
    · have hb' : b < s.heap.objs.size := by
        have e' : b = e ∨ b = it := by simpa using hb
        rcases e' with z | z
        · rw [z]; exact hel
        · rw [z]; exact hil
      rw [upd_ne (Nat.ne_of_lt hb')]
      exact (hf b hb).1
  done := by
    intro X hP hw hK hc i pins s σ H E I hf st hg
    subst hP hw hK
    obtain ⟨⟨old, he⟩, hit, hne⟩ := st
    obtain ⟨xs, hq, hx⟩ := hg
    obtain ⟨its, rv, p, hz⟩ := I.tuple hq
    obtain ⟨f0, f1, f2, f3, f4, f5⟩ := hf it (by simp)
    have hl := rv.length
    have pT : s.heap.IsTuple a its.toArray := p
    have hai : a ≠ it := fun q => by
      subst q
      obtain ⟨o, h1, h2, _⟩ := pT
      obtain ⟨o', h3, h4, _⟩ := hit
      rw [h1] at h3
      cases h3
      rw [h2] at h4
      exact absurd h4 (by decide)
    have ei : i = its.toArray.size := by simp; omega
    refine wpAny_pyNext_enum_endD (Draws.tuple (prog := X.prog) (w := X.w) (A := X.A.in1) (by have := I.ok.hd hc; exact this) it a hai its.toArray) he ⟨by rw [← ei]; exact hit, pT⟩ fun h' eb => ⟨rfl, I.turned (t' := s.toks) (fun b o hb q => eb b o hb q) f0 f1 f3 f4 f5⟩
  self := fun A i s Q E st h => let ⟨⟨_, he⟩, _⟩ := st; wpAny_pyIter_enum he h
def iEnumT (K : PySem.W.Frag) (ta : TA) : TI := fun σ H R => ta σ H fun vs H1 => ∃ a xs, vs = [.ref a] ∧ SqT K H1 a xs ∧ R (IteT K a) H1
theorem pi_enumT {X : Cx} {e : Expr} {ta : TA} {p pos tpos : Pos} {elts : List Expr} {kk : Nat} (hg : Gl X "enumerate") (hm : X.mg "enumerate" = none) (ha : PA X [e] ta) (hs : starEach [e] X.env = [(false, eval e X.env)]) :
    PI X (.Tuple elts kk tpos) (.Call (.Name "enumerate" p) [e] [] pos) (iEnumT X.K ta) := by
  refine ⟨fun pins s σ H R I h => ?_⟩
  refine Call_ (ld_blt I hg hm boot_enumerate (PyProof.Rows.callWith_type1 (thn (ha.run pos pins s σ H _ I h) fun us s1 ⟨vs, H1, I1, r1, q1⟩ => ?_) hs rfl))
  obtain ⟨a, xs, ex, hq, q⟩ := q1
  subst ex
  cases r1 with
  | cons r rr =>
    cases rr
    cases r
    obtain ⟨its, rv, p', hz⟩ := I1.tuple hq
    refine call_enumT p' fun h' he hit hsz hk => wpAny_pyIter_enum he ?_
    have I2 : Inv X pins σ H1 { s1 with heap := h' } := I1.kept (t' := s1.toks) hk
    refine ⟨s1.heap.objs.size + 1, [s1.heap.objs.size + 1, s1.heap.objs.size], _, _, H1, rfl, I2, turn_enumT a (s1.heap.objs.size + 1) s1.heap.objs.size, ⟨⟨.none, he⟩, hit, Nat.succ_ne_self _⟩, fun b hb => ?_, q⟩
    have e' : b = s1.heap.objs.size + 1 ∨ b = s1.heap.objs.size := by simpa using hb
    have hle : s1.heap.objs.size ≤ b := by
      rcases e' with z | z
      · rw [z]; exact Nat.le_add_right _ _
      · rw [z]; exact Nat.le_refl _
    exact I1.fpOk hle (I1.hok.fresh hle)
end KI


set_option Elab.async false
set_option linter.all false
set_option maxRecDepth 100000
set_option autoImplicit false
set_option maxHeartbeats 2000000
/-! Dict displays, methods, enumerate. -/
namespace KI
open PySem PySem.Spec PyProof.Rows L2

section
variable {K : PySem.W.Frag} {EE : Ek} {ca mu l : List Addr} {H : Hp} {S : Sto} {p : Addr} {o : HO}
mutual
theorem Is.more {H : Hp} : ∀ (d : D) {v : V}, Is K EE ca mu H v d → Is K EE (ca ++ l) mu H v d
  | .non, _, h => by cases h; exact .non
  | .bl b, _, h => by cases h; exact .bl b
  | .int i, _, h => by cases h; exact .int i
  | .str s, _, h => by cases h; exact .str s
  | .tup ds, _, h => by cases h with | tup h1 h2 => exact .tup h1 (IsL.more ds h2)
  | .lst ds, _, h => by cases h with | lst h1 h2 h3 => exact .lst h1 h2 (IsL.more ds h3)
  | .dic ds, _, h => by cases h with | dic h1 h2 h3 => exact .dic h1 h2 (IsK.more ds h3)
  | .ro ds, _, h => by cases h with | ro h1 h2 => exact .ro h1 (IsL.more ds h2)
  | .cell n, _, h => by cases h with | cell h => exact .cell (by rw [List.getElem?_append_left (List.getElem?_eq_some_iff.mp h).1]; exact h)
  | .fn i, _, h => by cases h with | fn _ h => exact .fn i h
  | .clo np e ds, _, h => by cases h with | clo h1 h2 h3 h4 h5 h6 h7 => exact .clo h1 h2 h3 h4 h5 h6 (IsL.more ds h7)
theorem IsL.more {H : Hp} : ∀ (ds : List D) {vs : List V}, IsL K EE ca mu H vs ds → IsL K EE (ca ++ l) mu H vs ds
  | [], _, h => by cases h; exact .nil
  | d :: ds, _, h => by cases h with | cons h1 h2 => exact .cons (Is.more d h1) (IsL.more ds h2)
theorem IsK.more {H : Hp} : ∀ (ds : List (Key × D)) {vs : List (Key × V)}, IsK K EE ca mu H vs ds → IsK K EE (ca ++ l) mu H vs ds
  | [], _, h => by cases h; exact .nil
  | (_, d) :: ds, _, h => by cases h with | cons h1 h2 => exact .cons (Is.more d h1) (IsK.more ds h2)
end
/-- p, kept out, becomes a cell -/
theorem Wd.adopt {b : Ob} (w : Wd K EE ca mu H S) (hm : p ∈ mu) (hc : p ∉ ca) (hb : ObR K EE (ca ++ [p]) mu (upd H p o) p b) (ho : chg o = true) : Wd K EE (ca ++ [p]) mu (upd H p o) (S ++ [b]) := by
  have w1 := w.updOut (o := o) hm hc ho
  refine ⟨by rw [List.length_append, List.length_append, w.len]; rfl, List.nodup_append.mpr ⟨w.nd, by simp, fun a ha b hb e => hc (by rw [List.mem_singleton.mp hb] at e; rw [← e]; exact ha)⟩, fun n a o' h1 h2 => ?_, w1.tm, w1.tb, fun a ha => ?_⟩
  · by_cases hn : n < ca.length
    · rw [List.getElem?_append_left hn] at h1
      rw [List.getElem?_append_left (by rw [← w.len]; exact hn)] at h2
      have hb := w1.ob n a o' h1 h2
      cases o' with
      | lst xs => obtain ⟨q1, vs, q2, q3⟩ := hb; exact ⟨q1, vs, q2, IsL.more _ q3⟩
      | dct xs => obtain ⟨q1, vs, q2, q3⟩ := hb; exact ⟨q1, vs, q2, IsK.more _ q3⟩
      | ins c xs => obtain ⟨q1, dx, vs, q2, q3, q4⟩ := hb; exact ⟨q1, dx, vs, q2, q3, IsL.more _ q4⟩
      | dead => trivial
    · have e : n = ca.length := by
        have := (List.getElem?_eq_some_iff.mp h1).1
        rw [List.length_append] at this
        simp at this
        omega
      subst e
      rw [List.getElem?_append_right (Nat.le_refl _), Nat.sub_self] at h1
      rw [w.len, List.getElem?_append_right (Nat.le_refl _), Nat.sub_self] at h2
      simp at h1 h2
      subst h1 h2
      exact hb
  · rcases List.mem_append.mp ha with h | h
    · exact w1.tc a h
    · rw [List.mem_singleton.mp h]; exact w1.tm p hm
theorem Ext.adopt {ca' mu' : List Addr} {H' : Hp} (x : Ext ca mu H ca' mu' H') (hp : H p = none) : Ext ca mu H (ca' ++ [p]) mu' (upd H' p o) := by
  have y := x.updOut (o := o) hp
  obtain ⟨nw, e, f⟩ := y.pre
  exact ⟨⟨nw ++ [p], by rw [e, List.append_assoc], fun a ha => (List.mem_append.mp ha).elim (f a) fun z => by rw [List.mem_singleton.mp z]; exact hp⟩, y.mus, y.kp, y.tr, y.fb⟩
theorem IsK.zip : ∀ {ks : List Key} {vs : List V} {ds : List D}, IsL K EE ca mu H vs ds → IsK K EE ca mu H (ks.zip vs) (ks.zip ds)
  | [], _, _, _ => by simp; exact .nil
  | k :: ks, _, _, .nil => by simp; exact .nil
  | k :: ks, _, _, .cons h1 h2 => by rw [List.zip_cons_cons, List.zip_cons_cons]; exact .cons h1 (IsK.zip h2)
end
theorem zip_map : ∀ (ks : List Str) (vs : List V), (ks.zip vs).map (fun p => (V.str p.1, p.2)) = ((ks.map Sum.inr).zip vs).map (fun kv : Key × V => (kV kv.1, kv.2))
  | [], _ => rfl
  | _ :: _, [] => rfl
  | k :: ks, v :: vs => by simp only [List.zip_cons_cons, List.map_cons]; rw [zip_map ks vs]; rfl
/-- the pairs of a display -/
def PsR (K : PySem.W.Frag) (G : En) (W : WX) (ks : List Str) (es : Exs) (trs : List (TE × TE)) : Prop :=
  ∀ σ H R, RdA K G W es σ H R → tPairs trs σ H fun ps H' => ∃ vs : List V, ps = (ks.zip vs).map (fun p => (V.str p.1, p.2)) ∧ vs.length = ks.length ∧ R vs H'
section
variable {X : Cx} {G : En} {W : WX} {pos : Pos}
theorem psR_nil : PsR X.K G W [] .nil [] := fun σ H R ⟨ca, mu, ρ, S, w, re, h⟩ => ⟨[], rfl, rfl, h [] ca mu H Ext.refl w .nil⟩
theorem tPairs_imp {trs : List (TE × TE)} (mono : ∀ t ∈ trs, (∀ σ H (Q R : VK), (∀ v H, Q v H → R v H) → t.1 σ H Q → t.1 σ H R) ∧ ∀ σ H (Q R : VK), (∀ v H, Q v H → R v H) → t.2 σ H Q → t.2 σ H R) {σ : L2.St} : ∀ {H : Hp} {Q R : List (V × V) → Hp → Prop}, (∀ v H, Q v H → R v H) → tPairs trs σ H Q → tPairs trs σ H R := by
  induction trs with
  | nil => intro H Q R k h; exact k _ _ h
  | cons t trs ih =>
    obtain ⟨t1, t2⟩ := t
    intro H Q R k h
    exact (mono _ List.mem_cons_self).1 σ H _ _ (fun v H1 h1 => (mono _ List.mem_cons_self).2 σ H1 _ _ (fun v2 H2 h2 => ih (fun t ht => mono t (List.mem_cons_of_mem _ ht)) (fun ps H3 h3 => k _ _ h3) h2) h1) h
theorem rd_mono {K : PySem.W.Frag} {e : Ex} : ∀ σ H (Q R : VK), (∀ v H, Q v H → R v H) → RdE K G W e σ H Q → RdE K G W e σ H R := fun σ H Q R k ⟨ca, mu, ρ, S, w, re, h⟩ => ⟨ca, mu, ρ, S, w, re, okR.imp h fun a S b ca' mu' H' _ _ _ _ q => k _ _ q⟩
theorem psR_cons {k : Str} {ks : List Str} {e : Ex} {es : Exs} {trs : List (TE × TE)} (h2 : PsR X.K G W ks es trs) (m : ∀ t ∈ trs, (∀ σ H (Q R : VK), (∀ v H, Q v H → R v H) → t.1 σ H Q → t.1 σ H R) ∧ ∀ σ H (Q R : VK), (∀ v H, Q v H → R v H) → t.2 σ H Q → t.2 σ H R) :
    PsR X.K G W (k :: ks) (.cons e es) ((tC (.str k), RdE X.K G W e) :: trs) := fun σ H R ⟨ca, mu, ρ, S, w, re, h⟩ => by
  show RdE X.K G W e σ H fun v H1 => tPairs trs σ H1 fun ps H2 => _
  refine step w re h fun d S1 v ca1 mu1 H1 e1 w1 re1 i1 h1 => ?_
  refine tPairs_imp m (fun ps H2 hq => ?_) (h2 σ H1 (fun vs H2 => R (v :: vs) H2) (step w1 re1 h1 fun ds S2 vs ca2 mu2 H2 e2 w2 re2 i2 h2 => h2 (v :: vs) ca2 mu2 H2 Ext.refl w2 (.cons (i1.ex e2) i2)))
  obtain ⟨vs, q1, q2, q3⟩ := hq
  exact ⟨v :: vs, by rw [q1]; rfl, by rw [List.length_cons, List.length_cons, q2], q3⟩
theorem snd_newd {ks : List Str} {as : Exs} {keys : List (Option Expr)} {values : List Expr} {trs : List (TE × TE)} (hp : PPs X pos keys values trs) (ha : keys.all (·.isSome) = true) (hl : keys.length = values.length) (hk : keys.length = ks.length) (hr : PsR X.K G W ks as trs)
    (m : ∀ t ∈ trs, (∀ σ H (Q R : VK), (∀ v H, Q v H → R v H) → t.1 σ H Q → t.1 σ H R) ∧ ∀ σ H (Q R : VK), (∀ v H, Q v H → R v H) → t.2 σ H Q → t.2 σ H R) (k0 : ks ≠ []) (k15 : ks.length ≤ 15) : PE X (.Dict keys values pos) (RdE X.K G W (.newc (.dct ks as))) :=
  PEimp (pe_disp hp ha hl (fun e => k0 (List.eq_nil_of_length_eq_zero (by rw [← hk, e]; rfl))) (by rw [hk]; exact k15)) fun σ H Q ⟨ca, mu, ρ, S, w, re, h⟩ => by
    have h : okR X.K G.EE G.XA (IsR X.K G.EE) ca mu H ((evs G.cons G.call as ρ S).bind fun ds S => if ds.length = ks.length ∧ ks.length ≤ 15 ∧ ks.length ≠ 0 then (Res.ok (D.cell S.length) (S ++ [Ob.dct (mergeD [] ((ks.map Sum.inr).zip ds))])) else .no) Q (fun c d H' => W c d σ H') := by
      have e : ev G.cons G.call (.newc (.dct ks as)) ρ S = (evs G.cons G.call as ρ S).bind fun ds S => if ds.length = ks.length ∧ ks.length ≤ 15 ∧ ks.length ≠ 0 then (Res.ok (D.cell S.length) (S ++ [Ob.dct (mergeD [] ((ks.map Sum.inr).zip ds))])) else .no := by
        show ((evs G.cons G.call as ρ S).bind _).bind _ = _
        rw [bind_assoc]
        congr 1
        funext ds S
        split <;> rfl
      rw [← e]
      exact h
    intro p hp0
    obtain ⟨x0, w0⟩ := Ext.keep (o := .dK []) w hp0 rfl
    refine tPairs_imp m (fun ps H2 hq => ?_) (hr σ (upd H p (.dK [])) (fun vs H2 => vs.length = ks.length → H2 p = some (.dK []) ∧ ∃ kvs : List (Key × V), (ks.zip vs).map (fun p => (V.str p.1, p.2)) = kvs.map (fun kv => (kV kv.1, kv.2)) ∧ kvs.length ≤ 15 ∧ Q (.ref p) (upd H2 p (.dK (mergeK [] kvs)))) ?_)
    · obtain ⟨vs, q1, q2, q3⟩ := hq
      rw [q1]
      exact q3 q2
    · have hpm : p ∈ p :: mu := List.mem_cons_self
      have hpc : p ∉ ca := (w.fresh hp0).2
      refine ⟨ca, p :: mu, ρ, S, w0, re.ext x0, ?_⟩
      cases q : evs G.cons G.call as ρ S with
      | no => rw [q] at h; exact h
      | exc y S1 => rw [q] at h; exact fun cls dd ca' mu' H' e w' i => h cls dd ca' mu' H' (x0.trans e) w' i
      | ok ds S1 =>
        rw [q] at h
        intro vs ca1 mu1 H1 e1 w1 i1 hvs
        have h : okR X.K G.EE G.XA (IsR X.K G.EE) ca mu H (if ds.length = ks.length ∧ ks.length ≤ 15 ∧ ks.length ≠ 0 then (Res.ok (D.cell S1.length) (S1 ++ [Ob.dct (mergeD [] ((ks.map Sum.inr).zip ds))])) else .no) Q (fun c d H' => W c d σ H') := h
        have f1 : H1 p = some (.dK []) := e1.kp p _ upd_same (nt_dK _) fun z => hpc z.1
        have m1 : p ∈ mu1 := e1.fb p hpm hpc (by rw [upd_same]; simp)
        have c1 : p ∉ ca1 := fun z => by
          obtain ⟨nw, e, f⟩ := e1.pre
          rw [e] at z
          rcases List.mem_append.mp z with z | z
          · exact hpc z
          · have := f p z
            rw [upd_same] at this
            cases this
        split at h
        · refine ⟨f1, (ks.map Sum.inr).zip vs, zip_map ks vs, ?_, ?_⟩
          · rw [List.length_zip, List.length_map]; omega
          · have ik : IsK X.K G.EE (ca1 ++ [p]) mu1 (upd H1 p (.dK (mergeK [] ((ks.map Sum.inr).zip vs)))) (mergeK [] ((ks.map Sum.inr).zip vs)) (mergeD [] ((ks.map Sum.inr).zip ds)) :=
              IsK.more _ (IsK.updOut m1 _ (IsK.merge _ .nil (IsK.zip i1)))
            have w2 := Wd.adopt (o := .dK (mergeK [] ((ks.map Sum.inr).zip vs))) (b := .dct (mergeD [] ((ks.map Sum.inr).zip ds))) w1 m1 c1 ⟨m1, _, upd_same, ik⟩ rfl
            exact h _ _ _ _ (Ext.adopt (x0.trans e1) hp0) w2 (.cell (by rw [← w1.len, List.getElem?_append_right (Nat.le_refl _), Nat.sub_self]; rfl))
        · exact h.elim
end
end KI


set_option Elab.async false
set_option linter.all false
set_option maxRecDepth 100000
set_option autoImplicit false
set_option maxHeartbeats 2000000
/-! enumerate, zip, methods of built-in types, len(set(..)). -/
namespace KI
open PySem PySem.Spec PyProof.Rows L2 RZ

section
variable {K : PySem.W.Frag} {EE : Ek} {ca mu : List Addr} {H : Hp} {S : Sto}
theorem enumL_get : ∀ (xs : List D) (n i : Nat), (enumL n xs)[i]? = (xs[i]?).map fun x => D.tup [.int ((n + i : Nat) : Int), x]
  | [], n, i => by simp [enumL]
  | x :: xs, n, 0 => by simp [enumL]
  | x :: xs, n, i + 1 => by
    show (enumL (n + 1) xs)[i]? = _
    rw [enumL_get xs (n + 1) i]
    simp only [List.getElem?_cons_succ]
    congr 1
    funext y
    congr 3
    omega
theorem enumL_length : ∀ (xs : List D) (n : Nat), (enumL n xs).length = xs.length
  | [], _ => rfl
  | x :: xs, n => by show (enumL (n + 1) xs).length + 1 = _; rw [enumL_length xs]; rfl
theorem zipL_get : ∀ (xs ys : List D) (i : Nat) (x y : D), xs[i]? = some x → ys[i]? = some y → (zipL xs ys)[i]? = some (.tup [x, y])
  | [], _, _, _, _, h, _ => by simp at h
  | _ :: _, [], _, _, _, _, h => by simp at h
  | a :: xs, b :: ys, 0, x, y, h1, h2 => by simp at h1 h2; subst h1 h2; rfl
  | a :: xs, b :: ys, i + 1, x, y, h1, h2 => by
    show (zipL xs ys)[i]? = _
    exact zipL_get xs ys i x y (by simpa using h1) (by simpa using h2)
theorem zipL_length : ∀ (xs ys : List D), (zipL xs ys).length = min xs.length ys.length
  | [], ys => by simp [zipL]
  | _ :: _, [] => rfl
  | a :: xs, b :: ys => by show (zipL xs ys).length + 1 = _; rw [zipL_length xs ys]; simp
/-- a new pair -/
theorem new_pair {T : Addr} {x y : V} {d e : D} (w : Wd K EE ca mu H S) (hT : H T = none) (h1 : Is K EE ca mu H x d) (h2 : Is K EE ca mu H y e) :
    Ext ca mu H ca mu (upd H T (.tup [x, y])) ∧ Wd K EE ca mu (upd H T (.tup [x, y])) S ∧ Is K EE ca mu (upd H T (.tup [x, y])) (.ref T) (.tup [d, e]) :=
  ⟨Ext.new hT, w.new hT, .tup (.inl ⟨.inl upd_same, (w.fresh hT).1⟩) (.cons (h1.ex (Ext.new hT)) (.cons (h2.ex (Ext.new hT)) .nil))⟩
theorem walkD_enumT {a : Addr} {vs : List V} {ds : List D} (h1 : SqTm K mu H a vs) (h2 : IsL K EE ca mu H vs ds) : WalkD K EE (IteT K a) ca mu H (enumL 0 ds) := by
  have hl := h2.length
  refine ⟨fun i ca' mu' H' hi x => ?_, fun ca' mu' H' x => ⟨vs, (h1.ext x).sq, by rw [enumL_length]; omega⟩, fun i v ca' mu' H' H2 S' hi x w y => ?_⟩
  · rw [enumL_length] at hi
    exact ⟨vs, vs[i]'(by omega), (h1.ext x).sq, by simp [show i < vs.length by omega]⟩
  · obtain ⟨T, z, rfl, hT, rfl, hz⟩ := y
    obtain ⟨d, q1, q2⟩ := (h2.ex x).get' (hz vs (h1.ext x).sq)
    obtain ⟨a1, a2, a3⟩ := new_pair w hT (.int ((i : Nat) : Int)) q2
    exact ⟨_, by rw [enumL_get, q1, Nat.zero_add]; rfl, a1, a2, a3⟩
theorem walkD_enumL {a : Addr} {vs : List V} {ds : List D} (h1 : H a = some (.lst vs)) (hm : a ∉ mu) (h2 : IsL K EE ca mu H vs ds) : WalkD K EE (Ite K a) ca mu H (enumL 0 ds) := by
  have hl := h2.length
  refine ⟨fun i ca' mu' H' hi x => ?_, fun ca' mu' H' x => ⟨vs, SqL.of (x.out h1 (nt_lst _) hm).1, by rw [enumL_length]; omega⟩, fun i v ca' mu' H' H2 S' hi x w y => ?_⟩
  · rw [enumL_length] at hi
    exact ⟨vs, vs[i]'(by omega), SqL.of (x.out h1 (nt_lst _) hm).1, by simp [show i < vs.length by omega]⟩
  · obtain ⟨T, z, rfl, hT, rfl, hz⟩ := y
    obtain ⟨d, q1, q2⟩ := (h2.ex x).get' (hz vs (SqL.of (x.out h1 (nt_lst _) hm).1))
    obtain ⟨a1, a2, a3⟩ := new_pair w hT (.int ((i : Nat) : Int)) q2
    exact ⟨_, by rw [enumL_get, q1, Nat.zero_add]; rfl, a1, a2, a3⟩
theorem walkD_zipT {a b : Addr} {vs us : List V} {ds es : List D} (h1 : SqTm K mu H a vs) (h2 : IsL K EE ca mu H vs ds) (g1 : SqTm K mu H b us) (g2 : IsL K EE ca mu H us es) : WalkD K EE (ItzT K a b) ca mu H (zipL ds es) := by
  have hl := h2.length
  have gl := g2.length
  refine ⟨fun i ca' mu' H' hi x => ?_, fun ca' mu' H' x => ⟨vs, us, (h1.ext x).sq, (g1.ext x).sq, by rw [zipL_length]; omega⟩, fun i v ca' mu' H' H2 S' hi x w y => ?_⟩
  · rw [zipL_length] at hi
    exact ⟨vs, us, vs[i]'(by omega), us[i]'(by omega), (h1.ext x).sq, (g1.ext x).sq, by simp [show i < vs.length by omega], by simp [show i < us.length by omega]⟩
  · obtain ⟨T, z, z2, rfl, hT, rfl, hz, hz2⟩ := y
    obtain ⟨d, q1, q2⟩ := (h2.ex x).get' (hz vs (h1.ext x).sq)
    obtain ⟨e, r1, r2⟩ := (g2.ex x).get' (hz2 us (g1.ext x).sq)
    obtain ⟨a1, a2, a3⟩ := new_pair w hT q2 r2
    exact ⟨_, zipL_get _ _ _ _ _ q1 r1, a1, a2, a3⟩
theorem walkD_zipL {a b : Addr} {vs us : List V} {ds es : List D} (h1 : H a = some (.lst vs)) (hm : a ∉ mu) (h2 : IsL K EE ca mu H vs ds) (g1 : H b = some (.lst us)) (gm : b ∉ mu) (g2 : IsL K EE ca mu H us es) : WalkD K EE (Itz K a b) ca mu H (zipL ds es) := by
  have hl := h2.length
  have gl := g2.length
  refine ⟨fun i ca' mu' H' hi x => ?_, fun ca' mu' H' x => ⟨vs, us, SqL.of (x.out h1 (nt_lst _) hm).1, SqL.of (x.out g1 (nt_lst _) gm).1, by rw [zipL_length]; omega⟩, fun i v ca' mu' H' H2 S' hi x w y => ?_⟩
  · rw [zipL_length] at hi
    exact ⟨vs, us, vs[i]'(by omega), us[i]'(by omega), SqL.of (x.out h1 (nt_lst _) hm).1, SqL.of (x.out g1 (nt_lst _) gm).1, by simp [show i < vs.length by omega], by simp [show i < us.length by omega]⟩
  · obtain ⟨T, z, z2, rfl, hT, rfl, hz, hz2⟩ := y
    obtain ⟨d, q1, q2⟩ := (h2.ex x).get' (hz vs (SqL.of (x.out h1 (nt_lst _) hm).1))
    obtain ⟨e, r1, r2⟩ := (g2.ex x).get' (hz2 us (SqL.of (x.out g1 (nt_lst _) gm).1))
    obtain ⟨a1, a2, a3⟩ := new_pair w hT q2 r2
    exact ⟨_, zipL_get _ _ _ _ _ q1 r1, a1, a2, a3⟩
end
section
variable {X : Cx} {G : En} {W : WX} {a b : Ex} {ea eb : Expr} {pos p tpos : Pos} {elts : List Expr} {kk : Nat}
theorem sndI_enum (hg : Gl X "enumerate") (hm : X.mg "enumerate" = none) (ha : PE X ea (RdE X.K G W a)) (hn : notStar ea = true) : PI X (.Tuple elts kk tpos) (.Call (.Name "enumerate" p) [ea] [] pos) (RdI X.K G W (.enum a)) :=
  PIimp (PIor (pi_enumT hg hm (pa_cons ha pa_nil (star_ne hn _ _)) (star_ne hn _ _)) (pi_enum hg hm (pa_cons ha pa_nil (star_ne hn _ _)) (star_ne hn _ _))) fun σ H R ⟨ca, mu, ρ, S, w, re, h⟩ => by
    have h : okR X.K G.EE G.XA (WalkR X.K G.EE) ca mu H ((ev G.cons G.call a ρ S).bind fun d S => lift ((items d).map (enumL 0)) S) R (fun c d H' => W c d σ H') := h
    by_cases q : ∃ ds S1, ev G.cons G.call a ρ S = .ok (.lst ds) S1
    · right
      obtain ⟨ds, S1, q⟩ := q
      refine ⟨ca, mu, ρ, S, w, re, okR.bind h fun d S1' v ca1 mu1 H1 e e1 w1 i1 h1 => ?_⟩
      rw [q] at e
      cases e
      cases i1 with
      | @lst _ p vs _ g1 g2 g3 => exact ⟨p, vs, rfl, SqL.of g1, h1 _ ca1 mu1 H1 Ext.refl w1 (walkD_enumL g1 g2 g3)⟩
    · left
      refine ⟨ca, mu, ρ, S, w, re, okR.bind h fun d S1' v ca1 mu1 H1 e e1 w1 i1 h1 => ?_⟩
      cases i1 with
      | @lst _ p vs _ g1 g2 g3 => exact absurd ⟨_, _, e⟩ q
      | @tup _ p vs _ g1 g2 => exact ⟨p, vs, rfl, g1.sq, h1 _ ca1 mu1 H1 Ext.refl w1 (walkD_enumT g1 g2)⟩
      | _ => exact h1.elim
theorem sndI_zip (hg : Gl X "zip") (hm : X.mg "zip" = none) (ha : PE X ea (RdE X.K G W a)) (hb : PE X eb (RdE X.K G W b)) (hn : notStar ea = true) (hn2 : notStar eb = true) : PI X (.Tuple elts kk tpos) (.Call (.Name "zip" p) [ea, eb] [] pos) (RdI X.K G W (.zip a b)) :=
  PIimp (pi_zipA hg hm (pa_cons ha (pa_cons hb pa_nil (star_ne hn2 _ _)) (star_ne hn _ _)) (by rw [star_ne hn, star_ne hn2]) (by rw [star_ne hn2]; rfl)) fun σ H R ⟨ca, mu, ρ, S, w, re, h⟩ => by
    refine step w re h fun d S1 v ca1 mu1 H1 e1 w1 re1 i1 h1 => step w1 re1 h1 fun d2 S2 v2 ca2 mu2 H2 e2 w2 re2 i2 h2 => ?_
    have i1' := i1.ex e2
    cases i1' with
    | @lst _ p vs _ g1 g2 g3 =>
      cases i2 with
      | @lst _ q us _ k1 k2 k3 => exact ⟨p, q, vs, us, rfl, .inl ⟨SqL.of g1, SqL.of k1, h2 _ ca2 mu2 H2 Ext.refl w2 (walkD_zipL g1 g2 g3 k1 k2 k3)⟩⟩
      | _ => exact h2.elim
    | @tup _ p vs _ g1 g2 =>
      cases i2 with
      | @tup _ q us _ k1 k2 => exact ⟨p, q, vs, us, rfl, .inr ⟨g1.sq, k1.sq, h2 _ ca2 mu2 H2 Ext.refl w2 (walkD_zipT g1 g2 k1 k2)⟩⟩
      | _ => exact h2.elim
    | _ => exact h2.elim
/-! ### methods -/
theorem att_ok {o : Expr} (h : attB o = true) (m : Str) (env : PySem.Env) (w : Sem Value) : attributeBase o m env w = w := by
  unfold attributeBase
  split
  · cases h
  · rfl
variable {o : Ex} {eo ec : Expr} {c : Ex} {apos cpos : Pos}
theorem findIx_ok {x : D} : ∀ {xs : List D} {n j : Nat}, findIx n xs x = some j → n ≤ j ∧ ∃ z, xs[j - n]? = some z ∧ eqD z x = true ∧ ∀ m z', m < j - n → xs[m]? = some z' → eqD z' x = false
  | [], _, _, h => by cases h
  | y :: ys, n, j, h => by
    unfold findIx at h
    split at h
    · rename_i q
      cases h
      exact ⟨Nat.le_refl _, y, by simp, q, fun m z' hm => by omega⟩
    · rename_i q
      obtain ⟨h1, z, h2, h3, h4⟩ := findIx_ok h
      refine ⟨by omega, z, ?_, h3, fun m z' hm e => ?_⟩
      · rw [show j - n = (j - (n + 1)) + 1 by omega]
        simpa using h2
      · cases m with
        | zero => simp at e; subst e; simpa using q
        | succ m => exact h4 m z' (by omega) (by simpa using e)
theorem toPL_get : ∀ (xs : List D) (i : Nat), (toPL xs)[i]? = (xs[i]?).map toP
  | [], _ => by simp [toPL]
  | _ :: _, 0 => by simp [toPL]
  | _ :: xs, i + 1 => by simp [toPL, toPL_get xs i]
theorem shpL_get : ∀ {k : Nat} {xs : List D} {i : Nat} {z : D}, shpL k xs = true → xs[i]? = some z → shp k z = true
  | _, [], _, _, _, e => by simp at e
  | k, x :: xs, i, z, h, e => by
    have h1 := Bool.and_eq_true_iff.mp (show (shp k x && shpL k xs) = true from h)
    cases i with
    | zero => simp at e; subst e; exact h1.1
    | succ i => exact shpL_get h1.2 (by simpa using e)
theorem few_ok {es : List Expr} (hn : ∀ e ∈ es, notStar e = true) (hl : es.length < 30) (env : PySem.Env) : ((backTo cpos (starEach es env)).all (fun x => !x.1) && (backToKw cpos (keywordEach [] env)).all (fun x => x.1.isSome)
      && decide (es.length + ([] : List Keyword).length + (if ([] : List Keyword).isEmpty then 0 else 1) < 30)) = true := by
  have h := plain_back (e := .Constant .none 0 cpos) hn cpos env
  have h2 : (backTo cpos (starEach es env)).all (fun x => !x.1) = true := by
    rw [List.all_eq_true]
    intro x hx
    have := List.any_eq_false.mp h x hx
    simpa using this
  rw [h2]
  simp [backToKw, keywordEach, hl]
theorem snd_index (hu : X.A.units + 65 < cLine) (ho : PE X eo (RdE X.K G W o)) (ha : PE X ea (RdE X.K G W a)) (hn : notStar ea = true) (hb : attB eo = true) (hl : (apos.endLine == cpos.line) = true) :
    PE X (.Call (.Attribute eo "index" apos) [ea] [] cpos) (RdE X.K G W (.mth .index o (.cons a .nil))) :=
  PEimp (pe_bm PySem.F.plainAttrs_list PySem.F.slot_list_index PySem.F.type_list_index (mt_indexD hu) ho (pa_cons ha pa_nil (star_ne hn _ _)) (att_ok hb _ _ _) (few_ok (fun e he => by rw [List.mem_singleton.mp he]; exact hn) (by show 1 < 30; omega) _) hl (star_ne hn _ _) rfl) fun σ H Q ⟨ca, mu, ρ, S, w, re, h⟩ => by
    have h : okR X.K G.EE G.XA (IsR X.K G.EE) ca mu H ((ev G.cons G.call o ρ S).bind fun x S => if mtOk .index x = true then ((ev G.cons G.call a ρ S).bind fun d S => Res.ok [d] S).bind fun ds S => lift (mtD S .index x ds) S else .no) Q (fun c d H' => W c d σ H') := h
    refine step w re h fun d S1 v ca1 mu1 H1 e1 w1 re1 i1 h1 => ?_
    split at h1
    · rename_i hk
      rw [bind_assoc] at h1
      cases i1 with
      | @lst _ p vs xs g1 g2 g3 =>
        refine ⟨.inl ⟨rfl, vs, SqL.of g1⟩, step w1 re1 h1 fun d2 S2 v2 ca2 mu2 H2 e2 w2 re2 i2 h2 => ?_⟩
        have h2 : okR X.K G.EE G.XA (IsR X.K G.EE) ca2 mu2 H2 (lift (if shp 64 d2 && shpL 63 xs then (findIx 0 xs d2).map fun (n : Nat) => D.int n else none) S2) Q (fun c d H' => W c d σ H') := h2
        split at h2
        · rename_i z
          obtain ⟨z1, z2⟩ := Bool.and_eq_true_iff.mp z
          cases q : findIx 0 xs d2 with
          | none => rw [q] at h2; exact h2.elim
          | some j =>
            rw [q] at h2
            obtain ⟨_, y, r1, r2, r3⟩ := findIx_ok q
            rw [Nat.sub_zero] at r1
            have sl : shp 64 (.lst xs) = true := z2
            have i1' : Is X.K G.EE ca2 mu2 H2 (.ref p) (.lst xs) := Is.ex (.lst g1 g2 g3) e2
            refine ⟨p, v2, toP d2, toPL xs, j, toP y, rfl, rfl, i1'.dp 64 _ sl, i2.dp 64 _ z1, shaped_toP sl, shaped_toP z1, by rw [toPL_get, r1]; rfl, ?_, fun m z' hm e => ?_, got w2 (.int _) h2⟩
            · rw [eqv_toP 64 y d2 (shp_succ 63 _ (shpL_get z2 r1)) z1]; exact r2
            · rw [toPL_get] at e
              cases qm : xs[m]? with
              | none => rw [qm] at e; cases e
              | some u =>
                rw [qm] at e
                cases e
                rw [eqv_toP 64 u d2 (shp_succ 63 _ (shpL_get z2 qm)) z1]
                exact r3 m u (by omega) qm
        · exact h2.elim
      | _ => cases hk
    · exact h1.elim
theorem snd_get (hu : X.A.units + 65 < cLine) (ho : PE X eo (RdE X.K G W o)) (ha : PE X ea (RdE X.K G W a)) (hb : PE X eb (RdE X.K G W b)) (hn : notStar ea = true) (hn2 : notStar eb = true) (hat : attB eo = true) (hl : (apos.endLine == cpos.line) = true) :
    PE X (.Call (.Attribute eo "get" apos) [ea, eb] [] cpos) (RdE X.K G W (.mth .get o (.cons a (.cons b .nil)))) :=
  PEimp (pe_dget2 (by omega) ho ha hb ⟨att_ok hat _ _ _, few_ok (fun e he => (List.mem_cons.mp he).elim (fun q => by rw [q]; exact hn) fun he => by rw [List.mem_singleton.mp he]; exact hn2) (by show 2 < 30; omega) _, hl, by rw [star_ne hn, star_ne hn2]; rfl⟩) fun σ H Q ⟨ca, mu, ρ, S, w, re, h⟩ => by
    have h : okR X.K G.EE G.XA (IsR X.K G.EE) ca mu H ((ev G.cons G.call o ρ S).bind fun x S => if mtOk .get x = true then ((ev G.cons G.call a ρ S).bind fun d S => ((ev G.cons G.call b ρ S).bind fun e S => Res.ok [e] S).bind fun ds S => Res.ok (d :: ds) S).bind fun ds S => lift (mtD S .get x ds) S else .no) Q (fun c d H' => W c d σ H') := h
    refine step w re h fun d S1 v ca1 mu1 H1 e1 w1 re1 i1 h1 => ?_
    split at h1
    · rename_i hk
      rw [bind_assoc] at h1
      cases i1 with
      | @dic _ p kvs kds g1 g2 g3 =>
        refine ⟨p, rfl, .inl ⟨kvs, .inl g1⟩, step w1 re1 h1 fun d2 S2 v2 ca2 mu2 H2 e2 w2 re2 i2 h2 => ?_⟩
        rw [bind_assoc, bind_assoc] at h2
        refine step w2 re2 h2 fun d3 S3 v3 ca3 mu3 H3 e3 w3 re3 i3 h3 => ?_
        have h3 : okR X.K G.EE G.XA (IsR X.K G.EE) ca3 mu3 H3 (lift ((keyOf d2).map fun k => (dicGet kds k).getD d3) S3) Q (fun c d H' => W c d σ H') := h3
        cases qk : keyOf d2 with
        | none => rw [qk] at h3; exact h3.elim
        | some k =>
          rw [qk] at h3
          have h3 : okR X.K G.EE G.XA (IsR X.K G.EE) ca3 mu3 H3 (.ok ((dicGet kds k).getD d3) S3) Q (fun c d H' => W c d σ H') := h3
          have i1' : Is X.K G.EE ca3 mu3 H3 (.ref p) (.dic kds) := ((Is.dic g1 g2 g3 : Is X.K G.EE ca1 mu1 H1 (.ref p) (.dic kds)).ex e2).ex e3
          cases i1' with
          | @dic _ _ kvs' _ g1 g2 g3 =>
          have ek := keyOf_kV i2 qk
          subst ek
          refine ⟨valV kvs' k, DGet.k g1, ?_⟩
          cases qg : dicGet kds k with
          | none =>
            rw [qg] at h3
            rw [g3.none qg]
            exact got w3 i3 h3
          | some z =>
            rw [qg] at h3
            obtain ⟨u, r1, r2⟩ := g3.get qg
            rw [r1]
            exact got w3 r2 h3
      | _ => cases hk
    · exact h1.elim
theorem strsD_ok {K : PySem.W.Frag} {EE : Ek} {ca mu : List Addr} {H : Hp} : ∀ {ds : List D} {vs : List V} {ys : List Str}, IsL K EE ca mu H vs ds → strsD ds = some ys → vs = ys.map V.str
  | [], _, _, h, e => by cases h; cases e; rfl
  | d :: ds, _, _, h, e => by
    cases h with
    | cons h1 h2 =>
      cases h1 with
      | str i =>
        have e : (strsD ds).map (i :: ·) = some _ := e
        cases q : strsD ds with
        | none => rw [q] at e; cases e
        | some ns => rw [q] at e; cases e; rw [List.map_cons, strsD_ok h2 q]
      | _ => cases e
theorem isL_strs {K : PySem.W.Frag} {EE : Ek} {ca mu : List Addr} {H : Hp} : ∀ ys : List Str, IsL K EE ca mu H (ys.map V.str) (ys.map D.str)
  | [] => .nil
  | y :: ys => .cons (.str y) (isL_strs ys)
theorem snd_split (ho : PE X eo (RdE X.K G W o)) (ha : PE X ea (RdE X.K G W a)) (hn : notStar ea = true) (hb : attB eo = true) (hl : (apos.endLine == cpos.line) = true) :
    PE X (.Call (.Attribute eo "split" apos) [ea] [] cpos) (RdE X.K G W (.mth .split o (.cons a .nil))) :=
  PEimp (pe_bm PySem.F.plainAttrs_str PySem.F.slot_str_split PySem.F.type_str_split mt_split ho (pa_cons ha pa_nil (star_ne hn _ _)) (att_ok hb _ _ _) (few_ok (fun e he => by rw [List.mem_singleton.mp he]; exact hn) (by show 1 < 30; omega) _) hl (star_ne hn _ _) rfl) fun σ H Q ⟨ca, mu, ρ, S, w, re, h⟩ => by
    have h : okR X.K G.EE G.XA (IsR X.K G.EE) ca mu H ((ev G.cons G.call o ρ S).bind fun x S => if mtOk .split x = true then ((ev G.cons G.call a ρ S).bind fun d S => Res.ok [d] S).bind fun ds S => lift (mtD S .split x ds) S else .no) Q (fun c d H' => W c d σ H') := h
    refine step w re h fun d S1 v ca1 mu1 H1 e1 w1 re1 i1 h1 => ?_
    split at h1
    · rename_i hk
      rw [bind_assoc] at h1
      cases i1 with
      | str x =>
        refine ⟨rfl, step w1 re1 h1 fun d2 S2 v2 ca2 mu2 H2 e2 w2 re2 i2 h2 => ?_⟩
        cases i2 with
        | str y =>
          have h2 : okR X.K G.EE G.XA (IsR X.K G.EE) ca2 mu2 H2 (lift (if (y.length == 0) = false ∧ x.length + 2 ≤ LN then some (D.lst ((PySem.Txt.split x y).map .str)) else none) S2) Q (fun c d H' => W c d σ H') := h2
          split at h2
          · rename_i z
            exact ⟨x, y, rfl, rfl, z.1, by rw [LN_eq]; exact z.2, newL w2 (isL_strs _) h2⟩
          · exact h2.elim
        | _ => exact h2.elim
      | _ => cases hk
    · exact h1.elim
theorem snd_join (ho : PE X eo (RdE X.K G W o)) (ha : PE X ea (RdE X.K G W a)) (hn : notStar ea = true) (hb : attB eo = true) (hl : (apos.endLine == cpos.line) = true) :
    PE X (.Call (.Attribute eo "join" apos) [ea] [] cpos) (RdE X.K G W (.mth .join o (.cons a .nil))) :=
  PEimp (pe_bm PySem.F.plainAttrs_str PySem.F.slot_str_join PySem.F.type_str_join mt_join ho (pa_cons ha pa_nil (star_ne hn _ _)) (att_ok hb _ _ _) (few_ok (fun e he => by rw [List.mem_singleton.mp he]; exact hn) (by show 1 < 30; omega) _) hl (star_ne hn _ _) rfl) fun σ H Q ⟨ca, mu, ρ, S, w, re, h⟩ => by
    have h : okR X.K G.EE G.XA (IsR X.K G.EE) ca mu H ((ev G.cons G.call o ρ S).bind fun x S => if mtOk .join x = true then ((ev G.cons G.call a ρ S).bind fun d S => Res.ok [d] S).bind fun ds S => lift (mtD S .join x ds) S else .no) Q (fun c d H' => W c d σ H') := h
    refine step w re h fun d S1 v ca1 mu1 H1 e1 w1 re1 i1 h1 => ?_
    split at h1
    · rename_i hk
      rw [bind_assoc] at h1
      cases i1 with
      | str x =>
        refine ⟨rfl, step w1 re1 h1 fun d2 S2 v2 ca2 mu2 H2 e2 w2 re2 i2 h2 => ?_⟩
        cases i2 with
        | @lst _ p vs xs g1 g2 g3 =>
          have h2 : okR X.K G.EE G.XA (IsR X.K G.EE) ca2 mu2 H2 (lift (match strsD xs with
            | some ys => if (ys.map (·.length)).sum + ys.length * x.length ≤ 16777216 then some (.str (PySem.Txt.join x ys)) else none
            | none => none) S2) Q (fun c d H' => W c d σ H') := h2
          cases q : strsD xs with
          | none => rw [q] at h2; exact h2.elim
          | some ys =>
            rw [q] at h2
            have h2 : okR X.K G.EE G.XA (IsR X.K G.EE) ca2 mu2 H2 (lift (if (ys.map (·.length)).sum + ys.length * x.length ≤ 16777216 then some (.str (PySem.Txt.join x ys)) else none) S2) Q (fun c d H' => W c d σ H') := h2
            split at h2
            · rename_i z
              have ev := strsD_ok g3 q
              subst ev
              exact ⟨x, p, ys, rfl, rfl, .inl (SqL.of g1), z, got w2 (.str _) h2⟩
            · exact h2.elim
        | _ => exact h2.elim
      | _ => cases hk
    · exact h1.elim
end
end KI


set_option Elab.async false
set_option linter.all false
set_option maxRecDepth 100000
set_option autoImplicit false
set_option maxHeartbeats 2000000
/-! Lambdas: made, handed to a call, called. -/
namespace KI
open PySem PySem.Spec PyProof.Rows L2

/-! ### made -/
section
variable {X : Cx} {pins : List (Addr × Obj)} {σ : L2.St} {H : Hp} {s : Shared}
/-- a function object is laid -/
theorem fn_laid {F : LF} {t : Nat} {pm ctv : Value} (I : Inv X pins σ H s) :
    Inv X pins σ (upd H s.heap.objs.size (FnL s.heap.objs.size F)) { s with heap := s.heap.push (PySem.W.kla_obj "<lambda>" F.qual F.params F.body F.scope F.cl pm F.c ctv), toks := t } :=
  I.laid (fun b u e => Heap.get?_push_of_some _ e) (Nat.le_refl _) (by
    have g := Heap.get?_push_size s.heap (o := PySem.W.kla_obj "<lambda>" F.qual F.params F.body F.scope F.cl pm F.c ctv) rfl
    exact ⟨⟨_, _, pm, ctv, g⟩, ⟨_, g⟩, fun h1 h2 ⟨od, sl, p, t, z⟩ st => ⟨od, sl, p, t, st _ z⟩⟩)
theorem upd_of_some {H : Hp} {a b : Addr} {o u : HO} (n : H a = none) (e : H b = some u) : upd H a o b = some u := (upd_ne (ne_of_none e n)).trans e
theorem upd_back {H : Hp} {a b : Addr} {o : HO} (e : upd H a o b = none) : H b = none := by
  by_cases q : b = a
  · rw [q, upd_same] at e; cases e
  · rw [upd_ne q] at e; exact e
/-- what is told of a lambda just made -/
def Made (T : List (Addr × Str)) (H : Hp) (f : Addr) (F : LF) (H1 : Hp) : Prop := LamX.ExtN H H1 ∧ (∀ b, H1 b = none → H b = none) ∧ LamX.Tabs T H1 ∧ H f = none ∧ H1 f = some (FnL f F) ∧ H1 F.c = some (LamX.CodeO F.c F.qual)
theorem made_of {T : List (Addr × Str)} {F : LF} {H2 : Hp} {h' : Heap} {tk t : Nat} {pm ctv : Value} {Q : Value → Shared → Prop} (I2 : Inv X pins σ H2 { s with heap := h', toks := tk }) (e : LamX.ExtN H H2) (b : ∀ b, H2 b = none → H b = none) (tb : LamX.Tabs T H2) (hc : H2 F.c = some (LamX.CodeO F.c F.qual))
    (h : ∀ f H1 s', Inv X pins σ H1 s' → Made T H f F H1 → Q (.ref f) s') : Q (.ref h'.objs.size) { s with heap := h'.push (PySem.W.kla_obj "<lambda>" F.qual F.params F.body F.scope F.cl pm F.c ctv), toks := t } := by
  have nf : H2 h'.objs.size = none := I2.hok.fresh (Nat.le_refl _)
  exact h _ _ _ (fn_laid (F := F) (t := t) (pm := pm) (ctv := ctv) I2) ⟨fun b o q n => upd_of_some nf (e b o q n), fun b' q => b _ (upd_back q), tb.ext fun b o q => upd_of_some nf q, b _ nf, upd_same, upd_of_some nf hc⟩
/-- the evaluation of a lambda -/
theorem lam_obj {T : List (Addr × Str)} {c P : Addr} {params : Arguments} {body : Expr} {scope : Scope} {pos : Pos} {E Q : Value → Shared → Prop} (I : Inv X pins σ H s) (TB : LamX.TabB X.base X.mg c P) (hcode : X.env.code = .ref c) (hm : (P, X.env.qual ++ "<lambda>") ∈ T)
    (hu : ∀ p ∈ T, p.1 = P → p.2 = X.env.qual ++ "<lambda>") (hT : LamX.Tabs T H) (hdef : defaultsOf params X.env = ([], [])) (hfree : ∀ y ∈ scope.names, y.2 = .free → ∃ c, X.env.cells.lookup y.1 = some c)
    (h : ∀ f c' H1 s', Inv X pins σ H1 s' → Made T H f ⟨X.env.qual ++ "<lambda>", params, body, scope, cloFrom X.env.cells scope.names [], c'⟩ H1 → Q (.ref f) s') : wpAny (model X.prog X.w) X.A (eval (.Lambda params body scope pos) X.env) Q E s := by
  obtain ⟨ps, hP, ht, ha⟩ := hT _ hm
  have hP' : s.heap.get? P = some (PySem.W.tabObj ps) := I.hok P _ hP
  have bP : s.heap.BuiltinsAt X.mg P := TB.bm.keeps I.bk
  refine PySem.W.kla_eval hdef ?_
  cases hc : codeAmong pos ps.toList with
  | some cv =>
    obtain ⟨c', e, hco⟩ := ha pos cv hc
    subst e
    exact PySem.W.kla_makeFunctionHit (closure_ok hfree) I.ok.glob (I.mod.glob.keeps I.bk) hcode (TB.code.keeps I.bk) hP' ht hc bP fun ctv h' tk hx _ =>
      made_of (F := ⟨_, _, _, _, _, c'⟩) (tk := tk) (I.kept hx) (LamX.ExtN.refl H) (fun _ q => q) hT hco (h · c')
  | none =>
    refine PySem.W.kla_makeFunction (closure_ok hfree) I.ok.glob (I.mod.glob.keeps I.bk) hcode (TB.code.keeps I.bk) hP' ht hc TB.gP bP fun c' ctv h' tk hx hge hlt hrec htb => ?_
    obtain ⟨_, oc, vs, t, e2, r1, r2, r3⟩ := hrec
    cases e2
    have nC : H c' = none := I.hok.fresh hge
    have nPC : P ≠ c' := ne_of_none hP nC
    generalize hq : (ps ++ #[rawInt pos.line, rawInt pos.col, .ref c']) = ps2 at htb
    have I1 := LamX.inv_table (q := X.env.qual ++ "<lambda>") (t' := tk) (more := #[rawInt pos.line, rawInt pos.col, .ref c']) I hP (fun b o hb e => hx b o hb e) (by rw [hq]; exact htb) hge ⟨oc, vs, t, r1, r2, r3⟩
    rw [hq] at I1
    have other : ∀ b o, b ≠ P → H b = some o → upd (upd H P (.tbl ps2)) c' (LamX.CodeO c' (X.env.qual ++ "<lambda>")) b = some o := fun b o n e => by
      rw [upd_ne (ne_of_none e nC), upd_ne n]
      exact e
    refine made_of (F := ⟨_, _, _, _, _, c'⟩) (H2 := upd (upd H P (.tbl ps2)) c' (LamX.CodeO c' (X.env.qual ++ "<lambda>"))) I1 (fun b o e n => other b o (fun z => ?_) e) (fun b q => upd_back (upd_back q)) (fun p hp => ?_) upd_same (h · c')
    · rw [z, hP] at e
      exact n ps (Option.some.inj e).symm
    · by_cases hb : p.1 = P
      · rw [hu p hp hb, hb]
        refine ⟨ps2, by rw [upd_ne nPC, upd_same], ?_, fun p' cv hcv => ?_⟩
        · rw [← hq, Array.toList_append]
          exact PySem.TriplesOk_snoc _ _ _ _ ht
        · rw [← hq, Array.toList_append] at hcv
          rcases LamX.among_app _ ht hcv with z | z
          · obtain ⟨c0, e1, e2⟩ := ha p' cv z
            exact ⟨c0, e1, other _ _ (fun z => by rw [z, hP] at e2; cases e2) e2⟩
          · exact ⟨c', z, upd_same⟩
      · obtain ⟨ps', a1, a2, a3⟩ := hT p hp
        refine ⟨ps', other _ _ hb a1, a2, fun p' cv hcv => ?_⟩
        obtain ⟨c0, e1, e2⟩ := a3 p' cv hcv
        exact ⟨c0, e1, other _ _ (fun z => by rw [z, hP] at e2; cases e2) e2⟩
end
/-! ### cells known, cells hidden -/
/-- as H', but at cs as H -/
def patch (H' H : Hp) (cs : List Addr) : Hp := fun b => if b ∈ cs then H b else H' b
theorem patch_in {H' H : Hp} {cs : List Addr} {b : Addr} (h : b ∈ cs) : patch H' H cs b = H b := if_pos h
theorem patch_out {H' H : Hp} {cs : List Addr} {b : Addr} (h : b ∉ cs) : patch H' H cs b = H' b := if_neg h
/-- at cs objects that are known -/
def Known (cs : List Addr) (H : Hp) : Prop := ∀ c ∈ cs, ∃ o u, H c = some (CelO c o) ∧ o.data = .cell u
theorem Known.ext {cs : List Addr} {H : Hp} (k : Known cs H) {c : Addr} {o : HO} (h : H c = some o) (n : ∀ o', o ≠ .frz o' (.own c)) : c ∉ cs := fun z => by
  obtain ⟨o', u, e, _⟩ := k c z
  rw [e] at h
  exact n _ (Option.some.inj h).symm
section
variable {P : Program} {w : World} {H H' : Hp} {h h' : Heap} {cs fs : List Addr}
theorem Known.hok (k : Known cs H) (x : HOk P w H h) {c : Addr} (hc : c ∈ cs) : ∃ o u, h.get? c = some o ∧ o.data = .cell u ∧ H c = some (CelO c o) := by
  obtain ⟨o, u, e, d⟩ := k c hc
  exact ⟨o, u, (x c _ e).1, d, e⟩
theorem hok_hide (k : Known cs H) (x : HOk P w H h) : HOk P w (hideC H cs) h := fun a o e => by
  obtain ⟨_, e2⟩ := hideC_some e
  exact (x a o e2).stay (fun _ _ _ q => q) (fun b q => by rw [hideC_out (k.ext q fun _ z => nomatch z)]; exact q) fun b xs q => by rw [hideC_out (k.ext q fun _ z => nomatch z)]; exact q
theorem celO_ok {c : Addr} {o : Obj} (e : h.get? c = some o) : ObjOk P w H h c (CelO c o) := ⟨e, ⟨o, e⟩⟩
/-- known again -/
theorem hok_patch (k : Known cs H) (x : HOk P w H' h') (n : ∀ c ∈ cs, H' c = none) (g : ∀ c o, c ∈ cs → H c = some (CelO c o) → h'.get? c = some o) : HOk P w (patch H' H cs) h' := fun a o e => by
  by_cases ha : a ∈ cs
  · rw [patch_in ha] at e
    obtain ⟨o', u, e', _⟩ := k a ha
    rw [e'] at e
    cases e
    exact celO_ok (g a o' ha e')
  · rw [patch_out ha] at e
    have out : ∀ b u, H' b = some u → b ∉ cs := fun b u q z => by rw [n b z] at q; cases q
    exact (x a o e).stay (fun _ _ _ q => q) (fun b q => by rw [patch_out (out b _ q)]; exact q) fun b xs q => by rw [patch_out (out b _ q)]; exact q
/-- a call that ran with the cells hidden -/
theorem un_patch (k : Known cs H) (u : Un fs [] (hideC H cs) H' h h') : Un fs [] H (patch H' H cs) h h' := by
  have out : ∀ b, H b = none → b ∉ cs := fun b n z => by obtain ⟨o, v, e, _⟩ := k b z; rw [e] at n; cases n
  have hid : ∀ b, H b = none → hideC H cs b = none := fun b n => hideC_none n
  refine ⟨fun b o e n => u.keep b o e (hid b n), fun b o e n => u.slot b o e (hid b n), fun b o e n hx => by rw [patch_out (out b n)]; exact u.free b o e (hid b n) hx, u.there, fun b xs q => ?_, fun b o v q => ?_, fun b ps q => ?_⟩
  · by_cases z : b ∈ cs
    · rw [patch_in z]; exact q
    · rw [patch_out z]; exact u.tups b xs (by rw [hideC_out z]; exact q)
  · by_cases z : b ∈ cs
    · rw [patch_in z]; exact q
    · rw [patch_out z]; exact u.frzs b o v (by rw [hideC_out z]; exact q)
  · have z : b ∉ cs := k.ext q fun _ z => nomatch z
    rw [patch_out z]
    exact u.tbls b ps (by rw [hideC_out z]; exact q)
theorem hidden {fs ex : List Addr} (k : Known cs H) (x : HOk P w H h) (u : Un fs ex (hideC H cs) H' h h') (ne : ∀ c ∈ cs, c ∉ ex) : ∀ c ∈ cs, H' c = none := fun c hc => by
  obtain ⟨o, v, e, _⟩ := k.hok x hc
  exact u.free c o e (hideC_in hc) (ne c hc)
/-- a def's return, the cells hidden meanwhile -/
theorem ce_patch {outer : List PySem.Env} {s s' : Shared} {Q : VK} {v : Value} (k : Known cs H) (x : HOk P w H s.heap) (nf : ∀ c ∈ cs, c ∉ frs outer) (c : CE outer P w (hideC H cs) s (fun v H' => (∀ c ∈ cs, H' c = none) → Q v (patch H' H cs)) v s') : CE outer P w H s Q v s' := by
  obtain ⟨u, H', os, bare, un, hok, r, q⟩ := c
  have n := hidden k x un fun _ _ => by simp
  exact ⟨u, patch H' H cs, os, bare, un_patch k un, hok_patch k hok n fun c o hc e => un.keep c o (x c _ e).1 (hideC_in hc) (nf c hc) (by simp), r, q n⟩
/-- an exception that leaves a def, the cells hidden meanwhile -/
theorem cx_patch {outer : List PySem.Env} {s s' : Shared} {E : XK} {v : Value} (k : Known cs H) (x : HOk P w H s.heap) (nf : ∀ c ∈ cs, c ∉ frs outer) (c : L2.CX P w outer (hideC H cs) s (fun cls d H' => (∀ c ∈ cs, H' c = none) → E cls d (patch H' H cs)) v s') : L2.CX P w outer H s E v s' := by
  obtain ⟨a, B, H', cls, d, e1, fl, hok, ub, na, os, bare, q⟩ := c
  have n : ∀ c ∈ cs, H' c = none := fun c hc => by
    obtain ⟨o, u, e, _⟩ := k.hok x hc
    exact ub.free c o e (hideC_in hc)
  have out : ∀ b, H b = none → b ∉ cs := fun b n z => by obtain ⟨o, v, e, _⟩ := k b z; rw [e] at n; cases n
  have at_ : ∀ c o, c ∈ cs → H c = some (CelO c o) → B.get? c = some o := fun c o hc e => ub.keep c o (x c _ e).1 (hideC_in hc) (nf c hc)
  refine ⟨a, B, patch H' H cs, cls, d, e1, fl, hok_patch k hok n at_, ⟨fun b o e n => ub.keep b o e (hideC_none n), ub.slot, fun b o e n => by rw [patch_out (out b n)]; exact ub.free b o e (hideC_none n), ub.there, fun b xs q => ?_, fun b o v q => ?_, fun b ps q => ?_⟩, ?_, os, bare, q n⟩
  · by_cases z : b ∈ cs
    · rw [patch_in z]; exact q
    · rw [patch_out z]; exact ub.tups b xs (by rw [hideC_out z]; exact q)
  · by_cases z : b ∈ cs
    · rw [patch_in z]; exact q
    · rw [patch_out z]; exact ub.frzs b o v (by rw [hideC_out z]; exact q)
  · have z : b ∉ cs := k.ext q fun _ z => nomatch z
    rw [patch_out z]
    exact ub.tbls b ps (by rw [hideC_out z]; exact q)
  · by_cases z : a ∈ cs
    · obtain ⟨o, u, e, _⟩ := k a z
      have := fl.2.1
      rw [at_ a o z e] at this
      cases this
    · rw [patch_out z]; exact na
theorem env0_hide {K : PySem.W.Frag} {mg : Str → Option Value} {base : Heap} {A : Around} {outer : List PySem.Env} {s : Shared} (k : Known cs H) (e0 : Env0 P w K mg base A outer s H) : Env0 P w K mg base A outer s (hideC H cs) :=
  ⟨e0.frames, e0.mod, fun b o e => ⟨(e0.bs b o e).1, hideC_none (e0.bs b o e).2⟩, e0.bsz, e0.funs, fun b hb => hideC_none (e0.frf b hb), hok_hide k e0.hok, e0.bare⟩
/-! ### cells made known -/
/-- the objects at cs are told -/
def tell (H : Hp) (h : Heap) (cs : List Addr) : Hp := fun b => if b ∈ cs then (h.get? b).map (CelO b) else H b
theorem tell_out {b : Addr} (n : b ∉ cs) : tell H h cs b = H b := if_neg n
theorem tell_in {b : Addr} {o : Obj} (n : b ∈ cs) (e : h.get? b = some o) : tell H h cs b = some (CelO b o) := by
  unfold tell
  rw [if_pos n, e]
  rfl
/-- what is told of cs -/
structure Cels (cs : List Addr) (H : Hp) (h base : Heap) (fs : List Addr) : Prop where
  n : ∀ c ∈ cs, H c = none
  o : ∀ c ∈ cs, ∃ o u, h.get? c = some o ∧ o.data = .cell u
  b : ∀ c ∈ cs, base.get? c = none
  f : ∀ c ∈ cs, c ∉ fs
theorem Cels.known {base : Heap} (C : Cels cs H h base fs) : Known cs (tell H h cs) := fun c hc => by
  obtain ⟨o, u, e, d⟩ := C.o c hc
  exact ⟨o, u, tell_in hc e, d⟩
theorem Cels.hide {base : Heap} (C : Cels cs H h base fs) : hideC (tell H h cs) cs = H := by
  funext b
  by_cases z : b ∈ cs
  · rw [hideC_in z, C.n b z]
  · rw [hideC_out z, tell_out z]
theorem Cels.tl {base : Heap} (C : Cels cs H h base fs) {a : Addr} {o : HO} (e : H a = some o) : tell H h cs a = some o := by
  rw [tell_out fun z => by rw [C.n a z] at e; cases e]
  exact e
theorem Cels.hok {base : Heap} (C : Cels cs H h base fs) (x : HOk P w H h) : HOk P w (tell H h cs) h := fun a o e => by
  by_cases z : a ∈ cs
  · obtain ⟨o', u, e', d⟩ := C.o a z
    rw [tell_in z e'] at e
    cases e
    exact celO_ok e'
  · rw [tell_out z] at e
    exact (x a o e).stay (fun _ _ _ q => q) (fun b q => C.tl q) fun b xs q => C.tl q
theorem Cels.env0 {K : PySem.W.Frag} {mg : Str → Option Value} {base : Heap} {A : Around} {outer : List PySem.Env} {s : Shared} (C : Cels cs H s.heap base (frs outer)) (e0 : Env0 P w K mg base A outer s H) : Env0 P w K mg base A outer s (tell H s.heap cs) :=
  ⟨e0.frames, e0.mod, fun b o e => ⟨(e0.bs b o e).1, by rw [tell_out fun z => by rw [C.b b z] at e; cases e]; exact (e0.bs b o e).2⟩, e0.bsz, e0.funs, fun b hb => by rw [tell_out fun z => C.f b z hb]; exact e0.frf b hb, C.hok e0.hok, e0.bare⟩
/-- a def's return, the cells told meanwhile -/
theorem Cels.ce {base : Heap} {outer : List PySem.Env} {s s' : Shared} {Q : VK} {v : Value} (C : Cels cs H s.heap base (frs outer)) (c : CE outer P w (tell H s.heap cs) s (fun v H' => (∀ c ∈ cs, H' c = tell H s.heap cs c) ∧ Q v (hideC H' cs)) v s') : CE outer P w H s Q v s' := by
  obtain ⟨u, H', os, bare, un, hok, r, q1, q2⟩ := c
  have k : Known cs H' := fun c hc => by rw [q1 c hc]; exact C.known c hc
  have out : ∀ b, b ∉ cs → tell H s.heap cs b = H b := fun b => tell_out
  have gt : ∀ b o, b ∈ cs → s.heap.get? b = some o → s'.heap.get? b = some o := fun b o z e => by
    have := q1 b z
    rw [tell_in z e] at this
    exact (hok b _ this).1
  refine ⟨u, hideC H' cs, os, bare, ⟨fun b o e n hb hx => ?_, fun b o e n hb hx => ?_, fun b o e n hx => ?_, un.there, fun b xs q => ?_, fun b o v q => ?_, fun b ps q => ?_⟩, hok_hide k hok, r, q2⟩
  · by_cases z : b ∈ cs
    · exact gt b o z e
    · exact un.keep b o e (by rw [out b z]; exact n) hb hx
  · by_cases z : b ∈ cs
    · exact ⟨o.slots, gt b o z e⟩
    · exact un.slot b o e (by rw [out b z]; exact n) hb hx
  · by_cases z : b ∈ cs
    · exact hideC_in z
    · rw [hideC_out z]; exact un.free b o e (by rw [out b z]; exact n) hx
  · have z2 := un.tups b xs (C.tl q)
    rw [hideC_out (k.ext z2 fun _ z => nomatch z)]
    exact z2
  · rw [hideC_out fun z => by rw [C.n b z] at q; cases q]
    exact un.frzs b o v (C.tl q)
  · obtain ⟨more, z2⟩ := un.tbls b ps (C.tl q)
    exact ⟨more, by rw [hideC_out (k.ext z2 fun _ z => nomatch z)]; exact z2⟩
end
end KI


set_option Elab.async false
set_option linter.all false
set_option maxRecDepth 100000
set_option autoImplicit false
set_option maxHeartbeats 2000000
/-! What the place of an expression gives. -/
namespace KI
open PySem PySem.Spec PyProof.Rows L2

/-- what a lambda's call does -/
def LamP (P : Program) (w : World) (K : PySem.W.Frag) (mg : Str → Option Value) (base : Heap) (G : En) (k : Nat) : Prop :=
  ∀ (A : Around) (outer : List PySem.Env) (s : Shared) (H : Hp) (f : Addr) (np : Nat) (e : Ex) (cs ds : List D) (us : List Value) (vs : List V) (S : Sto) (ca mu : List Addr) (Q : VK) (E : XK), Room k A → Env0 P w K mg base A outer s H → Wd K G.EE ca mu H S →
    Is K G.EE ca mu H (.ref f) (.clo np e cs) → Vals vs us → IsL K G.EE ca mu H vs ds → ds.length = np → cfL ds = true → stoCf S = true → okR K G.EE G.XA (IsR K G.EE) ca mu H (G.call (.lam e) (ds ++ cs) S) Q E →
      codeAny (model P w) A (.call (.ref f) ⟨us, []⟩) (CR (L2.CX P w) outer P w H s Q E) s
/-- an exception's class -/
structure XcF (K : PySem.W.Frag) (mg : Str → Option Value) (C : Addr) (y : Str) : Prop where
  g : mg y = some (.ref C)
  k : PySem.W.keepIn K (.ref C) = true
  b : PySem.W.subIn K (.ref C) (.type "BaseException") = some true
  t : PySem.W.typeIn K (.ref C) = some (.type "type")
/-- what the place of an expression gives -/
structure CxOk (T : Tb) (G : En) (C : Cc) (W : WX) (X : Cx) : Prop where
  N : X.N = C.N
  nd : X.N.Nodup
  sc : X.env.scope = C.sc
  st : ∀ x, C.ss.names.lookup x = some .cell → X.fn x = true
  calm : C.calm = true → X.calm = true
  un : X.A.units + 65 < cLine
  tk : Takes X W
  tb : T = G.EE.TB
  fn : ∀ f y n, T.fn f = some (y, n) → ∃ k fd ps, FnOk X.prog X.w X.K X.mg X.base (L2.CX X.prog X.w) k (G.EE.FA f) fd ps (SpF X.K G f n) ∧ Room k X.A ∧ X.mg y = some (.ref (G.EE.FA f)) ∧ PySem.W.keepIn X.K (.ref (G.EE.FA f)) = true ∧ Binds X.K fd ps [] ∧ ∃ oc od osl, X.K.lookup (G.EE.FA f) = some ⟨oc, od, .func fd, osl⟩
  ar : ∀ f y n ds S, T.fn f = some (y, n) → ds.length ≠ n → G.call (.glo f) ds S = .no
  lm : ∃ k, LamP X.prog X.w X.K X.mg X.base G k ∧ Room k X.A
  lx : C.lam = true → ∃ c P, X.env.code = .ref c ∧ LamX.TabB X.base X.mg c P ∧ (P, X.env.qual ++ "<lambda>") ∈ G.EE.T ∧ (∀ p ∈ G.EE.T, p.1 = P → p.2 = X.env.qual ++ "<lambda>") ∧ ∀ x, X.fn x = true
  xc : ∀ c y, T.xc c = some y → XcF X.K X.mg (G.XA c) y ∧ ∀ c' y', T.xc c' = some y' → PySem.W.exmOne X.K (.ref (G.XA c')) (.ref (G.XA c)) = some (subX c' c)
  cn : ∀ c y, T.cn c = some y → ∃ v u, X.mg y = some u ∧ RelV v u ∧ ∀ ca mu H, Is X.K G.EE ca mu H v (G.cons c)
  bl : ∀ y, T.bl y = true → X.mg y = none
section
variable {T : Tb} {G : En} {C : Cc} {W : WX} {X : Cx} {x y : Str}
theorem glB_ok (ok : CxOk T G C W X) (h : glB C.sc y = true) : Gl X y := by
  show X.env.scope.names.lookup y = some .globalImplicit
  rw [ok.sc]
  unfold glB at h
  split at h
  · assumption
  · cases h
theorem visB_ok (ok : CxOk T G C W X) (h : visB C.sc y = true) : Vis X.env.scope y := by
  rw [ok.sc]
  unfold visB at h
  split at h
  · exact .inl (by assumption)
  · exact .inr (.inl (by assumption))
  · exact .inr (.inr (by assumption))
  · cases h
theorem locB_ok (ok : CxOk T G C W X) (h : locB C.sc C.ss y = true) : Loc X.env.scope y ∧ (X.fn y = true ∨ X.env.scope.names.lookup y = some .local) := by
  rw [ok.sc]
  unfold locB at h
  split at h
  · exact ⟨.inl (by assumption), .inr (by assumption)⟩
  · split at h
    · exact ⟨.inr (by assumption), .inl (ok.st _ (by assumption))⟩
    · cases h
  · cases h
theorem nmOk_ok (h : nmOk y = true) : (y == ("__debug__" : Str)) = false ∧ (y == ("__classdict__" : Str)) = false := by
  unfold nmOk at h
  obtain ⟨h1, h2⟩ := Bool.and_eq_true_iff.mp h
  exact ⟨by simpa using h1, by simpa using h2⟩
theorem blk_ok (ok : CxOk T G C W X) (s : Shared) (H : Hp) (scope : Scope) (cl : List (Str × Addr)) (A : Addr) (fp : List Addr) : CxOk T G ⟨C.N, relS scope C.sc, scope, C.calm, false⟩ W0 (X.blk s H scope (compEnvC scope cl A X.env) fp) := by
  refine ⟨ok.N, ok.nd, ?_, fun x h => ?_, ok.calm, ok.un, takes0, ok.tb, ok.fn, ok.ar, ok.lm, (fun z => nomatch z), ok.xc, ok.cn, ok.bl⟩
  · rw [← ok.sc]; rfl
  · show (scope.names.lookup x == some .cell) = true
    have h : scope.names.lookup x = some .cell := h
    rw [h]
    rfl
end
theorem evs_len {cons : Nat → D} {call : Call} : ∀ {es : Exs} {ρ : Env} {S S' : Sto} {ds : List D}, evs cons call es ρ S = .ok ds S' → ds.length = lenEs es
  | .nil, _, _, _, _, h => by cases h; rfl
  | .cons e es, ρ, S, S', ds, h => by
    have h : ((ev cons call e ρ S).bind fun d S => (evs cons call es ρ S).bind fun ds S => Res.ok (d :: ds) S) = .ok ds S' := h
    cases q : ev cons call e ρ S with
    | ok d S1 =>
      rw [q] at h
      have h : ((evs cons call es ρ S1).bind fun ds S => Res.ok (d :: ds) S) = .ok ds S' := h
      cases q2 : evs cons call es ρ S1 with
      | ok ds2 S2 => rw [q2] at h; cases h; rw [List.length_cons, evs_len q2]; rfl
      | exc _ _ => rw [q2] at h; cases h
      | no => rw [q2] at h; cases h
    | exc _ _ => rw [q] at h; cases h
    | no => rw [q] at h; cases h
end KI


set_option Elab.async false
set_option linter.all false
set_option maxRecDepth 100000
set_option autoImplicit false
set_option maxHeartbeats 2000000
namespace KI
open PySem PySem.Spec PyProof.Rows L2
theorem lookup_zip {ns : List Str} {us : List Value} (nd : ns.Nodup) (hl : us.length = ns.length) : ∀ (i : Nat) (n : Str) (u : Value), ns[i]? = some n → us[i]? = some u → (ns.zip us).lookup n = some u := by
  induction ns generalizing us with
  | nil => intro i n u h; simp at h
  | cons m ns ih =>
    cases us with
    | nil => simp at hl
    | cons w us =>
      intro i n u h1 h2
      cases i with
      | zero => simp at h1 h2; subst h1 h2; simp [List.lookup]
      | succ i =>
        have nd' := List.nodup_cons.mp nd
        have hn : n ≠ m := fun e => nd'.1 (by subst e; exact List.mem_of_getElem? (by simpa using h1))
        simp only [List.zip_cons_cons, List.lookup]
        have : (n == m) = false := by simpa using hn
        rw [this]
        exact ih nd'.2 (by simpa using hl) i n u (by simpa using h1) (by simpa using h2)
theorem lookup_zip_some {ns : List Str} {us : List Value} (hl : us.length = ns.length) {n : Str} (h : n ∈ ns) (nd : ns.Nodup) : ((ns.zip us).lookup n).isNone = false := by
  obtain ⟨i, h1, e⟩ := List.getElem_of_mem h
  have h2 : i < us.length := by omega
  rw [lookup_zip nd hl i n us[i] (by rw [List.getElem?_eq_getElem h1, e]) (List.getElem?_eq_getElem h2)]
  rfl
theorem binds_zip : ∀ {ns : List Str} {us : List Value} (f : Str → Option Value), us.length = ns.length → (∀ (i : Nat) (n : Str) (u : Value), ns[i]? = some n → us[i]? = some u → f n = some u) → ns.filterMap (fun n => (f n).map (n, ·)) = ns.zip us
  | [], [], _, _, _ => rfl
  | [], _ :: _, _, h, _ => by cases h
  | _ :: _, [], _, h, _ => by cases h
  | n :: ns, u :: us, f, h, k => by
    rw [List.filterMap_cons, k 0 n u rfl rfl]
    show (n, u) :: _ = (n, u) :: _
    rw [binds_zip f (by simpa using h) fun i n u h1 h2 => k (i + 1) n u (by simpa using h1) (by simpa using h2)]
    rfl
theorem bind_plain {x qual : Str} {as : List Arg} {kd : List (Option Expr)} {body : List Stmt} {scope : Scope} (nd : (as.map (·.arg)).Nodup) (kV doc pm : Value) (an : Option Addr) (cdv ct : Value) (us : List Value) (hl : us.length = (as.map (·.arg)).length) :
    bindArgs (PySem.W.fnOf x qual ⟨[], as, none, [], kd, none, []⟩ body scope .none kV doc pm an cdv ct) ⟨us, []⟩ = pure ((as.map (·.arg)).zip us) := by
  generalize hns : as.map (·.arg) = ns at *
  have h1 : (ns.filter fun n => ((ns.zip us).lookup n).isNone) = [] := by
    rw [List.filter_eq_nil_iff]
    intro n hn
    rw [lookup_zip_some hl hn nd]
    simp
  have h2 := binds_zip (fun n => (ns.zip us).lookup n) hl fun i n u => lookup_zip nd hl i n u
  have h3 : ¬ us.length > ns.length := by omega
  have e : seqItems? (Value.none) = (pure none : Sem (Option (Array Value))) := rfl
  unfold bindArgs
  simp only [PySem.W.fnOf, List.map_nil, List.nil_append, List.append_nil, hns, List.forIn_nil, pure_bind, e, Option.getD_none, Array.toList_empty, List.length_nil, Nat.sub_zero, Nat.zero_sub, List.drop_nil, List.take_length, List.zip_nil_right, h1, h3, decide_false, Bool.false_and, Bool.false_eq_true, if_false, List.isEmpty_nil, Bool.not_true, List.drop_length]
  rw [h2]
theorem bind_plainL {qual : Str} {as : List Arg} {kd : List (Option Expr)} {body : Expr} {scope : Scope} {cl : List (Str × Addr)} (nd : (as.map (·.arg)).Nodup) (pm cdv ct : Value) (us : List Value) (hl : us.length = (as.map (·.arg)).length) :
    bindArgs (PySem.W.kla_fn "<lambda>" qual ⟨[], as, none, [], kd, none, []⟩ body scope cl pm cdv ct) ⟨us, []⟩ = pure ((as.map (·.arg)).zip us) := by
  generalize hns : as.map (·.arg) = ns at *
  have h1 : (ns.filter fun n => ((ns.zip us).lookup n).isNone) = [] := by
    rw [List.filter_eq_nil_iff]
    intro n hn
    rw [lookup_zip_some hl hn nd]
    simp
  have h2 := binds_zip (fun n => (ns.zip us).lookup n) hl fun i n u => lookup_zip nd hl i n u
  have h3 : ¬ us.length > ns.length := by omega
  have e : seqItems? (Value.none) = (pure none : Sem (Option (Array Value))) := rfl
  unfold bindArgs
  simp only [PySem.W.kla_fn, List.map_nil, List.nil_append, List.append_nil, hns, List.forIn_nil, pure_bind, e, Option.getD_none, Array.toList_empty, List.length_nil, Nat.sub_zero, Nat.zero_sub, List.drop_nil, List.take_length, List.zip_nil_right, h1, h3, decide_false, Bool.false_and, Bool.false_eq_true, if_false, List.isEmpty_nil, Bool.not_true, List.drop_length]
  rw [h2]
end KI


set_option Elab.async false
set_option linter.all false
set_option maxRecDepth 100000
set_option autoImplicit false
set_option maxHeartbeats 2000000
/-! Calls of lambdas, calls that are handed one. -/
namespace KI
open PySem PySem.Spec PyProof.Rows L2

section
variable {K : PySem.W.Frag} {EE : Ek} {ca mu ca' mu' : List Addr} {H H' H1 H2 : Hp} {S S' : Sto} {cs : List Addr} {h base : Heap} {fs : List Addr}
theorem ba {a b : Bool} (h : (a && b) = true) : a = true ∧ b = true := Bool.and_eq_true_iff.mp h
/-! ### data without lambdas stands by itself -/
theorem rd_hide {a : Addr} {u : HO} (k : Known cs H) (n : ∀ o', u ≠ .frz o' (.own a)) (n2 : u ≠ .own a) (h : Rd H a u) : Rd (hideC H cs) a u := by
  rcases h with q | ⟨o, q⟩
  · exact .inl (by rw [hideC_out (k.ext q n)]; exact q)
  · exact .inr ⟨o, by rw [hideC_out (k.ext q fun _ z => by cases z; exact n2 rfl)]; exact q⟩
theorem at_hide {a : Addr} {u : HO} (k : Known cs H) (n : ∀ o', u ≠ .frz o' (.own a)) (h : H a = some u) : hideC H cs a = some u := by rw [hideC_out (k.ext h n)]; exact h
mutual
theorem Is.thaw (k : Known cs H) : ∀ (d : D) {v : V}, d.cf = true → Is K EE ca mu H v d → Is K EE ca mu (hideC H cs) v d
  | .non, _, _, h => by cases h; exact .non
  | .bl b, _, _, h => by cases h; exact .bl b
  | .int i, _, _, h => by cases h; exact .int i
  | .str s, _, _, h => by cases h; exact .str s
  | .tup ds, _, c, h => by cases h with | tup h1 h2 => exact .tup (h1.imp (fun z => ⟨rd_hide k (fun _ z => nomatch z) (fun z => nomatch z) z.1, z.2⟩) id) (IsL.thaw k ds c h2)
  | .lst ds, _, c, h => by cases h with | lst h1 h2 h3 => exact .lst (at_hide k (fun _ z => nomatch z) h1) h2 (IsL.thaw k ds c h3)
  | .dic ds, _, c, h => by cases h with | dic h1 h2 h3 => exact .dic (at_hide k (fun _ z => nomatch z) h1) h2 (IsK.thaw k ds c h3)
  | .ro ds, _, c, h => by cases h with | ro h1 h2 => exact .ro (h1.imp (fun z => ⟨rd_hide k (fun _ z => nomatch z) (fun z => nomatch z) z.1, z.2⟩) id) (IsL.thaw k ds c h2)
  | .cell n, _, _, h => by cases h with | cell h => exact .cell h
  | .fn i, _, _, h => by cases h with | fn _ h => exact .fn i h
  | .clo np e ds, _, c, _ => by cases c
theorem IsL.thaw (k : Known cs H) : ∀ (ds : List D) {vs : List V}, cfL ds = true → IsL K EE ca mu H vs ds → IsL K EE ca mu (hideC H cs) vs ds
  | [], _, _, h => by cases h; exact .nil
  | d :: ds, _, c, h => by
    obtain ⟨c1, c2⟩ := Bool.and_eq_true_iff.mp (show (d.cf && cfL ds) = true from c)
    cases h with | cons h1 h2 => exact .cons (Is.thaw k d c1 h1) (IsL.thaw k ds c2 h2)
theorem IsK.thaw (k : Known cs H) : ∀ (ds : List (Key × D)) {vs : List (Key × V)}, cfK ds = true → IsK K EE ca mu H vs ds → IsK K EE ca mu (hideC H cs) vs ds
  | [], _, _, h => by cases h; exact .nil
  | (_, d) :: ds, _, c, h => by
    obtain ⟨c1, c2⟩ := Bool.and_eq_true_iff.mp (show (d.cf && cfK ds) = true from c)
    cases h with | cons h1 h2 => exact .cons (Is.thaw k d c1 h1) (IsK.thaw k ds c2 h2)
end
theorem chg_ne {o : HO} {a : Addr} (h : chg o = true) : ∀ o', o ≠ .frz o' (.own a) := fun o' z => by rw [z] at h; cases h
theorem Wd.thaw (k : Known cs H) (w : Wd K EE ca mu H S) (c : stoCf S = true) : Wd K EE ca mu (hideC H cs) S := by
  refine ⟨w.len, w.nd, fun n a o h1 h2 => ?_, fun a ha => ?_, fun p hp => ?_, fun a ha => ?_⟩
  · have r := w.ob n a o h1 h2
    have co : o.cf = true := List.all_eq_true.mp c o (List.mem_of_getElem? h2)
    cases o with
    | lst xs => obtain ⟨q1, vs, q2, q3⟩ := r; exact ⟨q1, vs, at_hide k (fun _ z => nomatch z) q2, IsL.thaw k _ co q3⟩
    | dct xs => obtain ⟨q1, vs, q2, q3⟩ := r; exact ⟨q1, vs, at_hide k (fun _ z => nomatch z) q2, IsK.thaw k _ co q3⟩
    | ins c xs => obtain ⟨q1, dx, vs, q2, q3, q4⟩ := r; exact ⟨q1, dx, vs, at_hide k (fun _ z => nomatch z) q2, q3, IsL.thaw k _ co q4⟩
    | dead => trivial
  · obtain ⟨o, e, g⟩ := w.tm a ha
    exact ⟨o, at_hide k (chg_ne g) e, g⟩
  · obtain ⟨ps, h1, h2, h3⟩ := w.tb p hp
    refine ⟨ps, at_hide k (fun _ z => nomatch z) h1, h2, fun pos cv hc => ?_⟩
    obtain ⟨c, e1, e2⟩ := h3 pos cv hc
    exact ⟨c, e1, at_hide k (fun _ z => nomatch z) e2⟩
  · obtain ⟨o, e, g⟩ := w.tc a ha
    exact ⟨o, at_hide k (chg_ne g) e, g⟩
/-! ### the cells told -/
theorem Cels.ext (C : Cels cs H h base fs) : Ext ca mu H ca mu (tell H h cs) :=
  ⟨⟨[], by simp, fun _ z => nomatch z⟩, fun _ z => .inl z, fun a o e _ _ => C.tl e, fun a n => by
    cases q : H a with
    | none => exact absurd q n
    | some o => rw [C.tl q]; simp, fun _ z _ _ => z⟩
theorem Cels.wd (C : Cels cs H h base fs) (w : Wd K EE ca mu H S) : Wd K EE ca mu (tell H h cs) S := by
  refine ⟨w.len, w.nd, fun n a o h1 h2 => (w.ob n a o h1 h2).ext C.ext id fun hm => ?_, fun a ha => ?_, w.tb.ext fun b o e => C.tl e, fun a ha => ?_⟩
  · obtain ⟨o', e, _⟩ := w.tm a hm
    rw [C.tl e, e]
  · obtain ⟨o, e, g⟩ := w.tm a ha
    exact ⟨o, C.tl e, g⟩
  · obtain ⟨o, e, g⟩ := w.tc a ha
    exact ⟨o, C.tl e, g⟩
/-! ### known again -/
theorem patch_ext (k : Known cs H) (w : Wd K EE ca mu H S) (x : Ext ca mu (hideC H cs) ca' mu' H') (w' : Wd K EE ca' mu' H' S') (n : ∀ c ∈ cs, H' c = none) :
    Ext ca mu H ca' mu' (patch H' H cs) ∧ Ext ca' mu' H' ca' mu' (patch H' H cs) ∧ Wd K EE ca' mu' (patch H' H cs) S' := by
  have out : ∀ a o, H' a = some o → a ∉ cs := fun a o e z => by rw [n a z] at e; cases e
  have up : ∀ a o, H' a = some o → patch H' H cs a = some o := fun a o e => by rw [patch_out (out a o e)]; exact e
  have y : Ext ca' mu' H' ca' mu' (patch H' H cs) := ⟨⟨[], by simp, fun _ z => nomatch z⟩, fun _ z => .inl z, fun a o e _ _ => up a o e, fun a q => by
    cases e : H' a with
    | none => exact absurd e q
    | some o => rw [up a o e]; simp, fun _ z _ _ => z⟩
  refine ⟨⟨?_, fun a h => ?_, fun a o e t q => ?_, fun a q => ?_, fun a h1 h2 h3 => x.fb a h1 h2 ?_⟩, y, ⟨w'.len, w'.nd, fun n a o h1 h2 => (w'.ob n a o h1 h2).ext y id fun hm => ?_, fun a ha => ?_, w'.tb.ext up, fun a ha => ?_⟩⟩
  · obtain ⟨nw, e, f⟩ := x.pre
    refine ⟨nw, e, fun a h => ?_⟩
    obtain ⟨o, e2, _⟩ := w'.tc a (by rw [e]; exact List.mem_append_right _ h)
    have := f a h
    rw [hideC_out (out a o e2)] at this
    exact this
  · rcases x.mus a h with q | q
    · exact .inl q
    · obtain ⟨o, e2, _⟩ := w'.tm a h
      rw [hideC_out (out a o e2)] at q
      exact .inr q
  · by_cases z : a ∈ cs
    · rw [patch_in z]; exact e
    · rw [patch_out z]; exact x.kp a o (by rw [hideC_out z]; exact e) t q
  · by_cases z : a ∈ cs
    · rw [patch_in z]; exact q
    · rw [patch_out z]; exact x.tr a (by rw [hideC_out z]; exact q)
  · obtain ⟨o, e, g⟩ := w.tm a h1
    rw [at_hide k (chg_ne g) e]
    simp
  · obtain ⟨o', e, _⟩ := w'.tm a hm
    rw [up a o' e, e]
  · obtain ⟨o, e, g⟩ := w'.tm a ha
    exact ⟨o, up a o e, g⟩
  · obtain ⟨o, e, g⟩ := w'.tc a ha
    exact ⟨o, up a o e, g⟩
end
theorem argOk_okL {p : Arguments} {qual : Str} {body : Expr} {scope : Scope} {cl : List (Str × Addr)} (h : argOk p (p.args.map (·.arg)) = true) (pm cdv ct : Value) (us : List Value) (hl : us.length = (p.args.map (·.arg)).length) :
    bindArgs (PySem.W.kla_fn "<lambda>" qual p body scope cl pm cdv ct) ⟨us, []⟩ = pure ((p.args.map (·.arg)).zip us) := by
  obtain ⟨h1, h7⟩ := ba h
  obtain ⟨h1, h6⟩ := ba h1
  obtain ⟨h1, h5⟩ := ba h1
  obtain ⟨h1, h4⟩ := ba h1
  obtain ⟨h1, h3⟩ := ba h1
  obtain ⟨h1, h2⟩ := ba h1
  obtain ⟨a, b, c, d, e, f, g⟩ := p
  cases a with
  | cons _ _ => cases h1
  | nil =>
  cases c with
  | some _ => cases h2
  | none =>
  cases d with
  | cons _ _ => cases h3
  | nil =>
  cases f with
  | some _ => cases h4
  | none =>
  cases g with
  | cons _ _ => cases h5
  | nil => exact bind_plainL (of_decide_eq_true h7) pm cdv ct us hl
/-- a lambda's own names -/
def LF.nf (F : LF) : NdefX.NF := ⟨"<lambda>", F.qual, F.params, [], F.scope, F.cl, F.c⟩
/-- the wants of a lambda's body -/
abbrev lamCc (F : LF) (fr : List Str) : Cc := ⟨F.params.args.map (·.arg) ++ fr, F.scope, F.scope, true, false⟩
/-- the cells' values, of what Is tells -/
theorem cells_at {P : Program} {w : World} {H : Hp} {h : Heap} {mu : List Addr} {cl : List (Str × Addr)} {fr : List Str} {vs : List V} (C : CelsAt mu H cl fr vs) (x : HOk P w H h) : Known (cl.map (·.2)) H ∧ NdefX.CellsAt cl fr (vs.map some) h (hideC H (cl.map (·.2))) := by
  have mem : ∀ {y c}, cl.lookup y = some c → c ∈ cl.map (·.2) := fun {y c} e => List.mem_map.mpr ⟨(y, c), PySem.mem_of_lookup e, rfl⟩
  refine ⟨fun c hc => (C.all c hc).2, by rw [List.length_map]; exact C.len, fun y c e => ?_, C.inj, fun i y e => ?_⟩
  · obtain ⟨_, o, u, e1, e2⟩ := C.all c (mem e)
    exact ⟨hideC_in (mem e), u, o, (x c _ e1).1, e2⟩
  · obtain ⟨c, o, u, v, e1, e2, e3, e4, e5⟩ := C.has i y e
    refine ⟨c, e1, fun v' ev => ?_⟩
    rw [List.getElem?_map, e4] at ev
    cases ev
    exact ⟨u, e5, o, (x c _ e2).1, e3⟩
theorem lam_start {K : PySem.W.Frag} {EE : Ek} {ca mu : List Addr} {H : Hp} {N : List Str} {vs ws : List V} {ds cs : List D} (h : IsL K EE ca mu H vs ds) (g : IsL K EE ca mu H ws cs) (hN : N.length = vs.length + ws.length) : RE K EE ca mu H (NdefX.startF N vs (ws.map some)) ((ds ++ cs).map some) := by
  have e : NdefX.startF N vs (ws.map some) = (vs ++ ws).map some := by
    unfold NdefX.startF
    rw [List.length_map, show N.length - vs.length - ws.length = 0 by omega, List.replicate_zero, List.append_nil, List.map_append]
  rw [e]
  have hl := h.append g
  refine ⟨by rw [List.length_map, List.length_map, hl.length], fun i d q => ?_⟩
  rw [List.getElem?_map] at q
  cases z : (ds ++ cs)[i]? with
  | none => rw [z] at q; cases q
  | some d' =>
    rw [z] at q
    cases q
    obtain ⟨v, e1, e2⟩ := hl.get z
    exact ⟨v, by rw [List.getElem?_map, e1]; rfl, e2⟩
/-- a lambda's promise, by its body's reading -/
theorem lamP_of {P : Program} {w : World} {K : PySem.W.Frag} {mg : Str → Option Value} {base : Heap} {G G' : En} {k : Nat} (hE : G'.EE = G.EE) (hX : G'.XA = G.XA) (hc : ∀ e ds S, G'.call (.lam e) ds S = ev G.cons G.call e (ds.map some) S)
    (hb : ∀ (A : Around) (outer : List PySem.Env) (s : Shared) (H : Hp) (f : Addr) (F : LF) (fr : List Str) (e : Ex) (E : XK), Room k (A.deeper (NdefX.envF F.nf f s.heap.objs.size)) → (F.params.args.map (·.arg) ++ fr).Nodup → (∀ y, F.scope.names.lookup y ≠ some .cell) → chkE G.EE.TB (lamCc F fr) e F.body = true →
      PE (NdefX.ncx (L2.CX P w) P w K mg base (F.params.args.map (·.arg) ++ fr) F.nf f A outer s H E) F.body (RdE K G (fun cls d _ H => E cls d H) e)) : LamP P w K mg base G' (k + 1) := by
  intro A outer s H f np e cs ds us vs S ca mu Q E hr e0 wd i r iL hl cd cS h
  cases i with
  | @clo _ _ F _ _ fr ws _ h1 h2 h3 h4 h5 h6 h7 =>
  rw [hE] at wd h7 iL h5
  rw [hE, hX, hc] at h
  obtain ⟨g1, g4⟩ := ba h5
  obtain ⟨g1, g3⟩ := ba g1
  obtain ⟨g1, g2⟩ := ba g1
  have sc := NdefX.nscope_by g3
  have hps : (F.params.args.map (·.arg)).length = np := of_decide_eq_true g2
  have hvl : vs.length = (F.params.args.map (·.arg)).length := by rw [iL.length, hl, hps]
  obtain ⟨kn, CA⟩ := cells_at h6 e0.hok
  have nf : ∀ c ∈ F.cl.map (·.2), c ∉ frs outer := fun c hc z => by
    obtain ⟨o, u, q, _⟩ := kn c hc
    rw [e0.frf c z] at q
    cases q
  obtain ⟨od, sl, pm, ctv, ho⟩ := (e0.hok f _ h1).1
  obtain ⟨oc, wvs, t, r1, r2, r3⟩ := (e0.hok _ _ h3).1
  have e1 := env0_hide kn e0
  have lim : s.heap.NoLimit := e0.mod.nolimit.keeps fun b o e => (e0.bs b o e).1
  suffices H0 : codeAny (model P w) A (.call (.ref f) ⟨us, []⟩) (CR (L2.CX P w) outer P w (hideC H (F.cl.map (·.2))) s (fun v H' => (∀ c ∈ F.cl.map (·.2), H' c = none) → Q v (patch H' H (F.cl.map (·.2)))) (fun cls d H' => (∀ c ∈ F.cl.map (·.2), H' c = none) → E cls d (patch H' H (F.cl.map (·.2))))) s by
    refine codeAny_mono H0 fun r s' hq => ?_
    cases r with
    | error e => exact cx_patch kn e0.hok nf hq
    | ok fl =>
      cases fl with
      | ret u => exact ce_patch kn e0.hok nf hq
      | next => exact False.elim hq
      | brk => exact False.elim hq
      | cont => exact False.elim hq
  refine PySem.W.kla_callFunE hr.depth ho rfl sc.co sc.gen rfl ⟨F.c, oc, wvs, t, rfl, r1, r2, r3⟩ ?_
  rw [show bindArgs (PySem.W.kla_fn "<lambda>" F.qual F.params F.body F.scope F.cl pm (.ref F.c) ctv) ⟨us, []⟩ = pure ((F.params.args.map (·.arg)).zip us) from argOk_okL g1 pm (.ref F.c) ctv us (by rw [← r.length, hvl])]
  refine wpAny_pure (wpAny_newFunctionEnv sc.nocell (fun ⟨n, _⟩ hy => sc.par n (List.of_mem_zip hy).1) (fun h₁ hns hsb => ⟨lim.fresh _ hsb, ?_⟩) sc.kind)
  show codeAny _ _ (.expr F.body (NdefX.envF F.nf f s.heap.objs.size)) _ _
  have kp : ∀ b o, s.heap.get? b = some o → h₁.get? b = some o := fun b o e => hsb.extBut b o (Nat.ne_of_lt (Heap.lt_size e)) (Heap.get?_push_of_some _ e)
  have I := NdefX.inv_startN (CX := L2.CX P w) (f := f) (E := fun cls d H' => (∀ c ∈ F.cl.map (·.2), H' c = none) → E cls d (patch H' H (F.cl.map (·.2)))) (tk := s.toks + ((F.params.args.map (·.arg)).zip us).length) (F := F.nf) sc hr.hd e1 hvl r CA hns kp
  have J := hb A outer s (hideC H (F.cl.map (·.2))) f F fr e (fun cls d H' => (∀ c ∈ F.cl.map (·.2), H' c = none) → E cls d (patch H' H (F.cl.map (·.2)))) (hr.deeper _) sc.nd (fun y q => absurd rfl (sc.nocell _ (PySem.mem_of_lookup q))) g4
  have wd1 := Wd.thaw kn wd cS
  refine PySem.W.kla_codeExpr (wpAny_mono (J.run [] _ _ _ (fun v H' => (∀ c ∈ F.cl.map (·.2), H' c = none) → Q v (patch H' H (F.cl.map (·.2)))) I ⟨ca, mu, _, S, wd1, lam_start (IsL.thaw kn ds cd iL) h7 (by rw [List.length_append, hvl, h6.len]), ?_⟩) (fun v s' hq => ?_) fun e s' hq => hq)
  · cases q : ev G.cons G.call e ((ds ++ cs).map some) S with
    | ok d S' =>
      rw [q] at h
      intro b ca' mu' H' x w' i' n
      obtain ⟨x1, x2, w2⟩ := patch_ext kn wd x w' n
      exact h b ca' mu' _ x1 w2 (i'.ex x2)
    | exc y S' =>
      rw [q] at h
      intro cls dd ca' mu' H' x w' i' n
      obtain ⟨x1, x2, w2⟩ := patch_ext kn wd x w' n
      refine h cls dd ca' mu' _ x1 w2 ⟨i'.1, ?_⟩
      have i2 := i'.2
      cases hfs : y.fs with
      | nil => rw [hfs] at i2; exact i2
      | cons a as =>
        rw [hfs] at i2
        obtain ⟨d, vs, g1, g2, g3, g4, g5⟩ := i2
        exact ⟨d, vs, g1, g2, x2.kp d _ g3 (fun _ z => nomatch z) (fun z => g2 z.2), g4, g5.ex x2⟩
    | no => rw [q] at h; exact h
  · obtain ⟨w', H', J', rv, q⟩ := hq
    exact ⟨w', H', J'.os, J'.bare, J'.base, J'.hok, rv, q⟩
end KI


set_option Elab.async false
set_option linter.all false
set_option maxRecDepth 100000
set_option autoImplicit false
set_option maxHeartbeats 2000000
/-! A call of what a slot holds; a call whose last argument is a lambda; defs as values; len(set(..)). -/
namespace KI
open PySem PySem.Spec PyProof.Rows L2 RZ

section
variable {T : Tb} {G : En} {C : Cc} {W : WX} {X : Cx} {p pos : Pos} {x : Str}
/-- what a function value's call gives -/
theorem run_app (ok : CxOk T G C W X) {pins : List (Addr × Obj)} {σ : L2.St} {H : Hp} {s : Shared} {Q : VK} {us : List Value} {vs : List V} {ds : List D} {f : Addr} {d : D} {S : Sto} {ca mu : List Addr} (I : Inv X pins σ H s) (wd : Wd X.K G.EE ca mu H S)
    (i : Is X.K G.EE ca mu H (.ref f) d) (r : Vals vs us) (iL : IsL X.K G.EE ca mu H vs ds) (h : okR X.K G.EE G.XA (IsR X.K G.EE) ca mu H (app G.call d ds S) Q (fun c d H' => W c d σ H')) : wpAny (model X.prog X.w) X.A (call (.ref f) us) (EP X pins σ Q) X.xe s := by
  cases i with
  | fn i hi =>
    rw [← ok.tb] at hi
    cases q : T.fn i with
    | none => rw [q] at hi; cases hi
    | some yn =>
      obtain ⟨y, n⟩ := yn
      obtain ⟨k, fd, ps, F, hr, hm, hk, hb, _⟩ := ok.fn i y n q
      have h : okR X.K G.EE G.XA (IsR X.K G.EE) ca mu H (G.call (.glo i) ds S) Q (fun c d H' => W c d σ H') := h
      have hn : ds.length = n := Decidable.byContradiction fun z => by rw [ok.ar i y n ds S q z] at h; exact h
      exact run_fnS (E := WE W) F hr hb (passAt ok.tk σ) I r ⟨by rw [iL.length]; exact hn, ca, mu, ds, S, wd, iL, h⟩
  | @clo _ _ F np e fr ws cs h1 h2 h3 h4 h5 h6 h7 =>
    have h : okR X.K G.EE G.XA (IsR X.K G.EE) ca mu H (if ds.length = np ∧ cfL ds = true ∧ stoCf S = true then G.call (.lam e) (ds ++ cs) S else .no) Q (fun c d H' => W c d σ H') := h
    split at h
    · rename_i z
      obtain ⟨z1, z2, z3⟩ := z
      obtain ⟨k, lp, hr⟩ := ok.lm
      refine wpAny_call (codeAny_mono (lp X.A X.stack s H f np e cs ds us vs S ca mu Q (WE W σ) hr I.env0 wd (.clo h1 h2 h3 h4 h5 h6 h7) r iL z1 z2 z3 h) fun r s' hq => ?_)
      cases r with
      | error e => exact passAt ok.tk σ pins H s e s' I hq
      | ok fl =>
        cases fl with
        | ret u => exact I.after hq
        | next => exact False.elim hq
        | brk => exact False.elim hq
        | cont => exact False.elim hq
    · exact h.elim
  | _ => exact h.elim
/-- a function value may be called -/
theorem fn_at (ok : CxOk T G C W X) {pins : List (Addr × Obj)} {σ : L2.St} {H : Hp} {s : Shared} {f : Addr} {d : D} {ca mu : List Addr} (I : Inv X pins σ H s) (i : Is X.K G.EE ca mu H (.ref f) d) (hd : isFn d = true) : PySem.W.FnAt f s.heap := by
  cases i with
  | fn i hi =>
    rw [← ok.tb] at hi
    cases q : T.fn i with
    | none => rw [q] at hi; cases hi
    | some yn =>
      obtain ⟨k, fd, ps, F, hr, hm, hk, hb, oc, od, osl, lk⟩ := ok.fn i yn.1 yn.2 q
      exact ⟨oc, od, fd, osl, I.kIn _ _ lk⟩
  | @clo _ _ F np e fr ws cs h1 h2 h3 h4 h5 h6 h7 =>
    obtain ⟨od, sl, pm, ctv, ho⟩ := (I.hok f _ h1).1
    exact ⟨_, _, _, _, ho⟩
  | _ => cases hd
theorem snd_callv {i : Nat} {as : Exs} {ea : Expr} {es : List Expr} (ok : CxOk T G C W X) (hN : X.N[i]? = some x) (hv : Vis X.env.scope x) (hs : PA X (ea :: es) (RdA X.K G W as)) (hne : notStar ea = true) (hn : ∀ e ∈ es, notStar e = true)
    (hd : (x == ("__debug__" : Str)) = false) (hcd : (x == ("__classdict__" : Str)) = false) : PE X (.Call (.Name x p) (ea :: es) [] pos) (RdE X.K G W (.callv i as)) := by
  refine ⟨fun pins s σ H Q I h => ?_⟩
  obtain ⟨ca, mu, ρ, S, w, re, h⟩ := h
  have h : okR X.K G.EE G.XA (IsR X.K G.EE) ca mu H (match ρ[i]? with
    | some (some d) => if isFn d = true then (evs G.cons G.call as ρ S).bind fun ds S => app G.call d ds S else .no
    | _ => .no) Q (fun c d H' => W c d σ H') := h
  cases qi : ρ[i]? with
  | none => rw [qi] at h; exact h.elim
  | some o =>
    cases o with
    | none => rw [qi] at h; exact h.elim
    | some d =>
      rw [qi] at h
      have h : okR X.K G.EE G.XA (IsR X.K G.EE) ca mu H (if isFn d = true then (evs G.cons G.call as ρ S).bind fun ds S => app G.call d ds S else .no) Q (fun c d H' => W c d σ H') := h
      split at h
      · rename_i hd1
        obtain ⟨v, e1, i1⟩ := re.at_ i d qi
        obtain ⟨f, rfl⟩ : ∃ f, v = .ref f := by
          cases i1 <;> first | exact ⟨_, rfl⟩ | cases hd1
        refine wpAny_Call_Name_kw (thn ((pe_var (pos := p) hN hv hd hcd).run pins s σ H (fun v H1 => v = .ref f ∧ H1 = H) I ⟨.ref f, e1, rfl, rfl⟩) fun u s1 ⟨v, H1, I1, r1, q1⟩ => ?_)
        obtain ⟨ev', eH⟩ := q1
        subst ev'
        rw [eH] at I1
        obtain rfl : u = Value.ref f := r1
        have hA := hs.run pos pins s1 σ H (fun vs H2 => ∃ ca2 mu2 ds S2, Ext ca mu H ca2 mu2 H2 ∧ Wd X.K G.EE ca2 mu2 H2 S2 ∧ IsL X.K G.EE ca2 mu2 H2 vs ds ∧ okR X.K G.EE G.XA (IsR X.K G.EE) ca2 mu2 H2 (app G.call d ds S2) Q (fun c d H' => W c d σ H')) I1 ⟨ca, mu, ρ, S, w, re, okR.bind h fun ds S2 vs ca2 mu2 H2 _ x w2 i2 h2 => ⟨ca2, mu2, ds, S2, x, w2, i2, h2⟩⟩
        refine PySem.W.callWith_F (first := []) (fn_at ok I1 i1 hd1) (thn hA fun us s2 hh => ?_) (star_ne hne es X.env) (plain_back (e := ea) hn pos X.env)
        obtain ⟨vs, H2, I2, r2, ca2, mu2, ds, S2, x, w2, iL, h2⟩ := hh
        exact ⟨fn_at ok I2 (i1.ex x) hd1, run_app ok I2 w2 (i1.ex x) r2 iL h2⟩
      · exact h.elim
theorem snd_callv0 {i : Nat} (ok : CxOk T G C W X) (hN : X.N[i]? = some x) (hv : Vis X.env.scope x) (hd : (x == ("__debug__" : Str)) = false) (hcd : (x == ("__classdict__" : Str)) = false) : PE X (.Call (.Name x p) [] [] pos) (RdE X.K G W (.callv i .nil)) := by
  refine ⟨fun pins s σ H Q I h => ?_⟩
  obtain ⟨ca, mu, ρ, S, w, re, h⟩ := h
  have h : okR X.K G.EE G.XA (IsR X.K G.EE) ca mu H (match ρ[i]? with
    | some (some d) => if isFn d = true then app G.call d [] S else .no
    | _ => .no) Q (fun c d H' => W c d σ H') := h
  cases qi : ρ[i]? with
  | none => rw [qi] at h; exact h.elim
  | some o =>
    cases o with
    | none => rw [qi] at h; exact h.elim
    | some d =>
      rw [qi] at h
      have h : okR X.K G.EE G.XA (IsR X.K G.EE) ca mu H (if isFn d = true then app G.call d [] S else .no) Q (fun c d H' => W c d σ H') := h
      split at h
      · rename_i hd1
        obtain ⟨v, e1, i1⟩ := re.at_ i d qi
        obtain ⟨f, rfl⟩ : ∃ f, v = .ref f := by
          cases i1 <;> first | exact ⟨_, rfl⟩ | cases hd1
        refine wpAny_Call_Name_kw (thn ((pe_var (pos := p) hN hv hd hcd).run pins s σ H (fun v H1 => v = .ref f ∧ H1 = H) I ⟨.ref f, e1, rfl, rfl⟩) fun u s1 ⟨v, H1, I1, r1, q1⟩ => ?_)
        obtain ⟨ev', eH⟩ := q1
        subst ev'
        rw [eH] at I1
        obtain rfl : u = Value.ref f := r1
        refine PySem.W.callWith_F0 (first := []) (fn_at ok I1 i1 hd1) ?_
        exact run_app ok I1 w i1 .nil .nil h
      · exact h.elim
/-! ### a def as a value -/
theorem snd_fnv {f n : Nat} (ok : CxOk T G C W X) (hf : T.fn f = some (x, n)) (hg : Gl X x) (hd : (x == ("__debug__" : Str)) = false) : PE X (.Name x pos) (RdE X.K G W (.fnv f)) := by
  obtain ⟨k, fd, ps, F, hr, hm, hk, hb, _⟩ := ok.fn f x n hf
  exact PEimp (pe_glob hg hm (v := .ref (G.EE.FA f)) rfl hd) fun σ H Q ⟨ca, mu, ρ, S, w, re, h⟩ => got w (.fn f (by rw [← ok.tb, hf]; rfl)) h
/-! ### len(set(..)) -/
theorem snd_nset {a : Ex} {ea : Expr} {p2 q : Pos} (hc : X.calm = true) (hg : Gl X "len") (hm : X.mg "len" = none) (hg2 : Gl X "set") (hm2 : X.mg "set" = none) (ha : PE X ea (RdE X.K G W a)) (hn : notStar ea = true) :
    PE X (.Call (.Name "len" p) [.Call (.Name "set" p2) [ea] [] q] [] pos) (RdE X.K G W (.nset a)) :=
  PEimp (pe_lenSetI hg hm hg2 hm2 ha hc (star_ne hn _ _)) fun σ H Q ⟨ca, mu, ρ, S, w, re, h⟩ => step w re h fun d S1 v ca1 mu1 H1 e1 w1 re1 i1 h1 => by
    cases i1 with
    | @lst _ l vs xs g1 g2 g3 =>
      have h1 : okR X.K G.EE G.XA (IsR X.K G.EE) ca1 mu1 H1 (lift (match intsD xs with
        | some ns => if ns.Nodup ∧ ns.length ≤ 4000 then some (D.int ns.length) else none
        | none => none) S1) Q (fun c d H' => W c d σ H') := h1
      cases qi : intsD xs with
      | none => rw [qi] at h1; exact h1.elim
      | some ns =>
        rw [qi] at h1
        have h1 : okR X.K G.EE G.XA (IsR X.K G.EE) ca1 mu1 H1 (lift (if ns.Nodup ∧ ns.length ≤ 4000 then some (D.int ns.length) else none) S1) Q (fun c d H' => W c d σ H') := h1
        split at h1
        · rename_i z
          exact ⟨l, ns, rfl, by rw [← intsD_ok g3 qi]; exact SqL.of g1, z.1, z.2, got w1 (.int _) h1⟩
        · exact h1.elim
    | _ => exact h1.elim
/-! ### list(range(..)) -/
theorem isL_rgV {K : PySem.W.Frag} {EE : Ek} {ca mu : List Addr} {H : Hp} : ∀ (n : Nat) (i : Int), IsL K EE ca mu H ((List.range n).map fun (t : Nat) => V.int (i + t)) (rngL i n)
  | 0, i => .nil
  | n + 1, i => by
    rw [List.range_succ_eq_map, List.map_cons, List.map_map]
    have e : ((fun (t : Nat) => V.int (i + t)) ∘ Nat.succ) = fun (t : Nat) => V.int (i + 1 + t) := by
      funext t
      show V.int (i + ((t + 1 : Nat) : Int)) = _
      congr 1
      omega
    rw [e]
    have h0 : i + ((0 : Nat) : Int) = i := by omega
    rw [h0]
    exact .cons (.int i) (isL_rgV n (i + 1))
theorem snd_rngl {a b : Ex} {ea eb : Expr} {p2 q : Pos} (hc : X.calm = true) (hg : Gl X "list") (hm : X.mg "list" = none) (hg2 : Gl X "range") (hm2 : X.mg "range" = none) (ha : PE X ea (RdE X.K G W a)) (hb : PE X eb (RdE X.K G W b)) (hn : notStar ea = true) (hn2 : notStar eb = true) :
    PE X (.Call (.Name "list" p) [.Call (.Name "range" p2) [ea, eb] [] q] [] pos) (RdE X.K G W (.rngl a b)) :=
  PEimp (pe_listRg hc hg hm (prg_2 hg2 hm2 ha hb (star_ne hn _ _) (star_ne hn2 _ _) (by rw [star_ne hn2]; rfl))) fun σ H Q ⟨ca, mu, ρ, S, w, re, h⟩ => step w re h fun d S1 v ca1 mu1 H1 e1 w1 re1 i1 h1 => step w1 re1 h1 fun d2 S2 v2 ca2 mu2 H2 e2 w2 re2 i2 h2 => by
    cases i1 with
    | int i =>
      cases i2 with
      | int j =>
        have h2 : okR X.K G.EE G.XA (IsR X.K G.EE) ca2 mu2 H2 (if rngOk i && rngOk j && decide ((j - i).toNat ≤ LN) then .ok (.lst (rngL i (j - i).toNat)) S2 else .no) Q (fun c d H' => W c d σ H') := h2
        split at h2
        · rename_i z
          obtain ⟨z, z3⟩ := ba z
          obtain ⟨z1, z2⟩ := ba z
          have b1 := rngOk_ok z1
          have b2 := rngOk_ok z2
          have b3 := of_decide_eq_true z3
          have b3 : (j - i).toNat ≤ 2 ^ 24 := b3
          exact ⟨i, j, rfl, rfl, ⟨b1.1, b1.2, b2.1, b2.2, b3⟩, newL w2 (isL_rgV _ i) h2⟩
        · exact h2.elim
      | _ => exact h2.elim
    | _ => first | exact h1.elim | (cases i2 <;> exact h2.elim)
/-! ### a call that is handed a lambda -/
/-- a lambda made -/
def tLam (Tt : List (Addr × Str)) (mk : Addr → LF) : TE := fun σ H Q => LamX.Tabs Tt H ∧ ∀ f c' H1, Made Tt H f (mk c') H1 → Q (.ref f) H1
theorem pe_lam {c P : Addr} {params : Arguments} {body : Expr} {scope : Scope} (TB : LamX.TabB X.base X.mg c P) (hcode : X.env.code = .ref c) (hm : (P, X.env.qual ++ "<lambda>") ∈ G.EE.T) (hu : ∀ p ∈ G.EE.T, p.1 = P → p.2 = X.env.qual ++ "<lambda>") (hdef : defaultsOf params X.env = ([], []))
    (hfree : ∀ y ∈ scope.names, y.2 = .free → X.env.scope.names.lookup y.1 = some .cell ∨ X.env.scope.names.lookup y.1 = some .free) :
    PE X (.Lambda params body scope pos) (tLam G.EE.T fun c' => ⟨X.env.qual ++ "<lambda>", params, body, scope, cloFrom X.env.cells scope.names [], c'⟩) := by
  refine ⟨fun pins s σ H Q I ⟨hT, h⟩ => ?_⟩
  exact lam_obj I TB hcode hm hu hT hdef (fun y hy e => (hfree y hy e).elim (fun z => I.ok.has _ (.inl z)) fun z => I.ok.has _ (.inr z)) fun f c' H1 s' I1 m => ⟨.ref f, H1, I1, rfl, h f c' H1 m⟩
/-- the arguments, the last one a lambda -/
def tArgs (K : PySem.W.Frag) (G : En) (W : WX) (tl : TE) : Exs → TA
  | .nil => tCons tl tNil
  | .cons a es => tCons (RdE K G W a) (tArgs K G W tl es)
theorem tArgs_of {K : PySem.W.Frag} {tl : TE} {σ : L2.St} {ρ : Env} : ∀ (es : Exs) {H : Hp} {S : Sto} {ca mu : List Addr} {Q : List V → Hp → Prop}, Wd K G.EE ca mu H S → RE K G.EE ca mu H σ ρ →
    okR K G.EE G.XA (IsLR K G.EE) ca mu H (evs G.cons G.call es ρ S) (fun vs H1 => tl σ H1 fun v H2 => Q (vs ++ [v]) H2) (fun c d H' => W c d σ H') → tArgs K G W tl es σ H Q
  | .nil, H, S, ca, mu, Q, w, re, h => h [] ca mu H Ext.refl w .nil
  | .cons a es, H, S, ca, mu, Q, w, re, h => by
    have h : okR K G.EE G.XA (IsLR K G.EE) ca mu H ((ev G.cons G.call a ρ S).bind fun d S => (evs G.cons G.call es ρ S).bind fun ds S => Res.ok (d :: ds) S) (fun vs H1 => tl σ H1 fun v H2 => Q (vs ++ [v]) H2) (fun c d H' => W c d σ H') := h
    refine step w re h fun d S1 v ca1 mu1 H1 e1 w1 re1 i1 h1 => ?_
    exact tArgs_of es w1 re1 (okR.bind h1 fun ds S2 vs ca2 mu2 H2 _ e2 w2 i2 h2 => h2 (v :: vs) ca2 mu2 H2 Ext.refl w2 (.cons (i1.ex e2) i2))
theorem made_ext {EE : Ek} {K : PySem.W.Frag} {ca mu : List Addr} {H H1 : Hp} {f : Addr} {F : LF} {S : Sto} (m : Made EE.T H f F H1) (w : Wd K EE ca mu H S) : Ext ca mu H ca mu H1 ∧ Wd K EE ca mu H1 S ∧ f ∉ mu ∧ F.c ∉ mu := by
  obtain ⟨e, b, t, n, hf, hc⟩ := m
  have x : Ext ca mu H ca mu H1 := ⟨⟨[], by simp, fun _ z => nomatch z⟩, fun _ z => .inl z, fun a o q nt _ => e a o q nt, fun a q z => q (b a z), fun _ z _ _ => z⟩
  refine ⟨x, ⟨w.len, w.nd, fun n a o h1 h2 => (w.ob n a o h1 h2).ext x id fun hm => ?_, fun a ha => ?_, t, fun a ha => ?_⟩, fun z => ?_, fun z => ?_⟩
  · obtain ⟨o', q, g⟩ := w.tm a hm
    rw [e a o' q (nt_chg g), q]
  · obtain ⟨o, q, g⟩ := w.tm a ha
    exact ⟨o, e a o q (nt_chg g), g⟩
  · obtain ⟨o, q, g⟩ := w.tc a ha
    exact ⟨o, e a o q (nt_chg g), g⟩
  · exact w.tm0 z n
  · obtain ⟨o, q, g⟩ := w.tm _ z
    have := e _ o q (nt_chg g)
    rw [hc] at this
    cases this
    cases g
theorem grab_ok {K : PySem.W.Frag} {EE : Ek} {ca mu : List Addr} {H : Hp} {σ : L2.St} {ρ : Env} (re : RE K EE ca mu H σ ρ) : ∀ {js : List Nat} {cs : List D}, grab ρ js = some cs → ∃ vs : List V, js.map (NdefX.slotAt σ) = vs.map some ∧ IsL K EE ca mu H vs cs
  | [], _, h => by cases h; exact ⟨[], rfl, .nil⟩
  | j :: js, cs, h => by
    have h : (match ρ[j]? with
      | some (some d) => (grab ρ js).map (d :: ·)
      | _ => none) = some cs := h
    split at h
    · rename_i d q
      cases q2 : grab ρ js with
      | none => rw [q2] at h; cases h
      | some cs' =>
        rw [q2] at h
        cases h
        obtain ⟨v, e1, i1⟩ := re.at_ j d q
        obtain ⟨vs, e2, i2⟩ := grab_ok re q2
        exact ⟨v :: vs, by rw [List.map_cons, List.map_cons, e2, NdefX.slotAt_of e1], .cons i1 i2⟩
    · cases h
/-- the cells that a def's own lambda captures -/
theorem cels_of {pins : List (Addr × Obj)} {σ : L2.St} {H : Hp} {s : Shared} {cl : List (Str × Addr)} (I : Inv X pins σ H s) (hf : ∀ x, X.fn x = true) (at_ : ∀ c ∈ cl.map (·.2), ∃ y, X.env.cells.lookup y = some c) : Cels (cl.map (·.2)) H s.heap X.base (frs X.stack) := by
  refine ⟨fun c hc => ?_, fun c hc => ?_, fun c hc => ?_, fun c hc z => ?_⟩
  · obtain ⟨y, e⟩ := at_ c hc
    exact I.freeC y c e
  · obtain ⟨y, e⟩ := at_ c hc
    obtain ⟨u, o, h1, h2⟩ := I.cell y c e
    exact ⟨o, u, h1, h2⟩
  · obtain ⟨y, e⟩ := at_ c hc
    exact Heap.get?_none_of_le (Nat.le_trans I.ok.bsz (I.ok.cab y c (hf y) e))
  · obtain ⟨y, e⟩ := at_ c hc
    rcases List.mem_cons.mp (I.stkSub c z) with q | q
    · exact I.cne y c e q
    · obtain ⟨_, o, ho, _⟩ := I.ok.funs.mem q
      exact absurd (Nat.lt_of_lt_of_le (Heap.lt_size ho) (I.ok.cab y c (hf y) e)) (Nat.lt_irrefl _)
theorem namesOf_ok {N : List Str} : ∀ {js : List Nat} {fr : List Str}, namesOf N js = some fr → js.map (fun j => N[j]?) = fr.map some
  | [], _, h => by cases h; rfl
  | j :: js, fr, h => by
    have h : (match N[j]? with
      | some x => (namesOf N js).map (x :: ·)
      | none => none) = some fr := h
    split at h
    · rename_i x q
      cases q2 : namesOf N js with
      | none => rw [q2] at h; cases h
      | some fr' =>
        rw [q2] at h
        cases h
        rw [List.map_cons, List.map_cons, q, namesOf_ok q2]
    · cases h
theorem clo_at {cells : List (Str × Addr)} {names : List (Str × NameKind)} (hfree : ∀ y ∈ names, y.2 = .free → ∃ c, cells.lookup y.1 = some c) : ∀ c ∈ (cloFrom cells names []).map (·.2), ∃ y, cells.lookup y = some c := fun c hc => by
  obtain ⟨⟨n, a⟩, h1, rfl⟩ := List.mem_map.mp hc
  rcases cloFrom_mem h1 with z | ⟨z1, z2⟩
  · cases z
  · obtain ⟨c1, q⟩ := hfree _ z1 rfl
    have q : cells.lookup n = some c1 := q
    exact ⟨n, by rw [q, z2, q]; rfl⟩
theorem lamB_ok {sc : Scope} {np : Nat} {fr : List Str} {params : Arguments} {scope : Scope} (h : lamB sc np fr params scope = true) : argOk params (params.args.map (·.arg)) = true ∧ (params.args.map (·.arg)).length = np ∧ NdefX.nscB (params.args.map (·.arg) ++ fr) (params.args.map (·.arg)) fr scope = true ∧ NdefX.ndefB sc scope fr = true ∧ params.kw_defaults.isEmpty = true := by
  obtain ⟨h1, h4⟩ := ba h
  obtain ⟨h1, h3⟩ := ba h1
  obtain ⟨h1, h2⟩ := ba h1
  obtain ⟨h0, h1⟩ := ba h1
  exact ⟨h1, of_decide_eq_true h2, h3, h4, h0⟩
theorem argOk_dfl {params : Arguments} {ps : List Str} {env : PySem.Env} (h : argOk params ps = true) (hk : params.kw_defaults.isEmpty = true) : defaultsOf params env = ([], []) := by
  obtain ⟨h1, h7⟩ := ba h
  obtain ⟨h1, h6⟩ := ba h1
  obtain ⟨h1, h5⟩ := ba h1
  obtain ⟨h1, h4⟩ := ba h1
  obtain ⟨h1, h3⟩ := ba h1
  obtain ⟨h1, h2⟩ := ba h1
  obtain ⟨a, b, c, d, e, f, g⟩ := params
  cases d with
  | cons _ _ => cases h3
  | nil =>
  cases g with
  | cons _ _ => cases h5
  | nil =>
    cases e with
    | cons _ _ => cases hk
    | nil => rfl
theorem snd_callL {f np : Nat} {js : List Nat} {e : Ex} {as : Exs} {ea : Expr} {es : List Expr} {params : Arguments} {body : Expr} {scope : Scope} {fr : List Str} (ok : CxOk T G C W X) (hl : C.lam = true) (hf : T.fn f = some (x, lenEs as + 1)) (hg : Gl X x) (hdb : (x == ("__debug__" : Str)) = false)
    (hfr : namesOf C.N js = some fr) (hb : lamB C.sc np fr params scope = true) (hc : chkE T ⟨params.args.map (·.arg) ++ fr, scope, scope, true, false⟩ e body = true) (hel : ∀ ρ S ds S', evs G.cons G.call as ρ S = .ok ds S' → ds.length = lenEs as)
    (hs : ∀ tl : TE, (∀ lpos, PE X (.Lambda params body scope lpos) tl) → PA X (ea :: es) (tArgs X.K G W tl as)) (hne : notStar ea = true) (hn : ∀ e ∈ es, notStar e = true) :
    PE X (.Call (.Name x p) (ea :: es) [] pos) (RdE X.K G W (.callL f as np js e)) := by
  obtain ⟨c, P, hcode, TB, hm, hu, hfn⟩ := ok.lx hl
  obtain ⟨k, fd, ps, F, hr, hmg, hk, hbd, _⟩ := ok.fn f x _ hf
  obtain ⟨b1, b2, b3, b4, b5⟩ := lamB_ok hb
  have hfree := NdefX.ndef_free b4
  rw [← ok.sc] at hfree
  have pl := hs _ fun lpos => pe_lam (G := G) (pos := lpos) TB hcode hm hu (argOk_dfl b1 b5) hfree
  refine ⟨fun pins s σ H Q I h => ?_⟩
  obtain ⟨ca, mu, ρ, S, w, re, h⟩ := h
  have h : okR X.K G.EE G.XA (IsR X.K G.EE) ca mu H ((evs G.cons G.call as ρ S).bind fun ds S => match grab ρ js with
    | some cs => kept (G.call (.glo f) (ds ++ [.clo np e cs]) S)
    | none => .no) Q (fun c d H' => W c d σ H') := h
  refine wpAny_Call_Name_kw (ld_glob I hg hmg ?_ hdb)
  have hA := pl.run pos pins s σ H (fun vs' H2 => ∃ (vs : List V) (fa c' : Addr) (H1 : Hp) (ca1 mu1 : List Addr) (S1 : Sto) (ds cs : List D), vs' = vs ++ [.ref fa] ∧ Made G.EE.T H1 fa ⟨X.env.qual ++ "<lambda>", params, body, scope, cloFrom X.env.cells scope.names [], c'⟩ H2 ∧ Wd X.K G.EE ca1 mu1 H1 S1 ∧ RE X.K G.EE ca1 mu1 H1 σ ρ ∧ IsL X.K G.EE ca1 mu1 H1 vs ds ∧ ds.length = lenEs as ∧ grab ρ js = some cs ∧
      okR X.K G.EE G.XA (IsR X.K G.EE) ca1 mu1 H1 (kept (G.call (.glo f) (ds ++ [.clo np e cs]) S1)) Q (fun c d H' => W c d σ H')) I (tArgs_of as w re (okR.bind h fun ds S1 vs ca1 mu1 H1 q x1 w1 i1 h1 => by
    refine ⟨w1.tb, fun fa c' H2 m => ?_⟩
    cases qg : grab ρ js with
    | none => rw [qg] at h1; exact h1.elim
    | some cs =>
      rw [qg] at h1
      exact ⟨vs, fa, c', H1, ca1, mu1, S1, ds, cs, rfl, m, w1, re.ext x1, i1, hel _ _ _ _ q, rfl, h1⟩))
  refine PySem.W.callWith_K (h₀ := X.base) I.ok.mod.kin hk (thn hA fun us s2 hh => ?_) (star_ne hne es X.env) (plain_back (e := ea) hn pos X.env)
  obtain ⟨vs', H2, I2, r2, vs, fa, c', H1, ca1, mu1, S1, ds, cs, rfl, m, w1, re1, iL, hdl, qg, h1⟩ := hh
  refine ⟨I2.kIn, ?_⟩
  obtain ⟨x12, w2, nf, nc⟩ := made_ext m w1
  obtain ⟨em, bm, tm, n0, f0, c0⟩ := m
  generalize hF : (⟨X.env.qual ++ "<lambda>", params, body, scope, cloFrom X.env.cells scope.names [], c'⟩ : LF) = F0 at f0 c0 nc
  have hcl : F0.cl = cloFrom X.env.cells scope.names [] := by rw [← hF]
  have hfr2 : ∀ y ∈ scope.names, y.2 = .free → ∃ c, X.env.cells.lookup y.1 = some c := fun y hy e => (hfree y hy e).elim (fun z => I.ok.has _ (.inl z)) fun z => I.ok.has _ (.inr z)
  have C0 : Cels (F0.cl.map (·.2)) H2 s2.heap X.base (frs X.stack) := cels_of I2 hfn (by rw [hcl]; exact clo_at hfr2)
  have hjs := namesOf_ok hfr
  rw [← ok.N] at hjs
  have CA := NdefX.cells_of I2 (NdefX.Caps.made I2.ok hfree (NdefX.ndef_fr b4) hjs)
  obtain ⟨ws, eW, iW⟩ := grab_ok (re1.ext x12) qg
  rw [eW] at CA
  have mem : ∀ {y c}, F0.cl.lookup y = some c → c ∈ F0.cl.map (·.2) := fun {y c} e => List.mem_map.mpr ⟨(y, c), PySem.mem_of_lookup e, rfl⟩
  have x23 : Ext ca1 mu1 H2 ca1 mu1 (tell H2 s2.heap (F0.cl.map (·.2))) := C0.ext
  have cls : CelsAt mu1 (tell H2 s2.heap (F0.cl.map (·.2))) F0.cl fr ws := by
    refine ⟨by have := CA.len; rw [List.length_map] at this; exact this, fun c hc => ?_, by rw [hcl]; exact CA.inj, fun i y ey => ?_⟩
    · obtain ⟨o, u, e1, e2⟩ := C0.o c hc
      exact ⟨fun z => w2.tm0 z (C0.n c hc), o, u, tell_in hc e1, e2⟩
    · obtain ⟨c, e1, e2⟩ := CA.has i y ey
      rw [← hcl] at e1
      have hi : i < ws.length := by
        have := (List.getElem?_eq_some_iff.mp ey).1
        have l := CA.len
        rw [List.length_map] at l
        omega
      obtain ⟨u, r, o, o1, o2⟩ := e2 ws[i] (by rw [List.getElem?_map, List.getElem?_eq_getElem hi]; rfl)
      exact ⟨c, o, u, ws[i], e1, tell_in (mem e1) o1, o2, List.getElem?_eq_getElem hi, r⟩
  have iC : Is X.K G.EE ca1 mu1 (tell H2 s2.heap (F0.cl.map (·.2))) (.ref fa) (.clo np e cs) := by
    refine .clo (C0.tl f0) nf (C0.tl c0) nc ?_ cls (by rw [C0.hide]; exact iW)
    rw [← ok.tb, ← hF]
    show (argOk _ _ && decide _ && NdefX.nscB _ _ _ _ && chkE _ _ _ _) = true
    rw [b1, decide_eq_true b2, b3, hc]
    rfl
  have iLs : IsL X.K G.EE ca1 mu1 (tell H2 s2.heap (F0.cl.map (·.2))) (vs ++ [.ref fa]) (ds ++ [.clo np e cs]) := ((iL.ex x12).ex x23).append (.cons iC .nil)
  have lens : (vs ++ [V.ref fa]).length = lenEs as + 1 := by rw [iLs.length, List.length_append, hdl]; rfl
  have bl : us.length = ps.length := by
    rw [← r2.length]
    exact F.len (vs ++ [.ref fa]) (tell H2 s2.heap (F0.cl.map (·.2))) (fun _ _ => True) (fun _ _ _ => True) ⟨lens, ca1, mu1, _, S1, C0.wd w2, iLs, by
      cases q : G.call (.glo f) (ds ++ [.clo np e cs]) S1 with
      | ok d S' => exact fun _ _ _ _ _ _ _ => trivial
      | exc y S' => exact fun _ _ _ _ _ _ _ _ => trivial
      | no => rw [q] at h1; exact h1⟩
  have bt := hbd s2 us I2.kIn (by rw [List.append_nil]; exact bl)
  rw [List.append_nil] at bt
  refine wpAny_call (codeAny_mono (F.run X.A X.stack s2 (tell H2 s2.heap (F0.cl.map (·.2))) ⟨us, []⟩ us (vs ++ [.ref fa]) (fun v H' => (∀ c ∈ F0.cl.map (·.2), H' c = tell H2 s2.heap (F0.cl.map (·.2)) c) ∧ Q v (hideC H' (F0.cl.map (·.2)))) (fun _ _ _ => False) hr (C0.env0 I2.env0) bt r2 ⟨lens, ca1, mu1, _, S1, C0.wd w2, iLs, ?_⟩) fun r s' hq => ?_)
  · cases q : G.call (.glo f) (ds ++ [.clo np e cs]) S1 with
    | ok d S' =>
      rw [q] at h1
      have h1 : okR X.K G.EE G.XA (IsR X.K G.EE) ca1 mu1 H1 (if d.cf = true ∧ stoCf S' = true then .ok d S' else .no) Q (fun c d H' => W c d σ H') := h1
      split at h1
      · rename_i z
        intro v ca' mu' H' x w' i'
        have kn : Known (F0.cl.map (·.2)) H' := fun c hc => by
          obtain ⟨o, u, e1, e2⟩ := C0.known c hc
          exact ⟨o, u, x.kp c _ e1 (nt_frz _ _) (fun z => w2.tm0 z.2 (C0.n c hc)), e2⟩
        refine ⟨fun c hc => ?_, h1 v ca' mu' _ (x12.trans (by have y := x.hide (F0.cl.map (·.2)); rw [C0.hide] at y; exact y)) (Wd.thaw kn w' z.2) (Is.thaw kn _ z.1 i')⟩
        obtain ⟨o, u, e1, e2⟩ := C0.known c hc
        rw [e1, x.kp c _ e1 (nt_frz _ _) (fun z => w2.tm0 z.2 (C0.n c hc))]
      · exact h1.elim
    | exc y S' => rw [q] at h1; exact h1.elim
    | no => rw [q] at h1; exact h1.elim
  · cases r with
    | error e =>
      obtain ⟨_, _, _, _, _, _, _, _, _, _, _, _, z⟩ := hq
      exact z.elim
    | ok fl =>
      cases fl with
      | ret u => exact I2.after (C0.ce hq)
      | next => exact False.elim hq
      | brk => exact False.elim hq
      | cont => exact False.elim hq
end
end KI


set_option Elab.async false
set_option linter.all false
set_option maxRecDepth 100000
set_option autoImplicit false
set_option maxHeartbeats 2000000
/-! The checker: the code is the text's; then the text's expression has the code's reading. -/
namespace KI
open PySem PySem.Spec PyProof.Rows L2

section
variable {T : Tb} {G : En}
mutual
theorem sndG : ∀ (t : Tg) {x : Expr} {C : Cc} {W : WX} {X : Cx}, CxOk T G C W X → chkG C t x = true → PG X x (RdG X.K G.EE t)
  | .nm i, x, C, W, X, ok, h => by
    cases x with
    | Name y p =>
      obtain ⟨h1, h2⟩ := Bool.and_eq_true_iff.mp (show (decide (C.N[i]? = some y) && locB C.sc C.ss y) = true from h)
      obtain ⟨h3, h4⟩ := locB_ok ok h2
      exact sndG_nm ok.nd (by rw [ok.N]; exact of_decide_eq_true h1) h3 h4
    | _ => cases h
  | .tp ts, x, C, W, X, ok, h => by
    cases x with
    | Tuple ys k p =>
      obtain ⟨h0, h⟩ := ba (show (C.calm && chkGs C ts ys) = true from h)
      obtain ⟨h1, h2, h3⟩ := sndGs ts ok h
      exact sndG_tp (ok.calm h0) h1 h2 h3
    | _ => cases h
theorem sndGs : ∀ (ts : Tgs) {xs : List Expr} {C : Cc} {W : WX} {X : Cx}, CxOk T G C W X → chkGs C ts xs = true → PGs X xs (RdGs X.K G.EE ts) ∧ (∀ e ∈ xs, notStar e = true) ∧ xs.length = lenTs ts
  | .nil, xs, C, W, X, ok, h => by
    cases xs with
    | nil => exact ⟨sndG_nil, fun e h => absurd h (by simp), rfl⟩
    | cons _ _ => cases h
  | .cons t ts, xs, C, W, X, ok, h => by
    cases xs with
    | nil => cases h
    | cons x xs =>
      obtain ⟨h1, h2⟩ := Bool.and_eq_true_iff.mp (show (chkG C t x && notStar x && chkGs C ts xs) = true from h)
      obtain ⟨h1, h3⟩ := Bool.and_eq_true_iff.mp h1
      obtain ⟨g1, g2, g3⟩ := sndGs ts ok h2
      exact ⟨sndG_cons (sndG t ok h1) g1 h3, fun e he => (List.mem_cons.mp he).elim (fun q => by rw [q]; exact h3) (g2 e), by rw [List.length_cons, g3]; rfl⟩
end
theorem ptD {X : Cx} {W : WX} {e : Ex} {x : Expr} (h : PE X x (RdE X.K G W e)) (he : ∀ whole, isTrue x X.env whole = (do let v ← whole; standAt x.pos; holding [v] (truthy v))) : PE X x (RdE X.K G W e) ∧ PT X x (RdT X.K G W e) := ⟨h, pt_val h he⟩
theorem pt_ifExp {X : Cx} {c a b : Expr} {pos : Pos} {tc ta tb : TT} (hc : PT X c tc) (ha : PT X a ta) (hb : PT X b tb) : PT X (.IfExp c a b pos) (fun σ H Q => tc σ H fun k H1 => if k = true then ta σ H1 Q else tb σ H1 Q) := by
  refine ⟨fun pins s σ H Q I h => ?_⟩
  show wpAny _ _ (do if ← isTrue c X.env (eval c X.env) then isTrue a X.env (eval a X.env) else isTrue b X.env (eval b X.env)) _ _ _
  refine wpAny_bind (thn (hc.run pins s σ H _ I h) fun d s1 ⟨H1, I1, q1⟩ => ?_)
  cases d with
  | true => exact ha.run pins s1 σ H1 Q I1 q1
  | false => exact hb.run pins s1 σ H1 Q I1 q1
theorem keysX_ok : ∀ {ks : List Str} {ys : List (Option Expr)}, keysX ks ys = true → ys.all (·.isSome) = true ∧ ys.length = ks.length
  | [], [], _ => ⟨rfl, rfl⟩
  | [], y :: ys, h => by cases y <;> cases h
  | _ :: _, [], h => by cases h
  | k :: ks, y :: ys, h => by
    match y, h with
    | .some (.Constant (.str s) j p), h =>
      obtain ⟨h1, h2⟩ := ba (show (decide (s = k) && keysX ks ys) = true from h)
      obtain ⟨a, b⟩ := keysX_ok h2
      exact ⟨a, by rw [List.length_cons, List.length_cons, b]⟩
theorem mark_ok {op : CmpOp} {x : Expr} (h : markB x = true) : behindInMarks op x = false := by
  cases x <;> first | rfl | cases h
theorem fold_ok {x : Expr} {env : PySem.Env} (h : markB x = true) (v : Value) : foldedSetIterable x env v = pure v := by
  cases x <;> first | rfl | cases h
theorem ix_ok {x : Expr} (h : ixB x = true) : PlainIx x := by
  intro o i
  cases x <;> first | rfl | cases h
mutual
theorem sndE : ∀ (e : Ex) {x : Expr} {C : Cc} {W : WX} {X : Cx}, CxOk T G C W X → chkE T C e x = true → PE X x (RdE X.K G W e) ∧ PT X x (RdT X.K G W e)
  | .var i, x, C, W, X, ok, h => by
    cases x with
    | Name y p =>
      obtain ⟨h1, h3⟩ := ba (show (decide (C.N[i]? = some y) && visB C.sc y && nmOk y) = true from h)
      obtain ⟨h1, h2⟩ := ba h1
      obtain ⟨n1, n2⟩ := nmOk_ok h3
      exact ptD (snd_var (by rw [ok.N]; exact of_decide_eq_true h1) (visB_ok ok h2) n1 n2) fun _ => rfl
    | _ => cases h
  | .con c, x, C, W, X, ok, h => by
    cases x with
    | Name y p =>
      obtain ⟨h1, h3⟩ := ba (show (decide (T.cn c = some y) && glB C.sc y && nmOk y) = true from h)
      obtain ⟨h1, h2⟩ := ba h1
      obtain ⟨v, u, g1, g2, g3⟩ := ok.cn c y (of_decide_eq_true h1)
      exact ptD (snd_con (glB_ok ok h2) g1 g2 (nmOk_ok h3).1 g3) fun _ => rfl
    | _ => cases h
  | .int i, x, C, W, X, ok, h => by
    cases x with
    | Constant c k p =>
      cases c with
      | int j =>
        have e : j = i := of_decide_eq_true h
        subst e
        exact ptD snd_int fun _ => rfl
      | _ => cases h
    | _ => cases h
  | .bl i, x, C, W, X, ok, h => by
    cases x with
    | Constant c k p =>
      cases c with
      | bool j =>
        have e : j = i := of_decide_eq_true h
        subst e
        exact ptD snd_bl fun _ => rfl
      | _ => cases h
    | _ => cases h
  | .non, x, C, W, X, ok, h => by
    cases x with
    | Constant c k p =>
      cases c with
      | none => exact ptD snd_non fun _ => rfl
      | _ => cases h
    | _ => cases h
  | .str i, x, C, W, X, ok, h => by
    cases x with
    | Constant c k p =>
      cases c with
      | str j =>
        have e : j = i := of_decide_eq_true h
        subst e
        exact ptD snd_str fun _ => rfl
      | _ => cases h
    | _ => cases h
  | .tup es, x, C, W, X, ok, h => by
    cases x with
    | Tuple ys k p => exact ptD (snd_tup (sndEs es ok (show chkEs T C es ys = true from h)).1) fun _ => rfl
    | _ => cases h
  | .lst es, x, C, W, X, ok, h => by
    cases x with
    | List ys p => exact ptD (snd_lst (sndEs es ok (show chkEs T C es ys = true from h)).1) fun _ => rfl
    | _ => cases h
  | .dct _ _, x, C, W, X, ok, h => by cases h
  | .newc e, x, C, W, X, ok, h => by
    cases e with
    | lst es =>
      cases x with
      | List ys p => exact ptD (snd_newl (sndEs es ok (show chkEs T C es ys = true from h)).1) fun _ => rfl
      | _ => cases h
    | dct ks es =>
      cases x with
      | Dict ys zs p =>
        obtain ⟨h1, h5⟩ := ba (show (keysX ks ys && decide (ks.length = zs.length) && decide (ks.length ≤ 15) && decide (ks ≠ []) && chkEs T C es zs) = true from h)
        obtain ⟨h1, h4⟩ := ba h1
        obtain ⟨h1, h3⟩ := ba h1
        obtain ⟨h1, h2⟩ := ba h1
        obtain ⟨trs, a1, a2, a3⟩ := sndP es ks (pos := p) ok h1 h5 (of_decide_eq_true h2)
        obtain ⟨k1, k2⟩ := keysX_ok h1
        exact ptD (snd_newd a1 k1 (by rw [k2]; exact of_decide_eq_true h2) k2 a2 a3 (of_decide_eq_true h4) (of_decide_eq_true h3)) fun _ => rfl
      | _ => cases h
    | _ => cases h
  | .bin o a b, x, C, W, X, ok, h => by
    cases x with
    | BinOp y p z q =>
      obtain ⟨h1, h3⟩ := ba (show (opB p (opOf o) && chkE T C a y && chkE T C b z) = true from h)
      obtain ⟨h1, h2⟩ := ba h1
      have e := opB_ok h1
      subst e
      exact ptD (snd_bin (sndE a ok h2).1 (sndE b ok h3).1) fun _ => rfl
    | _ => cases h
  | .neg a, x, C, W, X, ok, h => by
    cases x with
    | UnaryOp o y q =>
      cases o with
      | USub => exact ptD (snd_neg (sndE a ok (show chkE T C a y = true from h)).1) fun _ => rfl
      | _ => cases h
    | _ => cases h
  | .cmp o a b, x, C, W, X, ok, h => by
    cases x with
    | Compare y ps zs q =>
      cases ps with
      | nil => cases h
      | cons p ps =>
        cases ps with
        | cons _ _ => cases zs <;> (try cases h) <;> (rename_i zs; cases zs <;> cases h)
        | nil =>
          cases zs with
          | nil => cases h
          | cons z zs =>
            cases zs with
            | cons _ _ => cases h
            | nil =>
              obtain ⟨h1, h4⟩ := ba (show (cpB p (copOf o) && chkE T C a y && chkE T C b z && markB z) = true from h)
              obtain ⟨h1, h3⟩ := ba h1
              obtain ⟨h1, h2⟩ := ba h1
              have e : p = copOf o := of_decide_eq_true h1
              subst e
              exact ⟨snd_cmp ok.un (sndE a ok h2).1 (sndE b ok h3).1 (mark_ok h4), snd_cmpT ok.un (sndE a ok h2).1 (sndE b ok h3).1 (mark_ok h4)⟩
    | _ => cases h
  | .chn o p a b c, x, C, W, X, ok, h => by
    cases x with
    | Compare y ps zs q =>
      match ps, zs, h with
      | [o', p'], [z, u], h =>
        obtain ⟨h1, h6⟩ := ba (show (cpB o' (copOf o) && cpB p' (copOf p) && chkE T C a y && chkE T C b z && chkE T C c u && markB u) = true from h)
        obtain ⟨h1, h5⟩ := ba h1
        obtain ⟨h1, h4⟩ := ba h1
        obtain ⟨h1, h3⟩ := ba h1
        obtain ⟨h1, h2⟩ := ba h1
        have e1 : o' = copOf o := of_decide_eq_true h1
        have e2 : p' = copOf p := of_decide_eq_true h2
        subst e1 e2
        have hm : lastMarks [copOf o, copOf p] [z, u] = false := mark_ok (op := copOf p) h6
        exact ⟨snd_chn ok.un (sndE a ok h3).1 (sndE b ok h4).1 (sndE c ok h5).1 hm, snd_chnT ok.un (sndE a ok h3).1 (sndE b ok h4).1 (sndE c ok h5).1 hm⟩
    | _ => cases h
  | .and a b, x, C, W, X, ok, h => by
    cases x with
    | BoolOp o ys pos =>
      match o, ys, h with
      | .And, [y, z], h =>
        obtain ⟨h1, h2⟩ := ba (show (chkE T C a y && chkE T C b z) = true from h)
        exact ⟨snd_and (sndE a ok h1).1 (pe_one (sndE b ok h2).1), PW.pt (snd_andT (sndE a ok h1).2 (pw_and1 (sndE b ok h2).2))⟩
      | .And, y :: z :: u :: r, h =>
        obtain ⟨h1, h2⟩ := ba (show (chkE T C a y && chkE T C b (.BoolOp .And (z :: u :: r) pos)) = true from h)
        obtain ⟨g1, g2⟩ := sndE b ok h2
        exact ⟨snd_and (sndE a ok h1).1 g1, PW.pt (snd_andT (sndE a ok h1).2 ⟨fun wh pins s σ H Q I q => g2.run pins s σ H Q I q⟩)⟩
    | _ => cases h
  | .or a b, x, C, W, X, ok, h => by
    cases x with
    | BoolOp o ys pos =>
      match o, ys, h with
      | .Or, [y, z], h =>
        obtain ⟨h1, h2⟩ := ba (show (chkE T C a y && chkE T C b z) = true from h)
        exact ⟨snd_or (sndE a ok h1).1 (pe_one (sndE b ok h2).1), PW.pt (snd_orT (sndE a ok h1).2 (pw_or1 (sndE b ok h2).2))⟩
      | .Or, y :: z :: u :: r, h =>
        obtain ⟨h1, h2⟩ := ba (show (chkE T C a y && chkE T C b (.BoolOp .Or (z :: u :: r) pos)) = true from h)
        obtain ⟨g1, g2⟩ := sndE b ok h2
        exact ⟨snd_or (sndE a ok h1).1 g1, PW.pt (snd_orT (sndE a ok h1).2 ⟨fun wh pins s σ H Q I q => g2.run pins s σ H Q I q⟩)⟩
    | _ => cases h
  | .not a, x, C, W, X, ok, h => by
    cases x with
    | UnaryOp o y q =>
      cases o with
      | Not => exact ⟨snd_not (sndE a ok (show chkE T C a y = true from h)).1, snd_notT (sndE a ok (show chkE T C a y = true from h)).2⟩
      | _ => cases h
    | _ => cases h
  | .ite c a b, x, C, W, X, ok, h => by
    cases x with
    | IfExp u y z q =>
      obtain ⟨h1, h3⟩ := ba (show (chkE T C c u && chkE T C a y && chkE T C b z) = true from h)
      obtain ⟨h1, h2⟩ := ba h1
      refine ⟨snd_ite (sndE c ok h1).2 (sndE a ok h2).1 (sndE b ok h3).1, PTimp (pt_ifExp (sndE c ok h1).2 (sndE a ok h2).2 (sndE b ok h3).2) fun σ H Q ⟨ca, mu, ρ, S, w, re, h⟩ => step w re h fun d S1 v ca1 mu1 H1 e1 w1 re1 i1 h1 => ?_⟩
      obtain ⟨k, rfl, h2⟩ := bool_of (S := S1) (f := fun k S => bif k then ev G.cons G.call a ρ S else ev G.cons G.call b ρ S) i1 (by cases d <;> first | rfl | (rename_i z; cases z <;> rfl)) h1
      refine ⟨k, rfl, ?_⟩
      cases k with
      | true => exact iteT (last w1 re1 h2)
      | false => exact iteF (last w1 re1 h2)
    | _ => cases h
  | .idx a i, x, C, W, X, ok, h => by
    cases x with
    | Subscript y z q =>
      obtain ⟨h1, h3⟩ := ba (show (chkE T C a y && chkE T C i z && ixB z) = true from h)
      obtain ⟨h1, h2⟩ := ba h1
      exact ptD (snd_idx ok.un (sndE a ok h1).1 (sndE i ok h2).1 (ix_ok h3)) fun _ => rfl
    | _ => cases h
  | .sli a lo hi, x, C, W, X, ok, h => by
    cases x with
    | Subscript y z q =>
      match z, h with
      | .Slice l u .none p2, h =>
        obtain ⟨h1, h3⟩ := ba (show (chkE T C a y && chkO T C lo l && chkO T C hi u) = true from h)
        obtain ⟨h1, h2⟩ := ba h1
        exact ptD (snd_sli (sndE a ok h1).1 (sndO lo ok h2) (sndO hi ok h3)) fun _ => rfl
    | _ => cases h
  | .call f es, x, C, W, X, ok, h => by
    match x, h with
    | .Call (.Name y p) (z :: zs) [] q, h =>
      obtain ⟨h1, h4⟩ := ba (show (decide (T.fn f = some (y, lenEs es)) && glB C.sc y && nmOk y && chkEs T C es (z :: zs)) = true from h)
      obtain ⟨h1, h3⟩ := ba h1
      obtain ⟨h1, h2⟩ := ba h1
      obtain ⟨k, fd, ps, g1, g2, g3, g4, g5, _⟩ := ok.fn f y _ (of_decide_eq_true h1)
      obtain ⟨a1, a2⟩ := sndEs es ok h4
      exact ptD (snd_call ok.tk g1 g2 (glB_ok ok h2) g3 g4 g5 (nmOk_ok h3).1 (fun ρ S ds S' e => evs_len e) a1 (a2 z List.mem_cons_self) fun e he => a2 e (List.mem_cons_of_mem _ he)) fun _ => rfl
  | .call0 f, x, C, W, X, ok, h => by
    match x, h with
    | .Call (.Name y p) [] [] q, h =>
      obtain ⟨h1, h3⟩ := ba (show (decide (T.fn f = some (y, 0)) && glB C.sc y && nmOk y) = true from h)
      obtain ⟨h1, h2⟩ := ba h1
      obtain ⟨k, fd, ps, g1, g2, g3, g4, g5, _⟩ := ok.fn f y _ (of_decide_eq_true h1)
      exact ptD (snd_call0 g1 g2 (glB_ok ok h2) g3 g4 g5 (nmOk_ok h3).1) fun _ => rfl
  | .callL f es np js e, x, C, W, X, ok, h => by
    match x, h with
    | .Call (.Name y p) (z :: zs) [] q, h =>
      obtain ⟨h1, h5⟩ := ba (show (C.lam && decide (T.fn f = some (y, lenEs es + 1)) && glB C.sc y && nmOk y && chkL T C es (fun p b scope => match namesOf C.N js with
        | some fr => lamB C.sc np fr p scope && chkE T ⟨p.args.map (·.arg) ++ fr, scope, scope, true, false⟩ e b
        | none => false) (z :: zs)) = true from h)
      obtain ⟨h1, h4⟩ := ba h1
      obtain ⟨h1, h3⟩ := ba h1
      obtain ⟨h1, h2⟩ := ba h1
      obtain ⟨a1, pp, bb, ss, a2, a3⟩ := sndL es ok h5
      have a2 : (match namesOf C.N js with
        | some fr => lamB C.sc np fr pp ss && chkE T ⟨pp.args.map (·.arg) ++ fr, ss, ss, true, false⟩ e bb
        | none => false) = true := a2
      cases qn : namesOf C.N js with
      | none => rw [qn] at a2; cases a2
      | some fr =>
        rw [qn] at a2
        obtain ⟨b1, b2⟩ := ba a2
        exact ptD (snd_callL ok h1 (of_decide_eq_true h2) (glB_ok ok h3) (nmOk_ok h4).1 qn b1 b2 (fun ρ S ds S' e => evs_len e) (fun tl ht => a3 tl ht) (a1 z List.mem_cons_self) fun e he => a1 e (List.mem_cons_of_mem _ he)) fun _ => rfl
  | .callv i es, x, C, W, X, ok, h => by
    match x, h with
    | .Call (.Name y p) zs [] q, h =>
      obtain ⟨h1, h4⟩ := ba (show (decide (C.N[i]? = some y) && visB C.sc y && nmOk y && chkEs T C es zs) = true from h)
      obtain ⟨h1, h3⟩ := ba h1
      obtain ⟨h1, h2⟩ := ba h1
      obtain ⟨a1, a2⟩ := sndEs es ok h4
      have hN : X.N[i]? = some y := by rw [ok.N]; exact of_decide_eq_true h1
      cases zs with
      | nil =>
        cases es with
        | nil => exact ptD (snd_callv0 ok hN (visB_ok ok h2) (nmOk_ok h3).1 (nmOk_ok h3).2) fun _ => rfl
        | cons _ _ => cases h4
      | cons z zs => exact ptD (snd_callv ok hN (visB_ok ok h2) a1 (a2 z List.mem_cons_self) (fun e he => a2 e (List.mem_cons_of_mem _ he)) (nmOk_ok h3).1 (nmOk_ok h3).2) fun _ => rfl
  | .fnv i, x, C, W, X, ok, h => by
    cases x with
    | Name y p =>
      obtain ⟨h1, h3⟩ := ba (show (decide ((T.fn i).map (·.1) = some y) && glB C.sc y && nmOk y) = true from h)
      obtain ⟨h1, h2⟩ := ba h1
      have h1 := of_decide_eq_true h1
      cases q : T.fn i with
      | none => rw [q] at h1; cases h1
      | some yn =>
        obtain ⟨y', n⟩ := yn
        rw [q] at h1
        cases h1
        exact ptD (snd_fnv ok q (glB_ok ok h2) (nmOk_ok h3).1) fun _ => rfl
    | _ => cases h
  | .nset e, x, C, W, X, ok, h => by
    match x, h with
    | .Call (.Name y p) [.Call (.Name u p2) [z] [] q2] [] q, h =>
      obtain ⟨h1, h9⟩ := ba (show (decide (y = Str.ofString "len") && T.bl y && glB C.sc y && decide (u = Str.ofString "set") && T.bl u && glB C.sc u && chkE T C e z && notStar z && C.calm) = true from h)
      obtain ⟨h1, h8⟩ := ba h1
      obtain ⟨h1, h7⟩ := ba h1
      obtain ⟨h1, h6⟩ := ba h1
      obtain ⟨h1, h5⟩ := ba h1
      obtain ⟨h1, h4⟩ := ba h1
      obtain ⟨h1, h3⟩ := ba h1
      obtain ⟨h1, h2⟩ := ba h1
      have e1 : y = Str.ofString "len" := of_decide_eq_true h1
      have e2 : u = Str.ofString "set" := of_decide_eq_true h4
      subst e1 e2
      exact ptD (snd_nset (ok.calm h9) (glB_ok ok h3) (ok.bl _ h2) (glB_ok ok h6) (ok.bl _ h5) (sndE e ok h7).1 h8) fun _ => rfl
  | .rngl a b, x, C, W, X, ok, h => by
    match x, h with
    | .Call (.Name y p) [.Call (.Name u p2) [z, v] [] q2] [] q, h =>
      obtain ⟨h1, h11⟩ := ba (show (decide (y = Str.ofString "list") && T.bl y && glB C.sc y && decide (u = Str.ofString "range") && T.bl u && glB C.sc u && chkE T C a z && notStar z && chkE T C b v && notStar v && C.calm) = true from h)
      obtain ⟨h1, h10⟩ := ba h1
      obtain ⟨h1, h9⟩ := ba h1
      obtain ⟨h1, h8⟩ := ba h1
      obtain ⟨h1, h7⟩ := ba h1
      obtain ⟨h1, h6⟩ := ba h1
      obtain ⟨h1, h5⟩ := ba h1
      obtain ⟨h1, h4⟩ := ba h1
      obtain ⟨h1, h3⟩ := ba h1
      obtain ⟨h1, h2⟩ := ba h1
      have e1 : y = Str.ofString "list" := of_decide_eq_true h1
      have e2 : u = Str.ofString "range" := of_decide_eq_true h4
      subst e1 e2
      exact ptD (snd_rngl (ok.calm h11) (glB_ok ok h3) (ok.bl _ h2) (glB_ok ok h6) (ok.bl _ h5) (sndE a ok h7).1 (sndE b ok h9).1 h8 h10) fun _ => rfl
  | .bi b es, x, C, W, X, ok, h => by
    match x, h with
    | .Call (.Name y p) (z :: zs) [] q, h =>
      obtain ⟨h1, h5⟩ := ba (show (decide (y = Str.ofString (biId b)) && T.bl y && glB C.sc y && chkEs T C es (z :: zs) && C.calm) = true from h)
      obtain ⟨h1, h4⟩ := ba h1
      obtain ⟨h1, h3⟩ := ba h1
      obtain ⟨h1, h2⟩ := ba h1
      have e : y = Str.ofString (biId b) := of_decide_eq_true h1
      subst e
      obtain ⟨a1, a2⟩ := sndEs es ok h4
      exact ptD (snd_bi (ok.calm h5) (glB_ok ok h3) (ok.bl _ h2) a1 (a2 z List.mem_cons_self) fun e he => a2 e (List.mem_cons_of_mem _ he)) fun _ => rfl
  | .isi a t, x, C, W, X, ok, h => by
    match x, h with
    | .Call (.Name y p) [z, .Name u p2] [] q, h =>
      obtain ⟨h1, h8⟩ := ba (show (decide (y = Str.ofString "isinstance") && T.bl y && glB C.sc y && decide (u = Str.ofString (tyName t)) && T.bl u && glB C.sc u && chkE T C a z && notStar z) = true from h)
      obtain ⟨h1, h7⟩ := ba h1
      obtain ⟨h1, h6⟩ := ba h1
      obtain ⟨h1, h5⟩ := ba h1
      obtain ⟨h1, h4⟩ := ba h1
      obtain ⟨h1, h3⟩ := ba h1
      obtain ⟨h1, h2⟩ := ba h1
      have e1 : y = Str.ofString "isinstance" := of_decide_eq_true h1
      have e2 : u = Str.ofString (tyName t) := of_decide_eq_true h4
      subst e1 e2
      exact ptD (snd_isi (glB_ok ok h3) (ok.bl _ h2) (glB_ok ok h6) (ok.bl _ h5) (sndE a ok h7).1 h8) fun _ => rfl
  | .mth m o es, x, C, W, X, ok, h => by
    match x, h with
    | .Call (.Attribute y n apos) (z :: zs) [] cpos, h =>
      obtain ⟨h1, h6⟩ := ba (show (attB y && decide (n = Str.ofString (mtId m)) && (apos.endLine == cpos.line) && chkE T C o y && chkEs T C es (z :: zs) && decide (lenEs es = mtN m)) = true from h)
      obtain ⟨h1, h5⟩ := ba h1
      obtain ⟨h1, h4⟩ := ba h1
      obtain ⟨h1, h3⟩ := ba h1
      obtain ⟨hat, h2⟩ := ba h1
      clear h1
      have en : n = Str.ofString (mtId m) := of_decide_eq_true h2
      subst en
      have hm := of_decide_eq_true h6
      cases m with
      | index => cases es with
        | nil => cases h5
        | cons a as => cases as with
          | cons _ _ => exact absurd hm (by show ¬ (_ + 1 + 1 = 1); omega)
          | nil => cases zs with
            | cons _ _ =>
              obtain ⟨_, g3⟩ := ba (show (chkE T C a z && notStar z && chkEs T C .nil _) = true from h5)
              cases g3
            | nil =>
              obtain ⟨g1, _⟩ := ba (show (chkE T C a z && notStar z && chkEs T C .nil []) = true from h5)
              obtain ⟨g1, g2⟩ := ba g1
              exact ptD (snd_index ok.un (sndE o ok h4).1 (sndE a ok g1).1 g2 hat h3) fun _ => rfl
      | split => cases es with
        | nil => cases h5
        | cons a as => cases as with
          | cons _ _ => exact absurd hm (by show ¬ (_ + 1 + 1 = 1); omega)
          | nil => cases zs with
            | cons _ _ =>
              obtain ⟨_, g3⟩ := ba (show (chkE T C a z && notStar z && chkEs T C .nil _) = true from h5)
              cases g3
            | nil =>
              obtain ⟨g1, _⟩ := ba (show (chkE T C a z && notStar z && chkEs T C .nil []) = true from h5)
              obtain ⟨g1, g2⟩ := ba g1
              exact ptD (snd_split (sndE o ok h4).1 (sndE a ok g1).1 g2 hat h3) fun _ => rfl
      | join => cases es with
        | nil => cases h5
        | cons a as => cases as with
          | cons _ _ => exact absurd hm (by show ¬ (_ + 1 + 1 = 1); omega)
          | nil => cases zs with
            | cons _ _ =>
              obtain ⟨_, g3⟩ := ba (show (chkE T C a z && notStar z && chkEs T C .nil _) = true from h5)
              cases g3
            | nil =>
              obtain ⟨g1, _⟩ := ba (show (chkE T C a z && notStar z && chkEs T C .nil []) = true from h5)
              obtain ⟨g1, g2⟩ := ba g1
              exact ptD (snd_join (sndE o ok h4).1 (sndE a ok g1).1 g2 hat h3) fun _ => rfl
      | get => cases es with
        | nil => cases h5
        | cons a as =>
          obtain ⟨g1, g3⟩ := ba (show (chkE T C a z && notStar z && chkEs T C as zs) = true from h5)
          obtain ⟨g1, g2⟩ := ba g1
          cases as with
          | nil => exact absurd hm (by show ¬ (0 + 1 = 2); omega)
          | cons b bs => cases zs with
            | nil => cases g3
            | cons u us => cases bs with
              | cons _ _ => exact absurd hm (by show ¬ (_ + 1 + 1 + 1 = 2); omega)
              | nil =>
                obtain ⟨k1, k3⟩ := ba (show (chkE T C b u && notStar u && chkEs T C .nil us) = true from g3)
                obtain ⟨k1, k2⟩ := ba k1
                cases us with
                | cons _ _ => cases k3
                | nil => exact ptD (snd_get ok.un (sndE o ok h4).1 (sndE a ok g1).1 (sndE b ok k1).1 g2 k2 hat h3) fun _ => rfl
  | .lc own tg it c e, x, C, W, X, ok, h => by
    match x, h with
    | .ListComp elt [⟨tgx, iter, ifs, k⟩] scope pos, h =>
      obtain ⟨h1, h8⟩ := ba (show (C.calm && decide (k = 0) && blkC C.N C.sc scope (own.filterMap fun i => (C.N[i]?).map fun y => (y, i)) && decide ((own.filterMap fun i => (C.N[i]?).map fun y => (y, i)).map (·.2) = own) && (slotsT tg).all (fun i => own.contains i)
        && chkI T C tgx it iter && chkG ⟨C.N, relS scope C.sc, scope, C.calm, false⟩ tg tgx && chkC T ⟨C.N, relS scope C.sc, scope, C.calm, false⟩ c ifs && chkE T ⟨C.N, relS scope C.sc, scope, C.calm, false⟩ e elt) = true from h)
      obtain ⟨h1, h7⟩ := ba h1
      obtain ⟨h1, h6⟩ := ba h1
      obtain ⟨h1, h5⟩ := ba h1
      obtain ⟨h1, h4⟩ := ba h1
      obtain ⟨h1, h3⟩ := ba h1
      obtain ⟨h1, h2⟩ := ba h1
      obtain ⟨h0, h1⟩ := ba h1
      have e0 : k = 0 := of_decide_eq_true h1
      subst e0
      obtain ⟨i1, i2⟩ := sndI it (tg := tgx) ok h5
      refine ptD (snd_lc (own := own.filterMap fun i => (C.N[i]?).map fun y => (y, i)) (ok.calm h0) ok.nd i1 (by rw [ok.N, ok.sc]; exact blkOk_by h2) (of_decide_eq_true h3) (fun i hi => by simpa using List.all_eq_true.mp h4 i hi)
        (fun s H A cl fp => sndG tg (blk_ok ok s H scope cl A fp) h6) (fun s H A cl fp => sndC c (blk_ok ok s H scope cl A fp) h7) (fun s H A cl fp => (sndE e (blk_ok ok s H scope cl A fp) h8).1) i2) fun _ => rfl
theorem sndEs : ∀ (es : Exs) {xs : List Expr} {C : Cc} {W : WX} {X : Cx}, CxOk T G C W X → chkEs T C es xs = true → PA X xs (RdA X.K G W es) ∧ ∀ x ∈ xs, notStar x = true
  | .nil, xs, C, W, X, ok, h => by
    cases xs with
    | nil => exact ⟨snd_anil, fun _ h => nomatch h⟩
    | cons _ _ => cases h
  | .cons e es, xs, C, W, X, ok, h => by
    cases xs with
    | nil => cases h
    | cons x xs =>
      obtain ⟨h1, h3⟩ := ba (show (chkE T C e x && notStar x && chkEs T C es xs) = true from h)
      obtain ⟨h1, h2⟩ := ba h1
      obtain ⟨g1, g2⟩ := sndEs es ok h3
      exact ⟨snd_acons (sndE e ok h1).1 g1 h2, fun y hy => (List.mem_cons.mp hy).elim (fun q => by rw [q]; exact h2) (g2 y)⟩
theorem sndO : ∀ (o : Oe) {x : Option Expr} {C : Cc} {W : WX} {X : Cx}, CxOk T G C W X → chkO T C o x = true → PO X x (RdO X.K G W o)
  | .none, x, C, W, X, ok, h => by
    cases x with
    | none => exact snd_onone
    | some _ => cases h
  | .some e, x, C, W, X, ok, h => by
    cases x with
    | none => cases h
    | some x => exact snd_osome (sndE e ok h).1
theorem sndC : ∀ (o : Oe) {x : List Expr} {C : Cc} {X : Cx}, CxOk T G C W0 X → chkC T C o x = true → PTs X x (ttOf X.K G o)
  | .none, x, C, X, ok, h => by
    cases x with
    | nil => exact pts_nil
    | cons _ _ => cases h
  | .some e, x, C, X, ok, h => by
    match x, h with
    | [x], h => exact pts_one (sndE e ok h).2
theorem sndI : ∀ (it : It) {x tg : Expr} {C : Cc} {W : WX} {X : Cx}, CxOk T G C W X → chkI T C tg it x = true → PI X tg x (RdI X.K G W it) ∧ ∀ v, foldedSetIterable x X.env v = pure v
  | .val e, x, tg, C, W, X, ok, h => by
    obtain ⟨h1, h2⟩ := ba (show (chkE T C e x && markB x) = true from h)
    exact ⟨sndI_val (sndE e ok h1).1, fold_ok h2⟩
  | .rng1 e, x, tg, C, W, X, ok, h => by
    match x, h with
    | .Call (.Name y p) [z] [] q, h =>
      obtain ⟨h1, h5⟩ := ba (show (decide (y = Str.ofString "range") && T.bl y && glB C.sc y && chkE T C e z && notStar z) = true from h)
      obtain ⟨h1, h4⟩ := ba h1
      obtain ⟨h1, h3⟩ := ba h1
      obtain ⟨h1, h2⟩ := ba h1
      have e1 : y = Str.ofString "range" := of_decide_eq_true h1
      subst e1
      exact ⟨sndI_rng1 (glB_ok ok h3) (ok.bl _ h2) (sndE e ok h4).1 h5, fun _ => rfl⟩
  | .rng2 a b, x, tg, C, W, X, ok, h => by
    match x, h with
    | .Call (.Name y p) [z, u] [] q, h =>
      obtain ⟨h1, h7⟩ := ba (show (decide (y = Str.ofString "range") && T.bl y && glB C.sc y && chkE T C a z && notStar z && chkE T C b u && notStar u) = true from h)
      obtain ⟨h1, h6⟩ := ba h1
      obtain ⟨h1, h5⟩ := ba h1
      obtain ⟨h1, h4⟩ := ba h1
      obtain ⟨h1, h3⟩ := ba h1
      obtain ⟨h1, h2⟩ := ba h1
      have e1 : y = Str.ofString "range" := of_decide_eq_true h1
      subst e1
      exact ⟨sndI_rng2 (glB_ok ok h3) (ok.bl _ h2) (sndE a ok h4).1 (sndE b ok h6).1 h5 h7, fun _ => rfl⟩
  | .enum e, x, tg, C, W, X, ok, h => by
    match x, h with
    | .Call (.Name y p) [z] [] q, h =>
      obtain ⟨h1, h6⟩ := ba (show (decide (y = Str.ofString "enumerate") && T.bl y && glB C.sc y && chkE T C e z && notStar z && tupX tg) = true from h)
      obtain ⟨h1, h5⟩ := ba h1
      obtain ⟨h1, h4⟩ := ba h1
      obtain ⟨h1, h3⟩ := ba h1
      obtain ⟨h1, h2⟩ := ba h1
      have e1 : y = Str.ofString "enumerate" := of_decide_eq_true h1
      subst e1
      cases tg with
      | Tuple _ _ _ => exact ⟨sndI_enum (glB_ok ok h3) (ok.bl _ h2) (sndE e ok h4).1 h5, fun _ => rfl⟩
      | _ => cases h6
  | .zip a b, x, tg, C, W, X, ok, h => by
    match x, h with
    | .Call (.Name y p) [z, u] [] q, h =>
      obtain ⟨h1, h8⟩ := ba (show (decide (y = Str.ofString "zip") && T.bl y && glB C.sc y && chkE T C a z && notStar z && chkE T C b u && notStar u && tupX tg) = true from h)
      obtain ⟨h1, h7⟩ := ba h1
      obtain ⟨h1, h6⟩ := ba h1
      obtain ⟨h1, h5⟩ := ba h1
      obtain ⟨h1, h4⟩ := ba h1
      obtain ⟨h1, h3⟩ := ba h1
      obtain ⟨h1, h2⟩ := ba h1
      have e1 : y = Str.ofString "zip" := of_decide_eq_true h1
      subst e1
      cases tg with
      | Tuple _ _ _ => exact ⟨sndI_zip (glB_ok ok h3) (ok.bl _ h2) (sndE a ok h4).1 (sndE b ok h6).1 h5 h7, fun _ => rfl⟩
      | _ => cases h8
theorem sndP : ∀ (es : Exs) (ks : List Str) {ys : List (Option Expr)} {zs : List Expr} {pos : Pos} {C : Cc} {W : WX} {X : Cx}, CxOk T G C W X → keysX ks ys = true → chkEs T C es zs = true → ks.length = zs.length → ∃ trs, PPs X pos ys zs trs ∧ PsR X.K G W ks es trs ∧
      ∀ t ∈ trs, (∀ σ H (Q R : VK), (∀ v H, Q v H → R v H) → t.1 σ H Q → t.1 σ H R) ∧ ∀ σ H (Q R : VK), (∀ v H, Q v H → R v H) → t.2 σ H Q → t.2 σ H R
  | .nil, ks, ys, zs, pos, C, W, X, ok, h1, h2, hl => by
    cases zs with
    | cons _ _ => cases h2
    | nil =>
      cases ks with
      | cons _ _ => cases hl
      | nil =>
        cases ys with
        | cons y _ => cases y <;> cases h1
        | nil => exact ⟨[], pps_nil, psR_nil, fun _ h => nomatch h⟩
  | .cons e es, ks, ys, zs, pos, C, W, X, ok, h1, h2, hl => by
    cases zs with
    | nil => cases h2
    | cons z zs =>
      obtain ⟨g1, g3⟩ := ba (show (chkE T C e z && notStar z && chkEs T C es zs) = true from h2)
      obtain ⟨g1, g2⟩ := ba g1
      match ks, ys, h1, hl with
      | k :: ks, .some (.Constant (.str s) j p) :: ys, h1, hl =>
        obtain ⟨k1, k2⟩ := ba (show (decide (s = k) && keysX ks ys) = true from h1)
        have ek : s = k := of_decide_eq_true k1
        subst ek
        obtain ⟨trs, a1, a2, a3⟩ := sndP es ks ok k2 g3 (by simpa using hl)
        refine ⟨_, pps_cons pe_str (sndE e ok g1).1 a1, psR_cons a2 a3, fun t ht => ?_⟩
        rcases List.mem_cons.mp ht with q | q
        · subst q
          exact ⟨fun σ H Q R k h => k _ _ h, rd_mono⟩
        · exact a3 t q
theorem sndL : ∀ (es : Exs) {xs : List Expr} {kk : Arguments → Expr → Scope → Bool} {C : Cc} {W : WX} {X : Cx}, CxOk T G C W X → chkL T C es kk xs = true → (∀ x ∈ xs, notStar x = true) ∧ ∃ p b sc, kk p b sc = true ∧ ∀ tl : TE, (∀ lpos, PE X (.Lambda p b sc lpos) tl) → PA X xs (tArgs X.K G W tl es)
  | .nil, xs, kk, C, W, X, ok, h => by
    match xs, h with
    | [.Lambda p b sc lp], h => exact ⟨fun x hx => by rw [List.mem_singleton.mp hx]; rfl, p, b, sc, h, fun tl ht => pa_cons (ht lp) pa_nil rfl⟩
  | .cons a es, xs, kk, C, W, X, ok, h => by
    match xs, h with
    | x :: y :: xs, h =>
      obtain ⟨h1, h3⟩ := ba (show (chkE T C a x && notStar x && chkL T C es kk (y :: xs)) = true from h)
      obtain ⟨h1, h2⟩ := ba h1
      obtain ⟨g1, p, b, sc, g2, g3⟩ := sndL es ok h3
      exact ⟨fun z hz => (List.mem_cons.mp hz).elim (fun q => by rw [q]; exact h2) (g1 z), p, b, sc, g2, fun tl ht => pa_cons (sndE a ok h1).1 (g3 tl ht) (star_ne h2 _ _)⟩
end
end
end KI


set_option Elab.async false
set_option linter.all false
set_option maxRecDepth 100000
set_option autoImplicit false
set_option maxHeartbeats 2000000
/-! Statements. -/
namespace KI
open PySem PySem.Spec PyProof.Rows L2

/-- what is wanted behind a statement's end -/
def flP (K : PySem.W.Frag) (EE : Ek) (XA : Nat → Addr) (ca mu : List Addr) (H : Hp) (r : Fl) (D : Ends) (W : WX) : Prop := match r with
  | .nx ρ S => ∀ σ' ca' mu' H', Ext ca mu H ca' mu' H' → Wd K EE ca' mu' H' S → RE K EE ca' mu' H' σ' ρ → D.nx σ' H'
  | .rt d S => ∀ v ca' mu' H', Ext ca mu H ca' mu' H' → Wd K EE ca' mu' H' S → Is K EE ca' mu' H' v d → D.rt v H'
  | .exc x ρ S => ∀ cls dd σ' ca' mu' H', Ext ca mu H ca' mu' H' → Wd K EE ca' mu' H' S → RE K EE ca' mu' H' σ' ρ → XnR K EE XA ca' mu' H' cls dd x → W cls dd σ' H'
  | .no => False
section
variable {K : PySem.W.Frag} {G : En} {ca mu ca' mu' : List Addr} {H H' : Hp} {D : Ends} {W : WX} {σ : L2.St} {ρ : Env} {S : Sto}
theorem flP.rebase {EE : Ek} {XA : Nat → Addr} {r : Fl} (h : flP K EE XA ca mu H r D W) (x : Ext ca mu H ca' mu' H') : flP K EE XA ca' mu' H' r D W := by
  cases r with
  | nx ρ S => exact fun a _ _ _ e w i => h a _ _ _ (x.trans e) w i
  | rt d S => exact fun a _ _ _ e w i => h a _ _ _ (x.trans e) w i
  | exc y ρ S => exact fun a b c _ _ _ e w r i => h a b c _ _ _ (x.trans e) w r i
  | no => exact h
/-- an expression first -/
theorem stepS {α β : Type} {rel : List Addr → List Addr → Hp → β → α → Prop} {f : Env → Sto → Res α} {g : α → Sto → Fl} {R : β → Hp → Prop} (w : Wd K G.EE ca mu H S) (re : RE K G.EE ca mu H σ ρ) (h : flP K G.EE G.XA ca mu H (onD (f ρ S) ρ g) D W)
    (k : ∀ a S' b ca' mu' H', Ext ca mu H ca' mu' H' → Wd K G.EE ca' mu' H' S' → RE K G.EE ca' mu' H' σ ρ → rel ca' mu' H' b a → flP K G.EE G.XA ca' mu' H' (g a S') D W → R b H') : Rd0 K G rel f W σ H R := by
  refine ⟨ca, mu, ρ, S, w, re, ?_⟩
  cases q : f ρ S with
  | ok a S' => rw [q] at h; exact fun b ca' mu' H' e w' i => k a S' b ca' mu' H' e w' (re.ext e) i (flP.rebase h e)
  | exc x S' => rw [q] at h; exact fun cls dd ca' mu' H' e w' i => h cls dd σ ca' mu' H' e w' (re.ext e) i
  | no => rw [q] at h; exact h
end
/-- a reading of a statement, a block -/
def RdF (K : PySem.W.Frag) (G : En) (f : Env → Sto → Fl) (W : WX) : TS := fun D σ H => ∃ ca mu ρ S, Wd K G.EE ca mu H S ∧ RE K G.EE ca mu H σ ρ ∧ flP K G.EE G.XA ca mu H (f ρ S) D W
abbrev RdS (K : PySem.W.Frag) (G : En) (n : Nat) (W : WX) (s : Sx) : TS := RdF K G (exs G.cons G.call n s) W
abbrev RdSs (K : PySem.W.Frag) (G : En) (n : Nat) (W : WX) (ss : Sxs) : TS := RdF K G (exss G.cons G.call n ss) W
section
variable {X : Cx} {st : Stmt} {sts : List Stmt} {t u : TS}
theorem PSimp (h : PS X st t) (w : ∀ D σ H, u D σ H → t D σ H) : PS X st u := ⟨fun pins s σ H D I hu => h.run pins s σ H D I (w _ _ _ hu)⟩
theorem PSsimp (h : PSs X sts t) (w : ∀ D σ H, u D σ H → t D σ H) : PSs X sts u := ⟨fun pins s σ H D I hu => h.run pins s σ H D I (w _ _ _ hu)⟩
theorem PSor (h : PS X st t) (g : PS X st u) : PS X st (fun D σ H => t D σ H ∨ u D σ H) := ⟨fun pins s σ H D I hu => hu.elim (h.run pins s σ H D I) (g.run pins s σ H D I)⟩
end
/-! ### stores that change places -/
def swNames (sc : Scope) (ts : List Expr) : List Str := ts.filterMap fun
    | .Name id pos => if sc.names.lookup id == some .local && pos.line == (ts.head?.map (·.pos.line)).getD 0 then some id else none
    | _ => none
def swK (sc : Scope) (ts vs : List Expr) : Option (Option (List Str)) :=
  if !(ts.length == 2 || ts.length == 3) || vs.length != ts.length then some none
  else if vs.any (fun v => !notStar v) then some none
  else if (swNames sc ts).length != ts.length || (swNames sc ts).eraseDups.length != (swNames sc ts).length then some none
  else if vs.all (foldedForSure 8) then some none
  else if vs.all (constantsAlone 8) then none
  else some (some (swNames sc ts))
theorem swK_ok {sc : Scope} {env : PySem.Env} {ts vs : List Expr} {k k2 : Nat} {p p2 : Pos} {r : Option (List Str)} (he : env.scope = sc) (hk : sc.kind = .function) (h : swK sc ts vs = some r) : swappedStores [.Tuple ts k p] (.Tuple vs k2 p2) env = pure r := by
  have hb : env.blockKind = .function := by unfold Env.blockKind; rw [he, hk]; rfl
  have hkn : ∀ x, env.kindOf x = sc.names.lookup x := fun x => by unfold Env.kindOf; rw [he]
  have hst : (vs.any fun | .Starred .. => true | _ => false) = vs.any (fun v => !notStar v) := by
    congr 1
    funext v
    cases v <;> rfl
  unfold swappedStores
  simp only [hb, hkn, hst]
  unfold swK at h
  change (if (!(ts.length == 2 || ts.length == 3) || vs.length != ts.length || ScopeKind.function != ScopeKind.function) = true then pure none else if (vs.any fun | .Starred .. => true | _ => false) = true then pure none
    else if ((swNames sc ts).length != ts.length || (swNames sc ts).eraseDups.length != (swNames sc ts).length) = true then pure none
    else if (vs.all (foldedForSure 8)) = true then pure none else _) = _
  rw [hst, show (ScopeKind.function != ScopeKind.function) = false from rfl, Bool.or_false]
  by_cases c1 : (!(ts.length == 2 || ts.length == 3) || vs.length != ts.length) = true
  · rw [if_pos c1] at h ⊢
    cases h
    rfl
  rw [if_neg c1] at h ⊢
  by_cases c2 : (vs.any fun v => !notStar v) = true
  · rw [if_pos c2] at h ⊢
    cases h
    rfl
  rw [if_neg c2] at h ⊢
  by_cases c3 : ((swNames sc ts).length != ts.length || (swNames sc ts).eraseDups.length != (swNames sc ts).length) = true
  · rw [if_pos c3] at h ⊢
    cases h
    rfl
  rw [if_neg c3] at h ⊢
  by_cases c4 : (vs.all (foldedForSure 8)) = true
  · rw [if_pos c4] at h ⊢
    cases h
    rfl
  rw [if_neg c4] at h ⊢
  by_cases c5 : (vs.all (constantsAlone 8)) = true
  · rw [if_pos c5] at h
    cases h
  rw [if_neg c5] at h
  rw [if_neg c5]
  cases h
  rfl
/-! ### a cell that changes -/
theorem set_get {α : Type} {xs : List α} {n m : Nat} {x y : α} (h : (xs.set n x)[m]? = some y) : (m = n ∧ y = x ∧ n < xs.length) ∨ (m ≠ n ∧ xs[m]? = some y) := by
  by_cases e : n = m
  · subst e
    by_cases hl : n < xs.length
    · rw [List.getElem?_set_self hl] at h
      exact .inl ⟨rfl, (Option.some.inj h).symm, hl⟩
    · rw [List.getElem?_eq_none (by simpa using hl)] at h; cases h
  · rw [List.getElem?_set_ne e] at h
    exact .inr ⟨fun z => e z.symm, h⟩
section
variable {K : PySem.W.Frag} {EE : Ek} {ca mu : List Addr} {H : Hp} {S : Sto} {n : Nat} {a : Addr}
theorem nd_ne {ca : List Addr} (h : ca.Nodup) {n m : Nat} {a b : Addr} (hn : ca[n]? = some a) (hm : ca[m]? = some b) (ne : m ≠ n) : b ≠ a := fun e => by
  subst e
  obtain ⟨h1, e1⟩ := List.getElem?_eq_some_iff.mp hn
  obtain ⟨h2, e2⟩ := List.getElem?_eq_some_iff.mp hm
  exact ne ((List.getElem_inj h).mp (e2.trans e1.symm))
theorem cell_upd {ob : Ob} {o : HO} (w : Wd K EE ca mu H S) (hn : ca[n]? = some a) (hm : a ∈ mu) (h : ∀ ca' mu' H', Ext ca mu H ca' mu' H' → mu' = mu → H' a = some o → ObR K EE ca' mu' H' a ob) (ho : chg o = true) :
    Ext ca mu H ca mu (upd H a o) ∧ Wd K EE ca mu (upd H a o) (S.set n ob) := by
  have hc : a ∈ ca := List.mem_of_getElem? hn
  have x : Ext ca mu H ca mu (upd H a o) := ⟨⟨[], by simp, fun _ z => nomatch z⟩, fun _ z => .inl z, fun b u q _ z => by
      rw [upd_ne fun e => z (by subst e; exact ⟨hc, hm⟩)]
      exact q, fun b z => by
      by_cases e : b = a
      · subst e; rw [upd_same]; simp
      · rw [upd_ne e]; exact z, fun _ z _ _ => z⟩
  have at_ : ∀ b, (∃ o, H b = some o ∧ chg o = true) → ∃ o', upd H a o b = some o' ∧ chg o' = true := fun b ⟨o1, e1, g1⟩ => by
    by_cases e : b = a
    · exact ⟨o, by rw [e, upd_same], ho⟩
    · exact ⟨o1, by rw [upd_ne e]; exact e1, g1⟩
  refine ⟨x, by rw [w.len, List.length_set], w.nd, fun m b u h1 h2 => ?_, fun b z => at_ b (w.tm b z), tabs_upd w hm, fun b z => at_ b (w.tc b z)⟩
  rcases set_get h2 with ⟨rfl, rfl, _⟩ | ⟨ne, h2⟩
  · rw [hn] at h1
    cases h1
    exact h _ _ _ x rfl upd_same
  · exact (w.ob m b u h1 h2).ext x id fun _ => upd_ne (nd_ne w.nd hn h1 ne)
theorem cell_frz {xs : List D} (w : Wd K EE ca mu H S) (hn : ca[n]? = some a) (hs : S[n]? = some (.lst xs)) :
    Ext ca mu H ca (mu.filter (· ≠ a)) H ∧ Wd K EE ca (mu.filter (· ≠ a)) H (S.set n .dead) ∧ Is K EE ca (mu.filter (· ≠ a)) H (.ref a) (.lst xs) := by
  have sub : ∀ b, b ∈ mu.filter (· ≠ a) → b ∈ mu := fun b h => (List.mem_filter.mp h).1
  have hc : a ∈ ca := List.mem_of_getElem? hn
  have x : Ext ca mu H ca (mu.filter (· ≠ a)) H := ⟨⟨[], by simp, fun _ z => nomatch z⟩, fun b z => .inl (sub b z), fun _ _ q _ _ => q, fun _ z => z, fun b h1 h2 _ => List.mem_filter.mpr ⟨h1, by simpa using fun e : b = a => h2 (by rw [e]; exact hc)⟩⟩
  refine ⟨x, ⟨by rw [w.len, List.length_set], w.nd, fun m b u h1 h2 => ?_, fun b z => w.tm b (sub b z), w.tb, w.tc⟩, ?_⟩
  · rcases set_get h2 with ⟨rfl, rfl, _⟩ | ⟨ne, h2⟩
    · trivial
    · have hb := w.ob m b u h1 h2
      have na : b ≠ a := nd_ne w.nd hn h1 ne
      have mm : b ∈ mu → b ∈ mu.filter (· ≠ a) := fun q1 => List.mem_filter.mpr ⟨q1, by simpa using na⟩
      cases u with
      | lst ys => obtain ⟨q1, vs, q2, q3⟩ := hb; exact ⟨mm q1, vs, q2, IsL.mono sub _ q3⟩
      | dct ys => obtain ⟨q1, vs, q2, q3⟩ := hb; exact ⟨mm q1, vs, q2, IsK.mono sub _ q3⟩
      | ins c ys => obtain ⟨q1, dx, vs, q2, q3, q4⟩ := hb; exact ⟨mm q1, dx, vs, q2, q3, IsL.mono sub _ q4⟩
      | dead => trivial
  · obtain ⟨q1, vs, q2, q3⟩ := w.ob n a _ hn hs
    exact .lst q2 (by simp) (IsL.mono sub _ q3)
theorem RE.upd {σ : L2.St} {ρ : Env} {v : V} {d : D} {i : Nat} (h : RE K EE ca mu H σ ρ) (hi : σ[i]? = some (some v)) (g : Is K EE ca mu H v d) : RE K EE ca mu H σ (ρ.set i (some d)) := by
  refine ⟨by simp [h.len], fun j e q => ?_⟩
  rcases set_get q with ⟨rfl, e2, _⟩ | ⟨ne, q⟩
  · cases e2
    exact ⟨v, hi, g⟩
  · exact h.at_ j e q
end
/-! ### rows of statements -/
theorem flP.seq {K : PySem.W.Frag} {EE : Ek} {XA : Nat → Addr} {ca mu : List Addr} {H : Hp} {r : Fl} {f : Env → Sto → Fl} {D D' : Ends} {W : WX} (h : flP K EE XA ca mu H (r.then f) D W) (hr : D'.rt = D.rt)
    (k : ∀ ρ S σ' ca' mu' H', Ext ca mu H ca' mu' H' → Wd K EE ca' mu' H' S → RE K EE ca' mu' H' σ' ρ → flP K EE XA ca' mu' H' (f ρ S) D W → D'.nx σ' H') : flP K EE XA ca mu H r D' W := by
  cases r with
  | nx ρ S => exact fun σ' ca' mu' H' x w re => k ρ S σ' ca' mu' H' x w re (flP.rebase h x)
  | rt d S => exact fun v ca' mu' H' x w i => by rw [hr]; exact h v ca' mu' H' x w i
  | exc x ρ S => exact h
  | no => exact h
section
variable {X : Cx} {G : En} {W : WX} {fuel : Nat}
theorem sndS_nil : PSs X [] (RdSs X.K G fuel W .nil) := PSsimp pss_nil fun D σ H ⟨ca, mu, ρ, S, w, re, h⟩ => h σ ca mu H Ext.refl w re
theorem sndS_cons {st : Stmt} {rest : List Stmt} {s : Sx} {ss : Sxs} (h1 : PS X st (RdS X.K G fuel W s)) (h2 : PSs X rest (RdSs X.K G fuel W ss)) : PSs X (st :: rest) (RdSs X.K G fuel W (.cons s ss)) :=
  PSsimp (pss_cons h1 h2) fun D σ H ⟨ca, mu, ρ, S, w, re, h⟩ =>
    ⟨ca, mu, ρ, S, w, re, flP.seq (f := fun ρ S => exss G.cons G.call fuel ss ρ S) h rfl fun ρ' S' σ' ca' mu' H' x w' re' h' => ⟨ca', mu', ρ', S', w', re', h'⟩⟩
theorem sndS_nev {st : Stmt} : PS X st (RdS X.K G fuel W .nev) := PSimp ps_never fun D σ H ⟨ca, mu, ρ, S, w, re, h⟩ => h
theorem sndS_nevs {sts : List Stmt} {ss : Sxs} : PSs X sts (RdSs X.K G fuel W (.cons .nev ss)) := PSsimp pss_never fun D σ H ⟨ca, mu, ρ, S, w, re, h⟩ => h
/-- a list is no longer changed: nothing in the text -/
theorem sndS_frz {sts : List Stmt} {i : Nat} {ss : Sxs} (h2 : PSs X sts (RdSs X.K G fuel W ss)) : PSs X sts (RdSs X.K G fuel W (.cons (.frz i) ss)) :=
  PSsimp h2 fun D σ H ⟨ca, mu, ρ, S, w, re, h⟩ => by
    have h : flP X.K G.EE G.XA ca mu H ((match ρ[i]? with
      | some (some (.cell n)) => (match S[n]? with
        | some (.lst xs) => Fl.nx (ρ.set i (some (.lst xs))) (S.set n .dead)
        | _ => .no)
      | _ => .no).then fun ρ S => exss G.cons G.call fuel ss ρ S) D W := h
    split at h
    · rename_i n q
      split at h
      · rename_i xs q2
        obtain ⟨v, q3, q4⟩ := re.at_ i _ q
        cases q4 with
        | cell q5 =>
          obtain ⟨x, w', i'⟩ := cell_frz w q5 q2
          exact ⟨ca, _, _, _, w', (re.ext x).upd q3 i', flP.rebase h x⟩
      · exact h.elim
    · exact h.elim
variable {e a b : Ex} {ea eb ec : Expr} {pos : Pos}
theorem sndS_set {i : Nat} {x : Str} {p : Pos} (hN : X.N.Nodup) (hi : X.N[i]? = some x) (hx : Loc X.env.scope x) (he : PE X ea (RdE X.K G W e)) (hs : swapsWith ea (some (.Name x p)) pos.line X.env = pure false) (hf : X.fn x = true ∨ X.env.scope.names.lookup x = some .local) :
    PS X (.Assign [.Name x p] ea pos) (RdS X.K G fuel W (.set i e)) :=
  PSimp (ps_set hN hi hx he hs hf) fun D σ H ⟨ca, mu, ρ, S, w, re, h⟩ => stepS w re h fun d S1 v ca1 mu1 H1 e1 w1 re1 i1 h1 => h1 _ ca1 mu1 H1 Ext.refl w1 (re1.set i i1)
theorem sndS_unp {tg : Expr} {t : Tg} (he : PE X ea (RdE X.K G W e)) (hg : PG X tg (RdG X.K G.EE t)) (hs : swapsWithSole [tg] ea pos.line X.env = pure false) (hw : swappedStores [tg] ea X.env = pure none) (h1 : (assignEach [tg] X.env).map (·.2) = [assign tg X.env]) :
    PS X (.Assign [tg] ea pos) (RdS X.K G fuel W (.unp t e)) :=
  PSimp (ps_asg he hg hs hw h1) fun D σ H ⟨ca, mu, ρ, S, w, re, h⟩ => stepS w re h fun d S1 v ca1 mu1 H1 e1 w1 re1 i1 h1 => by
    cases q : bindT t d ρ with
    | none => rw [q] at h1; exact h1.elim
    | some ρ' => rw [q] at h1; exact ⟨ca1, mu1, d, ρ, ρ', i1, re1, q, fun σ' re' _ => h1 σ' ca1 mu1 H1 Ext.refl w1 re'⟩
theorem sndS_par {i j : Nat} {x y : Str} {es : Exs} {px py pt : Pos} {kt k2 pt2} (hc : X.calm = true) (hN : X.N.Nodup) (hi : X.N[i]? = some x) (hj : X.N[j]? = some y) (hij : i ≠ j)
    (hx : X.env.scope.names.lookup x = some .local) (hy : X.env.scope.names.lookup y = some .local) (ha : PA X [ea, eb] (RdA X.K G W es))
    (hw : swappedStores [.Tuple [.Name x px, .Name y py] kt pt] (.Tuple [ea, eb] k2 pt2) X.env = pure (some [x, y])) :
    PS X (.Assign [.Tuple [.Name x px, .Name y py] kt pt] (.Tuple [ea, eb] k2 pt2) pos) (RdS X.K G fuel W (.par i j es)) :=
  PSimp (ps_par hc hN hi hj hij hx hy ha hw) fun D σ H ⟨ca, mu, ρ, S, w, re, h⟩ => stepS w re h fun ds S1 vs ca1 mu1 H1 e1 w1 re1 i1 h1 => by
    split at h1
    · cases i1 with
      | cons j1 i1 => cases i1 with
        | cons j2 i1 =>
          cases i1
          exact ⟨_, _, rfl, h1 _ ca1 mu1 H1 Ext.refl w1 ((re1.set _ j1).set _ j2)⟩
    · exact h1.elim
theorem sndS_par3 {i j l : Nat} {x y z : Str} {es : Exs} {px py pz pt : Pos} {kt k2 pt2} (hc : X.calm = true) (hN : X.N.Nodup) (hi : X.N[i]? = some x) (hj : X.N[j]? = some y) (hl : X.N[l]? = some z) (hij : i ≠ j) (hil : i ≠ l) (hjl : j ≠ l)
    (hx : X.env.scope.names.lookup x = some .local) (hy : X.env.scope.names.lookup y = some .local) (hz : X.env.scope.names.lookup z = some .local) (ha : PA X [ea, eb, ec] (RdA X.K G W es))
    (hw : swappedStores [.Tuple [.Name x px, .Name y py, .Name z pz] kt pt] (.Tuple [ea, eb, ec] k2 pt2) X.env = pure (some [x, y, z])) :
    PS X (.Assign [.Tuple [.Name x px, .Name y py, .Name z pz] kt pt] (.Tuple [ea, eb, ec] k2 pt2) pos) (RdS X.K G fuel W (.par3 i j l es)) :=
  PSimp (ps_par3 hc hN hi hj hl hij hil hjl hx hy hz ha hw) fun D σ H ⟨ca, mu, ρ, S, w, re, h⟩ => stepS w re h fun ds S1 vs ca1 mu1 H1 e1 w1 re1 i1 h1 => by
    split at h1
    · cases i1 with
      | cons j1 i1 => cases i1 with
        | cons j2 i1 => cases i1 with
          | cons j3 i1 =>
            cases i1
            exact ⟨_, _, _, rfl, h1 _ ca1 mu1 H1 Ext.refl w1 (((re1.set _ j1).set _ j2).set _ j3)⟩
    · exact h1.elim
theorem sndS_put {o i : Ex} {eo ei : Expr} {p : Pos} (he : PE X ea (RdE X.K G W e)) (ho : PE X eo (RdE X.K G W o)) (hi : PE X ei (RdE X.K G W i)) (hs : swapsWithSole [.Subscript eo ei p] ea pos.line X.env = pure false)
    (ha : ∀ v, assign (.Subscript eo ei p) X.env v = (do
      let ov ← holding [v] (eval eo X.env)
      let iv ← holding [v, ov] (eval ei X.env)
      standAt p
      holding [v, ov, iv] (setItem ov iv v)
      release [v, ov, iv] [])) : PS X (.Assign [.Subscript eo ei p] ea pos) (RdS X.K G fuel W (.put o i e)) :=
  PSimp (ps_asg he (pg_sub ho hi set_list ha) hs rfl rfl) fun D σ H ⟨ca, mu, ρ, S, w, re, h⟩ => stepS w re h fun d S1 v ca1 mu1 H1 e1 w1 re1 i1 h1 =>
    stepS w1 re1 h1 fun d2 S2 v2 ca2 mu2 H2 e2 w2 re2 i2 h2 => stepS w2 re2 h2 fun d3 S3 v3 ca3 mu3 H3 e3 w3 re3 i3 h3 => by
      split at h3
      · rename_i n k
        cases i3 with
        | int k =>
        have i2' := i2.ex e3
        cases i2' with
        | @cell _ a _ q1 =>
          split at h3
          · rename_i xs q2
            split at h3
            · rename_i j q3
              obtain ⟨g1, vs, g2, g3⟩ := w3.ob n a _ q1 q2
              obtain ⟨x, w4⟩ := cell_upd (ob := .lst (xs.set j d)) (o := .lst (vs.set j v)) w3 q1 g1 (fun ca' mu' H' x em eh => ⟨by rw [em]; exact g1, _, eh, (g3.ex x).set j (((i1.ex e2).ex e3).ex x)⟩) rfl
              exact ⟨a, vs, k, j, rfl, rfl, g2, by rw [g3.length]; exact q3, h3 σ ca3 mu3 _ x w4 (re3.ext x)⟩
            · exact h3.elim
          · exact h3.elim
      · exact h3.elim
theorem sndS_app {i : Nat} {x : Str} {p apos cpos : Pos} (hu : X.calm = true) (ho : PE X (.Name x p) (RdE X.K G W (.var i))) (he : PE X ea (RdE X.K G W e)) (hn : notStar ea = true) (hl : (apos.endLine == cpos.line) = true) :
    PS X (.Expr (.Call (.Attribute (.Name x p) "append" apos) [ea] [] cpos) pos) (RdS X.K G fuel W (.app i e)) :=
  PSimp (ps_expr (pe_bm PySem.F.plainAttrs_list PySem.F.slot_list_append PySem.F.type_list_append mt_append ho (pa_cons he pa_nil (star_ne hn _ _)) rfl (by rw [star_ne hn]; rfl) hl (star_ne hn _ _) rfl) rfl) fun D σ H ⟨ca, mu, ρ, S, w, re, h⟩ => by
    have h : flP X.K G.EE G.XA ca mu H (match ρ[i]? with
      | some (some (.cell n)) => match S[n]? with
        | some (.lst _) => onD (ev G.cons G.call e ρ S) ρ fun d S => match S[n]? with
          | some (.lst xs) => if xs.length < LN then Fl.nx ρ (S.set n (.lst (xs ++ [d]))) else .no
          | _ => .no
        | _ => .no
      | _ => .no) D W := h
    split at h
    · rename_i n q
      split at h
      · rename_i xs0 qx
        refine ⟨ca, mu, ρ, S, w, re, ?_⟩
        have e0 : ev G.cons G.call (.var i) ρ S = .ok (.cell n) S := by unfold ev; rw [q]
        rw [e0]
        intro v ca0 mu0 H0 x0 w0 i0
        cases i0 with
        | @cell _ a _ q0 =>
        have h0 := flP.rebase h x0
        obtain ⟨_, vs0, gg, _⟩ := w0.ob n a _ q0 qx
        refine ⟨.inl ⟨rfl, vs0, SqL.of gg⟩, stepS w0 (re.ext x0) h0 fun d S1 v ca1 mu1 H1 e1 w1 re1 i1 h1 => ?_⟩
        split at h1
        · rename_i xs q2
          split at h1
          · rename_i hl
            have q1 := e1.cell q0
            obtain ⟨g1, vs, g2, g3⟩ := w1.ob n a _ q1 q2
            obtain ⟨x, w4⟩ := cell_upd (ob := .lst (xs ++ [d])) (o := .lst (vs ++ [v])) w1 q1 g1 (fun ca' mu' H' x em eh => ⟨by rw [em]; exact g1, _, eh, (g3.ex x).append (.cons (i1.ex x) .nil)⟩) rfl
            exact ⟨a, vs, v, rfl, rfl, g2, by rw [LN_eq, g3.length]; exact hl, h1 σ ca1 mu1 _ x w4 (re1.ext x)⟩
          · exact h1.elim
        · exact h1.elim
      · exact h.elim
    · exact h.elim
theorem sndS_ret (he : PE X ea (RdE X.K G W e)) : PS X (.Return (some ea) pos) (RdS X.K G fuel W (.ret e)) :=
  PSimp (ps_ret he) fun D σ H ⟨ca, mu, ρ, S, w, re, h⟩ => stepS w re h fun d S1 v ca1 mu1 H1 e1 w1 re1 i1 h1 => h1 v ca1 mu1 H1 Ext.refl w1 i1
theorem sndS_retN : PS X (.Return none pos) (RdS X.K G fuel W (.ret .non)) :=
  PSimp ps_retN fun D σ H ⟨ca, mu, ρ, S, w, re, h⟩ => h .non ca mu H Ext.refl w .non
theorem sndS_ifs {sa sb : Sxs} {la lb : List Stmt} (hc : PT X ec (RdT X.K G W e)) (ha : PSs X la (RdSs X.K G fuel W sa)) (hb : PSs X lb (RdSs X.K G fuel W sb)) : PS X (.If ec la lb pos) (RdS X.K G fuel W (.ifs e sa sb)) :=
  PSimp (ps_if hc ha hb) fun D σ H ⟨ca, mu, ρ, S, w, re, h⟩ => stepS w re h fun d S1 v ca1 mu1 H1 e1 w1 re1 i1 h1 => by
    cases i1 with
    | bl k =>
      cases k with
      | true => exact ⟨true, rfl, iteT ⟨ca1, mu1, ρ, S1, w1, re1, h1⟩⟩
      | false => exact ⟨false, rfl, iteF ⟨ca1, mu1, ρ, S1, w1, re1, h1⟩⟩
    | _ => exact h1.elim
theorem sndS_exp (he : PE X ea (RdE X.K G W e)) (hs : swapsWith ea none pos.line X.env = pure false) : PS X (.Expr ea pos) (RdS X.K G fuel W (.exp e)) :=
  PSimp (ps_expr he hs) fun D σ H ⟨ca, mu, ρ, S, w, re, h⟩ => stepS w re h fun d S1 v ca1 mu1 H1 e1 w1 re1 i1 h1 => h1 σ ca1 mu1 H1 Ext.refl w1 re1
theorem sndS_for {tg iter : Expr} {t : Tg} {it : It} {lb : List Stmt} {sb : Sxs} (hp : PassesOwn (model X.prog X.w) X.A X.env X.xe) (hc : X.calm = true) (hi : PI X tg iter (RdI X.K G W it)) (hg : PG X tg (RdG X.K G.EE t)) (hb : PSs X lb (RdSs X.K G fuel W sb)) (hs : ∀ x, foldedSetIterable iter X.env x = pure x) :
    PS X (.For tg iter lb [] pos) (RdS X.K G fuel W (.for_ t it sb)) :=
  PSimp (ps_for hp hc hi hg hb hs) fun D σ H ⟨ca, mu, ρ, S, w, re, h⟩ => stepS w re h fun xs S1 J ca1 mu1 H1 e1 w1 re1 wk h1 => by
    refine ⟨fun i m σ H => m = xs.length - i ∧ i ≤ xs.length ∧ ∃ ca2 mu2 ρ2 S2, Ext ca1 mu1 H1 ca2 mu2 H ∧ Wd X.K G.EE ca2 mu2 H S2 ∧ RE X.K G.EE ca2 mu2 H σ ρ2 ∧ flP X.K G.EE G.XA ca2 mu2 H (evFor t (exss G.cons G.call fuel sb) (xs.drop i) ρ2 S2) D W,
      ⟨xs.length, by simp, Nat.zero_le _, ca1, mu1, ρ, S1, Ext.refl, w1, re1, by rw [List.drop_zero]; exact h1⟩, ?_⟩
    rintro i m σ2 H2 ⟨rfl, hi2, ca2, mu2, ρ2, S2, x2, w2, re2, h2⟩
    by_cases hlt : i < xs.length
    · right
      refine ⟨wk.goes i ca2 mu2 H2 hlt x2, fun σ' H' => i + 1 ≤ xs.length ∧ ∃ ca2 mu2 ρ2 S2, Ext ca1 mu1 H1 ca2 mu2 H' ∧ Wd X.K G.EE ca2 mu2 H' S2 ∧ RE X.K G.EE ca2 mu2 H' σ' ρ2 ∧ flP X.K G.EE G.XA ca2 mu2 H' (evFor t (exss G.cons G.call fuel sb) (xs.drop (i + 1)) ρ2 S2) D W,
        fun σ' H' ⟨p1, p2⟩ => ⟨xs.length - (i + 1), by omega, rfl, p1, p2⟩, fun v H3 y => ?_⟩
      obtain ⟨d, qd, x3, w3, i3⟩ := wk.yields i v ca2 mu2 H2 H3 S2 hlt x2 w2 y
      have hdrop : xs.drop i = d :: xs.drop (i + 1) := by
        rw [List.drop_eq_getElem_cons hlt]
        congr 1
        have := List.getElem?_eq_getElem hlt
        rw [this] at qd
        exact Option.some.inj qd
      rw [hdrop] at h2
      have h2 : flP X.K G.EE G.XA ca2 mu2 H2 (match bindT t d ρ2 with
        | some ρ' => (exss G.cons G.call fuel sb ρ' S2).then fun ρ S => evFor t (exss G.cons G.call fuel sb) (xs.drop (i + 1)) ρ S
        | none => .no) D W := h2
      cases qb : bindT t d ρ2 with
      | none => rw [qb] at h2; exact h2.elim
      | some ρ3 =>
        rw [qb] at h2
        refine ⟨ca2, mu2, d, ρ2, ρ3, i3, re2.ext x3, qb, fun σ4 re4 _ => ⟨ca2, mu2, ρ3, S2, w3, re4, flP.seq (flP.rebase h2 x3) rfl fun ρ' S' σ' ca' mu' H' x' w' re' h' => ⟨hlt, ca', mu', ρ', S', x2.trans (x3.trans x'), w', re', h'⟩⟩⟩
    · left
      have e : i = xs.length := by omega
      subst e
      rw [List.drop_length] at h2
      exact ⟨wk.stops ca2 mu2 H2 x2, h2 σ2 ca2 mu2 H2 Ext.refl w2 re2⟩
theorem sndS_whl {lb : List Stmt} {sb : Sxs} (hp : PassesOwn (model X.prog X.w) X.A X.env X.xe) (hc : PT X ec (RdT X.K G W e)) (hb : PSs X lb (RdSs X.K G fuel W sb)) : PS X (.While ec lb [] pos) (RdS X.K G fuel W (.whl e sb)) :=
  PSimp (ps_while hp hc hb) fun D σ H ⟨ca, mu, ρ, S, w, re, h⟩ => by
    refine ⟨fun m σ H => ∃ ca mu ρ S, Wd X.K G.EE ca mu H S ∧ RE X.K G.EE ca mu H σ ρ ∧ flP X.K G.EE G.XA ca mu H (evWhl (ev G.cons G.call e) (exss G.cons G.call fuel sb) m ρ S) D W, ⟨fuel, ca, mu, ρ, S, w, re, h⟩, ?_⟩
    rintro m σ2 H2 ⟨ca2, mu2, ρ2, S2, w2, re2, h2⟩
    cases m with
    | zero => exact h2.elim
    | succ m =>
      refine stepS w2 re2 h2 fun d S3 v ca3 mu3 H3 e3 w3 re3 i3 h3 => ?_
      cases i3 with
      | bl k =>
        cases k with
        | true => exact ⟨true, rfl, iteT ⟨fun σ' H' => ∃ ca mu ρ S, Wd X.K G.EE ca mu H' S ∧ RE X.K G.EE ca mu H' σ' ρ ∧ flP X.K G.EE G.XA ca mu H' (evWhl (ev G.cons G.call e) (exss G.cons G.call fuel sb) m ρ S) D W, fun σ' H' p => ⟨m, Nat.lt_succ_self m, p⟩,
            ca3, mu3, ρ2, S3, w3, re3, flP.seq h3 rfl fun ρ' S' σ' ca' mu' H' x' w' re' h' => ⟨ca', mu', ρ', S', w', re', h'⟩⟩⟩
        | false => exact ⟨false, rfl, iteF (h3 σ2 ca3 mu3 H3 Ext.refl w3 re3)⟩
      | _ => exact h3.elim
theorem sndS_dput {o i : Ex} {eo ei : Expr} {p : Pos} (hu : X.A.units + 65 < cLine) (he : PE X ea (RdE X.K G W e)) (ho : PE X eo (RdE X.K G W o)) (hi : PE X ei (RdE X.K G W i)) (hs : swapsWith ea (some (.Subscript eo ei p)) pos.line X.env = pure false) : PS X (.Assign [.Subscript eo ei p] ea pos) (RdS X.K G fuel W (.dput o i e)) :=
  PSimp (ps_dput (by omega) ho hi he hs) fun D σ H ⟨ca, mu, ρ, S, w, re, h⟩ => stepS w re h fun d S1 v ca1 mu1 H1 e1 w1 re1 i1 h1 =>
    stepS w1 re1 h1 fun d2 S2 v2 ca2 mu2 H2 e2 w2 re2 i2 h2 => stepS w2 re2 h2 fun d3 S3 v3 ca3 mu3 H3 e3 w3 re3 i3 h3 => by
      have i2' := i2.ex e3
      cases d2 with
      | cell n =>
        have h3 : flP X.K G.EE G.XA ca3 mu3 H3 (match keyOf d3 with
          | some k => (match S3[n]? with
            | some (.dct kvs) => if kvs.length < 1000 then Fl.nx ρ (S3.set n (.dct (dicPut kvs k d))) else .no
            | _ => .no)
          | none => .no) D W := by
            cases qk : keyOf d3 with
            | none => simp only [qk] at h3; exact h3
            | some k => simp only [qk] at h3; exact h3
        cases qk : keyOf d3 with
        | none => rw [qk] at h3; exact h3.elim
        | some k =>
          rw [qk] at h3
          cases i2' with
          | @cell _ a _ q1 =>
            cases q2 : S3[n]? with
            | none => simp only [q2] at h3; exact h3.elim
            | some ob =>
              cases ob with
              | dct kvs =>
                simp only [q2] at h3
                split at h3
                · rename_i hl
                  obtain ⟨g1, vs, g2, g3⟩ := w3.ob n a _ q1 q2
                  obtain ⟨x, w4⟩ := cell_upd (ob := .dct (dicPut kvs k d)) (o := .dK (putK vs k v)) w3 q1 g1 (fun ca' mu' H' x em eh => ⟨by rw [em]; exact g1, _, eh, IsK.put (g3.ex x) (((i1.ex e2).ex e3).ex x)⟩) rfl
                  have ek := keyOf_kV i3 qk
                  subst ek
                  exact ⟨a, _, rfl, DPut.k g2 (by rw [g3.length]; have : (1000 : Nat) ≤ sizeLine := by decide
                                                  omega), h3 σ ca3 mu3 _ x w4 (re3.ext x)⟩
                · exact h3.elim
              | _ => simp only [q2] at h3; exact h3.elim
      | _ => exact h3.elim
end
end KI


set_option Elab.async false
set_option linter.all false
set_option maxRecDepth 100000
set_option autoImplicit false
set_option maxHeartbeats 2000000
/-! The checker of statements. -/
namespace KI
open PySem PySem.Spec PyProof.Rows L2

def swB : Expr → Bool
  | .ListComp _ _ _ _ | .SetComp _ _ _ _ | .DictComp _ _ _ _ _ => false
  | _ => true
theorem swB_ok {v : Expr} (h : swB v = true) (t : Option Expr) (l : Nat) (env : PySem.Env) : swapsWith v t l env = pure false := by
  cases v <;> first | rfl | cases h
/-- a list built and stored at once -/
def swL (sc : Scope) (y : Str) (p : Pos) : Expr → Bool
  | .ListComp _ _ scope pos => decide (sc.kind = .function) && decide (sc.names.lookup y = some .local) && (p.line == pos.line) && !(scope.names.any fun (n, k) => n == y && (k == .local || k == .cell))
  | _ => false
/-- a list built, a name of a cell: nothing changes places -/
def swC (sc : Scope) (y : Str) (v : Expr) : Bool := decide (sc.names.lookup y ≠ some .local)
theorem swC_ok {sc : Scope} {env : PySem.Env} {y : Str} {p : Pos} {v : Expr} (he : env.scope = sc) (h : swC sc y v = true) (l : Nat) : swapsWith v (some (.Name y p)) l env = pure false := by
  have h : sc.names.lookup y ≠ some .local := of_decide_eq_true h
  have hk : env.kindOf y = sc.names.lookup y := by unfold Env.kindOf; rw [he]
  have hb : (env.kindOf y == some .local) = false := by rw [hk]; simpa using h
  cases v <;> first
    | rfl
    | (unfold swapsWith
       simp only [hb, Bool.and_false, Bool.false_and]
       try rfl)
def swN (sc : Scope) : Expr → Expr → Bool
  | .Tuple ts _ _, .Tuple vs _ _ => decide (sc.kind = .function) && (match swK sc ts vs with
    | some none => true
    | _ => false)
  | .Tuple _ _ _, _ => true
  | _, _ => false
theorem swN_ok {sc : Scope} {env : PySem.Env} {tg v : Expr} (he : env.scope = sc) (h : swN sc tg v = true) : swappedStores [tg] v env = pure none ∧ (assignEach [tg] env).map (·.2) = [assign tg env] := by
  cases tg with
  | Tuple ts k p =>
    refine ⟨?_, rfl⟩
    cases v with
    | Tuple vs k2 p2 =>
      obtain ⟨h1, h2⟩ := ba (show (decide (sc.kind = .function) && (match swK sc ts vs with
        | some none => true
        | _ => false)) = true from h)
      refine swK_ok he (of_decide_eq_true h1) ?_
      split at h2
      · assumption
      · cases h2
    | _ => rfl
  | _ => cases h
def locN (C : Cc) (i : Nat) (y : Str) : Bool := decide (C.N[i]? = some y) && decide (C.sc.names.lookup y = some .local)
def isNev : Sx → Bool
  | .nev => true
  | _ => false
def isFrz : Sx → Bool
  | .frz _ => true
  | _ => false
def setB (T : Tb) (C : Cc) (i : Nat) (e : Ex) : Stmt → Bool
  | .Assign [.Name y p] v _ => decide (C.N[i]? = some y) && locB C.sc C.ss y && chkE T C e v && (swB v || (C.calm && swL C.sc y p v) || swC C.sc y v)
  | _ => false
def unpB (T : Tb) (C : Cc) (t : Tg) (e : Ex) : Stmt → Bool
  | .Assign [tg] v _ => chkG C t tg && chkE T C e v && swB v && swN C.sc tg v
  | _ => false
def retB (T : Tb) (C : Cc) (e : Ex) : Stmt → Bool
  | .Return (some v) _ => chkE T C e v
  | .Return none _ => (match e with
    | .non => true
    | _ => false)
  | _ => false
def expB (T : Tb) (C : Cc) (e : Ex) : Stmt → Bool
  | .Expr y _ => chkE T C e y && swB y
  | _ => false
def ifB : Stmt → Option (Expr × List Stmt × List Stmt)
  | .If y la lb _ => some (y, la, lb)
  | _ => none
def forB : Stmt → Option (Expr × Expr × List Stmt)
  | .For tg iter lb [] _ => some (tg, iter, lb)
  | _ => none
def whlB : Stmt → Option (Expr × List Stmt)
  | .While y lb [] _ => some (y, lb)
  | _ => none
def parB (T : Tb) (C : Cc) (i j : Nat) (es : Exs) : Stmt → Bool
  | .Assign [.Tuple [.Name y p, .Name z q] _ _] (.Tuple vs _ _) _ => C.calm && locN C i y && locN C j z && decide (i ≠ j) && chkEs T C es vs && decide (vs.length = 2) && decide (C.sc.kind = .function) && decide (swK C.sc [.Name y p, .Name z q] vs = some (some [y, z]))
  | _ => false
def par3B (T : Tb) (C : Cc) (i j l : Nat) (es : Exs) : Stmt → Bool
  | .Assign [.Tuple [.Name y p, .Name z q, .Name u r] _ _] (.Tuple vs _ _) _ => C.calm && locN C i y && locN C j z && locN C l u && decide (i ≠ j) && decide (i ≠ l) && decide (j ≠ l) && chkEs T C es vs && decide (vs.length = 3) && decide (C.sc.kind = .function) && decide (swK C.sc [.Name y p, .Name z q, .Name u r] vs = some (some [y, z, u]))
  | _ => false
def putB (T : Tb) (C : Cc) (o i e : Ex) : Stmt → Bool
  | .Assign [.Subscript eo ei _] v _ => chkE T C o eo && chkE T C i ei && chkE T C e v && swB v && ixB ei
  | _ => false
def dputB (T : Tb) (C : Cc) (o i e : Ex) : Stmt → Bool
  | .Assign [.Subscript eo ei _] v _ => chkE T C o eo && chkE T C i ei && chkE T C e v && swB v && ixB ei
  | _ => false
def appB (T : Tb) (C : Cc) (i : Nat) (e : Ex) : Stmt → Bool
  | .Expr (.Call (.Attribute (.Name y p) m apos) as [] cpos) _ => decide (C.N[i]? = some y) && visB C.sc y && nmOk y && C.calm && decide (m = Str.ofString "append") && (apos.endLine == cpos.line) && (match as with
    | [a] => chkE T C e a && notStar a
    | _ => false)
  | _ => false
mutual
def chkS (T : Tb) (C : Cc) : Sx → Stmt → Bool
  | .set i e, x => setB T C i e x
  | .unp t e, x => unpB T C t e x
  | .par i j es, x => parB T C i j es x
  | .par3 i j l es, x => par3B T C i j l es x
  | .put o i e, x => putB T C o i e x
  | .dput o i e, x => dputB T C o i e x
  | .app i e, x => appB T C i e x
  | .frz _, _ => false
  | .ret e, x => retB T C e x
  | .ifs c a b, x => (match ifB x with
    | some (y, la, lb) => chkE T C c y && chkSs T C a la && chkSs T C b lb
    | none => false)
  | .for_ t it b, x => (match forB x with
    | some (tg, iter, lb) => C.calm && chkG C t tg && chkI T C tg it iter && chkSs T C b lb
    | none => false)
  | .whl c b, x => (match whlB x with
    | some (y, lb) => chkE T C c y && chkSs T C b lb
    | none => false)
  | .exp e, x => expB T C e x
  | .rai _, _ => false
  | .raiF _ _ _, _ => false
  | .try_ _ _, _ => false
  | .nev, _ => true
def chkSs (T : Tb) (C : Cc) : Sxs → List Stmt → Bool
  | .nil, xs => (match xs with
    | [] => true
    | _ => false)
  | .cons s ss, xs => bif isNev s then true else bif isFrz s then chkSs T C ss xs else (match xs with
    | x :: xs => chkS T C s x && chkSs T C ss xs
    | [] => false)
end
section
variable {T : Tb} {G : En} {fuel : Nat}
theorem locN_ok {C : Cc} {W : WX} {X : Cx} {i : Nat} {y : Str} (ok : CxOk T G C W X) (h : locN C i y = true) : X.N[i]? = some y ∧ X.env.scope.names.lookup y = some .local := by
  obtain ⟨h1, h2⟩ := ba h
  exact ⟨by rw [ok.N]; exact of_decide_eq_true h1, by rw [ok.sc]; exact of_decide_eq_true h2⟩
theorem sndS_setLc {i : Nat} {y : Str} {p pos : Pos} {C : Cc} {W : WX} {X : Cx} {e : Ex} {v : Expr} (ok : CxOk T G C W X) (hcm : C.calm = true) (hi : X.N[i]? = some y) (h : chkE T C e v = true) (hl : swL C.sc y p v = true) : PS X (.Assign [.Name y p] v pos) (RdS X.K G fuel W (.set i e)) := by
  cases v with
  | ListComp elt gs scope lpos =>
    obtain ⟨h1, h4⟩ := ba (show (decide (C.sc.kind = .function) && decide (C.sc.names.lookup y = some .local) && (p.line == lpos.line) && !(scope.names.any fun (n, k) => n == y && (k == .local || k == .cell))) = true from hl)
    obtain ⟨h1, h3⟩ := ba h1
    obtain ⟨h1, h2⟩ := ba h1
    cases e with
    | lc own tg it c e =>
      match gs, h with
      | [⟨tgx, iter, ifs, k⟩], h =>
      obtain ⟨h1', h8⟩ := ba (show (C.calm && decide (k = 0) && blkC C.N C.sc scope (own.filterMap fun i => (C.N[i]?).map fun y => (y, i)) && decide ((own.filterMap fun i => (C.N[i]?).map fun y => (y, i)).map (·.2) = own) && (slotsT tg).all (fun i => own.contains i)
        && chkI T C tgx it iter && chkG ⟨C.N, relS scope C.sc, scope, C.calm, false⟩ tg tgx && chkC T ⟨C.N, relS scope C.sc, scope, C.calm, false⟩ c ifs && chkE T ⟨C.N, relS scope C.sc, scope, C.calm, false⟩ e elt) = true from h)
      obtain ⟨h1', h7⟩ := ba h1'
      obtain ⟨h1', h6⟩ := ba h1'
      obtain ⟨h1', h5⟩ := ba h1'
      obtain ⟨h1', h4'⟩ := ba h1'
      obtain ⟨h1', h3'⟩ := ba h1'
      obtain ⟨h1', h2'⟩ := ba h1'
      obtain ⟨_, h1'⟩ := ba h1'
      have e0 : k = 0 := of_decide_eq_true h1'
      subst e0
      obtain ⟨i1, i2⟩ := sndI it (tg := tgx) ok h5
      have hyl : X.env.scope.names.lookup y = some .local := by rw [ok.sc]; exact of_decide_eq_true h2
      refine PSimp (ps_setLc (own := own.filterMap fun i => (C.N[i]?).map fun y => (y, i)) (ok.calm hcm) ok.nd hi hyl (sw_true (by rw [ok.sc]; exact of_decide_eq_true h1) hyl h3 (by simpa using h4)) i1 (by rw [ok.N, ok.sc]; exact blkOk_by h2')
        (g := RdG X.K G.EE tg) (fun s H A cl fp => sndG tg (blk_ok ok s H scope cl A fp) h6) (tt := ttOf X.K G c) (fun s H A cl fp => sndC c (blk_ok ok s H scope cl A fp) h7) (te := RdE X.K G W0 e) (fun s H A cl fp => (sndE e (blk_ok ok s H scope cl A fp) h8).1) i2) fun D σ H ⟨ca, mu, ρ, S, w, re, h⟩ => ?_
      rw [of_decide_eq_true h3']
      exact lc_read (fun i hi => by simpa using List.all_eq_true.mp h4' i hi) (stepS w re h fun d S1 v ca1 mu1 H1 e1 w1 re1 i1 h1 => h1 _ ca1 mu1 H1 Ext.refl w1 (re1.set i i1))
    | newc e => cases e <;> cases h
    | _ => cases h
  | _ => cases hl
theorem sndS_setB {i : Nat} {e : Ex} {x : Stmt} {C : Cc} {W : WX} {X : Cx} (ok : CxOk T G C W X) (h : setB T C i e x = true) : PS X x (RdS X.K G fuel W (.set i e)) := by
  unfold setB at h
  split at h
  · rename_i y p v pos
    obtain ⟨h1, h4⟩ := ba h
    obtain ⟨h1, h3⟩ := ba h1
    obtain ⟨h1, h2⟩ := ba h1
    obtain ⟨l1, l2⟩ := locB_ok ok h2
    have hi : X.N[i]? = some y := by rw [ok.N]; exact of_decide_eq_true h1
    rcases Bool.or_eq_true_iff.mp h4 with h4 | h4
    rcases Bool.or_eq_true_iff.mp h4 with h4 | h4
    · exact sndS_set ok.nd hi l1 (sndE e ok h3).1 (swB_ok h4 _ _ _) l2
    · obtain ⟨hc, h4⟩ := ba h4
      exact sndS_setLc ok hc hi h3 h4
    · exact sndS_set ok.nd hi l1 (sndE e ok h3).1 (swC_ok ok.sc h4 _) l2
  · cases h
theorem sndS_unpB {t : Tg} {e : Ex} {x : Stmt} {C : Cc} {W : WX} {X : Cx} (ok : CxOk T G C W X) (h : unpB T C t e x = true) : PS X x (RdS X.K G fuel W (.unp t e)) := by
  unfold unpB at h
  split at h
  · rename_i tg v pos
    obtain ⟨h1, h4⟩ := ba h
    obtain ⟨h1, h3⟩ := ba h1
    obtain ⟨h1, h2⟩ := ba h1
    obtain ⟨g1, g2⟩ := swN_ok ok.sc h4
    exact sndS_unp (sndE e ok h2).1 (sndG t ok h1) (swB_ok h3 (some tg) pos.line X.env) g1 g2
  · cases h
theorem sndS_retB {e : Ex} {x : Stmt} {C : Cc} {W : WX} {X : Cx} (ok : CxOk T G C W X) (h : retB T C e x = true) : PS X x (RdS X.K G fuel W (.ret e)) := by
  unfold retB at h
  split at h
  · exact sndS_ret (sndE e ok h).1
  · split at h
    · exact sndS_retN
    · cases h
  · cases h
theorem sndS_expB {e : Ex} {x : Stmt} {C : Cc} {W : WX} {X : Cx} (ok : CxOk T G C W X) (h : expB T C e x = true) : PS X x (RdS X.K G fuel W (.exp e)) := by
  unfold expB at h
  split at h
  · obtain ⟨h1, h3⟩ := ba h
    exact sndS_exp (sndE e ok h1).1 (swB_ok h3 _ _ _)
  · cases h
theorem ifB_ok {x : Stmt} {y la lb} (h : ifB x = some (y, la, lb)) : ∃ pos, x = .If y la lb pos := by
  unfold ifB at h
  split at h
  · cases h; exact ⟨_, rfl⟩
  · cases h
theorem forB_ok {x : Stmt} {y la lb} (h : forB x = some (y, la, lb)) : ∃ pos, x = .For y la lb [] pos := by
  unfold forB at h
  split at h
  · cases h; exact ⟨_, rfl⟩
  · cases h
theorem whlB_ok {x : Stmt} {y lb} (h : whlB x = some (y, lb)) : ∃ pos, x = .While y lb [] pos := by
  unfold whlB at h
  split at h
  · cases h; exact ⟨_, rfl⟩
  · cases h
theorem sndS_parB {i j : Nat} {es : Exs} {x : Stmt} {C : Cc} {W : WX} {X : Cx} (ok : CxOk T G C W X) (h : parB T C i j es x = true) : PS X x (RdS X.K G fuel W (.par i j es)) := by
  unfold parB at h
  split at h
  · rename_i y p z q k pt vs k2 pt2 pos
    obtain ⟨h1, h6⟩ := ba h
    obtain ⟨h1, h5⟩ := ba h1
    obtain ⟨h1, hl⟩ := ba h1
    obtain ⟨h1, h4⟩ := ba h1
    obtain ⟨h1, h3⟩ := ba h1
    obtain ⟨h1, h2⟩ := ba h1
    obtain ⟨h0, h1⟩ := ba h1
    obtain ⟨a1, a2⟩ := locN_ok ok h1
    obtain ⟨b1, b2⟩ := locN_ok ok h2
    obtain ⟨a, b, rfl⟩ : ∃ a b, vs = [a, b] := by
      match vs, of_decide_eq_true hl with
      | [a, b], _ => exact ⟨a, b, rfl⟩
    exact sndS_par (ok.calm h0) ok.nd a1 b1 (of_decide_eq_true h3) a2 b2 (sndEs es ok h4).1 (swK_ok ok.sc (of_decide_eq_true h5) (of_decide_eq_true h6))
  · cases h
theorem sndS_par3B {i j l : Nat} {es : Exs} {x : Stmt} {C : Cc} {W : WX} {X : Cx} (ok : CxOk T G C W X) (h : par3B T C i j l es x = true) : PS X x (RdS X.K G fuel W (.par3 i j l es)) := by
  unfold par3B at h
  split at h
  · rename_i y p z q u r k pt vs k2 pt2 pos
    obtain ⟨h1, h9⟩ := ba h
    obtain ⟨h1, h8⟩ := ba h1
    obtain ⟨h1, hl⟩ := ba h1
    obtain ⟨h1, h7⟩ := ba h1
    obtain ⟨h1, h6⟩ := ba h1
    obtain ⟨h1, h5⟩ := ba h1
    obtain ⟨h1, h4⟩ := ba h1
    obtain ⟨h1, h3⟩ := ba h1
    obtain ⟨h1, h2⟩ := ba h1
    obtain ⟨h0, h1⟩ := ba h1
    obtain ⟨a1, a2⟩ := locN_ok ok h1
    obtain ⟨b1, b2⟩ := locN_ok ok h2
    obtain ⟨c1, c2⟩ := locN_ok ok h3
    obtain ⟨a, b, c, rfl⟩ : ∃ a b c, vs = [a, b, c] := by
      match vs, of_decide_eq_true hl with
      | [a, b, c], _ => exact ⟨a, b, c, rfl⟩
    exact sndS_par3 (ok.calm h0) ok.nd a1 b1 c1 (of_decide_eq_true h4) (of_decide_eq_true h5) (of_decide_eq_true h6) a2 b2 c2 (sndEs es ok h7).1 (swK_ok ok.sc (of_decide_eq_true h8) (of_decide_eq_true h9))
  · cases h
theorem sndS_putB {o i e : Ex} {x : Stmt} {C : Cc} {W : WX} {X : Cx} (ok : CxOk T G C W X) (h : putB T C o i e x = true) : PS X x (RdS X.K G fuel W (.put o i e)) := by
  unfold putB at h
  split at h
  · rename_i eo ei p v pos
    obtain ⟨h1, h5⟩ := ba h
    obtain ⟨h1, h4⟩ := ba h1
    obtain ⟨h1, h3⟩ := ba h1
    obtain ⟨h1, h2⟩ := ba h1
    exact sndS_put (sndE e ok h3).1 (sndE o ok h1).1 (sndE i ok h2).1 (swB_ok h4 (some (.Subscript eo ei p)) pos.line X.env) (fun v => by cases ei <;> first | rfl | cases h5)
  · cases h
theorem sndS_dputB {o i e : Ex} {x : Stmt} {C : Cc} {W : WX} {X : Cx} (ok : CxOk T G C W X) (h : dputB T C o i e x = true) : PS X x (RdS X.K G fuel W (.dput o i e)) := by
  unfold dputB at h
  split at h
  · rename_i eo ei p v pos
    obtain ⟨h1, h5⟩ := ba h
    obtain ⟨h1, h4⟩ := ba h1
    obtain ⟨h1, h3⟩ := ba h1
    obtain ⟨h1, h2⟩ := ba h1
    exact sndS_dput ok.un (sndE e ok h3).1 (sndE o ok h1).1 (sndE i ok h2).1 (swB_ok h4 (some (.Subscript eo ei p)) pos.line X.env)
  · cases h
theorem sndS_appB {i : Nat} {e : Ex} {x : Stmt} {C : Cc} {W : WX} {X : Cx} (ok : CxOk T G C W X) (h : appB T C i e x = true) : PS X x (RdS X.K G fuel W (.app i e)) := by
  unfold appB at h
  split at h
  · rename_i y p m apos as cpos pos
    obtain ⟨h1, h5⟩ := ba h
    obtain ⟨h1, h7⟩ := ba h1
    obtain ⟨g1, h4⟩ := ba h1
    obtain ⟨g1, h0⟩ := ba g1
    have em : m = Str.ofString "append" := of_decide_eq_true h4
    subst em
    split at h5
    · rename_i a
      obtain ⟨h5, h6⟩ := ba h5
      exact sndS_app (ok.calm h0) (sndE (.var i) ok (show chkE T C (.var i) (.Name y p) = true from g1)).1 (sndE e ok h5).1 h6 h7
    · cases h5
  · cases h
mutual
theorem sndS : ∀ (s : Sx) {x : Stmt} {C : Cc} {W : WX} {X : Cx}, CxOk T G C W X → PassesOwn (model X.prog X.w) X.A X.env X.xe → chkS T C s x = true → PS X x (RdS X.K G fuel W s)
  | .set i e, x, C, W, X, ok, hp, h => sndS_setB ok h
  | .unp t e, x, C, W, X, ok, hp, h => sndS_unpB ok h
  | .par i j es, x, C, W, X, ok, hp, h => sndS_parB ok h
  | .par3 i j l es, x, C, W, X, ok, hp, h => sndS_par3B ok h
  | .put o i e, x, C, W, X, ok, hp, h => sndS_putB ok h
  | .dput o i e, x, C, W, X, ok, hp, h => sndS_dputB ok h
  | .app i e, x, C, W, X, ok, hp, h => sndS_appB ok h
  | .frz _, x, C, W, X, ok, hp, h => by cases h
  | .ret e, x, C, W, X, ok, hp, h => sndS_retB ok h
  | .ifs c a b, x, C, W, X, ok, hp, h => by
    have h : (match ifB x with
      | some (y, la, lb) => chkE T C c y && chkSs T C a la && chkSs T C b lb
      | none => false) = true := h
    split at h
    · rename_i y la lb q
      obtain ⟨pos, rfl⟩ := ifB_ok q
      obtain ⟨h1, h3⟩ := ba h
      obtain ⟨h1, h2⟩ := ba h1
      exact sndS_ifs (sndE c ok h1).2 (sndSs a ok hp h2) (sndSs b ok hp h3)
    · cases h
  | .for_ t it b, x, C, W, X, ok, hp, h => by
    have h : (match forB x with
      | some (tg, iter, lb) => C.calm && chkG C t tg && chkI T C tg it iter && chkSs T C b lb
      | none => false) = true := h
    split at h
    · rename_i tg iter lb q
      obtain ⟨pos, rfl⟩ := forB_ok q
      obtain ⟨h1, h3⟩ := ba h
      obtain ⟨h1, h2⟩ := ba h1
      obtain ⟨h0, h1⟩ := ba h1
      obtain ⟨i1, i2⟩ := sndI it (tg := tg) ok h2
      exact sndS_for hp (ok.calm h0) i1 (sndG t ok h1) (sndSs b ok hp h3) i2
    · cases h
  | .whl c b, x, C, W, X, ok, hp, h => by
    have h : (match whlB x with
      | some (y, lb) => chkE T C c y && chkSs T C b lb
      | none => false) = true := h
    split at h
    · rename_i y lb q
      obtain ⟨pos, rfl⟩ := whlB_ok q
      obtain ⟨h1, h3⟩ := ba h
      exact sndS_whl hp (sndE c ok h1).2 (sndSs b ok hp h3)
    · cases h
  | .exp e, x, C, W, X, ok, hp, h => sndS_expB ok h
  | .rai _, x, C, W, X, ok, hp, h => by cases h
  | .raiF _ _ _, x, C, W, X, ok, hp, h => by cases h
  | .try_ _ _, x, C, W, X, ok, hp, h => by cases h
  | .nev, x, C, W, X, ok, hp, h => sndS_nev
theorem sndSs : ∀ (ss : Sxs) {xs : List Stmt} {C : Cc} {W : WX} {X : Cx}, CxOk T G C W X → PassesOwn (model X.prog X.w) X.A X.env X.xe → chkSs T C ss xs = true → PSs X xs (RdSs X.K G fuel W ss)
  | .nil, xs, C, W, X, ok, hp, h => by
    cases xs with
    | nil => exact sndS_nil
    | cons _ _ => cases h
  | .cons s ss, xs, C, W, X, ok, hp, h => by
    cases q : isNev s with
    | true =>
      cases s with
      | nev => exact sndS_nevs
      | _ => cases q
    | false =>
      cases q2 : isFrz s with
      | true =>
        cases s with
        | frz i => exact sndS_frz (sndSs ss ok hp h)
        | _ => cases q2
      | false =>
        unfold chkSs at h
        rw [q, q2] at h
        cases xs with
        | nil => cases h
        | cons x xs =>
          obtain ⟨h1, h2⟩ := ba (show (chkS T C s x && chkSs T C ss xs) = true from h)
          exact sndS_cons (sndS s ok hp h1) (sndSs ss ok hp h2)
end
end
end KI


set_option Elab.async false
set_option linter.all false
set_option maxRecDepth 100000
set_option autoImplicit false
set_option maxHeartbeats 2000000
/-! Defs, the whole table of them, the law. -/
namespace KI
open PySem PySem.Spec PyProof.Rows L2

/-! ### data without cells is the same for every row of cells -/
section
variable {K : PySem.W.Frag} {EE : Ek} {ca mu ca' mu' : List Addr} {H H' : Hp} {S : Sto}
mutual
theorem Is.pur {H : Hp} (hp : ∀ a, a ∈ mu' → a ∈ mu) : ∀ (d : D) {v : V}, d.pure = true → Is K EE ca mu H v d → Is K EE ca' mu' H v d
  | .non, _, _, h => by cases h; exact .non
  | .bl b, _, _, h => by cases h; exact .bl b
  | .int i, _, _, h => by cases h; exact .int i
  | .str s, _, _, h => by cases h; exact .str s
  | .tup ds, _, p, h => by cases h with | tup h1 h2 => exact .tup (h1.imp (fun z => ⟨z.1, fun q => z.2 (hp _ q)⟩) id) (IsL.pur hp ds p h2)
  | .lst ds, _, p, h => by cases h with | lst h1 h2 h3 => exact .lst h1 (fun q => h2 (hp _ q)) (IsL.pur hp ds p h3)
  | .dic ds, _, p, h => by cases h with | dic h1 h2 h3 => exact .dic h1 (fun q => h2 (hp _ q)) (IsK.pur hp ds p h3)
  | .ro ds, _, p, h => by cases h with | ro h1 h2 => exact .ro (h1.imp (fun z => ⟨z.1, fun q => z.2 (hp _ q)⟩) id) (IsL.pur hp ds p h2)
  | .cell n, _, p, h => by cases p
  | .fn i, _, _, h => by cases h with | fn _ h => exact .fn i h
  | .clo np e ds, _, p, h => by cases h with | clo h1 h2 h3 h4 h5 h6 h7 => exact .clo h1 (fun q => h2 (hp _ q)) h3 (fun q => h4 (hp _ q)) h5 (h6.mono hp) (IsL.pur hp ds p h7)
theorem IsL.pur {H : Hp} (hp : ∀ a, a ∈ mu' → a ∈ mu) : ∀ (ds : List D) {vs : List V}, pureL ds = true → IsL K EE ca mu H vs ds → IsL K EE ca' mu' H vs ds
  | [], _, _, h => by cases h; exact .nil
  | d :: ds, _, p, h => by
    obtain ⟨p1, p2⟩ := ba (show (d.pure && pureL ds) = true from p)
    cases h with | cons h1 h2 => exact .cons (Is.pur hp d p1 h1) (IsL.pur hp ds p2 h2)
theorem IsK.pur {H : Hp} (hp : ∀ a, a ∈ mu' → a ∈ mu) : ∀ (ds : List (Key × D)) {vs : List (Key × V)}, pureK ds = true → IsK K EE ca mu H vs ds → IsK K EE ca' mu' H vs ds
  | [], _, _, h => by cases h; exact .nil
  | (_, d) :: ds, _, p, h => by
    obtain ⟨p1, p2⟩ := ba (show (d.pure && pureK ds) = true from p)
    cases h with | cons h1 h2 => exact .cons (Is.pur hp d p1 h1) (IsK.pur hp ds p2 h2)
end
/-- a store of its own is left -/
theorem own_back (w : Wd K EE ca mu H S) {S' : Sto} (w' : Wd K EE ca' mu' H' S') (x : Ext [] mu H ca' mu' H') : Ext ca mu H ca mu H' ∧ Wd K EE ca mu H' S ∧ ∀ a, a ∈ mu → a ∈ mu' := by
  have kp : ∀ a o, H a = some o → notTbl o → H' a = some o := fun a o h t => x.kp a o h t fun z => nomatch z.1
  have e : Ext ca mu H ca mu H' := ⟨⟨[], by simp, fun _ z => nomatch z⟩, fun _ z => .inl z, fun a o h t _ => kp a o h t, x.tr, fun _ z _ _ => z⟩
  have at_ : ∀ a, (∃ o, H a = some o ∧ chg o = true) → ∃ o, H' a = some o ∧ chg o = true := fun a ⟨o, e, g⟩ => ⟨o, kp a o e (nt_chg g), g⟩
  refine ⟨e, ⟨w.len, w.nd, fun n a o h1 h2 => (w.ob n a o h1 h2).ext e id fun ha => ?_, fun a z => at_ a (w.tm a z), w'.tb, fun a z => at_ a (w.tc a z)⟩, fun a z => x.fb a z (fun q => nomatch q) (w.tm0 z)⟩
  obtain ⟨o, q, g⟩ := w.tm a ha
  rw [q, kp a o q (nt_chg g)]
theorem own_in (w : Wd K EE ca mu H S) : Wd K EE [] mu H [] := ⟨rfl, .nil, fun _ _ _ h => by simp at h, w.tm, w.tb, fun _ z => nomatch z⟩
end
theorem RE_start {K : PySem.W.Frag} {EE : Ek} {ca mu : List Addr} {H : Hp} {N : List Str} {vs : List V} {ds : List D} (h : IsL K EE ca mu H vs ds) {n : Nat} (hn : ds.length = n) (hN : n ≤ N.length) : RE K EE ca mu H (L2.start N vs) (ds.map some ++ List.replicate (N.length - n) none) := by
  subst hn
  refine ⟨?_, fun i d q => ?_⟩
  · unfold L2.start
    rw [List.length_append, List.length_append, List.length_map, List.length_map, List.length_replicate, List.length_replicate, h.length]
  · unfold L2.start
    by_cases hi : i < ds.length
    · rw [List.getElem?_append_left (by simpa using hi), List.getElem?_map] at q
      cases e : ds[i]? with
      | none => rw [e] at q; cases q
      | some d' =>
        rw [e] at q
        cases q
        obtain ⟨v, e1, e2⟩ := h.get e
        refine ⟨v, ?_, e2⟩
        rw [List.getElem?_append_left (by simpa [h.length] using hi), List.getElem?_map, e1]
        rfl
    · rw [List.getElem?_append_right (by simpa using hi), List.getElem?_replicate] at q
      split at q <;> cases q
/-! ### the table -/
/-- a def: the code, the text; lam: lambdas are made in it -/
structure Fe where
  d : Def
  st : Stmt
  lam : Bool := false
def Fe.D (e : Fe) : He.DefD := ⟨(e.d.name, none), e.d.name, e.d.name, defArgs e.st, defBody e.st, defScope e.st, [], []⟩
def scOk (N ps : List Str) (sc : Scope) : Bool := decide (sc.kind = .function) && !sc.isCoroutine && !sc.isGenerator && decide N.Nodup && decide (N.take ps.length = ps)
  && ps.all (fun x => decide (sc.names.lookup x = some .local) || decide (sc.names.lookup x = some .cell)) && sc.names.all (fun y => decide (y.2 ≠ .free))
def chkF (T : Tb) (e : Fe) : Bool := decide (e.d.nps ≤ e.d.N.length) && argOk (defArgs e.st) (e.d.N.take e.d.nps) && scOk e.d.N (e.d.N.take e.d.nps) (defScope e.st) && chkSs T ⟨e.d.N, defScope e.st, defScope e.st, true, e.lam⟩ e.d.body (defBody e.st)
theorem argOk_ok {p : Arguments} {ps : List Str} (h : argOk p ps = true) {x qual : Str} {body : List Stmt} {scope : Scope} (kV doc pm : Value) (an : Option Addr) (cdv ct : Value) (us : List Value) (hl : us.length = ps.length) :
    bindArgs (PySem.W.fnOf x qual p body scope .none kV doc pm an cdv ct) ⟨us, []⟩ = pure (ps.zip us) := by
  obtain ⟨h1, h7⟩ := ba h
  obtain ⟨h1, h6⟩ := ba h1
  obtain ⟨h1, h5⟩ := ba h1
  obtain ⟨h1, h4⟩ := ba h1
  obtain ⟨h1, h3⟩ := ba h1
  obtain ⟨h1, h2⟩ := ba h1
  obtain ⟨a, b, c, d, e, f, g⟩ := p
  cases a with
  | cons _ _ => cases h1
  | nil =>
  cases c with
  | some _ => cases h2
  | none =>
  cases d with
  | cons _ _ => cases h3
  | nil =>
  cases f with
  | some _ => cases h4
  | none =>
  cases g with
  | cons _ _ => cases h5
  | nil =>
  have e6 : b.map (·.arg) = ps := of_decide_eq_true h6
  subst e6
  exact bind_plain (of_decide_eq_true h7) kV doc pm an cdv ct us hl
theorem scOk_ok {N ps : List Str} {sc : Scope} (h : scOk N ps sc = true) : FnScope N ps sc := by
  obtain ⟨h1, h7⟩ := ba h
  obtain ⟨h1, h6⟩ := ba h1
  obtain ⟨h1, h5⟩ := ba h1
  obtain ⟨h1, h4⟩ := ba h1
  obtain ⟨h1, h3⟩ := ba h1
  obtain ⟨h1, h2⟩ := ba h1
  refine ⟨of_decide_eq_true h1, by simpa using h2, by simpa using h3, of_decide_eq_true h4, of_decide_eq_true h5, fun x hx => ?_, fun y hy => of_decide_eq_true (List.all_eq_true.mp h7 y hy)⟩
  rcases Bool.or_eq_true_iff.mp (List.all_eq_true.mp h6 x hx) with q | q
  · exact .inl (of_decide_eq_true q)
  · exact .inr (of_decide_eq_true q)
/-! ### constants of the top -/
mutual
def cstB (K : PySem.W.Frag) : Value → D → Bool
  | u, .non => (match u with
    | .none => true
    | _ => false)
  | u, .bl b => (match u with
    | .bool c => decide (c = b)
    | _ => false)
  | u, .int i => (match u with
    | .int j _ => decide (j = i)
    | _ => false)
  | u, .str s => (match u with
    | .str t _ => decide (t = s)
    | _ => false)
  | u, .tup ds => (match u with
    | .ref a => (match K.lookup a with
      | some ⟨.type c, _, .seq its _, _⟩ => decide (c = "tuple") && decide (its.size ≤ sizeLine) && cstL K its.toList ds
      | _ => false)
    | _ => false)
  | _, _ => false
def cstL (K : PySem.W.Frag) : List Value → List D → Bool
  | us, [] => us.isEmpty
  | us, d :: ds => (match us with
    | u :: us => cstB K u d && cstL K us ds
    | [] => false)
end
mutual
theorem cstB_ok {K : PySem.W.Frag} {EE : Ek} : ∀ (d : D) {u : Value}, cstB K u d = true → ∃ v, RelV v u ∧ ∀ ca mu H, Is K EE ca mu H v d
  | .non, u, h => by
    cases u with
    | none => exact ⟨.non, rfl, fun _ _ _ => .non⟩
    | _ => cases h
  | .bl b, u, h => by
    cases u with
    | bool c =>
      have e : c = b := of_decide_eq_true h
      subst e
      exact ⟨.bl c, rfl, fun _ _ _ => .bl c⟩
    | _ => cases h
  | .int i, u, h => by
    cases u with
    | int j t =>
      have e : j = i := of_decide_eq_true h
      subst e
      exact ⟨.int j, ⟨t, rfl⟩, fun _ _ _ => .int j⟩
    | _ => cases h
  | .str s, u, h => by
    cases u with
    | str j t =>
      have e : j = s := of_decide_eq_true h
      subst e
      exact ⟨.str j, ⟨t, rfl⟩, fun _ _ _ => .str j⟩
    | _ => cases h
  | .tup ds, u, h => by
    cases u with
    | ref a =>
      have h : (match K.lookup a with
        | some ⟨.type c, _, .seq its _, _⟩ => decide (c = "tuple") && decide (its.size ≤ sizeLine) && cstL K its.toList ds
        | _ => false) = true := h
      split at h
      · rename_i c od its n osl q
        obtain ⟨h1, h3⟩ := ba h
        obtain ⟨h1, h2⟩ := ba h1
        obtain ⟨vs, h4, h5⟩ := cstL_ok ds h3
        exact ⟨.ref a, rfl, fun ca mu H => .tup (.inr ⟨_, its, n, q, congrArg Value.type (of_decide_eq_true h1), rfl, of_decide_eq_true h2, h4⟩) (h5 ca mu H)⟩
      · cases h
    | _ => cases h
  | .lst _, u, h => by cases h
  | .dic _, u, h => by cases h
  | .ro _, u, h => by cases h
  | .cell _, u, h => by cases h
  | .fn _, u, h => by cases h
  | .clo _ _ _, u, h => by cases h
theorem cstL_ok {K : PySem.W.Frag} {EE : Ek} : ∀ (ds : List D) {us : List Value}, cstL K us ds = true → ∃ vs, Vals vs us ∧ ∀ ca mu H, IsL K EE ca mu H vs ds
  | [], us, h => by
    cases us with
    | nil => exact ⟨[], .nil, fun _ _ _ => .nil⟩
    | cons _ _ => cases h
  | d :: ds, us, h => by
    cases us with
    | nil => cases h
    | cons u us =>
      obtain ⟨h1, h2⟩ := ba (show (cstB K u d && cstL K us ds) = true from h)
      obtain ⟨v, a1, a2⟩ := cstB_ok d h1
      obtain ⟨vs, b1, b2⟩ := cstL_ok ds h2
      exact ⟨v :: vs, .cons a1 b1, fun ca mu H => .cons (a2 ca mu H) (b2 ca mu H)⟩
end
/-- the name x of the top is d -/
def conB (K : PySem.W.Frag) (c : Str × D) : Bool := match PySem.W.nsIn K mainGlobals c.1 with
  | some (some u) => cstB K u c.2
  | _ => false
theorem conB_ok {K : PySem.W.Frag} {EE : Ek} {h : Heap} {mg : Str → Option Value} (X : K.In h) (G : h.Ns mainGlobals mg) {c : Str × D} (q : conB K c = true) : ∃ v u, mg c.1 = some u ∧ RelV v u ∧ ∀ ca mu H, Is K EE ca mu H v c.2 := by
  unfold conB at q
  split at q
  · rename_i u e
    obtain ⟨v, a, b⟩ := cstB_ok c.2 q
    exact ⟨v, u, PySem.W.mg_of X G e, a, b⟩
  · cases q
/-! ### all of it -/
/-- a law's code: fns, cs, xs: the defs, constants, exceptions' classes that stand in the text, by their numbers; tf, cons: all of them -/
structure Lw where
  fns : List (Nat × Fe)
  cs : List (Nat × Str × D)
  xs : List (Nat × Str)
  bls : List Str
  fuel : Nat
  tf : Nat → Option Def
  cons : Nat → D
variable (L : Lw)
def Lw.T (L : Lw) : Tb := ⟨fun f => (L.fns.lookup f).map fun e => (e.d.name, e.d.nps), fun c => (L.cs.lookup c).map (·.1), fun y => L.bls.contains y, fun c => L.xs.lookup c⟩
def Lw.run (L : Lw) (k : Nat) : Call := callN L.cons L.tf L.fuel k
def Lw.lams (L : Lw) : List He.Defn := L.fns.filterMap fun p => if p.2.lam then some (p.2.d.name, none) else none
def Lw.EE (L : Lw) (K : PySem.W.Frag) : Ek := ⟨fun f => ((L.fns.lookup f).map fun e => He.ga K e.d.name).getD 0, fun _ => 0, L.T, L.lams.map fun p => ((He.cT K p).2, p.1 ++ ".<locals>." ++ "<lambda>")⟩
def Lw.G (L : Lw) (K : PySem.W.Frag) (k : Nat) : En := ⟨L.EE K, fun c => ((L.xs.lookup c).map (He.ga K)).getD 0, L.cons, L.run k⟩
def Lw.fa (L : Lw) : List He.Fa := (L.fns.map fun e => .glo e.2.d.name) ++ (L.bls.map .free ++ ((L.xs.map fun e => .glo e.2) ++ (L.xs.map fun e => .exc e.2)))
def Lw.fn (L : Lw) : List He.DefD := L.fns.map fun e => e.2.D
def Lw.chk (L : Lw) : Bool := L.fns.all fun e => chkF L.T e.2
/-- the facts that are no def's -/
def Lw.ex (L : Lw) (K : PySem.W.Frag) : Bool := L.cs.all (fun c => conB K c.2) && decide ((L.lams.map fun p => (He.cT K p).2).Nodup) && L.xs.all (fun a => L.xs.all fun b => decide (PySem.W.exmOne K (.ref (He.ga K b.2)) (.ref (He.ga K a.2)) = some (subX b.1 a.1)))
/-- the numbers are those of all -/
structure Lw.Fits (L : Lw) : Prop where
  f : L.fns.map (fun p => L.tf p.1) = L.fns.map fun p => some p.2.d
  c : L.cs.map (fun p => L.cons p.1) = L.cs.map fun p => p.2.2
structure Lw.Says (L : Lw) (w : World) (h : Heap) (K : PySem.W.Frag) : Prop where
  x : He.SaysX L.fa L.fn [] L.lams L.ex w h K
theorem lookup_in {α : Type} {k : Nat} {a : α} : ∀ {l : List (Nat × α)}, l.lookup k = some a → (k, a) ∈ l
  | [], h => by cases h
  | (j, b) :: l, h => by
    rw [List.lookup_cons] at h
    cases q : (k == j) with
    | true =>
      rw [q] at h
      cases h
      rw [eq_of_beq q]
      exact List.mem_cons_self
    | false =>
      rw [q] at h
      exact List.mem_cons_of_mem _ (lookup_in h)
theorem mem_eq {α β : Type} {f g : α → β} : ∀ {l : List α} {a : α}, l.map f = l.map g → a ∈ l → f a = g a
  | b :: l, a, h, m => by
    rw [List.map_cons, List.map_cons] at h
    injection h with h1 h2
    rcases List.mem_cons.mp m with e | m
    · rw [e]; exact h1
    · exact mem_eq h2 m
section
variable {L : Lw} {P : Program} {w : World} {K : PySem.W.Frag} {mg : Str → Option Value} {base h h0 : Heap}
theorem Lw.Says.d (c : L.Says w h0 K) : He.SaysD L.fa L.fn K := c.x.t.d
theorem Lw.Says.def_ (c : L.Says w h0 K) {f : Nat} {e : Fe} (hf : L.fns.lookup f = some e) : ∃ fd, FunD K e.d.name e.d.name (defArgs e.st) (defBody e.st) (defScope e.st) [] [] (He.ga K e.d.name) fd :=
  He.SaysD.defs (d := e.D) c.d (List.mem_map.mpr ⟨(f, e), lookup_in hf, rfl⟩)
theorem Lw.Says.glo (c : L.Says w h0 K) (X : K.In h) (G : h.Ns mainGlobals mg) {f : Nat} {e : Fe} (hf : L.fns.lookup f = some e) : mg e.d.name = some (.ref (He.ga K e.d.name)) :=
  He.glo_ok X G (He.SaysD.facts c.d (List.mem_append_left _ (List.mem_map.mpr ⟨(f, e), lookup_in hf, rfl⟩)))
theorem Lw.Says.ex3 (c : L.Says w h0 K) : L.cs.all (fun c => conB K c.2) = true ∧ (L.lams.map fun p => (He.cT K p).2).Nodup ∧ L.xs.all (fun a => L.xs.all fun b => decide (PySem.W.exmOne K (.ref (He.ga K b.2)) (.ref (He.ga K a.2)) = some (subX b.1 a.1))) = true := by
  obtain ⟨h1, h3⟩ := ba c.x.more
  obtain ⟨h1, h2⟩ := ba h1
  exact ⟨h1, of_decide_eq_true h2, h3⟩
theorem Lw.binds (hc : L.chk = true) {f : Nat} {e : Fe} (hf : L.fns.lookup f = some e) {a : Addr} {fd : FuncData} (F : FunD K e.d.name e.d.name (defArgs e.st) (defBody e.st) (defScope e.st) [] [] a fd) : Binds K fd (e.d.N.take e.d.nps) [] := by
  obtain ⟨h1, _⟩ := ba (List.all_eq_true.mp hc _ (lookup_in hf))
  obtain ⟨h1, _⟩ := ba h1
  obtain ⟨_, h2⟩ := ba h1
  exact F.bindsN fun kV doc pm an cdv ct us hl => argOk_ok h2 kV doc pm an cdv ct us hl
theorem Lw.tabs (c : L.Says w h0 K) {f : Nat} {e : Fe} (hf : L.fns.lookup f = some e) (hl : e.lam = true) : ((He.cT K (e.d.name, none)).2, e.d.name ++ ".<locals>." ++ "<lambda>") ∈ (L.EE K).T ∧ ∀ p ∈ (L.EE K).T, p.1 = (He.cT K (e.d.name, none)).2 → p.2 = e.d.name ++ ".<locals>." ++ "<lambda>" := by
  have hm : (e.d.name, none) ∈ L.lams := List.mem_filterMap.mpr ⟨(f, e), lookup_in hf, by rw [if_pos hl]⟩
  refine ⟨List.mem_map.mpr ⟨_, hm, rfl⟩, fun p hp he => ?_⟩
  obtain ⟨q, hq, rfl⟩ := List.mem_map.mp hp
  have nd := c.ex3.2.1
  have e2 : q = (e.d.name, none) := by
    obtain ⟨i, hi, ei⟩ := List.mem_iff_getElem.mp hq
    obtain ⟨j, hj, ej⟩ := List.mem_iff_getElem.mp hm
    have he : (He.cT K q).2 = (He.cT K (e.d.name, none)).2 := he
    have hij : i = j := by
      refine (List.getElem_inj nd (h₀ := by simpa using hi) (h₁ := by simpa using hj)).mp ?_
      rw [List.getElem_map, List.getElem_map, ei, ej]
      exact he
    subst hij
    rw [← ei, ej]
  rw [e2]
theorem Lw.fa_ (L : Lw) {f : Nat} {e : Fe} (hf : L.fns.lookup f = some e) : (L.EE K).FA f = He.ga K e.d.name := by
  show ((L.fns.lookup f).map fun e => He.ga K e.d.name).getD 0 = _
  rw [hf]
  rfl
/-- what every def's place gives -/
theorem Lw.cx (hc : L.chk = true) (ft : L.Fits) (c : L.Says w h0 K) (X : K.In h) (G : h.Ns mainGlobals mg) {k : Nat} (ih : ∀ (f : Nat) (e : Fe) (fd : FuncData), L.fns.lookup f = some e → FunD K e.d.name e.d.name (defArgs e.st) (defBody e.st) (defScope e.st) [] [] (He.ga K e.d.name) fd →
      FnOk P w K mg base (L2.CX P w) k (He.ga K e.d.name) fd (e.d.N.take e.d.nps) (SpF K (L.G K k) f e.d.nps)) (il : LamP P w K mg base (L.G K k) k) {C : Cc} {W : WX} {Y : Cx} (e1 : Y.N = C.N) (e2 : Y.N.Nodup) (e3 : Y.env.scope = C.sc) (e4 : ∀ x, C.ss.names.lookup x = some .cell → Y.fn x = true) (e5 : Y.calm = true)
    (e6 : Y.A.units + 65 < cLine) (e7 : Takes Y W) (e8 : Y.prog = P) (e9 : Y.w = w) (e10 : Y.K = K) (e11 : Y.mg = mg) (e12 : Y.base = base) (hr : Room k Y.A)
    (lx : C.lam = true → ∃ c P, Y.env.code = .ref c ∧ LamX.TabB Y.base Y.mg c P ∧ (P, Y.env.qual ++ "<lambda>") ∈ (L.EE K).T ∧ (∀ p ∈ (L.EE K).T, p.1 = P → p.2 = Y.env.qual ++ "<lambda>") ∧ ∀ x, Y.fn x = true) : CxOk L.T (L.G K k) C W Y := by
  subst e8 e9 e10 e11 e12
  refine ⟨e1, e2, e3, e4, fun _ => e5, e6, e7, rfl, fun f' y n hy => ?_, fun f' y n ds S hy hn => ?_, ⟨k, il, hr⟩, lx, fun i y hy => ?_, fun i y hy => ?_, fun y hy => ?_⟩
  · have hy : (L.fns.lookup f').map (fun e => (e.d.name, e.d.nps)) = some (y, n) := hy
    cases q2 : L.fns.lookup f' with
    | none => rw [q2] at hy; cases hy
    | some e2 =>
      rw [q2] at hy
      cases hy
      obtain ⟨fd2, F2⟩ := c.def_ q2
      have ea : (L.G Y.K k).EE.FA f' = He.ga Y.K e2.d.name := L.fa_ q2
      rw [ea]
      refine ⟨k, fd2, _, ih f' e2 fd2 q2 F2, hr, c.glo X G q2, F2.kp, Lw.binds hc q2 F2, ?_⟩
      obtain ⟨oc, od, dV, kV, doc, pm, an, cdv, ct, osl, rfl, lk, _⟩ := F2.ex
      exact ⟨oc, od, osl, lk⟩
  · have hy : (L.fns.lookup f').map (fun e => (e.d.name, e.d.nps)) = some (y, n) := hy
    cases q2 : L.fns.lookup f' with
    | none => rw [q2] at hy; cases hy
    | some e2 =>
      rw [q2] at hy
      cases hy
      have et : L.tf f' = some e2.d := mem_eq (f := fun p : Nat × Fe => L.tf p.1) ft.f (lookup_in q2)
      show callN L.cons L.tf L.fuel k (.glo f') ds S = .no
      cases k with
      | zero => rfl
      | succ k =>
        unfold callN
        rw [et]
        simp only
        rw [if_neg fun z => hn z.1]
  · have hy : L.xs.lookup i = some y := hy
    have hm := lookup_in hy
    have ea : ∀ {j z}, L.xs.lookup j = some z → (L.G Y.K k).XA j = He.ga Y.K z := fun {j z} q => by
      show ((L.xs.lookup j).map (He.ga Y.K)).getD 0 = _
      rw [q]
      rfl
    refine ⟨?_, fun c' y' hy' => ?_⟩
    · rw [ea hy]
      have g := He.glo_ok X G (He.SaysD.facts c.d (f := .glo y) (List.mem_append_right _ (List.mem_append_right _ (List.mem_append_left _ (List.mem_map.mpr ⟨_, hm, rfl⟩)))))
      have f := He.SaysD.facts c.d (f := .exc y) (List.mem_append_right _ (List.mem_append_right _ (List.mem_append_right _ (List.mem_map.mpr ⟨_, hm, rfl⟩))))
      obtain ⟨f1, f⟩ := He.ba f
      obtain ⟨f2, f⟩ := He.ba f
      obtain ⟨f3, f4⟩ := He.ba f
      exact ⟨g, f2, of_decide_eq_true f3, of_decide_eq_true f4⟩
    · have hy' : L.xs.lookup c' = some y' := hy'
      rw [ea hy, ea hy']
      have := List.all_eq_true.mp c.ex3.2.2 _ hm
      exact of_decide_eq_true (List.all_eq_true.mp this _ (lookup_in hy'))
  · have hy : (L.cs.lookup i).map (·.1) = some y := hy
    cases q2 : L.cs.lookup i with
    | none => rw [q2] at hy; cases hy
    | some e2 =>
      rw [q2] at hy
      cases hy
      obtain ⟨v, u, a1, a2, a3⟩ := conB_ok (EE := L.EE Y.K) X G (List.all_eq_true.mp c.ex3.1 _ (lookup_in q2))
      refine ⟨v, u, a1, a2, fun ca mu H => ?_⟩
      have ec : L.cons i = e2.2 := mem_eq (f := fun p : Nat × Str × D => L.cons p.1) ft.c (lookup_in q2)
      show Is Y.K (L.EE Y.K) ca mu H v (L.cons i)
      rw [ec]
      exact a3 ca mu H
  · exact He.free_ok X G (He.SaysD.facts c.d (List.mem_append_right _ (List.mem_append_left _ (List.mem_map_of_mem (by simpa using (show L.bls.contains y = true from hy))))))
/-- every def and every lambda keeps its promise -/
theorem Lw.ok (hc : L.chk = true) (ft : L.Fits) (c : L.Says w h0 K) (X : K.In h) (G : h.Ns mainGlobals mg) (tb : ∀ p ∈ L.lams, LamX.TabB base mg (He.cT K p).1 (He.cT K p).2) : ∀ k : Nat, (∀ (f : Nat) (e : Fe) (fd : FuncData), L.fns.lookup f = some e → FunD K e.d.name e.d.name (defArgs e.st) (defBody e.st) (defScope e.st) [] [] (He.ga K e.d.name) fd →
    FnOk P w K mg base (L2.CX P w) k (He.ga K e.d.name) fd (e.d.N.take e.d.nps) (SpF K (L.G K k) f e.d.nps)) ∧ LamP P w K mg base (L.G K k) k := by
  intro k
  induction k with
  | zero =>
    refine ⟨fun f e fd hf F => ⟨fun vs H Q E q => ?_, fun A outer s H args us vs Q E _ _ _ _ q => ?_⟩, fun A outer s H f np e cs ds us vs S ca mu Q E _ _ _ _ _ _ _ _ _ q => q.elim⟩
    all_goals
      obtain ⟨_, _, _, _, _, _, _, z⟩ := q
      exact z.elim
  | succ k ih =>
    obtain ⟨ih, il⟩ := ih
    refine ⟨fun f e fd hf F => ?_, lamP_of (G := L.G K k) rfl rfl (fun e ds S => rfl) fun A outer s H f F fr e E hr hnd hnc hce => ?_⟩
    · obtain ⟨h1, h4⟩ := ba (List.all_eq_true.mp hc _ (lookup_in hf))
      obtain ⟨h1, h3⟩ := ba h1
      obtain ⟨h1, h2⟩ := ba h1
      have hN : e.d.nps ≤ e.d.N.length := of_decide_eq_true h1
      have hpl : (e.d.N.take e.d.nps).length = e.d.nps := by rw [List.length_take]; omega
      obtain ⟨oc, od, dV, kV, doc, pm, an, cdv, ct, osl, efd, lk, hcd, _⟩ := F.ex
      subst efd
      refine fn_of lk hcd (scOk_ok h3) (fun vs H Q E q => by rw [hpl]; exact q.1) fun A outer s H vs Q E hr q => ?_
      obtain ⟨hlen, ca, mu, ds, S, wd, iL, h0⟩ := q
      have ok : CxOk L.T (L.G K k) ⟨e.d.N, defScope e.st, defScope e.st, true, e.lam⟩ (fun cls d _ H => E cls d H) (cxOf (L2.CX P w) P w K mg base e.d.N e.d.name (defScope e.st) (He.ga K e.d.name) cdv A outer s H E) := by
        refine Lw.cx hc ft c X G ih il rfl (scOk_ok h3).nd rfl (fun _ _ => rfl) rfl ?_ (takes_of rfl rfl rfl rfl) rfl rfl rfl rfl rfl hr fun hl => ?_
        · have := hr.un
          show (A.deeper _).units + 65 < cLine
          omega
        · obtain ⟨cc, ecd⟩ := He.codeIn_ref hcd
          have hm : (e.d.name, none) ∈ L.lams := List.mem_filterMap.mpr ⟨(f, e), lookup_in hf, by rw [if_pos hl]⟩
          have ec : (He.cT K (e.d.name, none)).1 = cc := He.codeOf_eq (p := (e.d.name, none)) lk ecd
          obtain ⟨t1, t2⟩ := Lw.tabs c hf hl
          exact ⟨cc, (He.cT K (e.d.name, none)).2, ecd, by rw [← ec]; exact tb _ hm, t1, t2, fun _ => rfl⟩
      refine ⟨RdSs K (L.G K k) L.fuel (fun cls d _ H => E cls d H) e.d.body, sndSs e.d.body ok (passes_of rfl) h4, ?_⟩
      have hcall : (L.G K (k + 1)).call (.glo f) ds S = callN L.cons L.tf L.fuel (k + 1) (.glo f) ds S := rfl
      rw [hcall] at h0
      unfold callN at h0
      have htf : L.tf f = some e.d := mem_eq (f := fun p : Nat × Fe => L.tf p.1) ft.f (lookup_in hf)
      rw [htf] at h0
      have hlen2 : ds.length = e.d.nps := by rw [← iL.length]; exact hlen
      simp only at h0
      rw [if_pos ⟨hlen2, hN⟩] at h0
      have wd : Wd K (L.EE K) ca mu H S := wd
      have iL : IsL K (L.EE K) ca mu H vs ds := iL
      cases hreg : e.d.reg with
      | false =>
        rw [hreg] at h0
        refine ⟨ca, mu, _, S, wd, RE_start iL hlen2 hN, ?_⟩
        have h0 : okR K (L.EE K) (L.G K k).XA (IsR K (L.EE K)) ca mu H (match exss L.cons (callN L.cons L.tf L.fuel k) L.fuel e.d.body (ds.map some ++ List.replicate (e.d.N.length - e.d.nps) none) S with
            | .nx _ S' => .ok .non S'
            | .rt v S' => .ok v S'
            | .exc x _ S' => .exc x S'
            | .no => .no) Q E := h0
        show flP K (L.EE K) (L.G K k).XA ca mu H (exss L.cons (callN L.cons L.tf L.fuel k) L.fuel e.d.body _ S) _ _
        cases hx : exss L.cons (callN L.cons L.tf L.fuel k) L.fuel e.d.body (ds.map some ++ List.replicate (e.d.N.length - e.d.nps) none) S with
        | nx ρ S' => rw [hx] at h0; exact fun σ' ca' mu' H' x w re => h0 .non ca' mu' H' x w .non
        | rt d S' => rw [hx] at h0; exact h0
        | exc x ρ S' => rw [hx] at h0; exact fun cls dd σ' ca' mu' H' x w re i => h0 cls dd ca' mu' H' x w i
        | no => rw [hx] at h0; exact h0.elim
      | true =>
        rw [hreg] at h0
        simp only at h0
        split at h0
        · rename_i hp
          refine ⟨[], mu, _, [], own_in wd, RE_start (IsL.pur (fun _ z => z) ds hp iL) hlen2 hN, ?_⟩
          show flP K (L.EE K) (L.G K k).XA [] mu H (exss L.cons (callN L.cons L.tf L.fuel k) L.fuel e.d.body _ []) _ _
          cases hx : exss L.cons (callN L.cons L.tf L.fuel k) L.fuel e.d.body (ds.map some ++ List.replicate (e.d.N.length - e.d.nps) none) [] with
          | nx ρ S' =>
            rw [hx] at h0
            exact fun σ' ca' mu' H' x w' re => h0 .non ca mu H' (own_back wd w' x).1 (own_back wd w' x).2.1 .non
          | rt d S' =>
            rw [hx] at h0
            simp only at h0
            split at h0
            · rename_i hd
              exact fun v ca' mu' H' x w' i => h0 v ca mu H' (own_back wd w' x).1 (own_back wd w' x).2.1 (Is.pur (own_back wd w' x).2.2 d hd i)
            · exact h0.elim
          | exc x ρ S' =>
            rw [hx] at h0
            simp only at h0
            split at h0
            · rename_i hd
              intro cls dd σ' ca' mu' H' x' w' re i
              refine h0 cls dd ca mu H' (own_back wd w' x').1 (own_back wd w' x').2.1 ⟨i.1, ?_⟩
              have i2 := i.2
              cases hfs : x.fs with
              | nil => rw [hfs] at i2; exact i2
              | cons a as =>
                rw [hfs] at i2 hd
                obtain ⟨d, vs, g1, g2, g3, g4, g5⟩ := i2
                exact ⟨d, vs, g1, fun z => g2 ((own_back wd w' x').2.2 _ z), g3, g4, IsL.pur (own_back wd w' x').2.2 _ hd g5⟩
            · exact h0.elim
          | no => rw [hx] at h0; exact h0.elim
        · exact h0.elim
    · refine (sndE e (Lw.cx (C := lamCc F fr) (k := k) hc ft c X G ih il rfl hnd rfl (fun x hx => absurd hx (hnc x)) rfl ?_ (takes_of rfl rfl rfl rfl) rfl rfl rfl rfl rfl hr fun z => nomatch z) hce).1
      have := hr.un
      show (A.deeper _).units + 65 < cLine
      omega
end
/-! ### the end -/
/-- an exception of whichever world -/
def CXe (P : Program) : CXT := fun outer H s E u s' => ∃ w, L2.CX P w outer H s E u s'
theorem FnOk.cxe {P : Program} {w : World} {K : PySem.W.Frag} {mg : Str → Option Value} {base : Heap} {k : Nat} {f : Addr} {fd : FuncData} {ps : List Str} {sp : Sp} (F : FnOk P w K mg base (L2.CX P w) k f fd ps sp) : FnOk P w K mg base (CXe P) k f fd ps sp :=
  ⟨F.len, fun A outer s H args us vs Q E hr he hb hv hs => codeAny_mono (F.run A outer s H args us vs Q E hr he hb hv hs) fun r s' hq => by
    cases r with
    | error e => exact ⟨w, hq⟩
    | ok fl => cases fl <;> exact hq⟩
/-- the law answers true for every script -/
def Lw.Good (L : Lw) (k li n : Nat) : Prop := ∀ ns : List Int, ns.length ≤ n → (∀ z ∈ ns, Builtin.Int.intBits z ≤ 1048576) → ∃ S, L.run k (.glo li) [.ro (ns.map .int)] [] = .ok (.bl true) S
theorem isL_ints {K : PySem.W.Frag} {EE : Ek} {ca mu : List Addr} {H : Hp} : ∀ ns : List Int, IsL K EE ca mu H (ns.map V.int) (ns.map D.int)
  | [] => .nil
  | n :: ns => .cons (.int n) (isL_ints ns)
theorem Lw.law {L : Lw} {P : Program} {l : PySem.W.OpenLaw} (hP : l.prog = P) {w : World} {K : PySem.W.Frag} {h : Heap} {mg : Str → Option Value} {fa : Addr} {k li n : Nat} {e : Fe} {x : Str} (hc : L.chk = true) (ft : L.Fits) (X : K.In h) (G : h.Ns mainGlobals mg) (c : L.Says w h K) (hl : L.fns.lookup li = some e) (hp : e.d.N.take e.d.nps = [x]) (hfa : mg e.d.name = some (.ref fa)) (good : L.Good k li n) :
    LamX.LawAtS l w K (CXe P) k n x mg fa h := by
  subst hP
  obtain ⟨fd, F⟩ := c.def_ hl
  have e1 : fa = He.ga K e.d.name := by
    have := hfa.symm.trans (c.glo X G hl)
    cases this
    rfl
  subst e1
  obtain ⟨h1, _⟩ := ba (List.all_eq_true.mp hc _ (lookup_in hl))
  obtain ⟨h1, _⟩ := ba h1
  obtain ⟨h0, h2⟩ := ba h1
  have hN : e.d.nps ≤ e.d.N.length := of_decide_eq_true h0
  have hpl : e.d.nps = 1 := by
    have := congrArg List.length hp
    rw [List.length_take] at this
    simp at this
    omega
  refine ⟨fd, L.lams.map (He.cT K), SpF K (L.G K k) li e.d.nps, fun p hp => ?_, fun p hp => ?_, fun p hp => ?_, fun s u => ?_, fun H a ns hn hb hT hS => ⟨by rw [hpl]; rfl, [], [], [.ro (ns.map .int)], [], ⟨rfl, .nil, fun _ _ _ h => by simp at h, fun _ z => (nomatch z), fun p hp => ?_, fun _ z => (nomatch z)⟩, .cons (.ro (hS.imp (fun z => ⟨z, fun q => nomatch q⟩) id) (isL_ints ns)) .nil, ?_⟩, fun base _ _ tb => ?_⟩
  · obtain ⟨q, hq, rfl⟩ := List.mem_map.mp hp
    exact c.x.empty q hq
  · obtain ⟨q, hq, rfl⟩ := List.mem_map.mp hp
    exact c.x.out q hq
  · obtain ⟨q, hq, rfl⟩ := List.mem_map.mp hp
    exact PySem.W.codeHd_of_K X (c.x.hd q hq)
  · exact FunD.bindsA (ps := [x]) F (fun kV doc pm an cdv ct us hl => by rw [hp] at h2; exact argOk_ok h2 kV doc pm an cdv ct us hl) s [u] rfl
  · obtain ⟨q, hq, rfl⟩ := List.mem_map.mp hp
    exact LamX.TabS.nil (hT _ (List.mem_map.mpr ⟨q, hq, rfl⟩))
  · obtain ⟨S, q⟩ := good ns hn hb
    show okR K (L.EE K) (L.G K k).XA (IsR K (L.EE K)) [] [] H (L.run k (.glo li) [.ro (ns.map .int)] []) _ _
    rw [q]
    intro v ca mu H' x w' i
    cases i
    rfl
  · have := FnOk.cxe ((Lw.ok (P := l.prog) (w := w) (base := base) hc ft c X G (fun p hp => tb _ (List.mem_map.mpr ⟨p, hp, rfl⟩)) k).1 li e fd hl F)
    rw [hp] at this
    exact this
end KI


set_option Elab.async false
set_option linter.all false
set_option maxRecDepth 100000
set_option maxHeartbeats 2000000
/-! The head's Hook for a law's code. -/
namespace KI
open PySem PySem.Spec PyProof.Rows L2
def Lw.hook (L : Lw) (n : Nat) : PySem.W.Hook := He.hookX n L.fa L.fn [] L.lams L.ex
def Lw.ob (L : Lw) (n : Nat) (s : PySem.W.SharedT) : He.AlX := He.obsX n L.fa L.fn [] L.lams L.ex (HandSHeadRun.getT s)
theorem Lw.ob_eq (L : Lw) (n : Nat) (s : PySem.W.SharedT) : L.ob n s = (L.hook n).obs s.abs := He.obsX_eq (HandSHeadRun.getT_eq s)
theorem Lw.walk {L : Lw} {l : PySem.W.OpenLaw} {q : Program} {loose : List Str} {XP : (Str → Option Value) → Heap → Prop} {m k li : Nat} {d : DefRec} {e : Fe} {x : Str}
    (hn : l.most = some 63) (hdf : d.params.defaults = []) (hr : Room k callerA) (hc : L.chk = true) (ft : L.Fits) (hl : L.fns.lookup li = some e) (hp : e.d.N.take e.d.nps = [x]) (hd : d.name = e.d.name) (good : L.Good k li 63) :
    PySem.W.WalkO q loose XP (fun w h => (L.hook m).says w h) l.row.toRowW d [] (fun f vs => PySem.call f vs) := by
  refine LamX.walk_ofTsE (n := 63) (k := k) (x := x) (CX := fun _ => CXe l.prog) hn (by decide) hdf hr (fun w mg fa h Y G hmg => ?_) (fun _ _ _ _ _ z => ?_)
  · obtain ⟨K, hK, c⟩ := Y
    exact ⟨K, hK, Lw.law (P := l.prog) rfl hc ft hK G ⟨c⟩ hl hp (by rw [← hd]; exact hmg) good⟩
  · obtain ⟨_, _, _, _, _, _, _, _, _, _, _, _, _, z⟩ := z
    all_goals first | exact z | skip
end KI


set_option Elab.async false
set_option linter.all false
set_option maxRecDepth 100000
set_option autoImplicit false
set_option maxHeartbeats 1000000
/-! Running the code by hand. -/
namespace KI
open PySem

section
variable {α β : Type}
@[simp] theorem bind_ok (a : α) (S : Sto) (f : α → Sto → Res β) : (Res.ok a S).bind f = f a S := rfl
@[simp] theorem bind_no (f : α → Sto → Res β) : (Res.no : Res α).bind f = .no := rfl
@[simp] theorem bind_exc (x : Xn) (S : Sto) (f : α → Sto → Res β) : (Res.exc x S : Res α).bind f = .exc x S := rfl
@[simp] theorem onD_ok (a : α) (S : Sto) (ρ : Env) (f : α → Sto → Fl) : onD (.ok a S) ρ f = f a S := rfl
@[simp] theorem then_nx (ρ : Env) (S : Sto) (f : Env → Sto → Fl) : (Fl.nx ρ S).then f = f ρ S := rfl
@[simp] theorem then_rt (d : D) (S : Sto) (f : Env → Sto → Fl) : (Fl.rt d S).then f = .rt d S := rfl
@[simp] theorem lift_some (a : α) (S : Sto) : lift (some a) S = .ok a S := rfl
@[simp] theorem shut_ok (a : α) (S : Sto) : shut (Res.ok a S) = .ok a S := rfl
end
section
variable {L : Lw} {k f : Nat} {d : Def} {ds : List D} {S S' : Sto} {v : D}
theorem run_reg (hf : L.tf f = some d) (hr : d.reg = true) (hn : ds.length = d.nps ∧ d.nps ≤ d.N.length) (hp : pureL ds = true) (hx : exss L.cons (L.run k) L.fuel d.body (ds.map some ++ List.replicate (d.N.length - d.nps) none) [] = .rt v S') (hv : v.pure = true) :
    L.run (k + 1) (.glo f) ds S = .ok v S := by
  show callN L.cons L.tf L.fuel (k + 1) (.glo f) ds S = _
  unfold callN
  rw [hf]
  simp only
  rw [if_pos hn, hr]
  simp only
  rw [if_pos hp]
  have hx : exss L.cons (callN L.cons L.tf L.fuel k) L.fuel d.body (ds.map some ++ List.replicate (d.N.length - d.nps) none) [] = .rt v S' := hx
  rw [hx]
  simp only
  rw [if_pos hv]
theorem run_regN (hf : L.tf f = some d) (hr : d.reg = true) (hn : ds.length = d.nps ∧ d.nps ≤ d.N.length) (hp : pureL ds = true) {ρ : Env} (hx : exss L.cons (L.run k) L.fuel d.body (ds.map some ++ List.replicate (d.N.length - d.nps) none) [] = .nx ρ S') :
    L.run (k + 1) (.glo f) ds S = .ok .non S := by
  show callN L.cons L.tf L.fuel (k + 1) (.glo f) ds S = _
  unfold callN
  rw [hf]
  simp only
  rw [if_pos hn, hr]
  simp only
  rw [if_pos hp]
  have hx : exss L.cons (callN L.cons L.tf L.fuel k) L.fuel d.body (ds.map some ++ List.replicate (d.N.length - d.nps) none) [] = .nx ρ S' := hx
  rw [hx]
theorem run_non (hf : L.tf f = some d) (hr : d.reg = false) (hn : ds.length = d.nps ∧ d.nps ≤ d.N.length) (hx : exss L.cons (L.run k) L.fuel d.body (ds.map some ++ List.replicate (d.N.length - d.nps) none) S = .rt v S') :
    L.run (k + 1) (.glo f) ds S = .ok v S' := by
  show callN L.cons L.tf L.fuel (k + 1) (.glo f) ds S = _
  unfold callN
  rw [hf]
  simp only
  rw [if_pos hn, hr]
  simp only
  have hx : exss L.cons (callN L.cons L.tf L.fuel k) L.fuel d.body (ds.map some ++ List.replicate (d.N.length - d.nps) none) S = .rt v S' := hx
  rw [hx]
end
section
variable {L : Lw} {k : Nat} {e : Ex} {ds : List D} {S S' : Sto} {v : D} {x : Xn} {ρ : Env}
theorem run_lam (hx : ev L.cons (L.run k) e (ds.map some) S = .ok v S') : L.run (k + 1) (.lam e) ds S = .ok v S' := hx
theorem run_regX {f : Nat} {d : Def} (hf : L.tf f = some d) (hr : d.reg = true) (hn : ds.length = d.nps ∧ d.nps ≤ d.N.length) (hp : pureL ds = true) (hx : exss L.cons (L.run k) L.fuel d.body (ds.map some ++ List.replicate (d.N.length - d.nps) none) [] = .exc x ρ S') (hv : pureL (x.fs.map (·.2)) = true) :
    L.run (k + 1) (.glo f) ds S = .exc x S := by
  show callN L.cons L.tf L.fuel (k + 1) (.glo f) ds S = _
  unfold callN
  rw [hf]
  simp only
  rw [if_pos hn, hr]
  simp only
  rw [if_pos hp]
  have hx : exss L.cons (callN L.cons L.tf L.fuel k) L.fuel d.body (ds.map some ++ List.replicate (d.N.length - d.nps) none) [] = .exc x ρ S' := hx
  rw [hx]
  simp only
  rw [if_pos hv]
end
/-- a comprehension whose turns keep the store -/
theorem evLc_map {turn : D → Sto → Res (Option D)} {S : Sto} {f : D → Option D} : ∀ {xs acc : List D}, (∀ x ∈ xs, turn x S = .ok (f x) S) → acc.length + xs.length < LN → evLc turn xs acc S = .ok (acc ++ xs.filterMap f) S
  | [], acc, _, _ => by simp [evLc]
  | x :: xs, acc, h, hl => by
    unfold evLc
    rw [h x List.mem_cons_self]
    rw [List.length_cons] at hl
    cases q : f x with
    | none =>
      show evLc turn xs acc S = _
      rw [evLc_map (fun y hy => h y (List.mem_cons_of_mem _ hy)) (by omega)]
      simp [List.filterMap_cons, q]
    | some d =>
      show (if acc.length < LN then evLc turn xs (acc ++ [d]) S else .no) = _
      rw [if_pos (by omega), evLc_map (fun y hy => h y (List.mem_cons_of_mem _ hy)) (by rw [List.length_append]; show acc.length + 1 + xs.length < LN; omega)]
      simp [List.filterMap_cons, q]
/-- a for, by what stays true -/
theorem evFor_inv {tg : Tg} {body : Env → Sto → Fl} (P : Env → Sto → Prop) : ∀ {xs : List D} {ρ : Env} {S : Sto}, (∀ x ∈ xs, ∀ ρ S, P ρ S → ∃ ρ', bindT tg x ρ = some ρ' ∧ ∃ ρ2 S2, body ρ' S = .nx ρ2 S2 ∧ P ρ2 S2) → P ρ S → ∃ ρ2 S2, evFor tg body xs ρ S = .nx ρ2 S2 ∧ P ρ2 S2
  | [], ρ, S, _, h => ⟨ρ, S, rfl, h⟩
  | x :: xs, ρ, S, hs, h => by
    obtain ⟨ρ', e1, ρ2, S2, e2, h2⟩ := hs x List.mem_cons_self ρ S h
    obtain ⟨ρ3, S3, e3, h3⟩ := evFor_inv P (xs := xs) (fun y hy => hs y (List.mem_cons_of_mem _ hy)) h2
    refine ⟨ρ3, S3, ?_, h3⟩
    unfold evFor
    rw [e1]
    show (body ρ' S).then _ = _
    rw [e2]
    exact e3
/-- the same with the number of the turn -/
theorem evFor_ix {tg : Tg} {body : Env → Sto → Fl} {xs : List D} (P : Nat → Env → Sto → Prop) (hs : ∀ i x, xs[i]? = some x → ∀ ρ S, P i ρ S → ∃ ρ', bindT tg x ρ = some ρ' ∧ ∃ ρ2 S2, body ρ' S = .nx ρ2 S2 ∧ P (i + 1) ρ2 S2) {ρ : Env} {S : Sto} (h : P 0 ρ S) :
    ∃ ρ2 S2, evFor tg body xs ρ S = .nx ρ2 S2 ∧ P xs.length ρ2 S2 := by
  induction xs generalizing P ρ S with
  | nil => exact ⟨ρ, S, rfl, h⟩
  | cons x xs ih =>
    obtain ⟨ρ', e1, ρ2, S2, e2, h2⟩ := hs 0 x rfl ρ S h
    obtain ⟨ρ3, S3, e3, h3⟩ := ih (fun i => P (i + 1)) (fun i y hy => hs (i + 1) y (by simpa using hy)) h2
    refine ⟨ρ3, S3, ?_, h3⟩
    unfold evFor
    rw [e1]
    show (body ρ' S).then _ = _
    rw [e2]
    exact e3

/-! ### operators on given forms -/
section
variable (i j : Int) (b c : Bool) (s t : Str) (x y : D) (xs ys : List D) (S : Sto)
@[simp] theorem b_add : binD .add (.int i) (.int j) = some (.int (i + j)) := rfl
@[simp] theorem b_addb : binD .add (.bl b) (.int j) = some (.int ((if b = true then (1 : Int) else 0) + j)) := rfl
@[simp] theorem b_sub : binD .sub (.int i) (.int j) = some (.int (i - j)) := rfl
@[simp] theorem b_mul : binD .mul (.int i) (.int j) = if mulOk i j then some (.int (i * j)) else none := rfl
@[simp] theorem b_fdiv : binD .fdiv (.int i) (.int j) = if j ≠ 0 ∧ j.natAbs < 1073741824 then some (.int (i.fdiv j)) else none := rfl
@[simp] theorem b_mod : binD .mod (.int i) (.int j) = if j ≠ 0 then some (.int (i.fmod j)) else none := rfl
@[simp] theorem b_pow : binD .pow (.int i) (.int j) = if 0 ≤ j ∧ j ≤ 1000000 ∧ i.natAbs < 2 ^ 64 then some (.int (i ^ j.toNat)) else none := rfl
@[simp] theorem b_adds : binD .add (.str s) (.str t) = if s.length + t.length ≤ LN then some (.str (s ++ t)) else none := rfl
@[simp] theorem b_addt : binD .add (.tup xs) (.tup ys) = if xs.length + ys.length ≤ LN then some (.tup (xs ++ ys)) else none := rfl
@[simp] theorem b_addl : binD .add (.lst xs) (.lst ys) = if xs.length + ys.length ≤ LN then some (.lst (xs ++ ys)) else none := rfl
@[simp] theorem b_mult : binD .mul (.tup xs) (.int j) = if xs.length ≠ 0 ∧ 2 ≤ j ∧ j ≤ 1000 ∧ xs.length ≤ 1000 then some (.tup (rep j xs)) else none := rfl
@[simp] theorem b_mull : binD .mul (.lst xs) (.int j) = if -(2 ^ 63) ≤ j ∧ j < 2 ^ 63 ∧ xs.length * j.toNat ≤ LN then some (.lst (rep j xs)) else none := rfl
@[simp] theorem c_eq : cmpD .eq x y = if shp 64 x && shp 64 y then some (eqD x y) else none := rfl
@[simp] theorem c_ne : cmpD .ne x y = if shp 64 x && shp 64 y then some (!eqD x y) else none := rfl
@[simp] theorem c_lt : cmpD .lt (.int i) (.int j) = some (decide (i < j)) := rfl
@[simp] theorem c_le : cmpD .le (.int i) (.int j) = some (decide (i ≤ j)) := rfl
@[simp] theorem c_gt : cmpD .gt (.int i) (.int j) = some (decide (j < i)) := rfl
@[simp] theorem c_ge : cmpD .ge (.int i) (.int j) = some (decide (j ≤ i)) := rfl
@[simp] theorem c_isN : cmpD .isN x .non = some (isNon x) := rfl
@[simp] theorem c_notN : cmpD .notN x .non = some (!isNon x) := rfl
@[simp] theorem c_int : cmpD .in_ x (.tup xs) = if shp 64 x && shpL 63 xs then some (xs.any fun y => eqD y x) else none := rfl
@[simp] theorem c_inl : cmpD .in_ x (.lst xs) = if shp 64 x && shpL 63 xs then some (xs.any fun y => eqD y x) else none := rfl
@[simp] theorem c_nint : cmpD .nin x (.tup xs) = if shp 64 x && shpL 63 xs then some (!xs.any fun y => eqD y x) else none := rfl
@[simp] theorem c_ninl : cmpD .nin x (.lst xs) = if shp 64 x && shpL 63 xs then some (!xs.any fun y => eqD y x) else none := rfl
@[simp] theorem n_non : isNon .non = true := rfl
@[simp] theorem n_int : isNon (.int i) = false := rfl
@[simp] theorem n_tup : isNon (.tup xs) = false := rfl
@[simp] theorem n_str : isNon (.str s) = false := rfl
@[simp] theorem n_lst : isNon (.lst xs) = false := rfl
@[simp] theorem n_bl : isNon (.bl b) = false := rfl
@[simp] theorem t_ii : isTy .int (.int i) = some true := rfl
@[simp] theorem t_ib : isTy .int (.bl b) = some true := rfl
@[simp] theorem t_in : isTy .int .non = some false := rfl
@[simp] theorem t_is : isTy .int (.str s) = some false := rfl
@[simp] theorem t_it : isTy .int (.tup xs) = some false := rfl
@[simp] theorem t_il : isTy .int (.lst xs) = some false := rfl
@[simp] theorem t_bi : isTy .bool (.int i) = some false := rfl
@[simp] theorem t_bb : isTy .bool (.bl b) = some true := rfl
@[simp] theorem t_bn : isTy .bool .non = some false := rfl
@[simp] theorem t_bs : isTy .bool (.str s) = some false := rfl
@[simp] theorem t_bt : isTy .bool (.tup xs) = some false := rfl
@[simp] theorem t_bls : isTy .bool (.lst xs) = some false := rfl
@[simp] theorem t_si : isTy .str (.int i) = some false := rfl
@[simp] theorem t_sb : isTy .str (.bl b) = some false := rfl
@[simp] theorem t_sn : isTy .str .non = some false := rfl
@[simp] theorem t_ss : isTy .str (.str s) = some true := rfl
@[simp] theorem t_st : isTy .str (.tup xs) = some false := rfl
@[simp] theorem t_sl : isTy .str (.lst xs) = some false := rfl
@[simp] theorem t_ti : isTy .tuple (.int i) = some false := rfl
@[simp] theorem t_tb : isTy .tuple (.bl b) = some false := rfl
@[simp] theorem t_tn : isTy .tuple .non = some false := rfl
@[simp] theorem t_ts : isTy .tuple (.str s) = some false := rfl
@[simp] theorem t_tt : isTy .tuple (.tup xs) = some true := rfl
@[simp] theorem t_tl : isTy .tuple (.lst xs) = some false := rfl
@[simp] theorem t_li : isTy .list (.int i) = some false := rfl
@[simp] theorem t_lb : isTy .list (.bl b) = some false := rfl
@[simp] theorem t_ln : isTy .list .non = some false := rfl
@[simp] theorem t_ls : isTy .list (.str s) = some false := rfl
@[simp] theorem t_lt : isTy .list (.tup xs) = some false := rfl
@[simp] theorem t_ll : isTy .list (.lst xs) = some true := rfl
@[simp] theorem i_tup : idxD S (.tup xs) (.int i) = L2.atI xs i := rfl
@[simp] theorem i_lst : idxD S (.lst xs) (.int i) = L2.atI xs i := rfl
@[simp] theorem i_ro : idxD S (.ro xs) (.int i) = L2.atI xs i := rfl
@[simp] theorem i_cell (n : Nat) : idxD S (.cell n) (.int i) = match S[n]? with
    | some (.lst xs) => L2.atI xs i
    | some (.dct kvs) => dicGet kvs (.inl i)
    | _ => none := by
  show (match S[n]? with
    | some (.lst xs) => L2.atI xs i
    | some (.dct kvs) => (keyOf (.int i)).bind fun k => dicGet kvs k
    | _ => none) = _
  split <;> first | rfl | (rename_i q; rw [q])
@[simp] theorem ix20 : L2.ixN 2 0 = some 0 := rfl
@[simp] theorem ix21 : L2.ixN 2 1 = some 1 := rfl
@[simp] theorem bi_lent : biD S .len [.tup xs] = some (.int xs.length) := rfl
@[simp] theorem bi_lenl : biD S .len [.lst xs] = some (.int xs.length) := rfl
@[simp] theorem bi_lenr : biD S .len [.ro xs] = some (.int xs.length) := rfl
@[simp] theorem bi_abs : biD S .abs [.int i] = some (.int (if i < 0 then -i else i)) := rfl
@[simp] theorem bi_int : biD S .int [.int i] = some (.int i) := rfl
@[simp] theorem bi_min2 : biD S .min2 [.int i, .int j] = some (.int (if j < i then j else i)) := rfl
@[simp] theorem bi_max2 : biD S .max2 [.int i, .int j] = some (.int (if j > i then j else i)) := rfl
@[simp] theorem bi_all : biD S .all [.lst xs] = (boolsD xs).map fun bs => .bl (bs.all id) := rfl
@[simp] theorem bi_any : biD S .any [.lst xs] = (boolsD xs).map fun bs => .bl (bs.any id) := rfl
@[simp] theorem bi_sum : biD S .sum [.lst xs] = (intsD xs).map fun ns => .int ns.sum := rfl
@[simp] theorem bi_listl : biD S .list [.lst xs] = some (.lst xs) := rfl
@[simp] theorem bi_listt : biD S .list [.tup xs] = some (.lst xs) := rfl
@[simp] theorem bi_tupl : biD S .tuple [.lst xs] = some (.tup xs) := rfl
@[simp] theorem bi_tupt : biD S .tuple [.tup xs] = some (.tup xs) := rfl
@[simp] theorem cut_t (lo hi : Option Int) : cutD (.tup xs) lo hi = some (.tup (cut xs lo hi)) := rfl
@[simp] theorem cut_l (lo hi : Option Int) : cutD (.lst xs) lo hi = some (.lst (cut xs lo hi)) := rfl
end
theorem atI_nat (xs : List D) (n : Nat) : L2.atI xs (n : Int) = xs[n]? := by
  unfold L2.atI L2.ixN
  by_cases h : n < xs.length
  · simp [h]
  · have h2 : ¬ ((n : Int) < (xs.length : Int)) := by omega
    rw [List.getElem?_eq_none (by omega), if_pos (by omega), if_neg h2]
    rfl
@[simp] theorem atI_0 (xs : List D) : L2.atI xs 0 = xs[0]? := atI_nat xs 0
@[simp] theorem atI_1 (xs : List D) : L2.atI xs 1 = xs[1]? := atI_nat xs 1
@[simp] theorem atI_2 (xs : List D) : L2.atI xs 2 = xs[2]? := atI_nat xs 2
@[simp] theorem atI_3 (xs : List D) : L2.atI xs 3 = xs[3]? := atI_nat xs 3
@[simp] theorem atI_4 (xs : List D) : L2.atI xs 4 = xs[4]? := atI_nat xs 4
section
variable (cons : Nat → D) (call : Call) (ρ : Env) (S : Sto)
@[simp] theorem ev_var (i : Nat) : ev cons call (.var i) ρ S = match ρ[i]? with
      | some (some d) => .ok d S
      | _ => .no := rfl
@[simp] theorem ev_con (c : Nat) : ev cons call (.con c) ρ S = .ok (cons c) S := rfl
@[simp] theorem ev_int (i : Int) : ev cons call (.int i) ρ S = .ok (.int i) S := rfl
@[simp] theorem ev_bl (b : Bool) : ev cons call (.bl b) ρ S = .ok (.bl b) S := rfl
@[simp] theorem ev_non  : ev cons call (.non) ρ S = .ok .non S := rfl
@[simp] theorem ev_str (s : Str) : ev cons call (.str s) ρ S = .ok (.str s) S := rfl
@[simp] theorem ev_tup (es : Exs) : ev cons call (.tup es) ρ S = (evs cons call es ρ S).bind fun ds S => if ds.length ≤ LN then .ok (.tup ds) S else .no := rfl
@[simp] theorem ev_lst (es : Exs) : ev cons call (.lst es) ρ S = (evs cons call es ρ S).bind fun ds S => if ds.length ≤ LN then .ok (.lst ds) S else .no := rfl
@[simp] theorem ev_dct (ks : List Str) (es : Exs) : ev cons call (.dct ks es) ρ S = (evs cons call es ρ S).bind fun ds S => if ds.length = ks.length ∧ ks.length ≤ 15 ∧ ks.length ≠ 0 then .ok (.dic (mergeD [] ((ks.map Sum.inr).zip ds))) S else .no := rfl
@[simp] theorem ev_newc (e : Ex) : ev cons call (.newc e) ρ S = (ev cons call e ρ S).bind fun d S => match d with
      | .lst xs => .ok (.cell S.length) (S ++ [.lst xs])
      | .dic kvs => .ok (.cell S.length) (S ++ [.dct kvs])
      | _ => .no := rfl
@[simp] theorem ev_bin (o : Bop) (a : Ex) (b : Ex) : ev cons call (.bin o a b) ρ S = (ev cons call a ρ S).bind fun x S => (ev cons call b ρ S).bind fun y S => lift (binD o x y) S := rfl
@[simp] theorem ev_neg (a : Ex) : ev cons call (.neg a) ρ S = (ev cons call a ρ S).bind fun x S => match x with
      | .int i => .ok (.int (-i)) S
      | _ => .no := rfl
@[simp] theorem ev_cmp (o : Cop) (a : Ex) (b : Ex) : ev cons call (.cmp o a b) ρ S = (ev cons call a ρ S).bind fun x S => (ev cons call b ρ S).bind fun y S => lift ((cmpD o x y).map .bl) S := rfl
@[simp] theorem ev_chn (o : Cop) (p : Cop) (a : Ex) (b : Ex) (c : Ex) : ev cons call (.chn o p a b c) ρ S = (ev cons call a ρ S).bind fun x S => (ev cons call b ρ S).bind fun y S => match cmpD o x y with
      | some true => (ev cons call c ρ S).bind fun z S => lift ((cmpD p y z).map .bl) S
      | some false => .ok (.bl false) S
      | none => .no := rfl
@[simp] theorem ev_and (a : Ex) (b : Ex) : ev cons call (.and a b) ρ S = (ev cons call a ρ S).bind fun x S => match x with
      | .bl true => ev cons call b ρ S
      | .bl false => .ok (.bl false) S
      | _ => .no := rfl
@[simp] theorem ev_or (a : Ex) (b : Ex) : ev cons call (.or a b) ρ S = (ev cons call a ρ S).bind fun x S => match x with
      | .bl false => ev cons call b ρ S
      | .bl true => .ok (.bl true) S
      | _ => .no := rfl
@[simp] theorem ev_not (a : Ex) : ev cons call (.not a) ρ S = (ev cons call a ρ S).bind fun x S => match x with
      | .bl b => .ok (.bl (!b)) S
      | _ => .no := rfl
@[simp] theorem ev_ite (c : Ex) (a : Ex) (b : Ex) : ev cons call (.ite c a b) ρ S = (ev cons call c ρ S).bind fun x S => match x with
      | .bl true => ev cons call a ρ S
      | .bl false => ev cons call b ρ S
      | _ => .no := rfl
@[simp] theorem ev_idx (a : Ex) (i : Ex) : ev cons call (.idx a i) ρ S = (ev cons call a ρ S).bind fun x S => (ev cons call i ρ S).bind fun y S => lift (idxD S x y) S := rfl
@[simp] theorem ev_sli (a : Ex) (lo : Oe) (hi : Oe) : ev cons call (.sli a lo hi) ρ S = (ev cons call a ρ S).bind fun x S => (evo cons call lo ρ S).bind fun l S => (evo cons call hi ρ S).bind fun u S => lift (cutD x l u) S := rfl
@[simp] theorem ev_call (f : Nat) (es : Exs) : ev cons call (.call f es) ρ S = (evs cons call es ρ S).bind fun ds S => call (.glo f) ds S := rfl
@[simp] theorem ev_call0 (f : Nat) : ev cons call (.call0 f) ρ S = shut (call (.glo f) [] S) := rfl
@[simp] theorem ev_rngl (a b : Ex) : ev cons call (.rngl a b) ρ S = (ev cons call a ρ S).bind fun x S => (ev cons call b ρ S).bind fun y S => match x, y with
      | .int i, .int j => if rngOk i && rngOk j && decide ((j - i).toNat ≤ LN) then .ok (.lst (rngL i (j - i).toNat)) S else .no
      | _, _ => .no := rfl
@[simp] theorem ev_bi (b : Bi) (es : Exs) : ev cons call (.bi b es) ρ S = (evs cons call es ρ S).bind fun ds S => lift (biD S b ds) S := rfl
@[simp] theorem ev_isi (a : Ex) (t : Ty) : ev cons call (.isi a t) ρ S = (ev cons call a ρ S).bind fun x S => lift ((isTy t x).map .bl) S := rfl
@[simp] theorem ev_mth (m : Mt) (o : Ex) (es : Exs) : ev cons call (.mth m o es) ρ S = (ev cons call o ρ S).bind fun x S => if mtOk m x = true then (evs cons call es ρ S).bind fun ds S => lift (mtD S m x ds) S else .no := rfl
@[simp] theorem ev_fnv (i : Nat) : ev cons call (.fnv i) ρ S = .ok (.fn i) S := rfl
@[simp] theorem ev_callv (i : Nat) (es : Exs) : ev cons call (.callv i es) ρ S = match ρ[i]? with
      | some (some d) => if isFn d = true then (evs cons call es ρ S).bind fun ds S => app call d ds S else .no
      | _ => .no := rfl
@[simp] theorem ev_callL (f : Nat) (es : Exs) (np : Nat) (js : List Nat) (e : Ex) : ev cons call (.callL f es np js e) ρ S = (evs cons call es ρ S).bind fun ds S => match grab ρ js with
      | some cs => kept (call (.glo f) (ds ++ [.clo np e cs]) S)
      | none => .no := rfl
end

theorem shp_lit (k : Nat) (s : Str) (h : s.cps.all (· < 0x110000) = true) : shp k (.str s) = true := by cases k <;> exact h
section
variable (k : Nat) (i j : Int) (b c : Bool) (x y : D) (xs ys : List D) (s : Str)
@[simp] theorem shp_int : shp k (.int i) = true := by cases k <;> rfl
@[simp] theorem shp_bl : shp k (.bl b) = true := by cases k <;> rfl
@[simp] theorem shp_non : shp k .non = true := by cases k <;> rfl
@[simp] theorem shpL_nil : shpL k [] = true := by cases k <;> rfl
@[simp] theorem shpL_cons : shpL k (x :: xs) = (shp k x && shpL k xs) := by cases k <;> rfl
@[simp] theorem shp64_tup : shp 64 (.tup xs) = shpL 63 xs := rfl
@[simp] theorem shp64_lst : shp 64 (.lst xs) = shpL 63 xs := rfl
@[simp] theorem shp63_tup : shp 63 (.tup xs) = shpL 62 xs := rfl
@[simp] theorem shp63_lst : shp 63 (.lst xs) = shpL 62 xs := rfl
@[simp] theorem shp62_tup : shp 62 (.tup xs) = shpL 61 xs := rfl
@[simp] theorem eqD_ii : eqD (.int i) (.int j) = (i == j) := rfl
@[simp] theorem eqD_bb : eqD (.bl b) (.bl c) = (b == c) := rfl
@[simp] theorem eqD_nn : eqD .non .non = true := rfl
@[simp] theorem eqD_tt : eqD (.tup xs) (.tup ys) = eqL xs ys := rfl
@[simp] theorem eqD_ll : eqD (.lst xs) (.lst ys) = eqL xs ys := rfl
@[simp] theorem eqD_is : eqD (.int i) (.str s) = false := rfl
@[simp] theorem eqD_si : eqD (.str s) (.int i) = false := rfl
@[simp] theorem eqD_ni : eqD .non (.int i) = false := rfl
@[simp] theorem eqD_in : eqD (.int i) .non = false := rfl
@[simp] theorem eqD_ns : eqD .non (.str s) = false := rfl
@[simp] theorem eqD_sn : eqD (.str s) .non = false := rfl
@[simp] theorem eqD_nt : eqD .non (.tup xs) = false := rfl
@[simp] theorem eqD_tn : eqD (.tup xs) .non = false := rfl
@[simp] theorem eqD_ti : eqD (.tup xs) (.int i) = false := rfl
@[simp] theorem eqD_it : eqD (.int i) (.tup xs) = false := rfl
@[simp] theorem eqL_nn : eqL [] [] = true := rfl
@[simp] theorem eqL_nc : eqL [] (x :: xs) = false := rfl
@[simp] theorem eqL_cn : eqL (x :: xs) [] = false := rfl
@[simp] theorem eqL_cc : eqL (x :: xs) (y :: ys) = (eqD x y && eqL xs ys) := rfl
@[simp] theorem shp_park : shp k (.str "park") = true := shp_lit k _ (by decide +kernel)
@[simp] theorem shp_leave : shp k (.str "leave") = true := shp_lit k _ (by decide +kernel)
@[simp] theorem shp_pull : shp k (.str "pull") = true := shp_lit k _ (by decide +kernel)
@[simp] theorem shp_drop : shp k (.str "drop") = true := shp_lit k _ (by decide +kernel)
@[simp] theorem shp_front : shp k (.str "front") = true := shp_lit k _ (by decide +kernel)
@[simp] theorem shp_back : shp k (.str "back") = true := shp_lit k _ (by decide +kernel)
@[simp] theorem shp_tight : shp k (.str "tight") = true := shp_lit k _ (by decide +kernel)
@[simp] theorem shp_wide : shp k (.str "wide") = true := shp_lit k _ (by decide +kernel)
@[simp] theorem shp_near : shp k (.str "near") = true := shp_lit k _ (by decide +kernel)
@[simp] theorem shp_empty : shp k (.str "") = true := shp_lit k _ (by decide +kernel)
end
theorem lc_map {cons : Nat → D} {call : Call} {own : List Nat} {tg : Tg} {it : It} {c : Oe} {e : Ex} {ρ : Env} {S : Sto} {xs : List D} (f : D → Option D) (hi : evi cons call it ρ S = .ok xs S)
    (ht : ∀ x ∈ xs, (match bindT tg x (wipeE ρ own) with
      | some ρ' => (evc cons call c ρ' S).bind fun b S => bif b then (ev cons call e ρ' S).bind fun d S => .ok (some d) S else .ok none S
      | none => .no) = .ok (f x) S) (hl : xs.length < LN) : ev cons call (.lc own tg it c e) ρ S = .ok (.lst (xs.filterMap f)) S := by
  show (evi cons call it ρ S).bind _ = _
  rw [hi]
  show (evLc _ xs [] S).bind _ = _
  rw [evLc_map (f := f) ht (by simpa using hl)]
  rfl
theorem boolsD_map {α : Type} (f : α → Bool) : ∀ xs : List α, boolsD (xs.map fun x => .bl (f x)) = some (xs.map f)
  | [] => rfl
  | x :: xs => by simp [boolsD, boolsD_map f xs]
theorem intsD_map : ∀ xs : List Int, intsD (xs.map D.int) = some xs
  | [] => rfl
  | x :: xs => by simp [intsD, intsD_map xs]
section
variable (cons : Nat → D) (call : Call) (fuel : Nat) (ρ : Env) (S : Sto)
@[simp] theorem exs_set (i : Nat) (e : Ex) : exs cons call fuel (.set i e) ρ S = onD (ev cons call e ρ S) ρ fun d S => .nx (ρ.set i (some d)) S := rfl
@[simp] theorem exs_unp (tg : Tg) (e : Ex) : exs cons call fuel (.unp tg e) ρ S = onD (ev cons call e ρ S) ρ fun d S => match bindT tg d ρ with
      | some ρ' => .nx ρ' S
      | none => .no := rfl
@[simp] theorem exs_par (i : Nat) (j : Nat) (es : Exs) : exs cons call fuel (.par i j es) ρ S = onD (evs cons call es ρ S) ρ fun ds S => match ds with
      | [x, y] => .nx ((ρ.set i (some x)).set j (some y)) S
      | _ => .no := rfl
@[simp] theorem exs_par3 (i : Nat) (j : Nat) (l : Nat) (es : Exs) : exs cons call fuel (.par3 i j l es) ρ S = onD (evs cons call es ρ S) ρ fun ds S => match ds with
      | [x, y, z] => .nx (((ρ.set i (some x)).set j (some y)).set l (some z)) S
      | _ => .no := rfl
@[simp] theorem exs_put (o : Ex) (i : Ex) (e : Ex) : exs cons call fuel (.put o i e) ρ S = onD (ev cons call e ρ S) ρ fun v S => onD (ev cons call o ρ S) ρ fun o S => onD (ev cons call i ρ S) ρ fun i S => match o, i with
      | .cell n, .int k => match S[n]? with
        | some (.lst xs) => match L2.ixN xs.length k with
          | some j => .nx ρ (S.set n (.lst (xs.set j v)))
          | none => .no
        | _ => .no
      | _, _ => .no := rfl
@[simp] theorem exs_dput (o : Ex) (i : Ex) (e : Ex) : exs cons call fuel (.dput o i e) ρ S = onD (ev cons call e ρ S) ρ fun v S => onD (ev cons call o ρ S) ρ fun o S => onD (ev cons call i ρ S) ρ fun i S => match o, keyOf i with
      | .cell n, some k => match S[n]? with
        | some (.dct kvs) => if kvs.length < 1000 then .nx ρ (S.set n (.dct (dicPut kvs k v))) else .no
        | _ => .no
      | _, _ => .no := rfl
@[simp] theorem exs_app (i : Nat) (e : Ex) : exs cons call fuel (.app i e) ρ S = match ρ[i]? with
      | some (some (.cell n)) => match S[n]? with
        | some (.lst _) => onD (ev cons call e ρ S) ρ fun d S => match S[n]? with
          | some (.lst xs) => if xs.length < LN then .nx ρ (S.set n (.lst (xs ++ [d]))) else .no
          | _ => .no
        | _ => .no
      | _ => .no := rfl
@[simp] theorem exs_frz (i : Nat) : exs cons call fuel (.frz i) ρ S = match ρ[i]? with
      | some (some (.cell n)) => match S[n]? with
        | some (.lst xs) => .nx (ρ.set i (some (.lst xs))) (S.set n .dead)
        | _ => .no
      | _ => .no := rfl
@[simp] theorem exs_ret (e : Ex) : exs cons call fuel (.ret e) ρ S = onD (ev cons call e ρ S) ρ fun d S => .rt d S := rfl
@[simp] theorem exs_ifs (c : Ex) (a : Sxs) (b : Sxs) : exs cons call fuel (.ifs c a b) ρ S = onD (ev cons call c ρ S) ρ fun d S => match d with
      | .bl true => exss cons call fuel a ρ S
      | .bl false => exss cons call fuel b ρ S
      | _ => .no := rfl
@[simp] theorem exs_for_ (tg : Tg) (it : It) (b : Sxs) : exs cons call fuel (.for_ tg it b) ρ S = onD (evi cons call it ρ S) ρ fun xs S => evFor tg (exss cons call fuel b) xs ρ S := rfl
@[simp] theorem exs_whl (c : Ex) (b : Sxs) : exs cons call fuel (.whl c b) ρ S = evWhl (ev cons call c) (exss cons call fuel b) fuel ρ S := rfl
@[simp] theorem exs_exp (e : Ex) : exs cons call fuel (.exp e) ρ S = onD (ev cons call e ρ S) ρ fun _ S => .nx ρ S := rfl
@[simp] theorem exs_rai (c : Nat) : exs cons call fuel (.rai c) ρ S = .exc ⟨c, []⟩ ρ S := rfl
@[simp] theorem exs_raiF (c : Nat) (f : Str) (e : Ex) : exs cons call fuel (.raiF c f e) ρ S = onD (ev cons call e ρ S) ρ fun d S => .exc ⟨c, [(f, d)]⟩ ρ S := rfl
@[simp] theorem exs_try_ (b : Sxs) (hs : List Hd) : exs cons call fuel (.try_ b hs) ρ S = match exss cons call fuel b ρ S with
      | .exc x ρ' S' => hdls hs x ρ' S'
      | r => r := rfl
@[simp] theorem exs_nev  : exs cons call fuel (.nev) ρ S = .no := rfl
@[simp] theorem exss_nil : exss cons call fuel .nil ρ S = .nx ρ S := rfl
@[simp] theorem exss_cons (s : Sx) (ss : Sxs) : exss cons call fuel (.cons s ss) ρ S = (exs cons call fuel s ρ S).then fun ρ S => exss cons call fuel ss ρ S := rfl
end
end KI


set_option Elab.async false
set_option linter.all false
set_option maxRecDepth 100000
set_option autoImplicit false
/-! The defs that laws share, by fixed numbers. -/
namespace KI
open PySem
abbrev f_is_number : Nat := 0
abbrev f_is_tuple : Nat := 1
abbrev f_is_word : Nat := 2
abbrev f_is_deed_of : Nat := 3
abbrev f_are_lengths : Nat := 4
abbrev f_is_good_plan : Nat := 5
abbrev f_need_plan : Nat := 6
abbrev f_is_plan : Nat := 7
abbrev f_is_deed : Nat := 8
abbrev f__law_source : Nat := 9
abbrev f__law_draw : Nat := 10
abbrev f__law_of : Nat := 11
abbrev f__law_rule : Nat := 12
abbrev f__law_deed : Nat := 13
abbrev f__law_plan : Nat := 14
abbrev f_need_n : Nat := 15
abbrev f_added : Nat := 16
abbrev f_less : Nat := 17
abbrev f_worth : Nat := 18
abbrev f_sign_of : Nat := 19
abbrev f_begun : Nat := 20
abbrev f_asks : Nat := 21
abbrev f_all_gaps : Nat := 22
abbrev f_is_fit : Nat := 23
abbrev f_better : Nat := 24
abbrev f_choice : Nat := 25
abbrev f_place_in : Nat := 26
abbrev f_parked : Nat := 27
abbrev f_spot_of : Nat := 28
abbrev f_shifted : Nat := 29
abbrev f_do : Nat := 30
abbrev f_last_of : Nat := 31
abbrev f_place_form : Nat := 32
abbrev f_gap_forms : Nat := 33
abbrev f_places_of : Nat := 34
abbrev f_cars_of : Nat := 35
abbrev f_done : Nat := 36
abbrev f_places : Nat := 37
abbrev f_gaps : Nat := 38
abbrev f_row : Nat := 39
abbrev f__law_n : Nat := 40
abbrev f__law_value : Nat := 41
abbrev f__law_less : Nat := 42
abbrev f__law_spaces : Nat := 43
abbrev f__law_chosen : Nat := 44
abbrev f__law_step : Nat := 45
abbrev f__law_run : Nat := 46
abbrev f__law_forms : Nat := 47
abbrev f__law_places : Nat := 48
abbrev f__law_gaps : Nat := 49
abbrev f__law_known : Nat := 50
abbrev f_need_car : Nat := 51
abbrev f_same_to : Nat := 52
abbrev f_until : Nat := 53
abbrev f_joined : Nat := 54
abbrev f_rows_by : Nat := 55
abbrev f_seen_last : Nat := 56
abbrev f_by_last : Nat := 57
abbrev f_need_both : Nat := 58
abbrev f_done_rows : Nat := 59
abbrev f_place_rows : Nat := 60
abbrev f_gap_rows : Nat := 61
abbrev f_row_rows : Nat := 62
abbrev f__law_spots : Nat := 63
abbrev f__law_told_at : Nat := 64
abbrev f__law_are_rows : Nat := 65
abbrev f_widest : Nat := 66
abbrev f_all_parked : Nat := 67
abbrev f_room : Nat := 68
abbrev f_room_rows : Nat := 69
abbrev f_would_fit : Nat := 70
abbrev f_sure_from : Nat := 71
abbrev f_parked_rows : Nat := 72
abbrev f_least_with : Nat := 73
abbrev f_same_places : Nat := 74
abbrev f_like_told : Nat := 75
abbrev f_parting_number : Nat := 76
abbrev f_need_two : Nat := 77
abbrev f_alike : Nat := 78
abbrev f_parting : Nat := 79
abbrev f__law_near : Nat := 80
abbrev f_without : Nat := 81
abbrev f_exchanged : Nat := 82
abbrev f_idle_deeds : Nat := 83
abbrev f_exchangeable : Nat := 84
abbrev f_only_parks : Nat := 85
abbrev f_need_parking : Nat := 86
abbrev f_all_orders : Nat := 87
abbrev f_ruled : Nat := 88
abbrev f_ordered : Nat := 89
abbrev f_best_told : Nat := 90
abbrev f_rows_of_orders : Nat := 91
abbrev f_best_rules : Nat := 92
abbrev f_best_orders : Nat := 93
abbrev f_worst_orders : Nat := 94
abbrev f__law_parkers : Nat := 95
abbrev f_is_fact : Nat := 96
abbrev f_need_seen : Nat := 97
abbrev f_fact_form : Nat := 98
abbrev f_is_so : Nat := 99
abbrev f_numbers_told : Nat := 100
abbrev f_is_seen : Nat := 101
abbrev f_lines_of : Nat := 102
abbrev f_part_in : Nat := 103
abbrev f_line_in : Nat := 104
abbrev f_plan_in : Nat := 105
abbrev f_need_index : Nat := 106
abbrev f_good_plan : Nat := 107
abbrev f_fewer : Nat := 108
abbrev f_changed : Nat := 109
abbrev f__law_as_value : Nat := 110
abbrev f_plan_text : Nat := 111
abbrev f_read_plan : Nat := 112
abbrev f__wall : Nat := 113
abbrev f_standing : Nat := 114
abbrev f_free_gaps : Nat := 115
abbrev f_best_gap : Nat := 116
abbrev f_spot_for : Nat := 117
abbrev f_with_place : Nat := 118
abbrev f_pulled : Nat := 119
abbrev f_dropped : Nat := 120
abbrev f_done_now : Nat := 121
abbrev f__law_led : Nat := 122
abbrev f__law_free : Nat := 123
abbrev f__law_shows : Nat := 124
abbrev f__law_error : Nat := 125
abbrev c_LEAST : Nat := 0
abbrev c_MOST : Nat := 1
abbrev c_RULES : Nat := 2
abbrev c_CARS : Nat := 3
abbrev c_FAR : Nat := 4
abbrev c_LIMIT : Nat := 5
def d_is_number : Def := { name := "is_number", N := ["value", "least", "most"], nps := 3, reg := true, body := (.cons (.ret (.and (.isi (.var 0) .int) (.and (.not (.isi (.var 0) .bool)) (.chn .le .le (.var 1) (.var 0) (.var 2))))) .nil) }
def d_is_tuple : Def := { name := "is_tuple", N := ["value", "least", "most"], nps := 3, reg := true, body := (.cons (.ret (.and (.isi (.var 0) .tuple) (.chn .le .le (.var 1) (.bi .len (.cons (.var 0) .nil)) (.var 2)))) .nil) }
def d_is_word : Def := { name := "is_word", N := ["value", "words"], nps := 2, reg := true, body := (.cons (.ret (.and (.isi (.var 0) .str) (.cmp .in_ (.var 0) (.var 1)))) .nil) }
def d_is_deed_of : Def := { name := "is_deed_of", N := ["cars", "value"], nps := 2, reg := true, body := (.cons (.ifs (.or (.not (.call f_is_tuple (.cons (.var 1) (.cons (.int 2) (.cons (.int 3) .nil))))) (.not (.call f_is_number (.cons (.idx (.var 1) (.int 1)) (.cons (.int 0) (.cons (.bin .sub (.var 0) (.int 1)) .nil)))))) (.cons (.ret (.bl false)) .nil) .nil) (.cons (.ifs (.cmp .eq (.bi .len (.cons (.var 1) .nil)) (.int 3)) (.cons (.ret (.and (.call f_is_word (.cons (.idx (.var 1) (.int 0)) (.cons (.tup (.cons (.str "park") .nil)) .nil))) (.call f_is_word (.cons (.idx (.var 1) (.int 2)) (.cons (.con c_RULES) .nil))))) .nil) .nil) (.cons (.ret (.call f_is_word (.cons (.idx (.var 1) (.int 0)) (.cons (.tup (.cons (.str "leave") (.cons (.str "pull") (.cons (.str "drop") .nil)))) .nil)))) .nil))) }
def l_are_lengths_0 : Ex := (.lc [1] (.nm 1) (.val (.var 0)) .none (.call f_is_number (.cons (.var 1) (.cons (.int 2) (.cons (.int 9) .nil)))))
def d_are_lengths : Def := { name := "are_lengths", N := ["value", "length"], nps := 1, reg := true, body := (.cons (.ret (.and (.call f_is_tuple (.cons (.var 0) (.cons (.int 1) (.cons (.int 5) .nil)))) (.bi .all (.cons l_are_lengths_0 .nil)))) .nil) }
def l_is_good_plan_0 : Ex := (.lc [1] (.nm 1) (.val (.idx (.var 0) (.int 1))) .none (.call f_is_deed_of (.cons (.bi .len (.cons (.idx (.var 0) (.int 0)) .nil)) (.cons (.var 1) .nil))))
def d_is_good_plan : Def := { name := "is_good_plan", N := ["value", "deed"], nps := 1, reg := true, body := (.cons (.ifs (.or (.not (.call f_is_tuple (.cons (.var 0) (.cons (.int 2) (.cons (.int 2) .nil))))) (.or (.not (.call f_are_lengths (.cons (.idx (.var 0) (.int 0)) .nil))) (.not (.call f_is_tuple (.cons (.idx (.var 0) (.int 1)) (.cons (.int 0) (.cons (.int 8) .nil))))))) (.cons (.ret (.bl false)) .nil) .nil) (.cons (.ret (.bi .all (.cons l_is_good_plan_0 .nil))) .nil)) }
def d_need_plan : Def := { name := "need_plan", N := ["value"], nps := 1, reg := true, body := (.cons (.ifs (.not (.call f_is_good_plan (.cons (.var 0) .nil))) (.cons .nev .nil) .nil) .nil) }
def d_is_plan : Def := { name := "is_plan", N := ["value"], nps := 1, reg := true, body := (.cons (.ret (.call f_is_good_plan (.cons (.var 0) .nil))) .nil) }
def d_is_deed : Def := { name := "is_deed", N := ["plan", "value"], nps := 2, reg := true, body := (.cons (.exp (.call f_need_plan (.cons (.var 0) .nil))) (.cons (.ret (.call f_is_deed_of (.cons (.bi .len (.cons (.idx (.var 0) (.int 0)) .nil)) (.cons (.var 1) .nil)))) .nil)) }
def d__law_source : Def := { name := "_law_source", N := ["script", "k", "cell"], nps := 2, reg := false, body := (.cons (.set 2 (.int 0)) (.cons (.ifs (.cmp .lt (.var 1) (.bi .len (.cons (.var 0) .nil))) (.cons (.set 2 (.bi .abs (.cons (.bi .int (.cons (.idx (.var 0) (.var 1)) .nil)) .nil))) .nil) .nil) (.cons (.ifs (.cmp .lt (.var 2) (.bin .pow (.int 10) (.int 18))) (.cons (.ret (.newc (.lst (.cons (.int 0) (.cons (.bin .add (.int 1) (.bin .mod (.bi .int (.cons (.bin .add (.bin .mul (.var 2) (.int 7919)) (.bin .mul (.int 104729) (.var 1))) .nil)) (.int 2147483646))) .nil))))) .nil) .nil) (.cons (.ret (.newc (.lst (.cons (.var 2) (.cons (.bin .add (.int 1) (.bin .mod (.bi .int (.cons (.bin .add (.var 2) (.var 1)) .nil)) (.int 2147483646))) .nil))))) .nil)))) }
def d__law_draw : Def := { name := "_law_draw", N := ["source", "many", "found"], nps := 2, reg := false, body := (.cons (.ifs (.cmp .gt (.idx (.var 0) (.int 0)) (.int 0)) (.cons (.set 2 (.bin .mod (.bi .int (.cons (.idx (.var 0) (.int 0)) .nil)) (.var 1))) (.cons (.put (.var 0) (.int 0) (.bin .fdiv (.idx (.var 0) (.int 0)) (.var 1))) (.cons (.ret (.var 2)) .nil))) .nil) (.cons (.put (.var 0) (.int 1) (.bin .mod (.bi .int (.cons (.bin .mul (.idx (.var 0) (.int 1)) (.int 48271)) .nil)) (.int 2147483647))) (.cons (.ret (.bin .mod (.bi .int (.cons (.bin .fdiv (.bin .mod (.bi .int (.cons (.bin .mul (.idx (.var 0) (.int 1)) (.idx (.var 0) (.int 1))) .nil)) (.int 2147483629)) (.int 64)) .nil)) (.var 1))) .nil))) }
def d__law_of : Def := { name := "_law_of", N := ["source", "items"], nps := 2, reg := false, body := (.cons (.ret (.idx (.var 1) (.call f__law_draw (.cons (.var 0) (.cons (.bi .len (.cons (.var 1) .nil)) .nil))))) .nil) }
def d__law_rule : Def := { name := "_law_rule", N := ["source"], nps := 1, reg := false, body := (.cons (.ret (.call f__law_of (.cons (.var 0) (.cons (.lst (.cons (.str "front") (.cons (.str "back") (.cons (.str "tight") (.cons (.str "wide") .nil))))) .nil)))) .nil) }
def d__law_deed : Def := { name := "_law_deed", N := ["source", "cars", "word"], nps := 2, reg := false, body := (.cons (.set 2 (.call f__law_of (.cons (.var 0) (.cons (.lst (.cons (.str "park") (.cons (.str "park") (.cons (.str "park") (.cons (.str "leave") (.cons (.str "leave") (.cons (.str "pull") (.cons (.str "drop") .nil)))))))) .nil)))) (.cons (.ifs (.cmp .eq (.var 2) (.str "park")) (.cons (.ret (.tup (.cons (.var 2) (.cons (.call f__law_draw (.cons (.var 0) (.cons (.var 1) .nil))) (.cons (.call f__law_rule (.cons (.var 0) .nil)) .nil))))) .nil) .nil) (.cons (.ret (.tup (.cons (.var 2) (.cons (.call f__law_draw (.cons (.var 0) (.cons (.var 1) .nil))) .nil)))) .nil))) }
def b__law_plan_0 : Sxs := (.cons (.set 3 (.bin .add (.var 3) (.tup (.cons (.bin .add (.int 2) (.call f__law_draw (.cons (.var 0) (.cons (.int 8) .nil)))) .nil)))) .nil)
def b__law_plan_1 : Sxs := (.cons (.set 5 (.call f__law_deed (.cons (.var 0) (.cons (.bi .len (.cons (.var 3) .nil)) .nil)))) (.cons (.ifs (.and (.cmp .lt (.var 2) (.bi .len (.cons (.var 3) .nil))) (.cmp .gt (.call f__law_draw (.cons (.var 0) (.cons (.int 4) .nil))) (.int 0))) (.cons (.set 5 (.tup (.cons (.str "park") (.cons (.var 2) (.cons (.call f__law_rule (.cons (.var 0) .nil)) .nil))))) .nil) .nil) (.cons (.set 4 (.bin .add (.var 4) (.tup (.cons (.var 5) .nil)))) .nil)))
def d__law_plan : Def := { name := "_law_plan", N := ["source", "most", "turn", "lengths", "deeds", "deed"], nps := 2, reg := false, body := (.cons (.unp (.tp (.cons (.nm 3) (.cons (.nm 4) .nil))) (.tup (.cons (.tup .nil) (.cons (.tup .nil) .nil)))) (.cons (.for_ (.nm 2) (.rng1 (.bin .add (.int 1) (.call f__law_draw (.cons (.var 0) (.cons (.int 5) .nil))))) b__law_plan_0) (.cons (.for_ (.nm 2) (.rng1 (.call f__law_draw (.cons (.var 0) (.cons (.bin .add (.var 1) (.int 1)) .nil)))) b__law_plan_1) (.cons (.ret (.tup (.cons (.var 3) (.cons (.var 4) .nil)))) .nil)))) }
def d_need_n : Def := { name := "need_n", N := ["value"], nps := 1, reg := true, body := (.cons (.ifs (.not (.call f_is_number (.cons (.var 0) (.cons (.con c_LEAST) (.cons (.con c_MOST) .nil))))) (.cons .nev .nil) .nil) .nil) }
def d_added : Def := { name := "added", N := ["one", "other"], nps := 2, reg := true, body := (.cons (.ret (.tup (.cons (.bin .add (.idx (.var 0) (.int 0)) (.idx (.var 1) (.int 0))) (.cons (.bin .add (.idx (.var 0) (.int 1)) (.idx (.var 1) (.int 1))) .nil)))) .nil) }
def d_less : Def := { name := "less", N := ["one", "other"], nps := 2, reg := true, body := (.cons (.ret (.tup (.cons (.bin .sub (.idx (.var 0) (.int 0)) (.idx (.var 1) (.int 0))) (.cons (.bin .sub (.idx (.var 0) (.int 1)) (.idx (.var 1) (.int 1))) .nil)))) .nil) }
def d_worth : Def := { name := "worth", N := ["form", "n"], nps := 2, reg := true, body := (.cons (.ret (.bin .add (.bin .mul (.idx (.var 0) (.int 0)) (.var 1)) (.idx (.var 0) (.int 1)))) .nil) }
def d_sign_of : Def := { name := "sign_of", N := ["form", "n", "here"], nps := 2, reg := true, body := (.cons (.set 2 (.call f_worth (.cons (.var 0) (.cons (.var 1) .nil)))) (.cons (.ret (.ite (.cmp .gt (.var 2) (.int 0)) (.int 1) (.ite (.cmp .lt (.var 2) (.int 0)) (.neg (.int 1)) (.int 0)))) .nil)) }
def d_begun : Def := { name := "begun", N := ["lengths"], nps := 1, reg := false, body := (.cons (.ret (.newc (.dct ["lengths", "row", "did", "asked"] (.cons (.var 0) (.cons (.tup .nil) (.cons (.tup .nil) (.cons (.tup .nil) .nil))))))) .nil) }
def d_asks : Def := { name := "asks", N := ["state", "form", "n"], nps := 3, reg := false, body := (.cons (.dput (.var 0) (.str "asked") (.bin .add (.idx (.var 0) (.str "asked")) (.tup (.cons (.var 1) .nil)))) (.cons (.ret (.call f_sign_of (.cons (.var 1) (.cons (.var 2) .nil)))) .nil)) }
def b_all_gaps_0 : Sxs := (.cons (.par 1 2 (.cons (.bin .add (.var 1) (.lst (.cons (.tup (.cons (.var 2) (.cons (.call f_less (.cons (.var 4) (.cons (.var 2) .nil))) .nil))) .nil))) (.cons (.call f_added (.cons (.var 4) (.cons (.tup (.cons (.int 0) (.cons (.idx (.idx (.var 0) (.str "lengths")) (.var 3)) .nil))) .nil))) .nil))) .nil)
def d_all_gaps : Def := { name := "all_gaps", N := ["state", "found", "begin", "car", "place"], nps := 1, reg := false, body := (.cons (.par 1 2 (.cons (.lst .nil) (.cons (.tup (.cons (.int 0) (.cons (.int 0) .nil))) .nil))) (.cons (.for_ (.tp (.cons (.nm 3) (.cons (.nm 4) .nil))) (.val (.idx (.var 0) (.str "row"))) b_all_gaps_0) (.cons (.ret (.bin .add (.var 1) (.lst (.cons (.tup (.cons (.var 2) (.cons (.call f_less (.cons (.tup (.cons (.int 1) (.cons (.int 0) .nil))) (.cons (.var 2) .nil))) .nil))) .nil)))) .nil))) }
def d_is_fit : Def := { name := "is_fit", N := ["state", "gap", "length", "n"], nps := 4, reg := false, body := (.cons (.ret (.cmp .ge (.call f_asks (.cons (.var 0) (.cons (.call f_added (.cons (.idx (.var 1) (.int 1)) (.cons (.tup (.cons (.int 0) (.cons (.neg (.var 2)) .nil))) .nil))) (.cons (.var 3) .nil)))) (.int 0))) .nil) }
def d_better : Def := { name := "better", N := ["state", "rule", "gap", "other", "n", "sign"], nps := 5, reg := false, body := (.cons (.ifs (.or (.cmp .eq (.var 1) (.str "front")) (.cmp .eq (.var 1) (.str "back"))) (.cons (.ret (.cmp .eq (.var 1) (.str "back"))) .nil) .nil) (.cons (.set 5 (.call f_asks (.cons (.var 0) (.cons (.call f_less (.cons (.idx (.var 2) (.int 1)) (.cons (.idx (.var 3) (.int 1)) .nil))) (.cons (.var 4) .nil))))) (.cons (.ret (.ite (.cmp .eq (.var 1) (.str "tight")) (.cmp .lt (.var 5) (.int 0)) (.cmp .gt (.var 5) (.int 0)))) .nil))) }
def b_choice_0 : Sxs := (.cons (.ifs (.and (.call f_is_fit (.cons (.var 0) (.cons (.var 7) (.cons (.var 1) (.cons (.var 3) .nil))))) (.or (.cmp .isN (.var 4) .non) (.call f_better (.cons (.var 0) (.cons (.var 2) (.cons (.var 7) (.cons (.idx (.var 5) (.var 4)) (.cons (.var 3) .nil)))))))) (.cons (.set 4 (.var 6)) .nil) .nil) .nil)
def d_choice : Def := { name := "choice", N := ["state", "length", "rule", "n", "best", "gaps", "at", "gap"], nps := 4, reg := false, body := (.cons (.par 4 5 (.cons .non (.cons (.call f_all_gaps (.cons (.var 0) .nil)) .nil))) (.cons (.for_ (.tp (.cons (.nm 6) (.cons (.nm 7) .nil))) (.enum (.var 5)) b_choice_0) (.cons (.ret (.var 4)) .nil))) }
def d_place_in : Def := { name := "place_in", N := ["gap", "length", "rule"], nps := 3, reg := true, body := (.cons (.ret (.ite (.cmp .eq (.var 2) (.str "back")) (.call f_added (.cons (.call f_added (.cons (.idx (.var 0) (.int 0)) (.cons (.idx (.var 0) (.int 1)) .nil))) (.cons (.tup (.cons (.int 0) (.cons (.neg (.var 1)) .nil))) .nil))) (.idx (.var 0) (.int 0)))) .nil) }
def l_parked_0 : Ex := (.lc [8, 5] (.tp (.cons (.nm 8) (.cons (.nm 5) .nil))) (.val (.var 6)) .none (.var 8))
def d_parked : Def := { name := "parked", N := ["state", "car", "rule", "n", "at", "place", "row", "length", "other"], nps := 4, reg := false, body := (.cons (.par 6 7 (.cons (.idx (.var 0) (.str "row")) (.cons (.idx (.idx (.var 0) (.str "lengths")) (.var 1)) .nil))) (.cons (.set 4 (.call f_choice (.cons (.var 0) (.cons (.var 7) (.cons (.var 2) (.cons (.var 3) .nil)))))) (.cons (.ifs (.or (.cmp .isN (.var 4) .non) (.cmp .in_ (.var 1) l_parked_0)) (.cons (.ret (.bl false)) .nil) .nil) (.cons (.set 5 (.call f_place_in (.cons (.idx (.call f_all_gaps (.cons (.var 0) .nil)) (.var 4)) (.cons (.var 7) (.cons (.var 2) .nil))))) (.cons (.dput (.var 0) (.str "row") (.bin .add (.bin .add (.sli (.var 6) .none (.some (.var 4))) (.tup (.cons (.tup (.cons (.var 1) (.cons (.var 5) .nil))) .nil))) (.sli (.var 6) (.some (.var 4)) .none))) (.cons (.ret (.bl true)) .nil)))))) }
def l_spot_of_0 : Ex := (.lc [3, 4, 5] (.tp (.cons (.nm 3) (.cons (.tp (.cons (.nm 4) (.cons (.nm 5) .nil))) .nil))) (.enum (.idx (.var 0) (.str "row"))) (.some (.cmp .eq (.var 4) (.var 1))) (.var 3))
def d_spot_of : Def := { name := "spot_of", N := ["state", "car", "found", "at", "other", "place"], nps := 2, reg := false, body := (.cons (.set 2 l_spot_of_0) (.cons (.ret (.ite (.cmp .ne (.var 2) (.lst .nil)) (.idx (.var 2) (.int 0)) .non)) .nil)) }
def d_shifted : Def := { name := "shifted", N := ["state", "at", "gap", "form", "n", "row"], nps := 5, reg := false, body := (.cons (.ifs (.cmp .eq (.call f_asks (.cons (.var 0) (.cons (.idx (.var 2) (.int 1)) (.cons (.var 4) .nil)))) (.int 0)) (.cons (.ret (.bl false)) .nil) .nil) (.cons (.set 5 (.idx (.var 0) (.str "row"))) (.cons (.dput (.var 0) (.str "row") (.bin .add (.bin .add (.sli (.var 5) .none (.some (.var 1))) (.tup (.cons (.tup (.cons (.idx (.idx (.var 5) (.var 1)) (.int 0)) (.cons (.var 3) .nil))) .nil))) (.sli (.var 5) (.some (.bin .add (.var 1) (.int 1))) .none))) (.cons (.ret (.bl true)) .nil)))) }
def d_do : Def := { name := "do", N := ["state", "deed", "n", "at", "row", "gaps"], nps := 3, reg := false, body := (.cons (.ifs (.cmp .eq (.idx (.var 1) (.int 0)) (.str "park")) (.cons (.ret (.call f_parked (.cons (.var 0) (.cons (.idx (.var 1) (.int 1)) (.cons (.idx (.var 1) (.int 2)) (.cons (.var 2) .nil)))))) .nil) .nil) (.cons (.set 3 (.call f_spot_of (.cons (.var 0) (.cons (.idx (.var 1) (.int 1)) .nil)))) (.cons (.ifs (.cmp .isN (.var 3) .non) (.cons (.ret (.bl false)) .nil) .nil) (.cons (.par 4 5 (.cons (.idx (.var 0) (.str "row")) (.cons (.call f_all_gaps (.cons (.var 0) .nil)) .nil))) (.cons (.ifs (.cmp .eq (.idx (.var 1) (.int 0)) (.str "pull")) (.cons (.ret (.call f_shifted (.cons (.var 0) (.cons (.var 3) (.cons (.idx (.var 5) (.var 3)) (.cons (.idx (.idx (.var 5) (.var 3)) (.int 0)) (.cons (.var 2) .nil))))))) .nil) .nil) (.cons (.ifs (.cmp .eq (.idx (.var 1) (.int 0)) (.str "drop")) (.cons (.ret (.call f_shifted (.cons (.var 0) (.cons (.var 3) (.cons (.idx (.var 5) (.bin .add (.var 3) (.int 1))) (.cons (.call f_added (.cons (.idx (.idx (.var 4) (.var 3)) (.int 1)) (.cons (.idx (.idx (.var 5) (.bin .add (.var 3) (.int 1))) (.int 1)) .nil))) (.cons (.var 2) .nil))))))) .nil) .nil) (.cons (.dput (.var 0) (.str "row") (.bin .add (.sli (.var 4) .none (.some (.var 3))) (.sli (.var 4) (.some (.bin .add (.var 3) (.int 1))) .none))) (.cons (.ret (.bl true)) .nil)))))))) }
def b_last_of_0 : Sxs := (.cons (.set 4 (.call f_do (.cons (.var 2) (.cons (.var 3) (.cons (.var 1) .nil))))) (.cons (.dput (.var 2) (.str "did") (.bin .add (.idx (.var 2) (.str "did")) (.tup (.cons (.var 4) .nil)))) .nil))
def d_last_of : Def := { name := "last_of", N := ["plan", "n", "state", "deed", "truth"], nps := 2, reg := false, body := (.cons (.set 2 (.call f_begun (.cons (.idx (.var 0) (.int 0)) .nil))) (.cons (.for_ (.nm 3) (.val (.idx (.var 0) (.int 1))) b_last_of_0) (.cons (.ret (.var 2)) .nil))) }
def d_place_form : Def := { name := "place_form", N := ["state", "car", "at"], nps := 2, reg := false, body := (.cons (.set 2 (.call f_spot_of (.cons (.var 0) (.cons (.var 1) .nil)))) (.cons (.ret (.ite (.cmp .isN (.var 2) .non) .non (.idx (.idx (.idx (.var 0) (.str "row")) (.var 2)) (.int 1)))) .nil)) }
def l_gap_forms_0 : Ex := (.lc [2] (.nm 2) (.val (.call f_all_gaps (.cons (.var 0) .nil))) (.some (.cmp .gt (.call f_asks (.cons (.var 0) (.cons (.idx (.var 2) (.int 1)) (.cons (.var 1) .nil)))) (.int 0))) (.var 2))
def d_gap_forms : Def := { name := "gap_forms", N := ["state", "n", "gap"], nps := 2, reg := false, body := (.cons (.ret (.bi .tuple (.cons l_gap_forms_0 .nil))) .nil) }
def l_places_of_0 : Ex := (.lc [4] (.nm 4) (.rng1 (.bi .len (.cons (.idx (.var 0) (.int 0)) .nil))) .none (.call f_place_form (.cons (.var 2) (.cons (.var 4) .nil))))
def l_places_of_1 : Ex := (.lc [5] (.nm 5) (.val (.var 3)) .none (.ite (.cmp .isN (.var 5) .non) .non (.call f_worth (.cons (.var 5) (.cons (.var 1) .nil)))))
def d_places_of : Def := { name := "places_of", N := ["plan", "n", "state", "forms", "car", "form"], nps := 2, reg := true, body := (.cons (.set 2 (.call f_last_of (.cons (.var 0) (.cons (.var 1) .nil)))) (.cons (.set 3 l_places_of_0) (.cons (.ret (.bi .tuple (.cons l_places_of_1 .nil))) .nil))) }
def l_cars_of_0 : Ex := (.lc [1, 2] (.tp (.cons (.nm 1) (.cons (.nm 2) .nil))) (.val (.idx (.var 0) (.str "row"))) .none (.var 1))
def d_cars_of : Def := { name := "cars_of", N := ["state", "car", "place"], nps := 1, reg := false, body := (.cons (.ret (.bi .tuple (.cons l_cars_of_0 .nil))) .nil) }
def d_done : Def := { name := "done", N := ["plan", "n"], nps := 2, reg := true, body := (.cons (.exp (.call f_need_plan (.cons (.var 0) .nil))) (.cons (.exp (.call f_need_n (.cons (.var 1) .nil))) (.cons (.ret (.idx (.call f_last_of (.cons (.var 0) (.cons (.var 1) .nil))) (.str "did"))) .nil))) }
def d_places : Def := { name := "places", N := ["plan", "n"], nps := 2, reg := true, body := (.cons (.exp (.call f_need_plan (.cons (.var 0) .nil))) (.cons (.exp (.call f_need_n (.cons (.var 1) .nil))) (.cons (.ret (.call f_places_of (.cons (.var 0) (.cons (.var 1) .nil)))) .nil))) }
def l_gaps_0 : Ex := (.lc [2, 3] (.tp (.cons (.nm 2) (.cons (.nm 3) .nil))) (.val (.call f_gap_forms (.cons (.call f_last_of (.cons (.var 0) (.cons (.var 1) .nil))) (.cons (.var 1) .nil)))) .none (.tup (.cons (.call f_worth (.cons (.var 2) (.cons (.var 1) .nil))) (.cons (.call f_worth (.cons (.var 3) (.cons (.var 1) .nil))) .nil))))
def d_gaps : Def := { name := "gaps", N := ["plan", "n", "begin", "size"], nps := 2, reg := true, body := (.cons (.exp (.call f_need_plan (.cons (.var 0) .nil))) (.cons (.exp (.call f_need_n (.cons (.var 1) .nil))) (.cons (.ret l_gaps_0) .nil))) }
def d_row : Def := { name := "row", N := ["plan", "n"], nps := 2, reg := true, body := (.cons (.exp (.call f_need_plan (.cons (.var 0) .nil))) (.cons (.exp (.call f_need_n (.cons (.var 1) .nil))) (.cons (.ret (.call f_cars_of (.cons (.call f_last_of (.cons (.var 0) (.cons (.var 1) .nil))) .nil))) .nil))) }
def d__law_n : Def := { name := "_law_n", N := ["source", "small", "great"], nps := 1, reg := false, body := (.cons (.par 1 2 (.cons (.bin .add (.int 10) (.call f__law_draw (.cons (.var 0) (.cons (.int 9) .nil)))) (.cons (.bin .add (.bin .pow (.int 10) (.int 9)) (.call f__law_draw (.cons (.var 0) (.cons (.bin .pow (.int 10) (.int 9)) .nil)))) .nil))) (.cons (.ret (.call f__law_of (.cons (.var 0) (.cons (.lst (.cons (.int 10) (.cons (.var 1) (.cons (.bin .add (.var 1) (.call f__law_draw (.cons (.var 0) (.cons (.int 40) .nil)))) (.cons (.var 2) (.cons (.bin .pow (.int 10) (.int 30)) .nil)))))) .nil)))) .nil)) }
def d__law_value : Def := { name := "_law_value", N := ["form", "n"], nps := 2, reg := true, body := (.cons (.ret (.bin .add (.bin .mul (.idx (.var 0) (.int 0)) (.var 1)) (.idx (.var 0) (.int 1)))) .nil) }
def d__law_less : Def := { name := "_law_less", N := ["one", "other"], nps := 2, reg := true, body := (.cons (.ret (.tup (.cons (.bin .sub (.idx (.var 0) (.int 0)) (.idx (.var 1) (.int 0))) (.cons (.bin .sub (.idx (.var 0) (.int 1)) (.idx (.var 1) (.int 1))) .nil)))) .nil) }
def b__law_spaces_0 : Sxs := (.cons (.app 3 (.tup (.cons (.var 4) (.cons (.call f__law_less (.cons (.var 6) (.cons (.var 4) .nil))) .nil)))) (.cons (.set 4 (.tup (.cons (.idx (.var 6) (.int 0)) (.cons (.bin .add (.idx (.var 6) (.int 1)) (.idx (.var 0) (.var 5))) .nil)))) .nil))
def d__law_spaces : Def := { name := "_law_spaces", N := ["lengths", "line", "n", "found", "begin", "car", "form"], nps := 3, reg := true, body := (.cons (.par 3 4 (.cons (.newc (.lst .nil)) (.cons (.tup (.cons (.int 0) (.cons (.int 0) .nil))) .nil))) (.cons (.for_ (.tp (.cons (.nm 5) (.cons (.nm 6) .nil))) (.val (.var 1)) b__law_spaces_0) (.cons (.app 3 (.tup (.cons (.var 4) (.cons (.call f__law_less (.cons (.tup (.cons (.int 1) (.cons (.int 0) .nil))) (.cons (.var 4) .nil))) .nil)))) (.cons (.frz 3) (.cons (.ret (.var 3)) .nil))))) }
def l__law_chosen_0 : Ex := (.lc [8, 9] (.tp (.cons (.nm 8) (.cons (.nm 9) .nil))) (.val (.var 0)) .none (.call f__law_value (.cons (.var 9) (.cons (.var 3) .nil))))
def l__law_chosen_1 : Ex := (.lc [7] (.nm 7) (.rng1 (.bi .len (.cons (.var 0) .nil))) (.some (.cmp .ge (.idx (.var 4) (.var 7)) (.var 1))) (.var 7))
def l__law_chosen_2 : Ex := (.lc [7] (.nm 7) (.val (.var 5)) .none (.idx (.var 4) (.var 7)))
def d__law_chosen : Def := { name := "_law_chosen", N := ["spaces", "length", "rule", "n", "sizes", "some", "fits", "at", "begin", "size"], nps := 4, reg := true, body := (.cons (.set 4 l__law_chosen_0) (.cons (.set 5 l__law_chosen_1) (.cons (.ifs (.cmp .eq (.var 5) (.lst .nil)) (.cons (.ret .non) .nil) .nil) (.cons (.ifs (.or (.cmp .eq (.var 2) (.str "front")) (.cmp .eq (.var 2) (.str "back"))) (.cons (.ret (.ite (.cmp .eq (.var 2) (.str "front")) (.idx (.var 5) (.int 0)) (.idx (.var 5) (.neg (.int 1))))) .nil) .nil) (.cons (.set 6 l__law_chosen_2) (.cons (.ret (.idx (.var 5) (.mth .index (.var 6) (.cons (.ite (.cmp .eq (.var 2) (.str "tight")) (.bi .min1 (.cons (.var 6) .nil)) (.bi .max1 (.cons (.var 6) .nil))) .nil)))) .nil)))))) }
def l__law_step_0 : Ex := (.lc [5] (.nm 5) (.rng1 (.bi .len (.cons (.var 1) .nil))) (.some (.cmp .eq (.idx (.idx (.var 1) (.var 5)) (.int 0)) (.var 8))) (.var 5))
def d__law_step : Def := { name := "_law_step", N := ["lengths", "line", "deed", "n", "spot", "at", "form", "later", "car", "spaces", "begin", "size"], nps := 4, reg := true, body := (.cons (.unp (.tp (.cons (.nm 8) (.cons (.nm 9) .nil))) (.tup (.cons (.idx (.var 2) (.int 1)) (.cons (.call f__law_spaces (.cons (.var 0) (.cons (.var 1) (.cons (.var 3) .nil)))) .nil)))) (.cons (.set 4 l__law_step_0) (.cons (.ifs (.cmp .eq (.idx (.var 2) (.int 0)) (.str "park")) (.cons (.set 5 (.call f__law_chosen (.cons (.var 9) (.cons (.idx (.var 0) (.var 8)) (.cons (.idx (.var 2) (.int 2)) (.cons (.var 3) .nil)))))) (.cons (.ifs (.or (.cmp .ne (.var 4) (.lst .nil)) (.cmp .isN (.var 5) .non)) (.cons (.ret .non) .nil) .nil) (.cons (.unp (.tp (.cons (.nm 6) (.cons (.nm 11) .nil))) (.idx (.var 9) (.var 5))) (.cons (.ifs (.cmp .eq (.idx (.var 2) (.int 2)) (.str "back")) (.cons (.set 6 (.tup (.cons (.bin .add (.idx (.var 6) (.int 0)) (.idx (.var 11) (.int 0))) (.cons (.bin .sub (.bin .add (.idx (.var 6) (.int 1)) (.idx (.var 11) (.int 1))) (.idx (.var 0) (.var 8))) .nil)))) .nil) .nil) (.cons (.ret (.bin .add (.bin .add (.sli (.var 1) .none (.some (.var 5))) (.lst (.cons (.tup (.cons (.var 8) (.cons (.var 6) .nil))) .nil))) (.sli (.var 1) (.some (.var 5)) .none))) .nil))))) .nil) (.cons (.ifs (.cmp .eq (.var 4) (.lst .nil)) (.cons (.ret .non) .nil) .nil) (.cons (.set 5 (.idx (.var 4) (.int 0))) (.cons (.ifs (.cmp .eq (.idx (.var 2) (.int 0)) (.str "leave")) (.cons (.ret (.bin .add (.sli (.var 1) .none (.some (.var 5))) (.sli (.var 1) (.some (.bin .add (.var 5) (.int 1))) .none))) .nil) .nil) (.cons (.unp (.tp (.cons (.nm 10) (.cons (.nm 11) .nil))) (.ite (.cmp .eq (.idx (.var 2) (.int 0)) (.str "pull")) (.idx (.var 9) (.var 5)) (.idx (.var 9) (.bin .add (.var 5) (.int 1))))) (.cons (.ifs (.cmp .eq (.call f__law_value (.cons (.var 11) (.cons (.var 3) .nil))) (.int 0)) (.cons (.ret .non) .nil) .nil) (.cons (.set 6 (.idx (.idx (.var 1) (.var 5)) (.int 1))) (.cons (.set 7 (.var 10)) (.cons (.ifs (.cmp .eq (.idx (.var 2) (.int 0)) (.str "drop")) (.cons (.set 7 (.tup (.cons (.bin .add (.idx (.var 6) (.int 0)) (.idx (.var 11) (.int 0))) (.cons (.bin .add (.idx (.var 6) (.int 1)) (.idx (.var 11) (.int 1))) .nil)))) .nil) .nil) (.cons (.ret (.bin .add (.bin .add (.sli (.var 1) .none (.some (.var 5))) (.lst (.cons (.tup (.cons (.var 8) (.cons (.var 7) .nil))) .nil))) (.sli (.var 1) (.some (.bin .add (.var 5) (.int 1))) .none))) .nil)))))))))))) }
def b__law_run_0 : Sxs := (.cons (.set 5 (.call f__law_step (.cons (.idx (.var 0) (.int 0)) (.cons (.var 3) (.cons (.var 2) (.cons (.var 1) .nil)))))) (.cons (.set 4 (.bin .add (.var 4) (.tup (.cons (.cmp .notN (.var 5) .non) .nil)))) (.cons (.set 3 (.ite (.cmp .isN (.var 5) .non) (.var 3) (.var 5))) .nil)))
def d__law_run : Def := { name := "_law_run", N := ["plan", "n", "deed", "line", "did", "later"], nps := 2, reg := true, body := (.cons (.par 3 4 (.cons (.lst .nil) (.cons (.tup .nil) .nil))) (.cons (.for_ (.nm 2) (.val (.idx (.var 0) (.int 1))) b__law_run_0) (.cons (.ret (.tup (.cons (.var 4) (.cons (.var 3) .nil)))) .nil))) }
def l__law_forms_0 : Ex := (.lc [3] (.nm 3) (.rng1 (.bi .len (.cons (.idx (.var 0) (.int 0)) .nil))) .none (.mth .get (.var 2) (.cons (.var 3) (.cons .non .nil))))
def d__law_forms : Def := { name := "_law_forms", N := ["plan", "n", "found", "car"], nps := 2, reg := true, body := (.cons (.set 2 (.bi .dict (.cons (.idx (.call f__law_run (.cons (.var 0) (.cons (.var 1) .nil))) (.int 1)) .nil))) (.cons (.ret l__law_forms_0) .nil)) }
def b__law_places_0 : Sxs := (.cons (.set 2 (.bin .add (.var 2) (.tup (.cons (.ite (.cmp .isN (.var 3) .non) .non (.call f__law_value (.cons (.var 3) (.cons (.var 1) .nil)))) .nil)))) .nil)
def d__law_places : Def := { name := "_law_places", N := ["plan", "n", "found", "form"], nps := 2, reg := true, body := (.cons (.set 2 (.tup .nil)) (.cons (.for_ (.nm 3) (.val (.call f__law_forms (.cons (.var 0) (.cons (.var 1) .nil)))) b__law_places_0) (.cons (.ret (.var 2)) .nil))) }
def l__law_gaps_0 : Ex := (.lc [3] (.nm 3) (.val (.var 2)) (.some (.cmp .gt (.call f__law_value (.cons (.idx (.var 3) (.int 1)) (.cons (.var 1) .nil))) (.int 0))) (.var 3))
def d__law_gaps : Def := { name := "_law_gaps", N := ["plan", "n", "spaces", "pair"], nps := 2, reg := true, body := (.cons (.set 2 (.call f__law_spaces (.cons (.idx (.var 0) (.int 0)) (.cons (.idx (.call f__law_run (.cons (.var 0) (.cons (.var 1) .nil))) (.int 1)) (.cons (.var 1) .nil))))) (.cons (.ret (.bi .tuple (.cons l__law_gaps_0 .nil))) .nil)) }
def d__law_known : Def := { name := "_law_known", N := ["one", "first", "two", "three", "second", "four"], nps := 0, reg := true, body := (.cons (.set 0 (.tup (.cons (.tup (.cons (.int 4) (.cons (.int 3) (.cons (.int 5) .nil)))) (.cons (.tup (.cons (.tup (.cons (.str "park") (.cons (.int 0) (.cons (.str "front") .nil)))) (.cons (.tup (.cons (.str "park") (.cons (.int 1) (.cons (.str "back") .nil)))) (.cons (.tup (.cons (.str "park") (.cons (.int 2) (.cons (.str "tight") .nil)))) .nil)))) .nil)))) (.cons (.set 1 (.tup (.cons (.tup (.cons (.str "park") (.cons (.int 0) (.cons (.str "front") .nil)))) (.cons (.tup (.cons (.str "park") (.cons (.int 1) (.cons (.str "wide") .nil)))) (.cons (.tup (.cons (.str "leave") (.cons (.int 0) .nil))) .nil))))) (.cons (.set 2 (.tup (.cons (.tup (.cons (.int 2) (.cons (.int 2) (.cons (.int 6) .nil)))) (.cons (.bin .add (.var 1) (.tup (.cons (.tup (.cons (.str "park") (.cons (.int 2) (.cons (.str "tight") .nil)))) (.cons (.tup (.cons (.str "pull") (.cons (.int 1) .nil))) .nil)))) .nil)))) (.cons (.set 3 (.tup (.cons (.tup (.cons (.int 3) (.cons (.int 3) .nil))) (.cons (.tup (.cons (.tup (.cons (.str "park") (.cons (.int 0) (.cons (.str "back") .nil)))) (.cons (.tup (.cons (.str "park") (.cons (.int 1) (.cons (.str "back") .nil)))) (.cons (.tup (.cons (.str "drop") (.cons (.int 0) .nil))) (.cons (.tup (.cons (.str "pull") (.cons (.int 0) .nil))) .nil))))) .nil)))) (.cons (.set 4 (.tup (.cons (.tup (.cons (.str "park") (.cons (.int 0) (.cons (.str "front") .nil)))) (.cons (.tup (.cons (.str "park") (.cons (.int 1) (.cons (.str "front") .nil)))) (.cons (.tup (.cons (.str "leave") (.cons (.int 0) .nil))) .nil))))) (.cons (.set 5 (.tup (.cons (.tup (.cons (.int 5) (.cons (.int 2) (.cons (.int 3) (.cons (.int 4) .nil))))) (.cons (.bin .add (.var 4) (.tup (.cons (.tup (.cons (.str "park") (.cons (.int 2) (.cons (.str "tight") .nil)))) (.cons (.tup (.cons (.str "park") (.cons (.int 3) (.cons (.str "wide") .nil)))) .nil)))) .nil)))) (.cons (.ret (.tup (.cons (.var 0) (.cons (.var 2) (.cons (.var 3) (.cons (.var 5) .nil)))))) .nil))))))) }
def d_need_car : Def := { name := "need_car", N := ["plan", "value"], nps := 2, reg := true, body := (.cons (.ifs (.not (.call f_is_number (.cons (.var 1) (.cons (.int 0) (.cons (.bin .sub (.bi .len (.cons (.idx (.var 0) (.int 0)) .nil)) (.int 1)) .nil))))) (.cons .nev .nil) .nil) .nil) }
def d_same_to : Def := { name := "same_to", N := ["form", "n", "sign", "more", "base"], nps := 2, reg := true, body := (.cons (.unp (.tp (.cons (.nm 2) (.cons (.tp (.cons (.nm 3) (.cons (.nm 4) .nil))) .nil))) (.tup (.cons (.call f_sign_of (.cons (.var 0) (.cons (.var 1) .nil))) (.cons (.var 0) .nil)))) (.cons (.ifs (.or (.cmp .eq (.var 3) (.int 0)) (.cmp .gt (.bin .mul (.var 2) (.var 3)) (.int 0))) (.cons (.ret .non) .nil) .nil) (.cons (.ifs (.cmp .eq (.var 2) (.int 0)) (.cons (.ret (.var 1)) .nil) .nil) (.cons (.ret (.bin .fdiv (.bin .sub (.bi .abs (.cons (.var 4) .nil)) (.int 1)) (.bi .abs (.cons (.var 3) .nil)))) .nil)))) }
def l_until_0 : Ex := (.lc [3] (.nm 3) (.val (.var 0)) .none (.call f_same_to (.cons (.var 3) (.cons (.var 1) .nil))))
def l_until_1 : Ex := (.lc [4] (.nm 4) (.val (.var 2)) (.some (.cmp .notN (.var 4) .non)) (.bi .int (.cons (.var 4) .nil)))
def d_until : Def := { name := "until", N := ["asked", "n", "ends", "form", "end"], nps := 2, reg := true, body := (.cons (.set 2 l_until_0) (.cons (.set 2 l_until_1) (.cons (.ret (.ite (.cmp .ne (.var 2) (.lst .nil)) (.bi .min1 (.cons (.var 2) .nil)) .non)) .nil))) }
def b_joined_0 : Sxs := (.cons (.ifs (.and (.cmp .ne (.var 1) (.lst .nil)) (.cmp .eq (.idx (.idx (.var 1) (.neg (.int 1))) (.int 2)) (.var 4))) (.cons (.set 1 (.bin .add (.sli (.var 1) .none (.some (.neg (.int 1)))) (.lst (.cons (.tup (.cons (.idx (.idx (.var 1) (.neg (.int 1))) (.int 0)) (.cons (.var 3) (.cons (.var 4) .nil)))) .nil)))) .nil) (.cons (.set 1 (.bin .add (.var 1) (.lst (.cons (.tup (.cons (.var 2) (.cons (.var 3) (.cons (.var 4) .nil)))) .nil)))) .nil)) .nil)
def d_joined : Def := { name := "joined", N := ["rows", "found", "least", "greatest", "told"], nps := 1, reg := true, body := (.cons (.set 1 (.lst .nil)) (.cons (.for_ (.tp (.cons (.nm 2) (.cons (.nm 3) (.cons (.nm 4) .nil)))) (.val (.var 0)) b_joined_0) (.cons (.ret (.var 1)) .nil))) }
def w_rows_by_0 : Ex := (.cmp .notN (.var 2) .non)
def b_rows_by_0 : Sxs := (.cons (.unp (.tp (.cons (.nm 4) (.cons (.nm 5) .nil))) (.callv 0 (.cons (.var 2) .nil))) (.cons (.set 3 (.call f_until (.cons (.var 5) (.cons (.var 2) .nil)))) (.cons (.set 1 (.bin .add (.var 1) (.lst (.cons (.tup (.cons (.var 2) (.cons (.var 3) (.cons (.var 4) .nil)))) .nil)))) (.cons (.set 2 (.ite (.cmp .isN (.var 3) .non) .non (.bin .add (.var 3) (.int 1)))) .nil))))
def d_rows_by : Def := { name := "rows_by", N := ["told", "found", "n", "end", "here", "asked"], nps := 1, reg := true, body := (.cons (.par 1 2 (.cons (.lst .nil) (.cons (.con c_LEAST) .nil))) (.cons (.whl w_rows_by_0 b_rows_by_0) (.cons (.ret (.call f_joined (.cons (.var 1) .nil))) .nil))) }
def d_seen_last : Def := { name := "seen_last", N := ["plan", "told", "n", "state", "here"], nps := 3, reg := true, body := (.cons (.set 3 (.call f_last_of (.cons (.var 0) (.cons (.var 2) .nil)))) (.cons (.set 4 (.callv 1 (.cons (.var 3) (.cons (.var 2) .nil)))) (.cons (.ret (.tup (.cons (.var 4) (.cons (.idx (.var 3) (.str "asked")) .nil)))) .nil))) }
def m_by_last_0 : Ex := (.call f_seen_last (.cons (.var 1) (.cons (.var 2) (.cons (.var 0) .nil))))
def d_by_last : Def := { name := "by_last", N := ["plan", "told"], nps := 2, reg := true, body := (.cons (.ret (.callL f_rows_by .nil 1 [0, 1] m_by_last_0)) .nil) }
def d_need_both : Def := { name := "need_both", N := ["plan", "car"], nps := 2, reg := true, body := (.cons (.exp (.call f_need_plan (.cons (.var 0) .nil))) (.cons (.exp (.call f_need_car (.cons (.var 0) (.cons (.var 1) .nil)))) .nil)) }
def m_done_rows_0 : Ex := (.idx (.var 0) (.str "did"))
def d_done_rows : Def := { name := "done_rows", N := ["plan"], nps := 1, reg := true, body := (.cons (.exp (.call f_need_plan (.cons (.var 0) .nil))) (.cons (.ret (.callL f_by_last (.cons (.var 0) .nil) 2 [] m_done_rows_0)) .nil)) }
def m_place_rows_0 : Ex := (.call f_place_form (.cons (.var 0) (.cons (.var 2) .nil)))
def d_place_rows : Def := { name := "place_rows", N := ["plan", "car"], nps := 2, reg := true, body := (.cons (.exp (.call f_need_both (.cons (.var 0) (.cons (.var 1) .nil)))) (.cons (.ret (.callL f_by_last (.cons (.var 0) .nil) 2 [1] m_place_rows_0)) .nil)) }
def d_gap_rows : Def := { name := "gap_rows", N := ["plan"], nps := 1, reg := true, body := (.cons (.exp (.call f_need_plan (.cons (.var 0) .nil))) (.cons (.ret (.call f_by_last (.cons (.var 0) (.cons (.fnv f_gap_forms) .nil)))) .nil)) }
def m_row_rows_0 : Ex := (.call f_cars_of (.cons (.var 0) .nil))
def d_row_rows : Def := { name := "row_rows", N := ["plan"], nps := 1, reg := true, body := (.cons (.exp (.call f_need_plan (.cons (.var 0) .nil))) (.cons (.ret (.callL f_by_last (.cons (.var 0) .nil) 2 [] m_row_rows_0)) .nil)) }
def b__law_spots_0 : Sxs := (.cons (.set 2 (.bin .add (.var 2) (.lst (.cons (.var 3) (.cons (.bin .add (.var 3) (.int 1)) .nil))))) (.cons (.set 2 (.bin .add (.var 2) (.ite (.cmp .notN (.var 4) .non) (.lst (.cons (.var 4) (.cons (.bin .add (.var 4) (.int 1)) .nil))) (.lst .nil)))) .nil))
def d__law_spots : Def := { name := "_law_spots", N := ["source", "rows", "found", "least", "greatest", "told"], nps := 2, reg := false, body := (.cons (.set 2 (.lst (.cons (.int 10) (.cons (.int 11) (.cons (.bin .pow (.int 10) (.int 30)) (.cons (.bin .add (.int 10) (.call f__law_draw (.cons (.var 0) (.cons (.int 70) .nil)))) (.cons (.bin .add (.bin .pow (.int 10) (.int 6)) (.call f__law_draw (.cons (.var 0) (.cons (.bin .pow (.int 10) (.int 6)) .nil)))) .nil))))))) (.cons (.for_ (.tp (.cons (.nm 3) (.cons (.nm 4) (.cons (.nm 5) .nil)))) (.val (.sli (.var 1) .none (.some (.int 40)))) b__law_spots_0) (.cons (.ret (.var 2)) .nil))) }
def b__law_told_at_0 : Sxs := (.cons (.ifs (.and (.cmp .le (.var 2) (.var 1)) (.or (.cmp .isN (.var 3) .non) (.cmp .le (.var 1) (.var 3)))) (.cons (.ret (.var 4)) .nil) .nil) .nil)
def d__law_told_at : Def := { name := "_law_told_at", N := ["rows", "n", "least", "greatest", "told"], nps := 2, reg := true, body := (.cons (.for_ (.tp (.cons (.nm 2) (.cons (.nm 3) (.cons (.nm 4) .nil)))) (.val (.var 0)) b__law_told_at_0) (.cons (.ret (.str "gap")) .nil)) }
def b__law_are_rows_0 : Sxs := (.cons (.ifs (.or (.cmp .isN (.idx (.var 1) (.int 1)) .non) (.cmp .lt (.idx (.var 1) (.int 1)) (.idx (.var 1) (.int 0)))) (.cons (.ret (.bl false)) .nil) .nil) (.cons (.ifs (.or (.cmp .ne (.idx (.var 2) (.int 0)) (.bin .add (.idx (.var 1) (.int 1)) (.int 1))) (.cmp .eq (.idx (.var 1) (.int 2)) (.idx (.var 2) (.int 2)))) (.cons (.ret (.bl false)) .nil) .nil) .nil))
def d__law_are_rows : Def := { name := "_law_are_rows", N := ["rows", "one", "other"], nps := 1, reg := true, body := (.cons (.ifs (.or (.not (.isi (.var 0) .list)) (.cmp .eq (.var 0) (.lst .nil))) (.cons (.ret (.bl false)) .nil) .nil) (.cons (.ifs (.or (.cmp .ne (.idx (.idx (.var 0) (.int 0)) (.int 0)) (.int 10)) (.cmp .notN (.idx (.idx (.var 0) (.neg (.int 1))) (.int 1)) .non)) (.cons (.ret (.bl false)) .nil) .nil) (.cons (.for_ (.tp (.cons (.nm 1) (.cons (.nm 2) .nil))) (.zip (.var 0) (.sli (.var 0) (.some (.int 1)) .none)) b__law_are_rows_0) (.cons (.ret (.bl true)) .nil)))) }
def b_widest_0 : Sxs := (.cons (.set 2 (.ite (.cmp .gt (.call f_asks (.cons (.var 0) (.cons (.call f_less (.cons (.var 4) (.cons (.var 2) .nil))) (.cons (.var 1) .nil)))) (.int 0)) (.var 4) (.var 2))) .nil)
def d_widest : Def := { name := "widest", N := ["state", "n", "best", "begin", "size"], nps := 2, reg := false, body := (.cons (.set 2 (.tup (.cons (.int 0) (.cons (.int 0) .nil)))) (.cons (.for_ (.tp (.cons (.nm 3) (.cons (.nm 4) .nil))) (.val (.call f_gap_forms (.cons (.var 0) (.cons (.var 1) .nil)))) b_widest_0) (.cons (.ret (.var 2)) .nil))) }
def l_all_parked_0 : Ex := (.lc [2, 3] (.tp (.cons (.nm 2) (.cons (.nm 3) .nil))) (.zip (.idx (.var 1) (.str "did")) (.idx (.var 0) (.int 1))) (.some (.cmp .eq (.idx (.var 3) (.int 0)) (.str "park"))) (.var 2))
def d_all_parked : Def := { name := "all_parked", N := ["plan", "state", "truth", "deed"], nps := 2, reg := false, body := (.cons (.ret (.bi .all (.cons l_all_parked_0 .nil))) .nil) }
def d_room : Def := { name := "room", N := ["plan", "n"], nps := 2, reg := true, body := (.cons (.exp (.call f_need_plan (.cons (.var 0) .nil))) (.cons (.exp (.call f_need_n (.cons (.var 1) .nil))) (.cons (.ret (.call f_worth (.cons (.call f_widest (.cons (.call f_last_of (.cons (.var 0) (.cons (.var 1) .nil))) (.cons (.var 1) .nil))) (.cons (.var 1) .nil)))) .nil))) }
def d_room_rows : Def := { name := "room_rows", N := ["plan"], nps := 1, reg := true, body := (.cons (.exp (.call f_need_plan (.cons (.var 0) .nil))) (.cons (.ret (.call f_by_last (.cons (.var 0) (.cons (.fnv f_widest) .nil)))) .nil)) }
def m_would_fit_0 : Ex := (.cmp .notN (.call f_choice (.cons (.var 0) (.cons (.var 2) (.cons (.str "front") (.cons (.var 1) .nil))))) .non)
def d_would_fit : Def := { name := "would_fit", N := ["plan", "length"], nps := 2, reg := true, body := (.cons (.exp (.call f_need_plan (.cons (.var 0) .nil))) (.cons (.ifs (.not (.call f_is_number (.cons (.var 1) (.cons (.int 1) (.cons (.con c_MOST) .nil))))) (.cons .nev .nil) .nil) (.cons (.ret (.callL f_by_last (.cons (.var 0) .nil) 2 [1] m_would_fit_0)) .nil))) }
def m_sure_from_0 : Ex := (.call f_all_parked (.cons (.var 2) (.cons (.var 0) .nil)))
def d_sure_from : Def := { name := "sure_from", N := ["plan", "rows", "least", "greatest", "truth"], nps := 1, reg := true, body := (.cons (.exp (.call f_need_plan (.cons (.var 0) .nil))) (.cons (.set 1 (.callL f_by_last (.cons (.var 0) .nil) 2 [0] m_sure_from_0)) (.cons (.unp (.tp (.cons (.nm 2) (.cons (.nm 3) (.cons (.nm 4) .nil)))) (.idx (.var 1) (.neg (.int 1)))) (.cons (.ret (.ite (.var 4) (.var 2) .non)) .nil)))) }
def m_parked_rows_0 : Ex := (.bi .len (.cons (.idx (.var 0) (.str "row")) .nil))
def d_parked_rows : Def := { name := "parked_rows", N := ["plan"], nps := 1, reg := true, body := (.cons (.exp (.call f_need_plan (.cons (.var 0) .nil))) (.cons (.ret (.callL f_by_last (.cons (.var 0) .nil) 2 [] m_parked_rows_0)) .nil)) }
def l_least_with_0 : Ex := (.lc [3, 4, 5] (.tp (.cons (.nm 3) (.cons (.nm 4) (.cons (.nm 5) .nil)))) (.val (.var 0)) (.some (.cmp .eq (.var 5) (.var 1))) (.var 3))
def d_least_with : Def := { name := "least_with", N := ["rows", "told", "found", "least", "greatest", "item"], nps := 2, reg := true, body := (.cons (.set 2 l_least_with_0) (.cons (.ret (.ite (.cmp .ne (.var 2) (.lst .nil)) (.idx (.var 2) (.int 0)) .non)) .nil)) }
def d_same_places : Def := { name := "same_places", N := ["one", "other", "n", "gap"], nps := 3, reg := true, body := (.cons (.ifs (.or (.cmp .isN (.var 0) .non) (.cmp .isN (.var 1) .non)) (.cons (.ret (.tup (.cons (.and (.cmp .isN (.var 0) .non) (.cmp .isN (.var 1) .non)) (.cons (.tup .nil) .nil)))) .nil) .nil) (.cons (.set 3 (.call f_less (.cons (.var 0) (.cons (.var 1) .nil)))) (.cons (.ret (.tup (.cons (.cmp .eq (.call f_sign_of (.cons (.var 3) (.cons (.var 2) .nil))) (.int 0)) (.cons (.tup (.cons (.var 3) .nil)) .nil)))) .nil))) }
def b_like_told_0 : Sxs := (.cons (.unp (.tp (.cons (.nm 8) (.cons (.nm 9) .nil))) (.call f_same_places (.cons (.call f_place_form (.cons (.var 4) (.cons (.var 3) .nil))) (.cons (.call f_place_form (.cons (.var 5) (.cons (.var 3) .nil))) (.cons (.var 2) .nil))))) (.cons (.par 6 7 (.cons (.and (.var 6) (.var 8)) (.cons (.bin .add (.var 7) (.var 9)) .nil))) .nil))
def d_like_told : Def := { name := "like_told", N := ["one", "other", "n", "car", "mine", "yours", "good", "asked", "same", "more"], nps := 3, reg := true, body := (.cons (.par 4 5 (.cons (.call f_last_of (.cons (.var 0) (.cons (.var 2) .nil))) (.cons (.call f_last_of (.cons (.var 1) (.cons (.var 2) .nil))) .nil))) (.cons (.par 6 7 (.cons (.bl true) (.cons (.bin .add (.idx (.var 4) (.str "asked")) (.idx (.var 5) (.str "asked"))) .nil))) (.cons (.for_ (.nm 3) (.rng1 (.bi .len (.cons (.idx (.var 0) (.int 0)) .nil))) b_like_told_0) (.cons (.ret (.tup (.cons (.var 6) (.cons (.var 7) .nil)))) .nil)))) }
def m_parting_number_0 : Ex := (.call f_like_told (.cons (.var 1) (.cons (.var 2) (.cons (.var 0) .nil))))
def d_parting_number : Def := { name := "parting_number", N := ["one", "other"], nps := 2, reg := true, body := (.cons (.ifs (.cmp .ne (.idx (.var 0) (.int 0)) (.idx (.var 1) (.int 0))) (.cons (.ret (.con c_LEAST)) .nil) .nil) (.cons (.ret (.call f_least_with (.cons (.callL f_rows_by .nil 1 [0, 1] m_parting_number_0) (.cons (.bl false) .nil)))) .nil)) }
def d_need_two : Def := { name := "need_two", N := ["one", "other"], nps := 2, reg := true, body := (.cons (.exp (.call f_need_plan (.cons (.var 0) .nil))) (.cons (.exp (.call f_need_plan (.cons (.var 1) .nil))) .nil)) }
def d_alike : Def := { name := "alike", N := ["one", "other"], nps := 2, reg := true, body := (.cons (.exp (.call f_need_two (.cons (.var 0) (.cons (.var 1) .nil)))) (.cons (.ret (.cmp .isN (.call f_parting_number (.cons (.var 0) (.cons (.var 1) .nil))) .non)) .nil)) }
def d_parting : Def := { name := "parting", N := ["one", "other"], nps := 2, reg := true, body := (.cons (.exp (.call f_need_two (.cons (.var 0) (.cons (.var 1) .nil)))) (.cons (.ret (.call f_parting_number (.cons (.var 0) (.cons (.var 1) .nil)))) .nil)) }
def d__law_near : Def := { name := "_law_near", N := ["source", "plan", "at", "new", "mode", "lengths", "deeds", "first", "second"], nps := 2, reg := false, body := (.cons (.unp (.tp (.cons (.nm 4) (.cons (.tp (.cons (.nm 5) (.cons (.nm 6) .nil))) .nil))) (.tup (.cons (.call f__law_draw (.cons (.var 0) (.cons (.int 4) .nil))) (.cons (.var 1) .nil)))) (.cons (.ifs (.cmp .eq (.var 6) (.tup .nil)) (.cons (.ret (.tup (.cons (.var 5) (.cons (.tup (.cons (.tup (.cons (.str "park") (.cons (.int 0) (.cons (.str "back") .nil)))) .nil)) .nil)))) .nil) .nil) (.cons (.set 2 (.call f__law_draw (.cons (.var 0) (.cons (.bi .len (.cons (.var 6) .nil)) .nil)))) (.cons (.ifs (.cmp .eq (.var 4) (.int 0)) (.cons (.ret (.tup (.cons (.var 5) (.cons (.bin .add (.sli (.var 6) .none (.some (.var 2))) (.sli (.var 6) (.some (.bin .add (.var 2) (.int 1))) .none)) .nil)))) .nil) .nil) (.cons (.ifs (.and (.cmp .eq (.var 4) (.int 1)) (.cmp .lt (.bin .add (.var 2) (.int 1)) (.bi .len (.cons (.var 6) .nil)))) (.cons (.par 7 8 (.cons (.idx (.var 6) (.var 2)) (.cons (.idx (.var 6) (.bin .add (.var 2) (.int 1))) .nil))) (.cons (.ret (.tup (.cons (.var 5) (.cons (.bin .add (.bin .add (.sli (.var 6) .none (.some (.var 2))) (.tup (.cons (.var 8) (.cons (.var 7) .nil)))) (.sli (.var 6) (.some (.bin .add (.var 2) (.int 2))) .none)) .nil)))) .nil)) .nil) (.cons (.set 3 (.call f__law_deed (.cons (.var 0) (.cons (.bi .len (.cons (.var 5) .nil)) .nil)))) (.cons (.ret (.tup (.cons (.var 5) (.cons (.bin .add (.bin .add (.sli (.var 6) .none (.some (.var 2))) (.tup (.cons (.var 3) .nil))) (.sli (.var 6) (.some (.bin .add (.var 2) (.int 1))) .none)) .nil)))) .nil))))))) }
def d_without : Def := { name := "without", N := ["plan", "index"], nps := 2, reg := true, body := (.cons (.ret (.tup (.cons (.idx (.var 0) (.int 0)) (.cons (.bin .add (.sli (.idx (.var 0) (.int 1)) .none (.some (.var 1))) (.sli (.idx (.var 0) (.int 1)) (.some (.bin .add (.var 1) (.int 1))) .none)) .nil)))) .nil) }
def d_exchanged : Def := { name := "exchanged", N := ["plan", "index", "deeds"], nps := 2, reg := true, body := (.cons (.set 2 (.idx (.var 0) (.int 1))) (.cons (.ret (.tup (.cons (.idx (.var 0) (.int 0)) (.cons (.bin .add (.bin .add (.sli (.var 2) .none (.some (.var 1))) (.tup (.cons (.idx (.var 2) (.bin .add (.var 1) (.int 1))) (.cons (.idx (.var 2) (.var 1)) .nil)))) (.sli (.var 2) (.some (.bin .add (.var 1) (.int 2))) .none)) .nil)))) .nil)) }
def l_idle_deeds_0 : Ex := (.lc [1] (.nm 1) (.rng1 (.bi .len (.cons (.idx (.var 0) (.int 1)) .nil))) (.some (.cmp .isN (.call f_parting_number (.cons (.var 0) (.cons (.call f_without (.cons (.var 0) (.cons (.var 1) .nil))) .nil))) .non)) (.var 1))
def d_idle_deeds : Def := { name := "idle_deeds", N := ["plan", "index"], nps := 1, reg := true, body := (.cons (.exp (.call f_need_plan (.cons (.var 0) .nil))) (.cons (.ret l_idle_deeds_0) .nil)) }
def l_exchangeable_0 : Ex := (.lc [1] (.nm 1) (.rng1 (.bin .sub (.bi .len (.cons (.idx (.var 0) (.int 1)) .nil)) (.int 1))) (.some (.cmp .isN (.call f_parting_number (.cons (.var 0) (.cons (.call f_exchanged (.cons (.var 0) (.cons (.var 1) .nil))) .nil))) .non)) (.var 1))
def d_exchangeable : Def := { name := "exchangeable", N := ["plan", "index"], nps := 1, reg := true, body := (.cons (.exp (.call f_need_plan (.cons (.var 0) .nil))) (.cons (.ret l_exchangeable_0) .nil)) }
def l_only_parks_0 : Ex := (.lc [2] (.nm 2) (.val (.var 1)) .none (.cmp .eq (.idx (.var 2) (.int 0)) (.str "park")))
def l_only_parks_1 : Ex := (.lc [2] (.nm 2) (.val (.var 1)) .none (.bi .int (.cons (.idx (.var 2) (.int 1)) .nil)))
def d_only_parks : Def := { name := "only_parks", N := ["plan", "deeds", "deed"], nps := 1, reg := true, body := (.cons (.set 1 (.idx (.var 0) (.int 1))) (.cons (.ifs (.or (.not (.chn .le .le (.int 1) (.bi .len (.cons (.var 1) .nil)) (.int 5))) (.not (.bi .all (.cons l_only_parks_0 .nil)))) (.cons (.ret (.bl false)) .nil) .nil) (.cons (.ret (.cmp .eq (.nset l_only_parks_1) (.bi .len (.cons (.var 1) .nil)))) .nil))) }
def d_need_parking : Def := { name := "need_parking", N := ["plan"], nps := 1, reg := true, body := (.cons (.exp (.call f_need_plan (.cons (.var 0) .nil))) (.cons (.ifs (.not (.call f_only_parks (.cons (.var 0) .nil))) (.cons .nev .nil) .nil) .nil)) }
def l_all_orders_0 : Ex := (.lc [5] (.nm 5) (.rng1 (.var 0)) (.some (.cmp .nin (.var 5) (.var 4))) (.bin .add (.var 4) (.tup (.cons (.var 5) .nil))))
def b_all_orders_0 : Sxs := (.cons (.set 3 (.bin .add (.var 3) l_all_orders_0)) .nil)
def b_all_orders_1 : Sxs := (.cons (.set 3 (.lst .nil)) (.cons (.for_ (.nm 4) (.val (.var 1)) b_all_orders_0) (.cons (.set 1 (.var 3)) .nil)))
def d_all_orders : Def := { name := "all_orders", N := ["many", "found", "turn", "longer", "line", "index"], nps := 1, reg := true, body := (.cons (.set 1 (.lst (.cons (.tup .nil) .nil))) (.cons (.for_ (.nm 2) (.rng1 (.var 0)) b_all_orders_1) (.cons (.ret (.var 1)) .nil))) }
def l_ruled_0 : Ex := (.lc [2] (.nm 2) (.val (.idx (.var 0) (.int 1))) .none (.bin .add (.sli (.var 2) .none (.some (.int 2))) (.tup (.cons (.var 1) .nil))))
def d_ruled : Def := { name := "ruled", N := ["plan", "rule", "deed"], nps := 2, reg := true, body := (.cons (.ret (.tup (.cons (.idx (.var 0) (.int 0)) (.cons (.bi .tuple (.cons l_ruled_0 .nil)) .nil)))) .nil) }
def l_ordered_0 : Ex := (.lc [2] (.nm 2) (.val (.var 1)) .none (.idx (.idx (.var 0) (.int 1)) (.var 2)))
def d_ordered : Def := { name := "ordered", N := ["plan", "order", "index"], nps := 2, reg := true, body := (.cons (.ret (.tup (.cons (.idx (.var 0) (.int 0)) (.cons (.bi .tuple (.cons l_ordered_0 .nil)) .nil)))) .nil) }
def b_best_told_0 : Sxs := (.cons (.set 9 (.call f_last_of (.cons (.var 4) (.cons (.var 3) .nil)))) (.cons (.par 7 8 (.cons (.bin .add (.var 7) (.lst (.cons (.bin .mul (.var 2) (.bi .len (.cons (.idx (.var 9) (.str "row")) .nil))) .nil))) (.cons (.bin .add (.var 8) (.idx (.var 9) (.str "asked"))) .nil))) .nil))
def l_best_told_0 : Ex := (.lc [10] (.nm 10) (.val (.var 7)) .none (.bi .int (.cons (.var 10) .nil)))
def l_best_told_1 : Ex := (.lc [11, 10] (.tp (.cons (.nm 11) (.cons (.nm 10) .nil))) (.zip (.var 0) (.var 7)) (.some (.cmp .eq (.var 10) (.var 5))) (.var 11))
def d_best_told : Def := { name := "best_told", N := ["choices", "plans", "sign", "n", "plan", "best", "some", "counts", "asked", "state", "count", "choice"], nps := 4, reg := true, body := (.cons (.par 7 8 (.cons (.lst .nil) (.cons (.tup .nil) .nil))) (.cons (.for_ (.nm 4) (.val (.var 1)) b_best_told_0) (.cons (.set 5 (.bi .max1 (.cons l_best_told_0 .nil))) (.cons (.set 6 (.bi .tuple (.cons l_best_told_1 .nil))) (.cons (.ret (.tup (.cons (.tup (.cons (.bin .mul (.var 2) (.var 5)) (.cons (.var 6) .nil))) (.cons (.var 8) .nil)))) .nil))))) }
def l_rows_of_orders_0 : Ex := (.lc [4] (.nm 4) (.val (.var 2)) .none (.call f_ordered (.cons (.var 0) (.cons (.var 4) .nil))))
def m_rows_of_orders_0 : Ex := (.call f_best_told (.cons (.var 1) (.cons (.var 2) (.cons (.var 3) (.cons (.var 0) .nil)))))
def d_rows_of_orders : Def := { name := "rows_of_orders", N := ["plan", "sign", "orders", "plans", "order"], nps := 2, reg := true, body := (.cons (.set 2 (.call f_all_orders (.cons (.bi .len (.cons (.idx (.var 0) (.int 1)) .nil)) .nil))) (.cons (.set 3 l_rows_of_orders_0) (.cons (.ret (.callL f_rows_by .nil 1 [2, 3, 1] m_rows_of_orders_0)) .nil))) }
def l_best_rules_0 : Ex := (.lc [2] (.nm 2) (.val (.con c_RULES)) .none (.call f_ruled (.cons (.var 0) (.cons (.var 2) .nil))))
def m_best_rules_0 : Ex := (.call f_best_told (.cons (.con c_RULES) (.cons (.var 1) (.cons (.int 1) (.cons (.var 0) .nil)))))
def d_best_rules : Def := { name := "best_rules", N := ["plan", "plans", "rule"], nps := 1, reg := true, body := (.cons (.exp (.call f_need_parking (.cons (.var 0) .nil))) (.cons (.set 1 l_best_rules_0) (.cons (.ret (.callL f_rows_by .nil 1 [1] m_best_rules_0)) .nil))) }
def d_best_orders : Def := { name := "best_orders", N := ["plan"], nps := 1, reg := true, body := (.cons (.exp (.call f_need_parking (.cons (.var 0) .nil))) (.cons (.ret (.call f_rows_of_orders (.cons (.var 0) (.cons (.int 1) .nil)))) .nil)) }
def d_worst_orders : Def := { name := "worst_orders", N := ["plan"], nps := 1, reg := true, body := (.cons (.exp (.call f_need_parking (.cons (.var 0) .nil))) (.cons (.ret (.call f_rows_of_orders (.cons (.var 0) (.cons (.neg (.int 1)) .nil)))) .nil)) }
def b__law_parkers_0 : Sxs := (.cons (.set 2 (.bin .add (.var 2) (.tup (.cons (.bin .add (.int 2) (.call f__law_draw (.cons (.var 0) (.cons (.int 8) .nil)))) .nil)))) (.cons (.set 3 (.bin .add (.tup (.cons (.tup (.cons (.str "park") (.cons (.var 1) (.cons (.call f__law_rule (.cons (.var 0) .nil)) .nil)))) .nil)) (.var 3))) .nil))
def d__law_parkers : Def := { name := "_law_parkers", N := ["source", "car", "lengths", "deeds"], nps := 1, reg := false, body := (.cons (.unp (.tp (.cons (.nm 2) (.cons (.nm 3) .nil))) (.tup (.cons (.tup .nil) (.cons (.tup .nil) .nil)))) (.cons (.for_ (.nm 1) (.rng1 (.bin .add (.int 1) (.call f__law_draw (.cons (.var 0) (.cons (.int 4) .nil))))) b__law_parkers_0) (.cons (.ret (.tup (.cons (.var 2) (.cons (.var 3) .nil)))) .nil))) }
def d_is_fact : Def := { name := "is_fact", N := ["plan", "value"], nps := 2, reg := true, body := (.cons (.ifs (.not (.call f_is_tuple (.cons (.var 1) (.cons (.int 3) (.cons (.int 3) .nil))))) (.cons (.ret (.bl false)) .nil) .nil) (.cons (.ifs (.call f_is_word (.cons (.idx (.var 1) (.int 0)) (.cons (.tup (.cons (.str "done") .nil)) .nil))) (.cons (.ret (.and (.call f_is_number (.cons (.idx (.var 1) (.int 1)) (.cons (.int 0) (.cons (.bin .sub (.bi .len (.cons (.idx (.var 0) (.int 1)) .nil)) (.int 1)) .nil)))) (.isi (.idx (.var 1) (.int 2)) .bool))) .nil) .nil) (.cons (.ret (.and (.call f_is_word (.cons (.idx (.var 1) (.int 0)) (.cons (.tup (.cons (.str "at") .nil)) .nil))) (.and (.call f_is_number (.cons (.idx (.var 1) (.int 1)) (.cons (.int 0) (.cons (.bin .sub (.bi .len (.cons (.idx (.var 0) (.int 0)) .nil)) (.int 1)) .nil)))) (.call f_is_number (.cons (.idx (.var 1) (.int 2)) (.cons (.int 0) (.cons (.con c_FAR) .nil))))))) .nil))) }
def l_need_seen_0 : Ex := (.lc [2] (.nm 2) (.val (.var 1)) .none (.call f_is_fact (.cons (.var 0) (.cons (.var 2) .nil))))
def d_need_seen : Def := { name := "need_seen", N := ["plan", "value", "fact"], nps := 2, reg := true, body := (.cons (.ifs (.or (.not (.call f_is_tuple (.cons (.var 1) (.cons (.int 1) (.cons (.int 4) .nil))))) (.not (.bi .all (.cons l_need_seen_0 .nil)))) (.cons .nev .nil) .nil) .nil) }
def d_fact_form : Def := { name := "fact_form", N := ["state", "fact", "form", "word", "at", "told"], nps := 2, reg := true, body := (.cons (.unp (.tp (.cons (.nm 3) (.cons (.nm 4) (.cons (.nm 5) .nil)))) (.var 1)) (.cons (.ifs (.cmp .eq (.var 3) (.str "done")) (.cons (.ret (.tup (.cons (.int 0) (.cons (.ite (.cmp .eq (.idx (.idx (.var 0) (.str "did")) (.var 4)) (.var 5)) (.int 0) (.int 1)) .nil)))) .nil) .nil) (.cons (.set 2 (.call f_place_form (.cons (.var 0) (.cons (.var 4) .nil)))) (.cons (.ret (.ite (.cmp .isN (.var 2) .non) (.tup (.cons (.int 0) (.cons (.int 1) .nil))) (.call f_added (.cons (.var 2) (.cons (.tup (.cons (.int 0) (.cons (.neg (.var 5)) .nil))) .nil))))) .nil)))) }
def l_is_so_0 : Ex := (.lc [5] (.nm 5) (.val (.var 1)) .none (.call f_fact_form (.cons (.var 3) (.cons (.var 5) .nil))))
def l_is_so_1 : Ex := (.lc [6] (.nm 6) (.val (.var 4)) .none (.cmp .eq (.call f_sign_of (.cons (.var 6) (.cons (.var 2) .nil))) (.int 0)))
def d_is_so : Def := { name := "is_so", N := ["plan", "seen", "n", "state", "gaps", "fact", "gap"], nps := 3, reg := true, body := (.cons (.set 3 (.call f_last_of (.cons (.var 0) (.cons (.var 2) .nil)))) (.cons (.set 4 (.bi .tuple (.cons l_is_so_0 .nil))) (.cons (.ret (.tup (.cons (.bi .all (.cons l_is_so_1 .nil)) (.cons (.bin .add (.idx (.var 3) (.str "asked")) (.var 4)) .nil)))) .nil))) }
def m_numbers_told_0 : Ex := (.call f_is_so (.cons (.var 1) (.cons (.var 2) (.cons (.var 0) .nil))))
def d_numbers_told : Def := { name := "numbers_told", N := ["plan", "seen"], nps := 2, reg := true, body := (.cons (.exp (.call f_need_plan (.cons (.var 0) .nil))) (.cons (.exp (.call f_need_seen (.cons (.var 0) (.cons (.var 1) .nil)))) (.cons (.ret (.callL f_rows_by .nil 1 [0, 1] m_numbers_told_0)) .nil))) }
def d_is_seen : Def := { name := "is_seen", N := ["plan", "n", "seen"], nps := 3, reg := true, body := (.cons (.exp (.call f_need_plan (.cons (.var 0) .nil))) (.cons (.exp (.call f_need_n (.cons (.var 1) .nil))) (.cons (.exp (.call f_need_seen (.cons (.var 0) (.cons (.var 2) .nil)))) (.cons (.ret (.idx (.call f_is_so (.cons (.var 0) (.cons (.var 2) (.cons (.var 1) .nil)))) (.int 0))) .nil)))) }
def l_lines_of_0 : Ex := (.lc [5] (.nm 5) (.val (.var 2)) .none (.bi .str (.cons (.var 5) .nil)))
def l_lines_of_1 : Ex := (.lc [6] (.nm 6) (.val (.var 4)) .none (.bi .str (.cons (.var 6) .nil)))
def l_lines_of_2 : Ex := (.lc [4] (.nm 4) (.val (.var 3)) .none (.mth .join (.str " ") (.cons l_lines_of_1 .nil)))
def d_lines_of : Def := { name := "lines_of", N := ["plan", "found", "lengths", "deeds", "deed", "length", "part"], nps := 1, reg := true, body := (.cons (.unp (.tp (.cons (.nm 2) (.cons (.nm 3) .nil))) (.var 0)) (.cons (.set 1 (.lst (.cons (.mth .join (.str " ") (.cons (.bin .add (.lst (.cons (.str "lengths") .nil)) l_lines_of_0) .nil)) .nil))) (.cons (.ret (.bin .add (.var 1) l_lines_of_2)) .nil))) }
def l_part_in_0 : Ex := (.lc [1] (.nm 1) (.rng1 (.int 10)) .none (.bi .str (.cons (.var 1) .nil)))
def d_part_in : Def := { name := "part_in", N := ["word", "number"], nps := 1, reg := true, body := (.cons (.ret (.ite (.cmp .in_ (.var 0) l_part_in_0) (.bi .int (.cons (.var 0) .nil)) (.var 0))) .nil) }
def l_line_in_0 : Ex := (.lc [2] (.nm 2) (.val (.mth .split (.var 0) (.cons (.str " ") .nil))) .none (.call f_part_in (.cons (.var 2) .nil)))
def d_line_in : Def := { name := "line_in", N := ["line", "words", "word"], nps := 1, reg := true, body := (.cons (.set 1 l_line_in_0) (.cons (.ifs (.cmp .eq (.idx (.var 1) (.int 0)) (.str "lengths")) (.cons (.ret (.ite (.call f_are_lengths (.cons (.bi .tuple (.cons (.sli (.var 1) (.some (.int 1)) .none) .nil)) .nil)) (.tup (.cons (.str "lengths") (.cons (.bi .tuple (.cons (.sli (.var 1) (.some (.int 1)) .none) .nil)) .nil))) .non)) .nil) .nil) (.cons (.ret (.ite (.call f_is_deed_of (.cons (.con c_CARS) (.cons (.bi .tuple (.cons (.var 1) .nil)) .nil))) (.tup (.cons (.str "deed") (.cons (.bi .tuple (.cons (.var 1) .nil)) .nil))) .non)) .nil))) }
def l_plan_in_0 : Ex := (.lc [3] (.nm 3) (.val (.mth .split (.var 0) (.cons (.str "\n") .nil))) .none (.call f_line_in (.cons (.var 3) .nil)))
def l_plan_in_1 : Ex := (.lc [4, 5] (.tp (.cons (.nm 4) (.cons (.nm 5) .nil))) (.val (.var 1)) .none (.var 4))
def l_plan_in_2 : Ex := (.lc [4, 5] (.tp (.cons (.nm 4) (.cons (.nm 5) .nil))) (.val (.sli (.var 1) (.some (.int 1)) .none)) .none (.var 5))
def d_plan_in : Def := { name := "plan_in", N := ["value", "found", "plan", "line", "sort", "told"], nps := 1, reg := true, body := (.cons (.ifs (.not (.isi (.var 0) .str)) (.cons .nev .nil) .nil) (.cons (.set 1 l_plan_in_0) (.cons (.ifs (.cmp .in_ .non (.var 1)) (.cons .nev .nil) .nil) (.cons (.ifs (.cmp .ne l_plan_in_1 (.bin .add (.lst (.cons (.str "lengths") .nil)) (.bin .mul (.lst (.cons (.str "deed") .nil)) (.bin .sub (.bi .len (.cons (.var 1) .nil)) (.int 1))))) (.cons .nev .nil) .nil) (.cons (.set 2 (.tup (.cons (.idx (.idx (.var 1) (.int 0)) (.int 1)) (.cons (.bi .tuple (.cons l_plan_in_2 .nil)) .nil)))) (.cons (.ifs (.not (.call f_is_good_plan (.cons (.var 2) .nil))) (.cons .nev .nil) .nil) (.cons (.ret (.var 2)) .nil))))))) }
def d_need_index : Def := { name := "need_index", N := ["plan", "value"], nps := 2, reg := true, body := (.cons (.ifs (.not (.call f_is_number (.cons (.var 1) (.cons (.int 0) (.cons (.bin .sub (.bi .len (.cons (.idx (.var 0) (.int 1)) .nil)) (.int 1)) .nil))))) (.cons .nev .nil) .nil) .nil) }
def d_good_plan : Def := { name := "good_plan", N := ["value"], nps := 1, reg := true, body := (.cons (.exp (.call f_need_plan (.cons (.var 0) .nil))) (.cons (.ret (.var 0)) .nil)) }
def d_fewer : Def := { name := "fewer", N := ["plan", "index"], nps := 2, reg := true, body := (.cons (.exp (.call f_need_index (.cons (.var 0) (.cons (.var 1) .nil)))) (.cons (.ret (.call f_good_plan (.cons (.call f_without (.cons (.var 0) (.cons (.var 1) .nil))) .nil))) .nil)) }
def d_changed : Def := { name := "changed", N := ["plan", "value", "index", "deed"], nps := 2, reg := true, body := (.cons (.ifs (.not (.call f_is_tuple (.cons (.var 1) (.cons (.int 2) (.cons (.int 2) .nil))))) (.cons .nev .nil) .nil) (.cons (.unp (.tp (.cons (.nm 2) (.cons (.nm 3) .nil))) (.var 1)) (.cons (.exp (.call f_need_index (.cons (.var 0) (.cons (.var 2) .nil)))) (.cons (.ret (.call f_good_plan (.cons (.tup (.cons (.idx (.var 0) (.int 0)) (.cons (.bin .add (.bin .add (.sli (.idx (.var 0) (.int 1)) .none (.some (.var 2))) (.tup (.cons (.var 3) .nil))) (.sli (.idx (.var 0) (.int 1)) (.some (.bin .add (.var 2) (.int 1))) .none)) .nil))) .nil))) .nil)))) }
def b__law_as_value_0 : Sxs := (.cons (.set 1 (.bin .add (.var 1) (.var 2))) .nil)
def d__law_as_value : Def := { name := "_law_as_value", N := ["plan", "found", "deed"], nps := 1, reg := true, body := (.cons .nev (.cons (.for_ (.nm 2) (.val (.idx (.var 0) (.int 1))) b__law_as_value_0) (.cons (.ret (.var 1)) .nil))) }
-- ERR ('_law_as_value', 526, 'call Plan')
def d_plan_text : Def := { name := "plan_text", N := ["plan"], nps := 1, reg := true, body := (.cons (.exp (.call f_need_plan (.cons (.var 0) .nil))) (.cons (.ret (.mth .join (.str "\n") (.cons (.call f_lines_of (.cons (.var 0) .nil)) .nil))) .nil)) }
def d_read_plan : Def := { name := "read_plan", N := ["value"], nps := 1, reg := true, body := (.cons (.ret (.call f_plan_in (.cons (.var 0) .nil))) .nil) }
def w__wall_0 : Ex := (.bl true)
def b__wall_0 : Sxs := (.cons .nev .nil)
def d__wall : Def := { name := "_wall", N := ["k"], nps := 1, reg := true, body := (.cons (.whl w__wall_0 b__wall_0) .nil) }
-- ERR ('_wall', 3, 'Pass')
def d_standing : Def := { name := "standing", N := ["now", "car", "place"], nps := 1, reg := true, body := (.cons .nev .nil) }
-- ERR ('standing', 43, 'call sorted')
def b_free_gaps_0 : Sxs := (.cons (.ifs (.cmp .gt (.var 5) (.var 4)) (.cons (.set 3 (.bin .add (.var 3) (.lst (.cons (.tup (.cons (.var 4) (.cons (.bin .sub (.var 5) (.var 4)) .nil))) .nil)))) .nil) .nil) (.cons (.set 4 (.bin .add (.var 5) (.ite (.cmp .ge (.var 6) (.int 0)) (.idx (.var 1) (.var 6)) (.int 0)))) .nil))
def d_free_gaps : Def := { name := "free_gaps", N := ["n", "lengths", "now", "found", "begin", "place", "car"], nps := 3, reg := true, body := (.cons (.par 3 4 (.cons (.lst .nil) (.cons (.int 0) .nil))) (.cons (.for_ (.tp (.cons (.nm 5) (.cons (.nm 6) .nil))) (.val (.bin .add (.call f_standing (.cons (.var 2) .nil)) (.lst (.cons (.tup (.cons (.var 0) (.cons (.neg (.int 1)) .nil))) .nil)))) b_free_gaps_0) (.cons (.ret (.bi .tuple (.cons (.var 3) .nil))) .nil))) }
def l_best_gap_0 : Ex := (.lc [3, 4] (.tp (.cons (.nm 3) (.cons (.nm 4) .nil))) (.val (.var 0)) .none (.bi .int (.cons (.var 4) .nil)))
def d_best_gap : Def := { name := "best_gap", N := ["some", "rule", "sizes", "begin", "size"], nps := 2, reg := true, body := (.cons (.ifs (.or (.cmp .eq (.var 1) (.str "front")) (.cmp .eq (.var 1) (.str "back"))) (.cons (.ret (.ite (.cmp .eq (.var 1) (.str "front")) (.idx (.var 0) (.int 0)) (.idx (.var 0) (.neg (.int 1))))) .nil) .nil) (.cons (.set 2 l_best_gap_0) (.cons (.ret (.idx (.var 0) (.mth .index (.var 2) (.cons (.ite (.cmp .eq (.var 1) (.str "tight")) (.bi .min1 (.cons (.var 2) .nil)) (.bi .max1 (.cons (.var 2) .nil))) .nil)))) .nil))) }
def l_spot_for_0 : Ex := (.lc [8] (.nm 8) (.val (.call f_free_gaps (.cons (.var 0) (.cons (.var 1) (.cons (.var 2) .nil))))) (.some (.cmp .ge (.idx (.var 8) (.int 1)) (.var 3))) (.var 8))
def d_spot_for : Def := { name := "spot_for", N := ["n", "lengths", "now", "length", "rule", "some", "begin", "size", "gap"], nps := 5, reg := true, body := (.cons (.set 5 l_spot_for_0) (.cons (.ifs (.cmp .eq (.var 5) (.lst .nil)) (.cons (.ret .non) .nil) .nil) (.cons (.unp (.tp (.cons (.nm 6) (.cons (.nm 7) .nil))) (.call f_best_gap (.cons (.var 5) (.cons (.var 4) .nil)))) (.cons (.ret (.ite (.cmp .eq (.var 4) (.str "back")) (.bin .sub (.bin .add (.var 6) (.var 7)) (.var 3)) (.var 6))) .nil)))) }
def d_with_place : Def := { name := "with_place", N := ["now", "car", "place"], nps := 3, reg := true, body := (.cons (.ret (.bin .add (.bin .add (.sli (.var 0) .none (.some (.var 1))) (.tup (.cons (.var 2) .nil))) (.sli (.var 0) (.some (.bin .add (.var 1) (.int 1))) .none))) .nil) }
def l_pulled_0 : Ex := (.lc [5, 6] (.tp (.cons (.nm 5) (.cons (.nm 6) .nil))) (.val (.call f_free_gaps (.cons (.var 0) (.cons (.var 1) (.cons (.var 2) .nil))))) (.some (.cmp .eq (.bin .add (.var 5) (.var 6)) (.idx (.var 2) (.var 3)))) (.var 5))
def d_pulled : Def := { name := "pulled", N := ["n", "lengths", "now", "car", "found", "begin", "size"], nps := 4, reg := true, body := (.cons (.set 4 l_pulled_0) (.cons (.ret (.ite (.cmp .ne (.var 4) (.lst .nil)) (.idx (.var 4) (.int 0)) .non)) .nil)) }
def l_dropped_0 : Ex := (.lc [6, 7] (.tp (.cons (.nm 6) (.cons (.nm 7) .nil))) (.val (.call f_free_gaps (.cons (.var 0) (.cons (.var 1) (.cons (.var 2) .nil))))) (.some (.cmp .eq (.var 6) (.var 4))) (.bin .add (.idx (.var 2) (.var 3)) (.var 7)))
def d_dropped : Def := { name := "dropped", N := ["n", "lengths", "now", "car", "end", "found", "begin", "size"], nps := 4, reg := true, body := (.cons (.set 4 (.bin .add (.idx (.var 2) (.var 3)) (.idx (.var 1) (.var 3)))) (.cons (.set 5 l_dropped_0) (.cons (.ret (.ite (.cmp .ne (.var 5) (.lst .nil)) (.idx (.var 5) (.int 0)) .non)) .nil))) }
def d_done_now : Def := { name := "done_now", N := ["n", "lengths", "now", "deed", "car", "place"], nps := 4, reg := true, body := (.cons (.set 4 (.idx (.var 3) (.int 1))) (.cons (.ifs (.cmp .eq (.idx (.var 3) (.int 0)) (.str "park")) (.cons (.set 5 (.ite (.cmp .isN (.idx (.var 2) (.var 4)) .non) (.call f_spot_for (.cons (.var 0) (.cons (.var 1) (.cons (.var 2) (.cons (.idx (.var 1) (.var 4)) (.cons (.idx (.var 3) (.int 2)) .nil)))))) .non)) (.cons (.ret (.ite (.cmp .isN (.var 5) .non) .non (.call f_with_place (.cons (.var 2) (.cons (.var 4) (.cons (.var 5) .nil)))))) .nil)) .nil) (.cons (.ifs (.cmp .isN (.idx (.var 2) (.var 4)) .non) (.cons (.ret .non) .nil) .nil) (.cons (.ifs (.cmp .eq (.idx (.var 3) (.int 0)) (.str "leave")) (.cons (.ret (.call f_with_place (.cons (.var 2) (.cons (.var 4) (.cons .non .nil))))) .nil) .nil) (.cons (.set 5 (.ite (.cmp .eq (.idx (.var 3) (.int 0)) (.str "pull")) (.call f_pulled (.cons (.var 0) (.cons (.var 1) (.cons (.var 2) (.cons (.var 4) .nil))))) (.call f_dropped (.cons (.var 0) (.cons (.var 1) (.cons (.var 2) (.cons (.var 4) .nil))))))) (.cons (.ret (.ite (.cmp .isN (.var 5) .non) .non (.call f_with_place (.cons (.var 2) (.cons (.var 4) (.cons (.var 5) .nil)))))) .nil)))))) }
def l__law_led_0 : Ex := (.lc [8, 7] (.tp (.cons (.nm 8) (.cons (.nm 7) .nil))) (.val (.var 4)) .none (.tup (.cons (.var 7) (.cons (.tup (.cons (.int 0) (.cons (.var 8) .nil))) .nil))))
def l__law_led_1 : Ex := (.lc [7, 9] (.tp (.cons (.nm 7) (.cons (.nm 9) .nil))) (.val (.var 6)) .none (.tup (.cons (.var 7) (.cons (.call f__law_value (.cons (.var 9) (.cons (.var 0) .nil))) .nil))))
def d__law_led : Def := { name := "_law_led", N := ["n", "lengths", "now", "deed", "pairs", "line", "later", "car", "place", "form"], nps := 4, reg := true, body := (.cons .nev (.cons (.set 5 l__law_led_0) (.cons (.set 6 (.call f__law_step (.cons (.var 1) (.cons (.var 5) (.cons (.var 3) (.cons (.var 0) .nil)))))) (.cons (.ifs (.cmp .isN (.var 6) .non) (.cons (.ret .non) .nil) .nil) (.cons (.ret (.bi .dict (.cons l__law_led_1 .nil))) .nil))))) }
-- ERR ('_law_led', 266, 'call sorted')
def d__law_free : Def := { name := "_law_free", N := ["n", "lengths", "now", "found", "begin", "place", "car"], nps := 3, reg := true, body := (.cons (.par 3 4 (.cons (.newc (.lst .nil)) (.cons (.int 0) .nil))) (.cons .nev (.cons (.frz 3) (.cons (.ret (.bin .add (.var 3) (.ite (.cmp .lt (.var 4) (.var 0)) (.lst (.cons (.tup (.cons (.var 4) (.cons (.bin .sub (.var 0) (.var 4)) .nil))) .nil)) (.lst .nil)))) .nil)))) }
-- ERR ('_law_free', 274, 'call sorted')
def l__law_shows_0 : Ex := (.lc [10] (.nm 10) (.rng1 (.bi .len (.cons (.var 2) .nil))) .none (.mth .get (.var 3) (.cons (.var 10) (.cons .non .nil))))
def l__law_shows_1 : Ex := (.lc [15, 16] (.tp (.cons (.nm 15) (.cons (.nm 16) .nil))) (.val (.var 6)) .none (.bi .int (.cons (.var 16) .nil)))
def l__law_shows_2 : Ex := (.lc [10] (.nm 10) (.val (.var 3)) .none (.idx (.var 3) (.var 10)))
def b__law_shows_0 : Sxs := (.cons (.ifs (.and (.cmp .le (.idx (.var 3) (.var 10)) (.var 8)) (.cmp .lt (.var 8) (.bin .add (.idx (.var 3) (.var 10)) (.idx (.var 2) (.var 10))))) (.cons (.set 12 (.var 10)) .nil) .nil) .nil)
def b__law_shows_1 : Sxs := (.cons (.set 12 .non) (.cons (.for_ (.nm 10) (.val (.var 3)) b__law_shows_0) (.cons (.ifs (.cmp .ne (.idx (.var 0) (.var 8)) (.var 12)) (.cons (.ret (.bl false)) .nil) .nil) .nil)))
def l__law_shows_3 : Ex := (.lc [17] (.nm 17) (.val (.var 6)) (.some (.cmp .ge (.idx (.var 17) (.int 1)) (.var 9))) (.var 17))
def b__law_shows_2 : Sxs := (.cons (.set 13 l__law_shows_3) (.cons (.set 12 (.lst (.cons .non (.cons .non .nil)))) (.cons (.ifs (.cmp .ne (.var 13) (.lst .nil)) (.cons (.set 12 (.lst (.cons (.idx (.idx (.var 13) (.int 0)) (.int 0)) (.cons (.bin .sub (.bin .add (.idx (.idx (.var 13) (.neg (.int 1))) (.int 0)) (.idx (.idx (.var 13) (.neg (.int 1))) (.int 1))) (.var 9)) .nil)))) .nil) .nil) (.cons .nev .nil))))
def b__law_shows_3 : Sxs := (.cons (.ifs (.cmp .ne (.cmp .in_ (.var 10) (.var 0)) (.cmp .in_ (.var 10) (.var 3))) (.cons (.ret (.bl false)) .nil) .nil) .nil)
def d__law_shows : Def := { name := "_law_shows", N := ["kerb", "n", "lengths", "now", "many", "spots", "free", "sizes", "foot", "length", "car", "lines", "due", "some", "place", "begin", "size", "pair"], nps := 5, reg := true, body := (.cons (.set 5 (.bi .tuple (.cons l__law_shows_0 .nil))) (.cons (.set 6 (.call f__law_free (.cons (.var 1) (.cons (.var 2) (.cons (.var 3) .nil))))) (.cons .nev (.cons .nev (.cons (.set 7 l__law_shows_1) (.cons .nev (.cons .nev (.cons (.for_ (.nm 8) (.val (.bin .add (.lst (.cons (.int 0) (.cons (.bin .fdiv (.var 1) (.int 2)) (.cons (.bin .sub (.var 1) (.int 1)) .nil)))) l__law_shows_2)) b__law_shows_1) (.cons (.for_ (.nm 9) (.val (.lst (.cons (.int 1) (.cons (.int 4) (.cons (.var 1) .nil))))) b__law_shows_2) (.cons (.for_ (.nm 10) (.rng1 (.int 6)) b__law_shows_3) (.cons (.set 11 (.newc (.lst .nil))) (.cons .nev (.cons (.frz 11) (.cons .nev .nil)))))))))))))) }
-- ERR ('_law_shows', 282, 'Attribute')
-- ERR ('_law_shows', 284, 'Attribute')
-- ERR ('_law_shows', 287, 'Attribute')
-- ERR ('_law_shows', 289, 'call bool')
-- ERR ('_law_shows', 303, 'call')
-- ERR ('_law_shows', 309, 'call sorted')
-- ERR ('_law_shows', 311, 'call')
def d__law_error : Def := { name := "_law_error", N := ["call", "found", "some", "labels", "every", "label", "truth"], nps := 1, reg := true, body := (.cons (.set 1 (.lst .nil)) (.cons .nev (.cons (.ret (.mth .join (.str " ") (.cons (.var 1) .nil))) .nil))) }
-- ERR ('_law_error', 404, 'Try')
def baseL : List Def := [d_is_number, d_is_tuple, d_is_word, d_is_deed_of, d_are_lengths, d_is_good_plan, d_need_plan, d_is_plan, d_is_deed, d__law_source, d__law_draw, d__law_of, d__law_rule, d__law_deed, d__law_plan, d_need_n, d_added, d_less, d_worth, d_sign_of, d_begun, d_asks, d_all_gaps, d_is_fit, d_better, d_choice, d_place_in, d_parked, d_spot_of, d_shifted, d_do, d_last_of, d_place_form, d_gap_forms, d_places_of, d_cars_of, d_done, d_places, d_gaps, d_row, d__law_n, d__law_value, d__law_less, d__law_spaces, d__law_chosen, d__law_step, d__law_run, d__law_forms, d__law_places, d__law_gaps, d__law_known, d_need_car, d_same_to, d_until, d_joined, d_rows_by, d_seen_last, d_by_last, d_need_both, d_done_rows, d_place_rows, d_gap_rows, d_row_rows, d__law_spots, d__law_told_at, d__law_are_rows, d_widest, d_all_parked, d_room, d_room_rows, d_would_fit, d_sure_from, d_parked_rows, d_least_with, d_same_places, d_like_told, d_parting_number, d_need_two, d_alike, d_parting, d__law_near, d_without, d_exchanged, d_idle_deeds, d_exchangeable, d_only_parks, d_need_parking, d_all_orders, d_ruled, d_ordered, d_best_told, d_rows_of_orders, d_best_rules, d_best_orders, d_worst_orders, d__law_parkers, d_is_fact, d_need_seen, d_fact_form, d_is_so, d_numbers_told, d_is_seen, d_lines_of, d_part_in, d_line_in, d_plan_in, d_need_index, d_good_plan, d_fewer, d_changed, d__law_as_value, d_plan_text, d_read_plan, d__wall, d_standing, d_free_gaps, d_best_gap, d_spot_for, d_with_place, d_pulled, d_dropped, d_done_now, d__law_led, d__law_free, d__law_shows, d__law_error]
def baseC : List D := [(.int 10), (.int (10 ^ 30)), (.tup [.str "back", .str "front", .str "tight", .str "wide"]), (.int 5), (.int (10 ^ 32)), (.int 40)]
/-- the shared defs and constants have their numbers -/
class Lw.Std (L : Lw) : Prop where
  f : ∀ i d, baseL[i]? = some d → L.tf i = some d
  c : ∀ i d, baseC[i]? = some d → L.cons i = d
def tfOf (own : List Def) (i : Nat) : Option Def := if i < 1000 then baseL[i]? else own[i - 1000]?
def consOf (i : Nat) : D := baseC[i]?.getD .non
theorem tfOf_base (own : List Def) {i : Nat} {d : Def} (h : baseL[i]? = some d) : tfOf own i = some d := by
  have := (List.getElem?_eq_some_iff.mp h).1
  have e : baseL.length < 1000 := by decide
  exact (if_pos (Nat.lt_trans this e)).trans h
theorem consOf_base {i : Nat} {d : D} (h : baseC[i]? = some d) : consOf i = d := by
  unfold consOf
  rw [h]
  rfl
section
variable {L : Lw} [s : L.Std]
theorem h_is_number : L.tf f_is_number = some d_is_number := s.f 0 _ rfl
theorem h_is_tuple : L.tf f_is_tuple = some d_is_tuple := s.f 1 _ rfl
theorem h_is_word : L.tf f_is_word = some d_is_word := s.f 2 _ rfl
theorem h_is_deed_of : L.tf f_is_deed_of = some d_is_deed_of := s.f 3 _ rfl
theorem h_are_lengths : L.tf f_are_lengths = some d_are_lengths := s.f 4 _ rfl
theorem h_is_good_plan : L.tf f_is_good_plan = some d_is_good_plan := s.f 5 _ rfl
theorem h_need_plan : L.tf f_need_plan = some d_need_plan := s.f 6 _ rfl
theorem h_is_plan : L.tf f_is_plan = some d_is_plan := s.f 7 _ rfl
theorem h_is_deed : L.tf f_is_deed = some d_is_deed := s.f 8 _ rfl
theorem h__law_source : L.tf f__law_source = some d__law_source := s.f 9 _ rfl
theorem h__law_draw : L.tf f__law_draw = some d__law_draw := s.f 10 _ rfl
theorem h__law_of : L.tf f__law_of = some d__law_of := s.f 11 _ rfl
theorem h__law_rule : L.tf f__law_rule = some d__law_rule := s.f 12 _ rfl
theorem h__law_deed : L.tf f__law_deed = some d__law_deed := s.f 13 _ rfl
theorem h__law_plan : L.tf f__law_plan = some d__law_plan := s.f 14 _ rfl
theorem h_need_n : L.tf f_need_n = some d_need_n := s.f 15 _ rfl
theorem h_added : L.tf f_added = some d_added := s.f 16 _ rfl
theorem h_less : L.tf f_less = some d_less := s.f 17 _ rfl
theorem h_worth : L.tf f_worth = some d_worth := s.f 18 _ rfl
theorem h_sign_of : L.tf f_sign_of = some d_sign_of := s.f 19 _ rfl
theorem h_begun : L.tf f_begun = some d_begun := s.f 20 _ rfl
theorem h_asks : L.tf f_asks = some d_asks := s.f 21 _ rfl
theorem h_all_gaps : L.tf f_all_gaps = some d_all_gaps := s.f 22 _ rfl
theorem h_is_fit : L.tf f_is_fit = some d_is_fit := s.f 23 _ rfl
theorem h_better : L.tf f_better = some d_better := s.f 24 _ rfl
theorem h_choice : L.tf f_choice = some d_choice := s.f 25 _ rfl
theorem h_place_in : L.tf f_place_in = some d_place_in := s.f 26 _ rfl
theorem h_parked : L.tf f_parked = some d_parked := s.f 27 _ rfl
theorem h_spot_of : L.tf f_spot_of = some d_spot_of := s.f 28 _ rfl
theorem h_shifted : L.tf f_shifted = some d_shifted := s.f 29 _ rfl
theorem h_do : L.tf f_do = some d_do := s.f 30 _ rfl
theorem h_last_of : L.tf f_last_of = some d_last_of := s.f 31 _ rfl
theorem h_place_form : L.tf f_place_form = some d_place_form := s.f 32 _ rfl
theorem h_gap_forms : L.tf f_gap_forms = some d_gap_forms := s.f 33 _ rfl
theorem h_places_of : L.tf f_places_of = some d_places_of := s.f 34 _ rfl
theorem h_cars_of : L.tf f_cars_of = some d_cars_of := s.f 35 _ rfl
theorem h_done : L.tf f_done = some d_done := s.f 36 _ rfl
theorem h_places : L.tf f_places = some d_places := s.f 37 _ rfl
theorem h_gaps : L.tf f_gaps = some d_gaps := s.f 38 _ rfl
theorem h_row : L.tf f_row = some d_row := s.f 39 _ rfl
theorem h__law_n : L.tf f__law_n = some d__law_n := s.f 40 _ rfl
theorem h__law_value : L.tf f__law_value = some d__law_value := s.f 41 _ rfl
theorem h__law_less : L.tf f__law_less = some d__law_less := s.f 42 _ rfl
theorem h__law_spaces : L.tf f__law_spaces = some d__law_spaces := s.f 43 _ rfl
theorem h__law_chosen : L.tf f__law_chosen = some d__law_chosen := s.f 44 _ rfl
theorem h__law_step : L.tf f__law_step = some d__law_step := s.f 45 _ rfl
theorem h__law_run : L.tf f__law_run = some d__law_run := s.f 46 _ rfl
theorem h__law_forms : L.tf f__law_forms = some d__law_forms := s.f 47 _ rfl
theorem h__law_places : L.tf f__law_places = some d__law_places := s.f 48 _ rfl
theorem h__law_gaps : L.tf f__law_gaps = some d__law_gaps := s.f 49 _ rfl
theorem h__law_known : L.tf f__law_known = some d__law_known := s.f 50 _ rfl
theorem h_need_car : L.tf f_need_car = some d_need_car := s.f 51 _ rfl
theorem h_same_to : L.tf f_same_to = some d_same_to := s.f 52 _ rfl
theorem h_until : L.tf f_until = some d_until := s.f 53 _ rfl
theorem h_joined : L.tf f_joined = some d_joined := s.f 54 _ rfl
theorem h_rows_by : L.tf f_rows_by = some d_rows_by := s.f 55 _ rfl
theorem h_seen_last : L.tf f_seen_last = some d_seen_last := s.f 56 _ rfl
theorem h_by_last : L.tf f_by_last = some d_by_last := s.f 57 _ rfl
theorem h_need_both : L.tf f_need_both = some d_need_both := s.f 58 _ rfl
theorem h_done_rows : L.tf f_done_rows = some d_done_rows := s.f 59 _ rfl
theorem h_place_rows : L.tf f_place_rows = some d_place_rows := s.f 60 _ rfl
theorem h_gap_rows : L.tf f_gap_rows = some d_gap_rows := s.f 61 _ rfl
theorem h_row_rows : L.tf f_row_rows = some d_row_rows := s.f 62 _ rfl
theorem h__law_spots : L.tf f__law_spots = some d__law_spots := s.f 63 _ rfl
theorem h__law_told_at : L.tf f__law_told_at = some d__law_told_at := s.f 64 _ rfl
theorem h__law_are_rows : L.tf f__law_are_rows = some d__law_are_rows := s.f 65 _ rfl
theorem h_widest : L.tf f_widest = some d_widest := s.f 66 _ rfl
theorem h_all_parked : L.tf f_all_parked = some d_all_parked := s.f 67 _ rfl
theorem h_room : L.tf f_room = some d_room := s.f 68 _ rfl
theorem h_room_rows : L.tf f_room_rows = some d_room_rows := s.f 69 _ rfl
theorem h_would_fit : L.tf f_would_fit = some d_would_fit := s.f 70 _ rfl
theorem h_sure_from : L.tf f_sure_from = some d_sure_from := s.f 71 _ rfl
theorem h_parked_rows : L.tf f_parked_rows = some d_parked_rows := s.f 72 _ rfl
theorem h_least_with : L.tf f_least_with = some d_least_with := s.f 73 _ rfl
theorem h_same_places : L.tf f_same_places = some d_same_places := s.f 74 _ rfl
theorem h_like_told : L.tf f_like_told = some d_like_told := s.f 75 _ rfl
theorem h_parting_number : L.tf f_parting_number = some d_parting_number := s.f 76 _ rfl
theorem h_need_two : L.tf f_need_two = some d_need_two := s.f 77 _ rfl
theorem h_alike : L.tf f_alike = some d_alike := s.f 78 _ rfl
theorem h_parting : L.tf f_parting = some d_parting := s.f 79 _ rfl
theorem h__law_near : L.tf f__law_near = some d__law_near := s.f 80 _ rfl
theorem h_without : L.tf f_without = some d_without := s.f 81 _ rfl
theorem h_exchanged : L.tf f_exchanged = some d_exchanged := s.f 82 _ rfl
theorem h_idle_deeds : L.tf f_idle_deeds = some d_idle_deeds := s.f 83 _ rfl
theorem h_exchangeable : L.tf f_exchangeable = some d_exchangeable := s.f 84 _ rfl
theorem h_only_parks : L.tf f_only_parks = some d_only_parks := s.f 85 _ rfl
theorem h_need_parking : L.tf f_need_parking = some d_need_parking := s.f 86 _ rfl
theorem h_all_orders : L.tf f_all_orders = some d_all_orders := s.f 87 _ rfl
theorem h_ruled : L.tf f_ruled = some d_ruled := s.f 88 _ rfl
theorem h_ordered : L.tf f_ordered = some d_ordered := s.f 89 _ rfl
theorem h_best_told : L.tf f_best_told = some d_best_told := s.f 90 _ rfl
theorem h_rows_of_orders : L.tf f_rows_of_orders = some d_rows_of_orders := s.f 91 _ rfl
theorem h_best_rules : L.tf f_best_rules = some d_best_rules := s.f 92 _ rfl
theorem h_best_orders : L.tf f_best_orders = some d_best_orders := s.f 93 _ rfl
theorem h_worst_orders : L.tf f_worst_orders = some d_worst_orders := s.f 94 _ rfl
theorem h__law_parkers : L.tf f__law_parkers = some d__law_parkers := s.f 95 _ rfl
theorem h_is_fact : L.tf f_is_fact = some d_is_fact := s.f 96 _ rfl
theorem h_need_seen : L.tf f_need_seen = some d_need_seen := s.f 97 _ rfl
theorem h_fact_form : L.tf f_fact_form = some d_fact_form := s.f 98 _ rfl
theorem h_is_so : L.tf f_is_so = some d_is_so := s.f 99 _ rfl
theorem h_numbers_told : L.tf f_numbers_told = some d_numbers_told := s.f 100 _ rfl
theorem h_is_seen : L.tf f_is_seen = some d_is_seen := s.f 101 _ rfl
theorem h_lines_of : L.tf f_lines_of = some d_lines_of := s.f 102 _ rfl
theorem h_part_in : L.tf f_part_in = some d_part_in := s.f 103 _ rfl
theorem h_line_in : L.tf f_line_in = some d_line_in := s.f 104 _ rfl
theorem h_plan_in : L.tf f_plan_in = some d_plan_in := s.f 105 _ rfl
theorem h_need_index : L.tf f_need_index = some d_need_index := s.f 106 _ rfl
theorem h_good_plan : L.tf f_good_plan = some d_good_plan := s.f 107 _ rfl
theorem h_fewer : L.tf f_fewer = some d_fewer := s.f 108 _ rfl
theorem h_changed : L.tf f_changed = some d_changed := s.f 109 _ rfl
theorem h__law_as_value : L.tf f__law_as_value = some d__law_as_value := s.f 110 _ rfl
theorem h_plan_text : L.tf f_plan_text = some d_plan_text := s.f 111 _ rfl
theorem h_read_plan : L.tf f_read_plan = some d_read_plan := s.f 112 _ rfl
theorem h__wall : L.tf f__wall = some d__wall := s.f 113 _ rfl
theorem h_standing : L.tf f_standing = some d_standing := s.f 114 _ rfl
theorem h_free_gaps : L.tf f_free_gaps = some d_free_gaps := s.f 115 _ rfl
theorem h_best_gap : L.tf f_best_gap = some d_best_gap := s.f 116 _ rfl
theorem h_spot_for : L.tf f_spot_for = some d_spot_for := s.f 117 _ rfl
theorem h_with_place : L.tf f_with_place = some d_with_place := s.f 118 _ rfl
theorem h_pulled : L.tf f_pulled = some d_pulled := s.f 119 _ rfl
theorem h_dropped : L.tf f_dropped = some d_dropped := s.f 120 _ rfl
theorem h_done_now : L.tf f_done_now = some d_done_now := s.f 121 _ rfl
theorem h__law_led : L.tf f__law_led = some d__law_led := s.f 122 _ rfl
theorem h__law_free : L.tf f__law_free = some d__law_free := s.f 123 _ rfl
theorem h__law_shows : L.tf f__law_shows = some d__law_shows := s.f 124 _ rfl
theorem h__law_error : L.tf f__law_error = some d__law_error := s.f 125 _ rfl
theorem k_LEAST : L.cons c_LEAST = (.int 10) := s.c 0 _ rfl
theorem k_MOST : L.cons c_MOST = (.int (10 ^ 30)) := s.c 1 _ rfl
theorem k_RULES : L.cons c_RULES = (.tup [.str "back", .str "front", .str "tight", .str "wide"]) := s.c 2 _ rfl
theorem k_CARS : L.cons c_CARS = (.int 5) := s.c 3 _ rfl
theorem k_FAR : L.cons c_FAR = (.int (10 ^ 32)) := s.c 4 _ rfl
theorem k_LIMIT : L.cons c_LIMIT = (.int 40) := s.c 5 _ rfl
end
end KI


set_option Elab.async false
set_option linter.all false
set_option maxRecDepth 100000
set_option autoImplicit false
set_option maxHeartbeats 1000000
/-! The defs that many laws share: what they compute. -/
namespace KI
open PySem

/-! ### good values: none, bools, ints, texts, tuples and lists of such -/
mutual
def gd : Nat → Nat → D → Bool
  | _, _, .non | _, _, .bl _ | _, _, .int _ => true
  | _, _, .str x => x.cps.all (· < 0x110000)
  | h + 1, w, .tup xs => decide (xs.length ≤ w) && gdL h w xs
  | h + 1, w, .lst xs => decide (xs.length ≤ w) && gdL h w xs
  | _, _, _ => false
def gdL : Nat → Nat → List D → Bool
  | _, _, [] => true
  | h, w, x :: xs => gd h w x && gdL h w xs
end
theorem gdL_mem {h w : Nat} : ∀ {xs : List D}, gdL h w xs = true → ∀ x ∈ xs, gd h w x = true
  | [], _, x, hx => nomatch hx
  | y :: ys, g, x, hx => by
    obtain ⟨g1, g2⟩ := ba (show (gd h w y && gdL h w ys) = true from g)
    rcases List.mem_cons.mp hx with e | hx
    · rw [e]; exact g1
    · exact gdL_mem g2 x hx
theorem gdL_of {h w : Nat} : ∀ {xs : List D}, (∀ x ∈ xs, gd h w x = true) → gdL h w xs = true
  | [], _ => rfl
  | y :: ys, g => by
    show (gd h w y && gdL h w ys) = true
    rw [g y List.mem_cons_self, gdL_of fun x hx => g x (List.mem_cons_of_mem _ hx)]
    rfl
mutual
theorem gd_shp : ∀ (h w : Nat) (d : D), gd h w d = true → shp h d = true
  | 0, _, .non, _ | 0, _, .bl _, _ | 0, _, .int _, _ | _ + 1, _, .non, _ | _ + 1, _, .bl _, _ | _ + 1, _, .int _, _ => rfl
  | 0, _, .str x, g | _ + 1, _, .str x, g => g
  | h + 1, w, .tup xs, g => gdL_shp h w xs (ba g).2
  | h + 1, w, .lst xs, g => gdL_shp h w xs (ba g).2
  | 0, _, .tup _, g | 0, _, .lst _, g => by cases g
  | 0, _, .dic _, g | _ + 1, _, .dic _, g | 0, _, .ro _, g | _ + 1, _, .ro _, g | 0, _, .cell _, g | _ + 1, _, .cell _, g => by cases g
theorem gdL_shp : ∀ (h w : Nat) (ds : List D), gdL h w ds = true → shpL h ds = true
  | _, _, [], _ => rfl
  | h, w, d :: ds, g => by
    obtain ⟨g1, g2⟩ := ba (show (gd h w d && gdL h w ds) = true from g)
    show (shp h d && shpL h ds) = true
    rw [gd_shp h w d g1, gdL_shp h w ds g2]
    rfl
end
mutual
theorem gd_pure : ∀ (h w : Nat) (d : D), gd h w d = true → d.pure = true
  | 0, _, .non, _ | 0, _, .bl _, _ | 0, _, .int _, _ | _ + 1, _, .non, _ | _ + 1, _, .bl _, _ | _ + 1, _, .int _, _ => rfl
  | 0, _, .str x, g | _ + 1, _, .str x, g => rfl
  | h + 1, w, .tup xs, g => gdL_pure h w xs (ba g).2
  | h + 1, w, .lst xs, g => gdL_pure h w xs (ba g).2
  | 0, _, .tup _, g | 0, _, .lst _, g => by cases g
  | 0, _, .dic _, g | _ + 1, _, .dic _, g | 0, _, .ro _, g | _ + 1, _, .ro _, g | 0, _, .cell _, g | _ + 1, _, .cell _, g => by cases g
theorem gdL_pure : ∀ (h w : Nat) (ds : List D), gdL h w ds = true → pureL ds = true
  | _, _, [], _ => rfl
  | h, w, d :: ds, g => by
    obtain ⟨g1, g2⟩ := ba (show (gd h w d && gdL h w ds) = true from g)
    show (d.pure && pureL ds) = true
    rw [gd_pure h w d g1, gdL_pure h w ds g2]
    rfl
end
theorem shp_le {d : D} : ∀ {h k : Nat}, h ≤ k → shp h d = true → shp k d = true
  | h, 0, le, g => by
    have : h = 0 := by omega
    subst this
    exact g
  | h, k + 1, le, g => by
    by_cases e : h = k + 1
    · subst e; exact g
    · exact shp_succ k d (shp_le (by omega) g)
theorem shpL_le {ds : List D} : ∀ {h k : Nat}, h ≤ k → shpL h ds = true → shpL k ds = true
  | h, 0, le, g => by
    have : h = 0 := by omega
    subst this
    exact g
  | h, k + 1, le, g => by
    by_cases e : h = k + 1
    · subst e; exact g
    · exact shpL_succ k ds (shpL_le (by omega) g)
mutual
theorem gd_le : ∀ {h k w v : Nat} (d : D), h ≤ k → w ≤ v → gd h w d = true → gd k v d = true
  | 0, 0, _, _, .non, _, _, _ | 0, _ + 1, _, _, .non, _, _, _ | _ + 1, 0, _, _, .non, _, _, _ | _ + 1, _ + 1, _, _, .non, _, _, _ => rfl
  | 0, 0, _, _, .bl _, _, _, _ | 0, _ + 1, _, _, .bl _, _, _, _ | _ + 1, 0, _, _, .bl _, _, _, _ | _ + 1, _ + 1, _, _, .bl _, _, _, _ => rfl
  | 0, 0, _, _, .int _, _, _, _ | 0, _ + 1, _, _, .int _, _, _, _ | _ + 1, 0, _, _, .int _, _, _, _ | _ + 1, _ + 1, _, _, .int _, _, _, _ => rfl
  | 0, 0, _, _, .str _, _, _, g | 0, _ + 1, _, _, .str _, _, _, g | _ + 1, 0, _, _, .str _, _, _, g | _ + 1, _ + 1, _, _, .str _, _, _, g => g
  | h + 1, k + 1, w, v, .tup xs, a, b, g => by
    obtain ⟨g1, g2⟩ := ba (show (decide (xs.length ≤ w) && gdL h w xs) = true from g)
    show (decide (xs.length ≤ v) && gdL k v xs) = true
    rw [gdL_le xs (by omega) b g2, decide_eq_true (Nat.le_trans (of_decide_eq_true g1) b)]
    rfl
  | h + 1, k + 1, w, v, .lst xs, a, b, g => by
    obtain ⟨g1, g2⟩ := ba (show (decide (xs.length ≤ w) && gdL h w xs) = true from g)
    show (decide (xs.length ≤ v) && gdL k v xs) = true
    rw [gdL_le xs (by omega) b g2, decide_eq_true (Nat.le_trans (of_decide_eq_true g1) b)]
    rfl
  | 0, _, _, _, .tup _, _, _, g | 0, _, _, _, .lst _, _, _, g => by cases g
  | _ + 1, 0, _, _, .tup _, a, _, _ | _ + 1, 0, _, _, .lst _, a, _, _ => by omega
  | 0, _, _, _, .dic _, _, _, g | _ + 1, _, _, _, .dic _, _, _, g | 0, _, _, _, .ro _, _, _, g | _ + 1, _, _, _, .ro _, _, _, g | 0, _, _, _, .cell _, _, _, g | _ + 1, _, _, _, .cell _, _, _, g => by cases g
theorem gdL_le : ∀ {h k w v : Nat} (ds : List D), h ≤ k → w ≤ v → gdL h w ds = true → gdL k v ds = true
  | _, _, _, _, [], _, _, _ => rfl
  | h, k, w, v, d :: ds, a, b, g => by
    obtain ⟨g1, g2⟩ := ba (show (gd h w d && gdL h w ds) = true from g)
    show (gd k v d && gdL k v ds) = true
    rw [gd_le d a b g1, gdL_le ds a b g2]
    rfl
end
/-! ### the program's readings -/
def isNum (v : D) (l m : Int) : Bool := match v with
  | .int i => decide (l ≤ i) && decide (i ≤ m)
  | _ => false
def isTup (v : D) (l m : Int) : Bool := match v with
  | .tup xs => decide (l ≤ xs.length) && decide ((xs.length : Int) ≤ m)
  | _ => false
def isWd (v : D) (ws : List D) : Bool := match v with
  | .str _ => ws.any fun y => eqD y v
  | _ => false
section
variable {L : Lw} [L.Std] {k f h w : Nat} {S : Sto}
theorem num_ok {v : D} {l m : Int} (g : gd h w v = true) : L.run (k + 1) (.glo f_is_number) [v, .int l, .int m] S = .ok (.bl (isNum v l m)) S := by
  have hv := gd_pure h w v g
  refine run_reg (S' := []) h_is_number rfl ⟨rfl, by decide⟩ (by simp [pureL, hv, D.pure]) ?_ rfl
  cases v with
  | int i => by_cases c : l ≤ i <;> simp [d_is_number, isNum, c]
  | dic _ => cases h <;> cases g
  | ro _ => cases h <;> cases g
  | cell _ => cases h <;> cases g
  | fn _ => cases h <;> cases g
  | clo _ _ _ => cases h <;> cases g
  | _ => simp [d_is_number, isNum]
theorem tup_ok {v : D} {l m : Int} (g : gd h w v = true) : L.run (k + 1) (.glo f_is_tuple) [v, .int l, .int m] S = .ok (.bl (isTup v l m)) S := by
  have hv := gd_pure h w v g
  refine run_reg (S' := []) h_is_tuple rfl ⟨rfl, by decide⟩ (by simp [pureL, hv, D.pure]) ?_ rfl
  cases v with
  | tup xs => by_cases c : l ≤ (xs.length : Int) <;> simp [d_is_tuple, isTup, c]
  | dic _ => cases h <;> cases g
  | ro _ => cases h <;> cases g
  | cell _ => cases h <;> cases g
  | fn _ => cases h <;> cases g
  | clo _ _ _ => cases h <;> cases g
  | _ => simp [d_is_tuple, isTup]
theorem word_ok {v : D} {ws : List D} (g : gd h w v = true) (hp : pureL ws = true) (hs : shpL 63 ws = true) : L.run (k + 1) (.glo f_is_word) [v, .tup ws] S = .ok (.bl (isWd v ws)) S := by
  have hv := gd_pure h w v g
  refine run_reg (S' := []) h_is_word rfl ⟨rfl, by decide⟩ (by simp [pureL, hv, D.pure, hp]) ?_ rfl
  cases v with
  | str x =>
    have : shp 64 (.str x) = true := by cases h <;> exact g
    simp [d_is_word, isWd, this, hs]
  | dic _ => cases h <;> cases g
  | ro _ => cases h <;> cases g
  | cell _ => cases h <;> cases g
  | fn _ => cases h <;> cases g
  | clo _ _ _ => cases h <;> cases g
  | _ => simp [d_is_word, isWd]
end
def wdPark : List D := [.str "park"]
def wdMove : List D := [.str "leave", .str "pull", .str "drop"]
def wdRule : List D := [.str "back", .str "front", .str "tight", .str "wide"]
def isDeed (cars : Int) (v : D) : Bool := match v with
  | .tup [a, b] => isNum b 0 (cars - 1) && isWd a wdMove
  | .tup [a, b, c] => isNum b 0 (cars - 1) && (isWd a wdPark && isWd c wdRule)
  | _ => false
def isLens (v : D) : Bool := match v with
  | .tup ls => isTup v 1 5 && ls.all fun x => isNum x 2 9
  | _ => false
def isPlan (v : D) : Bool := match v with
  | .tup [.tup ls, .tup ds] => isLens (.tup ls) && (isTup (.tup ds) 0 8 && ds.all fun d => isDeed ls.length d)
  | _ => false
section
variable {L : Lw} [L.Std] {k f h w : Nat} {S : Sto} {fn ft fw fd fl fg fp c : Nat}
theorem deed_ok {v : D} {cars : Int} (g : gd h w v = true) :
    L.run (k + 2) (.glo f_is_deed_of) [.int cars, v] S = .ok (.bl (isDeed cars v)) S := by
  have hv := gd_pure h w v g
  refine run_reg (S' := []) h_is_deed_of rfl ⟨rfl, by simp [d_is_deed_of]⟩ (by simp [pureL, hv, D.pure]) ?_ rfl
  have e1 : L.run (k + 1) (.glo f_is_tuple) [v, .int 2, .int 3] [] = .ok (.bl (isTup v 2 3)) [] := tup_ok g
  cases v with
  | tup xs =>
    cases h with
    | zero => cases g
    | succ h =>
    obtain ⟨g1, g2⟩ := ba (show (decide (xs.length ≤ w) && gdL h w xs) = true from g)
    match xs, g2, e1 with
    | [], g2, e1 => simp [d_is_deed_of, e1, isTup, isDeed]
    | [a], g2, e1 => simp [d_is_deed_of, e1, isTup, isDeed]
    | [a, b], g2, e1 =>
      have ga := gdL_mem g2 a (by simp)
      have gb := gdL_mem g2 b (by simp)
      have e2 : L.run (k + 1) (.glo f_is_number) [b, .int 0, .int (cars - 1)] [] = .ok (.bl (isNum b 0 (cars - 1))) [] := num_ok gb
      have e3 : L.run (k + 1) (.glo f_is_word) [a, .tup [.str "leave", .str "pull", .str "drop"]] [] = .ok (.bl (isWd a wdMove)) [] := word_ok ga rfl (by decide +kernel)
      cases q : isNum b 0 (cars - 1) <;> simp [d_is_deed_of, e1, isTup, isDeed, e2, q, e3]
    | [a, b, d], g2, e1 =>
      have ga := gdL_mem g2 a (by simp)
      have gb := gdL_mem g2 b (by simp)
      have gc := gdL_mem g2 d (by simp)
      have e2 : L.run (k + 1) (.glo f_is_number) [b, .int 0, .int (cars - 1)] [] = .ok (.bl (isNum b 0 (cars - 1))) [] := num_ok gb
      have e3 : L.run (k + 1) (.glo f_is_word) [a, .tup [.str "park"]] [] = .ok (.bl (isWd a wdPark)) [] := word_ok ga rfl (by decide +kernel)
      have e4 : L.run (k + 1) (.glo f_is_word) [d, .tup [.str "back", .str "front", .str "tight", .str "wide"]] [] = .ok (.bl (isWd d wdRule)) [] := word_ok gc rfl (by decide +kernel)
      cases q : isNum b 0 (cars - 1)
      · simp [d_is_deed_of, e1, isTup, isDeed, e2, q]
      · cases q2 : isWd a wdPark <;> simp [d_is_deed_of, e1, isTup, isDeed, e2, q, e3, q2, e4, k_RULES]
    | a :: b :: d :: e :: r, g2, e1 =>
      have : isTup (.tup (a :: b :: d :: e :: r)) 2 3 = false := by simp [isTup]; omega
      rw [this] at e1
      simp [d_is_deed_of, e1, isDeed]
  | dic _ => cases h <;> cases g
  | ro _ => cases h <;> cases g
  | cell _ => cases h <;> cases g
  | fn _ => cases h <;> cases g
  | clo _ _ _ => cases h <;> cases g
  | _ => simp [d_is_deed_of, e1, isTup, isDeed]
theorem lens_ok {v : D} (g : gd h w v = true) (hw : w < LN) :
    L.run (k + 2) (.glo f_are_lengths) [v] S = .ok (.bl (isLens v)) S := by
  have hv := gd_pure h w v g
  refine run_reg (S' := []) h_are_lengths rfl ⟨rfl, by simp [d_are_lengths]⟩ (by simp [pureL, hv]) ?_ rfl
  have e1 : L.run (k + 1) (.glo f_is_tuple) [v, .int 1, .int 5] [] = .ok (.bl (isTup v 1 5)) [] := tup_ok g
  cases v with
  | tup xs =>
    cases h with
    | zero => cases g
    | succ h =>
    obtain ⟨g1, g2⟩ := ba (show (decide (xs.length ≤ w) && gdL h w xs) = true from g)
    cases q : isTup (.tup xs) 1 5 with
    | false => rw [q] at e1; simp [d_are_lengths, l_are_lengths_0, e1, isLens, q]
    | true =>
      rw [q] at e1
      have e2 : ev L.cons (L.run (k + 1)) (.lc [1] (.nm 1) (.val (.var 0)) .none (.call f_is_number (.cons (.var 1) (.cons (.int 2) (.cons (.int 9) .nil))))) [some (.tup xs), none] [] = .ok (.lst (xs.filterMap fun x => some (.bl (isNum x 2 9)))) [] := by
        refine lc_map (fun x => some (.bl (isNum x 2 9))) (xs := xs) (by simp) (fun x hx => ?_) (Nat.lt_of_le_of_lt (of_decide_eq_true g1) hw)
        have e3 : L.run (k + 1) (.glo f_is_number) [x, .int 2, .int 9] [] = .ok (.bl (isNum x 2 9)) [] := num_ok (gdL_mem g2 x hx)
        simp [e3]
      have e4 : xs.filterMap (fun x => some (D.bl (isNum x 2 9))) = xs.map fun x => D.bl (isNum x 2 9) := by rw [← List.filterMap_eq_map]; rfl
      rw [e4] at e2
      simp [d_are_lengths, l_are_lengths_0, e1, isLens, q, e2, boolsD_map, List.all_map, Function.comp_def]
  | dic _ => cases h <;> cases g
  | ro _ => cases h <;> cases g
  | cell _ => cases h <;> cases g
  | fn _ => cases h <;> cases g
  | clo _ _ _ => cases h <;> cases g
  | _ => simp [d_are_lengths, l_are_lengths_0, e1, isTup, isLens]
theorem isTup2 {v : D} (h : isTup v 2 2 = true) : ∃ a b, v = .tup [a, b] := by
  cases v with
  | tup xs =>
    match xs, h with
    | [a, b], _ => exact ⟨a, b, rfl⟩
    | [], h => simp [isTup] at h
    | [a], h => simp [isTup] at h
    | a :: b :: c :: r, h => simp [isTup] at h; omega
  | _ => cases h
theorem good_ok {v : D} (g : gd h w v = true) (hw2 : w < LN) : L.run (k + 3) (.glo f_is_good_plan) [v] S = .ok (.bl (isPlan v)) S := by
  have hv := gd_pure h w v g
  refine run_reg (S' := []) h_is_good_plan rfl ⟨rfl, by simp [d_is_good_plan]⟩ (by simp [pureL, hv]) ?_ rfl
  have e1 : L.run (k + 2) (.glo f_is_tuple) [v, .int 2, .int 2] [] = .ok (.bl (isTup v 2 2)) [] := tup_ok g
  cases q : isTup v 2 2 with
  | false =>
    rw [q] at e1
    have : isPlan v = false := by
      unfold isPlan
      split
      · simp [isTup] at q
      · rfl
    simp [d_is_good_plan, l_is_good_plan_0, e1, this]
  | true =>
    rw [q] at e1
    obtain ⟨a, b, rfl⟩ := isTup2 q
    cases h with
    | zero => cases g
    | succ h =>
    obtain ⟨g1, g2⟩ := ba (show (decide (2 ≤ w) && gdL h w [a, b]) = true from g)
    have ga := gdL_mem g2 a (by simp)
    have gb := gdL_mem g2 b (by simp)
    have e2 : L.run (k + 2) (.glo f_are_lengths) [a] [] = .ok (.bl (isLens a)) [] := lens_ok ga hw2
    have e3 : L.run (k + 2) (.glo f_is_tuple) [b, .int 0, .int 8] [] = .ok (.bl (isTup b 0 8)) [] := tup_ok gb
    cases q2 : isLens a with
    | false =>
      have : isPlan (.tup [a, b]) = false := by
        unfold isPlan
        split
        · rename_i heq
          cases heq
          rw [q2]; rfl
        · rfl
      simp [d_is_good_plan, l_is_good_plan_0, e1, e2, q2, this]
    | true =>
      obtain ⟨ls, rfl⟩ : ∃ ls, a = .tup ls := by cases a <;> first | exact ⟨_, rfl⟩ | cases q2
      cases q3 : isTup b 0 8 with
      | false =>
        have : isPlan (.tup [.tup ls, b]) = false := by
          unfold isPlan
          split
          · rename_i heq
            cases heq
            rw [q3]; simp
          · rfl
        simp [d_is_good_plan, l_is_good_plan_0, e1, e2, q2, e3, q3, this]
      | true =>
        obtain ⟨ds, rfl⟩ : ∃ ds, b = .tup ds := by cases b <;> first | exact ⟨_, rfl⟩ | cases q3
        cases h with
        | zero => cases ga
        | succ h =>
        obtain ⟨g3, g4⟩ := ba (show (decide (ds.length ≤ w) && gdL h w ds) = true from gb)
        have e5 : ev L.cons (L.run (k + 2)) (.lc [1] (.nm 1) (.val (.idx (.var 0) (.int 1))) .none (.call f_is_deed_of (.cons (.bi .len (.cons (.idx (.var 0) (.int 0)) .nil)) (.cons (.var 1) .nil)))) [some (.tup [.tup ls, .tup ds]), none] [] = .ok (.lst (ds.filterMap fun x => some (.bl (isDeed ls.length x)))) [] := by
          refine lc_map (fun x => some (.bl (isDeed ls.length x))) (xs := ds) (by simp) (fun x hx => ?_) (Nat.lt_of_le_of_lt (of_decide_eq_true g3) hw2)
          have e6 : L.run (k + 2) (.glo f_is_deed_of) [.int ls.length, x] [] = .ok (.bl (isDeed ls.length x)) [] := deed_ok (gdL_mem g4 x hx)
          simp [e6]
        have e4 : ds.filterMap (fun x => some (D.bl (isDeed ls.length x))) = ds.map fun x => D.bl (isDeed ls.length x) := by rw [← List.filterMap_eq_map]; rfl
        rw [e4] at e5
        simp [d_is_good_plan, l_is_good_plan_0, e1, e2, q2, e3, q3, e5, boolsD_map, List.all_map, Function.comp_def, isPlan]
theorem need_ok {v : D} (g : gd h w v = true) (hw2 : w < LN) (hp : isPlan v = true) : L.run (k + 4) (.glo f_need_plan) [v] S = .ok .non S := by
  have hv := gd_pure h w v g
  have e1 : L.run (k + 3) (.glo f_is_good_plan) [v] [] = .ok (.bl (isPlan v)) [] := good_ok g hw2
  refine run_regN (ρ := [some v]) (S' := []) h_need_plan rfl ⟨rfl, by simp [d_need_plan]⟩ (by simp [pureL, hv]) ?_
  simp [d_need_plan, e1, hp]
theorem plan_ok {v : D} (g : gd h w v = true) (hw2 : w < LN) : L.run (k + 4) (.glo f_is_plan) [v] S = .ok (.bl (isPlan v)) S := by
  have hv := gd_pure h w v g
  have e1 : L.run (k + 3) (.glo f_is_good_plan) [v] [] = .ok (.bl (isPlan v)) [] := good_ok g hw2
  refine run_reg (S' := []) h_is_plan rfl ⟨rfl, by simp [d_is_plan]⟩ (by simp [pureL, hv]) ?_ rfl
  simp [d_is_plan, e1]
/-- the cars of a plan -/
def carsOf (v : D) : Int := match v with
  | .tup (.tup ls :: _) => ls.length
  | _ => 0
theorem isDeed_ok {p v : D} (gp : gd h w p = true) (g : gd h w v = true) (hw2 : w < LN) (hpl : isPlan p = true) :
    L.run (k + 5) (.glo f_is_deed) [p, v] S = .ok (.bl (isDeed (carsOf p) v)) S := by
  have hv := gd_pure h w v g
  have hv2 := gd_pure h w p gp
  have e1 : L.run (k + 4) (.glo f_need_plan) [p] [] = .ok .non [] := need_ok gp hw2 hpl
  obtain ⟨ls, ds, rfl⟩ : ∃ ls ds, p = .tup [.tup ls, .tup ds] := by
    unfold isPlan at hpl
    split at hpl
    · exact ⟨_, _, rfl⟩
    · cases hpl
  have e2 : L.run (k + 4) (.glo f_is_deed_of) [.int ls.length, v] [] = .ok (.bl (isDeed ls.length v)) [] := deed_ok g
  refine run_reg (S' := []) h_is_deed rfl ⟨rfl, by simp [d_is_deed]⟩ (by simp [pureL, hv, hv2]) ?_ rfl
  simp [d_is_deed, e1, e2, carsOf]
end
end KI


set_option Elab.async false
set_option linter.all false
set_option maxRecDepth 100000
set_option autoImplicit false
set_option maxHeartbeats 1000000
/-! What a law draws. -/
namespace KI
open PySem


/-! ### what is drawn -/
def Src (S : Sto) (n : Nat) : Prop := ∃ a b : Int, S[n]? = some (.lst [.int a, .int b]) ∧ 0 ≤ a ∧ 0 ≤ b ∧ b < 2147483648
theorem Src.lt {S : Sto} {n : Nat} (h : Src S n) : n < S.length := by
  obtain ⟨a, b, h, _⟩ := h
  exact (List.getElem?_eq_some_iff.mp h).1
section
variable {L : Lw} [L.Std] {k f fd fo fr : Nat} {S : Sto} {n : Nat}
theorem mulOk_r {i j : Int} (h1 : -(2 ^ 64) < j) (h2 : j < 2 ^ 64) : mulOk i j = true := by
  unfold mulOk
  rw [Bool.or_eq_true]
  exact .inr (decide_eq_true ⟨h1, h2⟩)
theorem mulOk_l {i j : Int} (h1 : -(2 ^ 64) < i) (h2 : i < 2 ^ 64) : mulOk i j = true := by
  unfold mulOk
  rw [Bool.or_eq_true]
  exact .inl (decide_eq_true ⟨h1, h2⟩)
theorem draw_ok (h : Src S n) {m : Int} (m0 : 0 < m) (m1 : m < 1073741824) :
    ∃ r S', L.run (k + 1) (.glo f__law_draw) [.cell n, .int m] S = .ok (.int r) S' ∧ 0 ≤ r ∧ r < m ∧ Src S' n ∧ S'.length = S.length := by
  have hn := h.lt
  obtain ⟨a, b, hS, a0, b0, b1⟩ := h
  have mne : m ≠ 0 := by omega
  have mna : m.natAbs < 1073741824 := by omega
  by_cases ha : 0 < a
  · refine ⟨a.fmod m, S.set n (.lst [.int (a.fdiv m), .int b]), ?_, Int.fmod_nonneg a0 (by omega), Int.fmod_lt_of_pos _ m0, ⟨a.fdiv m, b, by simp [hn], Int.fdiv_nonneg a0 (by omega), b0, b1⟩, by simp⟩
    refine run_non h__law_draw rfl ⟨rfl, by simp [d__law_draw]⟩ ?_
    simp [d__law_draw, hS, ha, mne, mna]
  · have b2 : 0 ≤ (b * 48271).fmod 2147483647 := Int.fmod_nonneg (by omega) (by omega)
    have b3 : (b * 48271).fmod 2147483647 < 2147483647 := Int.fmod_lt_of_pos _ (by omega)
    obtain ⟨c, hc⟩ : ∃ c, c = (b * 48271).fmod 2147483647 := ⟨_, rfl⟩
    rw [← hc] at b2 b3
    have e1 : mulOk b 48271 = true := mulOk_r (by omega) (by omega)
    have e2 : mulOk c c = true := mulOk_r (by omega) (by omega)
    have e3 : 0 ≤ (c * c).fmod 2147483629 := Int.fmod_nonneg (Int.mul_nonneg b2 b2) (by omega)
    refine ⟨(((c * c).fmod 2147483629).fdiv 64).fmod m, S.set n (.lst [.int a, .int c]), ?_, Int.fmod_nonneg (Int.fdiv_nonneg e3 (by omega)) (by omega), Int.fmod_lt_of_pos _ m0, ⟨a, c, by simp [hn], a0, b2, by omega⟩, by simp⟩
    refine run_non h__law_draw rfl ⟨rfl, by simp [d__law_draw]⟩ ?_
    have hset : ∀ x : Ob, (S.set n x)[n]? = some x := fun x => List.getElem?_set_self hn
    simp [d__law_draw, hS, ha, e1, ← hc, hset, e2, mne]
theorem of_ok (h : Src S n) {xs : List D} (x0 : xs ≠ []) (x1 : xs.length < 1073741824) :
    ∃ x S', L.run (k + 2) (.glo f__law_of) [.cell n, .lst xs] S = .ok x S' ∧ x ∈ xs ∧ Src S' n ∧ S'.length = S.length := by
  have l0 : 0 < xs.length := List.length_pos_iff.mpr x0
  obtain ⟨r, S', e, r0, r1, s', ln⟩ := draw_ok (L := L) (k := k) h (m := xs.length) (by omega) (by omega)
  obtain ⟨j, rfl⟩ := Int.eq_ofNat_of_zero_le r0
  have hj : j < xs.length := by omega
  refine ⟨(xs[j]'hj), S', ?_, List.getElem_mem hj, s', ln⟩
  refine run_non h__law_of rfl ⟨rfl, by simp [d__law_of]⟩ ?_
  simp [d__law_of, e, atI_nat, hj]
theorem source_ok {ns : List Int} {j : Nat} : ∃ S', L.run (k + 1) (.glo f__law_source) [.ro (ns.map .int), .int j] S = .ok (.cell S.length) S' ∧ Src S' S.length ∧ ∃ o, S' = S ++ [o] := by
  obtain ⟨c, hc⟩ : ∃ c : Int, c = if (j : Int) < ns.length then (if (ns[j]?.getD 0) < 0 then -(ns[j]?.getD 0) else ns[j]?.getD 0) else 0 := ⟨_, rfl⟩
  have c0 : 0 ≤ c := by
    rw [hc]
    split
    · split <;> omega
    · omega
  have e1 : mulOk c 7919 = true := mulOk_r (by omega) (by omega)
  have e2 : mulOk 104729 j = true := mulOk_l (by omega) (by omega)
  have body : ∀ S : Sto, ∃ S', exss L.cons (L.run k) L.fuel d__law_source.body [some (.ro (ns.map .int)), some (.int j), none] S = .rt (.cell S.length) S' ∧ Src S' S.length ∧ ∃ o, S' = S ++ [o] := by
    intro S
    by_cases q : c < 1000000000000000000
    · refine ⟨S ++ [.lst [.int 0, .int (1 + (c * 7919 + 104729 * j).fmod 2147483646)]], ?_, ⟨0, 1 + (c * 7919 + 104729 * j).fmod 2147483646, by simp, by omega, ?_, ?_⟩, _, rfl⟩
      · by_cases hj : j < ns.length
        · have hc' : c = if ns[j] < 0 then -ns[j] else ns[j] := by rw [hc, if_pos (by omega), List.getElem?_eq_getElem hj]; rfl
          simp [d__law_source, atI_nat, hj, ← hc', q, e1, e2]
        · have hc' : c = 0 := by rw [hc, if_neg (by omega)]
          subst hc'
          simp [d__law_source, hj, e1, e2]
      · have := Int.fmod_nonneg (a := c * 7919 + 104729 * j) (b := 2147483646) (by omega) (by omega)
        omega
      · have := Int.fmod_lt_of_pos (c * 7919 + 104729 * j) (b := 2147483646) (by omega)
        omega
    · refine ⟨S ++ [.lst [.int c, .int (1 + (c + j).fmod 2147483646)]], ?_, ⟨c, 1 + (c + j).fmod 2147483646, by simp, c0, ?_, ?_⟩, _, rfl⟩
      · by_cases hj : j < ns.length
        · have hc' : c = if ns[j] < 0 then -ns[j] else ns[j] := by rw [hc, if_pos (by omega), List.getElem?_eq_getElem hj]; rfl
          simp [d__law_source, atI_nat, hj, ← hc', q]
        · have hc' : c = 0 := by rw [hc, if_neg (by omega)]
          omega
      · have := Int.fmod_nonneg (a := c + j) (b := 2147483646) (by omega) (by omega)
        omega
      · have := Int.fmod_lt_of_pos (c + j) (b := 2147483646) (by omega)
        omega
  obtain ⟨S', e, h1, h2⟩ := body S
  exact ⟨S', run_non h__law_source rfl ⟨rfl, by simp [d__law_source]⟩ e, h1, h2⟩
end
end KI


set_option Elab.async false
set_option linter.all false
set_option maxRecDepth 100000
set_option autoImplicit false
set_option maxHeartbeats 1000000
/-! A drawn deed, a drawn plan. -/
namespace KI
open PySem


/-! ### a drawn deed, a drawn plan -/
theorem sh_park : shp 64 (.str "park") = true := by decide +kernel
theorem sh_leave : shp 64 (.str "leave") = true := by decide +kernel
theorem sh_pull : shp 64 (.str "pull") = true := by decide +kernel
theorem sh_drop : shp 64 (.str "drop") = true := by decide +kernel
theorem eq_pp : eqD (.str "park") (.str "park") = true := by decide +kernel
theorem eq_lp : eqD (.str "leave") (.str "park") = false := by decide +kernel
theorem eq_up : eqD (.str "pull") (.str "park") = false := by decide +kernel
theorem eq_dp : eqD (.str "drop") (.str "park") = false := by decide +kernel
def Rule (x : D) : Prop := x = .str "front" ∨ x = .str "back" ∨ x = .str "tight" ∨ x = .str "wide"
theorem Rule.wd {x : D} (h : Rule x) : isWd x wdRule = true := by
  rcases h with h | h | h | h <;> subst h <;> decide +kernel
theorem Rule.gd {x : D} (h : Rule x) (k w : Nat) : gd k w x = true := by
  have : ∀ s : Str, s.cps.all (· < 0x110000) = true → KI.gd k w (.str s) = true := fun s q => by cases k <;> exact q
  rcases h with h | h | h | h <;> subst h <;> exact this _ (by decide +kernel)
theorem gd_str0 {x : Str} (h : x.cps.all (· < 0x110000) = true) (k w : Nat) : gd k w (.str x) = true := by cases k <;> exact h
theorem gd_int (i : Int) (k w : Nat) : gd k w (.int i) = true := by cases k <;> rfl
section
variable {L : Lw} [L.Std] {k f fd fo fr fe : Nat} {S : Sto} {n : Nat}
theorem rule_ok (h : Src S n) :
    ∃ x S', L.run (k + 3) (.glo f__law_rule) [.cell n] S = .ok x S' ∧ Rule x ∧ Src S' n ∧ S'.length = S.length := by
  obtain ⟨x, S', e, hx, s', ln⟩ := of_ok (L := L) (k := k) h (xs := [.str "front", .str "back", .str "tight", .str "wide"]) (by simp) (by simp)
  refine ⟨x, S', ?_, by simpa [Rule] using hx, s', ln⟩
  refine run_non h__law_rule rfl ⟨rfl, by simp [d__law_rule]⟩ ?_
  simp [d__law_rule, e]
/-- a drawn deed -/
structure DrawnDeed (cars : Int) (d : D) : Prop where
  ok : isDeed cars d = true
  form : (∃ x r, d = .tup [.str "park", .int r, x] ∧ Rule x ∧ 0 ≤ r ∧ r < cars) ∨ ∃ w r, d = .tup [.str w, .int r] ∧ (w = "leave" ∨ w = "pull" ∨ w = "drop") ∧ 0 ≤ r ∧ r < cars
theorem drawnPark {cars r : Int} {x : D} (hx : Rule x) (r0 : 0 ≤ r) (r1 : r < cars) : DrawnDeed cars (.tup [.str "park", .int r, x]) := by
  refine ⟨?_, .inl ⟨x, r, rfl, hx, r0, r1⟩⟩
  have e : isWd (.str "park") wdPark = true := by decide +kernel
  simp [isDeed, isNum, r0, e, hx.wd]
  omega
theorem drawnMove {cars r : Int} {w : Str} (hw : w = "leave" ∨ w = "pull" ∨ w = "drop") (r0 : 0 ≤ r) (r1 : r < cars) : DrawnDeed cars (.tup [.str w, .int r]) := by
  refine ⟨?_, .inr ⟨w, r, rfl, hw, r0, r1⟩⟩
  have e : isWd (.str w) wdMove = true := by rcases hw with h | h | h <;> subst h <;> decide +kernel
  simp [isDeed, isNum, r0, e]
  omega
theorem DrawnDeed.gd {cars : Int} {d : D} (h : DrawnDeed cars d) : gd 1 3 d = true := by
  rcases h.form with ⟨x, r, rfl, hx, _⟩ | ⟨w, r, rfl, hw, _⟩
  · show (decide (3 ≤ 3) && (_ && (_ && (_ && true)))) = true
    rw [gd_str0 (by decide +kernel) 0 3, hx.gd]
    rfl
  · show (decide (2 ≤ 3) && (_ && (_ && true))) = true
    have : KI.gd 0 3 (.str w) = true := by rcases hw with h | h | h <;> subst h <;> decide +kernel
    rw [this]
    rfl
theorem deedg_ok (h : Src S n) {cars : Int} (c0 : 0 < cars) (c1 : cars < 1073741824) :
    ∃ d S', L.run (k + 4) (.glo f__law_deed) [.cell n, .int cars] S = .ok d S' ∧ DrawnDeed cars d ∧ Src S' n ∧ S'.length = S.length := by
  obtain ⟨x, S1, e1, hx, s1, l1⟩ := of_ok (L := L) (k := k + 1) h (xs := [.str "park", .str "park", .str "park", .str "leave", .str "leave", .str "pull", .str "drop"]) (by simp) (by simp)
  obtain ⟨r, S2, e2, r0, r1, s2, l2⟩ := draw_ok (L := L) (k := k + 2) s1 c0 c1
  obtain ⟨y, S3, e3, hy, s3, l3⟩ := rule_ok (L := L) (k := k) s2
  have hx : x = .str "park" ∨ x = .str "leave" ∨ x = .str "pull" ∨ x = .str "drop" := by
    simp only [List.mem_cons, List.not_mem_nil, or_false] at hx
    rcases hx with h | h | h | h | h | h | h <;> simp [h]
  rcases hx with h | h | h | h <;> subst h
  · refine ⟨.tup [.str "park", .int r, y], S3, ?_, drawnPark hy r0 r1, s3, by omega⟩
    refine run_non h__law_deed rfl ⟨rfl, by simp [d__law_deed]⟩ ?_
    simp [d__law_deed, e1, sh_park, eq_pp, e2, e3]
  · refine ⟨.tup [.str "leave", .int r], S2, ?_, drawnMove (.inl rfl) r0 r1, s2, by omega⟩
    refine run_non h__law_deed rfl ⟨rfl, by simp [d__law_deed]⟩ ?_
    simp [d__law_deed, e1, sh_park, sh_leave, eq_lp, e2]
  · refine ⟨.tup [.str "pull", .int r], S2, ?_, drawnMove (.inr (.inl rfl)) r0 r1, s2, by omega⟩
    refine run_non h__law_deed rfl ⟨rfl, by simp [d__law_deed]⟩ ?_
    simp [d__law_deed, e1, sh_park, sh_pull, eq_up, e2]
  · refine ⟨.tup [.str "drop", .int r], S2, ?_, drawnMove (.inr (.inr rfl)) r0 r1, s2, by omega⟩
    refine run_non h__law_deed rfl ⟨rfl, by simp [d__law_deed]⟩ ?_
    simp [d__law_deed, e1, sh_park, sh_drop, eq_dp, e2]
/-- a drawn plan -/
structure DrawnPlan (most : Int) (p : D) : Prop where
  form : ∃ (ls : List Int) (ds : List D), p = .tup [.tup (ls.map .int), .tup ds] ∧ 1 ≤ ls.length ∧ ls.length ≤ 5 ∧ (∀ x ∈ ls, 2 ≤ x ∧ x ≤ 9) ∧ (ds.length : Int) ≤ most ∧ ∀ d ∈ ds, DrawnDeed ls.length d
theorem rngL_int {n : Nat} : ∀ {lo : Int} {i : Nat} {x : D}, (rngL lo n)[i]? = some x → x = .int (lo + i) ∧ i < n := by
  intro lo i x h
  have hl : i < n := by
    have := (List.getElem?_eq_some_iff.mp h).1
    rwa [rngL_length] at this
  rw [rngL_get n lo i hl] at h
  exact ⟨(Option.some.inj h).symm, hl⟩
theorem plang_ok (h : Src S n) {most : Int} (m0 : 0 ≤ most) (m1 : most < 1000000) :
    ∃ p S', L.run (k + 5) (.glo f__law_plan) [.cell n, .int most] S = .ok p S' ∧ DrawnPlan most p ∧ Src S' n ∧ S'.length = S.length := by
  obtain ⟨r, S1, e1, r0, r1, s1, l1⟩ := draw_ok (L := L) (k := k + 3) h (m := 5) (by omega) (by omega)
  -- the lengths
  obtain ⟨ρ2, S2, e2, t2, ls, rfl, p2, p3, p4, p5⟩ := evFor_ix (tg := .nm 2) (body := exss L.cons (L.run (k + 4)) L.fuel (.cons (.set 3 (.bin .add (.var 3) (.tup (.cons (.bin .add (.int 2) (.call f__law_draw (.cons (.var 0) (.cons (.int 8) .nil)))) .nil)))) .nil)) (xs := rngL 0 (1 + r).toNat)
    (fun i ρ S' => ∃ (t : Option D) (ls : List Int), ρ = [some (.cell n), some (.int most), t, some (.tup (ls.map D.int)), some (.tup []), none] ∧ ls.length = i ∧ (∀ x ∈ ls, (2 : Int) ≤ x ∧ x ≤ 9) ∧ Src S' n ∧ S'.length = S.length)
    (fun i x hx ρ S' ⟨t, ls, q1, q2, q3, q4, q5⟩ => by
      obtain ⟨rfl, hi⟩ := rngL_int hx
      subst q1
      obtain ⟨y, S2, e, y0, y1, s2, l2⟩ := draw_ok (L := L) (k := k + 3) q4 (m := 8) (by omega) (by omega)
      refine ⟨_, rfl, [some (.cell n), some (.int most), some (.int (0 + i)), some (.tup ((ls ++ [2 + y]).map D.int)), some (.tup []), none], S2, ?_, _, ls ++ [2 + y], rfl, by simp [q2], fun x hx => ?_, s2, by omega⟩
      · have : ls.length + 1 ≤ 16777216 := by omega
        simp [e, this]
      · rcases List.mem_append.mp hx with hx | hx
        · exact q3 x hx
        · simp only [List.mem_singleton] at hx
          omega) (ρ := [some (.cell n), some (.int most), none, some (.tup []), some (.tup []), none]) (S := S1) ⟨none, [], rfl, rfl, (fun _ h => nomatch h), s1, l1⟩
  rw [rngL_length] at p2
  obtain ⟨m, S3, e3, m2, m3, s3, l3⟩ := draw_ok (L := L) (k := k + 3) p4 (m := most + 1) (by omega) (by omega)
  -- the deeds
  obtain ⟨ρ4, S4, e4, t4, d4, ds, rfl, p6, p7, p8, p9⟩ := evFor_ix (tg := .nm 2) (body := exss L.cons (L.run (k + 4)) L.fuel (.cons (.set 5 (.call f__law_deed (.cons (.var 0) (.cons (.bi .len (.cons (.var 3) .nil)) .nil)))) (.cons (.ifs (.and (.cmp .lt (.var 2) (.bi .len (.cons (.var 3) .nil))) (.cmp .gt (.call f__law_draw (.cons (.var 0) (.cons (.int 4) .nil))) (.int 0))) (.cons (.set 5 (.tup (.cons (.str "park") (.cons (.var 2) (.cons (.call f__law_rule (.cons (.var 0) .nil)) .nil))))) .nil) .nil) (.cons (.set 4 (.bin .add (.var 4) (.tup (.cons (.var 5) .nil)))) .nil)))) (xs := rngL 0 m.toNat)
    (fun i ρ S' => ∃ (t d : Option D) (ds : List D), ρ = [some (.cell n), some (.int most), t, some (.tup (ls.map D.int)), some (.tup ds), d] ∧ ds.length = i ∧ (∀ x ∈ ds, DrawnDeed ls.length x) ∧ Src S' n ∧ S'.length = S.length)
    (fun i x hx ρ S' ⟨t, d, ds, q1, q2, q3, q4, q5⟩ => by
      obtain ⟨rfl, hi⟩ := rngL_int hx
      subst q1
      obtain ⟨y, S2, e, y1, s2, l2⟩ := deedg_ok (L := L) (k := k) q4 (cars := ls.length) (by omega) (by omega)
      have hds : ds.length + 1 ≤ 16777216 := by omega
      have fin : ∀ {z : D} {S5 : Sto}, DrawnDeed ls.length z → ∀ x ∈ ds ++ [z], DrawnDeed ls.length x := fun hz x hx => by
        rcases List.mem_append.mp hx with hx | hx
        · exact q3 x hx
        · simp only [List.mem_singleton] at hx
          rw [hx]; exact hz
      by_cases hl : (i : Int) < ls.length
      · obtain ⟨z, S5, e5, z0, z1, s5, l5⟩ := draw_ok (L := L) (k := k + 3) s2 (m := 4) (by omega) (by omega)
        by_cases hz : 0 < z
        · obtain ⟨u, S6, e6, hu, s6, l6⟩ := rule_ok (L := L) (k := k + 1) s5
          refine ⟨_, rfl, [some (.cell n), some (.int most), some (.int (0 + i)), some (.tup (ls.map D.int)), some (.tup (ds ++ [.tup [.str "park", .int i, u]])), some (.tup [.str "park", .int i, u])], S6, ?_, _, _, ds ++ [.tup [.str "park", .int i, u]], rfl, by simp [q2], fin (S5 := S6) (drawnPark hu (by omega) hl), s6, by omega⟩
          have hl2 : i < ls.length := by omega
          simp [e, hl2, e5, hz, e6, hds]
        · refine ⟨_, rfl, [some (.cell n), some (.int most), some (.int (0 + i)), some (.tup (ls.map D.int)), some (.tup (ds ++ [y])), some y], S5, ?_, _, _, ds ++ [y], rfl, by simp [q2], fin (S5 := S5) y1, s5, by omega⟩
          have hl2 : i < ls.length := by omega
          simp [e, hl2, e5, hz, hds]
      · refine ⟨_, rfl, [some (.cell n), some (.int most), some (.int (0 + i)), some (.tup (ls.map D.int)), some (.tup (ds ++ [y])), some y], S2, ?_, _, _, ds ++ [y], rfl, by simp [q2], fin (S5 := S2) y1, s2, by omega⟩
        have hl2 : ¬ i < ls.length := by omega
        simp [e, hl2, hds]) (ρ := [some (.cell n), some (.int most), t2, some (.tup (ls.map D.int)), some (.tup []), none]) (S := S3) ⟨t2, none, [], rfl, rfl, (fun _ h => nomatch h), s3, by omega⟩
  rw [rngL_length] at p6
  refine ⟨.tup [.tup (ls.map .int), .tup ds], S4, ?_, ⟨ls, ds, rfl, by omega, by omega, p3, by omega, p7⟩, p8, p9⟩
  have g1 : rngOk (1 + r) = true := rngOk_of (by omega) (by omega)
  have g2 : rngOk m = true := rngOk_of (by omega) (by omega)
  refine run_non h__law_plan rfl ⟨rfl, by simp [d__law_plan]⟩ ?_
  simp [d__law_plan, b__law_plan_0, b__law_plan_1, e1, g1, e2, e3, g2, e4]
theorem DrawnPlan.plan {most : Int} {p : D} (h : DrawnPlan most p) (hm : most ≤ 8) : isPlan p = true := by
  obtain ⟨ls, ds, rfl, l0, l1, hl, hd, hds⟩ := h.form
  have h1 : ∀ x ∈ ls, isNum (.int x) 2 9 = true := fun x hx => by
    obtain ⟨a, b⟩ := hl x hx
    simp [isNum, a, b]
  simp only [isPlan, isLens, isTup, List.length_map, Bool.and_eq_true, decide_eq_true_eq, List.all_eq_true, List.mem_map]
  refine ⟨⟨⟨Int.ofNat_le.mpr l0, Int.ofNat_le.mpr l1⟩, ?_⟩, ⟨Int.natCast_nonneg _, Int.le_trans hd hm⟩, fun d hd => (hds d hd).ok⟩
  rintro _ ⟨x, hx, rfl⟩
  exact h1 x hx
theorem DrawnPlan.gd {most : Int} {p : D} (h : DrawnPlan most p) (hm : most ≤ 8) : gd 3 8 p = true := by
  obtain ⟨ls, ds, rfl, l0, l1, hl, hd, hds⟩ := h.form
  have h1 : KI.gd 2 8 (.tup (ls.map .int)) = true := by
    have q : (ls.map D.int).length ≤ 8 := by rw [List.length_map]; omega
    show (decide ((ls.map D.int).length ≤ 8) && _) = true
    rw [decide_eq_true q, gdL_of]
    · rfl
    · intro x hx
      obtain ⟨y, _, rfl⟩ := List.mem_map.mp hx
      rfl
  have h2 : KI.gd 2 8 (.tup ds) = true := by
    have q : ds.length ≤ 8 := by omega
    show (decide (ds.length ≤ 8) && _) = true
    rw [decide_eq_true q, gdL_of]
    · rfl
    · intro x hx
      exact gd_le (h := 1) (k := 1) (w := 3) (v := 8) x (by omega) (by omega) (hds x hx).gd
  show (decide (2 ≤ 8) && (_ && (_ && true))) = true
  rw [h1, h2]
  rfl
end
end KI


set_option Elab.async false
set_option linter.all false
set_option maxRecDepth 100000
set_option maxHeartbeats 0
namespace K05
open PySem PySem.Spec PyProof.Rows L2 KI
abbrev prog : Program := PySem.Challenge.pw_anykerb_k05_plans_compared
def top (i : Nat) : Stmt := prog.main.body.getD i (.Pass ⟨0, 0, 0, 0⟩)
abbrev f__law_right : Nat := 1000
abbrev f_law : Nat := 1001
def b__law_right_0 : Sxs := (.cons (.ifs (.or (.cmp .isN (.var 3) .non) (.cmp .gt (.var 3) (.var 4))) (.cons (.ifs (.cmp .ne (.call f__law_places (.cons (.var 1) (.cons (.var 4) .nil))) (.call f__law_places (.cons (.var 2) (.cons (.var 4) .nil)))) (.cons (.ret (.bl false)) .nil) .nil) .nil) .nil) .nil)
def d__law_right : Def := { name := "_law_right", N := ["source", "one", "other", "found", "n"], nps := 3, reg := false, body := (.cons (.set 3 (.call f_parting (.cons (.var 1) (.cons (.var 2) .nil)))) (.cons (.ifs (.or (.cmp .ne (.call f_alike (.cons (.var 1) (.cons (.var 2) .nil))) (.cmp .isN (.var 3) .non)) (.cmp .ne (.call f_parting (.cons (.var 2) (.cons (.var 1) .nil))) (.var 3))) (.cons (.ret (.bl false)) .nil) .nil) (.cons (.ifs (.cmp .ne (.idx (.var 1) (.int 0)) (.idx (.var 2) (.int 0))) (.cons (.ret (.cmp .eq (.var 3) (.int 10))) .nil) .nil) (.cons (.for_ (.nm 4) (.val (.bin .add (.rngl (.int 10) (.int 70)) (.lst (.cons (.call f__law_n (.cons (.var 0) .nil)) (.cons (.bin .pow (.int 10) (.int 30)) .nil))))) b__law_right_0) (.cons (.ifs (.cmp .isN (.var 3) .non) (.cons (.ret (.bl true)) .nil) .nil) (.cons (.ifs (.cmp .eq (.call f__law_places (.cons (.var 1) (.cons (.var 3) .nil))) (.call f__law_places (.cons (.var 2) (.cons (.var 3) .nil)))) (.cons (.ret (.bl false)) .nil) .nil) (.cons (.ret (.or (.cmp .eq (.var 3) (.int 10)) (.cmp .eq (.call f__law_places (.cons (.var 1) (.cons (.bin .sub (.var 3) (.int 1)) .nil))) (.call f__law_places (.cons (.var 2) (.cons (.bin .sub (.var 3) (.int 1)) .nil)))))) .nil))))))) }
def b_law_0 : Sxs := (.cons (.ifs (.not (.call f__law_right (.cons (.var 5) (.cons (.var 11) (.cons (.var 13) .nil))))) (.cons (.ret (.bl false)) .nil) .nil) .nil)
def b_law_1 : Sxs := (.cons (.set 11 (.call f__law_plan (.cons (.var 5) (.cons (.int 8) .nil)))) (.cons (.set 12 (.call f__law_near (.cons (.var 5) (.cons (.var 11) .nil)))) (.cons (.for_ (.nm 13) (.val (.lst (.cons (.var 12) (.cons (.call f__law_near (.cons (.var 5) (.cons (.var 11) .nil))) (.cons (.var 11) (.cons (.call f__law_plan (.cons (.var 5) (.cons (.int 3) .nil))) .nil)))))) b_law_0) .nil)))
def b_law_2 : Sxs := (.cons (.set 5 (.call f__law_source (.cons (.var 0) (.cons (.var 1) .nil)))) (.cons (.for_ (.nm 6) (.rng1 (.int 3)) b_law_1) .nil))
def d_law : Def := { name := "law", N := ["script", "k", "wide", "far", "back", "source", "turn", "one", "two", "three", "four", "plan", "near", "other"], nps := 1, reg := true, body := (.cons (.for_ (.nm 1) (.rng1 (.bin .add (.int 1) (.bi .min2 (.cons (.bi .len (.cons (.var 0) .nil)) (.cons (.int 5) .nil))))) b_law_2) (.cons (.unp (.tp (.cons (.nm 7) (.cons (.nm 8) (.cons (.nm 9) (.cons (.nm 10) .nil))))) (.call0 f__law_known)) (.cons (.ifs (.or (.not (.call f_alike (.cons (.var 7) (.cons (.var 7) .nil)))) (.or (.call f_alike (.cons (.var 7) (.cons (.var 8) .nil))) (.cmp .ne (.call f_parting (.cons (.var 7) (.cons (.var 8) .nil))) (.int 10)))) (.cons (.ret (.bl false)) .nil) .nil) (.cons (.ifs (.or (.cmp .ne (.call f_parting (.cons (.var 7) (.cons (.tup (.cons (.idx (.var 7) (.int 0)) (.cons (.sli (.idx (.var 7) (.int 1)) .none (.some (.int 2))) .nil))) .nil))) (.int 12)) (.cmp .ne (.call f_parting (.cons (.tup (.cons (.tup (.cons (.int 2) .nil)) (.cons (.tup .nil) .nil))) (.cons (.tup (.cons (.tup (.cons (.int 3) .nil)) (.cons (.tup .nil) .nil))) .nil))) (.int 10))) (.cons (.ret (.bl false)) .nil) .nil) (.cons (.set 2 (.tup (.cons (.idx (.var 10) (.int 0)) (.cons (.bin .add (.sli (.idx (.var 10) (.int 1)) .none (.some (.int 3))) (.tup (.cons (.tup (.cons (.str "park") (.cons (.int 2) (.cons (.str "wide") .nil)))) (.cons (.tup (.cons (.str "park") (.cons (.int 3) (.cons (.str "wide") .nil)))) .nil)))) .nil)))) (.cons (.ifs (.cmp .ne (.call f_parting (.cons (.var 10) (.cons (.var 2) .nil))) (.int 10)) (.cons (.ret (.bl false)) .nil) .nil) (.cons (.set 3 (.tup (.cons (.tup (.cons (.int 9) (.cons (.int 2) .nil))) (.cons (.tup (.cons (.tup (.cons (.str "park") (.cons (.int 0) (.cons (.str "front") .nil)))) (.cons (.tup (.cons (.str "park") (.cons (.int 1) (.cons (.str "front") .nil)))) .nil))) .nil)))) (.cons (.set 4 (.tup (.cons (.idx (.var 3) (.int 0)) (.cons (.bin .add (.sli (.idx (.var 3) (.int 1)) .none (.some (.int 1))) (.tup (.cons (.tup (.cons (.str "park") (.cons (.int 1) (.cons (.str "back") .nil)))) .nil))) .nil)))) (.cons (.ret (.and (.cmp .eq (.call f_parting (.cons (.var 3) (.cons (.tup (.cons (.idx (.var 3) (.int 0)) (.cons (.sli (.idx (.var 3) (.int 1)) .none (.some (.int 1))) .nil))) .nil))) (.int 11)) (.cmp .eq (.call f_parting (.cons (.var 3) (.cons (.var 4) .nil))) (.int 12)))) .nil))))))))) }
def ownL : List Def := [d__law_right, d_law]
def L : Lw := { fns := [(0, ⟨KI.d_is_number, top 6, false⟩), (1, ⟨KI.d_is_tuple, top 7, false⟩), (2, ⟨KI.d_is_word, top 8, false⟩), (3, ⟨KI.d_is_deed_of, top 9, false⟩), (4, ⟨KI.d_are_lengths, top 10, false⟩), (5, ⟨KI.d_is_good_plan, top 11, false⟩), (6, ⟨KI.d_need_plan, top 12, false⟩), (16, ⟨KI.d_added, top 13, false⟩), (17, ⟨KI.d_less, top 14, false⟩), (18, ⟨KI.d_worth, top 15, false⟩), (19, ⟨KI.d_sign_of, top 16, false⟩), (52, ⟨KI.d_same_to, top 17, false⟩), (20, ⟨KI.d_begun, top 19, false⟩), (21, ⟨KI.d_asks, top 20, false⟩), (22, ⟨KI.d_all_gaps, top 21, false⟩), (23, ⟨KI.d_is_fit, top 22, false⟩), (24, ⟨KI.d_better, top 23, false⟩), (25, ⟨KI.d_choice, top 24, false⟩), (26, ⟨KI.d_place_in, top 25, false⟩), (27, ⟨KI.d_parked, top 26, false⟩), (28, ⟨KI.d_spot_of, top 27, false⟩), (29, ⟨KI.d_shifted, top 28, false⟩), (30, ⟨KI.d_do, top 29, false⟩), (31, ⟨KI.d_last_of, top 30, false⟩), (32, ⟨KI.d_place_form, top 31, false⟩), (53, ⟨KI.d_until, top 33, false⟩), (54, ⟨KI.d_joined, top 34, false⟩), (55, ⟨KI.d_rows_by, top 35, false⟩), (73, ⟨KI.d_least_with, top 36, false⟩), (74, ⟨KI.d_same_places, top 38, false⟩), (75, ⟨KI.d_like_told, top 39, false⟩), (76, ⟨KI.d_parting_number, top 40, true⟩), (77, ⟨KI.d_need_two, top 41, false⟩), (78, ⟨KI.d_alike, top 42, false⟩), (79, ⟨KI.d_parting, top 43, false⟩), (9, ⟨KI.d__law_source, top 45, false⟩), (10, ⟨KI.d__law_draw, top 46, false⟩), (11, ⟨KI.d__law_of, top 47, false⟩), (12, ⟨KI.d__law_rule, top 48, false⟩), (13, ⟨KI.d__law_deed, top 49, false⟩), (14, ⟨KI.d__law_plan, top 50, false⟩), (40, ⟨KI.d__law_n, top 51, false⟩), (41, ⟨KI.d__law_value, top 52, false⟩), (42, ⟨KI.d__law_less, top 53, false⟩), (43, ⟨KI.d__law_spaces, top 54, false⟩), (44, ⟨KI.d__law_chosen, top 55, false⟩), (45, ⟨KI.d__law_step, top 56, false⟩), (46, ⟨KI.d__law_run, top 57, false⟩), (47, ⟨KI.d__law_forms, top 58, false⟩), (48, ⟨KI.d__law_places, top 59, false⟩), (80, ⟨KI.d__law_near, top 60, false⟩), (50, ⟨KI.d__law_known, top 61, false⟩), (1000, ⟨d__law_right, top 62, false⟩), (1001, ⟨d_law, top 63, false⟩)], cs := [(0, "LEAST", (.int 10)), (2, "RULES", (.tup [.str "back", .str "front", .str "tight", .str "wide"]))], xs := [], bls := ["abs", "all", "bool", "dict", "enumerate", "int", "isinstance", "len", "list", "max", "min", "range", "str", "tuple"], fuel := 1000, tf := tfOf ownL, cons := consOf }
def lawI : Nat := 63
def lawF : Nat := 1001
def names : List Str := (["KerbError", "InvalidPlan", "LEAST", "RULES", "is_number", "is_tuple", "is_word", "is_deed_of", "are_lengths", "is_good_plan", "need_plan", "added"] : List Str) ++ (["less", "worth", "sign_of", "same_to", "begun", "asks", "all_gaps", "is_fit", "better", "choice", "place_in", "parked"] : List Str) ++ (["spot_of", "shifted", "do", "last_of", "place_form", "until", "joined", "rows_by", "least_with", "same_places", "like_told", "parting_number"] : List Str) ++ (["need_two", "alike", "parting", "_law_source", "_law_draw", "_law_of", "_law_rule", "_law_deed", "_law_plan", "_law_n", "_law_value", "_law_less"] : List Str) ++ (["_law_spaces", "_law_chosen", "_law_step", "_law_run", "_law_forms", "_law_places", "_law_near", "_law_known", "_law_right"] : List Str)
instance : L.Std := ⟨fun i d h => tfOf_base ownL h, fun i d h => consOf_base h⟩
theorem chk : L.chk = true := by decide +kernel
theorem fits : L.Fits := ⟨rfl, rfl⟩
abbrev R : PySem.W.OpenRow := PySem.W.OpenLaw.row PySem.Challenge.rw_anykerb_k05_plans_compared
theorem run (w : World) : HandSHeadRun.RunEq R (PySem.W.view R.prog [lawI]) (L.hook 4) (L.ob 4) 40000 names w := by
  intro os
  kernel_rfl
end K05


set_option Elab.async false
set_option linter.all false
set_option maxRecDepth 100000
set_option autoImplicit false
set_option maxHeartbeats 1000000
/-! Forms, the state, the spaces: plain and run. -/
namespace KI
open PySem

abbrev Fm := Int × Int
@[simp] def fD (p : Fm) : D := .tup [.int p.1, .int p.2]
@[simp] def gD (g : Fm × Fm) : D := .tup [fD g.1, fD g.2]
@[simp] def cD (c : Nat × Fm) : D := .tup [.int c.1, fD c.2]
abbrev Row := List (Nat × Fm)
def lsD (ls : List Int) : D := .tup (ls.map .int)
def rwD (r : Row) : D := .tup (r.map cD)
def diD (d : List Bool) : D := .tup (d.map .bl)
def akD (a : List Fm) : D := .tup (a.map fD)
/-- the program's state -/
def stO (ls : List Int) (r : Row) (d : List Bool) (a : List Fm) : Ob := .dct [(.inr "lengths", lsD ls), (.inr "row", rwD r), (.inr "did", diD d), (.inr "asked", akD a)]
@[simp] def wo (f : Fm) (n : Int) : Int := f.1 * n + f.2
@[simp] def ad (a b : Fm) : Fm := (a.1 + b.1, a.2 + b.2)
@[simp] def le2 (a b : Fm) : Fm := (a.1 - b.1, a.2 - b.2)
def sgn (f : Fm) (n : Int) : Int := if 0 < wo f n then 1 else if wo f n < 0 then -1 else 0
def lenAt (ls : List Int) (c : Nat) : Int := ls[c]?.getD 0
/-- the spaces ahead of the cars, behind the last -/
def spaces (ls : List Int) : Row → Fm → List (Fm × Fm)
  | [], b => [(b, le2 (1, 0) b)]
  | (c, p) :: r, b => (b, le2 p b) :: spaces ls r (p.1, p.2 + lenAt ls c)
theorem spaces_len (ls : List Int) : ∀ (r : Row) (b : Fm), (spaces ls r b).length = r.length + 1
  | [], _ => rfl
  | (c, p) :: r, b => by
    show (spaces ls r _).length + 1 = _
    rw [spaces_len ls r]
    rfl
section
variable (a b c d : D) (v : D)
@[simp] theorem kn1 : (("lengths" : Str) = ("row" : Str)) = False := eq_false (by decide +kernel)
@[simp] theorem kn2 : (("lengths" : Str) = ("did" : Str)) = False := eq_false (by decide +kernel)
@[simp] theorem kn3 : (("lengths" : Str) = ("asked" : Str)) = False := eq_false (by decide +kernel)
@[simp] theorem kn4 : (("row" : Str) = ("did" : Str)) = False := eq_false (by decide +kernel)
@[simp] theorem kn5 : (("row" : Str) = ("asked" : Str)) = False := eq_false (by decide +kernel)
@[simp] theorem kn6 : (("did" : Str) = ("asked" : Str)) = False := eq_false (by decide +kernel)
@[simp] theorem km1 : (("row" : Str) = ("lengths" : Str)) = False := eq_false (by decide +kernel)
@[simp] theorem km2 : (("did" : Str) = ("lengths" : Str)) = False := eq_false (by decide +kernel)
@[simp] theorem km3 : (("asked" : Str) = ("lengths" : Str)) = False := eq_false (by decide +kernel)
@[simp] theorem km4 : (("did" : Str) = ("row" : Str)) = False := eq_false (by decide +kernel)
@[simp] theorem km5 : (("asked" : Str) = ("row" : Str)) = False := eq_false (by decide +kernel)
@[simp] theorem km6 : (("asked" : Str) = ("did" : Str)) = False := eq_false (by decide +kernel)
abbrev four : List (Key × D) := [(.inr "lengths", a), (.inr "row", b), (.inr "did", c), (.inr "asked", d)]
@[simp] theorem g4_lengths : dicGet (four a b c d) (.inr "lengths") = some a := by simp [dicGet]
@[simp] theorem g4_row : dicGet (four a b c d) (.inr "row") = some b := by simp [dicGet]
@[simp] theorem g4_did : dicGet (four a b c d) (.inr "did") = some c := by simp [dicGet]
@[simp] theorem g4_asked : dicGet (four a b c d) (.inr "asked") = some d := by simp [dicGet]
@[simp] theorem p4_row : dicPut (four a b c d) (.inr "row") v = four a v c d := by simp [dicPut]
@[simp] theorem p4_did : dicPut (four a b c d) (.inr "did") v = four a b v d := by simp [dicPut]
@[simp] theorem p4_asked : dicPut (four a b c d) (.inr "asked") v = four a b c v := by simp [dicPut]
end
@[simp] theorem keyOf_str (s : Str) : keyOf (.str s) = some (.inr s) := rfl
@[simp] theorem keyOf_int (i : Int) : keyOf (.int i) = some (.inl i) := rfl
@[simp] theorem i_cells (S : Sto) (n : Nat) (s : Str) : idxD S (.cell n) (.str s) = match S[n]? with
    | some (.dct kvs) => dicGet kvs (.inr s)
    | _ => none := by
  show (match S[n]? with
    | some (.lst xs) => none
    | some (.dct kvs) => (keyOf (.str s)).bind fun k => dicGet kvs k
    | _ => none) = _
  split <;> first | rfl | (rename_i q; rw [q]) | skip
  all_goals simp_all
@[simp] theorem shpL_ints (k : Nat) : ∀ ls : List Int, shpL k (ls.map D.int) = true
  | [] => by cases k <;> rfl
  | i :: ls => by simp [shpL_ints k ls]
@[simp] theorem pureL_ints : ∀ ls : List Int, pureL (ls.map D.int) = true
  | [] => rfl
  | i :: ls => by simp [pureL, D.pure, pureL_ints ls]
section
variable (i : Int) (b : Bool) (s : Str) (x : D) (xs : List D) (n : Nat)
@[simp] theorem pu_int : D.pure (.int i) = true := rfl
@[simp] theorem pu_bl : D.pure (.bl b) = true := rfl
@[simp] theorem pu_non : D.pure .non = true := rfl
@[simp] theorem pu_str : D.pure (.str s) = true := rfl
@[simp] theorem pu_tup : D.pure (.tup xs) = pureL xs := rfl
@[simp] theorem pu_lst : D.pure (.lst xs) = pureL xs := rfl
@[simp] theorem pu_nil : pureL [] = true := rfl
@[simp] theorem pu_cons : pureL (x :: xs) = (x.pure && pureL xs) := rfl
end
@[simp] theorem pureL_rows : ∀ r : Row, pureL (r.map cD) = true
  | [] => rfl
  | _ :: r => by simp [pureL_rows r]
@[simp] theorem pureL_gs : ∀ r : List (Fm × Fm), pureL (r.map gD) = true
  | [] => rfl
  | _ :: r => by simp [pureL_gs r]
@[simp] theorem pureL_fs : ∀ r : List Fm, pureL (r.map fD) = true
  | [] => rfl
  | _ :: r => by simp [pureL_fs r]
@[simp] theorem pureL_bs : ∀ r : List Bool, pureL (r.map D.bl) = true
  | [] => rfl
  | _ :: r => by simp [pureL_bs r]
theorem mo (i n : Int) (h1 : -100 ≤ i) (h2 : i ≤ 100) : mulOk i n = true := mulOk_l (by omega) (by omega)
section
variable {L : Lw} [L.Std] {k : Nat} {S : Sto} {m : Nat} {a b c d n : Int} {ls : List Int} {r : Row} {dd : List Bool} {ak : List Fm}
@[simp] theorem added_ok : L.run (k + 1) (.glo f_added) [.tup [.int a, .int b], .tup [.int c, .int d]] S = .ok (.tup [.int (a + c), .int (b + d)]) S := by
  refine run_reg (S' := []) h_added rfl ⟨rfl, by decide⟩ (by simp) ?_ (by simp)
  simp [d_added]
@[simp] theorem less_ok : L.run (k + 1) (.glo f_less) [.tup [.int a, .int b], .tup [.int c, .int d]] S = .ok (.tup [.int (a - c), .int (b - d)]) S := by
  refine run_reg (S' := []) h_less rfl ⟨rfl, by decide⟩ (by simp) ?_ (by simp)
  simp [d_less]
theorem worth_ok (h : mulOk a n = true) : L.run (k + 1) (.glo f_worth) [.tup [.int a, .int b], .int n] S = .ok (.int (a * n + b)) S := by
  refine run_reg (S' := []) h_worth rfl ⟨rfl, by decide⟩ (by simp) ?_ (by simp)
  simp [d_worth, h]
theorem sign_ok (h : mulOk a n = true) : L.run (k + 2) (.glo f_sign_of) [.tup [.int a, .int b], .int n] S = .ok (.int (sgn (a, b) n)) S := by
  refine run_reg (S' := []) h_sign_of rfl ⟨rfl, by decide⟩ (by simp) ?_ (by simp)
  simp only [sgn, wo]
  by_cases h1 : 0 < a * n + b
  · simp [d_sign_of, worth_ok h, h1]
  · by_cases h2 : a * n + b < 0 <;> simp [d_sign_of, worth_ok h, h1, h2]
theorem begun_ok : L.run (k + 1) (.glo f_begun) [lsD ls] S = .ok (.cell S.length) (S ++ [stO ls [] [] []]) := by
  refine run_non h_begun rfl ⟨rfl, by decide⟩ ?_
  simp [d_begun, stO, lsD, rwD, diD, akD]
  simp [mergeD, dicPut]
theorem asks_ok (hm : m < S.length) (h : mulOk a n = true) (hl : ak.length + 1 ≤ LN) : L.run (k + 3) (.glo f_asks) [.cell m, .tup [.int a, .int b], .int n] (S.set m (stO ls r dd ak)) = .ok (.int (sgn (a, b) n)) (S.set m (stO ls r dd (ak ++ [(a, b)]))) := by
  refine run_non h_asks rfl ⟨rfl, by decide⟩ ?_
  have hl : ak.length + 1 ≤ 16777216 := hl
  simp [d_asks, stO, lsD, rwD, diD, akD, List.getElem?_set_self hm, List.set_set, sign_ok h, hl]
end
end KI


set_option Elab.async false
set_option linter.all false
set_option maxRecDepth 100000
set_option autoImplicit false
set_option maxHeartbeats 1000000
/-! The state's deeds: spaces, the choice. -/
namespace KI
open PySem
theorem lenAt_eq {ls : List Int} {c : Nat} (h : c < ls.length) : ls[c]? = some (lenAt ls c) := by
  unfold lenAt
  rw [List.getElem?_eq_getElem h]
  rfl
/-- the spaces ahead of the cars; where the last one begins -/
def spa (ls : List Int) : Row → Fm → List (Fm × Fm)
  | [], b => []
  | (c, p) :: r, b => (b, le2 p b) :: spa ls r (p.1, p.2 + lenAt ls c)
def spe (ls : List Int) : Row → Fm → Fm
  | [], b => b
  | (c, p) :: r, b => spe ls r (p.1, p.2 + lenAt ls c)
theorem spaces_eq (ls : List Int) : ∀ (r : Row) (b : Fm), spaces ls r b = spa ls r b ++ [(spe ls r b, le2 (1, 0) (spe ls r b))]
  | [], _ => rfl
  | (c, p) :: r, b => by
    show _ :: spaces ls r _ = _ :: (spa ls r _ ++ _)
    rw [spaces_eq ls r]
    rfl
theorem spa_len (ls : List Int) : ∀ (r : Row) (b : Fm), (spa ls r b).length = r.length
  | [], _ => rfl
  | (c, p) :: r, b => by
    show (spa ls r _).length + 1 = _
    rw [spa_len ls r]
    rfl
/-- a row that may stand -/
def Rk (ls : List Int) (r : Row) : Prop := ∀ c ∈ r, c.1 < ls.length ∧ 0 ≤ c.2.1 ∧ c.2.1 ≤ 1
def Gk (g : Fm × Fm) : Prop := 0 ≤ g.1.1 ∧ g.1.1 ≤ 1 ∧ 0 ≤ g.1.1 + g.2.1 ∧ g.1.1 + g.2.1 ≤ 1
theorem spaces_ok (ls : List Int) : ∀ (r : Row) (b : Fm), Rk ls r → 0 ≤ b.1 → b.1 ≤ 1 → ∀ g ∈ spaces ls r b, Gk g
  | [], b, _, h0, h1, g, hg => by
    have : g = (b, le2 (1, 0) b) := by simpa [spaces] using hg
    subst this
    refine ⟨h0, h1, ?_, ?_⟩ <;> simp <;> omega
  | (c, p) :: r, b, hr, h0, h1, g, hg => by
    obtain ⟨_, p0, p1⟩ := hr (c, p) List.mem_cons_self
    rcases List.mem_cons.mp hg with e | hg
    · subst e
      simp only at p0 p1
      refine ⟨h0, h1, ?_, ?_⟩ <;> simp <;> omega
    · exact spaces_ok ls r (p.1, p.2 + lenAt ls c) (fun c hc => hr c (List.mem_cons_of_mem _ hc)) p0 p1 g hg
theorem spaces_get (ls : List Int) : ∀ (r : Row) (b : Fm) {i : Nat} {c : Nat × Fm}, r[i]? = some c → ∃ g, (spaces ls r b)[i + 1]? = some g ∧ g.1 = (c.2.1, c.2.2 + lenAt ls c.1)
  | [], _, i, c, h => by simp at h
  | (c, p) :: r, b, 0, d, h => by
    have : (c, p) = d := by simpa using h
    subst this
    cases r with
    | nil => exact ⟨_, rfl, rfl⟩
    | cons x r => exact ⟨_, rfl, rfl⟩
  | (c, p) :: r, b, i + 1, d, h => spaces_get ls r (p.1, p.2 + lenAt ls c) (i := i) (by simpa using h)
section
variable {L : Lw} [L.Std] {k : Nat} {S : Sto} {m : Nat} {n : Int} {ls : List Int} {r : Row} {dd : List Bool} {ak : List Fm}
theorem gaps_loop {o : Ob} (hS : S[m]? = some (stO ls r dd ak)) : ∀ (q : Row) (fo : List (Fm × Fm)) (b : Fm) (x y : Option D), Rk ls q → fo.length + q.length < LN →
    ∃ x' y', evFor (.tp (.cons (.nm 3) (.cons (.nm 4) .nil))) (exss L.cons (L.run (k + 1)) L.fuel b_all_gaps_0) (q.map cD) [some (.cell m), some (.lst (fo.map gD)), some (fD b), x, y] S = .nx [some (.cell m), some (.lst ((fo ++ spa ls q b).map gD)), some (fD (spe ls q b)), x', y'] S
  | [], fo, b, x, y, _, _ => ⟨x, y, by simp [evFor, spa, spe]⟩
  | (c, p) :: q, fo, b, x, y, hq, hl => by
    obtain ⟨hc, _⟩ := hq (c, p) List.mem_cons_self
    have hc : c < ls.length := hc
    have hl : fo.length + (q.length + 1) < 16777216 := hl
    have hl2 : fo.length + 1 ≤ 16777216 := by omega
    obtain ⟨x', y', e⟩ := gaps_loop (o := o) hS q (fo ++ [(b, le2 p b)]) (p.1, p.2 + lenAt ls c) (some (.int c)) (some (fD p)) (fun c hc => hq c (List.mem_cons_of_mem _ hc)) (by simp; omega)
    refine ⟨x', y', ?_⟩
    rw [List.map_cons]
    unfold evFor
    simp [b_all_gaps_0, hS, stO, lsD, atI_nat, lenAt_eq hc, hl2]
    simpa [b_all_gaps_0, spa, spe, stO, lsD] using e
theorem all_gaps_ok (hS : S[m]? = some (stO ls r dd ak)) (hr : Rk ls r) (hl : r.length < 1000) : L.run (k + 2) (.glo f_all_gaps) [.cell m] S = .ok (.lst ((spaces ls r (0, 0)).map gD)) S := by
  refine run_non h_all_gaps rfl ⟨rfl, by decide⟩ ?_
  obtain ⟨x, y, e⟩ := gaps_loop (L := L) (k := k) (o := .dead) hS r [] (0, 0) none none hr (by simp; omega)
  have e1 : (spa ls r (0, 0)).length + 1 ≤ 16777216 := by rw [spa_len]; omega
  have hS2 := hS
  unfold stO at hS2
  simp [d_all_gaps, hS2, rwD]
  simp at e
  rw [e]
  simp [e1, spaces_eq]
end
end KI


set_option Elab.async false
set_option linter.all false
set_option maxRecDepth 100000
set_option autoImplicit false
set_option maxHeartbeats 1000000
/-! The choice, a car parked. -/
namespace KI
open PySem
@[simp] theorem es_front_front : eqD (.str "front") (.str "front") = true := by decide +kernel
@[simp] theorem es_front_back : eqD (.str "front") (.str "back") = false := by decide +kernel
@[simp] theorem es_front_tight : eqD (.str "front") (.str "tight") = false := by decide +kernel
@[simp] theorem es_back_front : eqD (.str "back") (.str "front") = false := by decide +kernel
@[simp] theorem es_back_back : eqD (.str "back") (.str "back") = true := by decide +kernel
@[simp] theorem es_back_tight : eqD (.str "back") (.str "tight") = false := by decide +kernel
@[simp] theorem es_tight_front : eqD (.str "tight") (.str "front") = false := by decide +kernel
@[simp] theorem es_tight_back : eqD (.str "tight") (.str "back") = false := by decide +kernel
@[simp] theorem es_tight_tight : eqD (.str "tight") (.str "tight") = true := by decide +kernel
@[simp] theorem es_wide_front : eqD (.str "wide") (.str "front") = false := by decide +kernel
@[simp] theorem es_wide_back : eqD (.str "wide") (.str "back") = false := by decide +kernel
@[simp] theorem es_wide_tight : eqD (.str "wide") (.str "tight") = false := by decide +kernel
@[simp] theorem es_park_park : eqD (.str "park") (.str "park") = true := by decide +kernel
@[simp] theorem es_park_leave : eqD (.str "park") (.str "leave") = false := by decide +kernel
@[simp] theorem es_park_pull : eqD (.str "park") (.str "pull") = false := by decide +kernel
@[simp] theorem es_park_drop : eqD (.str "park") (.str "drop") = false := by decide +kernel
@[simp] theorem es_leave_park : eqD (.str "leave") (.str "park") = false := by decide +kernel
@[simp] theorem es_leave_leave : eqD (.str "leave") (.str "leave") = true := by decide +kernel
@[simp] theorem es_leave_pull : eqD (.str "leave") (.str "pull") = false := by decide +kernel
@[simp] theorem es_leave_drop : eqD (.str "leave") (.str "drop") = false := by decide +kernel
@[simp] theorem es_pull_park : eqD (.str "pull") (.str "park") = false := by decide +kernel
@[simp] theorem es_pull_leave : eqD (.str "pull") (.str "leave") = false := by decide +kernel
@[simp] theorem es_pull_pull : eqD (.str "pull") (.str "pull") = true := by decide +kernel
@[simp] theorem es_pull_drop : eqD (.str "pull") (.str "drop") = false := by decide +kernel
@[simp] theorem es_drop_park : eqD (.str "drop") (.str "park") = false := by decide +kernel
@[simp] theorem es_drop_leave : eqD (.str "drop") (.str "leave") = false := by decide +kernel
@[simp] theorem es_drop_pull : eqD (.str "drop") (.str "pull") = false := by decide +kernel
@[simp] theorem es_drop_drop : eqD (.str "drop") (.str "drop") = true := by decide +kernel
inductive Ru | front | back | tight | wide
  deriving DecidableEq
def ruD : Ru → D
  | .front => .str "front"
  | .back => .str "back"
  | .tight => .str "tight"
  | .wide => .str "wide"
@[simp] theorem ruD_front : ruD .front = .str "front" := rfl
@[simp] theorem ruD_back : ruD .back = .str "back" := rfl
@[simp] theorem ruD_tight : ruD .tight = .str "tight" := rfl
@[simp] theorem ruD_wide : ruD .wide = .str "wide" := rfl
@[simp] theorem pu_ru (r : Ru) : (ruD r).pure = true := by cases r <;> rfl
/-- a size less a length -/
@[simp] def fitF (g : Fm × Fm) (len : Int) : Fm := (g.2.1, g.2.2 + -len)
def betB (n : Int) : Ru → Fm × Fm → Fm × Fm → Bool
  | .front, _, _ => false
  | .back, _, _ => true
  | .tight, g, o => decide (wo (le2 g.2 o.2) n < 0)
  | .wide, g, o => decide (0 < wo (le2 g.2 o.2) n)
def betA : Ru → Fm × Fm → Fm × Fm → List Fm
  | .front, _, _ => []
  | .back, _, _ => []
  | _, g, o => [le2 g.2 o.2]
theorem betA_len (ru : Ru) (g o : Fm × Fm) : (betA ru g o).length ≤ 1 := by cases ru <;> simp [betA]
@[simp] theorem sgn_ge (f : Fm) (n : Int) : (0 ≤ sgn f n) = (0 ≤ wo f n) := by
  unfold sgn
  apply propext
  split
  · omega
  · split <;> omega
@[simp] theorem sgn_lt (f : Fm) (n : Int) : (sgn f n < 0) = (wo f n < 0) := by
  unfold sgn
  apply propext
  split
  · omega
  · split <;> omega
@[simp] theorem sgn_gt (f : Fm) (n : Int) : (0 < sgn f n) = (0 < wo f n) := by
  unfold sgn
  apply propext
  split
  · omega
  · split <;> omega
@[simp] theorem sgn_eq (f : Fm) (n : Int) : (sgn f n = 0) = (wo f n = 0) := by
  unfold sgn
  apply propext
  split
  · omega
  · split <;> omega
def oiD : Option Nat → D
  | none => .non
  | some b => .int b
@[simp] theorem oiD_none : oiD none = .non := rfl
@[simp] theorem oiD_some (b : Nat) : oiD (some b) = .int b := rfl
def dflt : Fm × Fm := ((0, 0), (0, 0))
def gAt (gs : List (Fm × Fm)) (i : Nat) : Fm × Fm := gs[i]?.getD dflt
theorem gAt_eq {gs : List (Fm × Fm)} {i : Nat} (h : i < gs.length) : gs[i]? = some (gAt gs i) := by
  unfold gAt
  rw [List.getElem?_eq_getElem h]
  rfl
theorem gAt_mem {gs : List (Fm × Fm)} {i : Nat} (h : i < gs.length) : gAt gs i ∈ gs := by
  have := gAt_eq h
  exact List.mem_of_getElem? this
def scan (n len : Int) (ru : Ru) (gs : List (Fm × Fm)) : Nat → List (Fm × Fm) → Option Nat → List Fm → Option Nat × List Fm
  | _, [], best, a => (best, a)
  | i, g :: q, best, a => if 0 ≤ wo (fitF g len) n then
      (match best with
      | none => scan n len ru gs (i + 1) q (some i) (a ++ [fitF g len])
      | some b => scan n len ru gs (i + 1) q (if betB n ru g (gAt gs b) = true then some i else some b) (a ++ [fitF g len] ++ betA ru g (gAt gs b)))
    else scan n len ru gs (i + 1) q best (a ++ [fitF g len])
theorem scan_len (n len : Int) (ru : Ru) (gs : List (Fm × Fm)) : ∀ (q : List (Fm × Fm)) (i : Nat) (best : Option Nat) (a : List Fm), (scan n len ru gs i q best a).2.length ≤ a.length + 2 * q.length
  | [], _, _, a => by simp [scan]
  | g :: q, i, best, a => by
    unfold scan
    split
    · split
      · refine Nat.le_trans (scan_len n len ru gs q _ _ _) ?_
        simp; omega
      · rename_i b
        refine Nat.le_trans (scan_len n len ru gs q _ _ _) ?_
        have := betA_len ru g (gAt gs b)
        simp; omega
    · refine Nat.le_trans (scan_len n len ru gs q _ _ _) ?_
      simp; omega
theorem scan_lt (n len : Int) (ru : Ru) (gs : List (Fm × Fm)) : ∀ (q : List (Fm × Fm)) (i : Nat) (best : Option Nat) (a : List Fm), (∀ b, best = some b → b < gs.length) → i + q.length ≤ gs.length → ∀ b, (scan n len ru gs i q best a).1 = some b → b < gs.length
  | [], _, best, a, h, _, b, e => h b e
  | g :: q, i, best, a, h, hl, b, e => by
    rw [List.length_cons] at hl
    unfold scan at e
    split at e
    · split at e
      · exact scan_lt n len ru gs q _ _ _ (fun b q => by cases q; omega) (by omega) b e
      · rename_i b'
        refine scan_lt n len ru gs q _ _ _ (fun b q => ?_) (by omega) b e
        split at q
        · cases q; omega
        · exact h b q
    · exact scan_lt n len ru gs q _ _ _ h (by omega) b e
section
variable {L : Lw} [L.Std] {k : Nat} {S : Sto} {m : Nat} {n len : Int} {ls : List Int} {r : Row} {dd : List Bool} {ak : List Fm} {ru : Ru}
theorem is_fit_ok (hm : m < S.length) {g : Fm × Fm} (h : Gk g) (hl : ak.length + 1 ≤ LN) : L.run (k + 4) (.glo f_is_fit) [.cell m, gD g, .int len, .int n] (S.set m (stO ls r dd ak)) = .ok (.bl (decide (0 ≤ wo (fitF g len) n))) (S.set m (stO ls r dd (ak ++ [fitF g len]))) := by
  refine run_non h_is_fit rfl ⟨rfl, by decide⟩ ?_
  have e := asks_ok (L := L) (k := k) (S := S) (ls := ls) (r := r) (dd := dd) (ak := ak) (a := g.2.1) (b := g.2.2 + -len) (n := n) hm (mo _ _ (by have := h; unfold Gk at this; omega) (by have := h; unfold Gk at this; omega)) hl
  simp [d_is_fit, e]
  exact decide_eq_decide.mpr Iff.rfl
theorem better_ok (hm : m < S.length) {g o : Fm × Fm} (h : Gk g) (h2 : Gk o) (hl : ak.length + 1 ≤ LN) : L.run (k + 4) (.glo f_better) [.cell m, ruD ru, gD g, gD o, .int n] (S.set m (stO ls r dd ak)) = .ok (.bl (betB n ru g o)) (S.set m (stO ls r dd (ak ++ betA ru g o))) := by
  refine run_non h_better rfl ⟨rfl, by decide⟩ ?_
  have e := asks_ok (L := L) (k := k) (S := S) (ls := ls) (r := r) (dd := dd) (ak := ak) (a := g.2.1 - o.2.1) (b := g.2.2 - o.2.2) (n := n) hm (mo _ _ (by unfold Gk at h h2; omega) (by unfold Gk at h h2; omega)) hl
  cases ru <;> simp [d_better, e, betB, betA] <;> exact decide_eq_decide.mpr Iff.rfl
theorem choice_loop (hm : m < S.length) {gs : List (Fm × Fm)} (hg : ∀ g ∈ gs, Gk g) : ∀ (q : List (Fm × Fm)) (i : Nat) (best : Option Nat) (a : List Fm) (x y : Option D), (∀ g ∈ q, Gk g) → (∀ b, best = some b → b < gs.length) → i + q.length ≤ gs.length → a.length + 2 * q.length ≤ LN →
    ∃ x' y', evFor (.tp (.cons (.nm 6) (.cons (.nm 7) .nil))) (exss L.cons (L.run (k + 4)) L.fuel b_choice_0) (enumL i (q.map gD)) [some (.cell m), some (.int len), some (ruD ru), some (.int n), some (oiD best), some (.lst (gs.map gD)), x, y] (S.set m (stO ls r dd a)) = .nx [some (.cell m), some (.int len), some (ruD ru), some (.int n), some (oiD (scan n len ru gs i q best a).1), some (.lst (gs.map gD)), x', y'] (S.set m (stO ls r dd (scan n len ru gs i q best a).2))
  | [], i, best, a, x, y, _, _, _, _ => ⟨x, y, rfl⟩
  | g :: q, i, best, a, x, y, hq, hb, hi, hl => by
    have hgk := hq g List.mem_cons_self
    rw [List.length_cons] at hi
    have hl : a.length + 2 * (q.length + 1) ≤ 16777216 := by simpa using hl
    have e1 := is_fit_ok (L := L) (k := k) (S := S) (ls := ls) (r := r) (dd := dd) (ak := a) (len := len) (n := n) hm hgk (by simp; omega)
    rw [List.map_cons]
    unfold enumL evFor
    simp only [bindT, bindTs]
    unfold scan
    by_cases c : 0 ≤ wo (fitF g len) n
    · rw [if_pos c]
      cases best with
      | none =>
        obtain ⟨x', y', e⟩ := choice_loop hm hg q (i + 1) (some i) (a ++ [fitF g len]) (some (.int i)) (some (gD g)) (fun g hg => hq g (List.mem_cons_of_mem _ hg)) (fun b e => by cases e; omega) (by omega) (by simp; omega)
        refine ⟨x', y', ?_⟩
        have step : exss L.cons (L.run (k + 4)) L.fuel b_choice_0 [some (.cell m), some (.int len), some (ruD ru), some (.int n), some (oiD none), some (.lst (gs.map gD)), some (.int i), some (gD g)] (S.set m (stO ls r dd a)) = .nx [some (.cell m), some (.int len), some (ruD ru), some (.int n), some (oiD (some i)), some (.lst (gs.map gD)), some (.int i), some (gD g)] (S.set m (stO ls r dd (a ++ [fitF g len]))) := by
          have e1 := e1
          rw [decide_eq_true c] at e1
          simp at e1
          simp [b_choice_0, e1]
        exact (congrArg (fun z : Fl => z.then fun ρ S => evFor _ (exss L.cons (L.run (k + 4)) L.fuel b_choice_0) (enumL (i + 1) (q.map gD)) ρ S) step).trans e
      | some b =>
        have hb' := hb b rfl
        have e2 := better_ok (L := L) (k := k) (S := S) (ls := ls) (r := r) (dd := dd) (ak := a ++ [fitF g len]) (n := n) (ru := ru) hm hgk (hg _ (gAt_mem hb')) (by simp; omega)
        obtain ⟨x', y', e⟩ := choice_loop hm hg q (i + 1) (if betB n ru g (gAt gs b) = true then some i else some b) (a ++ [fitF g len] ++ betA ru g (gAt gs b)) (some (.int i)) (some (gD g)) (fun g hg => hq g (List.mem_cons_of_mem _ hg)) (fun b' e => by split at e <;> cases e <;> omega) (by omega) (by have := betA_len ru g (gAt gs b); simp; omega)
        refine ⟨x', y', ?_⟩
        have step : exss L.cons (L.run (k + 4)) L.fuel b_choice_0 [some (.cell m), some (.int len), some (ruD ru), some (.int n), some (oiD (some b)), some (.lst (gs.map gD)), some (.int i), some (gD g)] (S.set m (stO ls r dd a)) = .nx [some (.cell m), some (.int len), some (ruD ru), some (.int n), some (oiD (if betB n ru g (gAt gs b) = true then some i else some b)), some (.lst (gs.map gD)), some (.int i), some (gD g)] (S.set m (stO ls r dd (a ++ [fitF g len] ++ betA ru g (gAt gs b)))) := by
          have e1 := e1
          rw [decide_eq_true c] at e1
          simp at e1 e2
          cases q2 : betB n ru g (gAt gs b) <;> simp [b_choice_0, e1, atI_nat, gAt_eq hb', e2, q2]
        exact (congrArg (fun z : Fl => z.then fun ρ S => evFor _ (exss L.cons (L.run (k + 4)) L.fuel b_choice_0) (enumL (i + 1) (q.map gD)) ρ S) step).trans e
    · rw [if_neg c]
      obtain ⟨x', y', e⟩ := choice_loop hm hg q (i + 1) best (a ++ [fitF g len]) (some (.int i)) (some (gD g)) (fun g hg => hq g (List.mem_cons_of_mem _ hg)) hb (by omega) (by simp; omega)
      refine ⟨x', y', ?_⟩
      have step : exss L.cons (L.run (k + 4)) L.fuel b_choice_0 [some (.cell m), some (.int len), some (ruD ru), some (.int n), some (oiD best), some (.lst (gs.map gD)), some (.int i), some (gD g)] (S.set m (stO ls r dd a)) = .nx [some (.cell m), some (.int len), some (ruD ru), some (.int n), some (oiD best), some (.lst (gs.map gD)), some (.int i), some (gD g)] (S.set m (stO ls r dd (a ++ [fitF g len]))) := by
        have e1 := e1
        rw [decide_eq_false c] at e1
        simp at e1
        simp [b_choice_0, e1]
      exact (congrArg (fun z : Fl => z.then fun ρ S => evFor _ (exss L.cons (L.run (k + 4)) L.fuel b_choice_0) (enumL (i + 1) (q.map gD)) ρ S) step).trans e
abbrev chosen (ls : List Int) (r : Row) (ak : List Fm) (len : Int) (ru : Ru) (n : Int) : Option Nat × List Fm := scan n len ru (spaces ls r (0, 0)) 0 (spaces ls r (0, 0)) none ak
theorem choice_ok (hm : m < S.length) (hr : Rk ls r) (hl : r.length < 1000) (ha : ak.length < 1000000) : L.run (k + 5) (.glo f_choice) [.cell m, .int len, ruD ru, .int n] (S.set m (stO ls r dd ak)) = .ok (oiD (chosen ls r ak len ru n).1) (S.set m (stO ls r dd (chosen ls r ak len ru n).2)) := by
  refine run_non h_choice rfl ⟨rfl, by decide⟩ ?_
  have e0 := all_gaps_ok (L := L) (k := k + 2) (S := S.set m (stO ls r dd ak)) (m := m) (ls := ls) (r := r) (dd := dd) (ak := ak) (List.getElem?_set_self hm) hr hl
  have hg := spaces_ok ls r (0, 0) hr (by simp) (by simp)
  obtain ⟨x, y, e⟩ := choice_loop (L := L) (k := k) (S := S) (len := len) (n := n) (ls := ls) (r := r) (dd := dd) (ru := ru) hm hg (spaces ls r (0, 0)) 0 none ak none none hg (fun b e => by cases e) (by simp) (by rw [spaces_len]; simp; omega)
  simp at e
  simp [d_choice, e0]
  rw [e]
  simp
end
end KI


set_option Elab.async false
set_option linter.all false
set_option maxRecDepth 100000
set_option autoImplicit false
set_option maxHeartbeats 1000000
/-! A deed done. -/
namespace KI
open PySem
theorem evLc_mapA {α : Type} {turn : D → Sto → Res (Option D)} {S : Sto} (h : α → D) (f : α → Option D) : ∀ {as : List α} {acc : List D}, (∀ a ∈ as, turn (h a) S = .ok (f a) S) → acc.length + as.length < LN → evLc turn (as.map h) acc S = .ok (acc ++ as.filterMap f) S
  | [], acc, _, _ => by simp [evLc]
  | a :: as, acc, ht, hl => by
    rw [List.map_cons]
    unfold evLc
    rw [ht a List.mem_cons_self]
    rw [List.length_cons] at hl
    cases q : f a with
    | none =>
      show evLc turn (as.map h) acc S = _
      rw [evLc_mapA h f (fun y hy => ht y (List.mem_cons_of_mem _ hy)) (by omega)]
      simp [List.filterMap_cons, q]
    | some d =>
      show (if acc.length < LN then evLc turn (as.map h) (acc ++ [d]) S else .no) = _
      rw [if_pos (by omega), evLc_mapA h f (fun y hy => ht y (List.mem_cons_of_mem _ hy)) (by rw [List.length_append]; show acc.length + 1 + as.length < LN; omega)]
      simp [List.filterMap_cons, q]
theorem lc_mapA {α : Type} {cons : Nat → D} {call : Call} {own : List Nat} {tg : Tg} {it : It} {c : Oe} {e : Ex} {ρ : Env} {S : Sto} (h : α → D) (f : α → Option D) (as : List α) (hi : evi cons call it ρ S = .ok (as.map h) S)
    (ht : ∀ a ∈ as, (match bindT tg (h a) (wipeE ρ own) with
      | some ρ' => (evc cons call c ρ' S).bind fun b S => bif b then (ev cons call e ρ' S).bind fun d S => .ok (some d) S else .ok none S
      | none => .no) = .ok (f a) S) (hl : as.length < LN) : ev cons call (.lc own tg it c e) ρ S = .ok (.lst (as.filterMap f)) S := by
  show (evi cons call it ρ S).bind _ = _
  rw [hi]
  show (evLc _ (as.map h) [] S).bind _ = _
  rw [evLc_mapA h f ht (by simpa using hl)]
  rfl
theorem lc_allA {α : Type} {cons : Nat → D} {call : Call} {own : List Nat} {tg : Tg} {it : It} {e : Ex} {ρ : Env} {S : Sto} (h : α → D) (f : α → D) (as : List α) (hi : evi cons call it ρ S = .ok (as.map h) S)
    (ht : ∀ a ∈ as, (match bindT tg (h a) (wipeE ρ own) with
      | some ρ' => (ev cons call e ρ' S).bind fun d S => .ok (some d) S
      | none => .no) = .ok (some (f a)) S) (hl : as.length < LN) : ev cons call (.lc own tg it .none e) ρ S = .ok (.lst (as.map f)) S := by
  rw [lc_mapA (c := .none) (own := own) (tg := tg) (e := e) h (fun a => some (f a)) as hi (fun a ha => ht a ha) hl]
  rw [← List.filterMap_eq_map]
  rfl
@[simp] theorem cut_to {α : Type} (xs : List α) (i : Nat) : cut xs none (some (i : Int)) = xs.take i := by
  unfold cut
  rw [HT.sIx_none, HT.sIx_nat]
  by_cases h : i ≤ xs.length
  · simp [Nat.min_eq_left h]
  · rw [Nat.min_eq_right (by omega), List.take_of_length_le (show xs.length ≤ i by omega)]
    simp
@[simp] theorem cut_from {α : Type} (xs : List α) (i : Nat) : cut xs (some (i : Int)) none = xs.drop i := by
  unfold cut
  rw [HT.sIx_none, HT.sIx_nat]
  by_cases h : i ≤ xs.length
  · rw [Nat.min_eq_left h, List.take_of_length_le (by simp)]
  · rw [Nat.min_eq_right (by omega), List.drop_of_length_le (by omega), List.drop_of_length_le (by omega)]
    simp
@[simp] theorem cut_from1 {α : Type} (xs : List α) (i : Nat) : cut xs (some ((i : Int) + 1)) none = xs.drop (i + 1) := cut_from xs (i + 1)
@[simp] theorem atI_1n (xs : List D) (i : Nat) : L2.atI xs ((i : Int) + 1) = xs[i + 1]? := atI_nat xs (i + 1)
@[simp] theorem shpL_intm {α : Type} (f : α → Int) (k : Nat) : ∀ l : List α, shpL k (l.map fun x => D.int (f x)) = true
  | [] => by cases k <;> rfl
  | x :: l => by simp [shpL_intm f k l]
def placeF (ru : Ru) (g : Fm × Fm) (len : Int) : Fm := match ru with
  | .back => (g.1.1 + g.2.1, g.1.2 + g.2.2 + -len)
  | _ => g.1
def hasCar (r : Row) (c : Nat) : Bool := r.any fun x => decide (x.1 = c)
def parkP (ls : List Int) (r : Row) (ak : List Fm) (c : Nat) (ru : Ru) (n : Int) : Bool × Row × List Fm :=
  match (chosen ls r ak (lenAt ls c) ru n).1 with
  | none => (false, r, (chosen ls r ak (lenAt ls c) ru n).2)
  | some i => if hasCar r c = true then (false, r, (chosen ls r ak (lenAt ls c) ru n).2) else (true, r.take i ++ [(c, placeF ru (gAt (spaces ls r (0, 0)) i) (lenAt ls c))] ++ r.drop i, (chosen ls r ak (lenAt ls c) ru n).2)
/-- where a car stands -/
def spots (c : Nat) : Nat → Row → List Nat
  | _, [] => []
  | i, x :: r => if x.1 = c then i :: spots c (i + 1) r else spots c (i + 1) r
def spotP (r : Row) (c : Nat) : Option Nat := (spots c 0 r).head?
theorem spots_lt (c : Nat) : ∀ (i : Nat) (r : Row), ∀ j ∈ spots c i r, i ≤ j ∧ j < i + r.length
  | _, [], j, h => nomatch h
  | i, x :: r, j, h => by
    unfold spots at h
    rw [List.length_cons]
    split at h
    · rcases List.mem_cons.mp h with e | h
      · omega
      · have := spots_lt c (i + 1) r j h; omega
    · have := spots_lt c (i + 1) r j h; omega
theorem spotP_lt {r : Row} {c i : Nat} (h : spotP r c = some i) : i < r.length := by
  unfold spotP at h
  have := spots_lt c 0 r i (List.mem_of_mem_head? (by rw [h]; rfl))
  omega
def rAt (r : Row) (i : Nat) : Nat × Fm := r[i]?.getD (0, 0, 0)
theorem rAt_eq {r : Row} {i : Nat} (h : i < r.length) : r[i]? = some (rAt r i) := by
  unfold rAt
  rw [List.getElem?_eq_getElem h]
  rfl
def moveTo (r : Row) (i : Nat) (f : Fm) : Row := r.take i ++ [((rAt r i).1, f)] ++ r.drop (i + 1)
def shiftP (r : Row) (ak : List Fm) (i : Nat) (g : Fm × Fm) (f : Fm) (n : Int) : Bool × Row × List Fm :=
  if wo g.2 n = 0 then (false, r, ak ++ [g.2]) else (true, moveTo r i f, ak ++ [g.2])
inductive Dd | park (c : Nat) (ru : Ru) | leave (c : Nat) | pull (c : Nat) | drop (c : Nat)
  deriving DecidableEq
def Dd.car : Dd → Nat
  | .park c _ | .leave c | .pull c | .drop c => c
def ddD : Dd → D
  | .park c ru => .tup [.str "park", .int c, ruD ru]
  | .leave c => .tup [.str "leave", .int c]
  | .pull c => .tup [.str "pull", .int c]
  | .drop c => .tup [.str "drop", .int c]
@[simp] theorem ddD_park (c : Nat) (ru : Ru) : ddD (.park c ru) = .tup [.str "park", .int c, ruD ru] := rfl
@[simp] theorem ddD_leave (c : Nat) : ddD (.leave c) = .tup [.str "leave", .int c] := rfl
@[simp] theorem ddD_pull (c : Nat) : ddD (.pull c) = .tup [.str "pull", .int c] := rfl
@[simp] theorem ddD_drop (c : Nat) : ddD (.drop c) = .tup [.str "drop", .int c] := rfl
@[simp] theorem car_park (c : Nat) (ru : Ru) : (Dd.park c ru).car = c := rfl
@[simp] theorem car_leave (c : Nat) : (Dd.leave c).car = c := rfl
@[simp] theorem car_pull (c : Nat) : (Dd.pull c).car = c := rfl
@[simp] theorem car_drop (c : Nat) : (Dd.drop c).car = c := rfl
def doP (ls : List Int) (r : Row) (ak : List Fm) (n : Int) : Dd → Bool × Row × List Fm
  | .park c ru => parkP ls r ak c ru n
  | .leave c => match spotP r c with
    | none => (false, r, ak)
    | some i => (true, r.take i ++ r.drop (i + 1), ak)
  | .pull c => match spotP r c with
    | none => (false, r, ak)
    | some i => shiftP r ak i (gAt (spaces ls r (0, 0)) i) (gAt (spaces ls r (0, 0)) i).1 n
  | .drop c => match spotP r c with
    | none => (false, r, ak)
    | some i => shiftP r ak i (gAt (spaces ls r (0, 0)) (i + 1)) (ad (rAt r i).2 (gAt (spaces ls r (0, 0)) (i + 1)).2) n
section
variable {L : Lw} [L.Std] {k : Nat} {S : Sto} {m : Nat} {n len : Int} {ls : List Int} {r : Row} {dd : List Bool} {ak : List Fm} {ru : Ru}
theorem place_in_ok {g : Fm × Fm} : L.run (k + 2) (.glo f_place_in) [gD g, .int len, ruD ru] S = .ok (fD (placeF ru g len)) S := by
  refine run_reg (S' := []) h_place_in rfl ⟨rfl, by decide⟩ (by simp) ?_ (by cases ru <;> simp)
  cases ru <;> simp [d_place_in, placeF]
theorem cars_lc {cons : Nat → D} {call : Call} {tg : Tg} {it : It} {own : List Nat} {e : Ex} {ρ : Env} {r : Row} (hi : evi cons call it ρ S = .ok (r.map cD) S) (ht : ∀ a ∈ r, (match bindT tg (cD a) (wipeE ρ own) with
      | some ρ' => (ev cons call e ρ' S).bind fun d S => .ok (some d) S
      | none => .no) = .ok (some (.int a.1)) S) (hl : r.length < 1000) : ev cons call (.lc own tg it .none e) ρ S = .ok (.lst (r.map fun a => .int a.1)) S := lc_allA cD (fun a => .int a.1) r hi ht (by simp; omega)
theorem any_cars (r : Row) (c : Nat) : ((r.map fun a => D.int a.1).any fun y => eqD y (.int c)) = hasCar r c := by
  unfold hasCar
  rw [List.any_map]
  congr 1
  funext x
  simp
  by_cases h : x.1 = c <;> simp [h] <;> omega
theorem any_cars2 (r : Row) (c : Nat) : r.any ((fun y => eqD y (.int c)) ∘ fun a => D.int a.1) = hasCar r c := by
  rw [← any_cars, List.any_map]
theorem parked_ok (hm : m < S.length) (hr : Rk ls r) (hl : r.length < 1000) (ha : ak.length < 1000000) {c : Nat} (hc : c < ls.length) :
    L.run (k + 6) (.glo f_parked) [.cell m, .int c, ruD ru, .int n] (S.set m (stO ls r dd ak)) = .ok (.bl (parkP ls r ak c ru n).1) (S.set m (stO ls (parkP ls r ak c ru n).2.1 dd (parkP ls r ak c ru n).2.2)) := by
  refine run_non h_parked rfl ⟨rfl, by decide⟩ ?_
  have e0 := choice_ok (L := L) (k := k) (S := S) (len := lenAt ls c) (n := n) (ls := ls) (r := r) (dd := dd) (ak := ak) (ru := ru) hm hr hl ha
  have e1 := all_gaps_ok (L := L) (k := k + 3) (S := S.set m (stO ls r dd (chosen ls r ak (lenAt ls c) ru n).2)) (m := m) (ls := ls) (r := r) (dd := dd) (ak := (chosen ls r ak (lenAt ls c) ru n).2) (List.getElem?_set_self hm) hr hl
  have g0 : idxD (S.set m (stO ls r dd ak)) (.cell m) (.str "row") = some (rwD r) := by simp [List.getElem?_set_self hm, stO]
  have g1 : idxD (S.set m (stO ls r dd ak)) (.cell m) (.str "lengths") = some (lsD ls) := by simp [List.getElem?_set_self hm, stO]
  unfold parkP
  cases q : (chosen ls r ak (lenAt ls c) ru n).1 with
  | none =>
    rw [q] at e0
    simp only [oiD] at e0
    simp [-i_cells, d_parked, g0, g1, lsD, atI_nat, lenAt_eq hc, e0]
  | some i =>
    have hi : i < (spaces ls r (0, 0)).length := scan_lt n (lenAt ls c) ru (spaces ls r (0, 0)) (spaces ls r (0, 0)) 0 none ak (fun b e => by cases e) (by simp) i q
    rw [q] at e0
    simp only [oiD] at e0
    have e2 : ∀ S, ev L.cons (L.run (k + 5)) l_parked_0 [some (.cell m), some (.int c), some (ruD ru), some (.int n), some (.int i), none, some (rwD r), some (.int (lenAt ls c)), none] S = .ok (.lst (r.map fun a => .int a.1)) S := fun S => by
      refine cars_lc (by simp [rwD]) (fun a ha => by simp) hl
    have e3 := place_in_ok (L := L) (k := k + 3) (S := S.set m (stO ls r dd (chosen ls r ak (lenAt ls c) ru n).2)) (len := lenAt ls c) (ru := ru) (g := gAt (spaces ls r (0, 0)) i)
    have hl2 : r.length + 1 ≤ 16777216 := by omega
    have hl3 : min i r.length + 1 ≤ 16777216 := by omega
    have hl4 : min i r.length + (1 + (r.length - i)) ≤ 16777216 := by omega
    have hl5 : min i r.length + 1 + (r.length - i) ≤ 16777216 := by omega
    simp only
    cases qc : hasCar r c with
    | true =>
      simp [-i_cells, d_parked, g0, g1, lsD, atI_nat, lenAt_eq hc, e0, e2, any_cars2, qc]
    | false =>
      simp at e3
      simp [-i_cells, d_parked, g0, g1, lsD, atI_nat, lenAt_eq hc, e0, e2, any_cars2, qc, e1, atI_nat, gAt_eq hi, e3]
      simp [rwD, stO, List.getElem?_set_self hm, List.set_set, hl3, hl5]
theorem spot_lc (r : Row) (c : Nat) : ∀ i : Nat, (enumL i (r.map cD)).filterMap (fun x => match x with
    | .tup [a, .tup [.int b, _]] => if b = (c : Int) then some a else none
    | _ => none) = (spots c i r).map fun j => D.int (j : Nat) := by
  induction r with
  | nil => intro i; rfl
  | cons x r ih =>
    intro i
    obtain ⟨a, p⟩ := x
    have h := ih (i + 1)
    show List.filterMap _ (.tup [.int i, cD (a, p)] :: enumL (i + 1) (r.map cD)) = _
    rw [List.filterMap_cons]
    unfold spots
    by_cases e : a = c
    · subst e
      simpa using h
    · have e2 : ¬ (a : Int) = (c : Int) := by omega
      simpa [e, e2] using h
theorem enumL_mem : ∀ {r : Row} {i : Nat} {x : D}, x ∈ enumL i (r.map cD) → ∃ (j : Nat) (c : Nat × Fm), x = .tup [.int j, cD c]
  | [], _, _, h => nomatch h
  | c :: r, i, x, h => by
    rcases List.mem_cons.mp (show x ∈ .tup [.int i, cD c] :: enumL (i + 1) (r.map cD) from h) with e | h
    · exact ⟨i, c, e⟩
    · exact enumL_mem h
theorem spots_len (c : Nat) : ∀ (i : Nat) (r : Row), (spots c i r).length ≤ r.length
  | _, [] => by simp [spots]
  | i, x :: r => by
    unfold spots
    have := spots_len c (i + 1) r
    split <;> simp <;> omega
theorem spot_of_ok (hm : m < S.length) (hl : r.length < 1000) {c : Nat} : L.run (k + 1) (.glo f_spot_of) [.cell m, .int c] (S.set m (stO ls r dd ak)) = .ok (oiD (spotP r c)) (S.set m (stO ls r dd ak)) := by
  refine run_non h_spot_of rfl ⟨rfl, by decide⟩ ?_
  have g0 : idxD (S.set m (stO ls r dd ak)) (.cell m) (.str "row") = some (rwD r) := by simp [List.getElem?_set_self hm, stO]
  have e2 : ev L.cons (L.run k) l_spot_of_0 [some (.cell m), some (.int c), none, none, none, none] (S.set m (stO ls r dd ak)) = .ok (.lst ((spots c 0 r).map fun j => D.int (j : Nat))) (S.set m (stO ls r dd ak)) := by
    rw [← spot_lc]
    refine lc_map _ (by simp [-i_cells, g0, rwD]) (fun x hx => ?_) (by rw [enumL_length]; simp; omega)
    obtain ⟨j, c', rfl⟩ := enumL_mem hx
    by_cases e : (c'.1 : Int) = (c : Int)
    · simp [e]
    · have e3 : ((c'.1 : Int) == (c : Int)) = false := by simpa using e
      simp [e, e3]
  unfold spotP
  cases q : spots c 0 r with
  | nil =>
    rw [q] at e2
    simp [d_spot_of, e2]
  | cons j js =>
    rw [q] at e2
    simp [d_spot_of, e2]
theorem shifted_ok (hm : m < S.length) (hl : r.length < 1000) (ha : ak.length < 1000000) {g : Fm × Fm} {f : Fm} (hg : Gk g) {i : Nat} (hi : i < r.length) :
    L.run (k + 4) (.glo f_shifted) [.cell m, .int i, gD g, fD f, .int n] (S.set m (stO ls r dd ak)) = .ok (.bl (shiftP r ak i g f n).1) (S.set m (stO ls (shiftP r ak i g f n).2.1 dd (shiftP r ak i g f n).2.2)) := by
  refine run_non h_shifted rfl ⟨rfl, by decide⟩ ?_
  have e0 := asks_ok (L := L) (k := k) (S := S) (ls := ls) (r := r) (dd := dd) (ak := ak) (a := g.2.1) (b := g.2.2) (n := n) hm (mo _ _ (by unfold Gk at hg; omega) (by unfold Gk at hg; omega)) (by simp; omega)
  have g0 : idxD (S.set m (stO ls r dd (ak ++ [g.2]))) (.cell m) (.str "row") = some (rwD r) := by simp [List.getElem?_set_self hm, stO]
  have hl5 : i + 1 + (r.length - (i + 1)) ≤ 16777216 := by omega
  have hl3 : min i r.length + 1 ≤ 16777216 := by omega
  have hl6 : min i r.length + 1 + (r.length - (i + 1)) ≤ 16777216 := by omega
  have hl7 : min i r.length ≤ 16777215 := by omega
  unfold shiftP
  by_cases q : wo g.2 n = 0
  · rw [if_pos q]
    have q2 : (sgn (g.2.1, g.2.2) n == 0) = true := by rw [beq_iff_eq, sgn_eq]; exact q
    simp [d_shifted, e0, q2]
  · rw [if_neg q]
    have q : (sgn (g.2.1, g.2.2) n == 0) = false := by rw [beq_eq_false_iff_ne, ne_eq, sgn_eq]; exact q
    simp [-i_cells, d_shifted, e0, q, g0, rwD, atI_nat, rAt_eq hi]
    simp [rwD, stO, moveTo, List.getElem?_set_self hm, List.set_set, hl7, hl6]
end
end KI


set_option Elab.async false
set_option linter.all false
set_option maxRecDepth 100000
set_option autoImplicit false
set_option maxHeartbeats 1000000
/-! All deeds done. -/
namespace KI
open PySem
theorem placeF_ok {ru : Ru} {g : Fm × Fm} {len : Int} (h : Gk g) : 0 ≤ (placeF ru g len).1 ∧ (placeF ru g len).1 ≤ 1 := by
  obtain ⟨h1, h2, h3, h4⟩ := h
  cases ru <;> exact ⟨by assumption, by assumption⟩
theorem Rk.take {ls : List Int} {r : Row} (h : Rk ls r) (i : Nat) : Rk ls (r.take i) := fun c hc => h c (List.mem_of_mem_take hc)
theorem Rk.drop {ls : List Int} {r : Row} (h : Rk ls r) (i : Nat) : Rk ls (r.drop i) := fun c hc => h c (List.mem_of_mem_drop hc)
theorem Rk.app {ls : List Int} {r q : Row} (h : Rk ls r) (h2 : Rk ls q) : Rk ls (r ++ q) := fun c hc => (List.mem_append.mp hc).elim (h c) (h2 c)
theorem Rk.one {ls : List Int} {c : Nat} {f : Fm} (h : c < ls.length) (h1 : 0 ≤ f.1 ∧ f.1 ≤ 1) : Rk ls [(c, f)] := fun x hx => by
  have : x = (c, f) := by simpa using hx
  subst this
  exact ⟨h, h1.1, h1.2⟩
theorem rAt_mem {r : Row} {i : Nat} (h : i < r.length) : rAt r i ∈ r := List.mem_of_getElem? (rAt_eq h)
theorem moveTo_rk {ls : List Int} {r : Row} (h : Rk ls r) {i : Nat} (hi : i < r.length) {f : Fm} (h1 : 0 ≤ f.1 ∧ f.1 ≤ 1) : Rk ls (moveTo r i f) := ((h.take i).app (.one (h _ (rAt_mem hi)).1 h1)).app (h.drop _)
theorem moveTo_len {r : Row} {i : Nat} {f : Fm} : (moveTo r i f).length ≤ r.length + 1 := by simp [moveTo]; omega
theorem chosen_lt {ls : List Int} {r : Row} {ak : List Fm} {len n : Int} {ru : Ru} {i : Nat} (q : (chosen ls r ak len ru n).1 = some i) : i < (spaces ls r (0, 0)).length :=
  scan_lt n len ru (spaces ls r (0, 0)) (spaces ls r (0, 0)) 0 none ak (fun b e => by cases e) (by simp) i q
theorem chosen_len (ls : List Int) (r : Row) (ak : List Fm) (len n : Int) (ru : Ru) : (chosen ls r ak len ru n).2.length ≤ ak.length + 2 * (r.length + 1) := by
  have := scan_len n len ru (spaces ls r (0, 0)) (spaces ls r (0, 0)) 0 none ak
  rw [spaces_len] at this
  exact this
theorem drop_gk {ls : List Int} {r : Row} (h : Rk ls r) {i : Nat} (hi : i < r.length) : 0 ≤ (ad (rAt r i).2 (gAt (spaces ls r (0, 0)) (i + 1)).2).1 ∧ (ad (rAt r i).2 (gAt (spaces ls r (0, 0)) (i + 1)).2).1 ≤ 1 := by
  obtain ⟨g, h1, h2⟩ := spaces_get ls r (0, 0) (rAt_eq hi)
  have e : gAt (spaces ls r (0, 0)) (i + 1) = g := by unfold gAt; rw [h1]; rfl
  rw [e]
  obtain ⟨_, _, h3, h4⟩ := spaces_ok ls r (0, 0) h (by simp) (by simp) g (List.mem_of_getElem? h1)
  rw [h2] at h3 h4
  exact ⟨h3, h4⟩
theorem shiftP_ok {ls : List Int} {r : Row} (ak : List Fm) {n : Int} {i : Nat} (g : Fm × Fm) {f : Fm} (h : Rk ls r) (hi : i < r.length) (h1 : 0 ≤ f.1 ∧ f.1 ≤ 1) : Rk ls (shiftP r ak i g f n).2.1 ∧ (shiftP r ak i g f n).2.1.length ≤ r.length + 1 ∧ (shiftP r ak i g f n).2.2.length ≤ ak.length + 2 * (r.length + 1) := by
  unfold shiftP
  split
  · exact ⟨h, by simp, by simp; omega⟩
  · exact ⟨moveTo_rk h hi h1, moveTo_len, by simp; omega⟩
theorem doP_ok (ls : List Int) (r : Row) (ak : List Fm) (n : Int) (d : Dd) (h : Rk ls r) (hd : d.car < ls.length) : Rk ls (doP ls r ak n d).2.1 ∧ (doP ls r ak n d).2.1.length ≤ r.length + 1 ∧ (doP ls r ak n d).2.2.length ≤ ak.length + 2 * (r.length + 1) := by
  have hg := spaces_ok ls r (0, 0) h (by simp) (by simp)
  cases d with
  | park c ru =>
    show Rk ls (parkP ls r ak c ru n).2.1 ∧ (parkP ls r ak c ru n).2.1.length ≤ _ ∧ (parkP ls r ak c ru n).2.2.length ≤ _
    have hc := chosen_len ls r ak (lenAt ls c) n ru
    unfold parkP
    split
    · exact ⟨h, by simp, hc⟩
    · rename_i i q
      split
      · exact ⟨h, by simp, hc⟩
      · exact ⟨((h.take i).app (.one hd (placeF_ok (hg _ (gAt_mem (chosen_lt q)))))).app (h.drop i), by simp; omega, hc⟩
  | leave c =>
    simp only [doP]
    cases q : spotP r c with
    | none => exact ⟨h, by simp, by simp⟩
    | some i => exact ⟨(h.take i).app (h.drop _), by simp; omega, by simp⟩
  | pull c =>
    simp only [doP]
    cases q : spotP r c with
    | none => exact ⟨h, by simp, by simp⟩
    | some i =>
      have hi := spotP_lt q
      have hm := hg _ (gAt_mem (i := i) (by rw [spaces_len]; omega))
      exact shiftP_ok ak _ h hi ⟨hm.1, hm.2.1⟩
  | drop c =>
    simp only [doP]
    cases q : spotP r c with
    | none => exact ⟨h, by simp, by simp⟩
    | some i => exact shiftP_ok ak _ h (spotP_lt q) (drop_gk h (spotP_lt q))
/-- all deeds: the row, what was done, what was asked -/
def runP (ls : List Int) (n : Int) : List Dd → Row → List Bool → List Fm → Row × List Bool × List Fm
  | [], r, b, a => (r, b, a)
  | d :: ds, r, b, a => runP ls n ds (doP ls r a n d).2.1 (b ++ [(doP ls r a n d).1]) (doP ls r a n d).2.2
theorem runP_ok (ls : List Int) (n : Int) : ∀ (ds : List Dd) (r : Row) (b : List Bool) (a : List Fm), Rk ls r → (∀ d ∈ ds, d.car < ls.length) → r.length + ds.length ≤ 1000 → Rk ls (runP ls n ds r b a).1 ∧ (runP ls n ds r b a).1.length ≤ r.length + ds.length ∧ (runP ls n ds r b a).2.1.length = b.length + ds.length ∧ (runP ls n ds r b a).2.2.length ≤ a.length + 2002 * ds.length
  | [], r, b, a, h, _, _ => ⟨h, by simp [runP], by simp [runP], by simp [runP]⟩
  | d :: ds, r, b, a, h, hd, hl => by
    rw [List.length_cons] at hl
    obtain ⟨h1, h2, h3⟩ := doP_ok ls r a n d h (hd d List.mem_cons_self)
    obtain ⟨g1, g2, g3, g4⟩ := runP_ok ls n ds (doP ls r a n d).2.1 (b ++ [(doP ls r a n d).1]) (doP ls r a n d).2.2 h1 (fun d hd' => hd d (List.mem_cons_of_mem _ hd')) (by omega)
    refine ⟨g1, ?_, ?_, ?_⟩
    · show (runP ls n ds _ _ _).1.length ≤ _
      rw [List.length_cons]; omega
    · show (runP ls n ds _ _ _).2.1.length = _
      rw [g3, List.length_append, List.length_cons]
      simp; omega
    · show (runP ls n ds _ _ _).2.2.length ≤ _
      rw [List.length_cons]; omega
def plD (ls : List Int) (ds : List Dd) : D := .tup [lsD ls, .tup (ds.map ddD)]
section
variable {L : Lw} [L.Std] {k : Nat} {S : Sto} {m : Nat} {n : Int} {ls : List Int} {r : Row} {dd : List Bool} {ak : List Fm}
theorem do_ok (hm : m < S.length) (hr : Rk ls r) (hl : r.length < 1000) (ha : ak.length < 1000000) {d : Dd} (hc : d.car < ls.length) :
    L.run (k + 7) (.glo f_do) [.cell m, ddD d, .int n] (S.set m (stO ls r dd ak)) = .ok (.bl (doP ls r ak n d).1) (S.set m (stO ls (doP ls r ak n d).2.1 dd (doP ls r ak n d).2.2)) := by
  refine run_non h_do rfl ⟨rfl, by decide⟩ ?_
  have g0 : idxD (S.set m (stO ls r dd ak)) (.cell m) (.str "row") = some (rwD r) := by simp [List.getElem?_set_self hm, stO]
  have hg := spaces_ok ls r (0, 0) hr (by simp) (by simp)
  have eg := all_gaps_ok (L := L) (k := k + 4) (S := S.set m (stO ls r dd ak)) (m := m) (ls := ls) (r := r) (dd := dd) (ak := ak) (List.getElem?_set_self hm) hr hl
  cases d with
  | park c ru =>
    have e := parked_ok (L := L) (k := k) (S := S) (n := n) (ls := ls) (r := r) (dd := dd) (ak := ak) (ru := ru) (c := c) hm hr hl ha hc
    simp [d_do, e, doP]
  | leave c =>
    have e1 := spot_of_ok (L := L) (k := k + 5) (S := S) (ls := ls) (r := r) (dd := dd) (ak := ak) (c := c) hm hl
    simp only [doP]
    cases q : spotP r c with
    | none =>
      rw [q] at e1
      simp at e1
      simp [d_do, e1]
    | some i =>
      rw [q] at e1
      simp at e1
      have hi := spotP_lt q
      have hl6 : min i r.length + (r.length - (i + 1)) ≤ 16777216 := by omega
      simp [-i_cells, d_do, e1, g0, eg]
      simp [rwD, stO, List.getElem?_set_self hm, List.set_set, hl6]
  | pull c =>
    have e1 := spot_of_ok (L := L) (k := k + 5) (S := S) (ls := ls) (r := r) (dd := dd) (ak := ak) (c := c) hm hl
    simp only [doP]
    cases q : spotP r c with
    | none =>
      rw [q] at e1
      simp at e1
      simp [d_do, e1]
    | some i =>
      rw [q] at e1
      simp at e1
      have hi := spotP_lt q
      have hi2 : i < (spaces ls r (0, 0)).length := by rw [spaces_len]; omega
      have e2 := shifted_ok (L := L) (k := k + 2) (S := S) (n := n) (ls := ls) (r := r) (dd := dd) (ak := ak) (f := (gAt (spaces ls r (0, 0)) i).1) hm hl ha (hg _ (gAt_mem hi2)) hi
      simp at e2
      simp [-i_cells, d_do, e1, g0, eg, atI_nat, gAt_eq hi2, e2]
  | drop c =>
    have e1 := spot_of_ok (L := L) (k := k + 5) (S := S) (ls := ls) (r := r) (dd := dd) (ak := ak) (c := c) hm hl
    simp only [doP]
    cases q : spotP r c with
    | none =>
      rw [q] at e1
      simp at e1
      simp [d_do, e1]
    | some i =>
      rw [q] at e1
      simp at e1
      have hi := spotP_lt q
      have hi2 : i + 1 < (spaces ls r (0, 0)).length := by rw [spaces_len]; omega
      have e2 := shifted_ok (L := L) (k := k + 2) (S := S) (n := n) (ls := ls) (r := r) (dd := dd) (ak := ak) (f := ad (rAt r i).2 (gAt (spaces ls r (0, 0)) (i + 1)).2) hm hl ha (hg _ (gAt_mem hi2)) hi
      simp at e2
      simp [-i_cells, d_do, e1, g0, eg, atI_nat, gAt_eq hi2, e2, rwD, rAt_eq hi]
theorem last_loop (hm : m < S.length) {x0 : Option D} : ∀ (ds : List Dd) (r : Row) (b : List Bool) (a : List Fm) (x y : Option D), Rk ls r → (∀ d ∈ ds, d.car < ls.length) → r.length + ds.length < 1000 → b.length + ds.length < 1000 → a.length + 2002 * ds.length < 1000000 →
    ∃ x' y', evFor (.nm 3) (exss L.cons (L.run (k + 7)) L.fuel b_last_of_0) (ds.map ddD) [x0, some (.int n), some (.cell m), x, y] (S.set m (stO ls r b a)) = .nx [x0, some (.int n), some (.cell m), x', y'] (S.set m (stO ls (runP ls n ds r b a).1 (runP ls n ds r b a).2.1 (runP ls n ds r b a).2.2))
  | [], r, b, a, x, y, _, _, _, _, _ => ⟨x, y, rfl⟩
  | d :: ds, r, b, a, x, y, hr, hd, hl, hb, ha => by
    rw [List.length_cons] at hl hb ha
    obtain ⟨h1, h2, h3⟩ := doP_ok ls r a n d hr (hd d List.mem_cons_self)
    have e0 := do_ok (L := L) (k := k) (S := S) (n := n) (ls := ls) (r := r) (dd := b) (ak := a) hm hr (by omega) (by omega) (hd d List.mem_cons_self)
    obtain ⟨x', y', e⟩ := last_loop hm ds (doP ls r a n d).2.1 (b ++ [(doP ls r a n d).1]) (doP ls r a n d).2.2 (some (ddD d)) (some (.bl (doP ls r a n d).1)) h1 (fun d hd' => hd d (List.mem_cons_of_mem _ hd')) (by omega) (by simp; omega) (by omega)
    refine ⟨x', y', ?_⟩
    rw [List.map_cons]
    unfold evFor
    simp only [bindT]
    have hb2 : b.length + 1 ≤ 16777216 := by omega
    have step : exss L.cons (L.run (k + 7)) L.fuel b_last_of_0 [x0, some (.int n), some (.cell m), some (ddD d), y] (S.set m (stO ls r b a)) = .nx [x0, some (.int n), some (.cell m), some (ddD d), some (.bl (doP ls r a n d).1)] (S.set m (stO ls (doP ls r a n d).2.1 (b ++ [(doP ls r a n d).1]) (doP ls r a n d).2.2)) := by
      simp [b_last_of_0, e0]
      simp [diD, stO, List.getElem?_set_self hm, List.set_set, hb2]
    exact (congrArg (fun z : Fl => z.then fun ρ S => evFor _ (exss L.cons (L.run (k + 7)) L.fuel b_last_of_0) (ds.map ddD) ρ S) step).trans e
/-- a plan that may be asked -/
structure Pk (ls : List Int) (ds : List Dd) : Prop where
  l0 : 1 ≤ ls.length
  l1 : ls.length ≤ 5
  ln : ∀ x ∈ ls, 2 ≤ x ∧ x ≤ 9
  d1 : ds.length ≤ 8
  car : ∀ d ∈ ds, d.car < ls.length
abbrev endP (ls : List Int) (ds : List Dd) (n : Int) : Row × List Bool × List Fm := runP ls n ds [] [] []
theorem last_of_ok {ds : List Dd} (h : Pk ls ds) : L.run (k + 8) (.glo f_last_of) [plD ls ds, .int n] S = .ok (.cell S.length) (S ++ [stO ls (endP ls ds n).1 (endP ls ds n).2.1 (endP ls ds n).2.2]) := by
  refine run_non h_last_of rfl ⟨rfl, by decide⟩ ?_
  have hd := h.d1
  have e0 := begun_ok (L := L) (k := k + 6) (S := S) (ls := ls)
  have hS : ∀ o : Ob, (S ++ [stO ls [] [] []]).set S.length o = S ++ [o] := fun o => by simp
  obtain ⟨x, y, e⟩ := last_loop (L := L) (k := k) (S := S ++ [stO ls [] [] []]) (m := S.length) (n := n) (ls := ls) (x0 := some (plD ls ds)) (by simp) ds [] [] [] none none (fun _ h => nomatch h) h.car (by simp; omega) (by simp; omega) (by simp; omega)
  rw [hS, hS] at e
  simp [d_last_of, plD, e0]
  simp [plD] at e
  rw [e]
  simp
theorem endP_ok {ds : List Dd} (h : Pk ls ds) : Rk ls (endP ls ds n).1 ∧ (endP ls ds n).1.length ≤ 8 ∧ (endP ls ds n).2.1.length = ds.length ∧ (endP ls ds n).2.2.length ≤ 16016 := by
  have hd := h.d1
  obtain ⟨h1, h2, h3, h4⟩ := runP_ok ls n ds [] [] [] (fun _ h => nomatch h) h.car (by simp; omega)
  exact ⟨h1, Nat.le_trans h2 (by simp; omega), by simpa using h3, Nat.le_trans h4 (by simp; omega)⟩
end
end KI


set_option Elab.async false
set_option linter.all false
set_option maxRecDepth 100000
set_option autoImplicit false
set_option maxHeartbeats 1000000
/-! What is told of a plan with a length. -/
namespace KI
open PySem
theorem ru_gd (ru : Ru) (h w : Nat) : gd h w (ruD ru) = true := by
  cases ru <;> exact gd_str0 (by decide +kernel) h w
theorem ru_wd (ru : Ru) : isWd (ruD ru) wdRule = true := by cases ru <;> decide +kernel
theorem dd_gd (d : Dd) : gd 1 3 (ddD d) = true := by
  cases d with
  | park c ru =>
    show (decide (3 ≤ 3) && (_ && (_ && (_ && true)))) = true
    rw [gd_str0 (by decide +kernel) 0 3, ru_gd]
    rfl
  | leave c =>
    show (decide (2 ≤ 3) && (_ && (_ && true))) = true
    rw [gd_str0 (by decide +kernel) 0 3]
    rfl
  | pull c =>
    show (decide (2 ≤ 3) && (_ && (_ && true))) = true
    rw [gd_str0 (by decide +kernel) 0 3]
    rfl
  | drop c =>
    show (decide (2 ≤ 3) && (_ && (_ && true))) = true
    rw [gd_str0 (by decide +kernel) 0 3]
    rfl
theorem dd_deed {d : Dd} {n : Nat} (h : d.car < n) : isDeed n (ddD d) = true := by
  have e1 : isWd (.str "park") wdPark = true := by decide +kernel
  have e2 : isWd (.str "leave") wdMove = true := by decide +kernel
  have e3 : isWd (.str "pull") wdMove = true := by decide +kernel
  have e4 : isWd (.str "drop") wdMove = true := by decide +kernel
  cases d with
  | park c ru =>
    have h : c < n := h
    simp [isDeed, isNum, e1, ru_wd]; omega
  | leave c =>
    have h : c < n := h
    simp [isDeed, isNum, e2]; omega
  | pull c =>
    have h : c < n := h
    simp [isDeed, isNum, e3]; omega
  | drop c =>
    have h : c < n := h
    simp [isDeed, isNum, e4]; omega
theorem Pk.plan {ls : List Int} {ds : List Dd} (h : Pk ls ds) : isPlan (plD ls ds) = true := by
  have h0 := h.l0
  have h1 := h.l1
  have h2 := h.d1
  simp only [plD, lsD, isPlan, isLens, isTup, List.length_map, Bool.and_eq_true, decide_eq_true_eq, List.all_eq_true, List.mem_map]
  refine ⟨⟨⟨by omega, by omega⟩, ?_⟩, ⟨by omega, by omega⟩, ?_⟩
  · rintro _ ⟨x, hx, rfl⟩
    obtain ⟨a, b⟩ := h.ln x hx
    simp [isNum, a, b]
  · rintro _ ⟨d, hd, rfl⟩
    exact dd_deed (h.car d hd)
theorem Pk.gd {ls : List Int} {ds : List Dd} (h : Pk ls ds) : gd 3 8 (plD ls ds) = true := by
  have h1' := h.l1
  have h2' := h.d1
  have h1 : KI.gd 2 8 (lsD ls) = true := by
    show (decide ((ls.map D.int).length ≤ 8) && _) = true
    rw [decide_eq_true (by rw [List.length_map]; omega), gdL_of]
    · rfl
    · intro x hx
      obtain ⟨y, _, rfl⟩ := List.mem_map.mp hx
      rfl
  have h2 : KI.gd 2 8 (.tup (ds.map ddD)) = true := by
    show (decide ((ds.map ddD).length ≤ 8) && _) = true
    rw [decide_eq_true (by rw [List.length_map]; omega), gdL_of]
    · rfl
    · intro x hx
      obtain ⟨y, _, rfl⟩ := List.mem_map.mp hx
      exact gd_le (h := 1) (k := 1) (w := 3) (v := 8) _ (by omega) (by omega) (dd_gd y)
  show (decide (2 ≤ 8) && (_ && (_ && true))) = true
  rw [h1, h2]
  rfl
/-- a length that may be asked -/
def Nk (n : Int) : Prop := 10 ≤ n ∧ n ≤ 10 ^ 30
theorem rngL_map (n : Nat) : ∀ lo : Int, rngL lo n = (List.range n).map fun j => D.int (lo + (j : Nat)) := by
  induction n with
  | zero => intro lo; rfl
  | succ n ih =>
    intro lo
    rw [List.range_succ_eq_map, List.map_cons, List.map_map]
    show D.int lo :: rngL (lo + 1) n = _
    rw [ih (lo + 1)]
    congr 1
    · simp
    · apply List.map_congr_left
      intro j _
      simp only [Function.comp]
      congr 1
      push_cast
      omega
theorem rngL_nat (n : Nat) : rngL 0 n = (List.range n).map fun j => D.int (j : Nat) := by
  rw [rngL_map]
  apply List.map_congr_left
  intro j _
  simp
def placeOf (r : Row) (c : Nat) : Option Fm := (spotP r c).map fun i => (rAt r i).2
def ofD : Option Fm → D
  | none => .non
  | some f => fD f
def owD : Option Int → D
  | none => .non
  | some f => .int f
theorem evLc_mapS {α : Type} {turn : D → Sto → Res (Option D)} (h : α → D) (f : α → Option D) (T : List α → Sto) (B : Nat) : ∀ {as : List α} {acc : List D} {p : List α}, (∀ a ∈ as, ∀ p, p.length < B → turn (h a) (T p) = .ok (f a) (T (p ++ [a]))) → acc.length + as.length < LN → p.length + as.length ≤ B → evLc turn (as.map h) acc (T p) = .ok (acc ++ as.filterMap f) (T (p ++ as))
  | [], acc, p, _, _, _ => by simp [evLc]
  | a :: as, acc, p, ht, hl, hb => by
    rw [List.length_cons] at hl hb
    rw [List.map_cons]
    unfold evLc
    rw [ht a List.mem_cons_self p (by omega)]
    have hb2 : (p ++ [a]).length + as.length ≤ B := by simp; omega
    cases q : f a with
    | none =>
      show evLc turn (as.map h) acc _ = _
      rw [evLc_mapS h f T B (fun y hy => ht y (List.mem_cons_of_mem _ hy)) (by omega) hb2]
      simp [List.filterMap_cons, q]
    | some d =>
      show (if acc.length < LN then evLc turn (as.map h) (acc ++ [d]) _ else .no) = _
      rw [if_pos (by omega), evLc_mapS h f T B (fun y hy => ht y (List.mem_cons_of_mem _ hy)) (by rw [List.length_append]; show acc.length + 1 + as.length < LN; omega) hb2]
      simp [List.filterMap_cons, q]
theorem filterMap_if {α β : Type} (p : α → Bool) (f : α → β) : ∀ l : List α, (l.filterMap fun a => if p a = true then some (f a) else none) = (l.filter p).map f
  | [] => rfl
  | a :: l => by
    rw [List.filterMap_cons, List.filter_cons]
    have := filterMap_if p f l
    cases p a <;> simp_all
/-- the gaps of at least one foot -/
def gapP (ls : List Int) (r : Row) (n : Int) : List (Fm × Fm) := (spaces ls r (0, 0)).filter fun g => decide (0 < wo g.2 n)
section
variable {L : Lw} [L.Std] {k : Nat} {S : Sto} {m : Nat} {n : Int} {ls : List Int} {ds : List Dd} {r : Row} {dd : List Bool} {ak : List Fm}
theorem needp_ok (h : Pk ls ds) : L.run (k + 4) (.glo f_need_plan) [plD ls ds] S = .ok .non S := need_ok h.gd (by decide) h.plan
theorem needn_ok (h : Nk n) : L.run (k + 2) (.glo f_need_n) [.int n] S = .ok .non S := by
  have e1 : L.run (k + 1) (.glo f_is_number) [.int n, .int 10, .int (10 ^ 30)] [] = .ok (.bl (isNum (.int n) 10 (10 ^ 30))) [] := num_ok (L := L) (h := 0) (w := 0) rfl
  have e2 : isNum (.int n) 10 (10 ^ 30) = true := by simp only [isNum, Bool.and_eq_true, decide_eq_true_eq]; exact h
  rw [e2] at e1
  refine run_regN (ρ := [some (.int n)]) (S' := []) h_need_n rfl ⟨rfl, by decide⟩ (by simp) ?_
  simp at e1
  simp [d_need_n, k_LEAST, k_MOST, e1]
theorem last0_ok (h : Pk ls ds) : L.run (k + 8) (.glo f_last_of) [plD ls ds, .int n] [] = .ok (.cell 0) [stO ls (endP ls ds n).1 (endP ls ds n).2.1 (endP ls ds n).2.2] := last_of_ok (L := L) (k := k) (S := []) (n := n) h
theorem done_ok (h : Pk ls ds) (hn : Nk n) : L.run (k + 9) (.glo f_done) [plD ls ds, .int n] S = .ok (diD (endP ls ds n).2.1) S := by
  have e1 := needp_ok (L := L) (k := k + 4) (S := []) h
  have e2 := needn_ok (L := L) (k := k + 6) (S := []) hn
  have e3 := last0_ok (L := L) (k := k) (n := n) h
  refine run_reg h_done rfl ⟨rfl, by decide⟩ (by simp [gd_pure _ _ _ h.gd]) (S' := [stO ls (endP ls ds n).1 (endP ls ds n).2.1 (endP ls ds n).2.2]) ?_ (by simp [diD])
  simp [d_done, e1, e2, e3, stO]
theorem cars_of_ok (hm : m < S.length) (hl : r.length < 1000) : L.run (k + 1) (.glo f_cars_of) [.cell m] (S.set m (stO ls r dd ak)) = .ok (.tup (r.map fun c => .int c.1)) (S.set m (stO ls r dd ak)) := by
  refine run_non h_cars_of rfl ⟨rfl, by decide⟩ ?_
  have e : ev L.cons (L.run k) l_cars_of_0 [some (.cell m), none, none] (S.set m (stO ls r dd ak)) = .ok (.lst (r.map fun a => .int a.1)) (S.set m (stO ls r dd ak)) := by
    refine cars_lc ?_ (fun a ha => by simp) hl
    simp [List.getElem?_set_self hm, stO, rwD]
  simp [d_cars_of, e]
theorem set0 (o : Ob) : ([o] : Sto).set 0 o = [o] := rfl
theorem row_ok (h : Pk ls ds) (hn : Nk n) : L.run (k + 9) (.glo f_row) [plD ls ds, .int n] S = .ok (.tup ((endP ls ds n).1.map fun c => .int c.1)) S := by
  have e1 := needp_ok (L := L) (k := k + 4) (S := []) h
  have e2 := needn_ok (L := L) (k := k + 6) (S := []) hn
  have e3 := last0_ok (L := L) (k := k) (n := n) h
  have hl := (endP_ok (n := n) h).2.1
  have e4 := cars_of_ok (L := L) (k := k + 7) (S := [stO ls (endP ls ds n).1 (endP ls ds n).2.1 (endP ls ds n).2.2]) (m := 0) (ls := ls) (r := (endP ls ds n).1) (dd := (endP ls ds n).2.1) (ak := (endP ls ds n).2.2) (by simp) (by omega)
  rw [set0] at e4
  refine run_reg h_row rfl ⟨rfl, by decide⟩ (by simp [gd_pure _ _ _ h.gd]) (S' := [stO ls (endP ls ds n).1 (endP ls ds n).2.1 (endP ls ds n).2.2]) ?_ ?_
  · simp [d_row, e1, e2, e3, e4]
  · have : ∀ r : Row, pureL (r.map fun c => D.int c.1) = true := fun r => by induction r <;> simp_all
    simp [this]
theorem place_form_ok (hm : m < S.length) (hl : r.length < 1000) {c : Nat} : L.run (k + 2) (.glo f_place_form) [.cell m, .int c] (S.set m (stO ls r dd ak)) = .ok (ofD (placeOf r c)) (S.set m (stO ls r dd ak)) := by
  refine run_non h_place_form rfl ⟨rfl, by decide⟩ ?_
  have e1 := spot_of_ok (L := L) (k := k) (S := S) (ls := ls) (r := r) (dd := dd) (ak := ak) (c := c) hm hl
  have g0 : idxD (S.set m (stO ls r dd ak)) (.cell m) (.str "row") = some (rwD r) := by simp [List.getElem?_set_self hm, stO]
  unfold placeOf
  cases q : spotP r c with
  | none =>
    rw [q] at e1
    simp at e1
    simp [d_place_form, e1, ofD]
  | some i =>
    rw [q] at e1
    simp at e1
    have hi := spotP_lt q
    simp [-i_cells, d_place_form, e1, ofD, g0, rwD, atI_nat, rAt_eq hi]
theorem placeOf_ok (h : Rk ls r) {c : Nat} {f : Fm} (q : placeOf r c = some f) : 0 ≤ f.1 ∧ f.1 ≤ 1 := by
  unfold placeOf at q
  cases q2 : spotP r c with
  | none => rw [q2] at q; cases q
  | some i =>
    rw [q2] at q
    cases q
    exact (h _ (rAt_mem (spotP_lt q2))).2
def placesP (ls : List Int) (r : Row) (n : Int) : List D := (List.range ls.length).map fun c => owD ((placeOf r c).map (wo · n))
theorem pureL_map {α : Type} (f : α → D) (h : ∀ a, (f a).pure = true) : ∀ l : List α, pureL (l.map f) = true
  | [] => rfl
  | a :: l => by simp [h a, pureL_map f h l]
@[simp] theorem pu_ow (o : Option Int) : (owD o).pure = true := by cases o <;> rfl
theorem places_pure (ls : List Int) (r : Row) (n : Int) : (D.tup (placesP ls r n)).pure = true := by simp [placesP, pureL_map]
theorem places_of_ok (h : Pk ls ds) : L.run (k + 9) (.glo f_places_of) [plD ls ds, .int n] S = .ok (.tup (placesP ls (endP ls ds n).1 n)) S := by
  have e3 := last0_ok (L := L) (k := k) (n := n) h
  have hr := (endP_ok (n := n) h).1
  have hl := (endP_ok (n := n) h).2.1
  have hl1 := h.l1
  refine run_reg h_places_of rfl ⟨rfl, by decide⟩ (by simp [gd_pure _ _ _ h.gd]) (S' := [stO ls (endP ls ds n).1 (endP ls ds n).2.1 (endP ls ds n).2.2]) ?_ (places_pure _ _ _)
  have e4 : ev L.cons (L.run (k + 8)) l_places_of_0 [some (plD ls ds), some (.int n), some (.cell 0), none, none, none] [stO ls (endP ls ds n).1 (endP ls ds n).2.1 (endP ls ds n).2.2] = .ok (.lst ((List.range ls.length).map fun c => ofD (placeOf (endP ls ds n).1 c))) [stO ls (endP ls ds n).1 (endP ls ds n).2.1 (endP ls ds n).2.2] := by
    refine lc_allA (fun j : Nat => D.int j) _ _ ?_ (fun c _ => ?_) (by simp; omega)
    · have : rngOk ls.length = true := rngOk_of (by omega) (by omega)
      simp [plD, lsD, this, rngL_nat]
    · have e5 := place_form_ok (L := L) (k := k + 6) (S := [stO ls (endP ls ds n).1 (endP ls ds n).2.1 (endP ls ds n).2.2]) (m := 0) (ls := ls) (r := (endP ls ds n).1) (dd := (endP ls ds n).2.1) (ak := (endP ls ds n).2.2) (c := c) (by simp) (by omega)
      rw [set0] at e5
      simp [e5]
  have e6 : ∀ x y, ev L.cons (L.run (k + 8)) l_places_of_1 [some (plD ls ds), some (.int n), some (.cell 0), some (.lst ((List.range ls.length).map fun c => ofD (placeOf (endP ls ds n).1 c))), x, y] [stO ls (endP ls ds n).1 (endP ls ds n).2.1 (endP ls ds n).2.2] = .ok (.lst (placesP ls (endP ls ds n).1 n)) [stO ls (endP ls ds n).1 (endP ls ds n).2.1 (endP ls ds n).2.2] := fun x y => by
    refine lc_allA (fun c => ofD (placeOf (endP ls ds n).1 c)) _ _ (by simp) (fun c _ => ?_) (by simp; omega)
    cases q : placeOf (endP ls ds n).1 c with
    | none => simp [ofD, owD]
    | some f =>
      have := placeOf_ok hr q
      simp [ofD, owD, worth_ok (L := L) (k := k + 7) (a := f.1) (b := f.2) (n := n) (mo _ _ (by omega) (by omega))]
  have e7 : exs L.cons (L.run (k + 8)) L.fuel (.set 2 (.call f_last_of (.cons (.var 0) (.cons (.var 1) .nil)))) [some (plD ls ds), some (.int n), none, none, none, none] [] = .nx [some (plD ls ds), some (.int n), some (.cell 0), none, none, none] [stO ls (endP ls ds n).1 (endP ls ds n).2.1 (endP ls ds n).2.2] := by simp [e3]
  have e8 : exs L.cons (L.run (k + 8)) L.fuel (.set 3 l_places_of_0) [some (plD ls ds), some (.int n), some (.cell 0), none, none, none] [stO ls (endP ls ds n).1 (endP ls ds n).2.1 (endP ls ds n).2.2] = .nx [some (plD ls ds), some (.int n), some (.cell 0), some (.lst ((List.range ls.length).map fun c => ofD (placeOf (endP ls ds n).1 c))), none, none] [stO ls (endP ls ds n).1 (endP ls ds n).2.1 (endP ls ds n).2.2] := by simp [e4]
  have e9 : exs L.cons (L.run (k + 8)) L.fuel (.ret (.bi .tuple (.cons l_places_of_1 .nil))) [some (plD ls ds), some (.int n), some (.cell 0), some (.lst ((List.range ls.length).map fun c => ofD (placeOf (endP ls ds n).1 c))), none, none] [stO ls (endP ls ds n).1 (endP ls ds n).2.1 (endP ls ds n).2.2] = .rt (.tup (placesP ls (endP ls ds n).1 n)) [stO ls (endP ls ds n).1 (endP ls ds n).2.1 (endP ls ds n).2.2] := by simp [e6]
  show exss L.cons (L.run (k + 8)) L.fuel (.cons (.set 2 (.call f_last_of (.cons (.var 0) (.cons (.var 1) .nil)))) (.cons (.set 3 l_places_of_0) (.cons (.ret (.bi .tuple (.cons l_places_of_1 .nil))) .nil))) [some (plD ls ds), some (.int n), none, none, none, none] [] = _
  rw [exss_cons, e7, then_nx, exss_cons, e8, then_nx, exss_cons, e9, then_rt]
theorem places_ok (h : Pk ls ds) (hn : Nk n) : L.run (k + 10) (.glo f_places) [plD ls ds, .int n] S = .ok (.tup (placesP ls (endP ls ds n).1 n)) S := by
  have e1 := needp_ok (L := L) (k := k + 5) (S := []) h
  have e2 := needn_ok (L := L) (k := k + 7) (S := []) hn
  have e3 := places_of_ok (L := L) (k := k) (S := []) (n := n) h
  refine run_reg h_places rfl ⟨rfl, by decide⟩ (by simp [gd_pure _ _ _ h.gd]) (S' := []) ?_ (places_pure _ _ _)
  simp [d_places, e1, e2, e3]
theorem gap_forms_ok (hm : m < S.length) (hr : Rk ls r) (hl : r.length < 1000) (ha : ak.length < 1000000) : L.run (k + 4) (.glo f_gap_forms) [.cell m, .int n] (S.set m (stO ls r dd ak)) = .ok (.tup ((gapP ls r n).map gD)) (S.set m (stO ls r dd (ak ++ (spaces ls r (0, 0)).map (·.2)))) := by
  refine run_non h_gap_forms rfl ⟨rfl, by decide⟩ ?_
  have hg := spaces_ok ls r (0, 0) hr (by simp) (by simp)
  have eg := all_gaps_ok (L := L) (k := k + 1) (S := S.set m (stO ls r dd ak)) (m := m) (ls := ls) (r := r) (dd := dd) (ak := ak) (List.getElem?_set_self hm) hr hl
  have hsl := spaces_len ls r (0, 0)
  have e1 : ev L.cons (L.run (k + 3)) l_gap_forms_0 [some (.cell m), some (.int n), none] (S.set m (stO ls r dd ak)) = .ok (.lst ((gapP ls r n).map gD)) (S.set m (stO ls r dd (ak ++ (spaces ls r (0, 0)).map (·.2)))) := by
    show (evi L.cons (L.run (k + 3)) (.val (.call f_all_gaps (.cons (.var 0) .nil))) _ _).bind _ = _
    have e2 : evi L.cons (L.run (k + 3)) (.val (.call f_all_gaps (.cons (.var 0) .nil))) [some (.cell m), some (.int n), none] (S.set m (stO ls r dd ak)) = .ok ((spaces ls r (0, 0)).map gD) (S.set m (stO ls r dd ak)) := by simp [eg]
    rw [e2]
    show (evLc _ ((spaces ls r (0, 0)).map gD) [] _).bind _ = _
    have e5 : S.set m (stO ls r dd ak) = (fun p : List (Fm × Fm) => S.set m (stO ls r dd (ak ++ p.map (·.2)))) [] := by simp
    rw [e5, evLc_mapS gD (fun g => if decide (0 < wo g.2 n) = true then some (gD g) else none) (fun p => S.set m (stO ls r dd (ak ++ p.map (·.2)))) 2000 (fun g hgm p hp => ?_) (by simp; omega) (by simp; omega)]
    · show Res.ok (D.lst _) _ = _
      rw [List.nil_append, List.nil_append, filterMap_if]
      rfl
    · have hgk := hg g hgm
      have e3 := asks_ok (L := L) (k := k) (S := S) (ls := ls) (r := r) (dd := dd) (ak := ak ++ p.map (·.2)) (a := g.2.1) (b := g.2.2) (n := n) hm (mo _ _ (by unfold Gk at hgk; omega) (by unfold Gk at hgk; omega)) (by simp; omega)
      by_cases c : 0 < wo g.2 n
      · have c3 : decide (0 < sgn (g.2.1, g.2.2) n) = true := by rw [decide_eq_true_eq, sgn_gt]; exact c
        have c2 : decide (0 < wo g.2 n) = true := decide_eq_true c
        rw [c2]
        simp only [bindT, wipeE]
        simp [-sgn_gt, e3, c3] <;> rfl
      · have c3 : decide (0 < sgn (g.2.1, g.2.2) n) = false := by rw [decide_eq_false_iff_not, sgn_gt]; exact c
        have c2 : decide (0 < wo g.2 n) = false := decide_eq_false c
        rw [c2]
        simp only [bindT, wipeE]
        simp [-sgn_gt, e3, c3] <;> rfl
  simp [d_gap_forms, e1]
theorem gapP_ok (hr : Rk ls r) : ∀ g ∈ gapP ls r n, Gk g := fun g hg => spaces_ok ls r (0, 0) hr (by simp) (by simp) g ((List.mem_filter.mp hg).1)
theorem gaps_ok (h : Pk ls ds) (hn : Nk n) : L.run (k + 9) (.glo f_gaps) [plD ls ds, .int n] S = .ok (.lst ((gapP ls (endP ls ds n).1 n).map fun g => .tup [.int (wo g.1 n), .int (wo g.2 n)])) S := by
  have e1 := needp_ok (L := L) (k := k + 4) (S := []) h
  have e2 := needn_ok (L := L) (k := k + 6) (S := []) hn
  have e3 := last0_ok (L := L) (k := k) (n := n) h
  have hr := (endP_ok (n := n) h).1
  have hl := (endP_ok (n := n) h).2.1
  have ha := (endP_ok (n := n) h).2.2.2
  have e4 := gap_forms_ok (L := L) (k := k + 4) (S := [stO ls (endP ls ds n).1 (endP ls ds n).2.1 (endP ls ds n).2.2]) (m := 0) (n := n) (ls := ls) (r := (endP ls ds n).1) (dd := (endP ls ds n).2.1) (ak := (endP ls ds n).2.2) (by simp) hr (by omega) (by omega)
  rw [set0] at e4
  obtain ⟨S', hS'⟩ : ∃ S', S' = ([stO ls (endP ls ds n).1 (endP ls ds n).2.1 (endP ls ds n).2.2] : Sto).set 0 (stO ls (endP ls ds n).1 (endP ls ds n).2.1 ((endP ls ds n).2.2 ++ (spaces ls (endP ls ds n).1 (0, 0)).map (·.2))) := ⟨_, rfl⟩
  rw [← hS'] at e4
  have e5 : ev L.cons (L.run (k + 8)) l_gaps_0 [some (plD ls ds), some (.int n), none, none] [] = .ok (.lst ((gapP ls (endP ls ds n).1 n).map fun g => .tup [.int (wo g.1 n), .int (wo g.2 n)])) S' := by
    show (evi L.cons (L.run (k + 8)) (.val (.call f_gap_forms (.cons (.call f_last_of (.cons (.var 0) (.cons (.var 1) .nil))) (.cons (.var 1) .nil)))) _ _).bind _ = _
    have e6 : evi L.cons (L.run (k + 8)) (.val (.call f_gap_forms (.cons (.call f_last_of (.cons (.var 0) (.cons (.var 1) .nil))) (.cons (.var 1) .nil)))) [some (plD ls ds), some (.int n), none, none] [] = .ok ((gapP ls (endP ls ds n).1 n).map gD) S' := by simp [e3, e4]
    rw [e6]
    show (evLc _ ((gapP ls (endP ls ds n).1 n).map gD) [] _).bind _ = _
    have hl3 : (gapP ls (endP ls ds n).1 n).length ≤ 1000 := by
      refine Nat.le_trans (List.length_filter_le _ _) ?_
      rw [spaces_len]; omega
    rw [evLc_mapA gD (fun g => some (.tup [.int (wo g.1 n), .int (wo g.2 n)])) (fun g hg => ?_) (by simp; omega)]
    · show Res.ok (D.lst _) _ = _
      rw [List.nil_append, ← List.filterMap_eq_map]
      rfl
    · have hgk := gapP_ok hr g hg
      unfold Gk at hgk
      have w1 := worth_ok (L := L) (k := k + 7) (S := S') (a := g.1.1) (b := g.1.2) (n := n) (mo _ _ (by omega) (by omega))
      have w2 := worth_ok (L := L) (k := k + 7) (S := S') (a := g.2.1) (b := g.2.2) (n := n) (mo _ _ (by omega) (by omega))
      simp [w1, w2]
  refine run_reg h_gaps rfl ⟨rfl, by decide⟩ (by simp [gd_pure _ _ _ h.gd]) (S' := S') ?_ (by rw [pu_lst]; exact pureL_map _ (fun _ => rfl) _)
  simp [d_gaps, e1, e2, e5]
end
end KI


set_option Elab.async false
set_option linter.all false
set_option maxRecDepth 100000
set_option autoImplicit false
set_option maxHeartbeats 1000000
/-! The law's own spaces and choice. -/
namespace KI
open PySem
def lnD (r : Row) : D := .lst (r.map cD)
def gsD (gs : List (Fm × Fm)) : D := .lst (gs.map gD)
@[simp] theorem pu_ln (r : Row) : (lnD r).pure = true := by simp [lnD]
@[simp] theorem pu_gs (r : List (Fm × Fm)) : (gsD r).pure = true := by simp [gsD]
@[simp] theorem pu_ls (r : List Int) : (lsD r).pure = true := by simp [lsD]
@[simp] theorem pu_di (r : List Bool) : (diD r).pure = true := by simp [diD]
/-- the spaces that are long enough -/
def fitsL (len n : Int) (gs : List (Fm × Fm)) : List Nat := (List.range gs.length).filter fun i => decide (len ≤ wo (gAt gs i).2 n)
def betI (n : Int) (ru : Ru) (gs : List (Fm × Fm)) (b j : Nat) : Nat := if betB n ru (gAt gs j) (gAt gs b) = true then j else b
def pick (n : Int) (ru : Ru) (gs : List (Fm × Fm)) : List Nat → Option Nat
  | [] => none
  | i :: r => some (r.foldl (betI n ru gs) i)
theorem fit_iff (g : Fm × Fm) (len n : Int) : (0 ≤ wo (fitF g len) n) ↔ (len ≤ wo g.2 n) := by
  simp only [wo, fitF]
  omega
theorem foldl_none (n : Int) (ru : Ru) (gs : List (Fm × Fm)) : ∀ (l : List Nat) (b : Nat), l.foldl (fun best j => match best with
    | none => some j
    | some b => some (betI n ru gs b j)) (some b) = some (l.foldl (betI n ru gs) b)
  | [], b => rfl
  | j :: l, b => foldl_none n ru gs l (betI n ru gs b j)
theorem pick_fold (n : Int) (ru : Ru) (gs : List (Fm × Fm)) (l : List Nat) : pick n ru gs l = l.foldl (fun best j => match best with
    | none => some j
    | some b => some (betI n ru gs b j)) none := by
  cases l with
  | nil => rfl
  | cons i r => exact (foldl_none n ru gs r i).symm
theorem scan_fold (n len : Int) (ru : Ru) (gs : List (Fm × Fm)) : ∀ (q : List (Fm × Fm)) (i : Nat) (best : Option Nat) (a : List Fm), (∀ j, q[j]? = gs[i + j]?) → (scan n len ru gs i q best a).1 = ((List.range' i q.length).filter fun i => decide (len ≤ wo (gAt gs i).2 n)).foldl (fun best j => match best with
    | none => some j
    | some b => some (betI n ru gs b j)) best
  | [], i, best, a, _ => by simp [scan]
  | g :: q, i, best, a, h => by
    have h0 : gs[i]? = some g := by have := h 0; simpa using this.symm
    have hg : gAt gs i = g := by unfold gAt; rw [h0]; rfl
    have h1 : ∀ j, q[j]? = gs[i + 1 + j]? := fun j => by
      have := h (j + 1)
      rw [List.getElem?_cons_succ] at this
      rw [this]
      congr 1
      omega
    rw [List.length_cons, List.range'_succ, List.filter_cons, hg]
    unfold scan
    by_cases c : 0 ≤ wo (fitF g len) n
    · rw [if_pos c, decide_eq_true ((fit_iff g len n).mp c)]
      simp only [if_true]
      cases best with
      | none => rw [scan_fold n len ru gs q _ _ _ h1]; rfl
      | some b =>
        simp only
        rw [scan_fold n len ru gs q _ _ _ h1, List.foldl_cons]
        congr 1
        simp only [betI, hg]
        split <;> rfl
    · rw [if_neg c, decide_eq_false (fun z => c ((fit_iff g len n).mpr z)), scan_fold n len ru gs q _ _ _ h1]
      rfl
theorem chosen_pick (ls : List Int) (r : Row) (ak : List Fm) (len n : Int) (ru : Ru) : (chosen ls r ak len ru n).1 = pick n ru (spaces ls r (0, 0)) (fitsL len n (spaces ls r (0, 0))) := by
  unfold chosen
  rw [scan_fold n len ru _ _ _ _ _ (fun j => by rw [Nat.zero_add]), pick_fold]
  unfold fitsL
  rw [List.range_eq_range']
/-! the least, the greatest -/
section
variable (v : Nat → Int)
theorem minL_le' (l : List Int) (m : Int) : minL m l ≤ m := (minL_le l m).1
theorem maxL_ge' (l : List Int) (m : Int) : m ≤ maxL m l := (maxL_ge l m).1
theorem amin_eq : ∀ (l : List Nat) (b : Nat), l.foldl (fun b j => if v j < v b then j else b) b = (if minL (v b) (l.map v) = v b then b else (l.find? fun j => decide (v j = minL (v b) (l.map v))).getD b)
  | [], b => by simp [minL]
  | j :: l, b => by
    rw [List.foldl_cons, List.map_cons]
    unfold minL
    by_cases c : v j < v b
    · have h := minL_le' (l.map v) (v j)
      have hne : ¬ minL (v j) (l.map v) = v b := by omega
      rw [if_pos c, if_pos c, amin_eq l j, if_neg hne, List.find?_cons]
      by_cases e : minL (v j) (l.map v) = v j
      · rw [if_pos e, e]; simp
      · rw [if_neg e]
        have : decide (v j = minL (v j) (l.map v)) = false := decide_eq_false (fun z => e z.symm)
        rw [this]
        cases q : l.find? fun j' => decide (v j' = minL (v j) (l.map v)) with
        | some x => rfl
        | none =>
          exfalso
          have key : ∀ (l : List Nat) (m : Int), minL m (l.map v) = m ∨ ∃ x ∈ l, v x = minL m (l.map v) := by
            intro l
            induction l with
            | nil => intro m; exact .inl rfl
            | cons y l ih =>
              intro m
              rw [List.map_cons]
              unfold minL
              rcases ih (if v y < m then v y else m) with h | ⟨x, hx, h⟩
              · split at h
                · rename_i z
                  rw [if_pos z]
                  exact .inr ⟨y, List.mem_cons_self, h.symm⟩
                · rename_i z
                  rw [if_neg z]
                  exact .inl h
              · exact .inr ⟨x, List.mem_cons_of_mem _ hx, h⟩
          rcases key l (v j) with h | ⟨x, hx, h⟩
          · exact e h
          · have := List.find?_eq_none.mp q x hx
            simp [h] at this
    · have h := minL_le' (l.map v) (v b)
      rw [if_neg c, if_neg c, amin_eq l b]
      by_cases e : minL (v b) (l.map v) = v b
      · rw [if_pos e, if_pos e]
      · rw [if_neg e, if_neg e, List.find?_cons]
        have : decide (v j = minL (v b) (l.map v)) = false := decide_eq_false (by omega)
        rw [this]
theorem amax_eq : ∀ (l : List Nat) (b : Nat), l.foldl (fun b j => if v b < v j then j else b) b = (if maxL (v b) (l.map v) = v b then b else (l.find? fun j => decide (v j = maxL (v b) (l.map v))).getD b)
  | [], b => by simp [maxL]
  | j :: l, b => by
    rw [List.foldl_cons, List.map_cons]
    unfold maxL
    by_cases c : v b < v j
    · have h := maxL_ge' (l.map v) (v j)
      have hne : ¬ maxL (v j) (l.map v) = v b := by omega
      rw [if_pos c, if_pos c, amax_eq l j, if_neg hne, List.find?_cons]
      by_cases e : maxL (v j) (l.map v) = v j
      · rw [if_pos e, e]; simp
      · rw [if_neg e]
        have : decide (v j = maxL (v j) (l.map v)) = false := decide_eq_false (fun z => e z.symm)
        rw [this]
        cases q : l.find? fun j' => decide (v j' = maxL (v j) (l.map v)) with
        | some x => rfl
        | none =>
          exfalso
          have key : ∀ (l : List Nat) (m : Int), maxL m (l.map v) = m ∨ ∃ x ∈ l, v x = maxL m (l.map v) := by
            intro l
            induction l with
            | nil => intro m; exact .inl rfl
            | cons y l ih =>
              intro m
              rw [List.map_cons]
              unfold maxL
              rcases ih (if v y > m then v y else m) with h | ⟨x, hx, h⟩
              · split at h
                · rename_i z
                  rw [if_pos z]
                  exact .inr ⟨y, List.mem_cons_self, h.symm⟩
                · rename_i z
                  rw [if_neg z]
                  exact .inl h
              · exact .inr ⟨x, List.mem_cons_of_mem _ hx, h⟩
          rcases key l (v j) with h | ⟨x, hx, h⟩
          · exact e h
          · have := List.find?_eq_none.mp q x hx
            simp [h] at this
    · have h := maxL_ge' (l.map v) (v b)
      have c' : ¬ v j > v b := c
      rw [if_neg c, if_neg c', amax_eq l b]
      by_cases e : maxL (v b) (l.map v) = v b
      · rw [if_pos e, if_pos e]
      · rw [if_neg e, if_neg e, List.find?_cons]
        have : decide (v j = maxL (v b) (l.map v)) = false := decide_eq_false (by omega)
        rw [this]
theorem findIx_v (m : Int) : ∀ (l : List Nat) (o : Nat), (∃ x ∈ l, v x = m) → ∃ p, findIx o (l.map fun j => D.int (v j)) (.int m) = some (o + p) ∧ l[p]? = l.find? fun j => decide (v j = m)
  | [], o, h => by obtain ⟨x, hx, _⟩ := h; cases hx
  | j :: l, o, h => by
    by_cases c : v j = m
    · exact ⟨0, by simp [findIx, c], by simp [c]⟩
    · obtain ⟨x, hx, e⟩ := h
      rcases List.mem_cons.mp hx with q | hx
      · subst q; exact absurd e c
      · obtain ⟨p, h1, h2⟩ := findIx_v m l (o + 1) ⟨x, hx, e⟩
        refine ⟨p + 1, ?_, ?_⟩
        · have c2 : (v j == m) = false := by simpa using c
          simp only [List.map_cons, findIx, eqD_ii, c2]
          rw [show (o + (p + 1)) = o + 1 + p by omega]
          simpa using h1
        · simp [c, h2]
theorem minL_mem : ∀ (l : List Nat) (i : Nat), ∃ x ∈ i :: l, v x = minL (v i) (l.map v)
  | [], i => ⟨i, by simp, rfl⟩
  | j :: l, i => by
    rw [List.map_cons]
    unfold minL
    by_cases c : v j < v i
    · rw [if_pos c]
      obtain ⟨x, hx, e⟩ := minL_mem l j
      exact ⟨x, List.mem_cons_of_mem _ hx, e⟩
    · rw [if_neg c]
      obtain ⟨x, hx, e⟩ := minL_mem l i
      refine ⟨x, ?_, e⟩
      rcases List.mem_cons.mp hx with q | hx
      · rw [q]; exact List.mem_cons_self
      · exact List.mem_cons_of_mem _ (List.mem_cons_of_mem _ hx)
theorem maxL_mem : ∀ (l : List Nat) (i : Nat), ∃ x ∈ i :: l, v x = maxL (v i) (l.map v)
  | [], i => ⟨i, by simp, rfl⟩
  | j :: l, i => by
    rw [List.map_cons]
    unfold maxL
    by_cases c : v j > v i
    · rw [if_pos c]
      obtain ⟨x, hx, e⟩ := maxL_mem l j
      exact ⟨x, List.mem_cons_of_mem _ hx, e⟩
    · rw [if_neg c]
      obtain ⟨x, hx, e⟩ := maxL_mem l i
      refine ⟨x, ?_, e⟩
      rcases List.mem_cons.mp hx with q | hx
      · rw [q]; exact List.mem_cons_self
      · exact List.mem_cons_of_mem _ (List.mem_cons_of_mem _ hx)
theorem amin_ix (l : List Nat) (i : Nat) : ∃ p, findIx 0 ((i :: l).map fun j => D.int (v j)) (.int (minL (v i) (l.map v))) = some p ∧ (i :: l)[p]? = some (l.foldl (fun b j => if v j < v b then j else b) i) := by
  obtain ⟨p, h1, h2⟩ := findIx_v v (minL (v i) (l.map v)) (i :: l) 0 (minL_mem v l i)
  refine ⟨p, by simpa using h1, ?_⟩
  rw [h2, amin_eq, List.find?_cons]
  by_cases e : minL (v i) (l.map v) = v i
  · rw [if_pos e, e]; simp
  · have : decide (v i = minL (v i) (l.map v)) = false := decide_eq_false (fun z => e z.symm)
    rw [this, if_neg e]
    obtain ⟨x, hx, e2⟩ := minL_mem v l i
    rcases List.mem_cons.mp hx with q | hx
    · subst q; exact absurd e2.symm e
    · cases q : l.find? fun j => decide (v j = minL (v i) (l.map v)) with
      | some y => rfl
      | none =>
        have := List.find?_eq_none.mp q x hx
        simp [e2] at this
theorem amax_ix (l : List Nat) (i : Nat) : ∃ p, findIx 0 ((i :: l).map fun j => D.int (v j)) (.int (maxL (v i) (l.map v))) = some p ∧ (i :: l)[p]? = some (l.foldl (fun b j => if v b < v j then j else b) i) := by
  obtain ⟨p, h1, h2⟩ := findIx_v v (maxL (v i) (l.map v)) (i :: l) 0 (maxL_mem v l i)
  refine ⟨p, by simpa using h1, ?_⟩
  rw [h2, amax_eq, List.find?_cons]
  by_cases e : maxL (v i) (l.map v) = v i
  · rw [if_pos e, e]; simp
  · have : decide (v i = maxL (v i) (l.map v)) = false := decide_eq_false (fun z => e z.symm)
    rw [this, if_neg e]
    obtain ⟨x, hx, e2⟩ := maxL_mem v l i
    rcases List.mem_cons.mp hx with q | hx
    · subst q; exact absurd e2.symm e
    · cases q : l.find? fun j => decide (v j = maxL (v i) (l.map v)) with
      | some y => rfl
      | none =>
        have := List.find?_eq_none.mp q x hx
        simp [e2] at this
end
end KI


set_option Elab.async false
set_option linter.all false
set_option maxRecDepth 100000
set_option autoImplicit false
set_option maxHeartbeats 1000000
/-! The law's own spaces, choice, step: run. -/
namespace KI
open PySem
/-- a deed done, told without the questions -/
def stepP (ls : List Int) (r : Row) (n : Int) : Dd → Option Row
  | .park c ru => match pick n ru (spaces ls r (0, 0)) (fitsL (lenAt ls c) n (spaces ls r (0, 0))) with
    | none => none
    | some i => if hasCar r c = true then none else some (r.take i ++ [(c, placeF ru (gAt (spaces ls r (0, 0)) i) (lenAt ls c))] ++ r.drop i)
  | .leave c => match spotP r c with
    | none => none
    | some i => some (r.take i ++ r.drop (i + 1))
  | .pull c => match spotP r c with
    | none => none
    | some i => if wo (gAt (spaces ls r (0, 0)) i).2 n = 0 then none else some (moveTo r i (gAt (spaces ls r (0, 0)) i).1)
  | .drop c => match spotP r c with
    | none => none
    | some i => if wo (gAt (spaces ls r (0, 0)) (i + 1)).2 n = 0 then none else some (moveTo r i (ad (rAt r i).2 (gAt (spaces ls r (0, 0)) (i + 1)).2))
theorem doP_step (ls : List Int) (r : Row) (ak : List Fm) (n : Int) (d : Dd) : (doP ls r ak n d).1 = (stepP ls r n d).isSome ∧ (doP ls r ak n d).2.1 = (stepP ls r n d).getD r := by
  cases d with
  | park c ru =>
    simp only [doP, stepP, parkP, chosen_pick]
    cases pick n ru (spaces ls r (0, 0)) (fitsL (lenAt ls c) n (spaces ls r (0, 0))) with
    | none => exact ⟨rfl, rfl⟩
    | some i => cases hasCar r c <;> exact ⟨rfl, rfl⟩
  | leave c =>
    simp only [doP, stepP]
    cases spotP r c <;> exact ⟨rfl, rfl⟩
  | pull c =>
    simp only [doP, stepP, shiftP]
    cases spotP r c with
    | none => exact ⟨rfl, rfl⟩
    | some i => by_cases q : wo (gAt (spaces ls r (0, 0)) i).2 n = 0 <;> simp only [q, if_true, if_false] <;> exact ⟨rfl, rfl⟩
  | drop c =>
    simp only [doP, stepP, shiftP]
    cases spotP r c with
    | none => exact ⟨rfl, rfl⟩
    | some i => by_cases q : wo (gAt (spaces ls r (0, 0)) (i + 1)).2 n = 0 <;> simp only [q, if_true, if_false] <;> exact ⟨rfl, rfl⟩
/-- deeds done, told without the questions -/
def runQ (ls : List Int) (n : Int) : List Dd → Row → List Bool → Row × List Bool
  | [], r, b => (r, b)
  | d :: ds, r, b => runQ ls n ds ((stepP ls r n d).getD r) (b ++ [(stepP ls r n d).isSome])
theorem runP_runQ (ls : List Int) (n : Int) : ∀ (ds : List Dd) (r : Row) (b : List Bool) (a : List Fm), (runP ls n ds r b a).1 = (runQ ls n ds r b).1 ∧ (runP ls n ds r b a).2.1 = (runQ ls n ds r b).2
  | [], _, _, _ => ⟨rfl, rfl⟩
  | d :: ds, r, b, a => by
    obtain ⟨h1, h2⟩ := doP_step ls r a n d
    unfold runP runQ
    rw [h1, h2]
    exact runP_runQ ls n ds _ _ _
theorem spots_car (c : Nat) : ∀ (i : Nat) (r : Row) (j : Nat), j ∈ spots c i r → ∃ x, r[j - i]? = some x ∧ x.1 = c
  | _, [], j, h => nomatch h
  | i, x :: r, j, h => by
    unfold spots at h
    have hrec : j ∈ spots c (i + 1) r → ∃ x', (x :: r)[j - i]? = some x' ∧ x'.1 = c := fun h => by
      obtain ⟨y, h1, h2⟩ := spots_car c (i + 1) r j h
      have := (spots_lt c (i + 1) r j h).1
      refine ⟨y, ?_, h2⟩
      rw [show j - i = (j - (i + 1)) + 1 by omega]
      simpa using h1
    split at h
    · rename_i e
      rcases List.mem_cons.mp h with q | h
      · subst q
        exact ⟨x, by simp, e⟩
      · exact hrec h
    · exact hrec h
theorem spotP_car {r : Row} {c i : Nat} (h : spotP r c = some i) : (rAt r i).1 = c := by
  unfold spotP at h
  obtain ⟨x, h1, h2⟩ := spots_car c 0 r i (List.mem_of_mem_head? (by rw [h]; rfl))
  unfold rAt
  rw [show i - 0 = i by omega] at h1
  rw [h1]
  exact h2
theorem spots_nil (c : Nat) : ∀ (i : Nat) (r : Row), (spots c i r = []) ↔ hasCar r c = false
  | _, [] => by simp [spots, hasCar]
  | i, x :: r => by
    have := spots_nil c (i + 1) r
    unfold spots
    by_cases e : x.1 = c
    · simp [e, hasCar]
    · rw [if_neg e, this]
      simp [hasCar, e]
section
variable {L : Lw} [L.Std] {k : Nat} {S : Sto} {m : Nat} {a b c d n len : Int} {ls : List Int} {r : Row} {ru : Ru}
theorem lvalue_ok (h : mulOk a n = true) : L.run (k + 1) (.glo f__law_value) [.tup [.int a, .int b], .int n] S = .ok (.int (a * n + b)) S := by
  refine run_reg (S' := []) h__law_value rfl ⟨rfl, by decide⟩ (by simp) ?_ (by simp)
  simp [d__law_value, h]
@[simp] theorem lless_ok : L.run (k + 1) (.glo f__law_less) [.tup [.int a, .int b], .tup [.int c, .int d]] S = .ok (.tup [.int (a - c), .int (b - d)]) S := by
  refine run_reg (S' := []) h__law_less rfl ⟨rfl, by decide⟩ (by simp) ?_ (by simp)
  simp [d__law_less]
theorem lspaces_loop {v1 v2 : Option D} : ∀ (q : Row) (fo : List (Fm × Fm)) (b : Fm) (x y : Option D), Rk ls q → fo.length + q.length < LN →
    ∃ x' y', evFor (.tp (.cons (.nm 5) (.cons (.nm 6) .nil))) (exss L.cons (L.run (k + 1)) L.fuel b__law_spaces_0) (q.map cD) [some (lsD ls), v1, v2, some (.cell 0), some (fD b), x, y] [.lst (fo.map gD)] = .nx [some (lsD ls), v1, v2, some (.cell 0), some (fD (spe ls q b)), x', y'] [.lst ((fo ++ spa ls q b).map gD)]
  | [], fo, b, x, y, _, _ => ⟨x, y, by simp [evFor, spa, spe]⟩
  | (c, p) :: q, fo, b, x, y, hq, hl => by
    obtain ⟨hc, _⟩ := hq (c, p) List.mem_cons_self
    have hc : c < ls.length := hc
    have hl : fo.length + (q.length + 1) < 16777216 := hl
    have hl2 : fo.length < 16777216 := by omega
    obtain ⟨x', y', e⟩ := lspaces_loop (v1 := v1) (v2 := v2) q (fo ++ [(b, le2 p b)]) (p.1, p.2 + lenAt ls c) (some (.int c)) (some (fD p)) (fun c hc => hq c (List.mem_cons_of_mem _ hc)) (by simp; omega)
    refine ⟨x', y', ?_⟩
    have step : exss L.cons (L.run (k + 1)) L.fuel b__law_spaces_0 [some (lsD ls), v1, v2, some (.cell 0), some (fD b), some (.int c), some (fD p)] [.lst (fo.map gD)] = .nx [some (lsD ls), v1, v2, some (.cell 0), some (fD (p.1, p.2 + lenAt ls c)), some (.int c), some (fD p)] [.lst ((fo ++ [(b, le2 p b)]).map gD)] := by
      simp [b__law_spaces_0, hl2, lsD, atI_nat, lenAt_eq hc]
    rw [List.map_cons]
    unfold evFor
    exact (congrArg (fun z : Fl => z.then fun ρ S => evFor _ (exss L.cons (L.run (k + 1)) L.fuel b__law_spaces_0) (q.map cD) ρ S) step).trans (e.trans (by simp [spa, spe]))
theorem lspaces_ok (hr : Rk ls r) (hl : r.length < 1000) : L.run (k + 2) (.glo f__law_spaces) [lsD ls, lnD r, .int n] S = .ok (gsD (spaces ls r (0, 0))) S := by
  refine run_reg (S' := [.dead]) h__law_spaces rfl ⟨rfl, by decide⟩ (by simp) ?_ (by simp)
  obtain ⟨x, y, e⟩ := lspaces_loop (L := L) (k := k) (ls := ls) (v1 := some (lnD r)) (v2 := some (.int n)) r [] (0, 0) none none hr (by simp; omega)
  have e1 : (spa ls r (0, 0)).length < 16777216 := by rw [spa_len]; omega
  simp at e
  simp [d__law_spaces, lnD]
  simp [lnD] at e
  rw [e]
  simp [e1, spaces_eq, gsD]
theorem ints_D : ∀ l : List Nat, (l.map fun j => D.int (j : Nat)) = (l.map fun j : Nat => (j : Int)).map D.int := fun l => by rw [List.map_map]; rfl
theorem intsD_v (v : Nat → Int) : ∀ l : List Nat, intsD (l.map fun j => D.int (v j)) = some (l.map v)
  | [] => rfl
  | j :: l => by
    simp only [List.map_cons, intsD]
    rw [intsD_v v l]
    rfl
theorem atI_last (l : List D) (x : D) : L2.atI (x :: l) (-1) = some ((x :: l).getLast (by simp)) := by
  unfold L2.atI L2.ixN
  simp
  have e : (-1 + ((l.length : Int) + 1)).toNat = l.length := by omega
  rw [if_pos (by omega), e]
  show (x :: l)[l.length]? = _
  rw [List.getLast_eq_getElem]
  simp
theorem fold_const : ∀ (l : List Nat) (i : Nat), l.foldl (fun (b : Nat) (_ : Nat) => b) i = i
  | [], _ => rfl
  | _ :: l, i => fold_const l i
theorem fold_last (l : List Nat) : ∀ i : Nat, l.foldl (fun b j => j) i = (i :: l).getLast (by simp) := by
  induction l with
  | nil => intro i; rfl
  | cons j l ih =>
    intro i
    rw [List.foldl_cons, ih j]
    rfl
theorem lchosen_ok {gs : List (Fm × Fm)} (hg : ∀ g ∈ gs, Gk g) (hl : gs.length < 1000) : L.run (k + 2) (.glo f__law_chosen) [gsD gs, .int len, ruD ru, .int n] S = .ok (oiD (pick n ru gs (fitsL len n gs))) S := by
  refine run_reg (S' := []) h__law_chosen rfl ⟨rfl, by decide⟩ (by simp) ?_ (by cases pick n ru gs (fitsL len n gs) <;> rfl)
  obtain ⟨v, hv⟩ : ∃ v : Nat → Int, v = fun j => wo (gAt gs j).2 n := ⟨_, rfl⟩
  have e1 : ev L.cons (L.run (k + 1)) l__law_chosen_0 [some (gsD gs), some (.int len), some (ruD ru), some (.int n), none, none, none, none, none, none] [] = .ok (.lst (gs.map fun g => .int (wo g.2 n))) [] := by
    refine lc_allA gD _ gs (by simp [gsD]) (fun g hgm => ?_) (by simp; omega)
    have hgk := hg g hgm
    unfold Gk at hgk
    simp [lvalue_ok (L := L) (k := k) (a := g.2.1) (b := g.2.2) (n := n) (mo _ _ (by omega) (by omega))]
  have e2 : ev L.cons (L.run (k + 1)) l__law_chosen_1 [some (gsD gs), some (.int len), some (ruD ru), some (.int n), some (.lst (gs.map fun g => .int (wo g.2 n))), none, none, none, none, none] [] = .ok (.lst ((fitsL len n gs).map fun j => .int (j : Nat))) [] := by
    have hro : rngOk gs.length = true := rngOk_of (by omega) (by omega)
    unfold fitsL
    rw [← filterMap_if]
    refine lc_mapA (fun j : Nat => D.int j) _ (List.range gs.length) (by simp [gsD, hro, rngL_nat]) (fun j hj => ?_) (by simp; omega)
    have hj : j < gs.length := by simpa using hj
    have hj2 := gAt_eq hj
    by_cases q : len ≤ wo (gAt gs j).2 n
    · have q2 := q
      simp at q2
      simp [atI_nat, hj2, q2]
    · have q2 := q
      simp at q2
      have q3 : ¬ (len ≤ (gAt gs j).2.1 * n + (gAt gs j).2.2) := by omega
      simp [atI_nat, hj2, q3]
  have hfl : (fitsL len n gs).length < 1000 := by
    unfold fitsL
    exact Nat.lt_of_le_of_lt (List.length_filter_le _ _) (by simpa using hl)
  have hfm : ∀ j ∈ fitsL len n gs, j < gs.length := fun j hj => by
    unfold fitsL at hj
    simpa using (List.mem_filter.mp hj).1
  cases q : fitsL len n gs with
  | nil =>
    rw [q] at e2
    simp at e1 e2
    simp [d__law_chosen, e1, e2, pick]
  | cons i l =>
    rw [q] at e2 hfl hfm
    have e3 : ev L.cons (L.run (k + 1)) l__law_chosen_2 [some (gsD gs), some (.int len), some (ruD ru), some (.int n), some (.lst (gs.map fun g => .int (wo g.2 n))), some (.lst ((i :: l).map fun j => .int (j : Nat))), none, none, none, none] [] = .ok (.lst ((i :: l).map fun j => .int (v j))) [] := by
      refine lc_allA (fun j : Nat => D.int j) _ (i :: l) (by simp) (fun j hj => ?_) (by simp at hfl ⊢; omega)
      have hj2 := gAt_eq (hfm j hj)
      simp [atI_nat, hj2, hv]
    have hs : shpL 63 (l.map fun j => D.int (v j)) = true := shpL_intm v 63 l
    have hsn : shpL 63 (l.map fun j => D.int (j : Nat)) = true := shpL_intm (fun j : Nat => (j : Int)) 63 l
    have hint := intsD_v v (i :: l)
    simp only [List.map_cons] at e2 e3 hint
    cases ru with
    | front =>
      have : l.foldl (betI n .front gs) i = i := fold_const l i
      simp at e1 e2 e3
      simp [d__law_chosen, e1, e2, hsn, pick, this]
    | back =>
      have h1 : l.foldl (betI n .back gs) i = (i :: l).getLast (by simp) := fold_last l i
      have h2 := atI_last (l.map fun j => D.int (j : Nat)) (.int i)
      have h3 : ((D.int i) :: l.map fun j => D.int (j : Nat)).getLast (by simp) = .int ((i :: l).getLast (by simp) : Nat) := by
        have := List.getLast_map (f := fun j : Nat => D.int j) (l := i :: l) (by simp)
        simpa using this
      rw [h3] at h2
      simp at e1 e2 e3
      simp [d__law_chosen, e1, e2, hsn, pick, h1, h2]
    | tight =>
      have h1 : l.foldl (betI n .tight gs) i = l.foldl (fun b j => if v j < v b then j else b) i := by
        congr 1
        funext b j
        subst hv
        simp only [betI, betB, le2, wo, decide_eq_true_eq, Int.sub_mul]
        congr 1
        apply propext
        omega
      obtain ⟨p, h2, h3⟩ := amin_ix v l i
      simp only [List.map_cons] at h2
      have h4 : ((D.int i) :: l.map fun j => D.int (j : Nat))[p]? = some (.int (l.foldl (betI n .tight gs) i : Nat)) := by
        rw [h1, ← List.map_cons (f := fun j : Nat => D.int j), List.getElem?_map, h3]
        rfl
      simp at e1 e2 e3
      simp [d__law_chosen, e1, e2, hsn, pick, e3, biD, hint, mtOk, mtD, hs, h2, atI_nat, h4]
    | wide =>
      have h1 : l.foldl (betI n .wide gs) i = l.foldl (fun b j => if v b < v j then j else b) i := by
        congr 1
        funext b j
        subst hv
        simp only [betI, betB, le2, wo, decide_eq_true_eq, Int.sub_mul]
        congr 1
        apply propext
        omega
      obtain ⟨p, h2, h3⟩ := amax_ix v l i
      simp only [List.map_cons] at h2
      have h4 : ((D.int i) :: l.map fun j => D.int (j : Nat))[p]? = some (.int (l.foldl (betI n .wide gs) i : Nat)) := by
        rw [h1, ← List.map_cons (f := fun j : Nat => D.int j), List.getElem?_map, h3]
        rfl
      simp at e1 e2 e3
      simp [d__law_chosen, e1, e2, hsn, pick, e3, biD, hint, mtOk, mtD, hs, h2, atI_nat, h4]
end
end KI


set_option Elab.async false
set_option linter.all false
set_option maxRecDepth 100000
set_option autoImplicit false
set_option maxHeartbeats 1000000
/-! The law's own step, run, forms, places, gaps. -/
namespace KI
open PySem
def orD : Option Row → D
  | none => .non
  | some r => lnD r
@[simp] theorem pu_or (o : Option Row) : (orD o).pure = true := by cases o <;> simp [orD]
theorem take_D (r : Row) (i : Nat) : (r.map cD).take i = (r.take i).map cD := (List.map_take ..).symm
theorem drop_D (r : Row) (i : Nat) : (r.map cD).drop i = (r.drop i).map cD := (List.map_drop ..).symm
section
variable {L : Lw} [L.Std] {k : Nat} {S : Sto} {n : Int} {ls : List Int} {r : Row}
theorem idx_ls {c : Nat} (hc : c < ls.length) : idxD S (lsD ls) (.int c) = some (.int (lenAt ls c)) := by simp [lsD, atI_nat, lenAt_eq hc]
theorem idx_gs {gs : List (Fm × Fm)} {i : Nat} (hi : i < gs.length) : idxD S (gsD gs) (.int i) = some (gD (gAt gs i)) := by simp [gsD, atI_nat, gAt_eq hi]
theorem idx_gs1 {gs : List (Fm × Fm)} {i : Nat} (hi : i + 1 < gs.length) : idxD S (gsD gs) (.int ((i : Int) + 1)) = some (gD (gAt gs (i + 1))) := by simp [gsD, atI_nat, gAt_eq hi]
theorem idx_ln {i : Nat} (hi : i < r.length) : idxD S (lnD r) (.int i) = some (cD (rAt r i)) := by simp [lnD, atI_nat, rAt_eq hi]
theorem cut_ln_to {i : Nat} : cutD (lnD r) none (some (i : Int)) = some (lnD (r.take i)) := by simp [lnD]
theorem cut_ln_from {i : Nat} : cutD (lnD r) (some (i : Int)) none = some (lnD (r.drop i)) := by simp [lnD]
theorem cut_ln_from1 {i : Nat} : cutD (lnD r) (some ((i : Int) + 1)) none = some (lnD (r.drop (i + 1))) := by simp [lnD]
theorem add_ln1 {a : Row} {c : Nat} {x y : Int} (h : a.length < 2000) : binD .add (lnD a) (.lst [.tup [.int c, .tup [.int x, .int y]]]) = some (lnD (a ++ [(c, (x, y))])) := by
  have : a.length + 1 ≤ 16777216 := by omega
  have h2 : a.length ≤ 16777215 := by omega
  simp [lnD, this, h2]
theorem add_ln {a b : Row} (h : a.length < 3000) (h2 : b.length < 3000) : binD .add (lnD a) (lnD b) = some (lnD (a ++ b)) := by
  have : a.length + b.length ≤ 16777216 := by omega
  simp [lnD, this]
theorem spots_fm (c : Nat) : ∀ (q : Row) (i : Nat), (∀ j, q[j]? = r[i + j]?) → ((List.range' i q.length).filter fun j => decide ((rAt r j).1 = c)) = spots c i q
  | [], i, _ => rfl
  | x :: q, i, h => by
    have h0 : r[i]? = some x := by have := h 0; simpa using this.symm
    have hx : rAt r i = x := by unfold rAt; rw [h0]; rfl
    have h1 : ∀ j, q[j]? = r[i + 1 + j]? := fun j => by
      have := h (j + 1)
      rw [List.getElem?_cons_succ] at this
      rw [this]
      congr 1
      omega
    rw [List.length_cons, List.range'_succ, List.filter_cons, hx, spots_fm c q (i + 1) h1]
    show _ = if x.1 = c then i :: spots c (i + 1) q else spots c (i + 1) q
    by_cases e : x.1 = c <;> simp [e]
theorem lstep_ok (hr : Rk ls r) (hl : r.length < 999) {d : Dd} (hc : d.car < ls.length) : L.run (k + 3) (.glo f__law_step) [lsD ls, lnD r, ddD d, .int n] S = .ok (orD (stepP ls r n d)) S := by
  have hlenS : (spaces ls r (0, 0)).length < 1000 := by rw [spaces_len]; omega
  have hg := spaces_ok ls r (0, 0) hr (by simp) (by simp)
  refine run_reg (S' := []) h__law_step rfl ⟨rfl, by decide⟩ (by simp [gd_pure _ _ _ (dd_gd d)]) ?_ (by simp)
  have e1 := lspaces_ok (L := L) (k := k) (S := []) (n := n) hr (by omega)
  have e2 : ∀ (c : Nat) (v2 : D), ev L.cons (L.run (k + 2)) l__law_step_0 [some (lsD ls), some (lnD r), some v2, some (.int n), none, none, none, none, some (.int c), some (gsD (spaces ls r (0, 0))), none, none] [] = .ok (.lst ((spots c 0 r).map fun j => .int (j : Nat))) [] := fun c v2 => by
    have hro : rngOk r.length = true := rngOk_of (by omega) (by omega)
    rw [← spots_fm (r := r) c r 0 (fun j => by rw [Nat.zero_add]), ← List.range_eq_range', ← filterMap_if]
    refine lc_mapA (fun j : Nat => D.int j) _ (List.range r.length) (by simp [lnD, hro, rngL_nat]) (fun j hj => ?_) (by simp; omega)
    have hj : j < r.length := by simpa using hj
    have hj2 := rAt_eq hj
    by_cases q : (rAt r j).1 = c
    · simp [lnD, atI_nat, hj2, q]
    · have q3 : (((rAt r j).1 : Int) == (c : Int)) = false := by simp; omega
      simp [lnD, atI_nat, hj2, q, q3]
  have hsn : ∀ l : List Nat, shpL 63 (l.map fun j => D.int (j : Nat)) = true := fun l => shpL_intm (fun j : Nat => (j : Int)) 63 l
  have hs : ∀ c, spotP r c = (spots c 0 r).head? := fun _ => rfl
  have gl : ∀ (S : Sto) (c : Nat), c < ls.length → idxD S (lsD ls) (.int c) = some (.int (lenAt ls c)) := fun S c hc => idx_ls hc
  have gg : ∀ (S : Sto) (i : Nat), i < (spaces ls r (0, 0)).length → idxD S (gsD (spaces ls r (0, 0))) (.int i) = some (gD (gAt (spaces ls r (0, 0)) i)) := fun S i hi => idx_gs hi
  have ht : ∀ i, (r.take i).length < 1000 := fun i => by rw [List.length_take]; omega
  have hdp : ∀ i, (r.drop i).length < 1000 := fun i => by rw [List.length_drop]; omega
  cases d with
  | park c ru =>
    have hc : c < ls.length := hc
    have e3 := lchosen_ok (L := L) (k := k) (S := []) (len := lenAt ls c) (n := n) (ru := ru) hg hlenS
    have e4 := e2 c (ddD (.park c ru))
    simp only [ddD_park] at e4
    simp only [stepP]
    cases q : pick n ru (spaces ls r (0, 0)) (fitsL (lenAt ls c) n (spaces ls r (0, 0))) with
    | none =>
      rw [q] at e3
      simp only [oiD_none] at e3
      cases qs : spots c 0 r with
      | nil =>
        rw [qs] at e4
        simp only [List.map_nil] at e4
        simp [d__law_step, e1, e4, gl _ _ hc, e3, orD]
      | cons j js =>
        rw [qs] at e4
        simp only [List.map_cons] at e4
        simp [d__law_step, e1, e4, gl _ _ hc, e3, orD, hsn]
    | some i =>
      rw [q] at e3
      simp only [oiD_some] at e3
      have hi : i < (spaces ls r (0, 0)).length := by
        have := chosen_pick ls r [] (lenAt ls c) n ru
        rw [q] at this
        exact chosen_lt this
      cases qs : spots c 0 r with
      | nil =>
        have qc := (spots_nil c 0 r).mp qs
        rw [qs] at e4
        simp only [List.map_nil] at e4
        simp only [qc]
        cases ru with
        | back =>
          simp only [ruD_back] at e3 e4
          simp [d__law_step, e1, e4]
          rw [gl [] c hc]
          simp [e3]
          rw [gg [] i hi]
          simp [gl [] c hc, cut_ln_to, cut_ln_from]
          rw [add_ln1 (Nat.lt_of_lt_of_le (ht i) (by decide))]
          simp
          rw [add_ln (by rw [List.length_append]; have := ht i; simp; omega) (Nat.lt_of_lt_of_le (hdp i) (by decide))]
          simp [orD, placeF, Int.sub_eq_add_neg]
        | front =>
          simp only [ruD_front] at e3 e4
          simp [d__law_step, e1, e4]
          rw [gl [] c hc]
          simp [e3]
          rw [gg [] i hi]
          simp [gl [] c hc, cut_ln_to, cut_ln_from]
          rw [add_ln1 (Nat.lt_of_lt_of_le (ht i) (by decide))]
          simp
          rw [add_ln (by rw [List.length_append]; have := ht i; simp; omega) (Nat.lt_of_lt_of_le (hdp i) (by decide))]
          simp [orD, placeF, Int.sub_eq_add_neg]
        | tight =>
          simp only [ruD_tight] at e3 e4
          simp [d__law_step, e1, e4]
          rw [gl [] c hc]
          simp [e3]
          rw [gg [] i hi]
          simp [gl [] c hc, cut_ln_to, cut_ln_from]
          rw [add_ln1 (Nat.lt_of_lt_of_le (ht i) (by decide))]
          simp
          rw [add_ln (by rw [List.length_append]; have := ht i; simp; omega) (Nat.lt_of_lt_of_le (hdp i) (by decide))]
          simp [orD, placeF, Int.sub_eq_add_neg]
        | wide =>
          simp only [ruD_wide] at e3 e4
          simp [d__law_step, e1, e4]
          rw [gl [] c hc]
          simp [e3]
          rw [gg [] i hi]
          simp [gl [] c hc, cut_ln_to, cut_ln_from]
          rw [add_ln1 (Nat.lt_of_lt_of_le (ht i) (by decide))]
          simp
          rw [add_ln (by rw [List.length_append]; have := ht i; simp; omega) (Nat.lt_of_lt_of_le (hdp i) (by decide))]
          simp [orD, placeF, Int.sub_eq_add_neg]
      | cons j js =>
        have qc : hasCar r c = true := by
          cases q2 : hasCar r c with
          | true => rfl
          | false => rw [(spots_nil c 0 r).mpr q2] at qs; cases qs
        rw [qs] at e4
        simp only [List.map_cons] at e4
        simp only [qc]
        simp [d__law_step, e1, e4, gl _ _ hc, e3, orD, hsn]
  | leave c =>
    have hc : c < ls.length := hc
    have e4 := e2 c (ddD (.leave c))
    simp only [ddD_leave] at e4
    simp only [stepP, hs]
    cases qs : spots c 0 r with
    | nil =>
      rw [qs] at e4
      simp only [List.map_nil] at e4
      simp [d__law_step, e1, e4, orD]
    | cons i js =>
      rw [qs] at e4
      simp only [List.map_cons] at e4
      simp [d__law_step, e1, e4, orD, hsn, cut_ln_to, cut_ln_from1]
      rw [add_ln (Nat.lt_of_lt_of_le (ht i) (by decide)) (Nat.lt_of_lt_of_le (hdp (i + 1)) (by decide))]
  | pull c =>
    have hc : c < ls.length := hc
    have e4 := e2 c (ddD (.pull c))
    simp only [ddD_pull] at e4
    cases qs : spots c 0 r with
    | nil =>
      rw [qs] at e4
      simp only [List.map_nil] at e4
      rw [show stepP ls r n (.pull c) = none from by simp only [stepP, hs, qs, List.head?_nil]]
      simp [d__law_step, e1, e4, orD]
    | cons i js =>
      have hp : spotP r c = some i := by rw [hs, qs]; rfl
      have hi := spotP_lt hp
      have hca := spotP_car hp
      have hi2 : i < (spaces ls r (0, 0)).length := by rw [spaces_len]; omega
      have hgk := hg _ (gAt_mem hi2)
      unfold Gk at hgk
      have ev := lvalue_ok (L := L) (k := k + 1) (S := []) (a := (gAt (spaces ls r (0, 0)) i).2.1) (b := (gAt (spaces ls r (0, 0)) i).2.2) (n := n) (mo _ _ (by omega) (by omega))
      rw [qs] at e4
      simp only [List.map_cons] at e4
      by_cases q : wo (gAt (spaces ls r (0, 0)) i).2 n = 0
      · rw [show stepP ls r n (.pull c) = none from by simp only [stepP, hp]; rw [if_pos q]]
        simp only [wo] at q
        simp [d__law_step, e1, e4, orD, hsn, idx_gs hi2, ev, q]
      · rw [show stepP ls r n (.pull c) = some (moveTo r i (gAt (spaces ls r (0, 0)) i).1) from by simp only [stepP, hp]; rw [if_neg q]]
        have q2 : ((gAt (spaces ls r (0, 0)) i).2.1 * n + (gAt (spaces ls r (0, 0)) i).2.2 == 0) = false := by simpa using q
        simp [d__law_step, e1, e4, orD, hsn, idx_gs hi2, ev, q2, idx_ln hi, cut_ln_to, cut_ln_from1]
        simp [add_ln1 (Nat.lt_of_lt_of_le (ht i) (by decide))]
        rw [add_ln (by rw [List.length_append]; have := ht i; simp; omega) (Nat.lt_of_lt_of_le (hdp (i + 1)) (by decide))]
        simp [moveTo, hca]
  | drop c =>
    have hc : c < ls.length := hc
    have e4 := e2 c (ddD (.drop c))
    simp only [ddD_drop] at e4
    cases qs : spots c 0 r with
    | nil =>
      rw [qs] at e4
      simp only [List.map_nil] at e4
      rw [show stepP ls r n (.drop c) = none from by simp only [stepP, hs, qs, List.head?_nil]]
      simp [d__law_step, e1, e4, orD]
    | cons i js =>
      have hp : spotP r c = some i := by rw [hs, qs]; rfl
      have hi := spotP_lt hp
      have hca := spotP_car hp
      have hi2 : i + 1 < (spaces ls r (0, 0)).length := by rw [spaces_len]; omega
      have hgk := hg _ (gAt_mem hi2)
      unfold Gk at hgk
      have ev := lvalue_ok (L := L) (k := k + 1) (S := []) (a := (gAt (spaces ls r (0, 0)) (i + 1)).2.1) (b := (gAt (spaces ls r (0, 0)) (i + 1)).2.2) (n := n) (mo _ _ (by omega) (by omega))
      rw [qs] at e4
      simp only [List.map_cons] at e4
      by_cases q : wo (gAt (spaces ls r (0, 0)) (i + 1)).2 n = 0
      · rw [show stepP ls r n (.drop c) = none from by simp only [stepP, hp]; rw [if_pos q]]
        simp only [wo] at q
        simp [d__law_step, e1, e4, orD, hsn, idx_gs1 hi2, ev, q]
      · rw [show stepP ls r n (.drop c) = some (moveTo r i (ad (rAt r i).2 (gAt (spaces ls r (0, 0)) (i + 1)).2)) from by simp only [stepP, hp]; rw [if_neg q]]
        have q2 : ((gAt (spaces ls r (0, 0)) (i + 1)).2.1 * n + (gAt (spaces ls r (0, 0)) (i + 1)).2.2 == 0) = false := by simpa using q
        simp [d__law_step, e1, e4, orD, hsn, idx_gs1 hi2, ev, q2, idx_ln hi, cut_ln_to, cut_ln_from1]
        simp [add_ln1 (Nat.lt_of_lt_of_le (ht i) (by decide))]
        rw [add_ln (by rw [List.length_append]; have := ht i; simp; omega) (Nat.lt_of_lt_of_le (hdp (i + 1)) (by decide))]
        simp [moveTo, hca]
end
end KI


set_option Elab.async false
set_option linter.all false
set_option maxRecDepth 100000
set_option autoImplicit false
set_option maxHeartbeats 1000000
/-! The law's own run, forms, places, gaps. -/
namespace KI
open PySem
/-! ### no car stands twice -/
def Nd (r : Row) : Prop := (r.map (·.1)).Nodup
theorem row_split {r : Row} {i : Nat} (h : i < r.length) : r = r.take i ++ rAt r i :: r.drop (i + 1) := by
  have e := rAt_eq h
  rw [List.getElem?_eq_getElem h] at e
  injection e with e
  rw [← e, ← List.drop_eq_getElem_cons h, List.take_append_drop]
theorem moveTo_nd {r : Row} (h : Nd r) {i : Nat} (hi : i < r.length) (f : Fm) : Nd (moveTo r i f) := by
  have e : (moveTo r i f).map (·.1) = r.map (·.1) := by
    conv => rhs; rw [row_split hi]
    simp [moveTo]
  unfold Nd
  rw [e]
  exact h
theorem hasCar_mem {r : Row} {c : Nat} (h : hasCar r c = false) : c ∉ r.map (·.1) := by
  intro hm
  obtain ⟨x, hx, e⟩ := List.mem_map.mp hm
  have := List.any_eq_false.mp h x hx
  simp at this
  exact this e
theorem stepP_nd {ls : List Int} {r : Row} {n : Int} {d : Dd} (h : Nd r) : Nd ((stepP ls r n d).getD r) := by
  cases d with
  | park c ru =>
    simp only [stepP]
    cases pick n ru (spaces ls r (0, 0)) (fitsL (lenAt ls c) n (spaces ls r (0, 0))) with
    | none => exact h
    | some i =>
      cases q : hasCar r c with
      | true => exact h
      | false =>
        show Nd (r.take i ++ [(c, placeF ru (gAt (spaces ls r (0, 0)) i) (lenAt ls c))] ++ r.drop i)
        unfold Nd
        have e : (r.take i ++ [(c, placeF ru (gAt (spaces ls r (0, 0)) i) (lenAt ls c))] ++ r.drop i).map (·.1) = (r.map (·.1)).take i ++ c :: (r.map (·.1)).drop i := by simp
        rw [e]
        have hp : List.Perm ((r.map (·.1)).take i ++ c :: (r.map (·.1)).drop i) (c :: r.map (·.1)) := by
          have := @List.perm_middle _ c ((r.map (·.1)).take i) ((r.map (·.1)).drop i)
          rwa [List.take_append_drop] at this
        exact hp.nodup_iff.mpr (List.nodup_cons.mpr ⟨hasCar_mem q, h⟩)
  | leave c =>
    simp only [stepP]
    cases q : spotP r c with
    | none => exact h
    | some i =>
      show Nd (r.take i ++ r.drop (i + 1))
      have hs : List.Sublist (r.take i ++ r.drop (i + 1)) r := by
        conv => rhs; rw [row_split (spotP_lt q)]
        exact List.Sublist.append (List.Sublist.refl _) (List.sublist_cons_self _ _)
      exact List.Nodup.sublist (hs.map _) h
  | pull c =>
    simp only [stepP]
    cases q : spotP r c with
    | none => exact h
    | some i =>
      by_cases q2 : wo (gAt (spaces ls r (0, 0)) i).2 n = 0
      · simp only [q2, if_true]; exact h
      · simp only [q2, if_false]; exact moveTo_nd h (spotP_lt q) _
  | drop c =>
    simp only [stepP]
    cases q : spotP r c with
    | none => exact h
    | some i =>
      by_cases q2 : wo (gAt (spaces ls r (0, 0)) (i + 1)).2 n = 0
      · simp only [q2, if_true]; exact h
      · simp only [q2, if_false]; exact moveTo_nd h (spotP_lt q) _
theorem stepP_ok (ls : List Int) (r : Row) (n : Int) (d : Dd) (h : Rk ls r) (hd : d.car < ls.length) : Rk ls ((stepP ls r n d).getD r) ∧ ((stepP ls r n d).getD r).length ≤ r.length + 1 := by
  obtain ⟨h1, h2, _⟩ := doP_ok ls r [] n d h hd
  rw [(doP_step ls r [] n d).2] at h1 h2
  exact ⟨h1, h2⟩
theorem runQ_nd (ls : List Int) (n : Int) : ∀ (ds : List Dd) (r : Row) (b : List Bool), Nd r → Nd (runQ ls n ds r b).1
  | [], r, b, h => h
  | d :: ds, r, b, h => runQ_nd ls n ds _ _ (stepP_nd h)
theorem find_place (c : Nat) (r : Row) : ∀ (q : Row) (i : Nat), (∀ j, q[j]? = r[i + j]?) → (spots c i q).head?.map (fun j => (rAt r j).2) = (q.find? fun x => decide (x.1 = c)).map (·.2)
  | [], i, _ => rfl
  | x :: q, i, h => by
    have h0 : r[i]? = some x := by have := h 0; simpa using this.symm
    have hx : rAt r i = x := by unfold rAt; rw [h0]; rfl
    have h1 : ∀ j, q[j]? = r[i + 1 + j]? := fun j => by
      have := h (j + 1)
      rw [List.getElem?_cons_succ] at this
      rw [this]
      congr 1
      omega
    have ih := find_place c r q (i + 1) h1
    unfold spots
    by_cases e : x.1 = c
    · simp [e, hx]
    · simp only [if_neg e, List.find?_cons, decide_eq_false e]
      exact ih
theorem placeOf_find (r : Row) (c : Nat) : placeOf r c = (r.find? fun x => decide (x.1 = c)).map (·.2) := find_place c r r 0 fun j => by rw [Nat.zero_add]
theorem dicPut_new {kvs : List (Key × D)} {k : Key} {v : D} (h : k ∉ kvs.map (·.1)) : dicPut kvs k v = kvs ++ [(k, v)] := by
  unfold dicPut
  have : kvs.any (fun kv => decide (kv.1 = k)) = false := by
    rw [List.any_eq_false]
    intro x hx e
    exact h (List.mem_map.mpr ⟨x, hx, of_decide_eq_true e⟩)
  rw [this]
  rfl
theorem mergeD_nd : ∀ (l acc : List (Key × D)), ((acc ++ l).map (·.1)).Nodup → mergeD acc l = acc ++ l
  | [], acc, _ => by simp [mergeD]
  | (k, v) :: l, acc, h => by
    have hk : k ∉ acc.map (·.1) := by
      rw [List.map_append, List.nodup_append] at h
      intro hm
      exact h.2.2 k hm k (by simp) rfl
    unfold mergeD
    rw [dicPut_new hk, mergeD_nd l (acc ++ [(k, v)]) (by simpa using h)]
    simp
theorem pairs_row : ∀ r : Row, pairsOf (r.map cD) = some (r.map fun x => ((Sum.inl (x.1 : Int) : Key), fD x.2))
  | [] => rfl
  | x :: r => by
    have := pairs_row r
    show (keyOf (.int x.1)).bind (fun k => (pairsOf (r.map cD)).map ((k, fD x.2) :: ·)) = _
    rw [this]
    rfl
def kvR (r : Row) : List (Key × D) := r.map fun x => ((Sum.inl (x.1 : Int) : Key), fD x.2)
theorem kvR_nd {r : Row} (h : Nd r) : mergeD [] (kvR r) = kvR r := by
  rw [mergeD_nd (kvR r) []]
  · rfl
  · rw [List.nil_append]
    unfold kvR
    rw [List.map_map]
    have e : ((fun x : Key × D => x.1) ∘ fun x : Nat × Fm => ((Sum.inl (x.1 : Int) : Key), fD x.2)) = (fun c : Nat => (Sum.inl (c : Int) : Key)) ∘ fun x : Nat × Fm => x.1 := rfl
    rw [e, ← List.map_map]
    refine List.Pairwise.map _ (fun a b hab e => hab ?_) h
    have := Sum.inl.inj e
    omega
theorem dicGet_row (r : Row) (c : Nat) : dicGet (kvR r) (.inl (c : Int)) = (placeOf r c).map fD := by
  rw [placeOf_find]
  unfold dicGet kvR
  induction r with
  | nil => rfl
  | cons x r ih =>
    rw [List.map_cons, List.find?_cons, List.find?_cons]
    by_cases e : x.1 = c
    · have e2 : decide ((Sum.inl (x.1 : Int) : Key) = Sum.inl (c : Int)) = true := decide_eq_true (by rw [e])
      simp [e]
    · have e2 : decide ((Sum.inl (x.1 : Int) : Key) = Sum.inl (c : Int)) = false := decide_eq_false (fun z => e (by have := Sum.inl.inj z; omega))
      simp only [e2, decide_eq_false e]
      exact ih
/-! ### equal to itself -/
mutual
theorem eqD_refl : ∀ (k : Nat) (d : D), shp k d = true → eqD d d = true
  | _, .non, _ => rfl
  | _, .bl b, _ => by simp [eqD]
  | _, .int i, _ => by simp [eqD]
  | _, .str s, _ => by show (s == s) = true; exact beq_self_eq_true s
  | k + 1, .tup xs, h => eqL_refl k xs h
  | k + 1, .lst xs, h => eqL_refl k xs h
  | 0, .tup xs, h | 0, .lst xs, h => by cases h
  | 0, .dic _, h | _ + 1, .dic _, h | 0, .ro _, h | _ + 1, .ro _, h | 0, .cell _, h | _ + 1, .cell _, h | 0, .fn _, h | _ + 1, .fn _, h | 0, .clo _ _ _, h | _ + 1, .clo _ _ _, h => by cases h
theorem eqL_refl : ∀ (k : Nat) (ds : List D), shpL k ds = true → eqL ds ds = true
  | _, [], _ => rfl
  | k, d :: ds, h => by
    obtain ⟨h1, h2⟩ := ba (show (shp k d && shpL k ds) = true by cases k <;> exact h)
    show (eqD d d && eqL ds ds) = true
    rw [eqD_refl k d h1, eqL_refl k ds h2]
    rfl
end
theorem ne_self {d : D} (h : shp 64 d = true) : cmpD .ne d d = some false := by rw [c_ne, h, eqD_refl 64 d h]; rfl
theorem eq_self' {d : D} (h : shp 64 d = true) : cmpD .eq d d = some true := by rw [c_eq, h, eqD_refl 64 d h]; rfl
section
variable {L : Lw} [L.Std] {k : Nat} {S : Sto} {n : Int} {ls : List Int} {ds : List Dd} {r : Row}
theorem lrun_loop {x0 : Option D} {dd0 : D} : ∀ (ds : List Dd) (r : Row) (b : List Bool) (x y : Option D), Rk ls r → (∀ d ∈ ds, d.car < ls.length) → r.length + ds.length < 900 → b.length + ds.length < 900 →
    ∃ x' y', evFor (.nm 2) (exss L.cons (L.run (k + 3)) L.fuel b__law_run_0) (ds.map ddD) [some (.tup [lsD ls, dd0]), some (.int n), x, some (lnD r), some (diD b), y] [] = .nx [some (.tup [lsD ls, dd0]), some (.int n), x', some (lnD (runQ ls n ds r b).1), some (diD (runQ ls n ds r b).2), y'] []
  | [], r, b, x, y, _, _, _, _ => ⟨x, y, rfl⟩
  | d :: ds, r, b, x, y, hr, hd, hl, hb => by
    rw [List.length_cons] at hl hb
    obtain ⟨h1, h2⟩ := stepP_ok ls r n d hr (hd d List.mem_cons_self)
    have e0 := lstep_ok (L := L) (k := k) (S := []) (n := n) hr (by omega) (hd d List.mem_cons_self)
    obtain ⟨x', y', e⟩ := lrun_loop (x0 := x0) (dd0 := dd0) ds ((stepP ls r n d).getD r) (b ++ [(stepP ls r n d).isSome]) (some (ddD d)) (some (orD (stepP ls r n d))) h1 (fun d hd' => hd d (List.mem_cons_of_mem _ hd')) (by omega) (by simp; omega)
    refine ⟨x', y', ?_⟩
    rw [List.map_cons]
    unfold evFor
    simp only [bindT]
    have hb2 : b.length + 1 ≤ 16777216 := by omega
    have hb3 : b.length ≤ 16777215 := by omega
    have step : exss L.cons (L.run (k + 3)) L.fuel b__law_run_0 [some (.tup [lsD ls, dd0]), some (.int n), some (ddD d), some (lnD r), some (diD b), y] [] = .nx [some (.tup [lsD ls, dd0]), some (.int n), some (ddD d), some (lnD ((stepP ls r n d).getD r)), some (diD (b ++ [(stepP ls r n d).isSome])), some (orD (stepP ls r n d))] [] := by
      cases q : stepP ls r n d with
      | none =>
        rw [q] at e0
        simp [b__law_run_0, e0, orD, diD, hb2, hb3]
      | some r' =>
        rw [q] at e0
        have hn : isNon (lnD r') = false := rfl
        simp [b__law_run_0, e0, orD, diD, hb2, hb3, hn]
    exact (congrArg (fun z : Fl => z.then fun ρ S => evFor _ (exss L.cons (L.run (k + 3)) L.fuel b__law_run_0) (ds.map ddD) ρ S) step).trans e
theorem lrun_ok (h : Pk ls ds) : L.run (k + 4) (.glo f__law_run) [plD ls ds, .int n] S = .ok (.tup [diD (endP ls ds n).2.1, lnD (endP ls ds n).1]) S := by
  have hd := h.d1
  obtain ⟨x, y, e⟩ := lrun_loop (L := L) (k := k) (n := n) (ls := ls) (x0 := none) (dd0 := .tup (ds.map ddD)) ds [] [] none none (fun _ h => nomatch h) h.car (by simp; omega) (by simp; omega)
  obtain ⟨q1, q2⟩ := runP_runQ ls n ds [] [] []
  rw [← q1, ← q2] at e
  refine run_reg (S' := []) h__law_run rfl ⟨rfl, by decide⟩ (by simp [gd_pure _ _ _ h.gd]) ?_ (by simp)
  simp [d__law_run, plD]
  simp [lnD, diD] at e ⊢
  rw [e]
  simp
theorem endP_nd (h : Pk ls ds) : Nd (endP ls ds n).1 := by
  rw [endP, (runP_runQ ls n ds [] [] []).1]
  exact runQ_nd ls n ds [] [] List.nodup_nil
end
end KI


set_option Elab.async false
set_option linter.all false
set_option maxRecDepth 100000
set_option autoImplicit false
set_option maxHeartbeats 1000000
/-! The law's own forms, places, gaps; a drawn length; drawn plans. -/
namespace KI
open PySem
theorem exss_nx {cons : Nat → D} {call : Call} {fuel : Nat} {s : Sx} {ss : Sxs} {ρ ρ' : Env} {S S' : Sto} (h : exs cons call fuel s ρ S = .nx ρ' S') : exss cons call fuel (.cons s ss) ρ S = exss cons call fuel ss ρ' S' := by rw [exss_cons, h]
theorem exss_rt {cons : Nat → D} {call : Call} {fuel : Nat} {s : Sx} {ss : Sxs} {ρ : Env} {d : D} {S S' : Sto} (h : exs cons call fuel s ρ S = .rt d S') : exss cons call fuel (.cons s ss) ρ S = .rt d S' := by rw [exss_cons, h]
@[simp] theorem pu_of (o : Option Fm) : (ofD o).pure = true := by cases o <;> rfl
/-- the places, as forms -/
def formsP (ls : List Int) (r : Row) : List (Option Fm) := (List.range ls.length).map fun c => placeOf r c
theorem placesP_forms (ls : List Int) (r : Row) (n : Int) : placesP ls r n = (formsP ls r).map fun o => owD (o.map (wo · n)) := by
  unfold placesP formsP
  rw [List.map_map]
  rfl
section
variable {L : Lw} [L.Std] {k : Nat} {S : Sto} {n : Int} {ls : List Int} {ds : List Dd} {r : Row}
theorem lforms_ok (h : Pk ls ds) : L.run (k + 5) (.glo f__law_forms) [plD ls ds, .int n] S = .ok (.lst ((formsP ls (endP ls ds n).1).map ofD)) S := by
  have hl1 := h.l1
  have e1 := lrun_ok (L := L) (k := k) (S := []) (n := n) h
  refine run_reg (S' := []) h__law_forms rfl ⟨rfl, by decide⟩ (by simp [gd_pure _ _ _ h.gd]) ?_ (by rw [pu_lst]; exact pureL_map _ (fun o => by simp) _)
  have e2 : ∀ y, ev L.cons (L.run (k + 4)) l__law_forms_0 [some (plD ls ds), some (.int n), some (.dic (kvR (endP ls ds n).1)), y] [] = .ok (.lst ((formsP ls (endP ls ds n).1).map ofD)) [] := fun y => by
    unfold formsP
    rw [List.map_map]
    refine lc_allA (fun j : Nat => D.int j) _ _ ?_ (fun c _ => ?_) (by simp; omega)
    · have : rngOk ls.length = true := rngOk_of (by omega) (by omega)
      simp [plD, lsD, this, rngL_nat]
    · simp [mtOk, mtD, dicGet_row]
      cases placeOf (endP ls ds n).1 c <;> rfl
  have e3 : biD [] .dict [lnD (endP ls ds n).1] = some (.dic (kvR (endP ls ds n).1)) := by
    show (pairsOf ((endP ls ds n).1.map cD)).map (fun ps => D.dic (mergeD [] ps)) = _
    rw [pairs_row]
    show some (D.dic (mergeD [] (kvR (endP ls ds n).1))) = _
    rw [kvR_nd (endP_nd h)]
  have e4 : exs L.cons (L.run (k + 4)) L.fuel (.set 2 (.bi .dict (.cons (.idx (.call f__law_run (.cons (.var 0) (.cons (.var 1) .nil))) (.int 1)) .nil))) [some (plD ls ds), some (.int n), none, none] [] = .nx [some (plD ls ds), some (.int n), some (.dic (kvR (endP ls ds n).1)), none] [] := by simp [e1, e3]
  exact (exss_nx e4).trans (exss_rt (by rw [exs_ret, e2]))
theorem lplaces_loop {x0 : Option D} : ∀ (fs : List (Option Fm)) (acc : List D) (y : Option D), (∀ f ∈ fs, ∀ g, f = some g → 0 ≤ g.1 ∧ g.1 ≤ 1) → acc.length + fs.length < 1000 →
    ∃ y', evFor (.nm 3) (exss L.cons (L.run (k + 1)) L.fuel b__law_places_0) (fs.map ofD) [x0, some (.int n), some (.tup acc), y] S = .nx [x0, some (.int n), some (.tup (acc ++ fs.map fun o => owD (o.map (wo · n)))), y'] S
  | [], acc, y, _, _ => ⟨y, by simp [evFor]⟩
  | f :: fs, acc, y, hf, hl => by
    rw [List.length_cons] at hl
    obtain ⟨y', e⟩ := lplaces_loop (x0 := x0) fs (acc ++ [owD (f.map (wo · n))]) (some (ofD f)) (fun g hg => hf g (List.mem_cons_of_mem _ hg)) (by simp; omega)
    refine ⟨y', ?_⟩
    rw [List.map_cons]
    unfold evFor
    simp only [bindT]
    have hl2 : acc.length + 1 ≤ 16777216 := by omega
    have hl3 : acc.length ≤ 16777215 := by omega
    have step : exss L.cons (L.run (k + 1)) L.fuel b__law_places_0 [x0, some (.int n), some (.tup acc), some (ofD f)] S = .nx [x0, some (.int n), some (.tup (acc ++ [owD (f.map (wo · n))])), some (ofD f)] S := by
      cases f with
      | none => simp [b__law_places_0, ofD, owD, hl2, hl3]
      | some g =>
        have := hf _ List.mem_cons_self g rfl
        have ev := lvalue_ok (L := L) (k := k) (S := S) (a := g.1) (b := g.2) (n := n) (mo _ _ (by omega) (by omega))
        simp [b__law_places_0, ofD, owD, ev, hl2, hl3]
    exact (congrArg (fun z : Fl => z.then fun ρ S => evFor _ (exss L.cons (L.run (k + 1)) L.fuel b__law_places_0) (fs.map ofD) ρ S) step).trans (e.trans (by simp))
theorem formsP_ok (hr : Rk ls r) : ∀ f ∈ formsP ls r, ∀ g, f = some g → 0 ≤ g.1 ∧ g.1 ≤ 1 := fun f hf g e => by
  obtain ⟨c, _, q⟩ := List.mem_map.mp hf
  exact placeOf_ok hr (q.trans e)
theorem lplaces_ok (h : Pk ls ds) : L.run (k + 6) (.glo f__law_places) [plD ls ds, .int n] S = .ok (.tup (placesP ls (endP ls ds n).1 n)) S := by
  have hl1 := h.l1
  have e1 := lforms_ok (L := L) (k := k) (S := []) (n := n) h
  refine run_reg (S' := []) h__law_places rfl ⟨rfl, by decide⟩ (by simp [gd_pure _ _ _ h.gd]) ?_ (places_pure _ _ _)
  obtain ⟨y, e⟩ := lplaces_loop (L := L) (k := k + 4) (S := []) (n := n) (x0 := some (plD ls ds)) (formsP ls (endP ls ds n).1) [] none (formsP_ok (endP_ok h).1) (by simp [formsP]; omega)
  rw [List.nil_append, ← placesP_forms] at e
  have e4 : exs L.cons (L.run (k + 5)) L.fuel (.set 2 (.tup .nil)) [some (plD ls ds), some (.int n), none, none] [] = .nx [some (plD ls ds), some (.int n), some (.tup []), none] [] := by simp
  have e5 : exs L.cons (L.run (k + 5)) L.fuel (.for_ (.nm 3) (.val (.call f__law_forms (.cons (.var 0) (.cons (.var 1) .nil)))) b__law_places_0) [some (plD ls ds), some (.int n), some (.tup []), none] [] = .nx [some (plD ls ds), some (.int n), some (.tup (placesP ls (endP ls ds n).1 n)), y] [] := by
    have e6 : evi L.cons (L.run (k + 5)) (.val (.call f__law_forms (.cons (.var 0) (.cons (.var 1) .nil)))) [some (plD ls ds), some (.int n), some (.tup []), none] [] = .ok ((formsP ls (endP ls ds n).1).map ofD) [] := by simp [e1]
    rw [exs_for_, e6]
    exact e
  exact (exss_nx e4).trans ((exss_nx e5).trans (exss_rt (by simp)))
theorem lgaps_ok (h : Pk ls ds) : L.run (k + 5) (.glo f__law_gaps) [plD ls ds, .int n] S = .ok (.tup ((gapP ls (endP ls ds n).1 n).map gD)) S := by
  have hr := (endP_ok (n := n) h).1
  have hl := (endP_ok (n := n) h).2.1
  have e1 := lrun_ok (L := L) (k := k) (S := []) (n := n) h
  have e2 := lspaces_ok (L := L) (k := k + 2) (S := []) (n := n) hr (by omega)
  have hg := spaces_ok ls (endP ls ds n).1 (0, 0) hr (by simp) (by simp)
  have hsl := spaces_len ls (endP ls ds n).1 (0, 0)
  refine run_reg (S' := []) h__law_gaps rfl ⟨rfl, by decide⟩ (by simp [gd_pure _ _ _ h.gd]) ?_ (by rw [pu_tup]; exact pureL_gs _)
  have e3 : exs L.cons (L.run (k + 4)) L.fuel (.set 2 (.call f__law_spaces (.cons (.idx (.var 0) (.int 0)) (.cons (.idx (.call f__law_run (.cons (.var 0) (.cons (.var 1) .nil))) (.int 1)) (.cons (.var 1) .nil))))) [some (plD ls ds), some (.int n), none, none] [] = .nx [some (plD ls ds), some (.int n), some (gsD (spaces ls (endP ls ds n).1 (0, 0))), none] [] := by
    have e0 : idxD [] (plD ls ds) (.int 0) = some (lsD ls) := by simp [plD]
    simp [e1, e2, e0]
  have e4 : ev L.cons (L.run (k + 4)) l__law_gaps_0 [some (plD ls ds), some (.int n), some (gsD (spaces ls (endP ls ds n).1 (0, 0))), none] [] = .ok (.lst ((gapP ls (endP ls ds n).1 n).map gD)) [] := by
    unfold gapP
    rw [← filterMap_if]
    refine lc_mapA gD _ (spaces ls (endP ls ds n).1 (0, 0)) (by simp [gsD]) (fun g hgm => ?_) (by simp; omega)
    have hgk := hg g hgm
    unfold Gk at hgk
    have ev := lvalue_ok (L := L) (k := k + 3) (S := []) (a := g.2.1) (b := g.2.2) (n := n) (mo _ _ (by omega) (by omega))
    by_cases c : 0 < wo g.2 n
    · have c2 : (0 : Int) < g.2.1 * n + g.2.2 := c
      simp [ev, c2]
    · have c2 : ¬ (0 : Int) < g.2.1 * n + g.2.2 := c
      simp [ev, c2]
  exact (exss_nx e3).trans (exss_rt (by simp [e4]))
/-- a drawn length -/
theorem ln_ok {m : Nat} (h : Src S m) : ∃ (n : Int) (S' : Sto), L.run (k + 3) (.glo f__law_n) [.cell m] S = .ok (.int n) S' ∧ Nk n ∧ Src S' m ∧ S'.length = S.length := by
  obtain ⟨a, S1, e1, a0, a1, s1, l1⟩ := draw_ok (L := L) (k := k + 1) h (m := 9) (by omega) (by omega)
  obtain ⟨b, S2, e2, b0, b1, s2, l2⟩ := draw_ok (L := L) (k := k + 1) s1 (m := 1000000000) (by omega) (by omega)
  obtain ⟨c, S3, e3, c0, c1, s3, l3⟩ := draw_ok (L := L) (k := k + 1) s2 (m := 40) (by omega) (by omega)
  obtain ⟨x, S4, e4, hx, s4, l4⟩ := of_ok (L := L) (k := k) s3 (xs := [.int 10, .int (10 + a), .int (10 + a + c), .int (1000000000 + b), .int 1000000000000000000000000000000]) (by simp) (by simp)
  have hn : ∃ n : Int, x = .int n ∧ Nk n := by
    simp only [List.mem_cons, List.not_mem_nil, or_false] at hx
    rcases hx with h | h | h | h | h
    · exact ⟨_, h, by unfold Nk; omega⟩
    · exact ⟨_, h, by unfold Nk; omega⟩
    · exact ⟨_, h, by unfold Nk; omega⟩
    · exact ⟨_, h, by unfold Nk; omega⟩
    · exact ⟨_, h, by unfold Nk; omega⟩
  obtain ⟨n, rfl, hn⟩ := hn
  refine ⟨n, S4, ?_, hn, s4, by omega⟩
  refine run_non h__law_n rfl ⟨rfl, by decide⟩ ?_
  simp [d__law_n, e1, e2, e3, e4]
/-! ### drawn plans -/
theorem rule_ru {x : D} (h : Rule x) : ∃ ru, x = ruD ru := by
  rcases h with h | h | h | h
  · exact ⟨.front, h⟩
  · exact ⟨.back, h⟩
  · exact ⟨.tight, h⟩
  · exact ⟨.wide, h⟩
theorem drawn_dd {cars : Nat} {d : D} (h : DrawnDeed cars d) : ∃ x : Dd, d = ddD x ∧ x.car < cars := by
  rcases h.form with ⟨x, r, e, hx, r0, r1⟩ | ⟨w, r, e, hw, r0, r1⟩
  · obtain ⟨ru, rfl⟩ := rule_ru hx
    obtain ⟨c, rfl⟩ := Int.eq_ofNat_of_zero_le r0
    exact ⟨.park c ru, e, by show c < cars; omega⟩
  · obtain ⟨c, rfl⟩ := Int.eq_ofNat_of_zero_le r0
    rcases hw with h | h | h <;> subst h
    · exact ⟨.leave c, e, by show c < cars; omega⟩
    · exact ⟨.pull c, e, by show c < cars; omega⟩
    · exact ⟨.drop c, e, by show c < cars; omega⟩
theorem drawn_dds {cars : Nat} : ∀ {ds : List D}, (∀ d ∈ ds, DrawnDeed cars d) → ∃ xs : List Dd, ds = xs.map ddD ∧ ∀ x ∈ xs, x.car < cars
  | [], _ => ⟨[], rfl, fun _ h => nomatch h⟩
  | d :: ds, h => by
    obtain ⟨x, e1, h1⟩ := drawn_dd (h d List.mem_cons_self)
    obtain ⟨xs, e2, h2⟩ := drawn_dds (ds := ds) fun d hd => h d (List.mem_cons_of_mem _ hd)
    refine ⟨x :: xs, by rw [e1, e2]; rfl, fun y hy => ?_⟩
    rcases List.mem_cons.mp hy with q | hy
    · rw [q]; exact h1
    · exact h2 y hy
theorem drawn_pk {most : Int} {p : D} (h : DrawnPlan most p) (hm : most ≤ 8) : ∃ ls ds, p = plD ls ds ∧ Pk ls ds := by
  obtain ⟨ls, ds, rfl, l0, l1, hl, hd, hds⟩ := h.form
  obtain ⟨xs, rfl, hx⟩ := drawn_dds hds
  exact ⟨ls, xs, rfl, l0, l1, hl, by simp at hd; omega, hx⟩
end
end KI


set_option Elab.async false
set_option linter.all false
set_option maxRecDepth 100000
set_option autoImplicit false
set_option maxHeartbeats 1000000
/-! Small things that laws' own texts need. -/
namespace KI
open PySem
theorem shpL_map {α : Type} (f : α → D) (k : Nat) (h : ∀ a, shp k (f a) = true) : ∀ l : List α, shpL k (l.map f) = true
  | [] => by cases k <;> rfl
  | a :: l => by rw [List.map_cons, shpL_cons, h a, shpL_map f k h l]; rfl
theorem shp_di (b : List Bool) : shp 64 (diD b) = true := by rw [diD, shp64_tup]; exact shpL_map _ _ (fun a => by simp) b
theorem shp_ow (o : Option Int) (k : Nat) : shp k (owD o) = true := by cases o <;> simp [owD]
theorem shp_places (ls : List Int) (r : Row) (n : Int) : shp 64 (.tup (placesP ls r n)) = true := by rw [shp64_tup]; exact shpL_map _ _ (fun a => shp_ow _ _) _
theorem shp_row (r : Row) : shp 64 (.tup (r.map fun c => D.int c.1)) = true := by rw [shp64_tup]; exact shpL_map _ _ (fun a => by simp) _
def gvD (n : Int) (g : Fm × Fm) : D := .tup [.int (wo g.1 n), .int (wo g.2 n)]
theorem shp_gaps (n : Int) (l : List (Fm × Fm)) : shp 64 (.lst (l.map (gvD n))) = true := by rw [shp64_lst]; exact shpL_map _ _ (fun a => by simp [gvD]) _
def tailS : Sxs → Sxs
  | .nil => .nil
  | .cons _ ss => ss
theorem ne_false {L : Lw} {call : Call} {a b : Ex} {ρ : Env} {S S1 S2 : Sto} {d : D} (h1 : ev L.cons call a ρ S = .ok d S1) (h2 : ev L.cons call b ρ S1 = .ok d S2) (hs : shp 64 d = true) : ev L.cons call (.cmp .ne a b) ρ S = .ok (.bl false) S2 := by
  rw [ev_cmp, h1]
  show (ev L.cons call b ρ S1).bind _ = _
  rw [h2]
  show lift (Option.map D.bl (cmpD _ d d)) S2 = _
  rw [ne_self hs]
  rfl
theorem eq_true' {L : Lw} {call : Call} {a b : Ex} {ρ : Env} {S S1 S2 : Sto} {d : D} (h1 : ev L.cons call a ρ S = .ok d S1) (h2 : ev L.cons call b ρ S1 = .ok d S2) (hs : shp 64 d = true) : ev L.cons call (.cmp .eq a b) ρ S = .ok (.bl true) S2 := by
  rw [ev_cmp, h1]
  show (ev L.cons call b ρ S1).bind _ = _
  rw [h2]
  show lift (Option.map D.bl (cmpD _ d d)) S2 = _
  rw [eq_self' hs]
  rfl
theorem ifs_false {cons : Nat → D} {call : Call} {fuel : Nat} {c : Ex} {a : Sxs} {ρ : Env} {S S' : Sto} (h : ev cons call c ρ S = .ok (.bl false) S') : exs cons call fuel (.ifs c a .nil) ρ S = .nx ρ S' := by rw [exs_ifs, h]; rfl
end KI


set_option Elab.async false
set_option linter.all false
set_option maxRecDepth 100000
set_option autoImplicit false
set_option maxHeartbeats 1000000
/-! Rows of lengths: how far a form keeps its sign; rows joined; rows by a teller. -/
namespace KI
open PySem
def onD' : Option Int → D := owD
/-- the last length with the same sign, from n on -/
def sameP (f : Fm) (n : Int) : Option Int := if f.1 = 0 ∨ 0 < sgn f n * f.1 then none else if sgn f n = 0 then some n else some (((if f.2 < 0 then -f.2 else f.2) - 1).fdiv (if f.1 < 0 then -f.1 else f.1))
def untilP (a : List Fm) (n : Int) : Option Int := match a.filterMap fun f => sameP f n with
  | [] => none
  | m :: r => some (minL m r)
/-- a row: from, to, told -/
structure Rw where
  lo : Int
  hi : Option Int
  d : D
def rD (r : Rw) : D := .tup [.int r.lo, owD r.hi, r.d]
def joinP : List Rw → List Rw → List Rw
  | acc, [] => acc
  | acc, r :: rs => match acc.getLast? with
    | some l => if eqD l.d r.d = true then joinP (acc.dropLast ++ [⟨l.lo, r.hi, r.d⟩]) rs else joinP (acc ++ [r]) rs
    | none => joinP (acc ++ [r]) rs
/-- the rows of a teller: at most so many -/
def rowsP (H : Int → D) (A : Int → List Fm) : Nat → Int → List Rw
  | 0, _ => []
  | k + 1, n => ⟨n, untilP (A n) n, H n⟩ :: (match untilP (A n) n with
    | none => []
    | some e => rowsP H A k (e + 1))
/-- the loop has an end within so many turns -/
def rowsEnd (A : Int → List Fm) : Nat → Int → Prop
  | 0, _ => False
  | k + 1, n => match untilP (A n) n with
    | none => True
    | some e => rowsEnd A k (e + 1)
theorem sgn_cases (f : Fm) (n : Int) : sgn f n = 1 ∨ sgn f n = -1 ∨ sgn f n = 0 := by
  unfold sgn
  split
  · exact .inl rfl
  · split
    · exact .inr (.inl rfl)
    · exact .inr (.inr rfl)
section
variable {L : Lw} [L.Std] {k : Nat} {S : Sto} {n : Int}
theorem same_ok {f : Fm} (h1 : -100 ≤ f.1) (h2 : f.1 ≤ 100) : L.run (k + 3) (.glo f_same_to) [fD f, .int n] S = .ok (owD (sameP f n)) S := by
  refine run_reg (S' := []) h_same_to rfl ⟨rfl, by decide⟩ (by simp) ?_ (by simp)
  have e1 := sign_ok (L := L) (k := k) (S := []) (a := f.1) (b := f.2) (n := n) (mo _ _ h1 h2)
  have e2 : mulOk (sgn f n) f.1 = true := mulOk_r (by omega) (by omega)
  have e1 : L.run (k + 2) (.glo f_sign_of) [.tup [.int f.1, .int f.2], .int n] [] = .ok (.int (sgn f n)) [] := e1
  unfold sameP
  by_cases c1 : f.1 = 0
  · have c6 : (f.1 == 0) = true := by simpa using c1
    rw [if_pos (.inl c1)]
    simp [d_same_to, e1, c6, owD]
  · have c6 : (f.1 == 0) = false := by simpa using c1
    by_cases c2 : 0 < sgn f n * f.1
    · rw [if_pos (.inr c2)]
      simp [d_same_to, e1, c6, c2, e2, owD]
    · have c8 : ¬ (f.1 = 0 ∨ 0 < sgn f n * f.1) := fun z => z.elim c1 c2
      rw [if_neg c8]
      by_cases c3 : sgn f n = 0
      · have c7 : (sgn f n == 0) = true := by rw [beq_iff_eq]; exact c3
        rw [if_pos c3]
        simp [d_same_to, e1, c6, c2, e2, c7, owD]
      · have c5 : (if f.1 < 0 then -f.1 else f.1) ≠ 0 ∧ (if f.1 < 0 then -f.1 else f.1).natAbs < 1073741824 := by
          split <;> exact ⟨by omega, by omega⟩
        have c7 : (sgn f n == 0) = false := by rw [beq_eq_false_iff_ne]; exact c3
        have c9 : binD .fdiv (.int ((if f.2 < 0 then -f.2 else f.2) - 1)) (.int (if f.1 < 0 then -f.1 else f.1)) = some (.int (((if f.2 < 0 then -f.2 else f.2) - 1).fdiv (if f.1 < 0 then -f.1 else f.1))) := by rw [b_fdiv, if_pos c5]
        rw [if_neg c3]
        simp [-b_fdiv, d_same_to, e1, c6, c2, e2, c7, owD, c9]
theorem until_ok {a : List Fm} (h : ∀ f ∈ a, -100 ≤ f.1 ∧ f.1 ≤ 100) (hl : a.length < 1000000) : L.run (k + 4) (.glo f_until) [akD a, .int n] S = .ok (owD (untilP a n)) S := by
  refine run_reg (S' := []) h_until rfl ⟨rfl, by decide⟩ (by simp [akD]) ?_ (by simp)
  have e1 : ev L.cons (L.run (k + 3)) l_until_0 [some (akD a), some (.int n), none, none, none] [] = .ok (.lst (a.map fun f => owD (sameP f n))) [] := by
    refine lc_allA fD _ a (by simp [akD]) (fun f hf => ?_) (by simp; omega)
    have := same_ok (L := L) (k := k) (S := []) (n := n) (h f hf).1 (h f hf).2
    simp at this
    simp [this]
  have e2 : ev L.cons (L.run (k + 3)) l_until_1 [some (akD a), some (.int n), some (.lst (a.map fun f => owD (sameP f n))), none, none] [] = .ok (.lst ((a.filterMap fun f => sameP f n).map .int)) [] := by
    have : (a.filterMap fun f => sameP f n).map D.int = a.filterMap fun f => (sameP f n).map D.int := by rw [List.map_filterMap]
    rw [this]
    refine lc_mapA (fun f => owD (sameP f n)) _ a (by simp) (fun f hf => ?_) (by simp; omega)
    cases sameP f n <;> simp [owD, isNon]
  have s1 : exs L.cons (L.run (k + 3)) L.fuel (.set 2 l_until_0) [some (akD a), some (.int n), none, none, none] [] = .nx [some (akD a), some (.int n), some (.lst (a.map fun f => owD (sameP f n))), none, none] [] := by simp [e1]
  have s2 : exs L.cons (L.run (k + 3)) L.fuel (.set 2 l_until_1) [some (akD a), some (.int n), some (.lst (a.map fun f => owD (sameP f n))), none, none] [] = .nx [some (akD a), some (.int n), some (.lst ((a.filterMap fun f => sameP f n).map .int)), none, none] [] := by simp [e2]
  refine (exss_nx s1).trans ((exss_nx s2).trans (exss_rt ?_))
  unfold untilP
  cases a.filterMap fun f => sameP f n with
  | nil => simp [owD]
  | cons m r => simp [owD, biD, intsD, intsD_map]
end
end KI


set_option Elab.async false
set_option linter.all false
set_option maxRecDepth 100000
set_option autoImplicit false
set_option maxHeartbeats 1000000
/-! Rows joined; rows by a teller. -/
namespace KI
open PySem
theorem atI_snoc (xs : List D) (x : D) : L2.atI (xs ++ [x]) (-1) = some x := by
  unfold L2.atI L2.ixN
  simp
  have e : (-1 + ((xs.length : Int) + 1)).toNat = xs.length := by omega
  rw [if_pos (by omega)]
  show (xs ++ [x])[(-1 + ((xs.length : Int) + 1)).toNat]? = _
  rw [e]
  simp
theorem cut_init {α : Type} (xs : List α) (x : α) : cut (xs ++ [x]) none (some (-1)) = xs := by
  unfold cut
  rw [HT.sIx_none]
  have e : HT.sIx (xs ++ [x]).length (xs ++ [x]).length (some (-1)) = xs.length := by
    show (if (-1 : Int) < 0 then ((-1 : Int) + ((xs ++ [x]).length : Int)).toNat else min (-1 : Int).toNat (xs ++ [x]).length) = _
    rw [if_pos (by omega), List.length_append]
    simp
    omega
  rw [e]
  simp
theorem shp_rD {r : Rw} (h : shp 62 r.d = true) : shp 63 (rD r) = true := by
  simp [rD, shp_ow, h]
theorem shpL_rs : ∀ {rs : List Rw}, (∀ r ∈ rs, shp 62 r.d = true) → shpL 63 (rs.map rD) = true
  | [], _ => rfl
  | r :: rs, h => by
    rw [List.map_cons, shpL_cons, shp_rD (h r List.mem_cons_self), shpL_rs fun r hr => h r (List.mem_cons_of_mem _ hr)]
    rfl
theorem joinP_shp : ∀ (rs acc : List Rw), (∀ r ∈ acc, shp 62 r.d = true) → (∀ r ∈ rs, shp 62 r.d = true) → ∀ r ∈ joinP acc rs, shp 62 r.d = true
  | [], acc, h, _ => h
  | r :: rs, acc, h, h2 => by
    have hr := h2 r List.mem_cons_self
    have hrs : ∀ r ∈ rs, shp 62 r.d = true := fun r hr => h2 r (List.mem_cons_of_mem _ hr)
    have k1 : ∀ x ∈ acc ++ [r], shp 62 x.d = true := fun x hx => by
      rcases List.mem_append.mp hx with hx | hx
      · exact h x hx
      · simp at hx; rw [hx]; exact hr
    unfold joinP
    split
    · split
      · refine joinP_shp rs _ (fun x hx => ?_) hrs
        rcases List.mem_append.mp hx with hx | hx
        · exact h x ((List.dropLast_sublist acc).subset hx)
        · simp at hx; rw [hx]; exact hr
      · exact joinP_shp rs _ k1 hrs
    · exact joinP_shp rs _ k1 hrs
section
variable {L : Lw} [L.Std] {k : Nat} {S : Sto} {n : Int}
theorem join_loop {x0 : Option D} : ∀ (rs acc : List Rw) (x y z : Option D), (∀ r ∈ acc, shp 62 r.d = true) → (∀ r ∈ rs, shp 62 r.d = true) → acc.length + rs.length < 10000 →
    ∃ x' y' z', evFor (.tp (.cons (.nm 2) (.cons (.nm 3) (.cons (.nm 4) .nil)))) (exss L.cons (L.run k) L.fuel b_joined_0) (rs.map rD) [x0, some (.lst (acc.map rD)), x, y, z] S = .nx [x0, some (.lst ((joinP acc rs).map rD)), x', y', z'] S
  | [], acc, x, y, z, _, _, _ => ⟨x, y, z, rfl⟩
  | r :: rs, acc, x, y, z, h, h2, hl => by
    rw [List.length_cons] at hl
    have hr := h2 r List.mem_cons_self
    have hrs : ∀ r ∈ rs, shp 62 r.d = true := fun r hr => h2 r (List.mem_cons_of_mem _ hr)
    have hr64 : shp 64 r.d = true := shp_le (by omega) hr
    have hacc := shpL_rs h
    have hl1 : acc.length + 1 ≤ 16777216 := by omega
    have hl2 : acc.length ≤ 16777215 := by omega
    rw [List.map_cons]
    unfold evFor
    have eb : bindT (.tp (.cons (.nm 2) (.cons (.nm 3) (.cons (.nm 4) .nil)))) (rD r) [x0, some (.lst (acc.map rD)), x, y, z] = some [x0, some (.lst (acc.map rD)), some (.int r.lo), some (owD r.hi), some r.d] := by simp [rD]
    rw [eb]
    show ∃ x' y' z', (exss L.cons (L.run k) L.fuel b_joined_0 [x0, some (.lst (acc.map rD)), some (.int r.lo), some (owD r.hi), some r.d] S).then (fun ρ S => evFor _ (exss L.cons (L.run k) L.fuel b_joined_0) (rs.map rD) ρ S) = _
    have plain : ∀ acc', joinP acc (r :: rs) = joinP acc' rs → exss L.cons (L.run k) L.fuel b_joined_0 [x0, some (.lst (acc.map rD)), some (.int r.lo), some (owD r.hi), some r.d] S = .nx [x0, some (.lst (acc'.map rD)), some (.int r.lo), some (owD r.hi), some r.d] S → (∀ r ∈ acc', shp 62 r.d = true) → acc'.length ≤ acc.length + 1 → ∃ x' y' z', (exss L.cons (L.run k) L.fuel b_joined_0 [x0, some (.lst (acc.map rD)), some (.int r.lo), some (owD r.hi), some r.d] S).then (fun ρ S => evFor (.tp (.cons (.nm 2) (.cons (.nm 3) (.cons (.nm 4) .nil)))) (exss L.cons (L.run k) L.fuel b_joined_0) (rs.map rD) ρ S) = .nx [x0, some (.lst ((joinP acc (r :: rs)).map rD)), x', y', z'] S := fun acc' e1 e2 e3 e4 => by
      obtain ⟨x', y', z', e⟩ := join_loop (x0 := x0) rs acc' (some (.int r.lo)) (some (owD r.hi)) (some r.d) e3 hrs (by omega)
      refine ⟨x', y', z', ?_⟩
      rw [e2, e1]
      exact e
    have k1 : ∀ x ∈ acc ++ [r], shp 62 x.d = true := fun x hx => by
      rcases List.mem_append.mp hx with hx | hx
      · exact h x hx
      · simp at hx; rw [hx]; exact hr
    rcases List.eq_nil_or_concat acc with q | ⟨ini, l, q⟩
    · subst q
      refine plain [r] rfl ?_ (by simpa using hr) (by simp)
      simp [b_joined_0, rD]
    · rw [List.concat_eq_append] at q
      have hl' := h l (by rw [q]; simp)
      have hl64 : shp 64 l.d = true := shp_le (by omega) hl'
      have hg : acc.getLast? = some l := by rw [q]; simp
      have hm : acc.map rD = ini.map rD ++ [rD l] := by rw [q]; simp
      have hne : eqD (.lst (acc.map rD)) (.lst []) = false := by
        rw [hm]
        cases ini <;> rfl
      have il : idxD S (.lst (acc.map rD)) (.int (-1)) = some (rD l) := by rw [i_lst, hm]; exact atI_snoc _ _
      have i2 : idxD S (rD l) (.int 2) = some l.d := by simp [rD]
      have i0 : idxD S (rD l) (.int 0) = some (.int l.lo) := by simp [rD]
      have hc : cutD (.lst (acc.map rD)) none (some (-1)) = some (.lst (ini.map rD)) := by rw [cut_l, hm, cut_init]
      have hil : ini.length ≤ 16777215 := by rw [q] at hl2; simp at hl2; omega
      have hs64 : shp 64 (.lst (acc.map rD)) = true := by rw [shp64_lst]; exact hacc
      have c1 : ev L.cons (L.run k) (.cmp .ne (.var 1) (.lst .nil)) [x0, some (.lst (acc.map rD)), some (.int r.lo), some (owD r.hi), some r.d] S = .ok (.bl true) S := by
        simp only [ev_cmp, ev_var, ev_lst, evs]
        simp [c_ne, hs64, hne, -shp64_lst, show shp 64 (.lst []) = true from rfl]
      have c2 : ev L.cons (L.run k) (.cmp .eq (.idx (.idx (.var 1) (.neg (.int 1))) (.int 2)) (.var 4)) [x0, some (.lst (acc.map rD)), some (.int r.lo), some (owD r.hi), some r.d] S = .ok (.bl (eqD l.d r.d)) S := by
        simp [-i_lst, il, i2, hl64, hr64]
      cases qe : eqD l.d r.d with
      | true =>
        rw [qe] at c2
        refine plain (acc.dropLast ++ [(⟨l.lo, r.hi, r.d⟩ : Rw)]) (by simp [joinP, hg, qe]) ?_ (fun x hx => ?_) (by simp)
        · have hd : acc.dropLast = ini := by rw [q]; simp
          rw [hd]
          have s1 : exs L.cons (L.run k) L.fuel (.set 1 (.bin .add (.sli (.var 1) .none (.some (.neg (.int 1)))) (.lst (.cons (.tup (.cons (.idx (.idx (.var 1) (.neg (.int 1))) (.int 0)) (.cons (.var 3) (.cons (.var 4) .nil)))) .nil)))) [x0, some (.lst (acc.map rD)), some (.int r.lo), some (owD r.hi), some r.d] S = .nx [x0, some (.lst ((ini ++ [(⟨l.lo, r.hi, r.d⟩ : Rw)]).map rD)), some (.int r.lo), some (owD r.hi), some r.d] S := by
            simp [-i_lst, -cut_l, hc, il, i0, hil]
            rfl
          simp only [b_joined_0]
          rw [exss_cons, exs_ifs, ev_and, c1]
          show (onD (ev L.cons (L.run k) (.cmp .eq (.idx (.idx (.var 1) (.neg (.int 1))) (.int 2)) (.var 4)) [x0, some (.lst (acc.map rD)), some (.int r.lo), some (owD r.hi), some r.d] S) _ _).then _ = _
          rw [c2]
          show (exss L.cons (L.run k) L.fuel (.cons _ .nil) _ S).then _ = _
          rw [exss_nx s1]
          rfl
        · rcases List.mem_append.mp hx with hx | hx
          · exact h x ((List.dropLast_sublist acc).subset hx)
          · simp at hx; rw [hx]; exact hr
      | false =>
        rw [qe] at c2
        refine plain (acc ++ [r]) (by simp [joinP, hg, qe]) ?_ k1 (by simp)
        have s1 : exs L.cons (L.run k) L.fuel (.set 1 (.bin .add (.var 1) (.lst (.cons (.tup (.cons (.var 2) (.cons (.var 3) (.cons (.var 4) .nil)))) .nil)))) [x0, some (.lst (acc.map rD)), some (.int r.lo), some (owD r.hi), some r.d] S = .nx [x0, some (.lst ((acc ++ [r]).map rD)), some (.int r.lo), some (owD r.hi), some r.d] S := by
          simp [hl2]
          rfl
        simp only [b_joined_0]
        rw [exss_cons, exs_ifs, ev_and, c1]
        show (onD (ev L.cons (L.run k) (.cmp .eq (.idx (.idx (.var 1) (.neg (.int 1))) (.int 2)) (.var 4)) [x0, some (.lst (acc.map rD)), some (.int r.lo), some (owD r.hi), some r.d] S) _ _).then _ = _
        rw [c2]
        show (exss L.cons (L.run k) L.fuel (.cons _ .nil) _ S).then _ = _
        rw [exss_nx s1]
        rfl
theorem joined_ok {rs : List Rw} (h : ∀ r ∈ rs, shp 62 r.d = true) (hp : ∀ r ∈ rs, r.d.pure = true) (hl : rs.length < 9000) : L.run (k + 1) (.glo f_joined) [.lst (rs.map rD)] S = .ok (.lst ((joinP [] rs).map rD)) S := by
  have pr : ∀ {rs : List Rw}, (∀ r ∈ rs, r.d.pure = true) → pureL (rs.map rD) = true := by
    intro rs
    induction rs with
    | nil => intro _; rfl
    | cons r rs ih =>
      intro h
      rw [List.map_cons, pu_cons, ih fun r hr => h r (List.mem_cons_of_mem _ hr)]
      have := h r List.mem_cons_self
      simp [rD, this]
  have pj : ∀ (rs acc : List Rw), (∀ r ∈ acc, r.d.pure = true) → (∀ r ∈ rs, r.d.pure = true) → ∀ r ∈ joinP acc rs, r.d.pure = true := by
    intro rs
    induction rs with
    | nil => intro acc h _; exact h
    | cons r rs ih =>
      intro acc h h2
      have hr := h2 r List.mem_cons_self
      have hrs : ∀ r ∈ rs, r.d.pure = true := fun r hr => h2 r (List.mem_cons_of_mem _ hr)
      have k1 : ∀ x ∈ acc ++ [r], x.d.pure = true := fun x hx => by
        rcases List.mem_append.mp hx with hx | hx
        · exact h x hx
        · simp at hx; rw [hx]; exact hr
      unfold joinP
      split
      · split
        · refine ih _ (fun x hx => ?_) hrs
          rcases List.mem_append.mp hx with hx | hx
          · exact h x ((List.dropLast_sublist acc).subset hx)
          · simp at hx; rw [hx]; exact hr
        · exact ih _ k1 hrs
      · exact ih _ k1 hrs
  obtain ⟨x, y, z, e⟩ := join_loop (L := L) (k := k) (S := []) (x0 := some (.lst (rs.map rD))) rs [] none none none (fun _ h => nomatch h) h (by simp; omega)
  refine run_reg (S' := []) h_joined rfl ⟨rfl, by decide⟩ (by simp [pr hp]) ?_ (by rw [pu_lst]; exact pr (pj rs [] (fun _ h => nomatch h) hp))
  have s1 : exs L.cons (L.run k) L.fuel (.set 1 (.lst .nil)) [some (.lst (rs.map rD)), none, none, none, none] [] = .nx [some (.lst (rs.map rD)), some (.lst []), none, none, none] [] := by simp
  have s2 : exs L.cons (L.run k) L.fuel (.for_ (.tp (.cons (.nm 2) (.cons (.nm 3) (.cons (.nm 4) .nil)))) (.val (.var 0)) b_joined_0) [some (.lst (rs.map rD)), some (.lst []), none, none, none] [] = .nx [some (.lst (rs.map rD)), some (.lst ((joinP [] rs).map rD)), x, y, z] [] := by
    have e6 : evi L.cons (L.run k) (.val (.var 0)) [some (.lst (rs.map rD)), some (.lst []), none, none, none] [] = .ok (rs.map rD) [] := by simp
    rw [exs_for_, e6]
    exact e
  exact (exss_nx s1).trans ((exss_nx s2).trans (exss_rt (by simp)))
/-- what a teller tells, asks -/
structure Tells (L : Lw) (k : Nat) (f : D) (H : Int → D) (A : Int → List Fm) (B : Int) : Prop where
  fn : isFn f = true
  pure : f.pure = true
  run : ∀ n, 10 ≤ n → n ≤ B → app (L.run k) f [.int n] [] = .ok (.tup [H n, akD (A n)]) []
  ask : ∀ n, 10 ≤ n → n ≤ B → (∀ a ∈ A n, -100 ≤ a.1 ∧ a.1 ≤ 100) ∧ (A n).length < 1000000
  hp : ∀ n, (H n).pure = true
  hs : ∀ n, shp 62 (H n) = true
  /-- a row ends where it begins or later, and not beyond B -/
  go : ∀ n, 10 ≤ n → n ≤ B → ∀ e, untilP (A n) n = some e → n ≤ e ∧ e < B
theorem rows_loop {f : D} {H : Int → D} {A : Int → List Fm} {B : Int} (t : Tells L (k + 4) f H A B) : ∀ (j fuel : Nat) (n : Int) (acc : List Rw) (x y z : Option D), 10 ≤ n → n ≤ B → B - n < j → j + 1 ≤ fuel → acc.length + j < 10000 →
    ∃ x' y' z', evWhl (ev L.cons (L.run (k + 4)) w_rows_by_0) (exss L.cons (L.run (k + 4)) L.fuel b_rows_by_0) fuel [some f, some (.lst (acc.map rD)), some (.int n), x, y, z] [] = .nx [some f, some (.lst ((acc ++ rowsP H A j n).map rD)), some .non, x', y', z'] []
  | 0, fuel, n, acc, x, y, z, h1, h2, h3, _, _ => by omega
  | j + 1, fuel, n, acc, x, y, z, h1, h2, h3, h4, h5 => by
    match fuel, h4 with
    | fuel + 1, h4 =>
    have er := t.run n h1 h2
    have eu := until_ok (L := L) (k := k) (S := []) (n := n) (t.ask n h1 h2).1 (t.ask n h1 h2).2
    have hl : acc.length ≤ 16777215 := by omega
    have c1 : ev L.cons (L.run (k + 4)) w_rows_by_0 [some f, some (.lst (acc.map rD)), some (.int n), x, y, z] [] = .ok (.bl true) [] := by simp [w_rows_by_0]
    have s1 : exs L.cons (L.run (k + 4)) L.fuel (.unp (.tp (.cons (.nm 4) (.cons (.nm 5) .nil))) (.callv 0 (.cons (.var 2) .nil))) [some f, some (.lst (acc.map rD)), some (.int n), x, y, z] [] = .nx [some f, some (.lst (acc.map rD)), some (.int n), x, some (H n), some (akD (A n))] [] := by
      simp [t.fn, -app]
      rw [er]
      simp
    have s2 : exs L.cons (L.run (k + 4)) L.fuel (.set 3 (.call f_until (.cons (.var 5) (.cons (.var 2) .nil)))) [some f, some (.lst (acc.map rD)), some (.int n), x, some (H n), some (akD (A n))] [] = .nx [some f, some (.lst (acc.map rD)), some (.int n), some (owD (untilP (A n) n)), some (H n), some (akD (A n))] [] := by simp [eu]
    have s3 : exs L.cons (L.run (k + 4)) L.fuel (.set 1 (.bin .add (.var 1) (.lst (.cons (.tup (.cons (.var 2) (.cons (.var 3) (.cons (.var 4) .nil)))) .nil)))) [some f, some (.lst (acc.map rD)), some (.int n), some (owD (untilP (A n) n)), some (H n), some (akD (A n))] [] = .nx [some f, some (.lst ((acc ++ [(⟨n, untilP (A n) n, H n⟩ : Rw)]).map rD)), some (.int n), some (owD (untilP (A n) n)), some (H n), some (akD (A n))] [] := by
      simp [hl]
      rfl
    unfold evWhl rowsP
    rw [c1]
    cases q : untilP (A n) n with
    | none =>
      rw [q] at s2 s3
      have s4 : exs L.cons (L.run (k + 4)) L.fuel (.set 2 (.ite (.cmp .isN (.var 3) .non) .non (.bin .add (.var 3) (.int 1)))) [some f, some (.lst ((acc ++ [(⟨n, none, H n⟩ : Rw)]).map rD)), some (.int n), some (owD none), some (H n), some (akD (A n))] [] = .nx [some f, some (.lst ((acc ++ [(⟨n, none, H n⟩ : Rw)]).map rD)), some .non, some (owD none), some (H n), some (akD (A n))] [] := by simp [owD]
      have sb : exss L.cons (L.run (k + 4)) L.fuel b_rows_by_0 [some f, some (.lst (acc.map rD)), some (.int n), x, y, z] [] = _ := (exss_nx s1).trans ((exss_nx s2).trans ((exss_nx s3).trans ((exss_nx s4).trans (exss_nil ..))))
      match fuel, h4 with
      | fuel + 1, h4 =>
      refine ⟨some (owD none), some (H n), some (akD (A n)), ?_⟩
      show (exss L.cons (L.run (k + 4)) L.fuel b_rows_by_0 [some f, some (.lst (acc.map rD)), some (.int n), x, y, z] []).then _ = _
      rw [sb]
      show evWhl _ _ (fuel + 1) _ [] = _
      unfold evWhl
      have c2 : ev L.cons (L.run (k + 4)) w_rows_by_0 [some f, some (.lst ((acc ++ [(⟨n, none, H n⟩ : Rw)]).map rD)), some .non, some (owD none), some (H n), some (akD (A n))] [] = .ok (.bl false) [] := by simp [w_rows_by_0]
      rw [c2]
    | some e =>
      rw [q] at s2 s3
      obtain ⟨g1, g2⟩ := t.go n h1 h2 e q
      have s4 : exs L.cons (L.run (k + 4)) L.fuel (.set 2 (.ite (.cmp .isN (.var 3) .non) .non (.bin .add (.var 3) (.int 1)))) [some f, some (.lst ((acc ++ [(⟨n, some e, H n⟩ : Rw)]).map rD)), some (.int n), some (owD (some e)), some (H n), some (akD (A n))] [] = .nx [some f, some (.lst ((acc ++ [(⟨n, some e, H n⟩ : Rw)]).map rD)), some (.int (e + 1)), some (owD (some e)), some (H n), some (akD (A n))] [] := by simp [owD]
      have sb : exss L.cons (L.run (k + 4)) L.fuel b_rows_by_0 [some f, some (.lst (acc.map rD)), some (.int n), x, y, z] [] = _ := (exss_nx s1).trans ((exss_nx s2).trans ((exss_nx s3).trans ((exss_nx s4).trans (exss_nil ..))))
      obtain ⟨x', y', z', e'⟩ := rows_loop t j fuel (e + 1) (acc ++ [(⟨n, some e, H n⟩ : Rw)]) (some (owD (some e))) (some (H n)) (some (akD (A n))) (by omega) (by omega) (by omega) (by omega) (by simp; omega)
      refine ⟨x', y', z', ?_⟩
      show (exss L.cons (L.run (k + 4)) L.fuel b_rows_by_0 [some f, some (.lst (acc.map rD)), some (.int n), x, y, z] []).then _ = _
      rw [sb]
      refine Eq.trans e' ?_
      simp
end
end KI


set_option Elab.async false
set_option linter.all false
set_option maxRecDepth 100000
set_option autoImplicit false
set_option maxHeartbeats 1000000
/-! Rows by what is told of the last state. -/
namespace KI
open PySem
theorem joinP_all (P : D → Prop) : ∀ (rs acc : List Rw), (∀ r ∈ acc, P r.d) → (∀ r ∈ rs, P r.d) → ∀ r ∈ joinP acc rs, P r.d
  | [], acc, h, _ => h
  | r :: rs, acc, h, h2 => by
    have hr := h2 r List.mem_cons_self
    have hrs : ∀ r ∈ rs, P r.d := fun r hr => h2 r (List.mem_cons_of_mem _ hr)
    have k1 : ∀ x ∈ acc ++ [r], P x.d := fun x hx => by
      rcases List.mem_append.mp hx with hx | hx
      · exact h x hx
      · simp at hx; rw [hx]; exact hr
    unfold joinP
    split
    · split
      · refine joinP_all P rs _ (fun x hx => ?_) hrs
        rcases List.mem_append.mp hx with hx | hx
        · exact h x ((List.dropLast_sublist acc).subset hx)
        · simp at hx; rw [hx]; exact hr
      · exact joinP_all P rs _ k1 hrs
    · exact joinP_all P rs _ k1 hrs
theorem rowsP_all (H : Int → D) (A : Int → List Fm) (P : D → Prop) (h : ∀ n, P (H n)) : ∀ (j : Nat) (n : Int), ∀ r ∈ rowsP H A j n, P r.d
  | 0, n, r, hr => nomatch hr
  | j + 1, n, r, hr => by
    unfold rowsP at hr
    rcases List.mem_cons.mp hr with q | hr
    · rw [q]; exact h n
    · split at hr
      · exact nomatch hr
      · exact rowsP_all H A P h j _ r hr
theorem rowsP_len (H : Int → D) (A : Int → List Fm) : ∀ (j : Nat) (n : Int), (rowsP H A j n).length ≤ j
  | 0, n => by simp [rowsP]
  | j + 1, n => by
    unfold rowsP
    rw [List.length_cons]
    split
    · simp
    · rename_i e _
      have := rowsP_len H A j (e + 1)
      omega
theorem pure_rs : ∀ {rs : List Rw}, (∀ r ∈ rs, r.d.pure = true) → pureL (rs.map rD) = true
  | [], _ => rfl
  | r :: rs, h => by
    rw [List.map_cons, pu_cons, pure_rs fun r hr => h r (List.mem_cons_of_mem _ hr)]
    have := h r List.mem_cons_self
    simp [rD, this]
/-- the rows of a teller, from ten on -/
def rowsJ (H : Int → D) (A : Int → List Fm) : List Rw := joinP [] (rowsP H A 900 10)
theorem rowsJ_all {H : Int → D} {A : Int → List Fm} (P : D → Prop) (h : ∀ n, P (H n)) : ∀ r ∈ rowsJ H A, P r.d :=
  joinP_all P _ [] (fun _ h => nomatch h) (rowsP_all H A P h 900 10)
theorem cf_map {α : Type} (f : α → D) (h : ∀ a, (f a).cf = true) : ∀ l : List α, cfL (l.map f) = true
  | [] => rfl
  | a :: l => by
    show ((f a).cf && cfL (l.map f)) = true
    rw [h a, cf_map f h l]
    rfl
theorem cf_st (ls : List Int) (r : Row) (d : List Bool) (a : List Fm) : stoCf [stO ls r d a] = true := by
  have h1 : (lsD ls).cf = true := cf_map D.int (fun _ => rfl) ls
  have h2 : (rwD r).cf = true := cf_map cD (fun _ => rfl) r
  have h3 : (diD d).cf = true := cf_map D.bl (fun _ => rfl) d
  have h4 : (akD a).cf = true := cf_map fD (fun _ => rfl) a
  show (((lsD ls).cf && ((rwD r).cf && ((diD d).cf && ((akD a).cf && true)))) && true) = true
  rw [h1, h2, h3, h4]
  rfl
theorem cf_rs : ∀ {rs : List Rw}, (∀ r ∈ rs, r.d.cf = true) → cfL (rs.map rD) = true
  | [], _ => rfl
  | r :: rs, h => by
    show ((rD r).cf && cfL (rs.map rD)) = true
    have h1 : (rD r).cf = true := by
      show (true && ((owD r.hi).cf && (r.d.cf && true))) = true
      rw [h r List.mem_cons_self]
      cases r.hi <;> rfl
    rw [h1, cf_rs fun r hr => h r (List.mem_cons_of_mem _ hr)]
    rfl
section
variable {L : Lw} [L.Std] {k : Nat} {S : Sto} {n : Int} {ls : List Int} {ds : List Dd}
theorem rows_by_ok {f : D} {H : Int → D} {A : Int → List Fm} (t : Tells L (k + 4) f H A 900) (hfu : 1000 ≤ L.fuel) : L.run (k + 5) (.glo f_rows_by) [f] S = .ok (.lst ((rowsJ H A).map rD)) S := by
  have hrl := rowsP_len H A 900 10
  obtain ⟨x, y, z, e⟩ := rows_loop t 900 L.fuel 10 [] none none none (by omega) (by omega) (by omega) (by omega) (by simp)
  have ej := joined_ok (L := L) (k := k + 3) (S := []) (rs := rowsP H A 900 10) (rowsP_all H A (fun d => shp 62 d = true) t.hs 900 10) (rowsP_all H A (fun d => d.pure = true) t.hp 900 10) (by omega)
  refine run_reg (S' := []) h_rows_by rfl ⟨rfl, by decide⟩ (by simp [t.pure]) ?_ (by rw [pu_lst]; exact pure_rs (rowsJ_all (fun d => d.pure = true) t.hp))
  have s1 : exs L.cons (L.run (k + 4)) L.fuel (.par 1 2 (.cons (.lst .nil) (.cons (.con c_LEAST) .nil))) [some f, none, none, none, none, none] [] = .nx [some f, some (.lst []), some (.int 10), none, none, none] [] := by simp [k_LEAST]
  have s2 : exs L.cons (L.run (k + 4)) L.fuel (.whl w_rows_by_0 b_rows_by_0) [some f, some (.lst []), some (.int 10), none, none, none] [] = .nx [some f, some (.lst ((rowsP H A 900 10).map rD)), some .non, x, y, z] [] := by
    rw [exs_whl]
    exact e
  exact (exss_nx s1).trans ((exss_nx s2).trans (exss_rt (by simp [ej]; rfl)))
/-- what a function tells of a state -/
structure Tst (L : Lw) (k : Nat) (ls : List Int) (T : D) (h : Row → List Bool → Int → D) (x : Row → Int → List Fm) : Prop where
  fn : isFn T = true
  pure : T.pure = true
  run : ∀ r dd ak n, Rk ls r → r.length ≤ 8 → ak.length < 100000 → app (L.run k) T [.cell 0, .int n] [stO ls r dd ak] = .ok (h r dd n) [stO ls r dd (ak ++ x r n)]
  hp : ∀ r dd n, (h r dd n).pure = true
  hs : ∀ r dd n, shp 62 (h r dd n) = true
  hc : ∀ r dd n, (h r dd n).cf = true
def lastH (ls : List Int) (ds : List Dd) (h : Row → List Bool → Int → D) (n : Int) : D := h (endP ls ds n).1 (endP ls ds n).2.1 n
def lastA (ls : List Int) (ds : List Dd) (x : Row → Int → List Fm) (n : Int) : List Fm := (endP ls ds n).2.2 ++ x (endP ls ds n).1 n
theorem seen_ok {T : D} {h : Row → List Bool → Int → D} {x : Row → Int → List Fm} (p : Pk ls ds) (t : Tst L (k + 8) ls T h x) : L.run (k + 9) (.glo f_seen_last) [plD ls ds, T, .int n] S = .ok (.tup [lastH ls ds h n, akD (lastA ls ds x n)]) S := by
  obtain ⟨h1, h2, h3, h4⟩ := endP_ok (n := n) p
  have e1 := last0_ok (L := L) (k := k) (n := n) p
  have e2 := t.run (endP ls ds n).1 (endP ls ds n).2.1 (endP ls ds n).2.2 n h1 h2 (by omega)
  refine run_reg (S' := [stO ls (endP ls ds n).1 (endP ls ds n).2.1 (lastA ls ds x n)]) h_seen_last rfl ⟨rfl, by decide⟩ (by simp [gd_pure _ _ _ p.gd, t.pure]) ?_ (by simp [lastH, t.hp, akD])
  have s1 : exs L.cons (L.run (k + 8)) L.fuel (.set 3 (.call f_last_of (.cons (.var 0) (.cons (.var 2) .nil)))) [some (plD ls ds), some T, some (.int n), none, none] [] = .nx [some (plD ls ds), some T, some (.int n), some (.cell 0), none] [stO ls (endP ls ds n).1 (endP ls ds n).2.1 (endP ls ds n).2.2] := by simp [e1]
  have s2 : exs L.cons (L.run (k + 8)) L.fuel (.set 4 (.callv 1 (.cons (.var 3) (.cons (.var 2) .nil)))) [some (plD ls ds), some T, some (.int n), some (.cell 0), none] [stO ls (endP ls ds n).1 (endP ls ds n).2.1 (endP ls ds n).2.2] = .nx [some (plD ls ds), some T, some (.int n), some (.cell 0), some (lastH ls ds h n)] [stO ls (endP ls ds n).1 (endP ls ds n).2.1 (lastA ls ds x n)] := by
    simp [t.fn, -app]
    rw [e2]
    rfl
  refine (exss_nx s1).trans ((exss_nx s2).trans (exss_rt ?_))
  simp [stO]
/-- the teller of a plan -/
theorem last_tells {T : D} {h : Row → List Bool → Int → D} {x : Row → Int → List Fm} {B : Int} (p : Pk ls ds) (t : Tst L (k + 8) ls T h x)
    (ask : ∀ n, (∀ a ∈ lastA ls ds x n, -100 ≤ a.1 ∧ a.1 ≤ 100) ∧ (lastA ls ds x n).length < 1000000) (go : ∀ n, 10 ≤ n → n ≤ B → ∀ e, untilP (lastA ls ds x n) n = some e → n ≤ e ∧ e < B) :
    Tells L (k + 10) (.clo 1 m_by_last_0 [plD ls ds, T]) (lastH ls ds h) (lastA ls ds x) B := by
  refine ⟨rfl, ?_, fun n h1 h2 => ?_, fun n _ _ => ask n, fun n => t.hp _ _ _, fun n => t.hs _ _ _, go⟩
  · show pureL [plD ls ds, T] = true
    simp [gd_pure _ _ _ p.gd, t.pure]
  · have e := seen_ok (L := L) (k := k) (S := []) (n := n) p t
    show (if ([D.int n] : List D).length = 1 ∧ cfL [D.int n] = true ∧ stoCf [] = true then L.run (k + 10) (.lam m_by_last_0) [.int n, plD ls ds, T] [] else .no) = _
    rw [if_pos ⟨rfl, rfl, rfl⟩]
    refine run_lam ?_
    simp [m_by_last_0, e]
theorem by_last_ok {T : D} {h : Row → List Bool → Int → D} {x : Row → Int → List Fm} (p : Pk ls ds) (t : Tst L (k + 8) ls T h x) (hfu : 1000 ≤ L.fuel)
    (ask : ∀ n, (∀ a ∈ lastA ls ds x n, -100 ≤ a.1 ∧ a.1 ≤ 100) ∧ (lastA ls ds x n).length < 1000000) (go : ∀ n, 10 ≤ n → n ≤ 900 → ∀ e, untilP (lastA ls ds x n) n = some e → n ≤ e ∧ e < 900) :
    L.run (k + 12) (.glo f_by_last) [plD ls ds, T] S = .ok (.lst ((rowsJ (lastH ls ds h) (lastA ls ds x)).map rD)) S := by
  have e := rows_by_ok (L := L) (k := k + 6) (S := []) (last_tells p t ask go) hfu
  refine run_reg (S' := []) h_by_last rfl ⟨rfl, by decide⟩ (by simp [gd_pure _ _ _ p.gd, t.pure]) ?_ (by rw [pu_lst]; exact pure_rs (rowsJ_all (fun d => d.pure = true) fun n => t.hp _ _ _))
  have hcf : cfL ((rowsJ (lastH ls ds h) (lastA ls ds x)).map rD) = true := cf_rs (rowsJ_all (fun d => d.cf = true) fun n => t.hc _ _ _)
  have hk : kept (.ok (.lst ((rowsJ (lastH ls ds h) (lastA ls ds x)).map rD)) []) = .ok (.lst ((rowsJ (lastH ls ds h) (lastA ls ds x)).map rD)) [] := by
    show (if (cfL _ = true ∧ stoCf [] = true) then _ else Res.no) = _
    rw [if_pos ⟨hcf, rfl⟩]
  have s1 : ev L.cons (L.run (k + 11)) (.callL f_rows_by .nil 1 [0, 1] m_by_last_0) [some (plD ls ds), some T] [] = .ok (.lst ((rowsJ (lastH ls ds h) (lastA ls ds x)).map rD)) [] := by
    simp
    rw [e, hk]
  have s2 : exs L.cons (L.run (k + 11)) L.fuel (.ret (.callL f_rows_by .nil 1 [0, 1] m_by_last_0)) [some (plD ls ds), some T] [] = .rt (.lst ((rowsJ (lastH ls ds h) (lastA ls ds x)).map rD)) [] := by rw [exs_ret, s1]
  exact exss_rt s2
end
end KI


set_option Elab.async false
set_option linter.all false
set_option maxRecDepth 100000
set_option autoImplicit false
set_option maxHeartbeats 1000000
/-! The same signs, the same run; how large forms become. -/
namespace KI
open PySem
/-! ### the same signs -/
theorem scan_sub (n len : Int) (ru : Ru) (gs : List (Fm × Fm)) : ∀ (q : List (Fm × Fm)) (i : Nat) (best : Option Nat) (a : List Fm), ∀ f ∈ a, f ∈ (scan n len ru gs i q best a).2
  | [], _, _, a, f, h => h
  | g :: q, i, best, a, f, h => by
    unfold scan
    split
    · split
      · exact scan_sub n len ru gs q _ _ _ f (List.mem_append_left _ h)
      · exact scan_sub n len ru gs q _ _ _ f (List.mem_append_left _ (List.mem_append_left _ h))
    · exact scan_sub n len ru gs q _ _ _ f (List.mem_append_left _ h)
theorem betB_same {n m : Int} {ru : Ru} {g o : Fm × Fm} (h : ∀ f ∈ betA ru g o, sgn f m = sgn f n) : betB m ru g o = betB n ru g o := by
  cases ru with
  | front => rfl
  | back => rfl
  | tight =>
    have := h (le2 g.2 o.2) (by simp [betA])
    simp only [betB]
    rw [decide_eq_decide, ← sgn_lt, ← sgn_lt, this]
  | wide =>
    have := h (le2 g.2 o.2) (by simp [betA])
    simp only [betB]
    rw [decide_eq_decide, ← sgn_gt, ← sgn_gt, this]
theorem scan_same (n m len : Int) (ru : Ru) (gs : List (Fm × Fm)) : ∀ (q : List (Fm × Fm)) (i : Nat) (best : Option Nat) (a : List Fm), (∀ f ∈ (scan n len ru gs i q best a).2, sgn f m = sgn f n) → scan m len ru gs i q best a = scan n len ru gs i q best a
  | [], _, _, a, _ => rfl
  | g :: q, i, best, a, h => by
    by_cases c : 0 ≤ wo (fitF g len) n
    · cases best with
      | none =>
        have e : scan n len ru gs i (g :: q) none a = scan n len ru gs (i + 1) q (some i) (a ++ [fitF g len]) := by
          conv => lhs; unfold scan
          rw [if_pos c]
        rw [e] at h ⊢
        have hf := h (fitF g len) (scan_sub _ _ _ _ _ _ _ _ _ (by simp))
        have c2 : 0 ≤ wo (fitF g len) m := by rw [← sgn_ge, hf, sgn_ge]; exact c
        rw [← scan_same n m len ru gs q _ _ _ h]
        conv => lhs; unfold scan
        rw [if_pos c2]
      | some b =>
        have e : scan n len ru gs i (g :: q) (some b) a = scan n len ru gs (i + 1) q (if betB n ru g (gAt gs b) = true then some i else some b) (a ++ [fitF g len] ++ betA ru g (gAt gs b)) := by
          conv => lhs; unfold scan
          rw [if_pos c]
        rw [e] at h ⊢
        have hf := h (fitF g len) (scan_sub _ _ _ _ _ _ _ _ _ (by simp))
        have hb := betB_same (n := n) (m := m) (ru := ru) (g := g) (o := gAt gs b) fun f hf => h f (scan_sub _ _ _ _ _ _ _ _ _ (by simp [hf]))
        have c2 : 0 ≤ wo (fitF g len) m := by rw [← sgn_ge, hf, sgn_ge]; exact c
        rw [← scan_same n m len ru gs q _ _ _ h]
        conv => lhs; unfold scan
        rw [if_pos c2]
        simp only [hb]
    · have e : scan n len ru gs i (g :: q) best a = scan n len ru gs (i + 1) q best (a ++ [fitF g len]) := by
        conv => lhs; unfold scan
        rw [if_neg c]
      rw [e] at h ⊢
      have hf := h (fitF g len) (scan_sub _ _ _ _ _ _ _ _ _ (by simp))
      have c2 : ¬ 0 ≤ wo (fitF g len) m := by rw [← sgn_ge, hf, sgn_ge]; exact c
      rw [← scan_same n m len ru gs q _ _ _ h]
      conv => lhs; unfold scan
      rw [if_neg c2]
theorem parkP_ask (ls : List Int) (r : Row) (a : List Fm) (c : Nat) (ru : Ru) (n : Int) : (parkP ls r a c ru n).2.2 = (chosen ls r a (lenAt ls c) ru n).2 := by
  unfold parkP
  split
  · rfl
  · split <;> rfl
theorem doP_sub (ls : List Int) (r : Row) (a : List Fm) (n : Int) (d : Dd) : ∀ f ∈ a, f ∈ (doP ls r a n d).2.2 := by
  intro f hf
  cases d with
  | park c ru =>
    show f ∈ (parkP ls r a c ru n).2.2
    rw [parkP_ask]
    exact scan_sub _ _ _ _ _ _ _ _ f hf
  | leave c => simp only [doP]; cases spotP r c <;> exact hf
  | pull c =>
    simp only [doP]
    cases spotP r c with
    | none => exact hf
    | some i =>
      simp only [shiftP]
      split <;> exact List.mem_append_left _ hf
  | drop c =>
    simp only [doP]
    cases spotP r c with
    | none => exact hf
    | some i =>
      simp only [shiftP]
      split <;> exact List.mem_append_left _ hf
theorem shiftP_same {r : Row} {a : List Fm} {i : Nat} {g : Fm × Fm} {f : Fm} {n m : Int} (h : ∀ f' ∈ (shiftP r a i g f n).2.2, sgn f' m = sgn f' n) : shiftP r a i g f m = shiftP r a i g f n := by
  have hg : sgn g.2 m = sgn g.2 n := h g.2 (by unfold shiftP; split <;> simp)
  have e : (wo g.2 m = 0) = (wo g.2 n = 0) := by rw [← sgn_eq, ← sgn_eq, hg]
  unfold shiftP
  simp only [e]
theorem doP_same (ls : List Int) (r : Row) (a : List Fm) (n m : Int) (d : Dd) (h : ∀ f ∈ (doP ls r a n d).2.2, sgn f m = sgn f n) : doP ls r a m d = doP ls r a n d := by
  cases d with
  | park c ru =>
    have h : ∀ f ∈ (parkP ls r a c ru n).2.2, sgn f m = sgn f n := h
    rw [parkP_ask] at h
    have e : chosen ls r a (lenAt ls c) ru m = chosen ls r a (lenAt ls c) ru n := scan_same n m _ ru _ _ _ _ _ h
    show parkP ls r a c ru m = parkP ls r a c ru n
    unfold parkP
    rw [e]
  | leave c => rfl
  | pull c =>
    simp only [doP] at h ⊢
    cases q : spotP r c with
    | none => rfl
    | some i =>
      rw [q] at h
      exact shiftP_same h
  | drop c =>
    simp only [doP] at h ⊢
    cases q : spotP r c with
    | none => rfl
    | some i =>
      rw [q] at h
      exact shiftP_same h
theorem runP_sub (ls : List Int) (n : Int) : ∀ (ds : List Dd) (r : Row) (b : List Bool) (a : List Fm), ∀ f ∈ a, f ∈ (runP ls n ds r b a).2.2
  | [], _, _, _, f, h => h
  | d :: ds, r, b, a, f, h => runP_sub ls n ds _ _ _ f (doP_sub ls r a n d f h)
theorem runP_same (ls : List Int) (n m : Int) : ∀ (ds : List Dd) (r : Row) (b : List Bool) (a : List Fm), (∀ f ∈ (runP ls n ds r b a).2.2, sgn f m = sgn f n) → runP ls m ds r b a = runP ls n ds r b a
  | [], _, _, _, _ => rfl
  | d :: ds, r, b, a, h => by
    have h : ∀ f ∈ (runP ls n ds (doP ls r a n d).2.1 (b ++ [(doP ls r a n d).1]) (doP ls r a n d).2.2).2.2, sgn f m = sgn f n := h
    have e := doP_same ls r a n m d fun f hf => h f (runP_sub ls n ds _ _ _ f hf)
    show runP ls m ds (doP ls r a m d).2.1 (b ++ [(doP ls r a m d).1]) (doP ls r a m d).2.2 = runP ls n ds _ _ _
    rw [e]
    exact runP_same ls n m ds _ _ _ h
/-! ### how long a sign stays -/
theorem fdiv_pos (a b : Int) (h : 0 < b) : a.fdiv b = a / b := Int.fdiv_eq_ediv_of_nonneg a (Int.le_of_lt h)
theorem same_go {f : Fm} {n e : Int} (h1 : -400 ≤ f.2) (h2 : f.2 ≤ 400) (hn : 10 ≤ n) (q : sameP f n = some e) : n ≤ e ∧ e < 900 := by
  unfold sameP at q
  split at q
  · cases q
  · rename_i c
    have c1 : f.1 ≠ 0 := fun z => c (.inl z)
    have c2 : ¬ 0 < sgn f n * f.1 := fun z => c (.inr z)
    split at q
    · rename_i c3
      cases q
      rw [sgn_eq] at c3
      refine ⟨Int.le_refl _, ?_⟩
      simp only [wo] at c3
      rcases Int.lt_or_gt_of_ne c1 with c4 | c4
      · have := Int.mul_le_mul_of_nonneg_right (show f.1 ≤ -1 by omega) (show 0 ≤ n by omega)
        omega
      · have := Int.mul_le_mul_of_nonneg_right (show 1 ≤ f.1 by omega) (show 0 ≤ n by omega)
        omega
    · rename_i c3
      cases q
      have hd : 0 < (if f.1 < 0 then -f.1 else f.1) := by split <;> omega
      rw [fdiv_pos _ _ hd]
      have hq : ((if f.2 < 0 then -f.2 else f.2) - 1) / (if f.1 < 0 then -f.1 else f.1) < 900 := by
        refine Int.lt_of_le_of_lt (b := 400) ?_ (by omega)
        refine Int.ediv_le_of_le_mul hd ?_
        have : (400 : Int) * 1 ≤ 400 * (if f.1 < 0 then -f.1 else f.1) := Int.mul_le_mul_of_nonneg_left (by omega) (by omega)
        split <;> omega
      refine ⟨?_, hq⟩
      rw [Int.le_ediv_iff_mul_le hd]
      have c3' : ¬ wo f n = 0 := fun z => c3 (by rw [sgn_eq]; exact z)
      simp only [wo] at c3'
      rcases Int.lt_or_gt_of_ne c1 with c4 | c4
      · have hs : 0 < wo f n := by
          rcases sgn_cases f n with s | s | s
          · rw [← sgn_gt, s]; omega
          · rw [s] at c2; omega
          · exact absurd s c3
        simp only [wo] at hs
        rw [if_pos c4]
        have e1 : n * -f.1 = -(f.1 * n) := by rw [Int.mul_neg, Int.mul_comm]
        have e2 : f.1 * n ≤ -1 * n := Int.mul_le_mul_of_nonneg_right (show f.1 ≤ -1 by omega) (by omega)
        rw [e1]
        split <;> omega
      · have hs : wo f n < 0 := by
          rcases sgn_cases f n with s | s | s
          · rw [s] at c2; omega
          · rw [← sgn_lt, s]; omega
          · exact absurd s c3
        simp only [wo] at hs
        have c5 : ¬ f.1 < 0 := by omega
        rw [if_neg c5]
        have e1 : n * f.1 = f.1 * n := Int.mul_comm _ _
        have e2 : 1 * n ≤ f.1 * n := Int.mul_le_mul_of_nonneg_right (show 1 ≤ f.1 by omega) (by omega)
        rw [e1]
        split <;> omega
end KI


set_option Elab.async false
set_option linter.all false
set_option maxRecDepth 100000
set_option autoImplicit false
set_option maxHeartbeats 1000000
/-! How long a sign stays; how large forms become. -/
namespace KI
open PySem
theorem sgn_of_pos {f : Fm} {n : Int} (h : 0 < wo f n) : sgn f n = 1 := by unfold sgn; rw [if_pos h]
theorem sgn_of_neg {f : Fm} {n : Int} (h : wo f n < 0) : sgn f n = -1 := by unfold sgn; rw [if_neg (by omega), if_pos h]
theorem stay {f : Fm} {n m : Int} (hn : 10 ≤ n) (hnm : n ≤ m) (h : ∀ e, sameP f n = some e → m ≤ e) : sgn f m = sgn f n := by
  unfold sameP at h
  by_cases c1 : f.1 = 0
  · have e : ∀ n, wo f n = f.2 := fun n => by simp only [wo, c1]; omega
    unfold sgn
    rw [e, e]
  by_cases c2 : 0 < sgn f n * f.1
  · rcases sgn_cases f n with s | s | s
    · rw [s] at c2
      have hs : 0 < wo f n := by rw [← sgn_gt, s]; omega
      rw [s]
      refine sgn_of_pos ?_
      simp only [wo] at hs ⊢
      have := Int.mul_le_mul_of_nonneg_left hnm (show 0 ≤ f.1 by omega)
      omega
    · rw [s] at c2
      have hs : wo f n < 0 := by rw [← sgn_lt, s]; omega
      rw [s]
      refine sgn_of_neg ?_
      simp only [wo] at hs ⊢
      have := Int.mul_le_mul_of_nonneg_left hnm (show 0 ≤ -f.1 by omega)
      have e1 : -f.1 * n = -(f.1 * n) := Int.neg_mul ..
      have e2 : -f.1 * m = -(f.1 * m) := Int.neg_mul ..
      omega
    · rw [s] at c2; omega
  rw [if_neg (fun z => z.elim c1 c2)] at h
  by_cases c3 : sgn f n = 0
  · rw [if_pos c3] at h
    have : m = n := by have := h n rfl; omega
    rw [this]
  rw [if_neg c3] at h
  have h := h _ rfl
  have hd : 0 < (if f.1 < 0 then -f.1 else f.1) := by split <;> omega
  rw [fdiv_pos _ _ hd, Int.le_ediv_iff_mul_le hd] at h
  rcases Int.lt_or_gt_of_ne c1 with c4 | c4
  · have s : sgn f n = 1 := by
      rcases sgn_cases f n with s | s | s
      · exact s
      · rw [s] at c2; omega
      · exact absurd s c3
    have hs : 0 < wo f n := by rw [← sgn_gt, s]; omega
    rw [s]
    refine sgn_of_pos ?_
    simp only [wo] at hs ⊢
    rw [if_pos c4] at h
    have e1 : m * -f.1 = -(f.1 * m) := by rw [Int.mul_neg, Int.mul_comm]
    have e2 : f.1 * n ≤ -1 * n := Int.mul_le_mul_of_nonneg_right (show f.1 ≤ -1 by omega) (by omega)
    rw [e1] at h
    split at h <;> omega
  · have s : sgn f n = -1 := by
      rcases sgn_cases f n with s | s | s
      · rw [s] at c2; omega
      · exact s
      · exact absurd s c3
    have hs : wo f n < 0 := by rw [← sgn_lt, s]; omega
    rw [s]
    refine sgn_of_neg ?_
    simp only [wo] at hs ⊢
    rw [if_neg (by omega)] at h
    have e1 : m * f.1 = f.1 * m := Int.mul_comm _ _
    have e2 : 1 * n ≤ f.1 * n := Int.mul_le_mul_of_nonneg_right (show 1 ≤ f.1 by omega) (by omega)
    rw [e1] at h
    split at h <;> omega
/-- within a row no sign changes -/
theorem until_stay {a : List Fm} {n m : Int} (hn : 10 ≤ n) (hnm : n ≤ m) (h : ∀ e, untilP a n = some e → m ≤ e) : ∀ f ∈ a, sgn f m = sgn f n := fun f hf => by
  refine stay hn hnm fun e q => ?_
  have hm : e ∈ a.filterMap fun f => sameP f n := List.mem_filterMap.mpr ⟨f, hf, q⟩
  unfold untilP at h
  split at h
  · rename_i z
    rw [z] at hm
    exact nomatch hm
  · rename_i x r z
    rw [z] at hm
    have h1 := h _ rfl
    obtain ⟨k1, k2, _⟩ := minL_le r x
    rcases List.mem_cons.mp hm with q | hm
    · omega
    · have := k2 e hm
      omega
theorem until_go {a : List Fm} {n : Int} (hn : 10 ≤ n) (ha : ∀ f ∈ a, -400 ≤ f.2 ∧ f.2 ≤ 400) : ∀ e, untilP a n = some e → n ≤ e ∧ e < 900 := fun e h => by
  unfold untilP at h
  split at h
  · cases h
  · rename_i x r z
    cases h
    have key : ∀ y ∈ x :: r, n ≤ y ∧ y < 900 := fun y hy => by
      rw [← z] at hy
      obtain ⟨f, hf, q⟩ := List.mem_filterMap.mp hy
      exact same_go (ha f hf).1 (ha f hf).2 hn q
    obtain ⟨k1, k2, k3⟩ := minL_le r x
    rcases k3 with k3 | k3
    · rw [k3]; exact key x List.mem_cons_self
    · exact key _ (List.mem_cons_of_mem _ k3)
/-! ### how large -/
def Bd (M : Int) (r : Row) : Prop := ∀ c ∈ r, -M ≤ c.2.2 ∧ c.2.2 ≤ M
def Ak (a : List Fm) : Prop := ∀ f ∈ a, (-100 ≤ f.1 ∧ f.1 ≤ 100) ∧ (-400 ≤ f.2 ∧ f.2 ≤ 400)
def Gb (M : Int) (g : Fm × Fm) : Prop := (-(M + 9) ≤ g.1.2 ∧ g.1.2 ≤ M + 9) ∧ (-M ≤ g.1.2 + g.2.2 ∧ g.1.2 + g.2.2 ≤ M)
theorem lenAt_bd {ls : List Int} (h : ∀ x ∈ ls, 2 ≤ x ∧ x ≤ 9) (c : Nat) : 0 ≤ lenAt ls c ∧ lenAt ls c ≤ 9 := by
  unfold lenAt
  cases q : ls[c]? with
  | none => exact ⟨by simp, by simp⟩
  | some x =>
    have := h x (List.mem_of_getElem? q)
    show 0 ≤ x ∧ x ≤ 9
    omega
theorem spaces_bd {ls : List Int} (hls : ∀ x ∈ ls, 2 ≤ x ∧ x ≤ 9) {M : Int} (hM : 0 ≤ M) : ∀ (r : Row) (b : Fm), Bd M r → -(M + 9) ≤ b.2 → b.2 ≤ M + 9 → ∀ g ∈ spaces ls r b, Gb M g
  | [], b, _, h0, h1, g, hg => by
    have : g = (b, le2 (1, 0) b) := by simpa [spaces] using hg
    subst this
    refine ⟨⟨h0, h1⟩, ?_, ?_⟩ <;> simp <;> omega
  | (c, p) :: r, b, hr, h0, h1, g, hg => by
    have hp : -M ≤ p.2 ∧ p.2 ≤ M := hr (c, p) List.mem_cons_self
    have hc := lenAt_bd hls c
    rcases List.mem_cons.mp hg with e | hg
    · subst e
      refine ⟨⟨h0, h1⟩, ?_, ?_⟩ <;> simp <;> omega
    · exact spaces_bd hls hM r (p.1, p.2 + lenAt ls c) (fun c hc => hr c (List.mem_cons_of_mem _ hc)) (by show -(M + 9) ≤ p.2 + lenAt ls c; omega) (by show p.2 + lenAt ls c ≤ M + 9; omega) g hg
theorem Ak.app {a b : List Fm} (h : Ak a) (h2 : Ak b) : Ak (a ++ b) := fun f hf => (List.mem_append.mp hf).elim (h f) (h2 f)
theorem Ak.one {f : Fm} (h : (-100 ≤ f.1 ∧ f.1 ≤ 100) ∧ (-400 ≤ f.2 ∧ f.2 ≤ 400)) : Ak [f] := fun x hx => by
  have : x = f := by simpa using hx
  rw [this]; exact h
theorem fit_ak {M : Int} {g : Fm × Fm} {len : Int} (hM : M ≤ 90) (h : Gk g) (h2 : Gb M g) (l0 : 0 ≤ len) (l1 : len ≤ 9) : Ak [fitF g len] := by
  refine .one ?_
  unfold Gk at h
  unfold Gb at h2
  simp only [fitF]
  omega
theorem bet_ak {M : Int} {g o : Fm × Fm} {ru : Ru} (hM : M ≤ 90) (h : Gk g) (h2 : Gb M g) (h3 : Gk o) (h4 : Gb M o) : Ak (betA ru g o) := by
  have : Ak [le2 g.2 o.2] := by
    refine .one ?_
    unfold Gk at h h3
    unfold Gb at h2 h4
    simp only [le2]
    omega
  cases ru
  · exact fun _ h => nomatch h
  · exact fun _ h => nomatch h
  · exact this
  · exact this
theorem scan_ak {M n len : Int} {ru : Ru} {gs : List (Fm × Fm)} (hM : M ≤ 90) (hg : ∀ g ∈ gs, Gk g ∧ Gb M g) (l0 : 0 ≤ len) (l1 : len ≤ 9) : ∀ (q : List (Fm × Fm)) (i : Nat) (best : Option Nat) (a : List Fm), (∀ g ∈ q, Gk g ∧ Gb M g) → (∀ b, best = some b → b < gs.length) → i + q.length ≤ gs.length → Ak a → Ak (scan n len ru gs i q best a).2
  | [], _, _, a, _, _, _, h => h
  | g :: q, i, best, a, hq, hb, hi, h => by
    rw [List.length_cons] at hi
    have hgg := hq g List.mem_cons_self
    have hq' : ∀ g ∈ q, Gk g ∧ Gb M g := fun g hg => hq g (List.mem_cons_of_mem _ hg)
    have h1 := h.app (fit_ak hM hgg.1 hgg.2 l0 l1)
    unfold scan
    split
    · split
      · exact scan_ak hM hg l0 l1 q _ _ _ hq' (fun b e => by cases e; omega) (by omega) h1
      · rename_i b
        have hb' := hb b rfl
        have ho := hg _ (gAt_mem hb')
        exact scan_ak hM hg l0 l1 q _ _ _ hq' (fun b' e => by split at e <;> cases e <;> omega) (by omega) (h1.app (bet_ak hM hgg.1 hgg.2 ho.1 ho.2))
    · exact scan_ak hM hg l0 l1 q _ _ _ hq' hb (by omega) h1
theorem Bd.mono {M N : Int} {r : Row} (h : Bd M r) (hM : M ≤ N) : Bd N r := fun c hc => by have := h c hc; omega
theorem Bd.take {M : Int} {r : Row} (h : Bd M r) (i : Nat) : Bd M (r.take i) := fun c hc => h c (List.mem_of_mem_take hc)
theorem Bd.drop {M : Int} {r : Row} (h : Bd M r) (i : Nat) : Bd M (r.drop i) := fun c hc => h c (List.mem_of_mem_drop hc)
theorem Bd.app {M : Int} {r q : Row} (h : Bd M r) (h2 : Bd M q) : Bd M (r ++ q) := fun c hc => (List.mem_append.mp hc).elim (h c) (h2 c)
theorem Bd.one {M : Int} {c : Nat} {f : Fm} (h : -M ≤ f.2 ∧ f.2 ≤ M) : Bd M [(c, f)] := fun x hx => by
  have : x = (c, f) := by simpa using hx
  rw [this]; exact h
theorem shiftP_bd {M n : Int} {r : Row} {a : List Fm} {i : Nat} {g : Fm × Fm} {f : Fm} (hM : M ≤ 90) (h : Bd M r) (h2 : Ak a) (hg : Gk g) (hb : Gb M g) (hf : -(M + 9) ≤ f.2 ∧ f.2 ≤ M + 9) : Bd (M + 9) (shiftP r a i g f n).2.1 ∧ Ak (shiftP r a i g f n).2.2 := by
  have h3 : Ak (a ++ [g.2]) := h2.app (.one (by unfold Gk at hg; unfold Gb at hb; omega))
  have h4 : Bd (M + 9) r := h.mono (by omega)
  unfold shiftP
  split
  · exact ⟨h4, h3⟩
  · exact ⟨((h4.take i).app (.one hf)).app (h4.drop _), h3⟩
theorem doP_bd {ls : List Int} (hls : ∀ x ∈ ls, 2 ≤ x ∧ x ≤ 9) {M n : Int} (h0 : 0 ≤ M) (hM : M ≤ 90) {r : Row} {a : List Fm} {d : Dd} (hr : Rk ls r) (h : Bd M r) (h2 : Ak a) : Bd (M + 9) (doP ls r a n d).2.1 ∧ Ak (doP ls r a n d).2.2 := by
  have hg : ∀ g ∈ spaces ls r (0, 0), Gk g ∧ Gb M g := fun g hg => ⟨spaces_ok ls r (0, 0) hr (by simp) (by simp) g hg, spaces_bd hls h0 r (0, 0) h (by simp; omega) (by simp; omega) g hg⟩
  have h4 : Bd (M + 9) r := h.mono (by omega)
  cases d with
  | park c ru =>
    have hl := lenAt_bd hls c
    refine ⟨?_, ?_⟩
    · show Bd (M + 9) (parkP ls r a c ru n).2.1
      unfold parkP
      split
      · exact h4
      · rename_i i q
        split
        · exact h4
        · refine ((h4.take i).app (.one ?_)).app (h4.drop i)
          have := (hg _ (gAt_mem (chosen_lt q))).2
          unfold Gb at this
          cases ru <;> simp only [placeF] <;> omega
    · show Ak (parkP ls r a c ru n).2.2
      rw [parkP_ask]
      exact scan_ak hM hg hl.1 hl.2 _ _ _ _ hg (fun b e => by cases e) (by simp) h2
  | leave c =>
    simp only [doP]
    cases spotP r c with
    | none => exact ⟨h4, h2⟩
    | some i => exact ⟨(h4.take i).app (h4.drop _), h2⟩
  | pull c =>
    simp only [doP]
    cases q : spotP r c with
    | none => exact ⟨h4, h2⟩
    | some i =>
      have hgi := hg _ (gAt_mem (i := i) (by rw [spaces_len]; have := spotP_lt q; omega))
      exact shiftP_bd hM h h2 hgi.1 hgi.2 hgi.2.1
  | drop c =>
    simp only [doP]
    cases q : spotP r c with
    | none => exact ⟨h4, h2⟩
    | some i =>
      have hi := spotP_lt q
      have hgi := hg _ (gAt_mem (i := i + 1) (by rw [spaces_len]; omega))
      refine shiftP_bd hM h h2 hgi.1 hgi.2 ?_
      obtain ⟨g, k1, k2⟩ := spaces_get ls r (0, 0) (rAt_eq hi)
      have e : gAt (spaces ls r (0, 0)) (i + 1) = g := by unfold gAt; rw [k1]; rfl
      have hb := hgi.2
      rw [e] at hb ⊢
      have hl := lenAt_bd hls (rAt r i).1
      unfold Gb at hb
      rw [k2] at hb
      simp only [ad]
      omega
theorem runP_bd {ls : List Int} (hls : ∀ x ∈ ls, 2 ≤ x ∧ x ≤ 9) {n : Int} : ∀ (ds : List Dd) (M : Int) (r : Row) (b : List Bool) (a : List Fm), 0 ≤ M → M + 9 * ds.length ≤ 90 → Rk ls r → (∀ d ∈ ds, d.car < ls.length) → Bd M r → Ak a → Bd 90 (runP ls n ds r b a).1 ∧ Ak (runP ls n ds r b a).2.2
  | [], M, r, b, a, h0, h1, _, _, h, h2 => ⟨h.mono (by simp at h1; omega), h2⟩
  | d :: ds, M, r, b, a, h0, h1, hr, hd, h, h2 => by
    rw [List.length_cons] at h1
    obtain ⟨k1, k2⟩ := doP_bd hls (n := n) (d := d) h0 (by omega) hr h h2
    exact runP_bd hls ds (M + 9) _ _ _ (by omega) (by omega) (doP_ok ls r a n d hr (hd d List.mem_cons_self)).1 (fun d hd' => hd d (List.mem_cons_of_mem _ hd')) k1 k2
theorem endP_bd {ls : List Int} {ds : List Dd} (p : Pk ls ds) (n : Int) : Bd 90 (endP ls ds n).1 ∧ Ak (endP ls ds n).2.2 :=
  runP_bd p.ln ds 0 [] [] [] (by omega) (by have := p.d1; omega) (fun _ h => nomatch h) p.car (fun _ h => nomatch h) (fun _ h => nomatch h)
end KI


set_option Elab.async false
set_option linter.all false
set_option maxRecDepth 100000
set_option autoImplicit false
set_option maxHeartbeats 1000000
/-! Rows tell. -/
namespace KI
open PySem
section
variable (H : Int → D)
/-- rows from lo on, without holes, the last one open; each tells H -/
def rowsOk : Int → List Rw → Prop
  | _, [] => False
  | lo, r :: rs => r.lo = lo ∧ ((r.hi = none ∧ rs = [] ∧ ∀ m, lo ≤ m → H m = r.d) ∨ ∃ h, r.hi = some h ∧ lo ≤ h ∧ (∀ m, lo ≤ m → m ≤ h → H m = r.d) ∧ rowsOk (h + 1) rs)
/-- rows from lo up to x -/
def rowsPre : Int → List Rw → Int → Prop
  | lo, [], x => x = lo
  | lo, r :: rs, x => r.lo = lo ∧ ∃ h, r.hi = some h ∧ lo ≤ h ∧ (∀ m, lo ≤ m → m ≤ h → H m = r.d) ∧ rowsPre (h + 1) rs x
/-- no two neighbours tell the same -/
def rowsNe : List Rw → Prop
  | r :: r' :: rs => eqD r.d r'.d = false ∧ rowsNe (r' :: rs)
  | _ => True
end
section
variable {H : Int → D} {A : Int → List Fm}
theorem rowsP_ok (st : ∀ n m, 10 ≤ n → n ≤ m → (∀ f ∈ A n, sgn f m = sgn f n) → H m = H n) (go : ∀ n, 10 ≤ n → n ≤ 900 → ∀ e, untilP (A n) n = some e → n ≤ e ∧ e < 900) : ∀ (j : Nat) (n : Int), 10 ≤ n → n ≤ 900 → 900 - n < j → rowsOk H n (rowsP H A j n)
  | 0, n, h1, h2, h3 => by omega
  | j + 1, n, h1, h2, h3 => by
    unfold rowsP
    cases q : untilP (A n) n with
    | none => exact ⟨rfl, .inl ⟨rfl, rfl, fun m hm => st n m h1 hm (until_stay h1 hm fun e z => by rw [q] at z; cases z)⟩⟩
    | some e =>
      obtain ⟨g1, g2⟩ := go n h1 h2 e q
      exact ⟨rfl, .inr ⟨e, rfl, g1, fun m hm hm2 => st n m h1 hm (until_stay h1 hm fun e' z => by rw [q] at z; cases z; exact hm2), rowsP_ok st go j (e + 1) (by omega) (by omega) (by omega)⟩⟩
theorem pre_app : ∀ {acc rs : List Rw} {lo x : Int}, rowsPre H lo acc x → rowsOk H x rs → rowsOk H lo (acc ++ rs)
  | [], rs, lo, x, h, h2 => by
    have h : x = lo := h
    rw [← h]; exact h2
  | r :: acc, rs, lo, x, h, h2 => by
    obtain ⟨h1, e, k1, k2, k3, k4⟩ := h
    exact ⟨h1, .inr ⟨e, k1, k2, k3, pre_app k4 h2⟩⟩
theorem pre_snoc : ∀ {acc : List Rw} {l : Rw} {lo x : Int}, rowsPre H lo (acc ++ [l]) x → rowsPre H lo acc l.lo ∧ ∃ h, l.hi = some h ∧ l.lo ≤ h ∧ (∀ m, l.lo ≤ m → m ≤ h → H m = l.d) ∧ x = h + 1
  | [], l, lo, x, h => by
    obtain ⟨h1, e, k1, k2, k3, k4⟩ := h
    subst h1
    exact ⟨rfl, e, k1, k2, k3, k4⟩
  | r :: acc, l, lo, x, h => by
    obtain ⟨h1, e, k1, k2, k3, k4⟩ := h
    obtain ⟨q1, q2⟩ := pre_snoc k4
    exact ⟨⟨h1, e, k1, k2, k3, q1⟩, q2⟩
theorem pre_put : ∀ {acc : List Rw} {l : Rw} {lo h : Int}, rowsPre H lo acc l.lo → l.hi = some h → l.lo ≤ h → (∀ m, l.lo ≤ m → m ≤ h → H m = l.d) → rowsPre H lo (acc ++ [l]) (h + 1)
  | [], l, lo, h, p, h1, h2, h3 => by
    have p : l.lo = lo := p
    exact ⟨p, h, h1, by rw [← p]; exact h2, by rw [← p]; exact h3, rfl⟩
  | r :: acc, l, lo, h, p, h1, h2, h3 => by
    obtain ⟨q1, e, k1, k2, k3, k4⟩ := p
    exact ⟨q1, e, k1, k2, k3, pre_put k4 h1 h2 h3⟩
theorem ne_snoc : ∀ {acc : List Rw} {l : Rw}, rowsNe acc → (∀ x, acc.getLast? = some x → eqD x.d l.d = false) → rowsNe (acc ++ [l])
  | [], _, _, _ => trivial
  | [r], l, _, h => ⟨h r rfl, trivial⟩
  | r :: r' :: acc, l, h, h2 => ⟨h.1, ne_snoc (acc := r' :: acc) h.2 fun x hx => h2 x (by rw [List.getLast?_cons_cons]; exact hx)⟩
theorem ne_init : ∀ {acc : List Rw} {l : Rw}, rowsNe (acc ++ [l]) → rowsNe acc ∧ ∀ x, acc.getLast? = some x → eqD x.d l.d = false
  | [], _, _ => ⟨trivial, fun x hx => by simp at hx⟩
  | [r], l, h => ⟨trivial, fun x hx => by
    have : r = x := by simpa using hx
    subst this
    exact h.1⟩
  | r :: r' :: acc, l, h => by
    obtain ⟨k1, k2⟩ := ne_init (acc := r' :: acc) h.2
    exact ⟨⟨h.1, k1⟩, fun x hx => k2 x (by rw [List.getLast?_cons_cons] at hx; exact hx)⟩
theorem joinP_ok (inj : ∀ n m, eqD (H n) (H m) = true → H n = H m) : ∀ (rs acc : List Rw) (lo : Int), rowsPre H 10 acc lo → rowsNe acc → rowsOk H lo rs → rowsOk H 10 (joinP acc rs) ∧ rowsNe (joinP acc rs)
  | [], acc, lo, _, _, h => h.elim
  | r :: rs, acc, lo, hp, hn, h => by
    obtain ⟨h1, h2⟩ := h
    have hr : H lo = r.d := by
      rcases h2 with ⟨_, _, k⟩ | ⟨h, _, k1, k2, _⟩
      · exact k lo (by omega)
      · exact k2 lo (by omega) k1
    -- a row put behind the rest
    have key : ∀ (ini : List Rw) (l : Rw), rowsPre H 10 ini l.lo → rowsNe ini → (∀ x, ini.getLast? = some x → eqD x.d l.d = false) → l.hi = r.hi → l.d = r.d → l.lo ≤ lo → (∀ m, l.lo ≤ m → m ≤ lo → H m = r.d) → rowsOk H 10 (joinP (ini ++ [l]) rs) ∧ rowsNe (joinP (ini ++ [l]) rs) := fun ini l p1 p2 p3 p4 p5 p6 p7 => by
      have n1 := ne_snoc p2 p3
      rcases h2 with ⟨k0, k1, k2⟩ | ⟨h, k0, k1, k2, k3⟩
      · subst k1
        refine ⟨pre_app p1 ⟨rfl, .inl ⟨by rw [p4, k0], rfl, fun m hm => ?_⟩⟩, n1⟩
        rw [p5]
        by_cases c : m ≤ lo
        · exact p7 m hm c
        · exact k2 m (by omega)
      · refine joinP_ok inj rs (ini ++ [l]) (h + 1) (pre_put p1 (by rw [p4, k0]) (by omega) fun m hm hm2 => ?_) n1 k3
        rw [p5]
        by_cases c : m ≤ lo
        · exact p7 m hm c
        · exact k2 m (by omega) hm2
    have plain : (∀ x, acc.getLast? = some x → eqD x.d r.d = false) → rowsOk H 10 (joinP (acc ++ [r]) rs) ∧ rowsNe (joinP (acc ++ [r]) rs) := fun hx =>
      key acc r (by rw [h1]; exact hp) hn hx rfl rfl (by omega) fun m hm hm2 => by
        have : m = lo := by omega
        rw [this]; exact hr
    rcases List.eq_nil_or_concat acc with q | ⟨ini, l, q⟩
    · subst q
      exact plain fun x hx => by simp at hx
    · rw [List.concat_eq_append] at q
      subst q
      have hg : (ini ++ [l]).getLast? = some l := by simp
      have hd : (ini ++ [l]).dropLast = ini := by simp
      rw [joinP, hg, hd]
      simp only
      by_cases c : eqD l.d r.d = true
      · rw [if_pos c]
        obtain ⟨p1, e, p2, p3, p4, p5⟩ := pre_snoc hp
        obtain ⟨n1, n2⟩ := ne_init hn
        have hl : H l.lo = l.d := p4 _ (by omega) p3
        have heq : l.d = r.d := by
          rw [← hl, ← hr] at c ⊢
          exact inj _ _ c
        exact key ini ⟨l.lo, r.hi, r.d⟩ p1 n1 (fun x hx => by rw [← heq]; exact n2 x hx) rfl rfl (by show l.lo ≤ lo; omega) fun m hm hm2 => by
          by_cases c2 : m ≤ e
          · rw [← heq]; exact p4 m hm c2
          · have : m = lo := by omega
            rw [this]; exact hr
      · rw [if_neg c]
        exact plain fun x hx => by
          rw [hg] at hx
          cases hx
          simpa using c
/-- the rows of a teller tell -/
theorem rowsJ_ok (st : ∀ n m, 10 ≤ n → n ≤ m → (∀ f ∈ A n, sgn f m = sgn f n) → H m = H n) (go : ∀ n, 10 ≤ n → n ≤ 900 → ∀ e, untilP (A n) n = some e → n ≤ e ∧ e < 900) (inj : ∀ n m, eqD (H n) (H m) = true → H n = H m) : rowsOk H 10 (rowsJ H A) ∧ rowsNe (rowsJ H A) :=
  joinP_ok inj _ [] 10 rfl trivial (rowsP_ok st go 900 10 (by omega) (by omega) (by omega))
/-- what rows tell at n -/
def inRw (n : Int) (r : Rw) : Bool := decide (r.lo ≤ n) && (match r.hi with
  | none => true
  | some h => decide (n ≤ h))
theorem rowsOk_at : ∀ {rs : List Rw} {lo n : Int}, rowsOk H lo rs → lo ≤ n → ∃ r, rs.find? (inRw n) = some r ∧ r.d = H n
  | [], lo, n, h, _ => h.elim
  | r :: rs, lo, n, h, hn => by
    obtain ⟨h1, h2⟩ := h
    rcases h2 with ⟨k0, k1, k2⟩ | ⟨h, k0, k1, k2, k3⟩
    · refine ⟨r, ?_, (k2 n hn).symm⟩
      rw [List.find?_cons]
      have : inRw n r = true := by unfold inRw; rw [k0, h1, decide_eq_true hn]; rfl
      rw [this]
    · by_cases c : n ≤ h
      · refine ⟨r, ?_, (k2 n hn c).symm⟩
        rw [List.find?_cons]
        have : inRw n r = true := by unfold inRw; rw [k0, h1, decide_eq_true hn]; exact decide_eq_true c
        rw [this]
      · obtain ⟨r', q1, q2⟩ := rowsOk_at k3 (n := n) (by omega)
        refine ⟨r', ?_, q2⟩
        rw [List.find?_cons]
        have : inRw n r = false := by unfold inRw; rw [k0, h1, decide_eq_true hn]; exact decide_eq_false c
        rw [this]
        exact q1
end
end KI


set_option Elab.async false
set_option linter.all false
set_option maxRecDepth 100000
set_option autoImplicit false
set_option maxHeartbeats 1000000
/-! What is told of a plan by rows: done, places, gaps, row. -/
namespace KI
open PySem
theorem eqL_inj {α : Type} (f : α → D) (h : ∀ a b, eqD (f a) (f b) = true → a = b) : ∀ l l' : List α, eqL (l.map f) (l'.map f) = true → l = l'
  | [], [], _ => rfl
  | [], _ :: _, e => by cases e
  | _ :: _, [], e => by cases e
  | a :: l, b :: l', e => by
    obtain ⟨e1, e2⟩ := ba (show (eqD (f a) (f b) && eqL (l.map f) (l'.map f)) = true from e)
    rw [h a b e1, eqL_inj f h l l' e2]
theorem eqD_fD (a b : Fm) (h : eqD (fD a) (fD b) = true) : a = b := by
  obtain ⟨a1, a2⟩ := a
  obtain ⟨b1, b2⟩ := b
  simp at h
  rw [h.1, h.2]
theorem eqD_gD (a b : Fm × Fm) (h : eqD (gD a) (gD b) = true) : a = b := by
  obtain ⟨⟨a1, a2⟩, a3, a4⟩ := a
  obtain ⟨⟨b1, b2⟩, b3, b4⟩ := b
  simp at h
  obtain ⟨⟨h1, h2⟩, h3, h4⟩ := h
  rw [h1, h2, h3, h4]
theorem eqD_of (a b : Option Fm) (h : eqD (ofD a) (ofD b) = true) : a = b := by
  cases a with
  | none => cases b with
    | none => rfl
    | some b => cases h
  | some a => cases b with
    | none => cases h
    | some b => rw [eqD_fD a b h]
/-! ### the tellers -/
def hDone (r : Row) (dd : List Bool) (n : Int) : D := diD dd
def hRow (r : Row) (dd : List Bool) (n : Int) : D := .tup (r.map fun c => D.int c.1)
def hPlace (c : Nat) (r : Row) (dd : List Bool) (n : Int) : D := ofD (placeOf r c)
def hGaps (ls : List Int) (r : Row) (dd : List Bool) (n : Int) : D := .tup ((gapP ls r n).map gD)
def xNil (r : Row) (n : Int) : List Fm := []
def xGaps (ls : List Int) (r : Row) (n : Int) : List Fm := (spaces ls r (0, 0)).map (·.2)
section
variable {L : Lw} [L.Std] {k : Nat} {S : Sto} {n : Int} {ls : List Int} {ds : List Dd}
theorem app_clo2 {e : Ex} {cs : List D} {r : Row} {dd : List Bool} {ak : List Fm} {v : D} {S' : Sto} (h : ev L.cons (L.run k) e (([D.cell 0, D.int n] ++ cs).map some) [stO ls r dd ak] = .ok v S') : app (L.run (k + 1)) (.clo 2 e cs) [.cell 0, .int n] [stO ls r dd ak] = .ok v S' := by
  show (if ([.cell 0, .int n] : List D).length = 2 ∧ cfL [D.cell 0, D.int n] = true ∧ stoCf [stO ls r dd ak] = true then L.run (k + 1) (.lam e) ([D.cell 0, D.int n] ++ cs) [stO ls r dd ak] else .no) = _
  rw [if_pos ⟨rfl, rfl, cf_st ls r dd ak⟩]
  exact run_lam h
theorem tst_done : Tst L (k + 1) ls (.clo 2 m_done_rows_0 []) hDone xNil where
  fn := rfl
  pure := rfl
  run r dd ak n _ _ _ := by
    refine app_clo2 ?_
    simp [m_done_rows_0, xNil, hDone, stO]
  hp r dd n := by simp [hDone]
  hs r dd n := shpL_map _ 61 (fun b => by simp) dd
  hc r dd n := cf_map D.bl (fun _ => rfl) dd
theorem tst_row : Tst L (k + 2) ls (.clo 2 m_row_rows_0 []) hRow xNil where
  fn := rfl
  pure := rfl
  run r dd ak n _ hl _ := by
    have e := cars_of_ok (L := L) (k := k) (S := [stO ls r dd ak]) (m := 0) (ls := ls) (r := r) (dd := dd) (ak := ak) (by simp) (by omega)
    rw [set0] at e
    refine app_clo2 ?_
    simp [m_row_rows_0, xNil, hRow, e]
  hp r dd n := pureL_map _ (fun _ => rfl) r
  hs r dd n := shpL_map _ 61 (fun b => by simp) r
  hc r dd n := cf_map _ (fun _ => rfl) r
theorem tst_place {c : Nat} : Tst L (k + 3) ls (.clo 2 m_place_rows_0 [.int c]) (hPlace c) xNil where
  fn := rfl
  pure := rfl
  run r dd ak n _ hl _ := by
    have e := place_form_ok (L := L) (k := k) (S := [stO ls r dd ak]) (m := 0) (ls := ls) (r := r) (dd := dd) (ak := ak) (c := c) (by simp) (by omega)
    rw [set0] at e
    refine app_clo2 ?_
    simp [m_place_rows_0, xNil, hPlace, e]
  hp r dd n := by simp [hPlace]
  hs r dd n := by
    unfold hPlace
    cases placeOf r c with
    | none => rfl
    | some f => rfl
  hc r dd n := by
    unfold hPlace
    cases placeOf r c with
    | none => rfl
    | some f => rfl
theorem tst_gaps : Tst L (k + 4) ls (.fn f_gap_forms) (hGaps ls) (xGaps ls) where
  fn := rfl
  pure := rfl
  run r dd ak n hr hl ha := by
    have e := gap_forms_ok (L := L) (k := k) (S := [stO ls r dd ak]) (m := 0) (n := n) (ls := ls) (r := r) (dd := dd) (ak := ak) (by simp) hr (by omega) (by omega)
    rw [set0] at e
    exact e
  hp r dd n := pureL_gs _
  hs r dd n := shpL_map _ 61 (fun b => rfl) _
  hc r dd n := cf_map _ (fun _ => rfl) _
end
/-! ### asked, steady -/
section
variable {ls : List Int} {ds : List Dd}
theorem lastA_ak (p : Pk ls ds) {x : Row → Int → List Fm} (hx : ∀ n, Ak (x (endP ls ds n).1 n)) (n : Int) : Ak (lastA ls ds x n) := (endP_bd p n).2.app (hx n)
theorem ak_nil (n : Int) : Ak (xNil (endP ls ds n).1 n) := fun _ h => nomatch h
theorem ak_gaps (p : Pk ls ds) (n : Int) : Ak (xGaps ls (endP ls ds n).1 n) := fun f hf => by
  obtain ⟨g, hg, rfl⟩ := List.mem_map.mp hf
  have h1 := spaces_ok ls (endP ls ds n).1 (0, 0) (endP_ok p).1 (by simp) (by simp) g hg
  have h2 := spaces_bd p.ln (M := 90) (by omega) (endP ls ds n).1 (0, 0) (endP_bd p n).1 (by simp) (by simp) g hg
  unfold Gk at h1
  unfold Gb at h2
  show (-100 ≤ g.2.1 ∧ g.2.1 ≤ 100) ∧ (-400 ≤ g.2.2 ∧ g.2.2 ≤ 400)
  omega
theorem lastA_len (p : Pk ls ds) {x : Row → Int → List Fm} (hx : ∀ n, (x (endP ls ds n).1 n).length ≤ 1000) (n : Int) : (lastA ls ds x n).length < 1000000 := by
  have h1 := (endP_ok (n := n) p).2.2.2
  have h2 := hx n
  unfold lastA
  rw [List.length_append]
  omega
theorem len_nil (n : Int) : (xNil (endP ls ds n).1 n).length ≤ 1000 := by simp [xNil]
theorem len_gaps (p : Pk ls ds) (n : Int) : (xGaps ls (endP ls ds n).1 n).length ≤ 1000 := by
  have := (endP_ok (n := n) p).2.1
  unfold xGaps
  rw [List.length_map, spaces_len]
  omega
theorem lastA_go (p : Pk ls ds) {x : Row → Int → List Fm} (hx : ∀ n, Ak (x (endP ls ds n).1 n)) : ∀ n, 10 ≤ n → n ≤ 900 → ∀ e, untilP (lastA ls ds x n) n = some e → n ≤ e ∧ e < 900 := fun n h1 _ => until_go h1 fun f hf => (lastA_ak p hx n f hf).2
theorem lastA_ask (p : Pk ls ds) {x : Row → Int → List Fm} (hx : ∀ n, Ak (x (endP ls ds n).1 n)) (hl : ∀ n, (x (endP ls ds n).1 n).length ≤ 1000) : ∀ n, (∀ a ∈ lastA ls ds x n, -100 ≤ a.1 ∧ a.1 ≤ 100) ∧ (lastA ls ds x n).length < 1000000 := fun n => ⟨fun a ha => (lastA_ak p hx n a ha).1, lastA_len p hl n⟩
theorem endP_same {n m : Int} {x : Row → Int → List Fm} (h : ∀ f ∈ lastA ls ds x n, sgn f m = sgn f n) : endP ls ds m = endP ls ds n := runP_same ls n m ds [] [] [] fun f hf => h f (List.mem_append_left _ hf)
theorem st_done (n m : Int) (h : ∀ f ∈ lastA ls ds xNil n, sgn f m = sgn f n) : lastH ls ds hDone m = lastH ls ds hDone n := by unfold lastH hDone; rw [endP_same h]
theorem st_row (n m : Int) (h : ∀ f ∈ lastA ls ds xNil n, sgn f m = sgn f n) : lastH ls ds hRow m = lastH ls ds hRow n := by unfold lastH hRow; rw [endP_same h]
theorem st_place (c : Nat) (n m : Int) (h : ∀ f ∈ lastA ls ds xNil n, sgn f m = sgn f n) : lastH ls ds (hPlace c) m = lastH ls ds (hPlace c) n := by unfold lastH hPlace; rw [endP_same h]
theorem st_gaps (n m : Int) (h : ∀ f ∈ lastA ls ds (xGaps ls) n, sgn f m = sgn f n) : lastH ls ds (hGaps ls) m = lastH ls ds (hGaps ls) n := by
  unfold lastH hGaps
  rw [endP_same h]
  congr 2
  unfold gapP
  refine List.filter_congr fun g hg => ?_
  have := h g.2 (List.mem_append_right _ (List.mem_map.mpr ⟨g, hg, rfl⟩))
  rw [decide_eq_decide, ← sgn_gt, ← sgn_gt, this]
theorem inj_done (n m : Int) (h : eqD (lastH ls ds hDone n) (lastH ls ds hDone m) = true) : lastH ls ds hDone n = lastH ls ds hDone m := by
  have := eqL_inj D.bl (fun a b e => by simpa using e) _ _ h
  show diD _ = diD _
  rw [this]
theorem inj_row (n m : Int) (h : eqD (lastH ls ds hRow n) (lastH ls ds hRow m) = true) : lastH ls ds hRow n = lastH ls ds hRow m := by
  have e : ∀ r : Row, (r.map fun c => D.int c.1) = (r.map (·.1)).map fun c : Nat => D.int c := fun r => by rw [List.map_map]; rfl
  have h : eqL ((endP ls ds n).1.map fun c => D.int c.1) ((endP ls ds m).1.map fun c => D.int c.1) = true := h
  rw [e, e] at h
  have := eqL_inj (fun c : Nat => D.int c) (fun a b e => by simp at e; omega) _ _ h
  show D.tup _ = D.tup _
  rw [e, e, this]
theorem inj_place (c : Nat) (n m : Int) (h : eqD (lastH ls ds (hPlace c) n) (lastH ls ds (hPlace c) m) = true) : lastH ls ds (hPlace c) n = lastH ls ds (hPlace c) m := by
  have := eqD_of _ _ h
  show ofD _ = ofD _
  rw [this]
theorem inj_gaps (n m : Int) (h : eqD (lastH ls ds (hGaps ls) n) (lastH ls ds (hGaps ls) m) = true) : lastH ls ds (hGaps ls) n = lastH ls ds (hGaps ls) m := by
  have := eqL_inj gD eqD_gD _ _ h
  show D.tup _ = D.tup _
  rw [this]
end
end KI


set_option Elab.async false
set_option linter.all false
set_option maxRecDepth 100000
set_option autoImplicit false
set_option maxHeartbeats 1000000
/-! done_rows, place_rows, gap_rows, row_rows. -/
namespace KI
open PySem
def rowsD (rs : List Rw) : D := .lst (rs.map rD)
def rsDone (ls : List Int) (ds : List Dd) : List Rw := rowsJ (lastH ls ds hDone) (lastA ls ds xNil)
def rsRow (ls : List Int) (ds : List Dd) : List Rw := rowsJ (lastH ls ds hRow) (lastA ls ds xNil)
def rsPlace (ls : List Int) (ds : List Dd) (c : Nat) : List Rw := rowsJ (lastH ls ds (hPlace c)) (lastA ls ds xNil)
def rsGaps (ls : List Int) (ds : List Dd) : List Rw := rowsJ (lastH ls ds (hGaps ls)) (lastA ls ds (xGaps ls))
theorem kept_rows {rs : List Rw} (h : ∀ r ∈ rs, r.d.cf = true) : kept (.ok (rowsD rs) []) = .ok (rowsD rs) [] := by
  show (if (cfL (rs.map rD) = true ∧ stoCf [] = true) then _ else Res.no) = _
  rw [if_pos ⟨cf_rs h, rfl⟩]
theorem pure_rows {rs : List Rw} (h : ∀ r ∈ rs, r.d.pure = true) : (rowsD rs).pure = true := by
  rw [rowsD, pu_lst]
  exact pure_rs h
section
variable {L : Lw} [L.Std] {k : Nat} {S : Sto} {n : Int} {ls : List Int} {ds : List Dd}
theorem done_rows_ok (p : Pk ls ds) (hfu : 1000 ≤ L.fuel) : L.run (k + 13) (.glo f_done_rows) [plD ls ds] S = .ok (rowsD (rsDone ls ds)) S := by
  have e1 := needp_ok (L := L) (k := k + 8) (S := []) p
  have e2 : L.run (k + 12) (.glo f_by_last) [plD ls ds, .clo 2 m_done_rows_0 []] [] = .ok (rowsD (rsDone ls ds)) [] := by_last_ok (L := L) (k := k) (S := []) p (tst_done (k := k + 7)) hfu (lastA_ask p ak_nil len_nil) (lastA_go p ak_nil)
  have hk := kept_rows (rs := rsDone ls ds) (rowsJ_all (fun d => d.cf = true) fun n => (tst_done (L := L) (k := 0) (ls := ls)).hc _ _ _)
  refine run_reg (S' := []) h_done_rows rfl ⟨rfl, by decide⟩ (by simp [gd_pure _ _ _ p.gd]) ?_ (pure_rows (rowsJ_all (fun d => d.pure = true) fun n => (tst_done (L := L) (k := 0) (ls := ls)).hp _ _ _))
  have s1 : exs L.cons (L.run (k + 12)) L.fuel (.exp (.call f_need_plan (.cons (.var 0) .nil))) [some (plD ls ds)] [] = .nx [some (plD ls ds)] [] := by simp [e1]
  have s2 : ev L.cons (L.run (k + 12)) (.callL f_by_last (.cons (.var 0) .nil) 2 [] m_done_rows_0) [some (plD ls ds)] [] = .ok (rowsD (rsDone ls ds)) [] := by
    simp
    rw [e2, hk]
  have s3 : exs L.cons (L.run (k + 12)) L.fuel (.ret (.callL f_by_last (.cons (.var 0) .nil) 2 [] m_done_rows_0)) [some (plD ls ds)] [] = .rt (rowsD (rsDone ls ds)) [] := by rw [exs_ret, s2]
  exact (exss_nx s1).trans (exss_rt s3)
theorem row_rows_ok (p : Pk ls ds) (hfu : 1000 ≤ L.fuel) : L.run (k + 13) (.glo f_row_rows) [plD ls ds] S = .ok (rowsD (rsRow ls ds)) S := by
  have e1 := needp_ok (L := L) (k := k + 8) (S := []) p
  have e2 : L.run (k + 12) (.glo f_by_last) [plD ls ds, .clo 2 m_row_rows_0 []] [] = .ok (rowsD (rsRow ls ds)) [] := by_last_ok (L := L) (k := k) (S := []) p (tst_row (k := k + 6)) hfu (lastA_ask p ak_nil len_nil) (lastA_go p ak_nil)
  have hk := kept_rows (rs := rsRow ls ds) (rowsJ_all (fun d => d.cf = true) fun n => (tst_row (L := L) (k := 0) (ls := ls)).hc _ _ _)
  refine run_reg (S' := []) h_row_rows rfl ⟨rfl, by decide⟩ (by simp [gd_pure _ _ _ p.gd]) ?_ (pure_rows (rowsJ_all (fun d => d.pure = true) fun n => (tst_row (L := L) (k := 0) (ls := ls)).hp _ _ _))
  have s1 : exs L.cons (L.run (k + 12)) L.fuel (.exp (.call f_need_plan (.cons (.var 0) .nil))) [some (plD ls ds)] [] = .nx [some (plD ls ds)] [] := by simp [e1]
  have s2 : ev L.cons (L.run (k + 12)) (.callL f_by_last (.cons (.var 0) .nil) 2 [] m_row_rows_0) [some (plD ls ds)] [] = .ok (rowsD (rsRow ls ds)) [] := by
    simp
    rw [e2, hk]
  have s3 : exs L.cons (L.run (k + 12)) L.fuel (.ret (.callL f_by_last (.cons (.var 0) .nil) 2 [] m_row_rows_0)) [some (plD ls ds)] [] = .rt (rowsD (rsRow ls ds)) [] := by rw [exs_ret, s2]
  exact (exss_nx s1).trans (exss_rt s3)
theorem gap_rows_ok (p : Pk ls ds) (hfu : 1000 ≤ L.fuel) : L.run (k + 13) (.glo f_gap_rows) [plD ls ds] S = .ok (rowsD (rsGaps ls ds)) S := by
  have e1 := needp_ok (L := L) (k := k + 8) (S := []) p
  have e2 : L.run (k + 12) (.glo f_by_last) [plD ls ds, .fn f_gap_forms] [] = .ok (rowsD (rsGaps ls ds)) [] := by_last_ok (L := L) (k := k) (S := []) p (tst_gaps (k := k + 4)) hfu (lastA_ask p (ak_gaps p) (len_gaps p)) (lastA_go p (ak_gaps p))
  refine run_reg (S' := []) h_gap_rows rfl ⟨rfl, by decide⟩ (by simp [gd_pure _ _ _ p.gd]) ?_ (pure_rows (rowsJ_all (fun d => d.pure = true) fun n => (tst_gaps (L := L) (k := 0) (ls := ls)).hp _ _ _))
  have s1 : exs L.cons (L.run (k + 12)) L.fuel (.exp (.call f_need_plan (.cons (.var 0) .nil))) [some (plD ls ds)] [] = .nx [some (plD ls ds)] [] := by simp [e1]
  have s2 : exs L.cons (L.run (k + 12)) L.fuel (.ret (.call f_by_last (.cons (.var 0) (.cons (.fnv f_gap_forms) .nil)))) [some (plD ls ds)] [] = .rt (rowsD (rsGaps ls ds)) [] := by simp [e2]
  exact (exss_nx s1).trans (exss_rt s2)
theorem need_both_ok (p : Pk ls ds) {c : Nat} (hc : c < ls.length) : L.run (k + 5) (.glo f_need_both) [plD ls ds, .int c] S = .ok .non S := by
  have e1 := needp_ok (L := L) (k := k) (S := []) p
  have e2 : L.run (k + 4) (.glo f_need_car) [plD ls ds, .int c] [] = .ok .non [] := by
    have e3 : L.run (k + 3) (.glo f_is_number) [.int c, .int 0, .int ((ls.length : Int) - 1)] [] = .ok (.bl (isNum (.int c) 0 ((ls.length : Int) - 1))) [] := num_ok (L := L) (h := 0) (w := 0) rfl
    have e4 : isNum (.int (c : Int)) 0 ((ls.length : Int) - 1) = true := by simp [isNum]; omega
    rw [e4] at e3
    refine run_regN (ρ := [some (plD ls ds), some (.int c)]) (S' := []) h_need_car rfl ⟨rfl, by decide⟩ (by simp [gd_pure _ _ _ p.gd]) ?_
    have g0 : idxD [] (plD ls ds) (.int 0) = some (lsD ls) := by simp [plD]
    have g1 : biD [] .len [lsD ls] = some (.int ls.length) := by simp [lsD]
    simp [d_need_car, g0, g1, e3]
  refine run_regN (ρ := [some (plD ls ds), some (.int c)]) (S' := []) h_need_both rfl ⟨rfl, by decide⟩ (by simp [gd_pure _ _ _ p.gd]) ?_
  simp [d_need_both, e1, e2]
theorem place_rows_ok (p : Pk ls ds) (hfu : 1000 ≤ L.fuel) {c : Nat} (hc : c < ls.length) : L.run (k + 13) (.glo f_place_rows) [plD ls ds, .int c] S = .ok (rowsD (rsPlace ls ds c)) S := by
  have e1 := need_both_ok (L := L) (k := k + 7) (S := []) p hc
  have e2 : L.run (k + 12) (.glo f_by_last) [plD ls ds, .clo 2 m_place_rows_0 [.int c]] [] = .ok (rowsD (rsPlace ls ds c)) [] := by_last_ok (L := L) (k := k) (S := []) p (tst_place (k := k + 5)) hfu (lastA_ask p ak_nil len_nil) (lastA_go p ak_nil)
  have hk := kept_rows (rs := rsPlace ls ds c) (rowsJ_all (fun d => d.cf = true) fun n => (tst_place (L := L) (k := 0) (ls := ls) (c := c)).hc _ _ _)
  refine run_reg (S' := []) h_place_rows rfl ⟨rfl, by decide⟩ (by simp [gd_pure _ _ _ p.gd]) ?_ (pure_rows (rowsJ_all (fun d => d.pure = true) fun n => (tst_place (L := L) (k := 0) (ls := ls) (c := c)).hp _ _ _))
  have s1 : exs L.cons (L.run (k + 12)) L.fuel (.exp (.call f_need_both (.cons (.var 0) (.cons (.var 1) .nil)))) [some (plD ls ds), some (.int c)] [] = .nx [some (plD ls ds), some (.int c)] [] := by simp [e1]
  have s2 : ev L.cons (L.run (k + 12)) (.callL f_by_last (.cons (.var 0) .nil) 2 [1] m_place_rows_0) [some (plD ls ds), some (.int c)] [] = .ok (rowsD (rsPlace ls ds c)) [] := by
    simp
    rw [e2, hk]
  have s3 : exs L.cons (L.run (k + 12)) L.fuel (.ret (.callL f_by_last (.cons (.var 0) .nil) 2 [1] m_place_rows_0)) [some (plD ls ds), some (.int c)] [] = .rt (rowsD (rsPlace ls ds c)) [] := by rw [exs_ret, s2]
  exact (exss_nx s1).trans (exss_rt s3)
end
/-! ### all of them are rows -/
section
variable {ls : List Int} {ds : List Dd}
theorem rsDone_ok (p : Pk ls ds) : rowsOk (lastH ls ds hDone) 10 (rsDone ls ds) ∧ rowsNe (rsDone ls ds) := rowsJ_ok (fun n m _ _ h => st_done n m h) (lastA_go p ak_nil) inj_done
theorem rsRow_ok (p : Pk ls ds) : rowsOk (lastH ls ds hRow) 10 (rsRow ls ds) ∧ rowsNe (rsRow ls ds) := rowsJ_ok (fun n m _ _ h => st_row n m h) (lastA_go p ak_nil) inj_row
theorem rsPlace_ok (p : Pk ls ds) (c : Nat) : rowsOk (lastH ls ds (hPlace c)) 10 (rsPlace ls ds c) ∧ rowsNe (rsPlace ls ds c) := rowsJ_ok (fun n m _ _ h => st_place c n m h) (lastA_go p ak_nil) (inj_place c)
theorem rsGaps_ok (p : Pk ls ds) : rowsOk (lastH ls ds (hGaps ls)) 10 (rsGaps ls ds) ∧ rowsNe (rsGaps ls ds) := rowsJ_ok (fun n m _ _ h => st_gaps n m h) (lastA_go p (ak_gaps p)) inj_gaps
end
end KI


set_option Elab.async false
set_option linter.all false
set_option maxRecDepth 100000
set_option autoImplicit false
set_option maxHeartbeats 1000000
/-! The laws' own looks at rows. -/
namespace KI
open PySem
section
variable {L : Lw} [L.Std] {k : Nat} {S : Sto} {n : Int}
theorem told_loop {x0 : Option D} : ∀ (rs : List Rw) (x y z : Option D) (r : Rw), rs.find? (inRw n) = some r → evFor (.tp (.cons (.nm 2) (.cons (.nm 3) (.cons (.nm 4) .nil)))) (exss L.cons (L.run k) L.fuel b__law_told_at_0) (rs.map rD) [x0, some (.int n), x, y, z] S = .rt r.d S
  | [], _, _, _, r, h => by cases h
  | q :: rs, x, y, z, r, h => by
    rw [List.map_cons]
    unfold evFor
    have eb : bindT (.tp (.cons (.nm 2) (.cons (.nm 3) (.cons (.nm 4) .nil)))) (rD q) [x0, some (.int n), x, y, z] = some [x0, some (.int n), some (.int q.lo), some (owD q.hi), some q.d] := by simp [rD]
    rw [eb]
    show (exss L.cons (L.run k) L.fuel b__law_told_at_0 [x0, some (.int n), some (.int q.lo), some (owD q.hi), some q.d] S).then _ = _
    rw [List.find?_cons] at h
    cases c : inRw n q with
    | true =>
      rw [c] at h
      cases h
      have e : exss L.cons (L.run k) L.fuel b__law_told_at_0 [x0, some (.int n), some (.int q.lo), some (owD q.hi), some q.d] S = .rt q.d S := by
        unfold inRw at c
        cases hq : q.hi with
        | none =>
          rw [hq] at c
          have c1 : q.lo ≤ n := by simpa using c
          simp [b__law_told_at_0, owD, c1]
        | some e =>
          rw [hq] at c
          have c1 : q.lo ≤ n ∧ n ≤ e := by simpa using c
          simp [b__law_told_at_0, owD, c1.1, c1.2]
      rw [e]
    | false =>
      rw [c] at h
      have e : exss L.cons (L.run k) L.fuel b__law_told_at_0 [x0, some (.int n), some (.int q.lo), some (owD q.hi), some q.d] S = .nx [x0, some (.int n), some (.int q.lo), some (owD q.hi), some q.d] S := by
        unfold inRw at c
        cases hq : q.hi with
        | none =>
          rw [hq] at c
          have c1 : ¬ q.lo ≤ n := by simpa using c
          simp [b__law_told_at_0, owD, c1]
        | some e =>
          rw [hq] at c
          by_cases c1 : q.lo ≤ n
          · have c2 : ¬ n ≤ e := by
              intro z
              rw [decide_eq_true c1] at c
              simp [z] at c
            simp [b__law_told_at_0, owD, c1, c2]
          · simp [b__law_told_at_0, owD, c1]
      rw [e]
      exact told_loop rs _ _ _ r h
theorem told_at_ok {rs : List Rw} {r : Rw} (h : rs.find? (inRw n) = some r) (hp : ∀ r ∈ rs, r.d.pure = true) : L.run (k + 1) (.glo f__law_told_at) [rowsD rs, .int n] S = .ok r.d S := by
  have e := told_loop (L := L) (k := k) (S := []) (x0 := some (rowsD rs)) rs none none none r h
  refine run_reg (S' := []) h__law_told_at rfl ⟨rfl, by decide⟩ (by simp [pure_rows hp]) ?_ (hp r (List.mem_of_find?_eq_some h))
  have s1 : exs L.cons (L.run k) L.fuel (.for_ (.tp (.cons (.nm 2) (.cons (.nm 3) (.cons (.nm 4) .nil)))) (.val (.var 0)) b__law_told_at_0) [some (rowsD rs), some (.int n), none, none, none] [] = .rt r.d [] := by
    have e6 : evi L.cons (L.run k) (.val (.var 0)) [some (rowsD rs), some (.int n), none, none, none] [] = .ok (rs.map rD) [] := by simp [rowsD]
    rw [exs_for_, e6]
    exact e
  exact exss_rt s1
/-! ### lengths to try -/
theorem spots_loop {x0 x1 : Option D} : ∀ (rs : List Rw) (fo : List Int) (x y z : Option D), (∀ r ∈ rs, 10 ≤ r.lo ∧ ∀ h, r.hi = some h → 10 ≤ h) → (∀ i ∈ fo, 10 ≤ i) → fo.length + 4 * rs.length < 10000 →
    ∃ (xs : List Int) (x' y' z' : Option D), evFor (.tp (.cons (.nm 3) (.cons (.nm 4) (.cons (.nm 5) .nil)))) (exss L.cons (L.run k) L.fuel b__law_spots_0) (rs.map rD) [x0, x1, some (.lst (fo.map .int)), x, y, z] S = .nx [x0, x1, some (.lst (xs.map .int)), x', y', z'] S ∧ ∀ i ∈ xs, 10 ≤ i
  | [], fo, x, y, z, _, hf, _ => ⟨fo, x, y, z, rfl, hf⟩
  | r :: rs, fo, x, y, z, hr, hf, hl => by
    rw [List.length_cons] at hl
    obtain ⟨r0, r1⟩ := hr r List.mem_cons_self
    have hr' : ∀ r ∈ rs, 10 ≤ r.lo ∧ ∀ h, r.hi = some h → 10 ≤ h := fun r h => hr r (List.mem_cons_of_mem _ h)
    have eb : bindT (.tp (.cons (.nm 3) (.cons (.nm 4) (.cons (.nm 5) .nil)))) (rD r) [x0, x1, some (.lst (fo.map .int)), x, y, z] = some [x0, x1, some (.lst (fo.map .int)), some (.int r.lo), some (owD r.hi), some r.d] := by simp [rD]
    have h1 : fo.length + 2 ≤ 16777216 := by omega
    have h2 : fo.length + 2 + 2 ≤ 16777216 := by omega
    have h3 : fo.length ≤ 16777214 := by omega
    have h4 : fo.length ≤ 16777212 := by omega
    rw [List.map_cons]
    unfold evFor
    rw [eb]
    show ∃ (xs : List Int) (x' y' z' : Option D), (exss L.cons (L.run k) L.fuel b__law_spots_0 [x0, x1, some (.lst (fo.map .int)), some (.int r.lo), some (owD r.hi), some r.d] S).then _ = _ ∧ _
    cases hq : r.hi with
    | none =>
      have e : exss L.cons (L.run k) L.fuel b__law_spots_0 [x0, x1, some (.lst (fo.map .int)), some (.int r.lo), some (owD none), some r.d] S = .nx [x0, x1, some (.lst ((fo ++ [r.lo, r.lo + 1]).map .int)), some (.int r.lo), some (owD none), some r.d] S := by
        simp [b__law_spots_0, owD, h1, h3]
      rw [e]
      refine spots_loop rs (fo ++ [r.lo, r.lo + 1]) _ _ _ hr' (fun i hi => ?_) (by simp; omega)
      rcases List.mem_append.mp hi with hi | hi
      · exact hf i hi
      · simp at hi; omega
    | some h =>
      have h10 := r1 h hq
      have e : exss L.cons (L.run k) L.fuel b__law_spots_0 [x0, x1, some (.lst (fo.map .int)), some (.int r.lo), some (owD (some h)), some r.d] S = .nx [x0, x1, some (.lst ((fo ++ [r.lo, r.lo + 1, h, h + 1]).map .int)), some (.int r.lo), some (owD (some h)), some r.d] S := by
        simp [b__law_spots_0, owD, h1, h2, h3, h4, isNon]
      rw [e]
      refine spots_loop rs (fo ++ [r.lo, r.lo + 1, h, h + 1]) _ _ _ hr' (fun i hi => ?_) (by simp; omega)
      rcases List.mem_append.mp hi with hi | hi
      · exact hf i hi
      · simp at hi; omega
end
end KI


set_option Elab.async false
set_option linter.all false
set_option maxRecDepth 100000
set_option autoImplicit false
set_option maxHeartbeats 1000000
/-! Lengths to try; rows that are rows. -/
namespace KI
open PySem
theorem rowsOk_last {H : Int → D} : ∀ {rs : List Rw} {lo : Int}, rowsOk H lo rs → ∃ ini l, rs = ini ++ [l] ∧ l.hi = none
  | [], _, h => h.elim
  | r :: rs, lo, h => by
    obtain ⟨_, h2⟩ := h
    rcases h2 with ⟨k0, k1, _⟩ | ⟨_, _, _, _, k3⟩
    · subst k1
      exact ⟨[], r, rfl, k0⟩
    · obtain ⟨ini, l, e, q⟩ := rowsOk_last k3
      exact ⟨r :: ini, l, by rw [e]; rfl, q⟩
theorem rowsOk_ten {H : Int → D} : ∀ {rs : List Rw} {lo : Int}, 10 ≤ lo → rowsOk H lo rs → ∀ r ∈ rs, 10 ≤ r.lo ∧ ∀ h, r.hi = some h → 10 ≤ h
  | [], _, _, h => h.elim
  | r :: rs, lo, hlo, h => by
    obtain ⟨h1, h2⟩ := h
    rcases h2 with ⟨k0, k1, _⟩ | ⟨e, k0, k1, _, k3⟩
    · subst k1
      intro x hx
      have : x = r := by simpa using hx
      subst this
      exact ⟨by omega, fun h z => by rw [k0] at z; cases z⟩
    · intro x hx
      rcases List.mem_cons.mp hx with q | hx
      · subst q
        exact ⟨by omega, fun h z => by rw [k0] at z; cases z; omega⟩
      · exact rowsOk_ten (by omega) k3 x hx
section
variable {L : Lw} [L.Std] {k : Nat} {S : Sto} {n : Int}
theorem are_loop {H : Int → D} {x0 : Option D} : ∀ (rs : List Rw) (lo : Int) (x y : Option D), rowsOk H lo rs → rowsNe rs → (∀ r ∈ rs, shp 62 r.d = true) →
    ∃ x' y', evFor (.tp (.cons (.nm 1) (.cons (.nm 2) .nil))) (exss L.cons (L.run k) L.fuel b__law_are_rows_0) (zipL (rs.map rD) ((rs.drop 1).map rD)) [x0, x, y] S = .nx [x0, x', y'] S
  | [], _, _, _, h, _, _ => h.elim
  | [r], _, x, y, _, _, _ => ⟨x, y, rfl⟩
  | r :: r' :: rs, lo, x, y, h, hn, hs => by
    obtain ⟨h1, h2⟩ := h
    rcases h2 with ⟨_, k1, _⟩ | ⟨e, k0, k1, _, k3⟩
    · cases k1
    · have q1 : r'.lo = e + 1 := k3.1
      have s1 : shp 64 r.d = true := shp_le (by omega) (hs r (by simp))
      have s2 : shp 64 r'.d = true := shp_le (by omega) (hs r' (by simp))
      have c1 : ¬ e < r.lo := by omega
      obtain ⟨x', y', q⟩ := are_loop (x0 := x0) (r' :: rs) (e + 1) (some (rD r)) (some (rD r')) k3 hn.2 (fun r h => hs r (List.mem_cons_of_mem _ h))
      refine ⟨x', y', ?_⟩
      show evFor _ _ (.tup [rD r, rD r'] :: zipL ((r' :: rs).map rD) (rs.map rD)) _ S = _
      unfold evFor
      have eb : bindT (.tp (.cons (.nm 1) (.cons (.nm 2) .nil))) (.tup [rD r, rD r']) [x0, x, y] = some [x0, some (rD r), some (rD r')] := by simp
      rw [eb]
      show (exss L.cons (L.run k) L.fuel b__law_are_rows_0 [x0, some (rD r), some (rD r')] S).then _ = _
      have st : exss L.cons (L.run k) L.fuel b__law_are_rows_0 [x0, some (rD r), some (rD r')] S = .nx [x0, some (rD r), some (rD r')] S := by
        simp [b__law_are_rows_0, rD, k0, owD, c1, q1, s1, s2, hn.1]
      rw [st]
      exact q
theorem are_rows_ok {H : Int → D} {rs : List Rw} (h : rowsOk H 10 rs) (hn : rowsNe rs) (hs : ∀ r ∈ rs, shp 62 r.d = true) (hp : ∀ r ∈ rs, r.d.pure = true) : L.run (k + 1) (.glo f__law_are_rows) [rowsD rs] S = .ok (.bl true) S := by
  refine run_reg (S' := []) h__law_are_rows rfl ⟨rfl, by decide⟩ (by simp [pure_rows hp]) ?_ rfl
  obtain ⟨x, y, e⟩ := are_loop (L := L) (k := k) (S := []) (x0 := some (rowsD rs)) rs 10 none none h hn hs
  obtain ⟨ini, l, el, ql⟩ := rowsOk_last h
  have hsh : shp 64 (rowsD rs) = true := by rw [rowsD, shp64_lst]; exact shpL_rs hs
  have hne : eqD (rowsD rs) (.lst []) = false := by
    rw [el]
    cases ini <;> rfl
  have ht : isTy .list (rowsD rs) = some true := rfl
  have i0 : ∃ a b, idxD [] (rowsD rs) (.int 0) = some (.tup [.int 10, a, b]) := by
    cases rs with
    | nil => exact h.elim
    | cons r rs => exact ⟨owD r.hi, r.d, by simp [rowsD, rD, h.1]⟩
  obtain ⟨a, b, i0⟩ := i0
  have il : idxD [] (rowsD rs) (.int (-1)) = some (rD l) := by rw [rowsD, i_lst, el, List.map_append]; exact atI_snoc _ _
  have i2 : idxD [] (rD l) (.int 1) = some .non := by simp [rD, ql, owD]
  have c1 : ev L.cons (L.run k) (.or (.not (.isi (.var 0) .list)) (.cmp .eq (.var 0) (.lst .nil))) [some (rowsD rs), none, none] [] = .ok (.bl false) [] := by
    simp [-shp64_lst, ht, hsh, hne, show shp 64 (.lst []) = true from rfl]
  have c2 : ev L.cons (L.run k) (.or (.cmp .ne (.idx (.idx (.var 0) (.int 0)) (.int 0)) (.int 10)) (.cmp .notN (.idx (.idx (.var 0) (.neg (.int 1))) (.int 1)) .non)) [some (rowsD rs), none, none] [] = .ok (.bl false) [] := by
    simp [i0, il, i2]
  have s3 : exs L.cons (L.run k) L.fuel (.for_ (.tp (.cons (.nm 1) (.cons (.nm 2) .nil))) (.zip (.var 0) (.sli (.var 0) (.some (.int 1)) .none)) b__law_are_rows_0) [some (rowsD rs), none, none] [] = .nx [some (rowsD rs), x, y] [] := by
    have hc : cutD (rowsD rs) (some 1) none = some (.lst ((rs.drop 1).map rD)) := by
      show some (D.lst (cut (rs.map rD) (some ((1 : Nat) : Int)) none)) = _
      rw [cut_from]
      simp
    have e6 : evi L.cons (L.run k) (.zip (.var 0) (.sli (.var 0) (.some (.int 1)) .none)) [some (rowsD rs), none, none] [] = .ok (zipL (rs.map rD) ((rs.drop 1).map rD)) [] := by
      simp [hc]
      rfl
    rw [exs_for_, e6]
    exact e
  exact (exss_nx (ifs_false c1)).trans ((exss_nx (ifs_false c2)).trans ((exss_nx s3).trans (exss_rt (by simp))))
theorem lspots_ok {m : Nat} (h : Src S m) {every : List Rw} (hr : ∀ r ∈ every, 10 ≤ r.lo ∧ ∀ h, r.hi = some h → 10 ≤ h) : ∃ (xs : List Int) (S' : Sto), L.run (k + 2) (.glo f__law_spots) [.cell m, rowsD every] S = .ok (.lst (xs.map .int)) S' ∧ (∀ i ∈ xs, 10 ≤ i) ∧ Src S' m ∧ S'.length = S.length := by
  obtain ⟨a, S1, e1, a0, a1, s1, l1⟩ := draw_ok (L := L) (k := k) h (m := 70) (by omega) (by omega)
  obtain ⟨b, S2, e2, b0, b1, s2, l2⟩ := draw_ok (L := L) (k := k) s1 (m := 1000000) (by omega) (by omega)
  obtain ⟨xs, x, y, z, e3, hx⟩ := spots_loop (L := L) (k := k + 1) (S := S2) (x0 := some (.cell m)) (x1 := some (rowsD every)) (every.take 40) [10, 11, 1000000000000000000000000000000, 10 + a, 1000000 + b] none none none (fun r hr' => hr r (List.mem_of_mem_take hr')) (fun i hi => by simp at hi; omega) (by simp; omega)
  refine ⟨xs, S2, ?_, hx, s2, by omega⟩
  refine run_non h__law_spots rfl ⟨rfl, by decide⟩ ?_
  have t1 : exs L.cons (L.run (k + 1)) L.fuel (.set 2 (.lst (.cons (.int 10) (.cons (.int 11) (.cons (.bin .pow (.int 10) (.int 30)) (.cons (.bin .add (.int 10) (.call f__law_draw (.cons (.var 0) (.cons (.int 70) .nil)))) (.cons (.bin .add (.bin .pow (.int 10) (.int 6)) (.call f__law_draw (.cons (.var 0) (.cons (.bin .pow (.int 10) (.int 6)) .nil)))) .nil))))))) [some (.cell m), some (rowsD every), none, none, none, none] S = .nx [some (.cell m), some (rowsD every), some (.lst (([10, 11, 1000000000000000000000000000000, 10 + a, 1000000 + b] : List Int).map .int)), none, none, none] S2 := by simp [e1, e2]
  have hc : cutD (rowsD every) none (some 40) = some (.lst ((every.take 40).map rD)) := by
    show some (D.lst (cut (every.map rD) none (some ((40 : Nat) : Int)))) = _
    rw [cut_to]
    simp
  have t2 : exs L.cons (L.run (k + 1)) L.fuel (.for_ (.tp (.cons (.nm 3) (.cons (.nm 4) (.cons (.nm 5) .nil)))) (.val (.sli (.var 1) .none (.some (.int 40)))) b__law_spots_0) [some (.cell m), some (rowsD every), some (.lst (([10, 11, 1000000000000000000000000000000, 10 + a, 1000000 + b] : List Int).map .int)), none, none, none] S2 = .nx [some (.cell m), some (rowsD every), some (.lst (xs.map .int)), x, y, z] S2 := by
    have e6 : evi L.cons (L.run (k + 1)) (.val (.sli (.var 1) .none (.some (.int 40)))) [some (.cell m), some (rowsD every), some (.lst (([10, 11, 1000000000000000000000000000000, 10 + a, 1000000 + b] : List Int).map .int)), none, none, none] S2 = .ok ((every.take 40).map rD) S2 := by simp [hc]
    rw [exs_for_, e6]
    exact e3
  exact (exss_nx t1).trans ((exss_nx t2).trans (exss_rt (by simp)))
end
end KI


set_option Elab.async false
set_option linter.all false
set_option maxRecDepth 100000
set_option autoImplicit false
set_option maxHeartbeats 1000000
/-! Two plans beside one another. -/
namespace KI
open PySem
def sameB (a b : Option Fm) (n : Int) : Bool × List Fm := match a, b with
  | some x, some y => (decide (wo (le2 x y) n = 0), [le2 x y])
  | none, none => (true, [])
  | _, _ => (false, [])
def likeP (r q : Row) (n : Int) : List Nat → Bool × List Fm → Bool × List Fm
  | [], z => z
  | c :: cs, z => likeP r q n cs (z.1 && (sameB (placeOf r c) (placeOf q c) n).1, z.2 ++ (sameB (placeOf r c) (placeOf q c) n).2)
theorem sameB_len (a b : Option Fm) (n : Int) : (sameB a b n).2.length ≤ 1 := by cases a <;> cases b <;> simp [sameB]
section
variable {L : Lw} [L.Std] {k : Nat} {S : Sto} {n : Int} {ls : List Int} {ds es : List Dd}
theorem same_places_ok {a b : Option Fm} (ha : ∀ f, a = some f → 0 ≤ f.1 ∧ f.1 ≤ 1) (hb : ∀ f, b = some f → 0 ≤ f.1 ∧ f.1 ≤ 1) : L.run (k + 3) (.glo f_same_places) [ofD a, ofD b, .int n] S = .ok (.tup [.bl (sameB a b n).1, akD (sameB a b n).2]) S := by
  refine run_reg (S' := []) h_same_places rfl ⟨rfl, by decide⟩ (by simp) ?_ (by simp [akD])
  cases a with
  | none => cases b <;> simp [d_same_places, ofD, sameB, akD, isNon]
  | some x => cases b with
    | none => simp [d_same_places, ofD, sameB, akD, isNon]
    | some y =>
      have h1 := ha x rfl
      have h2 := hb y rfl
      have e := sign_ok (L := L) (k := k) (S := []) (a := x.1 - y.1) (b := x.2 - y.2) (n := n) (mo _ _ (by omega) (by omega))
      have e2 : (sgn (x.1 - y.1, x.2 - y.2) n == 0) = decide (wo (le2 x y) n = 0) := by
        rw [show (x.1 - y.1, x.2 - y.2) = le2 x y from rfl]
        by_cases c : wo (le2 x y) n = 0
        · rw [decide_eq_true c, beq_iff_eq, sgn_eq]; exact c
        · rw [decide_eq_false c, beq_eq_false_iff_ne, ne_eq, sgn_eq]; exact c
      simp [d_same_places, ofD, sameB, akD, isNon, e]
      simpa using e2
theorem like_loop {r q : Row} {b1 b2 : List Bool} {a1 a2 : List Fm} {x0 x1 : Option D} (hr : Rk ls r) (hq : Rk ls q) (hrl : r.length < 1000) (hql : q.length < 1000) : ∀ (cs : List Nat) (z : Bool × List Fm) (x3 x8 x9 : Option D), z.2.length + cs.length < 100000 →
    ∃ x3' x8' x9', evFor (.nm 3) (exss L.cons (L.run (k + 3)) L.fuel b_like_told_0) (cs.map fun j => D.int (j : Nat)) [x0, x1, some (.int n), x3, some (.cell 0), some (.cell 1), some (.bl z.1), some (akD z.2), x8, x9] [stO ls r b1 a1, stO ls q b2 a2] = .nx [x0, x1, some (.int n), x3', some (.cell 0), some (.cell 1), some (.bl (likeP r q n cs z).1), some (akD (likeP r q n cs z).2), x8', x9'] [stO ls r b1 a1, stO ls q b2 a2]
  | [], z, x3, x8, x9, _ => ⟨x3, x8, x9, rfl⟩
  | c :: cs, z, x3, x8, x9, hl => by
    rw [List.length_cons] at hl
    have hn := sameB_len (placeOf r c) (placeOf q c) n
    have e1 := place_form_ok (L := L) (k := k + 1) (S := [stO ls r b1 a1, stO ls q b2 a2]) (m := 0) (ls := ls) (r := r) (dd := b1) (ak := a1) (c := c) (by simp) hrl
    have e2 := place_form_ok (L := L) (k := k + 1) (S := [stO ls r b1 a1, stO ls q b2 a2]) (m := 1) (ls := ls) (r := q) (dd := b2) (ak := a2) (c := c) (by simp) hql
    have t1 : ([stO ls r b1 a1, stO ls q b2 a2] : Sto).set 0 (stO ls r b1 a1) = [stO ls r b1 a1, stO ls q b2 a2] := rfl
    have t2 : ([stO ls r b1 a1, stO ls q b2 a2] : Sto).set 1 (stO ls q b2 a2) = [stO ls r b1 a1, stO ls q b2 a2] := rfl
    rw [t1] at e1
    rw [t2] at e2
    have e3 := same_places_ok (L := L) (k := k) (S := [stO ls r b1 a1, stO ls q b2 a2]) (n := n) (a := placeOf r c) (b := placeOf q c) (fun f h => placeOf_ok hr h) (fun f h => placeOf_ok hq h)
    have hb : z.2.length + (sameB (placeOf r c) (placeOf q c) n).2.length ≤ 16777216 := by omega
    obtain ⟨x3', x8', x9', e⟩ := like_loop (x0 := x0) (x1 := x1) (b1 := b1) (b2 := b2) (a1 := a1) (a2 := a2) hr hq hrl hql cs (z.1 && (sameB (placeOf r c) (placeOf q c) n).1, z.2 ++ (sameB (placeOf r c) (placeOf q c) n).2) (some (.int c)) (some (.bl (sameB (placeOf r c) (placeOf q c) n).1)) (some (akD (sameB (placeOf r c) (placeOf q c) n).2)) (by simp; omega)
    refine ⟨x3', x8', x9', ?_⟩
    have s1 : exs L.cons (L.run (k + 3)) L.fuel (.unp (.tp (.cons (.nm 8) (.cons (.nm 9) .nil))) (.call f_same_places (.cons (.call f_place_form (.cons (.var 4) (.cons (.var 3) .nil))) (.cons (.call f_place_form (.cons (.var 5) (.cons (.var 3) .nil))) (.cons (.var 2) .nil))))) [x0, x1, some (.int n), some (.int c), some (.cell 0), some (.cell 1), some (.bl z.1), some (akD z.2), x8, x9] [stO ls r b1 a1, stO ls q b2 a2] = .nx [x0, x1, some (.int n), some (.int c), some (.cell 0), some (.cell 1), some (.bl z.1), some (akD z.2), some (.bl (sameB (placeOf r c) (placeOf q c) n).1), some (akD (sameB (placeOf r c) (placeOf q c) n).2)] [stO ls r b1 a1, stO ls q b2 a2] := by simp [e1, e2, e3]
    have s2 : exs L.cons (L.run (k + 3)) L.fuel (.par 6 7 (.cons (.and (.var 6) (.var 8)) (.cons (.bin .add (.var 7) (.var 9)) .nil))) [x0, x1, some (.int n), some (.int c), some (.cell 0), some (.cell 1), some (.bl z.1), some (akD z.2), some (.bl (sameB (placeOf r c) (placeOf q c) n).1), some (akD (sameB (placeOf r c) (placeOf q c) n).2)] [stO ls r b1 a1, stO ls q b2 a2] = .nx [x0, x1, some (.int n), some (.int c), some (.cell 0), some (.cell 1), some (.bl (z.1 && (sameB (placeOf r c) (placeOf q c) n).1)), some (akD (z.2 ++ (sameB (placeOf r c) (placeOf q c) n).2)), some (.bl (sameB (placeOf r c) (placeOf q c) n).1), some (akD (sameB (placeOf r c) (placeOf q c) n).2)] [stO ls r b1 a1, stO ls q b2 a2] := by
      cases z.1 <;> simp [akD, hb]
    rw [List.map_cons]
    unfold evFor
    exact (congrArg (fun z : Fl => z.then fun ρ S => evFor _ (exss L.cons (L.run (k + 3)) L.fuel b_like_told_0) (cs.map fun j => D.int (j : Nat)) ρ S) ((exss_nx s1).trans ((exss_nx s2).trans (exss_nil ..)))).trans e
end
end KI


set_option Elab.async false
set_option linter.all false
set_option maxRecDepth 100000
set_option autoImplicit false
set_option maxHeartbeats 1000000
/-! Two plans: where they part. -/
namespace KI
open PySem
/-- alike at n; what was asked -/
def likeE (ls : List Int) (ds es : List Dd) (n : Int) : Bool × List Fm := likeP (endP ls ds n).1 (endP ls es n).1 n (List.range ls.length) (true, (endP ls ds n).2.2 ++ (endP ls es n).2.2)
theorem likeP_len (r q : Row) (n : Int) : ∀ (cs : List Nat) (z : Bool × List Fm), (likeP r q n cs z).2.length ≤ z.2.length + cs.length
  | [], z => by simp [likeP]
  | c :: cs, z => by
    have h := sameB_len (placeOf r c) (placeOf q c) n
    refine Nat.le_trans (likeP_len r q n cs _) ?_
    simp; omega
section
variable {L : Lw} [L.Std] {k : Nat} {S : Sto} {n : Int} {ls : List Int} {ds es : List Dd}
theorem like_told_ok (p : Pk ls ds) (q : Pk ls es) : L.run (k + 9) (.glo f_like_told) [plD ls ds, plD ls es, .int n] S = .ok (.tup [.bl (likeE ls ds es n).1, akD (likeE ls ds es n).2]) S := by
  have hl1 := p.l1
  obtain ⟨hr, hrl, _, hra⟩ := endP_ok (n := n) p
  obtain ⟨hq, hql, _, hqa⟩ := endP_ok (n := n) q
  have e1 := last0_ok (L := L) (k := k) (n := n) p
  have e2 : L.run (k + 8) (.glo f_last_of) [plD ls es, .int n] [stO ls (endP ls ds n).1 (endP ls ds n).2.1 (endP ls ds n).2.2] = .ok (.cell 1) [stO ls (endP ls ds n).1 (endP ls ds n).2.1 (endP ls ds n).2.2, stO ls (endP ls es n).1 (endP ls es n).2.1 (endP ls es n).2.2] := last_of_ok (L := L) (k := k) (n := n) q
  obtain ⟨y3, y8, y9, e3⟩ := like_loop (L := L) (k := k + 5) (n := n) (x0 := some (plD ls ds)) (x1 := some (plD ls es)) (b1 := (endP ls ds n).2.1) (b2 := (endP ls es n).2.1) (a1 := (endP ls ds n).2.2) (a2 := (endP ls es n).2.2) hr hq (by omega) (by omega) (List.range ls.length) (true, (endP ls ds n).2.2 ++ (endP ls es n).2.2) none none none (by simp; omega)
  obtain ⟨s1, hs1⟩ : ∃ o, o = stO ls (endP ls ds n).1 (endP ls ds n).2.1 (endP ls ds n).2.2 := ⟨_, rfl⟩
  obtain ⟨s2, hs2⟩ : ∃ o, o = stO ls (endP ls es n).1 (endP ls es n).2.1 (endP ls es n).2.2 := ⟨_, rfl⟩
  have i1 : idxD [s1, s2] (.cell 0) (.str "asked") = some (akD (endP ls ds n).2.2) := by rw [hs1]; simp [stO]
  have i2 : idxD [s1, s2] (.cell 1) (.str "asked") = some (akD (endP ls es n).2.2) := by rw [hs2]; simp [stO]
  have hadd : binD .add (akD (endP ls ds n).2.2) (akD (endP ls es n).2.2) = some (akD ((endP ls ds n).2.2 ++ (endP ls es n).2.2)) := by
    have hb : (endP ls ds n).2.2.length + (endP ls es n).2.2.length ≤ 16777216 := by omega
    unfold akD
    rw [b_addt, List.length_map, List.length_map, if_pos hb, List.map_append]
  rw [← hs1] at e1 e2 e3
  rw [← hs2] at e2 e3
  refine run_reg (S' := [s1, s2]) h_like_told rfl ⟨rfl, by decide⟩ (by simp [gd_pure _ _ _ p.gd, gd_pure _ _ _ q.gd]) ?_ (by simp [akD])
  have t1 : exs L.cons (L.run (k + 8)) L.fuel (.par 4 5 (.cons (.call f_last_of (.cons (.var 0) (.cons (.var 2) .nil))) (.cons (.call f_last_of (.cons (.var 1) (.cons (.var 2) .nil))) .nil))) [some (plD ls ds), some (plD ls es), some (.int n), none, none, none, none, none, none, none] [] = .nx [some (plD ls ds), some (plD ls es), some (.int n), none, some (.cell 0), some (.cell 1), none, none, none, none] [s1, s2] := by simp [e1, e2]
  have t2 : exs L.cons (L.run (k + 8)) L.fuel (.par 6 7 (.cons (.bl true) (.cons (.bin .add (.idx (.var 4) (.str "asked")) (.idx (.var 5) (.str "asked"))) .nil))) [some (plD ls ds), some (plD ls es), some (.int n), none, some (.cell 0), some (.cell 1), none, none, none, none] [s1, s2] = .nx [some (plD ls ds), some (plD ls es), some (.int n), none, some (.cell 0), some (.cell 1), some (.bl true), some (akD ((endP ls ds n).2.2 ++ (endP ls es n).2.2)), none, none] [s1, s2] := by simp [-i_cells, i1, i2, hadd]
  have t3 : exs L.cons (L.run (k + 8)) L.fuel (.for_ (.nm 3) (.rng1 (.bi .len (.cons (.idx (.var 0) (.int 0)) .nil))) b_like_told_0) [some (plD ls ds), some (plD ls es), some (.int n), none, some (.cell 0), some (.cell 1), some (.bl true), some (akD ((endP ls ds n).2.2 ++ (endP ls es n).2.2)), none, none] [s1, s2] = .nx [some (plD ls ds), some (plD ls es), some (.int n), y3, some (.cell 0), some (.cell 1), some (.bl (likeE ls ds es n).1), some (akD (likeE ls ds es n).2), y8, y9] [s1, s2] := by
    have hro : rngOk ls.length = true := rngOk_of (by omega) (by omega)
    have e6 : evi L.cons (L.run (k + 8)) (.rng1 (.bi .len (.cons (.idx (.var 0) (.int 0)) .nil))) [some (plD ls ds), some (plD ls es), some (.int n), none, some (.cell 0), some (.cell 1), some (.bl true), some (akD ((endP ls ds n).2.2 ++ (endP ls es n).2.2)), none, none] [s1, s2] = .ok ((List.range ls.length).map fun j => D.int (j : Nat)) [s1, s2] := by simp [plD, lsD, hro, rngL_nat]
    rw [exs_for_, e6]
    exact e3
  exact (exss_nx t1).trans ((exss_nx t2).trans ((exss_nx t3).trans (exss_rt (by simp))))
end
end KI


set_option Elab.async false
set_option linter.all false
set_option maxRecDepth 100000
set_option autoImplicit false
set_option maxHeartbeats 1000000
/-! Alike: asked, steady. -/
namespace KI
open PySem
def Pb (o : Option Fm) : Prop := ∀ f, o = some f → (0 ≤ f.1 ∧ f.1 ≤ 1) ∧ (-90 ≤ f.2 ∧ f.2 ≤ 90)
theorem placeOf_pb {ls : List Int} {r : Row} (hr : Rk ls r) (hb : Bd 90 r) (c : Nat) : Pb (placeOf r c) := fun f q => by
  refine ⟨placeOf_ok hr q, ?_⟩
  unfold placeOf at q
  cases q2 : spotP r c with
  | none => rw [q2] at q; cases q
  | some i =>
    rw [q2] at q
    cases q
    exact hb _ (rAt_mem (spotP_lt q2))
theorem sameB_ak {a b : Option Fm} {n : Int} (ha : Pb a) (hb : Pb b) : Ak (sameB a b n).2 := by
  cases a with
  | none => cases b <;> exact fun _ h => nomatch h
  | some x => cases b with
    | none => exact fun _ h => nomatch h
    | some y =>
      have h1 := ha x rfl
      have h2 := hb y rfl
      refine Ak.one ?_
      simp only [le2]
      omega
theorem likeP_ak {r q : Row} {n : Int} (hr : ∀ c, Pb (placeOf r c)) (hq : ∀ c, Pb (placeOf q c)) : ∀ (cs : List Nat) (z : Bool × List Fm), Ak z.2 → Ak (likeP r q n cs z).2
  | [], z, h => h
  | c :: cs, z, h => likeP_ak hr hq cs _ (h.app (sameB_ak (hr c) (hq c)))
theorem likeP_sub {r q : Row} {n : Int} : ∀ (cs : List Nat) (z : Bool × List Fm), ∀ f ∈ z.2, f ∈ (likeP r q n cs z).2
  | [], z, f, h => h
  | c :: cs, z, f, h => likeP_sub cs _ f (List.mem_append_left _ h)
theorem sameB_same {a b : Option Fm} {n m : Int} (h : ∀ f ∈ (sameB a b n).2, sgn f m = sgn f n) : sameB a b m = sameB a b n := by
  cases a with
  | none => cases b <;> rfl
  | some x => cases b with
    | none => rfl
    | some y =>
      have := h (le2 x y) (by simp [sameB])
      have e : (wo (le2 x y) m = 0) = (wo (le2 x y) n = 0) := by rw [← sgn_eq, ← sgn_eq, this]
      simp only [sameB]
      congr 1
      rw [decide_eq_decide, e]
theorem likeP_same {r q : Row} {n m : Int} : ∀ (cs : List Nat) (z : Bool × List Fm), (∀ f ∈ (likeP r q n cs z).2, sgn f m = sgn f n) → likeP r q m cs z = likeP r q n cs z
  | [], z, _ => rfl
  | c :: cs, z, h => by
    have e := sameB_same (a := placeOf r c) (b := placeOf q c) (n := n) (m := m) fun f hf => h f (likeP_sub cs _ f (List.mem_append_right _ hf))
    show likeP r q m cs _ = likeP r q n cs _
    rw [e]
    exact likeP_same cs _ h
theorem likeE_same {ls : List Int} {ds es : List Dd} {n m : Int} (h : ∀ f ∈ (likeE ls ds es n).2, sgn f m = sgn f n) : likeE ls ds es m = likeE ls ds es n := by
  have e1 : endP ls ds m = endP ls ds n := runP_same ls n m ds [] [] [] fun f hf => h f (likeP_sub _ _ f (List.mem_append_left _ hf))
  have e2 : endP ls es m = endP ls es n := runP_same ls n m es [] [] [] fun f hf => h f (likeP_sub _ _ f (List.mem_append_right _ hf))
  unfold likeE
  rw [e1, e2]
  exact likeP_same _ _ h
theorem likeE_ak {ls : List Int} {ds es : List Dd} (p : Pk ls ds) (q : Pk ls es) (n : Int) : Ak (likeE ls ds es n).2 :=
  likeP_ak (fun c => placeOf_pb (endP_ok p).1 (endP_bd p n).1 c) (fun c => placeOf_pb (endP_ok q).1 (endP_bd q n).1 c) _ _ ((endP_bd p n).2.app (endP_bd q n).2)
theorem likeE_len {ls : List Int} {ds es : List Dd} (p : Pk ls ds) (q : Pk ls es) (n : Int) : (likeE ls ds es n).2.length < 1000000 := by
  have h1 := (endP_ok (n := n) p).2.2.2
  have h2 := (endP_ok (n := n) q).2.2.2
  have h3 := p.l1
  have := likeP_len (endP ls ds n).1 (endP ls es n).1 n (List.range ls.length) (true, (endP ls ds n).2.2 ++ (endP ls es n).2.2)
  unfold likeE
  simp at this
  omega
def hLike (ls : List Int) (ds es : List Dd) (n : Int) : D := .bl (likeE ls ds es n).1
section
variable {L : Lw} [L.Std] {k : Nat} {S : Sto} {n : Int} {ls : List Int} {ds es : List Dd}
theorem like_tells (p : Pk ls ds) (q : Pk ls es) : Tells L (k + 10) (.clo 1 m_parting_number_0 [plD ls ds, plD ls es]) (hLike ls ds es) (fun n => (likeE ls ds es n).2) 900 := by
  refine ⟨rfl, ?_, fun n h1 h2 => ?_, fun n _ _ => ⟨fun a ha => (likeE_ak p q n a ha).1, likeE_len p q n⟩, fun n => rfl, fun n => rfl, fun n h1 _ => until_go h1 fun f hf => (likeE_ak p q n f hf).2⟩
  · show pureL [plD ls ds, plD ls es] = true
    simp [gd_pure _ _ _ p.gd, gd_pure _ _ _ q.gd]
  · have e := like_told_ok (L := L) (k := k) (S := []) (n := n) p q
    show (if ([D.int n] : List D).length = 1 ∧ cfL [D.int n] = true ∧ stoCf [] = true then L.run (k + 10) (.lam m_parting_number_0) [.int n, plD ls ds, plD ls es] [] else .no) = _
    rw [if_pos ⟨rfl, rfl, rfl⟩]
    refine run_lam ?_
    simp [m_parting_number_0, e, hLike]
end
end KI


set_option Elab.async false
set_option linter.all false
set_option maxRecDepth 100000
set_option autoImplicit false
set_option maxHeartbeats 1000000
/-! The least length with which rows tell something. -/
namespace KI
open PySem
def leastP (rs : List Rw) (d : D) : Option Int := ((rs.filter fun r => eqD r.d d).map (·.lo)).head?
section
variable {L : Lw} [L.Std] {k : Nat} {S : Sto} {n : Int} {ls : List Int} {ds es : List Dd}
theorem least_with_ok {rs : List Rw} {d : D} (hs : ∀ r ∈ rs, shp 62 r.d = true) (hd : shp 62 d = true) (hp : ∀ r ∈ rs, r.d.pure = true) (hdp : d.pure = true) (hl : rs.length < 10000) : L.run (k + 1) (.glo f_least_with) [rowsD rs, d] S = .ok (owD (leastP rs d)) S := by
  have e1 : ev L.cons (L.run k) l_least_with_0 [some (rowsD rs), some d, none, none, none, none] [] = .ok (.lst ((rs.filter fun r => eqD r.d d).map fun r => .int r.lo)) [] := by
    rw [← filterMap_if]
    refine lc_mapA rD _ rs (by simp [rowsD]) (fun r hr => ?_) (by simp; omega)
    have h1 : shp 64 r.d = true := shp_le (by omega) (hs r hr)
    have h2 : shp 64 d = true := shp_le (by omega) hd
    cases q : eqD r.d d <;> simp [rD, h1, h2, q]
  refine run_reg (S' := []) h_least_with rfl ⟨rfl, by decide⟩ (by simp [pure_rows hp, hdp]) ?_ (by simp)
  have s1 : exs L.cons (L.run k) L.fuel (.set 2 l_least_with_0) [some (rowsD rs), some d, none, none, none, none] [] = .nx [some (rowsD rs), some d, some (.lst ((rs.filter fun r => eqD r.d d).map fun r => .int r.lo)), none, none, none] [] := by simp [e1]
  refine (exss_nx s1).trans (exss_rt ?_)
  unfold leastP
  cases rs.filter fun r => eqD r.d d with
  | nil => simp [owD]
  | cons r l =>
    have : shpL 63 (l.map fun r => D.int r.lo) = true := shpL_intm (fun r : Rw => r.lo) 63 l
    simp [owD, this]
def rsLike (ls : List Int) (ds es : List Dd) : List Rw := rowsJ (hLike ls ds es) (fun n => (likeE ls ds es n).2)
def partP (ls : List Int) (ds es : List Dd) : Option Int := leastP (rsLike ls ds es) (.bl false)
theorem joinP_len : ∀ (rs acc : List Rw), (joinP acc rs).length ≤ acc.length + rs.length
  | [], acc => by simp [joinP]
  | r :: rs, acc => by
    unfold joinP
    split
    · split
      · refine Nat.le_trans (joinP_len rs _) ?_
        simp; omega
      · refine Nat.le_trans (joinP_len rs _) ?_
        simp; omega
    · refine Nat.le_trans (joinP_len rs _) ?_
      simp; omega
theorem rowsJ_len (H : Int → D) (A : Int → List Fm) : (rowsJ H A).length ≤ 900 := by
  have h1 := joinP_len (rowsP H A 900 10) []
  have h2 := rowsP_len H A 900 10
  unfold rowsJ
  simp at h1
  omega
theorem eqL_ints : ∀ a b : List Int, eqL (a.map D.int) (b.map D.int) = decide (a = b)
  | [], [] => rfl
  | [], _ :: _ => rfl
  | _ :: _, [] => rfl
  | x :: a, y :: b => by
    rw [List.map_cons, List.map_cons, eqL_cc, eqD_ii, eqL_ints a b]
    by_cases h1 : x = y <;> by_cases h2 : a = b <;> simp [h1, h2]
/-- two plans of the same cars -/
theorem parting_number_ok (p : Pk ls ds) (q : Pk ls es) (hfu : 1000 ≤ L.fuel) : L.run (k + 12) (.glo f_parting_number) [plD ls ds, plD ls es] S = .ok (owD (partP ls ds es)) S := by
  have e1 : L.run (k + 11) (.glo f_rows_by) [.clo 1 m_parting_number_0 [plD ls ds, plD ls es]] [] = .ok (rowsD (rsLike ls ds es)) [] := rows_by_ok (L := L) (k := k + 6) (S := []) (like_tells p q) hfu
  have hk := kept_rows (rs := rsLike ls ds es) (rowsJ_all (fun d => d.cf = true) fun n => rfl)
  have e2 : L.run (k + 11) (.glo f_least_with) [rowsD (rsLike ls ds es), .bl false] [] = .ok (owD (partP ls ds es)) [] := least_with_ok (L := L) (k := k + 10) (rowsJ_all (fun d => shp 62 d = true) fun n => rfl) rfl (rowsJ_all (fun d => d.pure = true) fun n => rfl) rfl (by have := rowsJ_len (hLike ls ds es) (fun n => (likeE ls ds es n).2); unfold rsLike; omega)
  refine run_reg (S' := []) h_parting_number rfl ⟨rfl, by decide⟩ (by simp [gd_pure _ _ _ p.gd, gd_pure _ _ _ q.gd]) ?_ (by simp)
  have i0 : idxD [] (plD ls ds) (.int 0) = some (lsD ls) := by simp [plD]
  have i1 : idxD [] (plD ls es) (.int 0) = some (lsD ls) := by simp [plD]
  have hsl : shp 64 (lsD ls) = true := by simp [lsD]
  have c1 : ev L.cons (L.run (k + 11)) (.cmp .ne (.idx (.var 0) (.int 0)) (.idx (.var 1) (.int 0))) [some (plD ls ds), some (plD ls es)] [] = .ok (.bl false) [] := ne_false (S1 := []) (d := lsD ls) (by simp [i0]) (by simp [i1]) hsl
  have s1 : exs L.cons (L.run (k + 11)) L.fuel (.ifs (.cmp .ne (.idx (.var 0) (.int 0)) (.idx (.var 1) (.int 0))) (.cons (.ret (.con c_LEAST)) .nil) .nil) [some (plD ls ds), some (plD ls es)] [] = .nx [some (plD ls ds), some (plD ls es)] [] := ifs_false c1
  have t1 : ev L.cons (L.run (k + 11)) (.callL f_rows_by .nil 1 [0, 1] m_parting_number_0) [some (plD ls ds), some (plD ls es)] [] = .ok (rowsD (rsLike ls ds es)) [] := by
    simp
    rw [e1, hk]
  have s2 : exs L.cons (L.run (k + 11)) L.fuel (.ret (.call f_least_with (.cons (.callL f_rows_by .nil 1 [0, 1] m_parting_number_0) (.cons (.bl false) .nil)))) [some (plD ls ds), some (plD ls es)] [] = .rt (owD (partP ls ds es)) [] := by
    rw [exs_ret, ev_call, evs, t1]
    simp [e2]
  exact (exss_nx s1).trans (exss_rt s2)
end
end KI


set_option Elab.async false
set_option linter.all false
set_option maxRecDepth 100000
set_option autoImplicit false
set_option maxHeartbeats 1000000
/-! Parting: what it tells; alike, idle, exchangeable. -/
namespace KI
open PySem
theorem ifs_true {cons : Nat → D} {call : Call} {fuel : Nat} {c : Ex} {a b : Sxs} {ρ : Env} {S S' : Sto} {r : Fl} (h : ev cons call c ρ S = .ok (.bl true) S') (g : exss cons call fuel a ρ S' = r) : exs cons call fuel (.ifs c a b) ρ S = r := by
  rw [exs_ifs, h]
  exact g
theorem or_r {cons : Nat → D} {call : Call} {a b : Ex} {ρ : Env} {S S' : Sto} {r : Res D} (h : ev cons call a ρ S = .ok (.bl false) S') (g : ev cons call b ρ S' = r) : ev cons call (.or a b) ρ S = r := by
  rw [ev_or, h]
  exact g
theorem and_r {cons : Nat → D} {call : Call} {a b : Ex} {ρ : Env} {S S' : Sto} {r : Res D} (h : ev cons call a ρ S = .ok (.bl true) S') (g : ev cons call b ρ S' = r) : ev cons call (.and a b) ρ S = r := by
  rw [ev_and, h]
  exact g
theorem ret_of {cons : Nat → D} {call : Call} {fuel : Nat} {e : Ex} {ρ : Env} {S S' : Sto} {d : D} (h : ev cons call e ρ S = .ok d S') : exs cons call fuel (.ret e) ρ S = .rt d S' := by
  rw [exs_ret, h]
theorem eq_is {L : Lw} {call : Call} {a b : Ex} {ρ : Env} {S S1 S2 : Sto} {x y : D} {t : Bool} (h1 : ev L.cons call a ρ S = .ok x S1) (h2 : ev L.cons call b ρ S1 = .ok y S2) (hx : shp 64 x = true) (hy : shp 64 y = true) (e : eqD x y = t) : ev L.cons call (.cmp .eq a b) ρ S = .ok (.bl t) S2 := by
  rw [ev_cmp, h1]
  show Res.bind (ev L.cons call b ρ S1) _ = _
  rw [h2]
  show lift ((cmpD .eq x y).map D.bl) S2 = _
  rw [c_eq, hx, hy, e]
  rfl
theorem ne_is {L : Lw} {call : Call} {a b : Ex} {ρ : Env} {S S1 S2 : Sto} {x y : D} {t : Bool} (h1 : ev L.cons call a ρ S = .ok x S1) (h2 : ev L.cons call b ρ S1 = .ok y S2) (hx : shp 64 x = true) (hy : shp 64 y = true) (e : eqD x y = t) : ev L.cons call (.cmp .ne a b) ρ S = .ok (.bl (!t)) S2 := by
  rw [ev_cmp, h1]
  show Res.bind (ev L.cons call b ρ S1) _ = _
  rw [h2]
  show lift ((cmpD .ne x y).map D.bl) S2 = _
  rw [c_ne, hx, hy, e]
  rfl
theorem wo_sub (x y : Fm) (n : Int) : (wo (le2 x y) n = 0) ↔ wo x n = wo y n := by
  simp only [wo, le2, Int.sub_mul]
  omega
def atN (n : Int) (o : Option Fm) : Option Int := o.map (wo · n)
theorem sameB_iff (a b : Option Fm) (n : Int) : (sameB a b n).1 = true ↔ atN n a = atN n b := by
  cases a with
  | none => cases b <;> simp [sameB, atN]
  | some x => cases b with
    | none => simp [sameB, atN]
    | some y =>
      have := wo_sub x y n
      simp only [sameB, atN, Option.map_some, decide_eq_true_eq, Option.some.injEq]
      exact this
theorem likeP_iff (r q : Row) (n : Int) : ∀ (cs : List Nat) (z : Bool × List Fm), (likeP r q n cs z).1 = true ↔ z.1 = true ∧ ∀ c ∈ cs, atN n (placeOf r c) = atN n (placeOf q c)
  | [], z => by simp [likeP]
  | c :: cs, z => by
    unfold likeP
    rw [likeP_iff r q n cs]
    simp only [Bool.and_eq_true, sameB_iff, List.mem_cons, forall_eq_or_imp]
    exact and_assoc
/-- where the cars stand at the end -/
def endV (ls : List Int) (ds : List Dd) (n : Int) : List (Option Int) := (List.range ls.length).map fun c => atN n (placeOf (endP ls ds n).1 c)
theorem placesP_endV (ls : List Int) (ds : List Dd) (n : Int) : placesP ls (endP ls ds n).1 n = (endV ls ds n).map owD := by
  unfold placesP endV
  rw [List.map_map]
  rfl
theorem likeE_iff (ls : List Int) (ds es : List Dd) (n : Int) : (likeE ls ds es n).1 = true ↔ endV ls ds n = endV ls es n := by
  unfold likeE
  rw [likeP_iff]
  simp only [true_and, endV, List.mem_range]
  constructor
  · intro h
    exact List.map_congr_left fun c hc => h c (List.mem_range.mp hc)
  · intro h c hc
    have := congrArg (fun l : List (Option Int) => l[c]?) h
    simpa [hc] using this
/-- from 10 on: f holds everywhere, or o is the least length where it fails -/
def PartS (f : Int → Prop) (lo : Int) : Option Int → Prop
  | none => ∀ n, lo ≤ n → f n
  | some m => lo ≤ m ∧ ¬ f m ∧ ∀ n, lo ≤ n → n < m → f n
theorem PartS.uniq {f : Int → Prop} {lo : Int} {a b : Option Int} (h : PartS f lo a) (g : PartS f lo b) : a = b := by
  cases a with
  | none => cases b with
    | none => rfl
    | some y => exact absurd (h y g.1) g.2.1
  | some x => cases b with
    | none => exact absurd (g x h.1) h.2.1
    | some y =>
      rcases Int.lt_trichotomy x y with z | z | z
      · exact absurd (g.2.2 x h.1 z) h.2.1
      · rw [z]
      · exact absurd (h.2.2 y g.1 z) g.2.1
theorem PartS.congr {f g : Int → Prop} {lo : Int} {a : Option Int} (h : PartS f lo a) (e : ∀ n, f n ↔ g n) : PartS g lo a := by
  have : f = g := funext fun n => propext (e n)
  exact this ▸ h
theorem least_spec {H : Int → D} {f : Int → Bool} (hf : ∀ n, H n = .bl (f n)) : ∀ (rs : List Rw) (lo : Int), rowsOk H lo rs → PartS (fun n => f n = true) lo (leastP rs (.bl false))
  | [], lo, h => h.elim
  | r :: rs, lo, h => by
    obtain ⟨h1, h⟩ := h
    have key : ∀ b, r.d = .bl b → leastP (r :: rs) (.bl false) = if b = false then some lo else leastP rs (.bl false) := fun b hb => by
      unfold leastP
      rw [List.filter_cons, hb]
      cases b with
      | false => simp [h1]
      | true => simp
    rcases h with ⟨h2, h3, h4⟩ | ⟨e, h2, h3, h4, h5⟩
    · subst h3
      have hb := (h4 lo (Int.le_refl _)).symm.trans (hf lo)
      rw [key _ hb]
      cases q : f lo with
      | false => exact ⟨Int.le_refl _, by simp [q], fun n a b => by omega⟩
      | true =>
        show ∀ n, lo ≤ n → f n = true
        intro n hn
        have := (h4 n hn).symm.trans (hf n)
        rw [hb, q] at this
        exact (D.bl.inj this).symm
    · have hb := (h4 lo (Int.le_refl _) h3).symm.trans (hf lo)
      rw [key _ hb]
      cases q : f lo with
      | false => exact ⟨Int.le_refl _, by simp [q], fun n a b => by omega⟩
      | true =>
        have all : ∀ n, lo ≤ n → n ≤ e → f n = true := fun n a b => by
          have := (h4 n a b).symm.trans (hf n)
          rw [hb, q] at this
          exact (D.bl.inj this).symm
        have ih := least_spec hf rs (e + 1) h5
        simp only [Bool.true_eq_false, if_false]
        cases q2 : leastP rs (.bl false) with
        | none =>
          rw [q2] at ih
          intro n hn
          by_cases c : n ≤ e
          · exact all n hn c
          · exact ih n (by omega)
        | some m =>
          rw [q2] at ih
          refine ⟨by have := ih.1; omega, ih.2.1, fun n a b => ?_⟩
          by_cases c : n ≤ e
          · exact all n a c
          · exact ih.2.2 n (by omega) b
theorem rsLike_ok {ls : List Int} {ds es : List Dd} (p : Pk ls ds) (q : Pk ls es) : rowsOk (hLike ls ds es) 10 (rsLike ls ds es) :=
  (rowsJ_ok (fun n m _ _ h => by unfold hLike; rw [likeE_same h]) (fun n h1 _ => until_go h1 fun f hf => (likeE_ak p q n f hf).2) (fun n m h => by
    unfold hLike at h ⊢
    have : ((likeE ls ds es n).1 == (likeE ls ds es m).1) = true := h
    rw [beq_iff_eq.mp this])).1
theorem partP_spec {ls : List Int} {ds es : List Dd} (p : Pk ls ds) (q : Pk ls es) : PartS (fun n => endV ls ds n = endV ls es n) 10 (partP ls ds es) :=
  (least_spec (f := fun n => (likeE ls ds es n).1) (fun n => rfl) _ _ (rsLike_ok p q)).congr fun n => likeE_iff ls ds es n
theorem partP_comm {ls : List Int} {ds es : List Dd} (p : Pk ls ds) (q : Pk ls es) : partP ls es ds = partP ls ds es :=
  (partP_spec q p).uniq ((partP_spec p q).congr fun n => ⟨Eq.symm, Eq.symm⟩)
def partQ (ls : List Int) (ds : List Dd) (ls' : List Int) (es : List Dd) : Option Int := if ls = ls' then partP ls ds es else some 10
section
variable {L : Lw} [L.Std] {k : Nat} {S : Sto} {n : Int} {ls ls' : List Int} {ds es : List Dd}
theorem parting_any_ok (p : Pk ls ds) (q : Pk ls' es) (hfu : 1000 ≤ L.fuel) : L.run (k + 12) (.glo f_parting_number) [plD ls ds, plD ls' es] S = .ok (owD (partQ ls ds ls' es)) S := by
  unfold partQ
  by_cases c : ls = ls'
  · subst c
    rw [if_pos rfl]
    exact parting_number_ok p q hfu
  · rw [if_neg c]
    refine run_reg (S' := []) h_parting_number rfl ⟨rfl, by decide⟩ (by simp [gd_pure _ _ _ p.gd, gd_pure _ _ _ q.gd]) ?_ (by simp)
    have i0 : idxD [] (plD ls ds) (.int 0) = some (lsD ls) := by simp [plD]
    have i1 : idxD [] (plD ls' es) (.int 0) = some (lsD ls') := by simp [plD]
    have hs : ∀ l : List Int, shp 64 (lsD l) = true := fun l => by simp [lsD]
    have he : eqD (lsD ls) (lsD ls') = false := by
      show eqL (ls.map D.int) (ls'.map D.int) = false
      rw [eqL_ints]
      exact decide_eq_false c
    refine exss_rt ?_
    rw [exs_ifs]
    simp [i0, i1, hs, he, owD, k_LEAST]
theorem need_two_ok (p : Pk ls ds) (q : Pk ls' es) : L.run (k + 5) (.glo f_need_two) [plD ls ds, plD ls' es] S = .ok .non S := by
  have e1 := needp_ok (L := L) (k := k) (S := []) p
  have e2 := needp_ok (L := L) (k := k) (S := []) q
  refine run_regN (ρ := [some (plD ls ds), some (plD ls' es)]) (S' := []) h_need_two rfl ⟨rfl, by decide⟩ (by simp [gd_pure _ _ _ p.gd, gd_pure _ _ _ q.gd]) ?_
  simp [d_need_two, e1, e2]
theorem alike_ok (p : Pk ls ds) (q : Pk ls' es) (hfu : 1000 ≤ L.fuel) : L.run (k + 13) (.glo f_alike) [plD ls ds, plD ls' es] S = .ok (.bl (partQ ls ds ls' es).isNone) S := by
  have e1 := need_two_ok (L := L) (k := k + 7) (S := []) p q
  have e2 := parting_any_ok (L := L) (k := k) (S := []) p q hfu
  refine run_reg (S' := []) h_alike rfl ⟨rfl, by decide⟩ (by simp [gd_pure _ _ _ p.gd, gd_pure _ _ _ q.gd]) ?_ rfl
  simp [d_alike, e1, e2]
  cases partQ ls ds ls' es <;> rfl
theorem parting_ok (p : Pk ls ds) (q : Pk ls' es) (hfu : 1000 ≤ L.fuel) : L.run (k + 13) (.glo f_parting) [plD ls ds, plD ls' es] S = .ok (owD (partQ ls ds ls' es)) S := by
  have e1 := need_two_ok (L := L) (k := k + 7) (S := []) p q
  have e2 := parting_any_ok (L := L) (k := k) (S := []) p q hfu
  refine run_reg (S' := []) h_parting rfl ⟨rfl, by decide⟩ (by simp [gd_pure _ _ _ p.gd, gd_pure _ _ _ q.gd]) ?_ (by simp)
  simp [d_parting, e1, e2]
end
end KI


set_option Elab.async false
set_option linter.all false
set_option maxRecDepth 100000
set_option autoImplicit false
set_option maxHeartbeats 1000000
/-! A plan near to another one. -/
namespace KI
open PySem
def ddsD (ds : List Dd) : D := .tup (ds.map ddD)
theorem shp_dd (d : Dd) (k : Nat) : shp (k + 2) (ddD d) = true := by
  cases d with
  | park c ru => show shpL (k + 1) _ = true; cases ru <;> simp [ruD]
  | _ => show shpL (k + 1) _ = true; simp
theorem shp_dds (ds : List Dd) : shp 64 (ddsD ds) = true := by
  show shpL 63 _ = true
  exact shpL_map _ _ (fun d => shp_dd d 61) ds
section
variable {L : Lw} [L.Std] {k : Nat} {S : Sto} {n : Int} {ls ls' : List Int} {ds es : List Dd}
theorem idx_dds {i : Nat} (h : i < ds.length) : idxD S (ddsD ds) (.int i) = some (ddD ds[i]) := by simp [ddsD, atI_nat, h]
theorem idx_dds1 {i : Nat} (h : i + 1 < ds.length) : idxD S (ddsD ds) (.int ((i : Int) + 1)) = some (ddD ds[i + 1]) := by
  have : ((i : Int) + 1) = ((i + 1 : Nat) : Int) := by omega
  rw [this, idx_dds h]
theorem cut_dds_to {i : Nat} : cutD (ddsD ds) none (some (i : Int)) = some (ddsD (ds.take i)) := by simp [ddsD]
theorem cut_dds_from1 {i : Nat} : cutD (ddsD ds) (some ((i : Int) + 1)) none = some (ddsD (ds.drop (i + 1))) := by simp [ddsD]
theorem cut_dds_from2 {i : Nat} : cutD (ddsD ds) (some ((i : Int) + 2)) none = some (ddsD (ds.drop (i + 2))) := by
  have : ((i : Int) + 2) = ((i + 2 : Nat) : Int) := by omega
  rw [this]
  unfold ddsD
  rw [cut_t, cut_from, List.map_drop]
theorem add_dds {a b : List Dd} (h : a.length + b.length < 1000) : binD .add (ddsD a) (ddsD b) = some (ddsD (a ++ b)) := by
  have : a.length + b.length ≤ 16777216 := by omega
  simp [ddsD, this]
theorem Pk.sub (p : Pk ls ds) (h1 : es.length ≤ 8) (h : ∀ d ∈ es, d.car < ls.length) : Pk ls es := ⟨p.l0, p.l1, p.ln, h1, h⟩
theorem near_ok {m : Nat} (hs : Src S m) (p : Pk ls ds) : ∃ es S', L.run (k + 5) (.glo f__law_near) [.cell m, plD ls ds] S = .ok (plD ls es) S' ∧ Pk ls es ∧ Src S' m ∧ S'.length = S.length := by
  have hl1 := p.l1
  have hl0 := p.l0
  have hd1 := p.d1
  obtain ⟨r, S1, e1, r0, r1, s1, l1⟩ := draw_ok (L := L) (k := k + 3) hs (m := 4) (by omega) (by omega)
  have sh := shp_dds ds
  have m1 : exs L.cons (L.run (k + 4)) L.fuel (.unp (.tp (.cons (.nm 4) (.cons (.tp (.cons (.nm 5) (.cons (.nm 6) .nil))) .nil))) (.tup (.cons (.call f__law_draw (.cons (.var 0) (.cons (.int 4) .nil))) (.cons (.var 1) .nil)))) [some (.cell m), some (plD ls ds), none, none, none, none, none, none, none] S = .nx [some (.cell m), some (plD ls ds), none, none, some (.int r), some (lsD ls), some (ddsD ds), none, none] S1 := by
    simp [e1, plD, ddsD]
  by_cases hd : ds = []
  · subst hd
    refine ⟨[.park 0 .back], S1, run_non h__law_near rfl ⟨rfl, by decide⟩ ((exss_nx m1).trans (exss_rt ?_)), p.sub (by simp) (fun d hd => by simp at hd; subst hd; show 0 < ls.length; omega), s1, l1⟩
    simp [ddsD, plD]
  have hne : ds.length ≠ 0 := fun z => hd (List.length_eq_zero_iff.mp z)
  have c0 : ev L.cons (L.run (k + 4)) (.cmp .eq (.var 6) (.tup .nil)) [some (.cell m), some (plD ls ds), none, none, some (.int r), some (lsD ls), some (ddsD ds), none, none] S1 = .ok (.bl false) S1 := by
    have he : eqD (ddsD ds) (.tup []) = false := by
      cases ds with
      | nil => exact absurd rfl hd
      | cons d ds => rfl
    simp [sh, he]
  obtain ⟨j', S2, e2, j0, j1, s2, l2⟩ := draw_ok (L := L) (k := k + 3) s1 (m := ds.length) (by omega) (by omega)
  obtain ⟨j, rfl⟩ := Int.eq_ofNat_of_zero_le j0
  have hj : j < ds.length := by omega
  have m2 : exs L.cons (L.run (k + 4)) L.fuel (.set 2 (.call f__law_draw (.cons (.var 0) (.cons (.bi .len (.cons (.var 6) .nil)) .nil)))) [some (.cell m), some (plD ls ds), none, none, some (.int r), some (lsD ls), some (ddsD ds), none, none] S1 = .nx [some (.cell m), some (plD ls ds), some (.int j), none, some (.int r), some (lsD ls), some (ddsD ds), none, none] S2 := by
    have e2' := e2
    simp [ddsD, e2']
  have htk : ∀ i, (ds.take i).length ≤ 8 := fun i => by simp; omega
  have hdr : ∀ i, (ds.drop i).length ≤ 8 := fun i => by simp; omega
  by_cases hr0 : r = 0
  · subst hr0
    refine ⟨ds.take j ++ ds.drop (j + 1), S2, run_non h__law_near rfl ⟨rfl, by decide⟩ ((exss_nx m1).trans ((exss_nx (ifs_false c0)).trans ((exss_nx m2).trans (exss_rt ?_)))), p.sub (by simp; omega) (fun d hd => p.car d ?_), s2, by omega⟩
    · have := htk j
      have := hdr (j + 1)
      have e3 := add_dds (a := ds.take j) (b := ds.drop (j + 1)) (by omega)
      simp [cut_dds_to, cut_dds_from1, e3]
      rfl
    · rcases List.mem_append.mp hd with z | z
      · exact List.mem_of_mem_take z
      · exact List.mem_of_mem_drop z
  have c1 : ev L.cons (L.run (k + 4)) (.cmp .eq (.var 4) (.int 0)) [some (.cell m), some (plD ls ds), some (.int j), none, some (.int r), some (lsD ls), some (ddsD ds), none, none] S2 = .ok (.bl false) S2 := by simp [hr0]
  by_cases hr1 : r = 1 ∧ j + 1 < ds.length
  · obtain ⟨rfl, hj1⟩ := hr1
    refine ⟨ds.take j ++ [ds[j + 1], ds[j]] ++ ds.drop (j + 2), S2, run_non h__law_near rfl ⟨rfl, by decide⟩ ((exss_nx m1).trans ((exss_nx (ifs_false c0)).trans ((exss_nx m2).trans ((exss_nx (ifs_false c1)).trans (exss_rt ?_))))), p.sub (by simp; omega) (fun d hd => p.car d ?_), s2, by omega⟩
    · have h1 := htk j
      have h2 := hdr (j + 2)
      have e3 := add_dds (a := ds.take j) (b := [ds[j + 1], ds[j]]) (by simp; omega)
      have e4 := add_dds (a := ds.take j ++ [ds[j + 1], ds[j]]) (b := ds.drop (j + 2)) (by simp; omega)
      have i1 := idx_dds (S := S2) hj
      have i2 := idx_dds1 (S := S2) hj1
      have e3' : binD .add (ddsD (ds.take j)) (.tup [ddD ds[j + 1], ddD ds[j]]) = some (ddsD (ds.take j ++ [ds[j + 1], ds[j]])) := e3
      have ln : biD S2 .len [ddsD ds] = some (.int ds.length) := by simp [ddsD]
      have lt : ((j : Int) + 1 < ds.length) := by omega
      simp [cut_dds_to, cut_dds_from2, e3', e4, i1, i2, ln, lt]
      rfl
    · simp only [List.mem_append, List.mem_cons, List.not_mem_nil, or_false] at hd
      rcases hd with (z | z | z) | z
      · exact List.mem_of_mem_take z
      · rw [z]; exact List.getElem_mem _
      · rw [z]; exact List.getElem_mem _
      · exact List.mem_of_mem_drop z
  have c2 : ev L.cons (L.run (k + 4)) (.and (.cmp .eq (.var 4) (.int 1)) (.cmp .lt (.bin .add (.var 2) (.int 1)) (.bi .len (.cons (.var 6) .nil)))) [some (.cell m), some (plD ls ds), some (.int j), none, some (.int r), some (lsD ls), some (ddsD ds), none, none] S2 = .ok (.bl false) S2 := by
    have ln : biD S2 .len [ddsD ds] = some (.int ds.length) := by simp [ddsD]
    by_cases z : r = 1
    · have lt : ¬ ((j : Int) + 1 < ds.length) := by
        have : ¬ (j + 1 < ds.length) := fun q => hr1 ⟨z, q⟩
        omega
      simp [z, ln, lt]
    · have zb : (r == 1) = false := by simpa using z
      simp [zb]
  obtain ⟨d, S3, e5, hdd, s3, l3⟩ := deedg_ok (L := L) (k := k) s2 (cars := ls.length) (by omega) (by omega)
  obtain ⟨d, rfl, hc⟩ := drawn_dd hdd
  have m3 : exs L.cons (L.run (k + 4)) L.fuel (.set 3 (.call f__law_deed (.cons (.var 0) (.cons (.bi .len (.cons (.var 5) .nil)) .nil)))) [some (.cell m), some (plD ls ds), some (.int j), none, some (.int r), some (lsD ls), some (ddsD ds), none, none] S2 = .nx [some (.cell m), some (plD ls ds), some (.int j), some (ddD d), some (.int r), some (lsD ls), some (ddsD ds), none, none] S3 := by
    simp [lsD, e5]
  refine ⟨ds.take j ++ [d] ++ ds.drop (j + 1), S3, run_non h__law_near rfl ⟨rfl, by decide⟩ ((exss_nx m1).trans ((exss_nx (ifs_false c0)).trans ((exss_nx m2).trans ((exss_nx (ifs_false c1)).trans ((exss_nx (ifs_false c2)).trans ((exss_nx m3).trans (exss_rt ?_))))))), p.sub (by simp; omega) (fun d' hd => ?_), s3, by omega⟩
  · have h1 := htk j
    have h2 := hdr (j + 1)
    have e3 : binD .add (ddsD (ds.take j)) (.tup [ddD d]) = some (ddsD (ds.take j ++ [d])) := add_dds (a := ds.take j) (b := [d]) (by simp; omega)
    have e4 := add_dds (a := ds.take j ++ [d]) (b := ds.drop (j + 1)) (by simp; omega)
    simp [cut_dds_to, cut_dds_from1, e3, e4]
    rfl
  · simp only [List.mem_append, List.mem_cons, List.not_mem_nil, or_false] at hd
    rcases hd with (z | z) | z
    · exact p.car _ (List.mem_of_mem_take z)
    · rw [z]; exact hc
    · exact p.car _ (List.mem_of_mem_drop z)
end
end KI


set_option Elab.async false
set_option linter.all false
set_option maxRecDepth 100000
set_option maxHeartbeats 1000000
namespace K05
open PySem KI
theorem hfu : 1000 ≤ L.fuel := by decide
theorem ow_inj (a b : Option Int) (h : eqD (owD a) (owD b) = true) : a = b := by
  cases a with
  | none => cases b with
    | none => rfl
    | some y => cases h
  | some x => cases b with
    | none => cases h
    | some y => rw [beq_iff_eq.mp (show (x == y) = true from h)]
theorem places_ne {a b : List (Option Int)} (h : a ≠ b) : eqD (.tup (a.map owD)) (.tup (b.map owD)) = false := by
  rw [Bool.eq_false_iff]
  exact fun z => h (eqL_inj owD ow_inj a b z)
theorem shp_pl (a : List (Option Int)) : shp 64 (.tup (a.map owD)) = true := by rw [shp64_tup]; exact shpL_map _ _ (fun a => shp_ow _ _) _
section
variable {k : Nat} {S : Sto} {n : Int} {ls ls' : List Int} {ds es : List Dd}
theorem lpl (p : Pk ls ds) : L.run (k + 6) (.glo f__law_places) [plD ls ds, .int n] S = .ok (.tup ((endV ls ds n).map owD)) S := by
  rw [← placesP_endV]
  exact lplaces_ok p
/-- the lengths tried -/
theorem try_loop {x0 : Option D} (p : Pk ls ds) (q : Pk ls es) : ∀ (xs : List Int) (x : Option D), (∀ i ∈ xs, 10 ≤ i) →
    ∃ x', evFor (.nm 4) (exss L.cons (L.run (k + 6)) L.fuel b__law_right_0) (xs.map .int) [x0, some (plD ls ds), some (plD ls es), some (owD (partP ls ds es)), x] S = .nx [x0, some (plD ls ds), some (plD ls es), some (owD (partP ls ds es)), x'] S
  | [], x, _ => ⟨x, rfl⟩
  | i :: xs, x, h => by
    have e1 := lpl (k := k) (S := S) (n := i) p
    have e2 := lpl (k := k) (S := S) (n := i) q
    have sp := partP_spec p q
    obtain ⟨x', e⟩ := try_loop (x0 := x0) p q xs (some (.int i)) (fun i hi => h i (List.mem_cons_of_mem _ hi))
    refine ⟨x', ?_⟩
    have st : exss L.cons (L.run (k + 6)) L.fuel b__law_right_0 [x0, some (plD ls ds), some (plD ls es), some (owD (partP ls ds es)), some (.int i)] S = .nx [x0, some (plD ls ds), some (plD ls es), some (owD (partP ls ds es)), some (.int i)] S := by
      have hi := h i List.mem_cons_self
      cases q2 : partP ls ds es with
      | none =>
        rw [q2] at sp
        have ee := sp i hi
        have c : ev L.cons (L.run (k + 6)) (.cmp .ne (.call f__law_places (.cons (.var 1) (.cons (.var 4) .nil))) (.call f__law_places (.cons (.var 2) (.cons (.var 4) .nil)))) [x0, some (plD ls ds), some (plD ls es), some .non, some (.int i)] S = .ok (.bl false) S := ne_false (S1 := S) (d := .tup ((endV ls ds i).map owD)) (by simp [e1]) (by rw [ee]; simp [e2]) (shp_pl _)
        exact (exss_nx (ifs_true (S' := S) (by simp [owD]) ((exss_nx (ifs_false c)).trans (exss_nil ..)))).trans (exss_nil ..)
      | some m =>
        rw [q2] at sp
        by_cases hm : i < m
        · have ee := sp.2.2 i hi hm
          have c : ev L.cons (L.run (k + 6)) (.cmp .ne (.call f__law_places (.cons (.var 1) (.cons (.var 4) .nil))) (.call f__law_places (.cons (.var 2) (.cons (.var 4) .nil)))) [x0, some (plD ls ds), some (plD ls es), some (.int m), some (.int i)] S = .ok (.bl false) S := ne_false (S1 := S) (d := .tup ((endV ls ds i).map owD)) (by simp [e1]) (by rw [ee]; simp [e2]) (shp_pl _)
          exact (exss_nx (ifs_true (S' := S) (by simp [owD, hm]) ((exss_nx (ifs_false c)).trans (exss_nil ..)))).trans (exss_nil ..)
        · simp [b__law_right_0, owD, hm]
    rw [List.map_cons]
    unfold evFor
    exact (congrArg (fun z : Fl => z.then fun ρ S => evFor _ (exss L.cons (L.run (k + 6)) L.fuel b__law_right_0) (xs.map .int) ρ S) st).trans e
theorem partQ_comm (p : Pk ls ds) (q : Pk ls' es) : partQ ls' es ls ds = partQ ls ds ls' es := by
  unfold partQ
  by_cases c : ls = ls'
  · subst c
    rw [if_pos rfl, if_pos rfl]
    exact partP_comm p q
  · rw [if_neg c, if_neg (fun z => c z.symm)]
theorem rng_ints (n : Nat) (i : Int) : ∃ l : List Int, rngL i n = l.map .int ∧ ∀ j ∈ l, i ≤ j := by
  induction n generalizing i with
  | zero => exact ⟨[], rfl, fun _ h => nomatch h⟩
  | succ n ih =>
    obtain ⟨l, e, h⟩ := ih (i + 1)
    refine ⟨i :: l, by show D.int i :: rngL (i + 1) n = _; rw [e]; rfl, fun j hj => ?_⟩
    rcases List.mem_cons.mp hj with z | z
    · omega
    · have := h j z; omega
theorem right_ok {m : Nat} (hs : Src S m) (p : Pk ls ds) (q : Pk ls' es) : ∃ S', L.run (k + 14) (.glo f__law_right) [.cell m, plD ls ds, plD ls' es] S = .ok (.bl true) S' ∧ Src S' m ∧ S'.length = S.length := by
  have e1 := parting_ok (L := L) (k := k) (S := S) p q hfu
  have e2 := parting_ok (L := L) (k := k) (S := S) q p hfu
  have e3 := alike_ok (L := L) (k := k) (S := S) p q hfu
  rw [partQ_comm p q] at e2
  obtain ⟨Q, hQ⟩ : ∃ Q, Q = partQ ls ds ls' es := ⟨_, rfl⟩
  rw [← hQ] at e1 e2 e3
  have s1 : exs L.cons (L.run (k + 13)) L.fuel (.set 3 (.call f_parting (.cons (.var 1) (.cons (.var 2) .nil)))) [some (.cell m), some (plD ls ds), some (plD ls' es), none, none] S = .nx [some (.cell m), some (plD ls ds), some (plD ls' es), some (owD Q), none] S := by simp [e1]
  have c2 : ev L.cons (L.run (k + 13)) (.or (.cmp .ne (.call f_alike (.cons (.var 1) (.cons (.var 2) .nil))) (.cmp .isN (.var 3) .non)) (.cmp .ne (.call f_parting (.cons (.var 2) (.cons (.var 1) .nil))) (.var 3))) [some (.cell m), some (plD ls ds), some (plD ls' es), some (owD Q), none] S = .ok (.bl false) S := by
    have n1 : isNon (owD Q) = Q.isNone := by cases Q <;> rfl
    have n2 : shp 64 (owD Q) = true := shp_ow Q 64
    have n3 : eqD (owD Q) (owD Q) = true := eqD_refl 64 _ n2
    simp [e3, n1, e2, n2, n3]
  have i1 : idxD S (plD ls ds) (.int 0) = some (lsD ls) := by simp [plD]
  have i2 : idxD S (plD ls' es) (.int 0) = some (lsD ls') := by simp [plD]
  have hsl : ∀ l : List Int, shp 64 (lsD l) = true := fun l => by simp [lsD]
  have hel : eqD (lsD ls) (lsD ls') = decide (ls = ls') := eqL_ints ls ls'
  have c3 : ev L.cons (L.run (k + 13)) (.cmp .ne (.idx (.var 1) (.int 0)) (.idx (.var 2) (.int 0))) [some (.cell m), some (plD ls ds), some (plD ls' es), some (owD Q), none] S = .ok (.bl (!decide (ls = ls'))) S := by
    simp [i1, i2, hsl, hel]
  by_cases hl : ls = ls'
  · subst hl
    have hQ2 : Q = partP ls ds es := by rw [hQ]; exact if_pos rfl
    have c3 : ev L.cons (L.run (k + 13)) (.cmp .ne (.idx (.var 1) (.int 0)) (.idx (.var 2) (.int 0))) [some (.cell m), some (plD ls ds), some (plD ls es), some (owD Q), none] S = .ok (.bl false) S := by rw [c3]; simp
    obtain ⟨n', S1, e4, hn, s', l'⟩ := ln_ok (L := L) (k := k + 10) hs
    obtain ⟨l, el, hl⟩ := rng_ints 60 10
    obtain ⟨y, e5⟩ := try_loop (k := k + 7) (S := S1) (x0 := some (.cell m)) p q (l ++ [n', 10 ^ 30]) none (fun i hi => by
      rcases List.mem_append.mp hi with z | z
      · exact hl i z
      · simp only [List.mem_cons, List.not_mem_nil, or_false] at z
        rcases z with z | z
        · rw [z]; exact hn.1
        · rw [z]; decide)
    rw [← hQ2] at e5
    have s4 : exs L.cons (L.run (k + 13)) L.fuel (.for_ (.nm 4) (.val (.bin .add (.rngl (.int 10) (.int 70)) (.lst (.cons (.call f__law_n (.cons (.var 0) .nil)) (.cons (.bin .pow (.int 10) (.int 30)) .nil))))) b__law_right_0) [some (.cell m), some (plD ls ds), some (plD ls es), some (owD Q), none] S = .nx [some (.cell m), some (plD ls ds), some (plD ls es), some (owD Q), y] S1 := by
      have g : (rngOk 10 && rngOk 70 && decide (((70 : Int) - 10).toNat ≤ LN)) = true := by decide
      have e6 : evi L.cons (L.run (k + 13)) (.val (.bin .add (.rngl (.int 10) (.int 70)) (.lst (.cons (.call f__law_n (.cons (.var 0) .nil)) (.cons (.bin .pow (.int 10) (.int 30)) .nil))))) [some (.cell m), some (plD ls ds), some (plD ls es), some (owD Q), none] S = .ok ((l ++ [n', 10 ^ 30]).map .int) S1 := by
        have ee : ev L.cons (L.run (k + 13)) (.rngl (.int 10) (.int 70)) [some (.cell m), some (plD ls ds), some (plD ls es), some (owD Q), none] S = .ok (.lst (l.map .int)) S := by
          show (if (rngOk 10 && rngOk 70 && decide (((70 : Int) - 10).toNat ≤ LN)) = true then Res.ok (D.lst (rngL 10 ((70 : Int) - 10).toNat)) S else Res.no) = _
          rw [if_pos g]
          show Res.ok (D.lst (rngL 10 60)) S = _
          rw [el]
        have ll : l.length = 60 := by
          have := congrArg List.length el
          rw [rngL_length, List.length_map] at this
          exact this.symm
        rw [evi, ev_bin, ee]
        simp [e4, ll]
      rw [exs_for_, e6]
      exact e5
    have sp := partP_spec p q
    rw [← hQ2] at sp
    cases Q with
    | none =>
      refine ⟨S1, run_non (d := d__law_right) rfl rfl ⟨rfl, by decide⟩ ((exss_nx s1).trans ((exss_nx (ifs_false c2)).trans ((exss_nx (ifs_false c3)).trans ((exss_nx s4).trans (exss_rt ?_))))), s', l'⟩
      simp [owD]
    | some m' =>
      have e6 := lpl (k := k + 7) (S := S1) (n := m') p
      have e7 := lpl (k := k + 7) (S := S1) (n := m') q
      have e8 := lpl (k := k + 7) (S := S1) (n := m' - 1) p
      have e9 := lpl (k := k + 7) (S := S1) (n := m' - 1) q
      have c5 : ev L.cons (L.run (k + 13)) (.cmp .isN (.var 3) .non) [some (.cell m), some (plD ls ds), some (plD ls es), some (owD (some m')), y] S1 = .ok (.bl false) S1 := by simp [owD]
      have c6 : ev L.cons (L.run (k + 13)) (.cmp .eq (.call f__law_places (.cons (.var 1) (.cons (.var 3) .nil))) (.call f__law_places (.cons (.var 2) (.cons (.var 3) .nil)))) [some (.cell m), some (plD ls ds), some (plD ls es), some (owD (some m')), y] S1 = .ok (.bl false) S1 := by
        have := places_ne sp.2.1
        have h1 := shp_pl (endV ls ds m')
        have h2 := shp_pl (endV ls es m')
        exact eq_is (S1 := S1) (by simp [owD, e6]) (by simp [owD, e7]) h1 h2 this
      refine ⟨S1, run_non (d := d__law_right) rfl rfl ⟨rfl, by decide⟩ ((exss_nx s1).trans ((exss_nx (ifs_false c2)).trans ((exss_nx (ifs_false c3)).trans ((exss_nx s4).trans ((exss_nx (ifs_false c5)).trans ((exss_nx (ifs_false c6)).trans (exss_rt ?_))))))), s', l'⟩
      by_cases hm : m' = 10
      · simp [owD, hm]
      · have hb : (m' == 10) = false := by simpa using hm
        have ee := sp.2.2 (m' - 1) (by have := sp.1; omega) (by omega)
        have h1 := shp_pl (endV ls es (m' - 1))
        have h2 := eqD_refl 64 _ h1
        rw [ee] at e8
        exact ret_of (or_r (S' := S1) (by simp [owD, hb]) (eq_true' (S1 := S1) (d := .tup ((endV ls es (m' - 1)).map owD)) (by simp [owD, e8]) (by simp [owD, e9]) h1))
  · have hQ2 : Q = some 10 := by rw [hQ]; exact if_neg hl
    subst hQ2
    have c3 : ev L.cons (L.run (k + 13)) (.cmp .ne (.idx (.var 1) (.int 0)) (.idx (.var 2) (.int 0))) [some (.cell m), some (plD ls ds), some (plD ls' es), some (owD (some 10)), none] S = .ok (.bl true) S := by rw [c3]; simp [hl]
    refine ⟨S, run_non (d := d__law_right) rfl rfl ⟨rfl, by decide⟩ ((exss_nx s1).trans ((exss_nx (ifs_false c2)).trans (exss_rt ?_))), hs, rfl⟩
    rw [exs_ifs, c3]
    simp [owD]
end
abbrev Rest := List (Option D)
theorem in_ok {k : Nat} {x0 x1 x2 x3 x4 x6 x7 x8 x9 x10 x12 x13 : Option D} {m : Nat} {ls : List Int} {ds : List Dd} (p : Pk ls ds) : ∀ (xs : List D) (S : Sto) (x : Option D), Src S m → (∀ d ∈ xs, ∃ ls' es, d = plD ls' es ∧ Pk ls' es) →
    ∃ x' S', evFor (.nm 13) (exss L.cons (L.run (k + 14)) L.fuel b_law_0) xs [x0, x1, x2, x3, x4, some (.cell m), x6, x7, x8, x9, x10, some (plD ls ds), x12, x] S = .nx [x0, x1, x2, x3, x4, some (.cell m), x6, x7, x8, x9, x10, some (plD ls ds), x12, x'] S' ∧ Src S' m
  | [], S, x, hs, _ => ⟨x, S, rfl, hs⟩
  | d :: xs, S, x, hs, h => by
    obtain ⟨ls', es, rfl, q⟩ := h d List.mem_cons_self
    obtain ⟨S1, e1, s1, _⟩ := right_ok (k := k) hs p q
    obtain ⟨x', S', e, s'⟩ := in_ok (k := k) (x0 := x0) (x1 := x1) (x2 := x2) (x3 := x3) (x4 := x4) (x6 := x6) (x7 := x7) (x8 := x8) (x9 := x9) (x10 := x10) (x12 := x12) (x13 := x13) p xs S1 (some (plD ls' es)) s1 (fun d hd => h d (List.mem_cons_of_mem _ hd))
    refine ⟨x', S', ?_, s'⟩
    have st : exss L.cons (L.run (k + 14)) L.fuel b_law_0 [x0, x1, x2, x3, x4, some (.cell m), x6, x7, x8, x9, x10, some (plD ls ds), x12, some (plD ls' es)] S = .nx [x0, x1, x2, x3, x4, some (.cell m), x6, x7, x8, x9, x10, some (plD ls ds), x12, some (plD ls' es)] S1 := by
      simp [b_law_0, e1]
    unfold evFor
    exact (congrArg (fun z : Fl => z.then fun ρ S => evFor _ (exss L.cons (L.run (k + 14)) L.fuel b_law_0) xs ρ S) st).trans e
theorem mid_ok {k : Nat} {x0 x1 x2 x3 x4 x6 x7 x8 x9 x10 x11 x12 x13 : Option D} {m : Nat} {S : Sto} (hs : Src S m) : ∃ w a b c S', evFor (.nm 6) (exss L.cons (L.run (k + 14)) L.fuel b_law_1) (rngL 0 3) [x0, x1, x2, x3, x4, some (.cell m), x6, x7, x8, x9, x10, x11, x12, x13] S = .nx [x0, x1, x2, x3, x4, some (.cell m), w, x7, x8, x9, x10, a, b, c] S' ∧ Src S' m := by
  obtain ⟨ρ, S', e, w, a, b, c, rfl, s'⟩ := evFor_ix (tg := .nm 6) (body := exss L.cons (L.run (k + 14)) L.fuel b_law_1) (xs := rngL 0 3)
    (fun i ρ S => ∃ w a b c, ρ = [x0, x1, x2, x3, x4, some (.cell m), w, x7, x8, x9, x10, a, b, c] ∧ Src S m)
    (fun i x hx ρ S ⟨w, a, b, c, q1, q2⟩ => by
      subst q1
      obtain ⟨pl, S1, e1, hp, s1, _⟩ := plang_ok (L := L) (k := k + 9) q2 (most := 8) (by omega) (by omega)
      obtain ⟨ls, ds, rfl, p⟩ := drawn_pk hp (by omega)
      obtain ⟨es, S2, e2, q, s2, _⟩ := near_ok (L := L) (k := k + 9) s1 p
      obtain ⟨fs, S3, e3, r, s3, _⟩ := near_ok (L := L) (k := k + 9) s2 p
      obtain ⟨pl2, S4, e4, hp2, s4, _⟩ := plang_ok (L := L) (k := k + 9) s3 (most := 3) (by omega) (by omega)
      obtain ⟨ls2, gs, rfl, p2⟩ := drawn_pk hp2 (by omega)
      obtain ⟨x', S5, e5, s5⟩ := in_ok (k := k) (x0 := x0) (x1 := x1) (x2 := x2) (x3 := x3) (x4 := x4) (x6 := some x) (x7 := x7) (x8 := x8) (x9 := x9) (x10 := x10) (x12 := some (plD ls es)) (x13 := c) p [plD ls es, plD ls fs, plD ls ds, plD ls2 gs] S4 c s4 (fun d hd => by
        simp only [List.mem_cons, List.not_mem_nil, or_false] at hd
        rcases hd with z | z | z | z
        · exact ⟨ls, es, z, q⟩
        · exact ⟨ls, fs, z, r⟩
        · exact ⟨ls, ds, z, p⟩
        · exact ⟨ls2, gs, z, p2⟩)
      refine ⟨_, rfl, [x0, x1, x2, x3, x4, some (.cell m), some x, x7, x8, x9, x10, some (plD ls ds), some (plD ls es), x'], S5, ?_, _, _, _, _, rfl, s5⟩
      have m1 : exs L.cons (L.run (k + 14)) L.fuel (.set 11 (.call f__law_plan (.cons (.var 5) (.cons (.int 8) .nil)))) [x0, x1, x2, x3, x4, some (.cell m), some x, x7, x8, x9, x10, a, b, c] S = .nx [x0, x1, x2, x3, x4, some (.cell m), some x, x7, x8, x9, x10, some (plD ls ds), b, c] S1 := by simp [e1]
      have m2 : exs L.cons (L.run (k + 14)) L.fuel (.set 12 (.call f__law_near (.cons (.var 5) (.cons (.var 11) .nil)))) [x0, x1, x2, x3, x4, some (.cell m), some x, x7, x8, x9, x10, some (plD ls ds), b, c] S1 = .nx [x0, x1, x2, x3, x4, some (.cell m), some x, x7, x8, x9, x10, some (plD ls ds), some (plD ls es), c] S2 := by simp [e2]
      have m3 : exs L.cons (L.run (k + 14)) L.fuel (.for_ (.nm 13) (.val (.lst (.cons (.var 12) (.cons (.call f__law_near (.cons (.var 5) (.cons (.var 11) .nil))) (.cons (.var 11) (.cons (.call f__law_plan (.cons (.var 5) (.cons (.int 3) .nil))) .nil)))))) b_law_0) [x0, x1, x2, x3, x4, some (.cell m), some x, x7, x8, x9, x10, some (plD ls ds), some (plD ls es), c] S2 = .nx [x0, x1, x2, x3, x4, some (.cell m), some x, x7, x8, x9, x10, some (plD ls ds), some (plD ls es), x'] S5 := by
        have e6 : evi L.cons (L.run (k + 14)) (.val (.lst (.cons (.var 12) (.cons (.call f__law_near (.cons (.var 5) (.cons (.var 11) .nil))) (.cons (.var 11) (.cons (.call f__law_plan (.cons (.var 5) (.cons (.int 3) .nil))) .nil)))))) [x0, x1, x2, x3, x4, some (.cell m), some x, x7, x8, x9, x10, some (plD ls ds), some (plD ls es), c] S2 = .ok [plD ls es, plD ls fs, plD ls ds, plD ls2 gs] S4 := by simp [e3, e4]
        rw [exs_for_, e6]
        exact e5
      exact (exss_nx m1).trans ((exss_nx m2).trans ((exss_nx m3).trans (exss_nil ..)))) (ρ := [x0, x1, x2, x3, x4, some (.cell m), x6, x7, x8, x9, x10, x11, x12, x13]) (S := S) ⟨x6, x11, x12, x13, rfl, hs⟩
  exact ⟨w, a, b, c, S', e, s'⟩
theorem outer_ok {ns : List Int} {k c : Nat} : ∃ a b d e f g S', evFor (.nm 1) (exss L.cons (L.run (k + 14)) L.fuel b_law_2) (rngL 0 c) [some (.ro (ns.map .int)), none, none, none, none, none, none, none, none, none, none, none, none, none] [] = .nx [some (.ro (ns.map .int)), a, none, none, none, b, d, none, none, none, none, e, f, g] S' := by
  obtain ⟨ρ, S', e, a, b, d, e', f, g, rfl⟩ := evFor_ix (tg := .nm 1) (body := exss L.cons (L.run (k + 14)) L.fuel b_law_2) (xs := rngL 0 c)
    (fun i ρ S => ∃ a b d e f g, ρ = [some (.ro (ns.map .int)), a, none, none, none, b, d, none, none, none, none, e, f, g])
    (fun i x hx ρ S ⟨a, b, d, e, f, g, q1⟩ => by
      obtain ⟨rfl, hi⟩ := rngL_int hx
      subst q1
      obtain ⟨S1, e1, s1, _⟩ := source_ok (L := L) (k := k + 13) (S := S) (ns := ns) (j := i)
      obtain ⟨w, a', b', c', S2, e2, s2⟩ := mid_ok (k := k) (x0 := some (.ro (ns.map .int))) (x1 := some (.int (0 + i))) (x2 := none) (x3 := none) (x4 := none) (x6 := d) (x7 := none) (x8 := none) (x9 := none) (x10 := none) (x11 := e) (x12 := f) (x13 := g) s1
      refine ⟨_, rfl, [some (.ro (ns.map .int)), some (.int (0 + i)), none, none, none, some (.cell S.length), w, none, none, none, none, a', b', c'], S2, ?_, _, _, _, _, _, _, rfl⟩
      have g3 : rngOk 3 = true := by decide
      have m1 : exs L.cons (L.run (k + 14)) L.fuel (.set 5 (.call f__law_source (.cons (.var 0) (.cons (.var 1) .nil)))) [some (.ro (ns.map .int)), some (.int (0 + i)), none, none, none, b, d, none, none, none, none, e, f, g] S = .nx [some (.ro (ns.map .int)), some (.int (0 + i)), none, none, none, some (.cell S.length), d, none, none, none, none, e, f, g] S1 := by simp [e1]
      have m2 : exs L.cons (L.run (k + 14)) L.fuel (.for_ (.nm 6) (.rng1 (.int 3)) b_law_1) [some (.ro (ns.map .int)), some (.int (0 + i)), none, none, none, some (.cell S.length), d, none, none, none, none, e, f, g] S1 = .nx [some (.ro (ns.map .int)), some (.int (0 + i)), none, none, none, some (.cell S.length), w, none, none, none, none, a', b', c'] S2 := by
        have e6 : evi L.cons (L.run (k + 14)) (.rng1 (.int 3)) [some (.ro (ns.map .int)), some (.int (0 + i)), none, none, none, some (.cell S.length), d, none, none, none, none, e, f, g] S1 = .ok (rngL 0 3) S1 := by simp [g3]
        rw [exs_for_, e6]
        exact e2
      exact (exss_nx m1).trans ((exss_nx m2).trans (exss_nil ..))) (ρ := [some (.ro (ns.map .int)), none, none, none, none, none, none, none, none, none, none, none, none, none]) (S := []) ⟨none, none, none, none, none, none, rfl⟩
  exact ⟨a, b, d, e', f, g, S', e⟩
theorem tail_ok (x a b d e f g : Option D) (S : Sto) : exss L.cons (L.run 59) L.fuel (tailS d_law.body) [x, a, none, none, none, b, d, none, none, none, none, e, f, g] S = .rt (.bl true) S := by
  kernel_rfl
theorem good : L.Good 60 lawF 63 := by
  intro ns hns _
  obtain ⟨a, b, d, e', f, g, S', e⟩ := outer_ok (ns := ns) (k := 45) (c := ((1 : Int) + (if (5 : Int) < ns.length then (5 : Int) else (ns.length : Int))).toNat)
  refine ⟨[], run_reg (d := d_law) (S' := S') rfl rfl ⟨rfl, by decide⟩ (by simp [pureL, D.pure]) ?_ rfl⟩
  have g1 : rngOk ((1 : Int) + (if (5 : Int) < ns.length then (5 : Int) else (ns.length : Int))) = true := by
    split
    · decide
    · exact rngOk_of (by omega) (by omega)
  have m1 : exs L.cons (L.run 59) L.fuel (.for_ (.nm 1) (.rng1 (.bin .add (.int 1) (.bi .min2 (.cons (.bi .len (.cons (.var 0) .nil)) (.cons (.int 5) .nil))))) b_law_2) [some (.ro (ns.map .int)), none, none, none, none, none, none, none, none, none, none, none, none, none] [] = .nx [some (.ro (ns.map .int)), a, none, none, none, b, d, none, none, none, none, e', f, g] S' := by
    have e6 : evi L.cons (L.run 59) (.rng1 (.bin .add (.int 1) (.bi .min2 (.cons (.bi .len (.cons (.var 0) .nil)) (.cons (.int 5) .nil))))) [some (.ro (ns.map .int)), none, none, none, none, none, none, none, none, none, none, none, none, none] [] = .ok (rngL 0 ((1 : Int) + (if (5 : Int) < ns.length then (5 : Int) else (ns.length : Int))).toNat) [] := by simp [g1]
    rw [exs_for_, e6]
    exact e
  exact (exss_nx m1).trans (tail_ok _ _ _ _ _ _ _ _)
end K05


set_option Elab.async false
set_option linter.all false
set_option maxRecDepth 100000
set_option maxHeartbeats 0
open PySem PySem.W PySem.Calls PyProof.Rows
theorem PySem.Challenge.cw_anykerb_k05_plans_compared_holds : PySem.Challenge.rw_anykerb_k05_plans_compared.Holds := by
  w_on; o_law
  refine HandSHeadRun.head_any (r := OpenLaw.row PySem.Challenge.rw_anykerb_k05_plans_compared) (q := view (OpenLaw.row PySem.Challenge.rw_anykerb_k05_plans_compared).prog [K05.lawI]) (H := K05.L.hook 4) (ob := K05.L.ob 4) (M := 40000) (loose := K05.names) (d := HandSHeadRun.topDef (OpenLaw.row PySem.Challenge.rw_anykerb_k05_plans_compared).prog K05.lawI) (kwd := []) (K05.L.ob_eq 4)
    (by kernel_rfl) (fun s => by kernel_rfl) K05.run (by kernel_rfl) (by kernel_rfl) (by kernel_rfl) (by rfl) (by first | assumption | decide +kernel) (by decide +kernel) ⟨rfl, rfl, rfl, rfl, rfl, by decide +kernel⟩ ?hw ?hc
  case hw => w_witness2
  case hc =>
    exact KI.Lw.walk (L := K05.L) (l := PySem.Challenge.rw_anykerb_k05_plans_compared) (k := 60) (li := K05.lawF) (e := ⟨K05.d_law, K05.top K05.lawI, false⟩) (x := "script") rfl (by kernel_rfl) ⟨rfl, by decide, by decide⟩ K05.chk K05.fits rfl rfl (by kernel_rfl) K05.good

