import PyProof.Rows.All
import Wide.All
import OpenK.AllK
import Wide.FinOn
import HandS.ForMost
import HandS.Walk
import PyProof.Rows.IntBool
import HandS.TupAny
import HandS.TupMul
import HandS.Deep
import HandS.IsInst
import HandS.Sort
import HandS.CallSlots
import HandS.ForExc
import HandS.Style
import HandS.Defaults
import HandS.Words
import HandS.WordsExc
import HandS.Head0
import HandS.Head1
import HandS.Head2
import HandS.HeadEnd
import HandS.HeadHook1
import HandS.HeadHook2
import HandS.HeadHook3
import HandS.HeadHook4
import KE.KStateDown
import HandS.Ends
import HandS.More
import PySem.Challenge.RW_anykerb_k01_values_recognized
set_option Elab.async false
set_option linter.all false
set_option maxRecDepth 100000
/-! A small interpreter over plain data: data, store, code, evaluation. Nothing of the model in it but Str and Key. -/
namespace KI
open PySem

abbrev Key := L2.Key
/-- plain data. cell: an object that may change (it stands in the store); ro: a list that is only read -/
inductive D where
  | non | bl (b : Bool) | int (i : Int) | str (s : Str)
  | tup (xs : List D) | lst (xs : List D) | dic (kvs : List (Key × D)) | ro (xs : List D)
  | cell (n : Nat)
instance : Inhabited D := ⟨.non⟩
/-- what stands in the store -/
inductive Ob where
  | lst (xs : List D) | dct (kvs : List (Key × D)) | dead
abbrev Sto := List Ob
/-- an exception: its class (a number that the texts fix), what it holds -/
structure Xn where
  cls : Nat
  fs : List (Str × D)
inductive Res (α : Type) where
  | ok (a : α) (S : Sto) | exc (x : Xn) (S : Sto) | no
@[reducible, simp] def Res.bind {α β : Type} (r : Res α) (f : α → Sto → Res β) : Res β := match r with
  | .ok a S => f a S
  | .exc x S => .exc x S
  | .no => .no
/-- a partial value as a result -/
@[reducible, simp] def lift {α : Type} (o : Option α) (S : Sto) : Res α := match o with
  | some a => .ok a S
  | none => .no

/-! ### no cells within -/
mutual
def D.pure : D → Bool
  | .non | .bl _ | .int _ | .str _ => true
  | .tup xs | .lst xs => pureL xs
  | .dic kvs => pureK kvs
  | .ro xs => pureL xs
  | .cell _ => false
def pureL : List D → Bool
  | [] => true
  | x :: xs => x.pure && pureL xs
def pureK : List (Key × D) → Bool
  | [] => true
  | (_, x) :: xs => x.pure && pureK xs
end

/-! ### equality of data, its depth -/
mutual
def eqD : D → D → Bool
  | .non, .non => true
  | .bl a, .bl b => a == b
  | .bl a, .int j => (if a then 1 else 0) == j
  | .int i, .bl b => i == (if b then 1 else 0)
  | .int i, .int j => i == j
  | .str x, .str y => x == y
  | .lst xs, .lst ys => eqL xs ys
  | .tup xs, .tup ys => eqL xs ys
  | _, _ => false
def eqL : List D → List D → Bool
  | [], [] => true
  | x :: xs, y :: ys => eqD x y && eqL xs ys
  | _, _ => false
end
mutual
/-- may be compared: none, a bool, an int, a text, tuples and lists of such, at most k deep -/
def shp : Nat → D → Bool
  | _, .non | _, .bl _ | _, .int _ => true
  | _, .str x => x.cps.all (· < 0x110000)
  | k + 1, .tup xs => shpL k xs
  | k + 1, .lst xs => shpL k xs
  | _, _ => false
def shpL : Nat → List D → Bool
  | _, [] => true
  | k, x :: xs => shp k x && shpL k xs
end

/-! ### operators -/
inductive Bop where | add | sub | mul | fdiv | mod | pow
  deriving DecidableEq
inductive Cop where | eq | ne | lt | le | gt | ge | isN | notN | in_ | nin
  deriving DecidableEq
/-- the longest list -/
@[simp] abbrev LN : Nat := 16777216
def mulOk (i j : Int) : Bool := decide (-(2 ^ 64) < i ∧ i < 2 ^ 64) || decide (-(2 ^ 64) < j ∧ j < 2 ^ 64)
def rep (k : Int) (xs : List D) : List D := (List.replicate k.toNat xs).flatten
def binD : Bop → D → D → Option D
  | .add, .int i, .int j => some (.int (i + j))
  | .add, .bl k, .int j => some (.int ((if k = true then (1 : Int) else 0) + j))
  | .add, .str a, .str b => if a.length + b.length ≤ LN then some (.str (a ++ b)) else none
  | .add, .tup a, .tup b => if a.length + b.length ≤ LN then some (.tup (a ++ b)) else none
  | .add, .lst a, .lst b => if a.length + b.length ≤ LN then some (.lst (a ++ b)) else none
  | .sub, .int i, .int j => some (.int (i - j))
  | .mul, .int i, .int j => if mulOk i j then some (.int (i * j)) else none
  | .mul, .lst a, .int k => if -(2 ^ 63) ≤ k ∧ k < 2 ^ 63 ∧ a.length * k.toNat ≤ LN then some (.lst (rep k a)) else none
  | .mul, .tup a, .int k => if a.length ≠ 0 ∧ 2 ≤ k ∧ k ≤ 1000 ∧ a.length ≤ 1000 then some (.tup (rep k a)) else none
  | .fdiv, .int i, .int j => if j ≠ 0 ∧ j.natAbs < 1073741824 then some (.int (i.fdiv j)) else none
  | .mod, .int i, .int j => if j ≠ 0 then some (.int (i.fmod j)) else none
  | .pow, .int i, .int j => if 0 ≤ j ∧ j ≤ 1000000 ∧ i.natAbs < 2 ^ 64 then some (.int (i ^ j.toNat)) else none
  | _, _, _ => none
@[simp] def items : D → Option (List D)
  | .tup xs => some xs
  | .lst xs => some xs
  | _ => none
def isNon : D → Bool
  | .non => true
  | _ => false
def cmpD : Cop → D → D → Option Bool
  | .eq, x, y => if shp 64 x && shp 64 y then some (eqD x y) else none
  | .ne, x, y => if shp 64 x && shp 64 y then some (!eqD x y) else none
  | .lt, .int i, .int j => some (decide (i < j))
  | .le, .int i, .int j => some (decide (i ≤ j))
  | .gt, .int i, .int j => some (decide (j < i))
  | .ge, .int i, .int j => some (decide (j ≤ i))
  | .isN, x, .non => some (isNon x)
  | .notN, x, .non => some (!isNon x)
  | .in_, x, c => match items c with
    | some xs => if shp 64 x && shpL 63 xs then some (xs.any fun y => eqD y x) else none
    | none => none
  | .nin, x, c => match items c with
    | some xs => if shp 64 x && shpL 63 xs then some (!xs.any fun y => eqD y x) else none
    | none => none
  | _, _, _ => none

/-! ### subscripts -/
def dicGet (kvs : List (Key × D)) (k : Key) : Option D := (kvs.find? fun kv => decide (kv.1 = k)).map (·.2)
def dicPut (kvs : List (Key × D)) (k : Key) (d : D) : List (Key × D) := bif kvs.any fun kv => decide (kv.1 = k) then kvs.map (fun kv => if kv.1 = k then (kv.1, d) else kv) else kvs ++ [(k, d)]
def keyOf : D → Option Key
  | .int i => some (.inl i)
  | .str s => some (.inr s)
  | _ => none
def idxD (S : Sto) : D → D → Option D
  | .tup xs, .int i => L2.atI xs i
  | .lst xs, .int i => L2.atI xs i
  | .ro xs, .int i => L2.atI xs i
  | .dic kvs, k => (keyOf k).bind fun k => dicGet kvs k
  | .cell n, k => match S[n]? with
    | some (.lst xs) => match k with
      | .int i => L2.atI xs i
      | _ => none
    | some (.dct kvs) => (keyOf k).bind fun k => dicGet kvs k
    | _ => none
  | _, _ => none
/-- xs[lo:hi] -/
def cut {α : Type} (xs : List α) (lo hi : Option Int) : List α := (xs.drop (HT.sIx xs.length 0 lo)).take (HT.sIx xs.length xs.length hi - HT.sIx xs.length 0 lo)
def cutD (d : D) (lo hi : Option Int) : Option D := match d with
  | .tup xs => some (.tup (cut xs lo hi))
  | .lst xs => some (.lst (cut xs lo hi))
  | _ => none

/-! ### types, built-in functions, methods -/
inductive Ty where | int | bool | str | tuple | list
  deriving DecidableEq
def isTy : Ty → D → Option Bool
  | _, .cell _ => none
  | _, .dic _ => none
  | .int, .int _ => some true
  | .int, .bl _ => some true
  | .bool, .bl _ => some true
  | .str, .str _ => some true
  | .tuple, .tup _ => some true
  | .list, .lst _ => some true
  | .list, .ro _ => some true
  | _, _ => some false
inductive Bi where | len | abs | int | str | min1 | max1 | min2 | max2 | all | any | sum | list | tuple | dict
  deriving DecidableEq
def intsD : List D → Option (List Int)
  | [] => some []
  | .int i :: r => (intsD r).map (i :: ·)
  | _ :: _ => none
def boolsD : List D → Option (List Bool)
  | [] => some []
  | .bl b :: r => (boolsD r).map (b :: ·)
  | _ :: _ => none
def minL : Int → List Int → Int
  | m, [] => m
  | m, x :: xs => minL (if x < m then x else m) xs
def maxL : Int → List Int → Int
  | m, [] => m
  | m, x :: xs => maxL (if x > m then x else m) xs
def pairsOf : List D → Option (List (Key × D))
  | [] => some []
  | .tup [k, v] :: r => (keyOf k).bind fun k => (pairsOf r).map ((k, v) :: ·)
  | _ :: _ => none
def mergeD : List (Key × D) → List (Key × D) → List (Key × D)
  | acc, [] => acc
  | acc, (k, v) :: r => mergeD (dicPut acc k v) r
def biD (S : Sto) : Bi → List D → Option D
  | .len, [.tup xs] => some (.int xs.length)
  | .len, [.lst xs] => some (.int xs.length)
  | .len, [.ro xs] => some (.int xs.length)
  | .len, [.str s] => if s.length ≤ LN then some (.int s.length) else none
  | .abs, [.int i] => some (.int (if i < 0 then -i else i))
  | .int, [.int i] => some (.int i)
  | .int, [.bl b] => some (.int (if b then 1 else 0))
  | .str, [.int i] => if i.natAbs.log2 < 1920 then some (.str (toString i)) else none
  | .min1, [.lst xs] => match intsD xs with
    | some (m :: r) => some (.int (minL m r))
    | _ => none
  | .max1, [.lst xs] => match intsD xs with
    | some (m :: r) => some (.int (maxL m r))
    | _ => none
  | .min2, [.int i, .int j] => some (.int (if j < i then j else i))
  | .max2, [.int i, .int j] => some (.int (if j > i then j else i))
  | .all, [.lst xs] => (boolsD xs).map fun bs => .bl (bs.all id)
  | .any, [.lst xs] => (boolsD xs).map fun bs => .bl (bs.any id)
  | .sum, [.lst xs] => (intsD xs).map fun ns => .int ns.sum
  | .list, [.lst xs] => some (.lst xs)
  | .list, [.tup xs] => some (.lst xs)
  | .tuple, [.lst xs] => some (.tup xs)
  | .tuple, [.tup xs] => some (.tup xs)
  | .dict, [.lst xs] => (pairsOf xs).map fun ps => .dic (mergeD [] ps)
  | _, _ => none
inductive Mt where | index | get
  deriving DecidableEq
def findIx : Nat → List D → D → Option Nat
  | _, [], _ => none
  | n, y :: ys, x => if eqD y x then some n else findIx (n + 1) ys x
def mtD (S : Sto) : Mt → D → List D → Option D
  | .index, .lst xs, [x] => if shp 64 x && shpL 63 xs then (findIx 0 xs x).map fun (n : Nat) => .int n else none
  | .get, .dic kvs, [k, z] => (keyOf k).map fun k => (dicGet kvs k).getD z
  | _, _, _ => none

/-! ### code -/
mutual
inductive Tg where
  | nm (i : Nat)
  | tp (ts : Tgs)
inductive Tgs where
  | nil
  | cons (t : Tg) (ts : Tgs)
end
mutual
/-- an expression -/
inductive Ex where
  | var (i : Nat)
  | con (c : Nat)
  | int (i : Int) | bl (b : Bool) | non | str (s : Str)
  | tup (es : Exs) | lst (es : Exs)
  | dct (ks : List Str) (es : Exs)
  /-- a new list, dict, that may change -/
  | newc (e : Ex)
  | bin (o : Bop) (a b : Ex)
  | neg (a : Ex)
  | cmp (o : Cop) (a b : Ex)
  | chn (o p : Cop) (a b c : Ex)
  | and (a b : Ex) | or (a b : Ex) | not (a : Ex)
  | ite (c a b : Ex)
  | idx (a i : Ex)
  | sli (a : Ex) (lo hi : Oe)
  | call (f : Nat) (es : Exs)
  /-- a call without arguments (no exception comes of it) -/
  | call0 (f : Nat)
  | bi (b : Bi) (es : Exs)
  | isi (a : Ex) (t : Ty)
  | mth (m : Mt) (o : Ex) (es : Exs)
  | lc (own : List Nat) (tg : Tg) (it : It) (c : Oe) (e : Ex)
inductive Exs where
  | nil
  | cons (e : Ex) (es : Exs)
inductive Oe where
  | none
  | some (e : Ex)
/-- what a loop walks -/
inductive It where
  | val (e : Ex) | rng1 (e : Ex) | rng2 (a b : Ex) | enum (e : Ex) | zip (a b : Ex)
end
mutual
inductive Sx where
  | set (i : Nat) (e : Ex)
  | unp (tg : Tg) (e : Ex)
  | par (i j : Nat) (es : Exs)
  | par3 (i j l : Nat) (es : Exs)
  /-- into a list -/
  | put (o i e : Ex)
  /-- into a dict -/
  | dput (o i e : Ex)
  | app (i : Nat) (e : Ex)
  /-- a list that is no longer changed (nothing in the text) -/
  | frz (i : Nat)
  | ret (e : Ex)
  | ifs (c : Ex) (a b : Sxs)
  | for_ (tg : Tg) (it : It) (b : Sxs)
  | whl (c : Ex) (b : Sxs)
  | exp (e : Ex)
  | rai (c : Nat)
  | nev
inductive Sxs where
  | nil
  | cons (s : Sx) (ss : Sxs)
end
abbrev Env := List (Option D)
abbrev Call := Nat → List D → Sto → Res D

mutual
@[simp] def bindT : Tg → D → Env → Option Env
  | .nm i, d, ρ => some (ρ.set i (some d))
  | .tp ts, d, ρ => match d with
    | .tup xs => bindTs ts xs ρ
    | .lst xs => bindTs ts xs ρ
    | _ => none
@[simp] def bindTs : Tgs → List D → Env → Option Env
  | .nil, [], ρ => some ρ
  | .cons t ts, x :: xs, ρ => match bindT t x ρ with
    | some ρ' => bindTs ts xs ρ'
    | none => none
  | _, _, _ => none
end
mutual
/-- the slots that a target sets -/
def slotsT : Tg → List Nat
  | .nm i => [i]
  | .tp ts => slotsTs ts
def slotsTs : Tgs → List Nat
  | .nil => []
  | .cons t ts => slotsT t ++ slotsTs ts
end
@[simp] def wipeE (ρ : Env) : List Nat → Env
  | [] => ρ
  | v :: vs => (wipeE ρ vs).set v none
/-- lo, lo + 1, ..: n of them -/
def rngL (lo : Int) : Nat → List D
  | 0 => []
  | n + 1 => .int lo :: rngL (lo + 1) n
def enumL : Nat → List D → List D
  | _, [] => []
  | n, x :: xs => .tup [.int (n : Int), x] :: enumL (n + 1) xs
def zipL : List D → List D → List D
  | x :: xs, y :: ys => .tup [x, y] :: zipL xs ys
  | _, _ => []
def rngOk (i : Int) : Bool := decide (-(2 ^ 62) ≤ i ∧ i < 2 ^ 62)
/-- no exception is let through -/
@[reducible, simp] def shut {α : Type} (r : Res α) : Res α := match r with
  | .ok a S => .ok a S
  | _ => .no
def boolD : D → Option Bool
  | .bl b => some b
  | _ => none
/-- the turns of a comprehension -/
def evLc (turn : D → Sto → Res (Option D)) : List D → List D → Sto → Res (List D)
  | [], acc, S => .ok acc S
  | x :: xs, acc, S => match turn x S with
    | .ok (some d) S' => if acc.length < LN then evLc turn xs (acc ++ [d]) S' else .no
    | .ok none S' => evLc turn xs acc S'
    | _ => .no
section
variable (cons : Nat → D) (call : Call)
mutual
def ev : Ex → Env → Sto → Res D
  | .var i, ρ, S => match ρ[i]? with
    | some (some d) => .ok d S
    | _ => .no
  | .con c, _, S => .ok (cons c) S
  | .int i, _, S => .ok (.int i) S
  | .bl b, _, S => .ok (.bl b) S
  | .non, _, S => .ok .non S
  | .str s, _, S => .ok (.str s) S
  | .tup es, ρ, S => (evs es ρ S).bind fun ds S => if ds.length ≤ LN then .ok (.tup ds) S else .no
  | .lst es, ρ, S => (evs es ρ S).bind fun ds S => if ds.length ≤ LN then .ok (.lst ds) S else .no
  | .dct ks es, ρ, S => (evs es ρ S).bind fun ds S => if ds.length = ks.length ∧ ks.length ≤ 15 ∧ ks.length ≠ 0 then .ok (.dic (mergeD [] ((ks.map Sum.inr).zip ds))) S else .no
  | .newc e, ρ, S => (ev e ρ S).bind fun d S => match d with
    | .lst xs => .ok (.cell S.length) (S ++ [.lst xs])
    | .dic kvs => .ok (.cell S.length) (S ++ [.dct kvs])
    | _ => .no
  | .bin o a b, ρ, S => (ev a ρ S).bind fun x S => (ev b ρ S).bind fun y S => lift (binD o x y) S
  | .neg a, ρ, S => (ev a ρ S).bind fun x S => match x with
    | .int i => .ok (.int (-i)) S
    | _ => .no
  | .cmp o a b, ρ, S => (ev a ρ S).bind fun x S => (ev b ρ S).bind fun y S => lift ((cmpD o x y).map .bl) S
  | .chn o p a b c, ρ, S => (ev a ρ S).bind fun x S => (ev b ρ S).bind fun y S => match cmpD o x y with
    | some true => (ev c ρ S).bind fun z S => lift ((cmpD p y z).map .bl) S
    | some false => .ok (.bl false) S
    | none => .no
  | .and a b, ρ, S => (ev a ρ S).bind fun x S => match x with
    | .bl true => ev b ρ S
    | .bl false => .ok (.bl false) S
    | _ => .no
  | .or a b, ρ, S => (ev a ρ S).bind fun x S => match x with
    | .bl false => ev b ρ S
    | .bl true => .ok (.bl true) S
    | _ => .no
  | .not a, ρ, S => (ev a ρ S).bind fun x S => match x with
    | .bl b => .ok (.bl (!b)) S
    | _ => .no
  | .ite c a b, ρ, S => (ev c ρ S).bind fun x S => match x with
    | .bl true => ev a ρ S
    | .bl false => ev b ρ S
    | _ => .no
  | .idx a i, ρ, S => (ev a ρ S).bind fun x S => (ev i ρ S).bind fun y S => lift (idxD S x y) S
  | .sli a lo hi, ρ, S => (ev a ρ S).bind fun x S => (evo lo ρ S).bind fun l S => (evo hi ρ S).bind fun u S => lift (cutD x l u) S
  | .call f es, ρ, S => (evs es ρ S).bind fun ds S => call f ds S
  | .call0 f, _, S => shut (call f [] S)
  | .bi b es, ρ, S => (evs es ρ S).bind fun ds S => lift (biD S b ds) S
  | .isi a t, ρ, S => (ev a ρ S).bind fun x S => lift ((isTy t x).map .bl) S
  | .mth m o es, ρ, S => (ev o ρ S).bind fun x S => (evs es ρ S).bind fun ds S => lift (mtD S m x ds) S
  | .lc own tg it c e, ρ, S => (evi it ρ S).bind fun xs S => (evLc (fun x S => match bindT tg x (wipeE ρ own) with
      | some ρ' => (evc c ρ' S).bind fun b S => bif b then (ev e ρ' S).bind fun d S => .ok (some d) S else .ok none S
      | none => .no) xs [] S).bind fun ds S => .ok (.lst ds) S
@[simp] def evs : Exs → Env → Sto → Res (List D)
  | .nil, _, S => .ok [] S
  | .cons e es, ρ, S => (ev e ρ S).bind fun d S => (evs es ρ S).bind fun ds S => .ok (d :: ds) S
@[simp] def evo : Oe → Env → Sto → Res (Option Int)
  | .none, _, S => .ok none S
  | .some e, ρ, S => (ev e ρ S).bind fun d S => match d with
    | .int i => .ok (some i) S
    | _ => .no
/-- a test, where one stands -/
@[simp] def evc : Oe → Env → Sto → Res Bool
  | .none, _, S => .ok true S
  | .some e, ρ, S => (ev e ρ S).bind fun d S => match d with
    | .bl b => .ok b S
    | _ => .no
@[simp] def evi : It → Env → Sto → Res (List D)
  | .val e, ρ, S => (ev e ρ S).bind fun d S => lift (items d) S
  | .rng1 e, ρ, S => (ev e ρ S).bind fun d S => match d with
    | .int j => if rngOk j then .ok (rngL 0 j.toNat) S else .no
    | _ => .no
  | .rng2 a b, ρ, S => (ev a ρ S).bind fun x S => (ev b ρ S).bind fun y S => match x, y with
    | .int i, .int j => if rngOk i && rngOk j then .ok (rngL i (j - i).toNat) S else .no
    | _, _ => .no
  | .enum e, ρ, S => (ev e ρ S).bind fun d S => lift ((items d).map (enumL 0)) S
  | .zip a b, ρ, S => (ev a ρ S).bind fun x S => (ev b ρ S).bind fun y S => match items x, items y with
    | some xs, some ys => .ok (zipL xs ys) S
    | _, _ => .no
end
end

/-- how a statement ends -/
inductive Fl where
  | nx (ρ : Env) (S : Sto) | rt (d : D) (S : Sto) | exc (x : Xn) (ρ : Env) (S : Sto) | no
@[reducible, simp] def onD {α : Type} (r : Res α) (ρ : Env) (f : α → Sto → Fl) : Fl := match r with
  | .ok d S => f d S
  | .exc x S => .exc x ρ S
  | .no => .no
@[reducible, simp] def Fl.then (r : Fl) (f : Env → Sto → Fl) : Fl := match r with
  | .nx ρ S => f ρ S
  | r => r
/-- the turns of a for -/
def evFor (tg : Tg) (body : Env → Sto → Fl) : List D → Env → Sto → Fl
  | [], ρ, S => .nx ρ S
  | x :: xs, ρ, S => match bindT tg x ρ with
    | some ρ' => (body ρ' S).then fun ρ S => evFor tg body xs ρ S
    | none => .no
/-- the turns of a while, at most so many -/
def evWhl (c : Env → Sto → Res D) (body : Env → Sto → Fl) : Nat → Env → Sto → Fl
  | 0, _, _ => .no
  | n + 1, ρ, S => onD (c ρ S) ρ fun d S => match d with
    | .bl true => (body ρ S).then fun ρ S => evWhl c body n ρ S
    | .bl false => .nx ρ S
    | _ => .no
section
variable (cons : Nat → D) (call : Call) (fuel : Nat)
mutual
def exs : Sx → Env → Sto → Fl
  | .set i e, ρ, S => onD (ev cons call e ρ S) ρ fun d S => .nx (ρ.set i (some d)) S
  | .unp tg e, ρ, S => onD (ev cons call e ρ S) ρ fun d S => match bindT tg d ρ with
    | some ρ' => .nx ρ' S
    | none => .no
  | .par i j es, ρ, S => onD (evs cons call es ρ S) ρ fun ds S => match ds with
    | [x, y] => .nx ((ρ.set i (some x)).set j (some y)) S
    | _ => .no
  | .par3 i j l es, ρ, S => onD (evs cons call es ρ S) ρ fun ds S => match ds with
    | [x, y, z] => .nx (((ρ.set i (some x)).set j (some y)).set l (some z)) S
    | _ => .no
  | .put o i e, ρ, S => onD (ev cons call e ρ S) ρ fun v S => onD (ev cons call o ρ S) ρ fun o S => onD (ev cons call i ρ S) ρ fun i S => match o, i with
    | .cell n, .int k => match S[n]? with
      | some (.lst xs) => match L2.ixN xs.length k with
        | some j => .nx ρ (S.set n (.lst (xs.set j v)))
        | none => .no
      | _ => .no
    | _, _ => .no
  | .dput o i e, ρ, S => onD (ev cons call e ρ S) ρ fun v S => onD (ev cons call o ρ S) ρ fun o S => onD (ev cons call i ρ S) ρ fun i S => match o, keyOf i with
    | .cell n, some k => match S[n]? with
      | some (.dct kvs) => if kvs.length < 1000 then .nx ρ (S.set n (.dct (dicPut kvs k v))) else .no
      | _ => .no
    | _, _ => .no
  | .app i e, ρ, S => match ρ[i]? with
    | some (some (.cell n)) => match S[n]? with
      | some (.lst _) => onD (ev cons call e ρ S) ρ fun d S => match S[n]? with
        | some (.lst xs) => if xs.length < LN then .nx ρ (S.set n (.lst (xs ++ [d]))) else .no
        | _ => .no
      | _ => .no
    | _ => .no
  | .frz i, ρ, S => match ρ[i]? with
    | some (some (.cell n)) => match S[n]? with
      | some (.lst xs) => .nx (ρ.set i (some (.lst xs))) (S.set n .dead)
      | _ => .no
    | _ => .no
  | .ret e, ρ, S => onD (ev cons call e ρ S) ρ fun d S => .rt d S
  | .ifs c a b, ρ, S => onD (ev cons call c ρ S) ρ fun d S => match d with
    | .bl true => exss a ρ S
    | .bl false => exss b ρ S
    | _ => .no
  | .for_ tg it b, ρ, S => onD (evi cons call it ρ S) ρ fun xs S => evFor tg (exss b) xs ρ S
  | .whl c b, ρ, S => evWhl (ev cons call c) (exss b) fuel ρ S
  | .exp e, ρ, S => onD (ev cons call e ρ S) ρ fun _ S => .nx ρ S
  | .rai c, ρ, S => .exc ⟨c, []⟩ ρ S
  | .nev, _, _ => .no
def exss : Sxs → Env → Sto → Fl
  | .nil, ρ, S => .nx ρ S
  | .cons s ss, ρ, S => (exs s ρ S).then fun ρ S => exss ss ρ S
end
end
/-- a def -/
structure Def where
  name : Str
  /-- its names by slot, the parameters first -/
  N : List Str
  nps : Nat
  body : Sxs
  /-- it is run in a store of its own -/
  reg : Bool := false
def callN (cons : Nat → D) (T : Nat → Option Def) (fuel : Nat) : Nat → Call
  | 0, _, _, _ => .no
  | k + 1, f, ds, S => match T f with
    | none => .no
    | some d => if ds.length = d.nps ∧ d.nps ≤ d.N.length then
        (match d.reg with
        | false => (match exss cons (callN cons T fuel k) fuel d.body (ds.map some ++ List.replicate (d.N.length - d.nps) none) S with
          | .nx _ S' => .ok .non S'
          | .rt v S' => .ok v S'
          | .exc x _ S' => .exc x S'
          | .no => .no)
        | true => if pureL ds then
            (match exss cons (callN cons T fuel k) fuel d.body (ds.map some ++ List.replicate (d.N.length - d.nps) none) [] with
            | .nx _ _ => .ok .non S
            | .rt v _ => if v.pure then .ok v S else .no
            | .exc x _ _ => if pureL (x.fs.map (·.2)) then .exc x S else .no
            | .no => .no) else .no)
      else .no
end KI


set_option Elab.async false
set_option linter.all false
set_option maxRecDepth 100000
set_option autoImplicit false
/-! How plain data lies in the abstract heap. -/
namespace KI
open PySem PySem.Spec PyProof.Rows L2

/-- a tuple of the written part -/
def KT (K : PySem.W.Frag) (a : Addr) (xs : List V) : Prop := ∃ (o : Obj) (its : Array Value) (n : Nat), K.lookup a = some o ∧ o.cls = .type "tuple" ∧ o.data = .seq its n ∧ its.size ≤ sizeLine ∧ Vals xs its.toList
def KL (K : PySem.W.Frag) (a : Addr) (xs : List V) : Prop := ∃ (o : Obj) (its : Array Value) (n : Nat), K.lookup a = some o ∧ o.cls = .type "list" ∧ o.dict = none ∧ o.data = .seq its n ∧ its.size ≤ sizeLine ∧ Vals xs its.toList
def SqTm (K : PySem.W.Frag) (mu : List Addr) (H : Hp) (a : Addr) (xs : List V) : Prop := (Rd H a (.tup xs) ∧ a ∉ mu) ∨ KT K a xs
def SqLm (K : PySem.W.Frag) (mu : List Addr) (H : Hp) (a : Addr) (xs : List V) : Prop := (Rd H a (.lst xs) ∧ a ∉ mu) ∨ KL K a xs
theorem SqTm.sq {K : PySem.W.Frag} {mu : List Addr} {H : Hp} {a : Addr} {xs : List V} (h : SqTm K mu H a xs) : SqT K H a xs := by
  rcases h with h | h
  · exact .inl h.1
  · exact .inr h
theorem SqLm.sq {K : PySem.W.Frag} {mu : List Addr} {H : Hp} {a : Addr} {xs : List V} (h : SqLm K mu H a xs) : SqL K H a xs := by
  rcases h with h | h
  · exact .inl h.1
  · exact .inr h
mutual
/-- v is d: ca: where the cells stand; mu: the addresses whose objects may change -/
inductive Is (K : PySem.W.Frag) (ca mu : List Addr) (H : Hp) : V → D → Prop
  | non : Is K ca mu H .non .non
  | bl (b : Bool) : Is K ca mu H (.bl b) (.bl b)
  | int (i : Int) : Is K ca mu H (.int i) (.int i)
  | str (x : Str) : Is K ca mu H (.str x) (.str x)
  | tup {a : Addr} {vs : List V} {ds : List D} : SqTm K mu H a vs → IsL K ca mu H vs ds → Is K ca mu H (.ref a) (.tup ds)
  | lst {a : Addr} {vs : List V} {ds : List D} : H a = some (.lst vs) → a ∉ mu → IsL K ca mu H vs ds → Is K ca mu H (.ref a) (.lst ds)
  | dic {a : Addr} {kvs : List (Key × V)} {kds : List (Key × D)} : H a = some (.dK kvs) → a ∉ mu → IsK K ca mu H kvs kds → Is K ca mu H (.ref a) (.dic kds)
  | ro {a : Addr} {vs : List V} {ds : List D} : SqLm K mu H a vs → IsL K ca mu H vs ds → Is K ca mu H (.ref a) (.ro ds)
  | cell {a : Addr} {n : Nat} : ca[n]? = some a → Is K ca mu H (.ref a) (.cell n)
inductive IsL (K : PySem.W.Frag) (ca mu : List Addr) (H : Hp) : List V → List D → Prop
  | nil : IsL K ca mu H [] []
  | cons {v : V} {vs : List V} {d : D} {ds : List D} : Is K ca mu H v d → IsL K ca mu H vs ds → IsL K ca mu H (v :: vs) (d :: ds)
inductive IsK (K : PySem.W.Frag) (ca mu : List Addr) (H : Hp) : List (Key × V) → List (Key × D) → Prop
  | nil : IsK K ca mu H [] []
  | cons {k : Key} {v : V} {vs : List (Key × V)} {d : D} {ds : List (Key × D)} : Is K ca mu H v d → IsK K ca mu H vs ds → IsK K ca mu H ((k, v) :: vs) ((k, d) :: ds)
end
/-- what stands at a cell -/
def ObR (K : PySem.W.Frag) (ca mu : List Addr) (H : Hp) (a : Addr) : Ob → Prop
  | .lst xs => a ∈ mu ∧ ∃ vs, H a = some (.lst vs) ∧ IsL K ca mu H vs xs
  | .dct kds => a ∈ mu ∧ ∃ kvs, H a = some (.dK kvs) ∧ IsK K ca mu H kvs kds
  | .dead => True
structure Wd (K : PySem.W.Frag) (ca mu : List Addr) (H : Hp) (S : Sto) : Prop where
  len : ca.length = S.length
  nd : ca.Nodup
  ob : ∀ (n : Nat) (a : Addr) (o : Ob), ca[n]? = some a → S[n]? = some o → ObR K ca mu H a o
  tm : ∀ a, a ∈ mu → H a ≠ none
  tc : ∀ a, a ∈ ca → H a ≠ none
structure Ext (ca mu : List Addr) (H : Hp) (ca' mu' : List Addr) (H' : Hp) : Prop where
  pre : ∃ nw, ca' = ca ++ nw ∧ ∀ a ∈ nw, H a = none
  mus : ∀ a, a ∈ mu' → a ∈ mu ∨ H a = none
  kp : ∀ a o, H a = some o → ¬ (a ∈ ca ∧ a ∈ mu) → H' a = some o
  tr : ∀ a, H a ≠ none → H' a ≠ none
  fb : ∀ a, a ∈ mu → a ∉ ca → H a ≠ none → a ∈ mu'
section
variable {K : PySem.W.Frag} {ca mu ca' mu' ca2 mu2 : List Addr} {H H' H2 : Hp} {S : Sto}
theorem Ext.refl : Ext ca mu H ca mu H := ⟨⟨[], by simp, fun _ h => nomatch h⟩, fun _ h => .inl h, fun _ _ h _ => h, fun _ h => h, fun _ h _ _ => h⟩
theorem Ext.trans (x : Ext ca mu H ca' mu' H') (y : Ext ca' mu' H' ca2 mu2 H2) : Ext ca mu H ca2 mu2 H2 := by
  have back : ∀ a, H' a = none → H a = none := fun a h => by
    cases q : H a with
    | none => rfl
    | some o => exact absurd h (x.tr a (by rw [q]; simp))
  refine ⟨?_, fun a h => ?_, fun a o h n => ?_, fun a h => y.tr a (x.tr a h), fun a h1 h2 h3 => y.fb a (x.fb a h1 h2 h3) (fun z => ?_) (x.tr a h3)⟩
  · obtain ⟨n1, e1, f1⟩ := x.pre
    obtain ⟨n2, e2, f2⟩ := y.pre
    refine ⟨n1 ++ n2, by rw [e2, e1, List.append_assoc], fun a ha => ?_⟩
    rcases List.mem_append.mp ha with h | h
    · exact f1 a h
    · exact back a (f2 a h)
  · rcases y.mus a h with h | h
    · exact x.mus a h
    · exact .inr (back a h)
  · refine y.kp a o (x.kp a o h n) fun ⟨h1, h2⟩ => n ?_
    obtain ⟨n1, e1, f1⟩ := x.pre
    rw [e1] at h1
    refine ⟨?_, ?_⟩
    · rcases List.mem_append.mp h1 with h1 | h1
      · exact h1
      · rw [f1 a h1] at h; cases h
    · rcases x.mus a h2 with h2 | h2
      · exact h2
      · rw [h2] at h; cases h
  · obtain ⟨n1, e1, f1⟩ := x.pre
    rw [e1] at z
    rcases List.mem_append.mp z with z | z
    · exact h2 z
    · exact h3 (f1 a z)
theorem Ext.out {a : Addr} {o : HO} (x : Ext ca mu H ca' mu' H') (h : H a = some o) (n : a ∉ mu) : H' a = some o ∧ a ∉ mu' :=
  ⟨x.kp a o h fun z => n z.2, fun z => (x.mus a z).elim n fun e => by rw [e] at h; cases h⟩
theorem Ext.rd {a : Addr} {u : HO} (x : Ext ca mu H ca' mu' H') (h : Rd H a u) (n : a ∉ mu) : Rd H' a u ∧ a ∉ mu' := by
  rcases h with h | ⟨o, h⟩
  · exact ⟨.inl (x.out h n).1, (x.out h n).2⟩
  · exact ⟨.inr ⟨o, (x.out h n).1⟩, (x.out h n).2⟩
theorem Ext.cell {a : Addr} {n : Nat} (x : Ext ca mu H ca' mu' H') (h : ca[n]? = some a) : ca'[n]? = some a := by
  obtain ⟨nw, e, _⟩ := x.pre
  rw [e, List.getElem?_append_left (List.getElem?_eq_some_iff.mp h).1]
  exact h
theorem SqTm.ext {a : Addr} {xs : List V} (h : SqTm K mu H a xs) (x : Ext ca mu H ca' mu' H') : SqTm K mu' H' a xs := by
  rcases h with h | h
  · exact .inl (x.rd h.1 h.2)
  · exact .inr h
theorem SqLm.ext {a : Addr} {xs : List V} (h : SqLm K mu H a xs) (x : Ext ca mu H ca' mu' H') : SqLm K mu' H' a xs := by
  rcases h with h | h
  · exact .inl (x.rd h.1 h.2)
  · exact .inr h
mutual
theorem Is.ext (x : Ext ca mu H ca' mu' H') : ∀ (d : D) {v : V}, Is K ca mu H v d → Is K ca' mu' H' v d
  | .non, _, h => by cases h; exact .non
  | .bl b, _, h => by cases h; exact .bl b
  | .int i, _, h => by cases h; exact .int i
  | .str s, _, h => by cases h; exact .str s
  | .tup ds, _, h => by cases h with | tup h1 h2 => exact .tup (h1.ext x) (IsL.ext x ds h2)
  | .lst ds, _, h => by cases h with | lst h1 h2 h3 => exact .lst (x.out h1 h2).1 (x.out h1 h2).2 (IsL.ext x ds h3)
  | .dic ds, _, h => by cases h with | dic h1 h2 h3 => exact .dic (x.out h1 h2).1 (x.out h1 h2).2 (IsK.ext x ds h3)
  | .ro ds, _, h => by cases h with | ro h1 h2 => exact .ro (h1.ext x) (IsL.ext x ds h2)
  | .cell n, _, h => by cases h with | cell h => exact .cell (x.cell h)
theorem IsL.ext (x : Ext ca mu H ca' mu' H') : ∀ (ds : List D) {vs : List V}, IsL K ca mu H vs ds → IsL K ca' mu' H' vs ds
  | [], _, h => by cases h; exact .nil
  | d :: ds, _, h => by cases h with | cons h1 h2 => exact .cons (Is.ext x d h1) (IsL.ext x ds h2)
theorem IsK.ext (x : Ext ca mu H ca' mu' H') : ∀ (ds : List (Key × D)) {vs : List (Key × V)}, IsK K ca mu H vs ds → IsK K ca' mu' H' vs ds
  | [], _, h => by cases h; exact .nil
  | (_, d) :: ds, _, h => by cases h with | cons h1 h2 => exact .cons (Is.ext x d h1) (IsK.ext x ds h2)
end
/-! ### lists of data -/
theorem IsL.length {vs : List V} {ds : List D} (h : IsL K ca mu H vs ds) : vs.length = ds.length := by
  induction ds generalizing vs with
  | nil => cases h; rfl
  | cons d ds ih => cases h with | cons h1 h2 => simp [ih h2]
theorem IsL.get {vs : List V} {ds : List D} (h : IsL K ca mu H vs ds) {i : Nat} {d : D} (e : ds[i]? = some d) : ∃ v, vs[i]? = some v ∧ Is K ca mu H v d := by
  induction ds generalizing vs i with
  | nil => simp at e
  | cons d' ds ih =>
    cases h with
    | cons h1 h2 =>
      cases i with
      | zero => simp at e; subst e; exact ⟨_, rfl, h1⟩
      | succ i => exact ih h2 (by simpa using e)
theorem IsL.get' {vs : List V} {ds : List D} (h : IsL K ca mu H vs ds) {i : Nat} {v : V} (e : vs[i]? = some v) : ∃ d, ds[i]? = some d ∧ Is K ca mu H v d := by
  induction ds generalizing vs i with
  | nil => cases h; simp at e
  | cons d' ds ih =>
    cases h with
    | cons h1 h2 =>
      cases i with
      | zero => simp at e; subst e; exact ⟨_, rfl, h1⟩
      | succ i => exact ih h2 (by simpa using e)
theorem IsL.append {vs us : List V} {ds es : List D} (h : IsL K ca mu H vs ds) (g : IsL K ca mu H us es) : IsL K ca mu H (vs ++ us) (ds ++ es) := by
  induction ds generalizing vs with
  | nil => cases h; exact g
  | cons d ds ih => cases h with | cons h1 h2 => exact .cons h1 (ih h2)
theorem IsL.take {vs : List V} {ds : List D} (n : Nat) (h : IsL K ca mu H vs ds) : IsL K ca mu H (vs.take n) (ds.take n) := by
  induction ds generalizing vs n with
  | nil => cases h; cases n <;> exact .nil
  | cons d ds ih =>
    cases h with
    | cons h1 h2 =>
      cases n with
      | zero => exact .nil
      | succ n => exact .cons h1 (ih n h2)
theorem IsL.drop {vs : List V} {ds : List D} (n : Nat) (h : IsL K ca mu H vs ds) : IsL K ca mu H (vs.drop n) (ds.drop n) := by
  induction ds generalizing vs n with
  | nil => cases h; cases n <;> exact .nil
  | cons d ds ih =>
    cases h with
    | cons h1 h2 =>
      cases n with
      | zero => exact .cons h1 h2
      | succ n => exact ih n h2
theorem IsL.set {vs : List V} {ds : List D} {v : V} {d : D} (n : Nat) (h : IsL K ca mu H vs ds) (g : Is K ca mu H v d) : IsL K ca mu H (vs.set n v) (ds.set n d) := by
  induction ds generalizing vs n with
  | nil => cases h; exact .nil
  | cons e ds ih =>
    cases h with
    | cons h1 h2 =>
      cases n with
      | zero => exact .cons g h2
      | succ n => exact .cons h1 (ih n h2)
theorem IsL.rep {vs : List V} {ds : List D} (n : Nat) (h : IsL K ca mu H vs ds) : IsL K ca mu H (List.replicate n vs).flatten (List.replicate n ds).flatten := by
  induction n with
  | zero => exact .nil
  | succ n ih => rw [List.replicate_succ, List.replicate_succ, List.flatten_cons, List.flatten_cons]; exact h.append ih
theorem IsL.cut {vs : List V} {ds : List D} (h : IsL K ca mu H vs ds) (lo hi : Option Int) : IsL K ca mu H (cutV vs lo hi) (cut ds lo hi) := by
  unfold cutV KI.cut
  rw [h.length]
  exact (h.drop _).take _
theorem IsL.nil_iff {vs : List V} {ds : List D} (h : IsL K ca mu H vs ds) : vs = [] ↔ ds = [] := by
  cases ds with
  | nil => cases h; simp
  | cons _ _ => cases h; simp
theorem IsL.at_ {vs : List V} {ds : List D} (h : IsL K ca mu H vs ds) {i : Int} {d : D} (e : atI ds i = some d) : ∃ v, atI vs i = some v ∧ Is K ca mu H v d := by
  unfold atI at e ⊢
  rw [h.length]
  cases q : ixN ds.length i with
  | none => rw [q] at e; cases e
  | some j => rw [q] at e; exact h.get e
/-! ### dicts -/
theorem IsK.length {vs : List (Key × V)} {ds : List (Key × D)} (h : IsK K ca mu H vs ds) : vs.length = ds.length := by
  induction ds generalizing vs with
  | nil => cases h; rfl
  | cons d ds ih => cases h with | cons h1 h2 => simp [ih h2]
/-! ### a new object -/
theorem Wd.fresh {p : Addr} (w : Wd K ca mu H S) (h : H p = none) : p ∉ mu ∧ p ∉ ca := ⟨fun z => w.tm p z h, fun z => w.tc p z h⟩
theorem Ext.new {p : Addr} {o : HO} (h : H p = none) : Ext ca mu H ca mu (upd H p o) :=
  ⟨⟨[], by simp, fun _ z => nomatch z⟩, fun _ z => .inl z, fun a u q _ => by rw [upd_ne (ne_of_none q h)]; exact q, fun a q => by
    by_cases e : a = p
    · subst e; exact absurd h q
    · rw [upd_ne e]; exact q, fun _ z _ _ => z⟩
theorem ObR.ext {a : Addr} {o : Ob} (x : Ext ca mu H ca' mu' H') (hm : a ∈ mu → a ∈ mu') (hh : a ∈ mu → H' a = H a) (h : ObR K ca mu H a o) : ObR K ca' mu' H' a o := by
  cases o with
  | lst xs => obtain ⟨h1, vs, h2, h3⟩ := h; exact ⟨hm h1, vs, by rw [hh h1]; exact h2, h3.ext x⟩
  | dct ks => obtain ⟨h1, vs, h2, h3⟩ := h; exact ⟨hm h1, vs, by rw [hh h1]; exact h2, h3.ext x⟩
  | dead => trivial
theorem Wd.new {p : Addr} {o : HO} (w : Wd K ca mu H S) (h : H p = none) : Wd K ca mu (upd H p o) S := by
  have f := w.fresh h
  have ne : ∀ a, a ∈ mu → upd H p o a = H a := fun a ha => upd_ne fun e => f.1 (by subst e; exact ha)
  refine ⟨w.len, w.nd, fun n a o' h1 h2 => (w.ob n a o' h1 h2).ext (Ext.new h) id (ne a), fun a ha => ?_, fun a ha => ?_⟩
  · rw [ne a ha]; exact w.tm a ha
  · rw [upd_ne (show a ≠ p from fun e => f.2 (by subst e; exact ha))]; exact w.tc a ha
/-! ### an object that is nobody's changes; fewer addresses are kept out -/
section
variable {p : Addr} {o : HO}
theorem Rd.updOut {a : Addr} {u : HO} (hp : p ∈ mu) (h : Rd H a u ∧ a ∉ mu) : Rd (upd H p o) a u ∧ a ∉ mu := by
  have ne : a ≠ p := fun e => h.2 (by subst e; exact hp)
  refine ⟨?_, h.2⟩
  rcases h.1 with q | ⟨z, q⟩
  · exact .inl (by rw [upd_ne ne]; exact q)
  · exact .inr ⟨z, by rw [upd_ne ne]; exact q⟩
mutual
theorem Is.updOut (hp : p ∈ mu) : ∀ (d : D) {v : V}, Is K ca mu H v d → Is K ca mu (upd H p o) v d
  | .non, _, h => by cases h; exact .non
  | .bl b, _, h => by cases h; exact .bl b
  | .int i, _, h => by cases h; exact .int i
  | .str s, _, h => by cases h; exact .str s
  | .tup ds, _, h => by cases h with | tup h1 h2 => exact .tup (h1.imp (Rd.updOut hp) id) (IsL.updOut hp ds h2)
  | .lst ds, _, h => by cases h with | lst h1 h2 h3 => exact .lst (by rw [upd_ne fun e => h2 (by subst e; exact hp)]; exact h1) h2 (IsL.updOut hp ds h3)
  | .dic ds, _, h => by cases h with | dic h1 h2 h3 => exact .dic (by rw [upd_ne fun e => h2 (by subst e; exact hp)]; exact h1) h2 (IsK.updOut hp ds h3)
  | .ro ds, _, h => by cases h with | ro h1 h2 => exact .ro (h1.imp (Rd.updOut hp) id) (IsL.updOut hp ds h2)
  | .cell n, _, h => by cases h with | cell h => exact .cell h
theorem IsL.updOut (hp : p ∈ mu) : ∀ (ds : List D) {vs : List V}, IsL K ca mu H vs ds → IsL K ca mu (upd H p o) vs ds
  | [], _, h => by cases h; exact .nil
  | d :: ds, _, h => by cases h with | cons h1 h2 => exact .cons (Is.updOut hp d h1) (IsL.updOut hp ds h2)
theorem IsK.updOut (hp : p ∈ mu) : ∀ (ds : List (Key × D)) {vs : List (Key × V)}, IsK K ca mu H vs ds → IsK K ca mu (upd H p o) vs ds
  | [], _, h => by cases h; exact .nil
  | (_, d) :: ds, _, h => by cases h with | cons h1 h2 => exact .cons (Is.updOut hp d h1) (IsK.updOut hp ds h2)
end
mutual
theorem Is.mono (hp : ∀ a, a ∈ mu' → a ∈ mu) : ∀ (d : D) {v : V}, Is K ca mu H v d → Is K ca mu' H v d
  | .non, _, h => by cases h; exact .non
  | .bl b, _, h => by cases h; exact .bl b
  | .int i, _, h => by cases h; exact .int i
  | .str s, _, h => by cases h; exact .str s
  | .tup ds, _, h => by cases h with | tup h1 h2 => exact .tup (h1.imp (fun z => ⟨z.1, fun q => z.2 (hp _ q)⟩) id) (IsL.mono hp ds h2)
  | .lst ds, _, h => by cases h with | lst h1 h2 h3 => exact .lst h1 (fun q => h2 (hp _ q)) (IsL.mono hp ds h3)
  | .dic ds, _, h => by cases h with | dic h1 h2 h3 => exact .dic h1 (fun q => h2 (hp _ q)) (IsK.mono hp ds h3)
  | .ro ds, _, h => by cases h with | ro h1 h2 => exact .ro (h1.imp (fun z => ⟨z.1, fun q => z.2 (hp _ q)⟩) id) (IsL.mono hp ds h2)
  | .cell n, _, h => by cases h with | cell h => exact .cell h
theorem IsL.mono (hp : ∀ a, a ∈ mu' → a ∈ mu) : ∀ (ds : List D) {vs : List V}, IsL K ca mu H vs ds → IsL K ca mu' H vs ds
  | [], _, h => by cases h; exact .nil
  | d :: ds, _, h => by cases h with | cons h1 h2 => exact .cons (Is.mono hp d h1) (IsL.mono hp ds h2)
theorem IsK.mono (hp : ∀ a, a ∈ mu' → a ∈ mu) : ∀ (ds : List (Key × D)) {vs : List (Key × V)}, IsK K ca mu H vs ds → IsK K ca mu' H vs ds
  | [], _, h => by cases h; exact .nil
  | (_, d) :: ds, _, h => by cases h with | cons h1 h2 => exact .cons (Is.mono hp d h1) (IsK.mono hp ds h2)
end
theorem Wd.updOut (w : Wd K ca mu H S) (hp : p ∈ mu) (hc : p ∉ ca) : Wd K ca mu (upd H p o) S := by
  have ne : ∀ a, a ∈ ca → a ≠ p := fun a h e => hc (by subst e; exact h)
  refine ⟨w.len, w.nd, fun n a b h1 h2 => ?_, fun a ha => ?_, fun a ha => ?_⟩
  · have hb := w.ob n a b h1 h2
    have na := ne a (List.mem_of_getElem? h1)
    cases b with
    | lst xs => obtain ⟨q1, vs, q2, q3⟩ := hb; exact ⟨q1, vs, by rw [upd_ne na]; exact q2, IsL.updOut hp _ q3⟩
    | dct xs => obtain ⟨q1, vs, q2, q3⟩ := hb; exact ⟨q1, vs, by rw [upd_ne na]; exact q2, IsK.updOut hp _ q3⟩
    | dead => trivial
  · by_cases e : a = p
    · rw [e, upd_same]; simp
    · rw [upd_ne e]; exact w.tm a ha
  · rw [upd_ne (ne a ha)]; exact w.tc a ha
theorem Ext.updOut (x : Ext ca mu H ca' mu' H') (hp : H p = none) : Ext ca mu H ca' mu' (upd H' p o) :=
  ⟨x.pre, x.mus, fun a u h n => by rw [upd_ne (ne_of_none h hp)]; exact x.kp a u h n, fun a h => by
    by_cases e : a = p
    · rw [e, upd_same]; simp
    · rw [upd_ne e]; exact x.tr a h, x.fb⟩
/-- p is kept out no longer -/
theorem Ext.drop (x : Ext ca mu H ca' mu' H') (hp : H p = none) : Ext ca mu H ca' (mu'.filter (· ≠ p)) H' :=
  ⟨x.pre, fun a h => x.mus a (List.mem_filter.mp h).1, x.kp, x.tr, fun a h1 h2 h3 => List.mem_filter.mpr ⟨x.fb a h1 h2 h3, by simpa using fun e : a = p => h3 (by rw [e]; exact hp)⟩⟩
theorem Wd.drop (w : Wd K ca mu H S) (hc : p ∉ ca) : Wd K ca (mu.filter (· ≠ p)) H S := by
  have sub : ∀ a, a ∈ mu.filter (· ≠ p) → a ∈ mu := fun a h => (List.mem_filter.mp h).1
  refine ⟨w.len, w.nd, fun n a b h1 h2 => ?_, fun a ha => w.tm a (sub a ha), w.tc⟩
  have hb := w.ob n a b h1 h2
  have na : a ≠ p := fun e => hc (by subst e; exact List.mem_of_getElem? h1)
  cases b with
  | lst xs => obtain ⟨q1, vs, q2, q3⟩ := hb; exact ⟨List.mem_filter.mpr ⟨q1, by simpa using na⟩, vs, q2, IsL.mono sub _ q3⟩
  | dct xs => obtain ⟨q1, vs, q2, q3⟩ := hb; exact ⟨List.mem_filter.mpr ⟨q1, by simpa using na⟩, vs, q2, IsK.mono sub _ q3⟩
  | dead => trivial
end
/-! ### environments -/
structure RE (K : PySem.W.Frag) (ca mu : List Addr) (H : Hp) (σ : L2.St) (ρ : Env) : Prop where
  len : σ.length = ρ.length
  at_ : ∀ (i : Nat) (d : D), ρ[i]? = some (some d) → ∃ v, σ[i]? = some (some v) ∧ Is K ca mu H v d
theorem RE.ext {σ : L2.St} {ρ : Env} (h : RE K ca mu H σ ρ) (x : Ext ca mu H ca' mu' H') : RE K ca' mu' H' σ ρ :=
  ⟨h.len, fun i d e => let ⟨v, h1, h2⟩ := h.at_ i d e; ⟨v, h1, h2.ext x⟩⟩
theorem RE.set {σ : L2.St} {ρ : Env} {v : V} {d : D} (h : RE K ca mu H σ ρ) (i : Nat) (g : Is K ca mu H v d) : RE K ca mu H (σ.set i (some v)) (ρ.set i (some d)) := by
  refine ⟨by simp [h.len], fun j e q => ?_⟩
  by_cases hj : i = j
  · subst hj
    by_cases hl : i < ρ.length
    · rw [List.getElem?_set_self hl] at q
      cases q
      exact ⟨v, List.getElem?_set_self (by rw [h.len]; exact hl), g⟩
    · rw [List.getElem?_eq_none (by simpa using hl)] at q; cases q
  · rw [List.getElem?_set_ne hj] at q
    rw [List.getElem?_set_ne hj]
    exact h.at_ j e q
theorem wipeE_length (ρ : Env) : ∀ vs : List Nat, (wipeE ρ vs).length = ρ.length
  | [] => rfl
  | v :: vs => by unfold wipeE; rw [List.length_set, wipeE_length ρ vs]
theorem RE.wipe {σ : L2.St} {ρ : Env} (h : RE K ca mu H σ ρ) : ∀ vs : List Nat, RE K ca mu H (wipe σ vs) (wipeE ρ vs)
  | [] => h
  | v :: vs => by
    have ih := RE.wipe h vs
    refine ⟨by rw [wipe_length, wipeE_length, h.len], fun j e q => ?_⟩
    unfold wipeE at q
    unfold L2.wipe
    by_cases hj : v = j
    · subst hj
      by_cases hl : v < (wipeE ρ vs).length
      · rw [List.getElem?_set_self hl] at q; cases q
      · rw [List.getElem?_eq_none (by simpa using hl)] at q; cases q
    · rw [List.getElem?_set_ne hj] at q
      rw [List.getElem?_set_ne hj]
      exact ih.at_ j e q
end
/-! ### comparisons -/
mutual
def toP : D → PyData
  | .non => .none
  | .bl b => .bool b
  | .int i => .int i
  | .str s => .str s
  | .tup xs => .tuple (toPL xs)
  | .lst xs => .list (toPL xs)
  | _ => .none
def toPL : List D → List PyData
  | [] => []
  | x :: xs => toP x :: toPL xs
end
mutual
theorem eqv_toP : ∀ (k : Nat) (x y : D), shp k x = true → shp k y = true → PyData.eqv (toP x) (toP y) = eqD x y
  | k, .non, y, _, h => by cases y <;> first | rfl | (cases k <;> cases h)
  | k, .bl b, y, _, h => by cases y <;> first | rfl | (cases k <;> cases h)
  | k, .int i, y, _, h => by cases y <;> first | rfl | (cases k <;> cases h)
  | k, .str s, y, _, h => by cases y <;> first | rfl | (cases k <;> cases h)
  | 0, .tup xs, y, h, _ => by cases h
  | k + 1, .tup xs, y, h, h' => by
    cases y with
    | tup ys => exact eqv_toPL k xs ys h h'
    | _ => first | rfl | cases h'
  | 0, .lst xs, y, h, _ => by cases h
  | k + 1, .lst xs, y, h, h' => by
    cases y with
    | lst ys => exact eqv_toPL k xs ys h h'
    | _ => first | rfl | cases h'
  | k, .dic _, _, h, _ => by cases k <;> cases h
  | k, .ro _, _, h, _ => by cases k <;> cases h
  | k, .cell _, _, h, _ => by cases k <;> cases h
theorem eqv_toPL : ∀ (k : Nat) (xs ys : List D), shpL k xs = true → shpL k ys = true → PyData.eqvAll (toPL xs) (toPL ys) = eqL xs ys
  | _, [], [], _, _ => rfl
  | _, [], _ :: _, _, _ => rfl
  | _, _ :: _, [], _, _ => rfl
  | k, x :: xs, y :: ys, h, h' => by
    have h1 := Bool.and_eq_true_iff.mp (show (shp k x && shpL k xs) = true from h)
    have h2 := Bool.and_eq_true_iff.mp (show (shp k y && shpL k ys) = true from h')
    show (PyData.eqv (toP x) (toP y) && PyData.eqvAll (toPL xs) (toPL ys)) = (eqD x y && eqL xs ys)
    rw [eqv_toP k x y h1.1 h2.1, eqv_toPL k xs ys h1.2 h2.2]
end
mutual
theorem lay_toP : ∀ (k : Nat) (x : D), shp k x = true → (toP x).canLay0 = true ∧ (toP x).depth ≤ k
  | k, .non, _ => by constructor <;> simp [toP, PyData.canLay0, PyData.depth]
  | k, .bl b, _ => by constructor <;> simp [toP, PyData.canLay0, PyData.depth]
  | k, .int i, _ => by constructor <;> simp [toP, PyData.canLay0, PyData.depth]
  | k, .str s, h => by
    refine ⟨?_, by simp [toP, PyData.depth]⟩
    have h' : (s.cps.all (· < 0x110000)) = true := by cases k <;> exact h
    show PyData.strOk s = true
    exact h'
  | 0, .tup xs, h => by cases h
  | k + 1, .tup xs, h => by
    obtain ⟨h1, h2⟩ := lay_toPL k xs h
    exact ⟨by simpa [toP, PyData.canLay0] using h1, by simp only [toP, PyData.depth]; omega⟩
  | 0, .lst xs, h => by cases h
  | k + 1, .lst xs, h => by
    obtain ⟨h1, h2⟩ := lay_toPL k xs h
    exact ⟨by simpa [toP, PyData.canLay0] using h1, by simp only [toP, PyData.depth]; omega⟩
  | k, .dic _, h => by cases k <;> cases h
  | k, .ro _, h => by cases k <;> cases h
  | k, .cell _, h => by cases k <;> cases h
theorem lay_toPL : ∀ (k : Nat) (xs : List D), shpL k xs = true → PyData.canLayAll0 (toPL xs) = true ∧ PyData.depthAll (toPL xs) ≤ k
  | k, [], _ => by constructor <;> simp [toPL, PyData.canLayAll0, PyData.depthAll]
  | k, x :: xs, h => by
    have h1 := Bool.and_eq_true_iff.mp (show (shp k x && shpL k xs) = true from h)
    obtain ⟨a1, a2⟩ := lay_toP k x h1.1
    obtain ⟨b1, b2⟩ := lay_toPL k xs h1.2
    refine ⟨by simp only [toPL, PyData.canLayAll0, a1, b1, Bool.and_self], by simp only [toPL, PyData.depthAll]; omega⟩
end
theorem shaped_toP {x : D} (h : shp 64 x = true) : SeqAt.shaped (toP x) = true := by
  obtain ⟨h1, h2⟩ := lay_toP 64 x h
  unfold SeqAt.shaped
  rw [h1, decide_eq_true h2]
  rfl
mutual
theorem shp_succ : ∀ (k : Nat) (x : D), shp k x = true → shp (k + 1) x = true
  | k, .non, _ => rfl
  | k, .bl b, _ => rfl
  | k, .int i, _ => rfl
  | k, .str s, h => by cases k <;> exact h
  | 0, .tup xs, h => by cases h
  | k + 1, .tup xs, h => shpL_succ k xs h
  | 0, .lst xs, h => by cases h
  | k + 1, .lst xs, h => shpL_succ k xs h
  | k, .dic _, h => by cases k <;> cases h
  | k, .ro _, h => by cases k <;> cases h
  | k, .cell _, h => by cases k <;> cases h
theorem shpL_succ : ∀ (k : Nat) (xs : List D), shpL k xs = true → shpL (k + 1) xs = true
  | k, [], _ => rfl
  | k, x :: xs, h => by
    have h1 := Bool.and_eq_true_iff.mp (show (shp k x && shpL k xs) = true from h)
    show (shp (k + 1) x && shpL (k + 1) xs) = true
    rw [shp_succ k x h1.1, shpL_succ k xs h1.2]
    rfl
end
section
variable {K : PySem.W.Frag} {ca mu : List Addr} {H : Hp}
mutual
theorem Is.dp : ∀ (k : Nat) (d : D) {v : V}, shp k d = true → Is K ca mu H v d → Dp K H v (toP d)
  | k, .non, _, _, h => by cases h; exact .non
  | k, .bl b, _, _, h => by cases h; exact .bl b
  | k, .int i, _, _, h => by cases h; exact .int i
  | k, .str s, _, _, h => by cases h; exact .str s
  | 0, .tup xs, _, s, h => by cases s
  | k + 1, .tup xs, _, s, h => by cases h with | tup h1 h2 => exact .tup h1.sq (IsL.dp k xs s h2)
  | 0, .lst xs, _, s, h => by cases s
  | k + 1, .lst xs, _, s, h => by cases h with | lst h1 _ h2 => exact .lst (SqL.of h1) (IsL.dp k xs s h2)
  | k, .dic _, _, s, _ => by cases k <;> cases s
  | k, .ro _, _, s, _ => by cases k <;> cases s
  | k, .cell _, _, s, _ => by cases k <;> cases s
theorem IsL.dp : ∀ (k : Nat) (ds : List D) {vs : List V}, shpL k ds = true → IsL K ca mu H vs ds → DpAll K H vs (toPL ds)
  | k, [], _, _, h => by cases h; exact .nil
  | k, d :: ds, _, s, h => by
    have h1 := Bool.and_eq_true_iff.mp (show (shp k d && shpL k ds) = true from s)
    cases h with | cons a b => exact .cons (Is.dp k d h1.1 a) (IsL.dp k ds h1.2 b)
end
end
end KI


set_option Elab.async false
set_option linter.all false
set_option maxRecDepth 100000
set_option autoImplicit false
set_option maxHeartbeats 1000000
/-! What operators, subscripts and built-in functions do, by plain data. -/
namespace KI
open PySem PySem.Spec PyProof.Rows L2

/-- an exception in the heap: XA: where the classes stand -/
def XnR (K : PySem.W.Frag) (XA : Nat → Addr) (ca mu : List Addr) (H : Hp) (cls : Value) (dd : Option Addr) (x : Xn) : Prop :=
  cls = .ref (XA x.cls) ∧ match x.fs with
    | [] => dd = none
    | fs => ∃ d vs, dd = some d ∧ d ∉ mu ∧ H d = some (.xd vs) ∧ vs.map (·.1) = fs.map (·.1) ∧ IsL K ca mu H (vs.map (·.2)) (fs.map (·.2))
/-- what is wanted behind a result -/
def okR (K : PySem.W.Frag) (XA : Nat → Addr) {α β : Type} (rel : List Addr → List Addr → Hp → β → α → Prop) (ca mu : List Addr) (H : Hp) (r : Res α) (Q : β → Hp → Prop) (W : XK) : Prop := match r with
  | .ok a S => ∀ b ca' mu' H', Ext ca mu H ca' mu' H' → Wd K ca' mu' H' S → rel ca' mu' H' b a → Q b H'
  | .exc x S => ∀ cls dd ca' mu' H', Ext ca mu H ca' mu' H' → Wd K ca' mu' H' S → XnR K XA ca' mu' H' cls dd x → W cls dd H'
  | .no => False
section
variable {K : PySem.W.Frag} {XA : Nat → Addr} {ca mu ca' mu' ca2 mu2 : List Addr} {H H' H2 : Hp} {S : Sto} {α β α' β' : Type} {rel : List Addr → List Addr → Hp → β → α → Prop} {rel' : List Addr → List Addr → Hp → β' → α' → Prop}
theorem okR.rebase {r : Res α} {Q : β → Hp → Prop} {W : XK} (h : okR K XA rel ca mu H r Q W) (x : Ext ca mu H ca' mu' H') : okR K XA rel ca' mu' H' r Q W := by
  cases r with
  | ok a S => exact fun b _ _ _ e w i => h b _ _ _ (x.trans e) w i
  | exc y S => exact fun c d _ _ _ e w i => h c d _ _ _ (x.trans e) w i
  | no => exact h
theorem okR.bind {r : Res α} {f : α → Sto → Res α'} {Q : β' → Hp → Prop} {W : XK} {R : β → Hp → Prop} (h : okR K XA rel' ca mu H (r.bind f) Q W)
    (k : ∀ a S b ca' mu' H', r = .ok a S → Ext ca mu H ca' mu' H' → Wd K ca' mu' H' S → rel ca' mu' H' b a → okR K XA rel' ca' mu' H' (f a S) Q W → R b H') : okR K XA rel ca mu H r R W := by
  cases r with
  | ok a S => exact fun b _ _ _ e w i => k a S b _ _ _ rfl e w i (okR.rebase h e)
  | exc y S => exact h
  | no => exact h
theorem okR.imp {r : Res α} {Q R : β → Hp → Prop} {W : XK} (h : okR K XA rel ca mu H r Q W) (k : ∀ a S b ca' mu' H', r = .ok a S → Ext ca mu H ca' mu' H' → Wd K ca' mu' H' S → rel ca' mu' H' b a → Q b H' → R b H') : okR K XA rel ca mu H r R W := by
  cases r with
  | ok a S => exact fun b _ _ _ e w i => k a S b _ _ _ rfl e w i (h b _ _ _ e w i)
  | exc y S => exact h
  | no => exact h
end
abbrev IsR (K : PySem.W.Frag) : List Addr → List Addr → Hp → V → D → Prop := fun ca mu H v d => Is K ca mu H v d
abbrev IsLR (K : PySem.W.Frag) : List Addr → List Addr → Hp → List V → List D → Prop := fun ca mu H v d => IsL K ca mu H v d
section
variable {K : PySem.W.Frag} {XA : Nat → Addr} {ca mu ca' mu' : List Addr} {H H' : Hp} {S : Sto} {Q : VK} {W : XK}
theorem got {d : D} {v : V} (w : Wd K ca mu H S) (i : Is K ca mu H v d) (h : okR K XA (IsR K) ca mu H (.ok d S) Q W) : Q v H := h v ca mu H Ext.refl w i
theorem newL {ds : List D} {vs : List V} (w : Wd K ca mu H S) (i : IsL K ca mu H vs ds) (h : okR K XA (IsR K) ca mu H (.ok (.lst ds) S) Q W) : ∀ p, H p = none → Q (.ref p) (upd H p (.lst vs)) :=
  fun p hp => h _ ca mu _ (Ext.new hp) (w.new hp) (.lst upd_same (w.fresh hp).1 (i.ext (Ext.new hp)))
theorem newT {ds : List D} {vs : List V} (w : Wd K ca mu H S) (i : IsL K ca mu H vs ds) (h : okR K XA (IsR K) ca mu H (.ok (.tup ds) S) Q W) : ∀ p, H p = none → Q (.ref p) (upd H p (.tup vs)) :=
  fun p hp => h _ ca mu _ (Ext.new hp) (w.new hp) (.tup (.inl ⟨.inl upd_same, (w.fresh hp).1⟩) (i.ext (Ext.new hp)))
theorem newD {ds : List (Key × D)} {vs : List (Key × V)} (w : Wd K ca mu H S) (i : IsK K ca mu H vs ds) (h : okR K XA (IsR K) ca mu H (.ok (.dic ds) S) Q W) : ∀ p, H p = none → Q (.ref p) (upd H p (.dK vs)) :=
  fun p hp => h _ ca mu _ (Ext.new hp) (w.new hp) (.dic upd_same (w.fresh hp).1 (i.ext (Ext.new hp)))
/-! ### + - * // % ** -/
theorem LN_eq : sizeLine = LN := sizeLine_eq
def rAddB : R2 := fun x y H Q => ∃ k i, x = .bl k ∧ y = .int i ∧ Q (.int ((if k = true then (1 : Int) else 0) + i)) H
theorem op_add_bi {X : Cx} : OpR X (binaryOp .Add) rAddB := by
  intro pins s σ H x y v u Q I rx ry h
  obtain ⟨k, i, rfl, rfl, q⟩ := h
  obtain ⟨t, rfl⟩ := ry
  cases rx
  exact PySem.IntBool.add_bool_int ⟨.int ((if k = true then (1 : Int) else 0) + i), H, I.tok _, ⟨_, rfl⟩, q⟩
def rAddA (K : PySem.W.Frag) : R2 := fun x y H Q => rAddB x y H Q ∨ (rI0 fun i j => .int (i + j)) x y H Q ∨ (∃ i j, x = .str i ∧ y = .str j ∧ i.length + j.length ≤ sizeLine ∧ Q (.str (i ++ j)) H) ∨ rCatA K x y H Q ∨ rCat x y H Q
theorem op_addA {X : Cx} : OpR X (binaryOp .Add) (rAddA X.K) := op_add_bi.or <| op_add.or (op_add_str.or (op_catA.or op_cat))
theorem add_ok {d e : D} {x y : V} (w : Wd K ca mu H S) (hd : Is K ca mu H x d) (he : Is K ca mu H y e) (h : okR K XA (IsR K) ca mu H (lift (binD .add d e) S) Q W) : rAddA K x y H Q := by
  cases hd with
  | int i =>
    cases he with
    | int j => exact .inr (.inl ⟨i, j, rfl, rfl, got w (.int _) h⟩)
    | _ => exact h.elim
  | bl k =>
    cases he with
    | int j => exact .inl ⟨k, j, rfl, rfl, got w (.int _) h⟩
    | _ => exact h.elim
  | str a =>
    cases he with
    | str b =>
      simp only [binD] at h
      split at h
      · rename_i hz
        exact .inr (.inr (.inl ⟨a, b, rfl, rfl, by rw [LN_eq]; exact hz, got w (.str _) h⟩))
      · exact h.elim
    | _ => exact h.elim
  | @tup a vs ds h1 h2 =>
    cases he with
    | @tup b us es g1 g2 =>
      simp only [binD] at h
      split at h
      · rename_i hz
        refine .inr (.inr (.inr (.inl ⟨a, b, vs, us, rfl, rfl, h1.sq, g1.sq, by rw [LN_eq, h2.length, g2.length]; exact hz, fun e => ?_, fun e1 e => ?_, fun e1 e2 => newT w (h2.append g2) h⟩)))
        · have e' := h2.nil_iff.mp e
          subst e'
          exact got w (.tup g1 g2) h
        · have e' := g2.nil_iff.mp e
          subst e'
          rw [List.append_nil] at h
          exact got w (.tup h1 h2) h
      · exact h.elim
    | _ => exact h.elim
  | @lst a vs ds h1 h2 h3 =>
    cases he with
    | @lst b us es g1 g2 g3 =>
      simp only [binD] at h
      split at h
      · rename_i hz
        exact .inr (.inr (.inr (.inr ⟨a, b, vs, us, rfl, rfl, h1, g1, by rw [LN_eq, h3.length, g3.length]; exact hz, newL w (h3.append g3) h⟩)))
      · exact h.elim
    | _ => exact h.elim
  | _ => exact h.elim
theorem sub_ok {d e : D} {x y : V} (w : Wd K ca mu H S) (hd : Is K ca mu H x d) (he : Is K ca mu H y e) (h : okR K XA (IsR K) ca mu H (lift (binD .sub d e) S) Q W) : (rI0 fun i j => V.int (i - j)) x y H Q := by
  cases hd with
  | int i =>
    cases he with
    | int j => exact ⟨i, j, rfl, rfl, got w (.int _) h⟩
    | _ => exact h.elim
  | _ => exact h.elim
def rMulA (K : PySem.W.Frag) : R2 := fun x y H Q => (rI CMul fun i j => .int (i * j)) x y H Q ∨ rRep x y H Q ∨ rRepT K x y H Q
theorem op_mulA {X : Cx} : OpR X (binaryOp .Mult) (rMulA X.K) := op_mul.or (op_rep.or op_repT)
theorem mulOk_ok {i j : Int} (h : mulOk i j = true) : CMul i j := by
  unfold mulOk at h
  rcases Bool.or_eq_true_iff.mp h with h | h
  · exact .inl (of_decide_eq_true h)
  · exact .inr (of_decide_eq_true h)
theorem mul_ok {d e : D} {x y : V} (w : Wd K ca mu H S) (hd : Is K ca mu H x d) (he : Is K ca mu H y e) (h : okR K XA (IsR K) ca mu H (lift (binD .mul d e) S) Q W) : rMulA K x y H Q := by
  cases hd with
  | int i =>
    cases he with
    | int j =>
      simp only [binD] at h
      split at h
      · rename_i hz
        exact .inl ⟨i, j, rfl, rfl, mulOk_ok hz, got w (.int _) h⟩
      · exact h.elim
    | _ => exact h.elim
  | @tup a vs ds h1 h2 =>
    cases he with
    | int k =>
      simp only [binD] at h
      split at h
      · rename_i hz
        obtain ⟨z1, z2, z3, z4⟩ := hz
        refine .inr (.inr ⟨a, k, vs, rfl, rfl, h1.sq, fun e => z1 ?_, z2, z3, by rw [h2.length]; exact z4, newT w (h2.rep _) h⟩)
        rw [h2.nil_iff.mp e]
        rfl
      · exact h.elim
    | _ => exact h.elim
  | @lst a vs ds h1 h2 h3 =>
    cases he with
    | int k =>
      simp only [binD] at h
      split at h
      · rename_i hz
        obtain ⟨z1, z2, z3⟩ := hz
        exact .inr (.inl ⟨a, k, vs, rfl, rfl, h1, z1, z2, by rw [LN_eq, h3.length]; exact z3, newL w (h3.rep _) h⟩)
      · exact h.elim
    | _ => exact h.elim
  | _ => exact h.elim
theorem fdiv_ok {d e : D} {x y : V} (w : Wd K ca mu H S) (hd : Is K ca mu H x d) (he : Is K ca mu H y e) (h : okR K XA (IsR K) ca mu H (lift (binD .fdiv d e) S) Q W) : (rI CDivN fun i j => V.int (i.fdiv j)) x y H Q := by
  cases hd with
  | int i =>
    cases he with
    | int j =>
      simp only [binD] at h
      split at h
      · rename_i hz
        exact ⟨i, j, rfl, rfl, hz, got w (.int _) h⟩
      · exact h.elim
    | _ => exact h.elim
  | _ => exact h.elim
theorem mod_ok {d e : D} {x y : V} (w : Wd K ca mu H S) (hd : Is K ca mu H x d) (he : Is K ca mu H y e) (h : okR K XA (IsR K) ca mu H (lift (binD .mod d e) S) Q W) : (rI (fun _ j => j ≠ 0) fun i j => V.int (i.fmod j)) x y H Q := by
  cases hd with
  | int i =>
    cases he with
    | int j =>
      simp only [binD] at h
      split at h
      · rename_i hz
        exact ⟨i, j, rfl, rfl, hz, got w (.int _) h⟩
      · exact h.elim
    | _ => exact h.elim
  | _ => exact h.elim
theorem pow_ok {d e : D} {x y : V} (w : Wd K ca mu H S) (hd : Is K ca mu H x d) (he : Is K ca mu H y e) (h : okR K XA (IsR K) ca mu H (lift (binD .pow d e) S) Q W) : (rI CPow fun i j => V.int (i ^ j.toNat)) x y H Q := by
  cases hd with
  | int i =>
    cases he with
    | int j =>
      simp only [binD] at h
      split at h
      · rename_i hz
        exact ⟨i, j, rfl, rfl, hz, got w (.int _) h⟩
      · exact h.elim
    | _ => exact h.elim
  | _ => exact h.elim
/-- the operator of the text -/
def opOf : Bop → Operator
  | .add => .Add | .sub => .Sub | .mul => .Mult | .fdiv => .FloorDiv | .mod => .Mod | .pow => .Pow
def rBin (K : PySem.W.Frag) : Bop → R2
  | .add => rAddA K
  | .sub => rI0 fun i j => .int (i - j)
  | .mul => rMulA K
  | .fdiv => rI CDivN fun i j => .int (i.fdiv j)
  | .mod => rI (fun _ j => j ≠ 0) fun i j => .int (i.fmod j)
  | .pow => rI CPow fun i j => .int (i ^ j.toNat)
theorem op_bin {X : Cx} (o : Bop) : OpR X (binaryOp (opOf o)) (rBin X.K o) := by
  cases o
  · exact op_addA
  · exact op_sub
  · exact op_mulA
  · exact op_fdivN
  · exact op_modN
  · exact op_pow
theorem bin_ok {o : Bop} {d e : D} {x y : V} (w : Wd K ca mu H S) (hd : Is K ca mu H x d) (he : Is K ca mu H y e) (h : okR K XA (IsR K) ca mu H (lift (binD o d e) S) Q W) : rBin K o x y H Q := by
  cases o
  · exact add_ok w hd he h
  · exact sub_ok w hd he h
  · exact mul_ok w hd he h
  · exact fdiv_ok w hd he h
  · exact mod_ok w hd he h
  · exact pow_ok w hd he h
end
/-! ### comparisons -/
section
variable {X : Cx}
def rInT (K : PySem.W.Frag) (neg : Bool) : R2 := fun x y H Q => ∃ d ds, Dp K H x d ∧ Dp K H y (.tuple ds) ∧ SeqAt.shaped d = true ∧ SeqAt.shaped (.tuple ds) = true ∧ Q (.bl (neg ^^ ds.any fun z => PyData.eqv z d)) H
theorem room_in_t {ds : List PyData} {d : PyData} {A : Around} (sd : SeqAt.shaped d = true) (hu : A.units + 65 < cLine) : A.units + 1 + min (PyData.depthAll ds) d.depth < cLine := by
  have h1 := SeqAt.depth_of_shaped sd
  omega
theorem op_inT (hu : X.A.units + 65 < cLine) : OpR X (compareOp .In) (rInT X.K false) := by
  intro pins s σ H x y v u Q I rx ry h
  obtain ⟨d, ds, hd, he, sd, se, q⟩ := h
  obtain ⟨as, r1⟩ := Dp.reads I d x v hd rx
  obtain ⟨bs, r2⟩ := Dp.reads I (.tuple ds) y u he ry
  exact SeqAt.in_tuple_reads r2 r1 (SeqAt.canLay_of_shaped se) (SeqAt.canLay_of_shaped sd) (room_in_t sd hu) ⟨.bl _, H, I, rfl, by simpa using q⟩
theorem op_notInT (hu : X.A.units + 65 < cLine) : OpR X (compareOp .NotIn) (rInT X.K true) := by
  intro pins s σ H x y v u Q I rx ry h
  obtain ⟨d, ds, hd, he, sd, se, q⟩ := h
  obtain ⟨as, r1⟩ := Dp.reads I d x v hd rx
  obtain ⟨bs, r2⟩ := Dp.reads I (.tuple ds) y u he ry
  exact SeqAt.notIn_tuple_reads r2 r1 (SeqAt.canLay_of_shaped se) (SeqAt.canLay_of_shaped sd) (room_in_t sd hu) ⟨.bl _, H, I, rfl, by simpa using q⟩
end
def copOf : Cop → CmpOp
  | .eq => .Eq | .ne => .NotEq | .lt => .Lt | .le => .LtE | .gt => .Gt | .ge => .GtE | .isN => .Is | .notN => .IsNot | .in_ => .In | .nin => .NotIn
def rCmp (K : PySem.W.Frag) : Cop → R2
  | .eq => rEqD K
  | .ne => rNeD K
  | .lt => rI0 fun i j => .bl (decide (i < j))
  | .le => rI0 fun i j => .bl (decide (i ≤ j))
  | .gt => rI0 fun i j => .bl (decide (j < i))
  | .ge => rI0 fun i j => .bl (decide (j ≤ i))
  | .isN => fun x y H Q => y = .non ∧ Q (.bl (decide (x = .non))) H
  | .notN => fun x y H Q => y = .non ∧ Q (.bl (!decide (x = .non))) H
  | .in_ => fun x y H Q => rInD K x y H Q ∨ rInT K false x y H Q
  | .nin => fun x y H Q => rNotInD K x y H Q ∨ rInT K true x y H Q
theorem op_cmp {X : Cx} (hu : X.A.units + 65 < cLine) (o : Cop) : OpR X (compareOp (copOf o)) (rCmp X.K o) := by
  cases o
  · exact op_eqD (by omega)
  · exact op_neD (by omega)
  · exact op_lt
  · exact op_le
  · exact op_gt
  · exact op_ge
  · exact op_isN
  · exact op_notN
  · exact (op_inD hu).or (op_inT hu)
  · exact (op_notInD hu).or (op_notInT hu)
section
variable {K : PySem.W.Frag} {XA : Nat → Addr} {ca mu : List Addr} {H : Hp} {S : Sto} {Q : VK} {W : XK}
theorem Is.non_iff {v : V} {d : D} (h : Is K ca mu H v d) : decide (v = .non) = isNon d := by
  cases h <;> rfl
theorem any_toPL (k : Nat) (x : D) (hx : shp (k + 1) x = true) : ∀ xs : List D, shpL k xs = true → ((toPL xs).any fun z => PyData.eqv z (toP x)) = xs.any fun y => eqD y x
  | [], _ => rfl
  | y :: ys, h => by
    have h1 := Bool.and_eq_true_iff.mp (show (shp k y && shpL k ys) = true from h)
    simp only [toPL, List.any_cons, any_toPL k x hx ys h1.2]
    rw [eqv_toP (k + 1) y x (shp_succ k y h1.1) hx]
/-- Q is handed the bool that a comparison tells -/
theorem cmp_ok {o : Cop} {d e : D} {x y : V} {R : VK} (hd : Is K ca mu H x d) (he : Is K ca mu H y e) {b : Bool} (hb : cmpD o d e = some b) (h : R (.bl b) H) : rCmp K o x y H R := by
  cases o with
  | eq =>
    simp only [cmpD] at hb
    split at hb
    · rename_i z
      obtain ⟨z1, z2⟩ := Bool.and_eq_true_iff.mp z
      cases hb
      exact ⟨toP d, toP e, hd.dp 64 _ z1, he.dp 64 _ z2, shaped_toP z1, shaped_toP z2, by rw [eqv_toP 64 d e z1 z2]; exact h⟩
    · cases hb
  | ne =>
    simp only [cmpD] at hb
    split at hb
    · rename_i z
      obtain ⟨z1, z2⟩ := Bool.and_eq_true_iff.mp z
      cases hb
      exact ⟨toP d, toP e, hd.dp 64 _ z1, he.dp 64 _ z2, shaped_toP z1, shaped_toP z2, by rw [eqv_toP 64 d e z1 z2]; exact h⟩
    · cases hb
  | lt => cases hd <;> cases he <;> first | (cases hb; done) | (cases hb; exact ⟨_, _, rfl, rfl, h⟩)
  | le => cases hd <;> cases he <;> first | (cases hb; done) | (cases hb; exact ⟨_, _, rfl, rfl, h⟩)
  | gt => cases hd <;> cases he <;> first | (cases hb; done) | (cases hb; exact ⟨_, _, rfl, rfl, h⟩)
  | ge => cases hd <;> cases he <;> first | (cases hb; done) | (cases hb; exact ⟨_, _, rfl, rfl, h⟩)
  | isN =>
    cases he with
    | non => cases hb; exact ⟨rfl, by rw [hd.non_iff]; exact h⟩
    | _ => cases hb
  | notN =>
    cases he with
    | non => cases hb; exact ⟨rfl, by rw [hd.non_iff]; exact h⟩
    | _ => cases hb
  | in_ =>
    cases he with
    | @tup a vs ds h1 h2 =>
      simp only [cmpD, items] at hb
      split at hb
      · rename_i z
        obtain ⟨z1, z2⟩ := Bool.and_eq_true_iff.mp z
        cases hb
        refine .inr ⟨toP d, toPL ds, hd.dp 64 _ z1, .tup h1.sq (h2.dp 63 _ z2), shaped_toP z1, shaped_toP (x := .tup ds) z2, ?_⟩
        rw [Bool.false_xor, any_toPL 63 d z1 ds z2]
        exact h
      · cases hb
    | @lst a vs ds h1 h2 h3 =>
      simp only [cmpD, items] at hb
      split at hb
      · rename_i z
        obtain ⟨z1, z2⟩ := Bool.and_eq_true_iff.mp z
        cases hb
        refine .inl ⟨toP d, toPL ds, hd.dp 64 _ z1, .lst (SqL.of h1) (h3.dp 63 _ z2), shaped_toP z1, shaped_toP (x := .lst ds) z2, ?_⟩
        rw [any_toPL 63 d z1 ds z2]
        exact h
      · cases hb
    | _ => cases hb
  | nin =>
    cases he with
    | @tup a vs ds h1 h2 =>
      simp only [cmpD, items] at hb
      split at hb
      · rename_i z
        obtain ⟨z1, z2⟩ := Bool.and_eq_true_iff.mp z
        cases hb
        refine .inr ⟨toP d, toPL ds, hd.dp 64 _ z1, .tup h1.sq (h2.dp 63 _ z2), shaped_toP z1, shaped_toP (x := .tup ds) z2, ?_⟩
        rw [Bool.true_xor, any_toPL 63 d z1 ds z2]
        exact h
      · cases hb
    | @lst a vs ds h1 h2 h3 =>
      simp only [cmpD, items] at hb
      split at hb
      · rename_i z
        obtain ⟨z1, z2⟩ := Bool.and_eq_true_iff.mp z
        cases hb
        refine .inl ⟨toP d, toPL ds, hd.dp 64 _ z1, .lst (SqL.of h1) (h3.dp 63 _ z2), shaped_toP z1, shaped_toP (x := .lst ds) z2, ?_⟩
        rw [any_toPL 63 d z1 ds z2]
        exact h
      · cases hb
    | _ => cases hb
end
end KI


set_option Elab.async false
set_option linter.all false
set_option maxRecDepth 100000
set_option autoImplicit false
set_option maxHeartbeats 1000000
/-! Subscripts, slices, built-in functions, what a loop walks. -/
namespace KI
open PySem PySem.Spec PyProof.Rows L2
section
variable {K : PySem.W.Frag} {XA : Nat → Addr} {ca mu ca' mu' : List Addr} {H H' : Hp} {S : Sto} {Q : VK} {W : XK}
/-! ### keys, dicts -/
theorem keyOf_kV {v : V} {d : D} {k : Key} (h : Is K ca mu H v d) (e : keyOf d = some k) : v = kV k := by
  cases h <;> cases e <;> rfl
theorem IsK.get {k : Key} {d : D} : ∀ {ds : List (Key × D)} {vs : List (Key × V)}, IsK K ca mu H vs ds → dicGet ds k = some d → ∃ v, valV vs k = some v ∧ Is K ca mu H v d
  | [], _, h, e => by cases e
  | (j, d') :: ds, _, h, e => by
    cases h with
    | @cons _ v vs _ _ h1 h2 =>
      unfold dicGet at e
      unfold valV
      rw [List.find?_cons] at e ⊢
      cases q : decide (j = k) with
      | true =>
        rw [q] at e
        dsimp only at e ⊢
        cases e
        exact ⟨v, rfl, h1⟩
      | false =>
        rw [q] at e
        exact IsK.get h2 e
theorem IsK.none {k : Key} : ∀ {ds : List (Key × D)} {vs : List (Key × V)}, IsK K ca mu H vs ds → dicGet ds k = none → valV vs k = none
  | [], _, h, e => by cases h; rfl
  | (j, d') :: ds, _, h, e => by
    cases h with
    | @cons _ v vs _ _ h1 h2 =>
      unfold dicGet at e
      unfold valV
      rw [List.find?_cons] at e ⊢
      cases q : decide (j = k) with
      | true =>
        rw [q] at e
        cases e
      | false =>
        rw [q] at e
        exact IsK.none h2 e
theorem IsK.any {k : Key} : ∀ {ds : List (Key × D)} {vs : List (Key × V)}, IsK K ca mu H vs ds → (vs.any fun kv => decide (kv.1 = k)) = ds.any fun kv => decide (kv.1 = k)
  | [], _, h => by cases h; rfl
  | (j, d') :: ds, _, h => by
    cases h with
    | cons h1 h2 => simp only [List.any_cons, IsK.any h2]
theorem IsK.mapPut {k : Key} {v : V} {d : D} (g : Is K ca mu H v d) : ∀ {ds : List (Key × D)} {vs : List (Key × V)}, IsK K ca mu H vs ds → IsK K ca mu H (vs.map fun kv => if kv.1 = k then (kv.1, v) else kv) (ds.map fun kv => if kv.1 = k then (kv.1, d) else kv)
  | [], _, h => by cases h; exact .nil
  | (j, d') :: ds, _, h => by
    cases h with
    | cons h1 h2 =>
      rw [List.map_cons, List.map_cons]
      by_cases e : j = k
      · simp only [if_pos e]; exact .cons g (IsK.mapPut g h2)
      · simp only [if_neg e]; exact .cons h1 (IsK.mapPut g h2)
theorem IsK.snoc {k : Key} {v : V} {d : D} (g : Is K ca mu H v d) : ∀ {ds : List (Key × D)} {vs : List (Key × V)}, IsK K ca mu H vs ds → IsK K ca mu H (vs ++ [(k, v)]) (ds ++ [(k, d)])
  | [], _, h => by cases h; exact .cons g .nil
  | (j, d') :: ds, _, h => by cases h with | cons h1 h2 => exact .cons h1 (IsK.snoc g h2)
theorem IsK.put {k : Key} {v : V} {d : D} {ds : List (Key × D)} {vs : List (Key × V)} (h : IsK K ca mu H vs ds) (g : Is K ca mu H v d) : IsK K ca mu H (putK vs k v) (dicPut ds k d) := by
  unfold putK dicPut
  rw [h.any]
  cases (ds.any fun kv => decide (kv.1 = k)) with
  | true => exact IsK.mapPut g h
  | false => exact IsK.snoc g h
theorem IsK.merge : ∀ (ps : List (Key × D)) {qs : List (Key × V)} {ds : List (Key × D)} {vs : List (Key × V)}, IsK K ca mu H vs ds → IsK K ca mu H qs ps → IsK K ca mu H (mergeK vs qs) (mergeD ds ps)
  | [], _, _, _, h, g => by cases g; exact h
  | (k, d) :: ps, _, ds, vs, h, g => by
    cases g with
    | @cons _ v qs _ _ g1 g2 =>
      have z := IsK.merge ps (h.put (k := k) g1) g2
      show IsK K ca mu H (mergeK (putK vs k v) qs) (mergeD (dicPut ds k d) ps)
      exact z
/-! ### a[i] -/
/-- the dict at a, its value at a key -/
theorem dic_get {a : Addr} {kvs : List (Key × V)} {kds : List (Key × D)} {y : V} {e d : D} {k : Key} (h1 : H a = some (.dK kvs)) (h2 : IsK K ca mu H kvs kds) (he : Is K ca mu H y e) (hk : keyOf e = some k) (hg : dicGet kds k = some d) :
    ∃ v, DGet H a y (some v) ∧ Is K ca mu H v d := by
  obtain ⟨v, q1, q2⟩ := h2.get hg
  have z : DGet H a (kV k) (valV kvs k) := DGet.k h1
  rw [q1, ← keyOf_kV he hk] at z
  exact ⟨v, z, q2⟩
def dicLike (S : Sto) : D → Bool
  | .dic _ => true
  | .cell n => (match S[n]? with
    | some (.dct _) => true
    | _ => false)
  | _ => false
/-- a subscript: a sequence's, or a dict's -/
theorem idx_ok {d e z : D} {x y : V} (w : Wd K ca mu H S) (hd : Is K ca mu H x d) (he : Is K ca mu H y e) (hz : idxD S d e = some z) :
    (dicLike S d = false ∧ ∃ v, Is K ca mu H v z ∧ ∀ R : VK, R v H → rIx K x y H R) ∨ (dicLike S d = true ∧ ∃ a v, x = .ref a ∧ DGet H a y (some v) ∧ Is K ca mu H v z) := by
  cases hd with
  | @tup a vs ds h1 h2 =>
    cases he with
    | int i => obtain ⟨v, q1, q2⟩ := h2.at_ hz; exact .inl ⟨rfl, v, q2, fun R r => .inr (.inl ⟨a, vs, i, v, rfl, rfl, h1.sq, q1, r⟩)⟩
    | _ => cases hz
  | @lst a vs ds h1 h2 h3 =>
    cases he with
    | int i => obtain ⟨v, q1, q2⟩ := h3.at_ hz; exact .inl ⟨rfl, v, q2, fun R r => .inl ⟨a, vs, i, v, rfl, rfl, SqL.of h1, q1, r⟩⟩
    | _ => cases hz
  | @ro a vs ds h1 h2 =>
    cases he with
    | int i => obtain ⟨v, q1, q2⟩ := h2.at_ hz; exact .inl ⟨rfl, v, q2, fun R r => .inl ⟨a, vs, i, v, rfl, rfl, h1.sq, q1, r⟩⟩
    | _ => cases hz
  | @dic a kvs kds h1 h2 h3 =>
    have hz : (keyOf e).bind (fun k => dicGet kds k) = some z := by cases he <;> exact hz
    cases hk : keyOf e with
    | none => rw [hk] at hz; cases hz
    | some k =>
      rw [hk] at hz
      obtain ⟨v, q1, q2⟩ := dic_get h1 h3 he hk hz
      exact .inr ⟨rfl, a, v, rfl, q1, q2⟩
  | @cell a n hc =>
    have hz : (match S[n]? with
      | some (.lst xs) => (match e with
        | .int i => atI xs i
        | _ => none)
      | some (.dct kvs) => (keyOf e).bind fun k => dicGet kvs k
      | _ => none) = some z := by cases he <;> exact hz
    cases hs : S[n]? with
    | none => rw [hs] at hz; cases hz
    | some o =>
      rw [hs] at hz
      have r := w.ob n a o hc hs
      cases o with
      | lst xs =>
        obtain ⟨_, vs, h1, h2⟩ := r
        cases he with
        | int i => obtain ⟨v, q1, q2⟩ := h2.at_ hz; exact .inl ⟨by simp only [dicLike, hs], v, q2, fun R r => .inl ⟨a, vs, i, v, rfl, rfl, SqL.of h1, q1, r⟩⟩
        | _ => cases hz
      | dct kds =>
        obtain ⟨_, kvs, h1, h2⟩ := r
        cases hk : keyOf e with
        | none => rw [hk] at hz; cases hz
        | some k =>
          rw [hk] at hz
          obtain ⟨v, q1, q2⟩ := dic_get h1 h2 he hk hz
          exact .inr ⟨by simp only [dicLike, hs], a, v, rfl, q1, q2⟩
      | dead => cases hz
  | _ => cases he <;> cases hz
/-! ### a[lo:hi] -/
def rCut (K : PySem.W.Frag) : V → Option Int → Option Int → Hp → VK → Prop := fun x lo hi H Q => rSlA K x lo hi H Q ∨ rSlL K x lo hi H Q
theorem sl_cut {X : Cx} : SlR X (rCut X.K) := sl_tupA.or sl_list
theorem sIx_le' (n : Nat) (o : Option Int) (d : Nat) (hd : d ≤ n) : HT.sIx n d o ≤ n := HT.sIx_le n d hd o
theorem cut_whole {α : Type} {xs : List α} {lo hi : Option Int} (h : HT.sIx xs.length 0 lo = 0 ∧ HT.sIx xs.length xs.length hi = xs.length) : cut xs lo hi = xs := by
  unfold cut
  rw [h.1, h.2]
  simp
theorem cut_ok {d : D} {x : V} {lo hi : Option Int} (w : Wd K ca mu H S) (hd : Is K ca mu H x d) (h : okR K XA (IsR K) ca mu H (lift (cutD d lo hi) S) Q W) : rCut K x lo hi H Q := by
  cases hd with
  | @tup a vs ds h1 h2 =>
    refine .inl ⟨a, vs, rfl, h1.sq, fun e => ?_, fun _ => newT w (h2.cut lo hi) h⟩
    have e2 : cut ds lo hi = ds := cut_whole (by rw [← h2.length]; exact e)
    have h : okR K XA (IsR K) ca mu H (.ok (.tup (cut ds lo hi)) S) Q W := h
    rw [e2] at h
    exact got w (.tup h1 h2) h
  | @lst a vs ds h1 h2 h3 => exact .inr ⟨a, vs, rfl, SqL.of h1, newL w (h3.cut lo hi) h⟩
  | _ => exact h.elim
/-! ### built-in functions -/
theorem intsD_ok : ∀ {ds : List D} {vs : List V} {ns : List Int}, IsL K ca mu H vs ds → intsD ds = some ns → vs = ns.map V.int
  | [], _, _, h, e => by cases h; cases e; rfl
  | d :: ds, _, _, h, e => by
    cases h with
    | cons h1 h2 =>
      cases h1 with
      | int i =>
        have e : (intsD ds).map (i :: ·) = some _ := e
        cases q : intsD ds with
        | none => rw [q] at e; cases e
        | some ns => rw [q] at e; cases e; rw [List.map_cons, intsD_ok h2 q]
      | _ => cases e
theorem boolsD_ok : ∀ {ds : List D} {vs : List V} {ns : List Bool}, IsL K ca mu H vs ds → boolsD ds = some ns → vs = ns.map V.bl
  | [], _, _, h, e => by cases h; cases e; rfl
  | d :: ds, _, _, h, e => by
    cases h with
    | cons h1 h2 =>
      cases h1 with
      | bl i =>
        have e : (boolsD ds).map (i :: ·) = some _ := e
        cases q : boolsD ds with
        | none => rw [q] at e; cases e
        | some ns => rw [q] at e; cases e; rw [List.map_cons, boolsD_ok h2 q]
      | _ => cases e
theorem minL_le : ∀ (xs : List Int) (m : Int), minL m xs ≤ m ∧ (∀ y ∈ xs, minL m xs ≤ y) ∧ (minL m xs = m ∨ minL m xs ∈ xs)
  | [], m => ⟨Int.le_refl _, fun y h => absurd h (by simp), Or.inl rfl⟩
  | x :: xs, m => by
    by_cases e : x < m
    · obtain ⟨h1, h2, h3⟩ := minL_le xs x
      rw [show minL m (x :: xs) = minL x xs by show minL (if x < m then x else m) xs = _; rw [if_pos e]]
      refine ⟨by omega, fun y hy => ?_, Or.inr ?_⟩
      · rcases List.mem_cons.mp hy with rfl | hy
        · exact h1
        · exact h2 y hy
      · rcases h3 with h3 | h3
        · rw [h3]; exact List.mem_cons_self
        · exact List.mem_cons_of_mem _ h3
    · obtain ⟨h1, h2, h3⟩ := minL_le xs m
      rw [show minL m (x :: xs) = minL m xs by show minL (if x < m then x else m) xs = _; rw [if_neg e]]
      refine ⟨h1, fun y hy => ?_, ?_⟩
      · rcases List.mem_cons.mp hy with rfl | hy
        · omega
        · exact h2 y hy
      · rcases h3 with h3 | h3
        · exact Or.inl h3
        · exact Or.inr (List.mem_cons_of_mem _ h3)
theorem maxL_ge : ∀ (xs : List Int) (m : Int), m ≤ maxL m xs ∧ (∀ y ∈ xs, y ≤ maxL m xs) ∧ (maxL m xs = m ∨ maxL m xs ∈ xs)
  | [], m => ⟨Int.le_refl _, fun y h => absurd h (by simp), Or.inl rfl⟩
  | x :: xs, m => by
    by_cases e : x > m
    · obtain ⟨h1, h2, h3⟩ := maxL_ge xs x
      rw [show maxL m (x :: xs) = maxL x xs by show maxL (if x > m then x else m) xs = _; rw [if_pos e]]
      refine ⟨by omega, fun y hy => ?_, Or.inr ?_⟩
      · rcases List.mem_cons.mp hy with rfl | hy
        · exact h1
        · exact h2 y hy
      · rcases h3 with h3 | h3
        · rw [h3]; exact List.mem_cons_self
        · exact List.mem_cons_of_mem _ h3
    · obtain ⟨h1, h2, h3⟩ := maxL_ge xs m
      rw [show maxL m (x :: xs) = maxL m xs by show maxL (if x > m then x else m) xs = _; rw [if_neg e]]
      refine ⟨h1, fun y hy => ?_, ?_⟩
      · rcases List.mem_cons.mp hy with rfl | hy
        · omega
        · exact h2 y hy
      · rcases h3 with h3 | h3
        · exact Or.inl h3
        · exact Or.inr (List.mem_cons_of_mem _ h3)
def biId : Bi → String
  | .len => "len" | .abs => "abs" | .int => "int" | .str => "str" | .min1 => "min" | .max1 => "max" | .min2 => "min" | .max2 => "max" | .all => "all" | .any => "any" | .sum => "sum" | .list => "list" | .tuple => "tuple" | .dict => "dict"
def biTy : Bi → Bool
  | .int => true | .str => true | .list => true | .tuple => true | .dict => true
  | _ => false
def biVal (b : Bi) : Value := if biTy b then .type (biId b) else .builtin (biId b)
def biN : Bi → Nat
  | .min2 => 2 | .max2 => 2
  | _ => 1
def rBi (K : PySem.W.Frag) : Bi → List V → Hp → VK → Prop
  | .len => fun xs H Q => ∃ x n, xs = [x] ∧ LenV K x H n ∧ Q (.int n) H
  | .abs => fun xs H Q => ∃ i, xs = [.int i] ∧ Q (.int (if i < 0 then -i else i)) H
  | .int => fun xs H Q => (∃ i, xs = [.int i] ∧ Q (.int i) H) ∨ ∃ k, xs = [.bl k] ∧ Q (.int (if k then 1 else 0)) H
  | .str => fun xs H Q => ∃ i, xs = [.int i] ∧ i.natAbs.log2 < 1920 ∧ Q (.str (toString i)) H
  | .min1 => rMin K
  | .max1 => rMax K
  | .min2 => fun xs H Q => ∃ i j, xs = [.int i, .int j] ∧ Q (.int (if j < i then j else i)) H
  | .max2 => fun xs H Q => ∃ i j, xs = [.int i, .int j] ∧ Q (.int (if j > i then j else i)) H
  | .all => rAll K
  | .any => rAny K
  | .sum => rSum K
  | .list => fun xs H Q => ∃ p ys, xs = [.ref p] ∧ (SqL K H p ys ∨ SqT K H p ys) ∧ ∀ l, H l = none → Q (.ref l) (upd H l (.lst ys))
  | .tuple => fun xs H Q => ∃ p ys, xs = [.ref p] ∧ ((SqL K H p ys ∧ ∀ l, H l = none → Q (.ref l) (upd H l (.tup ys))) ∨ (SqT K H p ys ∧ Q (.ref p) H))
  | .dict => fun xs H Q => ∃ (a : Addr) (ps : List Addr) (kvs : List (Key × V)), xs = [.ref a] ∧ SqL K H a (ps.map V.ref) ∧ Paired (fun p kv => SqT K H p [kV kv.1, kv.2]) ps kvs ∧ ∀ p, H p = none → Q (.ref p) (upd H p (.dK (mergeK [] kvs)))
theorem cr_bi {X : Cx} (hc : X.calm = true) (b : Bi) : CallR X (biVal b) (rBi X.K b) := by
  cases b
  · exact call_len
  · exact call_abs
  · exact call_int1
  · exact call_str_int
  · exact cr_min hc
  · exact cr_max hc
  · exact call_min2 hc
  · exact call_max2 hc
  · exact cr_all hc
  · exact cr_any hc
  · exact cr_sum hc
  · exact call_list_of
  · exact call_tuple_of
  · exact call_dictP hc
theorem pairsOf_ok : ∀ {ds : List D} {vs : List V} {ps : List (Key × D)}, IsL K ca mu H vs ds → pairsOf ds = some ps → ∃ (as : List Addr) (qs : List (Key × V)), vs = as.map V.ref ∧ Paired (fun p kv => SqT K H p [kV kv.1, kv.2]) as qs ∧ IsK K ca mu H qs ps
  | [], _, _, h, e => by cases h; cases e; exact ⟨[], [], rfl, .nil, .nil⟩
  | d :: ds, _, _, h, e => by
    cases h with
    | cons h1 h2 =>
      cases h1 with
      | @tup a us es g1 g2 =>
        cases es with
        | nil => cases e
        | cons k es =>
          cases es with
          | nil => cases e
          | cons z es =>
            cases es with
            | cons _ _ => cases e
            | nil =>
              cases g2 with
              | cons k1 g2 =>
                cases g2 with
                | cons z1 g2 =>
                  cases g2
                  have e : (keyOf k).bind (fun k => (pairsOf ds).map ((k, z) :: ·)) = some _ := e
                  cases hk : keyOf k with
                  | none => rw [hk] at e; cases e
                  | some kk =>
                    rw [hk] at e
                    have e : (pairsOf ds).map ((kk, z) :: ·) = some _ := e
                    cases q : pairsOf ds with
                    | none => rw [q] at e; cases e
                    | some ps =>
                      rw [q] at e
                      cases e
                      obtain ⟨as, qs, r1, r2, r3⟩ := pairsOf_ok h2 q
                      have ek := keyOf_kV k1 hk
                      subst ek
                      exact ⟨a :: as, (kk, _) :: qs, by rw [r1]; rfl, .cons g1.sq r2, .cons z1 r3⟩
      | _ => cases e
theorem bi_ok {b : Bi} {ds : List D} {vs : List V} (w : Wd K ca mu H S) (hd : IsL K ca mu H vs ds) (h : okR K XA (IsR K) ca mu H (lift (biD S b ds) S) Q W) : rBi K b vs H Q := by
  cases hd with
  | nil => cases b <;> exact h.elim
  | @cons v vs d ds h1 h2 =>
    cases h2 with
    | nil =>
      cases b with
      | len =>
        cases h1 with
        | @tup a us es g1 g2 => exact ⟨_, us.length, rfl, .inr ⟨us, g1.sq, rfl⟩, by rw [g2.length]; exact got w (.int _) h⟩
        | @lst a us es g1 g2 g3 => exact ⟨_, us.length, rfl, .inl ⟨us, SqL.of g1, rfl⟩, by rw [g3.length]; exact got w (.int _) h⟩
        | @ro a us es g1 g2 => exact ⟨_, us.length, rfl, .inl ⟨us, g1.sq, rfl⟩, by rw [g2.length]; exact got w (.int _) h⟩
        | str x =>
          simp only [biD] at h
          split at h
          · rename_i z
            exact ⟨_, x.length, rfl, ⟨by rw [LN_eq]; exact z, rfl⟩, got w (.int _) h⟩
          · exact h.elim
        | _ => exact h.elim
      | abs => cases h1 <;> first | exact h.elim | exact ⟨_, rfl, got w (.int _) h⟩
      | int => cases h1 <;> first | exact h.elim | exact .inl ⟨_, rfl, got w (.int _) h⟩ | exact .inr ⟨_, rfl, got w (.int _) h⟩
      | str =>
        cases h1 with
        | int i =>
          simp only [biD] at h
          split at h
          · rename_i z
            exact ⟨i, rfl, z, got w (.str _) h⟩
          · exact h.elim
        | _ => exact h.elim
      | min1 =>
        cases h1 with
        | @lst a us es g1 g2 g3 =>
          simp only [biD] at h
          cases q : intsD es with
          | none => rw [q] at h; exact h.elim
          | some ns =>
            rw [q] at h
            cases ns with
            | nil => exact h.elim
            | cons m r =>
              have ev := intsD_ok g3 q
              subst ev
              refine ⟨a, m :: r, rfl, SqL.of g1, by simp, fun z h1 h2 => ?_⟩
              obtain ⟨a1, a2, a3⟩ := minL_le r m
              have e : z = minL m r := by
                have b1 : z ≤ minL m r := by
                  rcases a3 with a3 | a3
                  · rw [a3]; exact h2 m List.mem_cons_self
                  · exact h2 _ (List.mem_cons_of_mem _ a3)
                have b2 : minL m r ≤ z := by
                  rcases List.mem_cons.mp h1 with e | e
                  · rw [e]; exact a1
                  · exact a2 z e
                omega
              rw [e]
              exact got w (.int _) h
        | _ => exact h.elim
      | max1 =>
        cases h1 with
        | @lst a us es g1 g2 g3 =>
          simp only [biD] at h
          cases q : intsD es with
          | none => rw [q] at h; exact h.elim
          | some ns =>
            rw [q] at h
            cases ns with
            | nil => exact h.elim
            | cons m r =>
              have ev := intsD_ok g3 q
              subst ev
              refine ⟨a, m :: r, rfl, SqL.of g1, by simp, fun z h1 h2 => ?_⟩
              obtain ⟨a1, a2, a3⟩ := maxL_ge r m
              have e : z = maxL m r := by
                have b1 : maxL m r ≤ z := by
                  rcases a3 with a3 | a3
                  · rw [a3]; exact h2 m List.mem_cons_self
                  · exact h2 _ (List.mem_cons_of_mem _ a3)
                have b2 : z ≤ maxL m r := by
                  rcases List.mem_cons.mp h1 with e | e
                  · rw [e]; exact a1
                  · exact a2 z e
                omega
              rw [e]
              exact got w (.int _) h
        | _ => exact h.elim
      | min2 => cases h1 <;> exact h.elim
      | max2 => cases h1 <;> exact h.elim
      | all =>
        cases h1 with
        | @lst a us es g1 g2 g3 =>
          simp only [biD] at h
          cases q : boolsD es with
          | none => rw [q] at h; exact h.elim
          | some ns =>
            rw [q] at h
            have ev := boolsD_ok g3 q
            subst ev
            exact ⟨a, ns, rfl, SqL.of g1, got w (.bl _) h⟩
        | _ => exact h.elim
      | any =>
        cases h1 with
        | @lst a us es g1 g2 g3 =>
          simp only [biD] at h
          cases q : boolsD es with
          | none => rw [q] at h; exact h.elim
          | some ns =>
            rw [q] at h
            have ev := boolsD_ok g3 q
            subst ev
            exact ⟨a, ns, rfl, SqL.of g1, got w (.bl _) h⟩
        | _ => exact h.elim
      | sum =>
        cases h1 with
        | @lst a us es g1 g2 g3 =>
          simp only [biD] at h
          cases q : intsD es with
          | none => rw [q] at h; exact h.elim
          | some ns =>
            rw [q] at h
            have ev := intsD_ok g3 q
            subst ev
            exact ⟨a, ns, rfl, SqL.of g1, got w (.int _) h⟩
        | _ => exact h.elim
      | list =>
        cases h1 with
        | @lst a us es g1 g2 g3 => exact ⟨a, us, rfl, .inl (SqL.of g1), newL w g3 h⟩
        | @tup a us es g1 g2 => exact ⟨a, us, rfl, .inr g1.sq, newL w g2 h⟩
        | _ => exact h.elim
      | tuple =>
        cases h1 with
        | @lst a us es g1 g2 g3 => exact ⟨a, us, rfl, .inl ⟨SqL.of g1, newT w g3 h⟩⟩
        | @tup a us es g1 g2 => exact ⟨a, us, rfl, .inr ⟨g1.sq, got w (.tup g1 g2) h⟩⟩
        | _ => exact h.elim
      | dict =>
        cases h1 with
        | @lst a us es g1 g2 g3 =>
          simp only [biD] at h
          cases q : pairsOf es with
          | none => rw [q] at h; exact h.elim
          | some ps =>
            rw [q] at h
            obtain ⟨as, qs, r1, r2, r3⟩ := pairsOf_ok g3 q
            subst r1
            exact ⟨a, as, qs, rfl, SqL.of g1, r2, newD w (IsK.merge _ .nil r3) h⟩
        | _ => exact h.elim
    | @cons v2 vs d2 ds g1 g2 =>
      cases g2 with
      | cons _ _ => cases b <;> cases h1 <;> cases g1 <;> exact h.elim
      | nil =>
        cases b with
        | min2 => cases h1 <;> cases g1 <;> first | exact h.elim | exact ⟨_, _, rfl, got w (.int _) h⟩
        | max2 => cases h1 <;> cases g1 <;> first | exact h.elim | exact ⟨_, _, rfl, got w (.int _) h⟩
        | _ => cases h1 <;> cases g1 <;> exact h.elim
/-! ### isinstance -/
def tyName : Ty → String
  | .int => "int" | .bool => "bool" | .str => "str" | .tuple => "tuple" | .list => "list"
theorem kit_all : ∀ (a b : Ty), kitB (tyName a) (tyName b) = some (match a, b with
    | .bool, .int => true
    | a, b => decide (a = b)) := by
  intro a b
  cases a <;> cases b <;> decide +kernel
theorem kit_non : ∀ b : Ty, kitB "NoneType" (tyName b) = some false := by
  intro b
  cases b <;> decide +kernel
theorem isi_ok {t : Ty} {d : D} {x : V} {b : Bool} (hd : Is K ca mu H x d) (hb : isTy t d = some b) : ∃ T, TyX K H x T ∧ PySem.W.kitOne K T (.type (tyName t)) = some b := by
  cases hd with
  | non => refine ⟨_, .base .non, kit_ty ?_⟩; rw [kit_non t, ← hb]; cases t <;> rfl
  | bl k => refine ⟨_, .base (.bl k), kit_ty ?_⟩; rw [show "bool" = tyName .bool from rfl, kit_all .bool t, ← hb]; cases t <;> rfl
  | int k => refine ⟨_, .base (.int k), kit_ty ?_⟩; rw [show "int" = tyName .int from rfl, kit_all .int t, ← hb]; cases t <;> rfl
  | str k => refine ⟨_, .base (.str k), kit_ty ?_⟩; rw [show "str" = tyName .str from rfl, kit_all .str t, ← hb]; cases t <;> rfl
  | @tup a vs ds h1 h2 =>
    have e : kitB "tuple" (tyName t) = some b := by rw [show "tuple" = tyName .tuple from rfl, kit_all .tuple t, ← hb]; cases t <;> rfl
    rcases h1 with ⟨h1 | ⟨o, h1⟩, _⟩ | ⟨o, its, n, h1, h3, _⟩
    · exact ⟨_, .base (.tup h1), kit_ty e⟩
    · exact ⟨_, .fTuple h1, kit_ty e⟩
    · exact ⟨_, .kTuple h1 h3, kit_ty e⟩
  | @lst a vs ds h1 h2 h3 =>
    have e : kitB "list" (tyName t) = some b := by rw [show "list" = tyName .list from rfl, kit_all .list t, ← hb]; cases t <;> rfl
    exact ⟨_, .base (.lst h1), kit_ty e⟩
  | @ro a vs ds h1 h2 =>
    have e : kitB "list" (tyName t) = some b := by rw [show "list" = tyName .list from rfl, kit_all .list t, ← hb]; cases t <;> rfl
    rcases h1 with ⟨h1 | ⟨o, h1⟩, _⟩ | ⟨o, its, n, h1, h3, _⟩
    · exact ⟨_, .base (.lst h1), kit_ty e⟩
    · exact ⟨_, .base (.frz h1), kit_ty e⟩
    · exact ⟨_, .kList h1 h3, kit_ty e⟩
  | dic _ _ _ => cases t <;> cases hb
  | cell _ => cases t <;> cases hb
end
end KI


set_option Elab.async false
set_option linter.all false
set_option maxRecDepth 100000
set_option autoImplicit false
set_option maxHeartbeats 1000000
/-! Expressions: the reading of each piece of code, and that the text's expression has it. -/
namespace KI
open PySem PySem.Spec PyProof.Rows L2

theorem Is.ex {K : PySem.W.Frag} {ca mu ca' mu' : List Addr} {H H' : Hp} {v : V} {d : D} (h : Is K ca mu H v d) (x : Ext ca mu H ca' mu' H') : Is K ca' mu' H' v d := Is.ext x d h
theorem IsL.ex {K : PySem.W.Frag} {ca mu ca' mu' : List Addr} {H H' : Hp} {v : List V} {d : List D} (h : IsL K ca mu H v d) (x : Ext ca mu H ca' mu' H') : IsL K ca' mu' H' v d := IsL.ext x d h
theorem IsK.ex {K : PySem.W.Frag} {ca mu ca' mu' : List Addr} {H H' : Hp} {v : List (Key × V)} {d : List (Key × D)} (h : IsK K ca mu H v d) (x : Ext ca mu H ca' mu' H') : IsK K ca' mu' H' v d := IsK.ext x d h
/-! ### weaker readings -/
section
variable {X : Cx} {e : Expr} {t u : TE}
theorem PEimp (h : PE X e t) (w : ∀ σ H Q, u σ H Q → t σ H Q) : PE X e u := ⟨fun pins s σ H Q I hu => h.run pins s σ H Q I (w _ _ _ hu)⟩
theorem PEor (h : PE X e t) (g : PE X e u) : PE X e (fun σ H Q => t σ H Q ∨ u σ H Q) := ⟨fun pins s σ H Q I hu => hu.elim (h.run pins s σ H Q I) (g.run pins s σ H Q I)⟩
theorem PTimp {t u : TT} (h : PT X e t) (w : ∀ σ H Q, u σ H Q → t σ H Q) : PT X e u := ⟨fun pins s σ H Q I hu => h.run pins s σ H Q I (w _ _ _ hu)⟩
theorem PWimp {t u : TT} (h : PW X e t) (w : ∀ σ H Q, u σ H Q → t σ H Q) : PW X e u := ⟨fun wh pins s σ H Q I hu => h.run wh pins s σ H Q I (w _ _ _ hu)⟩
theorem PAimp {es : List Expr} {t u : TA} (h : PA X es t) (w : ∀ σ H Q, u σ H Q → t σ H Q) : PA X es u := ⟨fun pos pins s σ H Q I hu => h.run pos pins s σ H Q I (w _ _ _ hu)⟩
theorem POimp {o : Option Expr} {t u : TO} (h : PO X o t) (w : ∀ σ H Q, u σ H Q → t σ H Q) : PO X o u := ⟨fun pins s σ H Q I hu => h.run pins s σ H Q I (w _ _ _ hu)⟩
theorem PIimp {tg it : Expr} {t u : TI} (h : PI X tg it t) (w : ∀ σ H Q, u σ H Q → t σ H Q) : PI X tg it u := ⟨fun pins s σ H Q I hu => h.run pins s σ H Q I (w _ _ _ hu)⟩
theorem PIor {tg it : Expr} {t u : TI} (h : PI X tg it t) (g : PI X tg it u) : PI X tg it (fun σ H Q => t σ H Q ∨ u σ H Q) := ⟨fun pins s σ H Q I hu => hu.elim (h.run pins s σ H Q I) (g.run pins s σ H Q I)⟩
theorem PGor {tg : Expr} {t u : TG} (h : PG X tg t) (g : PG X tg u) : PG X tg (fun v σ H Q => t v σ H Q ∨ u v σ H Q) := ⟨fun pins s σ H v w Q I r hu => hu.elim (h.run pins s σ H v w Q I r) (g.run pins s σ H v w Q I r)⟩
theorem PGimp {tg : Expr} {t u : TG} (h : PG X tg t) (k : ∀ v σ H Q, u v σ H Q → t v σ H Q) : PG X tg u := ⟨fun pins s σ H v w Q I r hu => h.run pins s σ H v w Q I r (k _ _ _ _ hu)⟩
theorem PGsimp {tg : List Expr} {t u : TGs} (h : PGs X tg t) (k : ∀ v σ H Q, u v σ H Q → t v σ H Q) : PGs X tg u := ⟨fun pins s σ H v w Q I r hu => h.run pins s σ H v w Q I r (k _ _ _ _ hu)⟩
end
/-! ### readings -/
/-- what the code is run with -/
structure En where
  XA : Nat → Addr
  cons : Nat → D
  call : Call
/-- what a walked thing gives, turn by turn -/
structure WalkD (K : PySem.W.Frag) (J : L2.It) (ca0 mu0 : List Addr) (H0 : Hp) (xs : List D) : Prop where
  goes : ∀ i ca mu H, i < xs.length → Ext ca0 mu0 H0 ca mu H → J.go i H
  stops : ∀ ca mu H, Ext ca0 mu0 H0 ca mu H → J.stop xs.length H
  yields : ∀ i x ca mu H H' S, i < xs.length → Ext ca0 mu0 H0 ca mu H → Wd K ca mu H S → J.yld i H x H' → ∃ d, xs[i]? = some d ∧ Ext ca mu H ca mu H' ∧ Wd K ca mu H' S ∧ Is K ca mu H' x d
abbrev WalkR (K : PySem.W.Frag) : List Addr → List Addr → Hp → L2.It → List D → Prop := fun ca mu H J xs => WalkD K J ca mu H xs
/-- a reading by an evaluation -/
def Rd0 (K : PySem.W.Frag) (G : En) {α β : Type} (rel : List Addr → List Addr → Hp → β → α → Prop) (f : Env → Sto → Res α) (W : WX) (σ : L2.St) (H : Hp) (Q : β → Hp → Prop) : Prop :=
  ∃ ca mu ρ S, Wd K ca mu H S ∧ RE K ca mu H σ ρ ∧ okR K G.XA rel ca mu H (f ρ S) Q (fun c d H' => W c d σ H')
abbrev RdE (K : PySem.W.Frag) (G : En) (W : WX) (e : Ex) : TE := Rd0 K G (IsR K) (ev G.cons G.call e) W
abbrev RdA (K : PySem.W.Frag) (G : En) (W : WX) (es : Exs) : TA := Rd0 K G (IsLR K) (evs G.cons G.call es) W
abbrev RdO (K : PySem.W.Frag) (G : En) (W : WX) (o : Oe) : TO := Rd0 K G (fun _ _ _ (b a : Option Int) => b = a) (evo G.cons G.call o) W
abbrev RdI (K : PySem.W.Frag) (G : En) (W : WX) (it : It) : TI := Rd0 K G (WalkR K) (evi G.cons G.call it) W
abbrev RdT (K : PySem.W.Frag) (G : En) (W : WX) (e : Ex) : TT := fun σ H Q => RdE K G W e σ H fun v H' => ∃ b, v = .bl b ∧ Q b H'
section
variable {K : PySem.W.Frag} {G : En} {ca mu : List Addr} {H : Hp} {σ : L2.St} {ρ : Env} {S : Sto} {α β α' β' : Type} {rel : List Addr → List Addr → Hp → β → α → Prop} {rel' : List Addr → List Addr → Hp → β' → α' → Prop} {W : WX}
theorem step {f : Env → Sto → Res α} {g : α → Sto → Res α'} {Q : β' → Hp → Prop} {R : β → Hp → Prop} (w : Wd K ca mu H S) (re : RE K ca mu H σ ρ) (h : okR K G.XA rel' ca mu H ((f ρ S).bind g) Q (fun c d H' => W c d σ H'))
    (k : ∀ a S' b ca' mu' H', Ext ca mu H ca' mu' H' → Wd K ca' mu' H' S' → RE K ca' mu' H' σ ρ → rel ca' mu' H' b a → okR K G.XA rel' ca' mu' H' (g a S') Q (fun c d H' => W c d σ H') → R b H') : Rd0 K G rel f W σ H R :=
  ⟨ca, mu, ρ, S, w, re, okR.bind h fun a S' b ca' mu' H' _ e w' i h' => k a S' b ca' mu' H' e w' (re.ext e) i h'⟩
/-- the last of a row -/
theorem last {f : Env → Sto → Res α} {Q : β → Hp → Prop} (w : Wd K ca mu H S) (re : RE K ca mu H σ ρ) (h : okR K G.XA rel ca mu H (f ρ S) Q (fun c d H' => W c d σ H')) : Rd0 K G rel f W σ H Q := ⟨ca, mu, ρ, S, w, re, h⟩
end
/-! ### the pieces -/
section
variable {X : Cx} {G : En} {W : WX} {a b c : Ex} {ea eb ec : Expr} {pos : Pos}
theorem snd_int {i : Int} {j : Nat} : PE X (.Constant (.int i) j pos) (RdE X.K G W (.int i)) := PEimp pe_int fun σ H Q ⟨ca, mu, ρ, S, w, re, h⟩ => got w (.int i) h
theorem snd_bl {i : Bool} {j : Nat} : PE X (.Constant (.bool i) j pos) (RdE X.K G W (.bl i)) := PEimp pe_bl fun σ H Q ⟨ca, mu, ρ, S, w, re, h⟩ => got w (.bl i) h
theorem snd_non {j : Nat} : PE X (.Constant .none j pos) (RdE X.K G W .non) := PEimp pe_non fun σ H Q ⟨ca, mu, ρ, S, w, re, h⟩ => got w .non h
theorem snd_str {x : Str} {j : Nat} : PE X (.Constant (.str x) j pos) (RdE X.K G W (.str x)) := PEimp pe_str fun σ H Q ⟨ca, mu, ρ, S, w, re, h⟩ => got w (.str x) h
theorem snd_var {i : Nat} {x : Str} (hN : X.N[i]? = some x) (hv : Vis X.env.scope x) (hd : (x == ("__debug__" : Str)) = false) (hcd : (x == ("__classdict__" : Str)) = false) : PE X (.Name x pos) (RdE X.K G W (.var i)) :=
  PEimp (pe_var hN hv hd hcd) fun σ H Q ⟨ca, mu, ρ, S, w, re, h⟩ => by
    have h : okR X.K G.XA (IsR X.K) ca mu H (match ρ[i]? with
      | some (some d) => .ok d S
      | _ => .no) Q (fun c d H' => W c d σ H') := h
    cases q : ρ[i]? with
    | none => rw [q] at h; exact h.elim
    | some o =>
      rw [q] at h
      cases o with
      | none => exact h.elim
      | some d =>
        obtain ⟨v, h1, h2⟩ := re.at_ i d q
        exact ⟨v, h1, got w h2 h⟩
theorem snd_con {n : Nat} {x : Str} {v : V} {u : Value} (hg : Gl X x) (hm : X.mg x = some u) (r : RelV v u) (hd : (x == ("__debug__" : Str)) = false) (hi : ∀ ca mu H, Is X.K ca mu H v (G.cons n)) : PE X (.Name x pos) (RdE X.K G W (.con n)) :=
  PEimp (pe_glob hg hm r hd) fun σ H Q ⟨ca, mu, ρ, S, w, re, h⟩ => got w (hi ca mu H) h
theorem snd_bin {o : Bop} (ha : PE X ea (RdE X.K G W a)) (hb : PE X eb (RdE X.K G W b)) : PE X (.BinOp ea (opOf o) eb pos) (RdE X.K G W (.bin o a b)) :=
  PEimp (pe_op (op_bin o) ha hb) fun σ H Q ⟨ca, mu, ρ, S, w, re, h⟩ => step w re h fun d S1 v ca1 mu1 H1 e1 w1 re1 i1 h1 => step w1 re1 h1 fun d2 S2 v2 ca2 mu2 H2 e2 w2 re2 i2 h2 => bin_ok w2 (i1.ex e2) i2 h2
theorem snd_neg (ha : PE X ea (RdE X.K G W a)) : PE X (.UnaryOp .USub ea pos) (RdE X.K G W (.neg a)) :=
  PEimp (pe_un un_neg ha) fun σ H Q ⟨ca, mu, ρ, S, w, re, h⟩ => step w re h fun d S1 v ca1 mu1 H1 e1 w1 re1 i1 h1 => by
    cases i1 with
    | int i => exact ⟨i, rfl, got w1 (.int _) h1⟩
    | _ => exact h1.elim
theorem snd_cmp {o : Cop} (hu : X.A.units + 65 < cLine) (ha : PE X ea (RdE X.K G W a)) (hb : PE X eb (RdE X.K G W b)) (hm : behindInMarks (copOf o) eb = false) : PE X (.Compare ea [copOf o] [eb] pos) (RdE X.K G W (.cmp o a b)) :=
  PEimp (pe_cmpR (op_cmp hu o) ha hb hm) fun σ H Q ⟨ca, mu, ρ, S, w, re, h⟩ => step w re h fun d S1 v ca1 mu1 H1 e1 w1 re1 i1 h1 => step w1 re1 h1 fun d2 S2 v2 ca2 mu2 H2 e2 w2 re2 i2 h2 => by
    cases q : cmpD o d d2 with
    | none => rw [q] at h2; exact h2.elim
    | some k => rw [q] at h2; exact cmp_ok (i1.ex e2) i2 q (got w2 (.bl k) h2)
theorem snd_cmpT {o : Cop} (hu : X.A.units + 65 < cLine) (ha : PE X ea (RdE X.K G W a)) (hb : PE X eb (RdE X.K G W b)) (hm : behindInMarks (copOf o) eb = false) : PT X (.Compare ea [copOf o] [eb] pos) (RdT X.K G W (.cmp o a b)) :=
  PTimp (pt_cmpR (op_cmp hu o) ha hb hm) fun σ H Q ⟨ca, mu, ρ, S, w, re, h⟩ => step w re h fun d S1 v ca1 mu1 H1 e1 w1 re1 i1 h1 => step w1 re1 h1 fun d2 S2 v2 ca2 mu2 H2 e2 w2 re2 i2 h2 => by
    cases q : cmpD o d d2 with
    | none => rw [q] at h2; exact h2.elim
    | some k => rw [q] at h2; exact cmp_ok (i1.ex e2) i2 q (got w2 (.bl k) h2)
theorem chain_ok {o p : Cop} {σ : L2.St} {H : Hp} {Q : VK} (h : RdE X.K G W (.chn o p a b c) σ H Q) : tChain (rCmp X.K o) (rCmp X.K p) (RdE X.K G W a) (RdE X.K G W b) (RdE X.K G W c) σ H Q := by
  obtain ⟨ca, mu, ρ, S, w, re, h⟩ := h
  refine step w re h fun d S1 v ca1 mu1 H1 e1 w1 re1 i1 h1 => step w1 re1 h1 fun d2 S2 v2 ca2 mu2 H2 e2 w2 re2 i2 h2 => ?_
  cases q : cmpD o d d2 with
  | none => rw [q] at h2; exact h2.elim
  | some k =>
    rw [q] at h2
    refine cmp_ok (i1.ex e2) i2 q ⟨k, rfl, ?_⟩
    cases k with
    | false => exact iteF (got w2 (.bl _) h2)
    | true =>
      refine iteT (step w2 re2 h2 fun d3 S3 v3 ca3 mu3 H3 e3 w3 re3 i3 h3 => ?_)
      cases q' : cmpD p d2 d3 with
      | none => rw [q'] at h3; exact h3.elim
      | some k => rw [q'] at h3; exact cmp_ok (i2.ex e3) i3 q' (got w3 (.bl k) h3)
theorem snd_chn {o p : Cop} (hu : X.A.units + 65 < cLine) (ha : PE X ea (RdE X.K G W a)) (hb : PE X eb (RdE X.K G W b)) (hc : PE X ec (RdE X.K G W c)) (hm : lastMarks [copOf o, copOf p] [eb, ec] = false) : PE X (.Compare ea [copOf o, copOf p] [eb, ec] pos) (RdE X.K G W (.chn o p a b c)) :=
  PEimp (pe_chain (op_cmp hu o) (op_cmp hu p) ha hb hc hm) fun σ H Q h => chain_ok h
theorem snd_chnT {o p : Cop} (hu : X.A.units + 65 < cLine) (ha : PE X ea (RdE X.K G W a)) (hb : PE X eb (RdE X.K G W b)) (hc : PE X ec (RdE X.K G W c)) (hm : lastMarks [copOf o, copOf p] [eb, ec] = false) : PT X (.Compare ea [copOf o, copOf p] [eb, ec] pos) (RdT X.K G W (.chn o p a b c)) :=
  PTimp (pt_chain (op_cmp hu o) (op_cmp hu p) ha hb hc hm) fun σ H Q h => chain_ok h
/-- a value that is a bool -/
theorem bool_of {K : PySem.W.Frag} {ca mu : List Addr} {H : Hp} {S : Sto} {v : V} {d : D} {R : VK} {W' : XK} {XA : Nat → Addr} {f : Bool → Sto → Res D} (i : Is K ca mu H v d) {r : Res D} (hr : r = match d with
      | .bl true => f true S
      | .bl false => f false S
      | _ => .no) (h : okR K XA (IsR K) ca mu H r R W') : ∃ k, v = .bl k ∧ okR K XA (IsR K) ca mu H (f k S) R W' := by
  subst hr
  cases i with
  | bl k => cases k <;> exact ⟨_, rfl, h⟩
  | _ => exact h.elim
theorem snd_and {rest : List Expr} (ha : PE X ea (RdE X.K G W a)) (hb : PE X (.BoolOp .And (eb :: rest) pos) (RdE X.K G W b)) : PE X (.BoolOp .And (ea :: eb :: rest) pos) (RdE X.K G W (.and a b)) :=
  PEimp (pe_and ha hb) fun σ H Q ⟨ca, mu, ρ, S, w, re, h⟩ => step w re h fun d S1 v ca1 mu1 H1 e1 w1 re1 i1 h1 => by
    obtain ⟨k, rfl, h2⟩ := bool_of (S := S1) (f := fun k S => bif k then ev G.cons G.call b ρ S else .ok (.bl false) S) i1 (by cases d <;> first | rfl | (rename_i z; cases z <;> rfl)) h1
    refine ⟨k, rfl, ?_⟩
    cases k with
    | true => exact iteT (last w1 re1 h2)
    | false => exact iteF (got w1 (.bl _) h2)
theorem snd_or {rest : List Expr} (ha : PE X ea (RdE X.K G W a)) (hb : PE X (.BoolOp .Or (eb :: rest) pos) (RdE X.K G W b)) : PE X (.BoolOp .Or (ea :: eb :: rest) pos) (RdE X.K G W (.or a b)) :=
  PEimp (pe_or ha hb) fun σ H Q ⟨ca, mu, ρ, S, w, re, h⟩ => step w re h fun d S1 v ca1 mu1 H1 e1 w1 re1 i1 h1 => by
    obtain ⟨k, rfl, h2⟩ := bool_of (S := S1) (f := fun k S => bif k then .ok (.bl true) S else ev G.cons G.call b ρ S) i1 (by cases d <;> first | rfl | (rename_i z; cases z <;> rfl)) h1
    refine ⟨k, rfl, ?_⟩
    cases k with
    | true => exact iteT (got w1 (.bl _) h2)
    | false => exact iteF (last w1 re1 h2)
theorem snd_not (ha : PE X ea (RdE X.K G W a)) : PE X (.UnaryOp .Not ea pos) (RdE X.K G W (.not a)) :=
  PEimp (pe_not ha) fun σ H Q ⟨ca, mu, ρ, S, w, re, h⟩ => step w re h fun d S1 v ca1 mu1 H1 e1 w1 re1 i1 h1 => by
    obtain ⟨k, rfl, h2⟩ := bool_of (S := S1) (f := fun k S => .ok (.bl (!k)) S) i1 (by cases d <;> first | rfl | (rename_i z; cases z <;> rfl)) h1
    exact ⟨k, rfl, got w1 (.bl _) h2⟩
theorem snd_andT {rest : List Expr} (ha : PT X ea (RdT X.K G W a)) (hb : PW X (.BoolOp .And (eb :: rest) pos) (RdT X.K G W b)) : PW X (.BoolOp .And (ea :: eb :: rest) pos) (RdT X.K G W (.and a b)) :=
  PWimp (pw_and ha hb) fun σ H Q ⟨ca, mu, ρ, S, w, re, h⟩ => step w re h fun d S1 v ca1 mu1 H1 e1 w1 re1 i1 h1 => by
    obtain ⟨k, rfl, h2⟩ := bool_of (S := S1) (f := fun k S => bif k then ev G.cons G.call b ρ S else .ok (.bl false) S) i1 (by cases d <;> first | rfl | (rename_i z; cases z <;> rfl)) h1
    refine ⟨k, rfl, ?_⟩
    cases k with
    | true => exact iteT (last w1 re1 h2)
    | false =>
      obtain ⟨b, e, q⟩ := got w1 (.bl _) h2
      cases e
      exact iteF q
theorem snd_orT {rest : List Expr} (ha : PT X ea (RdT X.K G W a)) (hb : PW X (.BoolOp .Or (eb :: rest) pos) (RdT X.K G W b)) : PW X (.BoolOp .Or (ea :: eb :: rest) pos) (RdT X.K G W (.or a b)) :=
  PWimp (pw_or ha hb) fun σ H Q ⟨ca, mu, ρ, S, w, re, h⟩ => step w re h fun d S1 v ca1 mu1 H1 e1 w1 re1 i1 h1 => by
    obtain ⟨k, rfl, h2⟩ := bool_of (S := S1) (f := fun k S => bif k then .ok (.bl true) S else ev G.cons G.call b ρ S) i1 (by cases d <;> first | rfl | (rename_i z; cases z <;> rfl)) h1
    refine ⟨k, rfl, ?_⟩
    cases k with
    | true =>
      obtain ⟨b, e, q⟩ := got w1 (.bl _) h2
      cases e
      exact iteT q
    | false => exact iteF (last w1 re1 h2)
theorem snd_notT (ha : PT X ea (RdT X.K G W a)) : PT X (.UnaryOp .Not ea pos) (RdT X.K G W (.not a)) :=
  PTimp (pt_not ha) fun σ H Q ⟨ca, mu, ρ, S, w, re, h⟩ => step w re h fun d S1 v ca1 mu1 H1 e1 w1 re1 i1 h1 => by
    obtain ⟨k, rfl, h2⟩ := bool_of (S := S1) (f := fun k S => .ok (.bl (!k)) S) i1 (by cases d <;> first | rfl | (rename_i z; cases z <;> rfl)) h1
    refine ⟨k, rfl, ?_⟩
    obtain ⟨b, e, q⟩ := got w1 (.bl _) h2
    cases e
    exact q
theorem snd_ite (hc : PT X ec (RdT X.K G W c)) (ha : PE X ea (RdE X.K G W a)) (hb : PE X eb (RdE X.K G W b)) : PE X (.IfExp ec ea eb pos) (RdE X.K G W (.ite c a b)) :=
  PEimp (pe_ifExp hc ha hb) fun σ H Q ⟨ca, mu, ρ, S, w, re, h⟩ => step w re h fun d S1 v ca1 mu1 H1 e1 w1 re1 i1 h1 => by
    obtain ⟨k, rfl, h2⟩ := bool_of (S := S1) (f := fun k S => bif k then ev G.cons G.call a ρ S else ev G.cons G.call b ρ S) i1 (by cases d <;> first | rfl | (rename_i z; cases z <;> rfl)) h1
    refine ⟨k, rfl, ?_⟩
    cases k with
    | true => exact iteT (last w1 re1 h2)
    | false => exact iteF (last w1 re1 h2)
theorem snd_idx (hu : X.A.units + 65 < cLine) (ha : PE X ea (RdE X.K G W a)) (hb : PE X eb (RdE X.K G W b)) (hs : PlainIx eb) : PE X (.Subscript ea eb pos) (RdE X.K G W (.idx a b)) :=
  PEimp (PEor (pe_ix ix_seq ha hb hs) (pe_dget (by omega) ha hb hs)) fun σ H Q ⟨ca, mu, ρ, S, w, re, h⟩ => by
    have h : okR X.K G.XA (IsR X.K) ca mu H ((ev G.cons G.call a ρ S).bind fun x S => (ev G.cons G.call b ρ S).bind fun y S => lift (idxD S x y) S) Q (fun c d H' => W c d σ H') := h
    cases qa : ev G.cons G.call a ρ S with
    | no => rw [qa] at h; exact h.elim
    | exc x S1 => rw [qa] at h; exact .inl ⟨ca, mu, ρ, S, w, re, by rw [qa]; exact h⟩
    | ok d S1 =>
      rw [qa] at h
      have h : okR X.K G.XA (IsR X.K) ca mu H ((ev G.cons G.call b ρ S1).bind fun y S => lift (idxD S d y) S) Q (fun c d H' => W c d σ H') := h
      cases qb : ev G.cons G.call b ρ S1 with
      | no => rw [qb] at h; exact h.elim
      | exc x S2 =>
        rw [qb] at h
        refine .inl ⟨ca, mu, ρ, S, w, re, ?_⟩
        rw [qa]
        intro v ca1 mu1 H1 e1 w1 i1
        refine ⟨ca1, mu1, ρ, S1, w1, re.ext e1, ?_⟩
        rw [qb]
        exact okR.rebase (r := .exc x S2) (rel := IsR X.K) (Q := fun _ _ => True) h e1
      | ok d2 S2 =>
        rw [qb] at h
        have h : okR X.K G.XA (IsR X.K) ca mu H (lift (idxD S2 d d2) S2) Q (fun c d H' => W c d σ H') := h
        cases qz : idxD S2 d d2 with
        | none => rw [qz] at h; exact h.elim
        | some z =>
          rw [qz] at h
          cases hk : dicLike S2 d with
          | true =>
            right
            refine ⟨ca, mu, ρ, S, w, re, ?_⟩
            rw [qa]
            intro v ca1 mu1 H1 e1 w1 i1
            refine ⟨ca1, mu1, ρ, S1, w1, re.ext e1, ?_⟩
            rw [qb]
            intro v2 ca2 mu2 H2 e2 w2 i2
            rcases idx_ok w2 (i1.ex e2) i2 qz with ⟨z0, _⟩ | ⟨_, p, u, g1, g2, g3⟩
            · rw [hk] at z0; cases z0
            · exact ⟨p, u, g1, g2, got w2 g3 (okR.rebase h (e1.trans e2))⟩
          | false =>
            left
            refine ⟨ca, mu, ρ, S, w, re, ?_⟩
            rw [qa]
            intro v ca1 mu1 H1 e1 w1 i1
            refine ⟨ca1, mu1, ρ, S1, w1, re.ext e1, ?_⟩
            rw [qb]
            intro v2 ca2 mu2 H2 e2 w2 i2
            rcases idx_ok w2 (i1.ex e2) i2 qz with ⟨_, u, g1, g2⟩ | ⟨z0, _⟩
            · exact g2 Q (got w2 g1 (okR.rebase h (e1.trans e2)))
            · rw [hk] at z0; cases z0

/-! ### slices -/
theorem bind_assoc {α β γ : Type} (r : Res α) (f : α → Sto → Res β) (g : β → Sto → Res γ) : (r.bind f).bind g = r.bind fun a S => (f a S).bind g := by
  cases r <;> rfl
theorem snd_onone : PO X none (RdO X.K G W .none) := POimp po_none fun σ H Q ⟨ca, mu, ρ, S, w, re, h⟩ => h none ca mu H Ext.refl w rfl
theorem snd_osome (ha : PE X ea (RdE X.K G W a)) : PO X (some ea) (RdO X.K G W (.some a)) :=
  POimp (po_some ha) fun σ H Q ⟨ca, mu, ρ, S, w, re, h⟩ => step w re h fun d S1 v ca1 mu1 H1 e1 w1 re1 i1 h1 => by
    cases i1 with
    | int i => exact ⟨i, rfl, h1 _ ca1 mu1 H1 Ext.refl w1 rfl⟩
    | _ => exact h1.elim
theorem snd_sli {lo hi : Oe} {l u : Option Expr} {p2 : Pos} (ha : PE X ea (RdE X.K G W a)) (hl : PO X l (RdO X.K G W lo)) (hh : PO X u (RdO X.K G W hi)) : PE X (.Subscript ea (.Slice l u none p2) pos) (RdE X.K G W (.sli a lo hi)) :=
  PEimp (pe_slice sl_cut ha hl hh) fun σ H Q ⟨ca, mu, ρ, S, w, re, h⟩ => step w re h fun d S1 v ca1 mu1 H1 e1 w1 re1 i1 h1 => step w1 re1 h1 fun o S2 o' ca2 mu2 H2 e2 w2 re2 i2 h2 => step w2 re2 h2 fun o3 S3 o3' ca3 mu3 H3 e3 w3 re3 i3 h3 => by
    subst i2 i3
    exact cut_ok w3 ((i1.ex e2).ex e3) h3
/-! ### argument lists, displays -/
def notStar : Expr → Bool
  | .Starred _ _ => false
  | _ => true
theorem star_ne {e : Expr} (h : notStar e = true) (es : List Expr) (env : PySem.Env) : starEach (e :: es) env = (false, eval e env) :: starEach es env := by
  cases e <;> first | rfl | cases h
theorem snd_anil : PA X [] (RdA X.K G W .nil) := PAimp pa_nil fun σ H Q ⟨ca, mu, ρ, S, w, re, h⟩ => h [] ca mu H Ext.refl w .nil
theorem snd_acons {es : List Expr} {as : Exs} (ha : PE X ea (RdE X.K G W a)) (hs : PA X es (RdA X.K G W as)) (hn : notStar ea = true) : PA X (ea :: es) (RdA X.K G W (.cons a as)) :=
  PAimp (pa_cons ha hs (star_ne hn es _)) fun σ H Q ⟨ca, mu, ρ, S, w, re, h⟩ => step w re h fun d S1 v ca1 mu1 H1 e1 w1 re1 i1 h1 => step w1 re1 h1 fun ds S2 vs ca2 mu2 H2 e2 w2 re2 i2 h2 =>
    h2 (v :: vs) ca2 mu2 H2 Ext.refl w2 (.cons (i1.ex e2) i2)
variable {es : List Expr} {as : Exs}
theorem snd_tup {k : Nat} (hs : PA X es (RdA X.K G W as)) : PE X (.Tuple es k pos) (RdE X.K G W (.tup as)) :=
  PEimp (pe_tup hs) fun σ H Q ⟨ca, mu, ρ, S, w, re, h⟩ => step w re h fun ds S1 vs ca1 mu1 H1 e1 w1 re1 i1 h1 => by
    split at h1
    · rename_i z
      exact ⟨by rw [i1.length, LN_eq]; exact z, newT w1 i1 h1⟩
    · exact h1.elim
theorem snd_lst (hs : PA X es (RdA X.K G W as)) : PE X (.List es pos) (RdE X.K G W (.lst as)) :=
  PEimp (pe_lst hs) fun σ H Q ⟨ca, mu, ρ, S, w, re, h⟩ => step w re h fun ds S1 vs ca1 mu1 H1 e1 w1 re1 i1 h1 => by
    split at h1
    · rename_i z
      exact ⟨by rw [i1.length, LN_eq]; exact z, newL w1 i1 h1⟩
    · exact h1.elim
/-- a new cell -/
theorem newCell {K : PySem.W.Frag} {ca mu : List Addr} {H : Hp} {S : Sto} {p : Addr} {o : HO} {b : Ob} (w : Wd K ca mu H S) (hp : H p = none) (hb : ∀ ca' mu' H', Ext ca mu H ca' mu' H' → p ∈ mu' → H' p = some o → ObR K ca' mu' H' p b) :
    Ext ca mu H (ca ++ [p]) (p :: mu) (upd H p o) ∧ Wd K (ca ++ [p]) (p :: mu) (upd H p o) (S ++ [b]) ∧ Is K (ca ++ [p]) (p :: mu) (upd H p o) (.ref p) (.cell S.length) := by
  have f := w.fresh hp
  have x : Ext ca mu H (ca ++ [p]) (p :: mu) (upd H p o) := ⟨⟨[p], rfl, fun a ha => by rw [List.mem_singleton.mp ha]; exact hp⟩, fun a ha => (List.mem_cons.mp ha).elim (fun e => .inr (by rw [e]; exact hp)) .inl,
    (Ext.new (ca := ca) (mu := mu) hp).kp, (Ext.new (ca := ca) (mu := mu) hp).tr, fun a h _ _ => List.mem_cons_of_mem _ h⟩
  refine ⟨x, ⟨by rw [List.length_append, List.length_append, w.len]; rfl, ?_, fun n a o' h1 h2 => ?_, fun a ha => ?_, fun a ha => ?_⟩, .cell ?_⟩
  · exact List.nodup_append.mpr ⟨w.nd, by simp, fun a ha b hb e => f.2 (by rw [List.mem_singleton.mp hb] at e; rw [← e]; exact ha)⟩
  · by_cases hn : n < ca.length
    · rw [List.getElem?_append_left hn] at h1
      rw [List.getElem?_append_left (by rw [← w.len]; exact hn)] at h2
      exact (w.ob n a o' h1 h2).ext x (fun h => List.mem_cons_of_mem _ h) fun h => upd_ne (fun e => f.1 (by subst e; exact h))
    · have e : n = ca.length := by
        have := (List.getElem?_eq_some_iff.mp h1).1
        rw [List.length_append] at this
        simp at this
        omega
      subst e
      rw [List.getElem?_append_right (Nat.le_refl _)] at h1
      rw [w.len, List.getElem?_append_right (Nat.le_refl _)] at h2
      simp at h1 h2
      subst h1 h2
      exact hb _ _ _ x (List.mem_cons_self ..) upd_same
  · rcases List.mem_cons.mp ha with e | ha
    · rw [e, upd_same]; simp
    · exact x.tr a (w.tm a ha)
  · rcases List.mem_append.mp ha with ha | ha
    · exact x.tr a (w.tc a ha)
    · rw [List.mem_singleton.mp ha, upd_same]; simp
  · rw [← w.len, List.getElem?_append_right (Nat.le_refl _)]
    simp
theorem snd_newl (hs : PA X es (RdA X.K G W as)) : PE X (.List es pos) (RdE X.K G W (.newc (.lst as))) :=
  PEimp (pe_lst hs) fun σ H Q ⟨ca, mu, ρ, S, w, re, h⟩ => by
    have h : okR X.K G.XA (IsR X.K) ca mu H ((evs G.cons G.call as ρ S).bind fun ds S => if ds.length ≤ LN then (Res.ok (D.cell S.length) (S ++ [Ob.lst ds])) else .no) Q (fun c d H' => W c d σ H') := by
      have e : ev G.cons G.call (.newc (.lst as)) ρ S = (evs G.cons G.call as ρ S).bind fun ds S => if ds.length ≤ LN then (Res.ok (D.cell S.length) (S ++ [Ob.lst ds])) else .no := by
        show ((evs G.cons G.call as ρ S).bind _).bind _ = _
        rw [bind_assoc]
        congr 1
        funext ds S
        split <;> rfl
      rw [← e]
      exact h
    refine step w re h fun ds S1 vs ca1 mu1 H1 e1 w1 re1 i1 h1 => ?_
    split at h1
    · rename_i z
      refine ⟨by rw [i1.length, LN_eq]; exact z, fun p hp => ?_⟩
      obtain ⟨x1, x2, x3⟩ := newCell (o := .lst vs) (b := .lst ds) w1 hp fun ca' mu' H' x m e => ⟨m, vs, e, i1.ex x⟩
      exact h1 _ _ _ _ x1 x2 x3
    · exact h1.elim
/-! ### calls -/
/-- what a def is held to: n arguments -/
def SpF (K : PySem.W.Frag) (G : En) (f n : Nat) : Sp := fun vs H Q E => vs.length = n ∧ ∃ ca mu ds S, Wd K ca mu H S ∧ IsL K ca mu H vs ds ∧ okR K G.XA (IsR K) ca mu H (G.call f ds S) Q E
variable {f n k : Nat} {x : Str} {p : Pos} {ad : Addr} {fd : FuncData} {ps : List Str}
theorem plain_back {e : Expr} {es : List Expr} (h : ∀ e ∈ es, notStar e = true) (pos : Pos) (env : PySem.Env) : (backTo pos (starEach es env)).any (·.1) = false := by
  induction es with
  | nil => rfl
  | cons e es ih =>
    rw [star_ne (h e List.mem_cons_self)]
    show (false || (backTo pos (starEach es env)).any (·.1)) = false
    rw [ih fun e' he => h e' (List.mem_cons_of_mem _ he)]
    rfl
theorem pe_callS' {CX : CXT} {sp : Sp} {E : L2.St → XK} {e : Expr} {es : List Expr} {t : TA} (F : FnOk X.prog X.w X.K X.mg X.base CX k ad fd ps sp) (hr : Room k X.A) (hg : Gl X x) (hm : X.mg x = some (.ref ad)) (hk : PySem.W.keepIn X.K (.ref ad) = true) (hb : Binds X.K fd ps []) (hx : ∀ σ, PassesAt CX X σ (E σ))
    (ha : PA X (e :: es) t) (hdb : (x == ("__debug__" : Str)) = false) (he : starEach (e :: es) X.env = (false, eval e X.env) :: starEach es X.env) (hpl : (backTo pos (starEach es X.env)).any (·.1) = false) :
    PE X (.Call (.Name x p) (e :: es) [] pos) (tCallS sp E t) := pe_callS F hr hg hm hk hb hx ha hdb he hpl
theorem snd_call (tk : Takes X W) (F : FnOk X.prog X.w X.K X.mg X.base (L2.CX X.prog X.w) k ad fd ps (SpF X.K G f n)) (hr : Room k X.A) (hg : Gl X x) (hm : X.mg x = some (.ref ad)) (hk : PySem.W.keepIn X.K (.ref ad) = true) (hb : Binds X.K fd ps [])
    (hdb : (x == ("__debug__" : Str)) = false) (hl : ∀ ρ S ds S', evs G.cons G.call as ρ S = .ok ds S' → ds.length = n) (hs : PA X (ea :: es) (RdA X.K G W as)) (hn : notStar ea = true) (hn2 : ∀ e ∈ es, notStar e = true) :
    PE X (.Call (.Name x p) (ea :: es) [] pos) (RdE X.K G W (.call f as)) :=
  PEimp (pe_callS' F hr hg hm hk hb (fun σ => passAt tk σ) hs hdb (star_ne hn es _) (plain_back (e := ea) hn2 _ _)) fun σ H Q ⟨ca, mu, ρ, S, w, re, h⟩ =>
    ⟨ca, mu, ρ, S, w, re, okR.bind h fun ds S1 vs ca1 mu1 H1 q e1 w1 i1 h1 => ⟨by rw [i1.length]; exact hl _ _ _ _ q, ca1, mu1, ds, S1, w1, i1, h1⟩⟩
theorem snd_call0 (F : FnOk X.prog X.w X.K X.mg X.base (L2.CX X.prog X.w) k ad fd ps (SpF X.K G f 0)) (hr : Room k X.A) (hg : Gl X x) (hm : X.mg x = some (.ref ad)) (hk : PySem.W.keepIn X.K (.ref ad) = true) (hb : Binds X.K fd ps [])
    (hdb : (x == ("__debug__" : Str)) = false) : PE X (.Call (.Name x p) [] [] pos) (RdE X.K G W (.call0 f)) :=
  PEimp (pe_call0 F hr hg hm hk hb .nil passL hdb) fun σ H Q ⟨ca, mu, ρ, S, w, re, h⟩ => by
    refine ⟨rfl, ca, mu, [], S, w, .nil, ?_⟩
    have h : okR X.K G.XA (IsR X.K) ca mu H (shut (G.call f [] S)) Q (fun c d H' => W c d σ H') := h
    cases q : G.call f [] S with
    | ok d S' => rw [q] at h; exact h
    | exc _ _ => rw [q] at h; exact h.elim
    | no => rw [q] at h; exact h.elim
theorem boot_bi : ∀ b : Bi, bootBuiltins (Str.ofString (biId b)) = some (biVal b) := by
  intro b
  cases b <;> decide +kernel
theorem bi_names : ∀ b : Bi, Str.ofString (biId b) ≠ ("__name__" : Str) ∧ ((Str.ofString (biId b)) == ("__debug__" : Str)) = false := by
  intro b
  cases b <;> decide +kernel
theorem snd_bi {b : Bi} (hc : X.calm = true) (hg : Gl X (Str.ofString (biId b))) (hm : X.mg (Str.ofString (biId b)) = none) (hs : PA X (ea :: es) (RdA X.K G W as)) (hn : notStar ea = true) (hn2 : ∀ e ∈ es, notStar e = true) :
    PE X (.Call (.Name (Str.ofString (biId b)) p) (ea :: es) [] pos) (RdE X.K G W (.bi b as)) := by
  have hv := boot_bi b
  have hcr := cr_bi hc b
  unfold biVal at hv hcr
  have fin : ∀ σ H Q, RdE X.K G W (.bi b as) σ H Q → tCB (rBi X.K b) (RdA X.K G W as) σ H Q := fun σ H Q ⟨ca, mu, ρ, S, w, re, h⟩ => step w re h fun ds S1 vs ca1 mu1 H1 e1 w1 re1 i1 h1 => bi_ok w1 i1 h1
  cases q : biTy b with
  | true =>
    rw [q] at hv hcr
    exact PEimp (pe_callTy hcr hg hm hv hs (bi_names b).1 (bi_names b).2 (star_ne hn es _) (plain_back (e := ea) hn2 _ _)) fin
  | false =>
    rw [q] at hv hcr
    exact PEimp (pe_callB hcr hg hm hv hs (bi_names b).1 (bi_names b).2 (star_ne hn es _) (plain_back (e := ea) hn2 _ _)) fin
theorem boot_ty : ∀ t : Ty, bootBuiltins (Str.ofString (tyName t)) = some (.type (tyName t)) := by
  intro b
  cases b <;> decide +kernel
theorem ty_names : ∀ t : Ty, Str.ofString (tyName t) ≠ ("__name__" : Str) ∧ ((Str.ofString (tyName t)) == ("__debug__" : Str)) = false := by
  intro b
  cases b <;> decide +kernel
theorem snd_isi {t : Ty} {p2 : Pos} (hg : Gl X "isinstance") (hm : X.mg "isinstance" = none) (hg2 : Gl X (Str.ofString (tyName t))) (hm2 : X.mg (Str.ofString (tyName t)) = none) (ha : PE X ea (RdE X.K G W a)) (hn : notStar ea = true) :
    PE X (.Call (.Name "isinstance" p) [ea, .Name (Str.ofString (tyName t)) p2] [] pos) (RdE X.K G W (.isi a t)) :=
  PEimp (pe_callB call_isi hg hm boot_isinstance (pa_cons ha (pa_cons (pe_bltn hg2 hm2 (boot_ty t) (v := .ty (tyName t)) rfl (ty_names t).1 (ty_names t).2) pa_nil) (star_ne hn _ _)) (by decide) (by decide) (star_ne hn _ _)) fun σ H Q ⟨ca, mu, ρ, S, w, re, h⟩ => step w re h fun d S1 v ca1 mu1 H1 e1 w1 re1 i1 h1 => by
    cases q : isTy t d with
    | none => rw [q] at h1; exact h1.elim
    | some b =>
      rw [q] at h1
      obtain ⟨T, g1, g2⟩ := isi_ok i1 q
      exact ⟨v, .ty (tyName t), T, _, b, rfl, .ty _, g1, g2, got w1 (.bl b) h1⟩
end
end KI


set_option Elab.async false
set_option linter.all false
set_option maxRecDepth 100000
set_option autoImplicit false
set_option maxHeartbeats 1000000
/-! Targets, walked things, comprehensions. -/
namespace KI
open PySem PySem.Spec PyProof.Rows L2

/-! ### targets -/
/-- the target gets d: its slots are set, nothing else -/
def RdG (K : PySem.W.Frag) (tg : Tg) : TG := fun v σ H Q => ∃ ca mu d ρ ρ', Is K ca mu H v d ∧ RE K ca mu H σ ρ ∧ bindT tg d ρ = some ρ' ∧ ∀ σ', RE K ca mu H σ' ρ' → (∀ vs, (∀ i ∈ slotsT tg, i ∈ vs) → wipe σ' vs = wipe σ vs) → Q σ' H
def RdGs (K : PySem.W.Frag) (ts : Tgs) : TGs := fun us σ H Q => ∃ ca mu ds ρ ρ', IsL K ca mu H us ds ∧ RE K ca mu H σ ρ ∧ bindTs ts ds ρ = some ρ' ∧ ∀ σ', RE K ca mu H σ' ρ' → (∀ vs, (∀ i ∈ slotsTs ts, i ∈ vs) → wipe σ' vs = wipe σ vs) → Q σ' H
theorem wipe_set {σ : L2.St} {i : Nat} {o : Option V} : ∀ {vs : List Nat}, i ∈ vs → wipe (σ.set i o) vs = wipe σ vs
  | v :: vs, h => by
    unfold wipe
    by_cases hi : i ∈ vs
    · rw [wipe_set hi]
    · have e : i = v := (List.mem_cons.mp h).resolve_right hi
      subst e
      have q : ∀ us : List Nat, i ∉ us → wipe (σ.set i o) us = (wipe σ us).set i o := by
        intro us
        induction us with
        | nil => intro _; rfl
        | cons u us ih =>
          intro hu
          unfold wipe
          rw [ih fun z => hu (List.mem_cons_of_mem _ z)]
          exact List.set_comm _ _ (fun e => hu (by rw [e]; exact List.mem_cons_self))
      rw [q vs hi, List.set_set]
section
variable {X : Cx} {G : En} {W : WX} {pos : Pos}
theorem sndG_nm {i : Nat} {x : Str} (hN : X.N.Nodup) (hi : X.N[i]? = some x) (hx : Loc X.env.scope x) (hf : X.fn x = true ∨ X.env.scope.names.lookup x = some .local) : PG X (.Name x pos) (RdG X.K (.nm i)) :=
  PGimp (pg_name hN hi hx hf) fun v σ H Q ⟨ca, mu, d, ρ, ρ', i1, re, e, k⟩ => by
    cases e
    exact k _ (re.set i i1) fun vs h => wipe_set (h i (by simp [slotsT]))
theorem sndG_nil : PGs X [] (RdGs X.K .nil) :=
  PGsimp pgs_nil fun us σ H Q ⟨ca, mu, ds, ρ, ρ', i1, re, e, k⟩ => by
    cases ds with
    | nil =>
      cases i1
      cases e
      exact ⟨rfl, k _ re fun _ _ => rfl⟩
    | cons _ _ => cases e
theorem assign_ne {e : Expr} (h : notStar e = true) (es : List Expr) (env : PySem.Env) : assignEach (e :: es) env = (false, assign e env) :: assignEach es env := by
  cases e <;> first | rfl | cases h
theorem sndG_cons {e : Expr} {es : List Expr} {t : Tg} {ts : Tgs} (h1 : PG X e (RdG X.K t)) (h2 : PGs X es (RdGs X.K ts)) (hn : notStar e = true) : PGs X (e :: es) (RdGs X.K (.cons t ts)) :=
  PGsimp (pgs_cons h1 h2 (by rw [assign_ne hn]; rfl)) fun us σ H Q ⟨ca, mu, ds, ρ, ρ', i1, re, e, k⟩ => by
    cases i1 with
    | nil => cases e
    | @cons v vs d ds i1 i2 =>
      have e : (match bindT t d ρ with
        | some ρ' => bindTs ts ds ρ'
        | none => none) = some ρ' := e
      cases q : bindT t d ρ with
      | none => rw [q] at e; cases e
      | some ρ1 =>
        rw [q] at e
        refine ⟨v, vs, rfl, ca, mu, d, ρ, ρ1, i1, re, q, fun σ1 re1 w1 => ⟨ca, mu, ds, ρ1, ρ', i2, re1, e, fun σ2 re2 w2 => k σ2 re2 fun us h => ?_⟩⟩
        rw [w2 us fun i hi => h i (by simp [slotsTs, hi]), w1 us fun i hi => h i (by simp [slotsTs, hi])]
theorem noStar_find {es : List Expr} (h : ∀ e ∈ es, notStar e = true) (env : PySem.Env) : (assignEach es env).findIdx? (·.1) = none ∧ (assignEach es env).length = es.length := by
  induction es with
  | nil => exact ⟨rfl, rfl⟩
  | cons e es ih =>
    obtain ⟨h1, h2⟩ := ih fun e' he => h e' (List.mem_cons_of_mem _ he)
    rw [assign_ne (h e List.mem_cons_self)]
    exact ⟨by rw [List.findIdx?_cons, h1]; rfl, by rw [List.length_cons, List.length_cons, h2]⟩
/-- how many targets -/
def lenTs : Tgs → Nat
  | .nil => 0
  | .cons _ ts => lenTs ts + 1
theorem bindTs_length : ∀ {ts : Tgs} {ds : List D} {ρ ρ' : Env}, bindTs ts ds ρ = some ρ' → ds.length = lenTs ts
  | .nil, [], _, _, _ => rfl
  | .nil, _ :: _, _, _, e => by cases e
  | .cons t ts, [], _, _, e => by cases e
  | .cons t ts, d :: ds, ρ, ρ', e => by
    have e : (match bindT t d ρ with
      | some ρ' => bindTs ts ds ρ'
      | none => none) = some ρ' := e
    cases q : bindT t d ρ with
    | none => rw [q] at e; cases e
    | some ρ1 => rw [q] at e; rw [List.length_cons, bindTs_length e]; rfl
theorem sndG_tp {es : List Expr} {k : Nat} {ts : Tgs} (hc : X.calm = true) (h : PGs X es (RdGs X.K ts)) (hn : ∀ e ∈ es, notStar e = true) (hl : es.length = lenTs ts) : PG X (.Tuple es k pos) (RdG X.K (.tp ts)) :=
  PGimp (PGor (pg_tup hc h (noStar_find hn _).2 (noStar_find hn _).1) (pg_lst hc h (noStar_find hn _).2 (noStar_find hn _).1)) fun v σ H Q ⟨ca, mu, d, ρ, ρ', i1, re, e, kk⟩ => by
    cases i1 with
    | @tup a vs ds g1 g2 => exact .inl ⟨a, vs, rfl, g1.sq, by rw [g2.length, hl]; exact bindTs_length (ts := ts) e, ca, mu, ds, ρ, ρ', g2, re, e, kk⟩
    | @lst a vs ds g1 g2 g3 => exact .inr ⟨a, vs, rfl, SqL.of g1, by rw [g3.length, hl]; exact bindTs_length (ts := ts) e, ca, mu, ds, ρ, ρ', g3, re, e, kk⟩
    | _ => cases e
end
/-! ### what is walked -/
section
variable {K : PySem.W.Frag} {ca mu : List Addr} {H : Hp} {S : Sto}
theorem walkD_tup {a : Addr} {vs : List V} {ds : List D} (h1 : SqTm K mu H a vs) (h2 : IsL K ca mu H vs ds) : WalkD K (Itt K a) ca mu H ds := by
  have hl := h2.length
  refine ⟨fun i ca' mu' H' hi x => ⟨vs, vs[i]'(by omega), (h1.ext x).sq, by simp [show i < vs.length by omega]⟩, fun ca' mu' H' x => ⟨vs, (h1.ext x).sq, by omega⟩, fun i v ca' mu' H' H2 S' hi x w y => ?_⟩
  obtain ⟨e, y⟩ := y
  subst e
  obtain ⟨d, q1, q2⟩ := (h2.ex x).get' (y vs (h1.ext x).sq)
  exact ⟨d, q1, Ext.refl, w, q2⟩
theorem walkD_lst {a : Addr} {vs : List V} {ds : List D} (h1 : H a = some (.lst vs)) (hm : a ∉ mu) (h2 : IsL K ca mu H vs ds) : WalkD K (Itl K a) ca mu H ds := by
  have hl := h2.length
  refine ⟨fun i ca' mu' H' hi x => ⟨vs, vs[i]'(by omega), SqL.of (x.out h1 hm).1, by simp [show i < vs.length by omega]⟩, fun ca' mu' H' x => ⟨vs, SqL.of (x.out h1 hm).1, by omega⟩, fun i v ca' mu' H' H2 S' hi x w y => ?_⟩
  obtain ⟨e, y⟩ := y
  subst e
  obtain ⟨d, q1, q2⟩ := (h2.ex x).get' (y vs (SqL.of (x.out h1 hm).1))
  exact ⟨d, q1, Ext.refl, w, q2⟩
theorem rngL_get (n : Nat) : ∀ (lo : Int) (i : Nat), i < n → (rngL lo n)[i]? = some (.int (lo + i)) := by
  induction n with
  | zero => intro _ i h; omega
  | succ n ih =>
    intro lo i h
    cases i with
    | zero => simp [rngL]
    | succ i =>
      show (rngL (lo + 1) n)[i]? = _
      rw [ih (lo + 1) i (by omega)]
      congr 2
      omega
theorem rngL_length (n : Nat) : ∀ lo : Int, (rngL lo n).length = n := by
  induction n with
  | zero => intro _; rfl
  | succ n ih => intro lo; show (rngL (lo + 1) n).length + 1 = _; rw [ih]
theorem walkD_rng {lo : Int} {n : Nat} : WalkD K (Itr lo n) ca mu H (rngL lo n) := by
  refine ⟨fun i ca' mu' H' hi x => by rw [rngL_length] at hi; exact hi, fun ca' mu' H' x => by rw [rngL_length]; exact Nat.le_refl _, fun i v ca' mu' H' H2 S' hi x w y => ?_⟩
  rw [rngL_length] at hi
  obtain ⟨e, y⟩ := y
  subst e y
  exact ⟨_, rngL_get n lo i hi, Ext.refl, w, .int _⟩
end
section
variable {X : Cx} {G : En} {W : WX} {a b : Ex} {ea eb tg : Expr} {pos p : Pos}
theorem sndI_val (ha : PE X ea (RdE X.K G W a)) : PI X tg ea (RdI X.K G W (.val a)) :=
  PIimp (PIor (pi_tup ha) (pi_list ha)) fun σ H R ⟨ca, mu, ρ, S, w, re, h⟩ => by
    have h : okR X.K G.XA (WalkR X.K) ca mu H ((ev G.cons G.call a ρ S).bind fun d S => lift (items d) S) R (fun c d H' => W c d σ H') := h
    by_cases q : ∃ ds S1, ev G.cons G.call a ρ S = .ok (.lst ds) S1
    · right
      obtain ⟨ds, S1, q⟩ := q
      refine ⟨ca, mu, ρ, S, w, re, okR.bind h fun d S1' v ca1 mu1 H1 e e1 w1 i1 h1 => ?_⟩
      rw [q] at e
      cases e
      cases i1 with
      | @lst p vs _ g1 g2 g3 => exact ⟨p, rfl, ⟨vs, SqL.of g1⟩, h1 _ ca1 mu1 H1 Ext.refl w1 (walkD_lst g1 g2 g3)⟩
    · left
      refine ⟨ca, mu, ρ, S, w, re, okR.bind h fun d S1' v ca1 mu1 H1 e e1 w1 i1 h1 => ?_⟩
      cases i1 with
      | @lst p vs _ g1 g2 g3 => exact absurd ⟨_, _, e⟩ q
      | @tup p vs _ g1 g2 => exact ⟨p, rfl, ⟨vs, g1.sq⟩, h1 _ ca1 mu1 H1 Ext.refl w1 (walkD_tup g1 g2)⟩
      | _ => exact h1.elim
theorem sndI_rng1 (hg : Gl X "range") (hm : X.mg "range" = none) (ha : PE X ea (RdE X.K G W a)) (hn : notStar ea = true) : PI X tg (.Call (.Name "range" p) [ea] [] pos) (RdI X.K G W (.rng1 a)) :=
  PIimp (pi_range1 hg hm (pa_cons ha pa_nil (star_ne hn _ _)) (star_ne hn _ _)) fun σ H R ⟨ca, mu, ρ, S, w, re, h⟩ => by
    refine step w re h fun d S1 v ca1 mu1 H1 e1 w1 re1 i1 h1 => ?_
    cases i1 with
    | int j =>
      have h1 : okR X.K G.XA (WalkR X.K) ca1 mu1 H1 (if rngOk j then .ok (rngL 0 j.toNat) S1 else .no) R (fun c d H' => W c d σ H') := h1
      split at h1
      · rename_i z
        have z' : -(2 ^ 62) ≤ j ∧ j < 2 ^ 62 := of_decide_eq_true z
        exact ⟨j, rfl, z'.1, z'.2, h1 _ ca1 mu1 H1 Ext.refl w1 walkD_rng⟩
      · exact h1.elim
    | _ => exact h1.elim
theorem sndI_rng2 (hg : Gl X "range") (hm : X.mg "range" = none) (ha : PE X ea (RdE X.K G W a)) (hb : PE X eb (RdE X.K G W b)) (hn : notStar ea = true) (hn2 : notStar eb = true) : PI X tg (.Call (.Name "range" p) [ea, eb] [] pos) (RdI X.K G W (.rng2 a b)) :=
  PIimp (pi_range2 hg hm (pa_cons ha (pa_cons hb pa_nil (star_ne hn2 _ _)) (star_ne hn _ _)) (by rw [star_ne hn, star_ne hn2]; rfl) (by rw [star_ne hn2]; rfl)) fun σ H R ⟨ca, mu, ρ, S, w, re, h⟩ => by
    refine step w re h fun d S1 v ca1 mu1 H1 e1 w1 re1 i1 h1 => step w1 re1 h1 fun d2 S2 v2 ca2 mu2 H2 e2 w2 re2 i2 h2 => ?_
    cases i1 with
    | int i =>
      cases i2 with
      | int j =>
        have h2 : okR X.K G.XA (WalkR X.K) ca2 mu2 H2 (if rngOk i && rngOk j then .ok (rngL i (j - i).toNat) S2 else .no) R (fun c d H' => W c d σ H') := h2
        split at h2
        · rename_i z
          obtain ⟨z1, z2⟩ := Bool.and_eq_true_iff.mp z
          have z1' : -(2 ^ 62) ≤ i ∧ i < 2 ^ 62 := of_decide_eq_true z1
          have z2' : -(2 ^ 62) ≤ j ∧ j < 2 ^ 62 := of_decide_eq_true z2
          exact ⟨i, j, rfl, ⟨z1'.1, z1'.2, z2'.1, z2'.2⟩, h2 _ ca2 mu2 H2 Ext.refl w2 walkD_rng⟩
        · exact h2.elim
      | _ => exact h2.elim
    | _ => exact h2.elim
end
/-! ### comprehensions -/
/-- a turn, its target set -/
def lcBody (G : En) (c : Oe) (e : Ex) (ρ' : Env) (S : Sto) : Res (Option D) := (evc G.cons G.call c ρ' S).bind fun b S => bif b then (ev G.cons G.call e ρ' S).bind fun d S => .ok (some d) S else .ok none S
/-- one turn -/
def lcTurn (G : En) (own : List Nat) (tg : Tg) (c : Oe) (e : Ex) (ρ : Env) : D → Sto → Res (Option D) := fun x S => match bindT tg x (wipeE ρ own) with
  | some ρ' => lcBody G c e ρ' S
  | none => .no
theorem ev_lc (G : En) (own : List Nat) (tg : Tg) (it : It) (c : Oe) (e : Ex) (ρ : Env) (S : Sto) : ev G.cons G.call (.lc own tg it c e) ρ S = (evi G.cons G.call it ρ S).bind fun xs S => (evLc (lcTurn G own tg c e ρ) xs [] S).bind fun ds S => .ok (.lst ds) S := by
  rfl
/-- the wish of a block: nothing is raised -/
abbrev W0 : WX := fun _ _ _ _ => False
/-- what a turn does, seen from what is wanted of it -/
def tTurn (K : PySem.W.Frag) (G : En) (c : Oe) (e : Ex) (yes : VK) (no : Hp → Prop) : L2.St → Hp → Prop := fun σ H => match c with
  | .none => RdE K G W0 e σ H yes
  | .some c => RdT K G W0 c σ H fun b H' => if b = true then RdE K G W0 e σ H' yes else no H'
section
variable {K : PySem.W.Frag} {G : En} {ca mu : List Addr} {H : Hp} {S : Sto}
/-- a turn that comes through -/
theorem turn_ok {c : Oe} {e : Ex} {σ : L2.St} {ρ : Env} {yes : VK} {no : Hp → Prop} {r : Option D} {S' : Sto} (w : Wd K ca mu H S) (re : RE K ca mu H σ ρ)
    (h : lcBody G c e ρ S = .ok r S')
    (hy : ∀ d, r = some d → ∀ v ca' mu' H', Ext ca mu H ca' mu' H' → Wd K ca' mu' H' S' → Is K ca' mu' H' v d → yes v H')
    (hn : r = none → ∀ ca' mu' H', Ext ca mu H ca' mu' H' → Wd K ca' mu' H' S' → no H') : tTurn K G c e yes no σ H := by
  have elt : ∀ {ca1 mu1 H1 S1}, Ext ca mu H ca1 mu1 H1 → Wd K ca1 mu1 H1 S1 → ((ev G.cons G.call e ρ S1).bind fun d S => Res.ok (some d) S) = .ok r S' → RdE K G W0 e σ H1 yes := fun {ca1 mu1 H1 S1} x1 w1 q => by
    refine ⟨ca1, mu1, ρ, S1, w1, re.ext x1, ?_⟩
    cases qe : ev G.cons G.call e ρ S1 with
    | ok d S2 =>
      rw [qe] at q
      cases q
      exact fun v ca2 mu2 H2 x2 w2 i2 => hy d rfl v ca2 mu2 H2 (x1.trans x2) w2 i2
    | exc _ _ => rw [qe] at q; cases q
    | no => rw [qe] at q; cases q
  cases c with
  | none => exact elt Ext.refl w h
  | some c =>
    have h : (((ev G.cons G.call c ρ S).bind fun d S => match d with
        | .bl b => Res.ok b S
        | _ => .no).bind fun b S => bif b then (ev G.cons G.call e ρ S).bind fun d S => .ok (some d) S else .ok none S) = .ok r S' := h
    refine ⟨ca, mu, ρ, S, w, re, ?_⟩
    cases qc : ev G.cons G.call c ρ S with
    | no => rw [qc] at h; cases h
    | exc _ _ => rw [qc] at h; cases h
    | ok b S1 =>
      rw [qc] at h
      intro v ca1 mu1 H1 x1 w1 i1
      cases i1 with
      | bl k =>
        refine ⟨k, rfl, ?_⟩
        cases k with
        | true => exact iteT (elt x1 w1 h)
        | false =>
          cases h
          exact iteF (hn rfl ca1 mu1 H1 x1 w1)
      | _ => cases h
end
section
variable {X : Cx} {G : En} {W : WX}
/-- the tests of a clause, as a Oe has them -/
def ttOf (K : PySem.W.Frag) (G : En) : Oe → TT
  | .none => tYes
  | .some c => RdT K G W0 c
/-- what a comprehension computes is what its text asks -/
theorem lc_read {K : PySem.W.Frag} {it : It} {tg : Tg} {c : Oe} {e : Ex} {ow : List Nat} (hsl : ∀ i ∈ slotsT tg, i ∈ ow) {σ : L2.St} {H : Hp} {Q : VK} (h : RdE K G W (.lc ow tg it c e) σ H Q) : tLc (RdI K G W it) (RdG K tg) (ttOf K G c) (RdE K G W0 e) ow σ H Q := by
    obtain ⟨ca, mu, ρ, S, w, re, h⟩ := h
    rw [ev_lc] at h
    refine step w re h fun xs S1 J ca1 mu1 H1 e1 w1 re1 wk h1 => ?_
    intro D hD
    -- the list under way stands at D
    have f1 := w1.fresh hD
    obtain ⟨r0, hr0⟩ : ∃ r0, r0 = evLc (lcTurn G ow tg c e ρ) xs [] S1 := ⟨_, rfl⟩
    rw [← hr0] at h1
    have nono : r0 ≠ .no := fun z => by rw [z] at h1; exact h1
    obtain ⟨Wt, hWt⟩ : ∃ Wt : Nat → Hp → Prop, ∀ i H, Wt i H ↔ ∃ ca2 mu2 S2 acc accV, Ext ca1 mu1 H1 ca2 mu2 H ∧ D ∈ mu2 ∧ D ∉ ca2 ∧ Wd K ca2 mu2 H S2 ∧ H D = some (.lst accV) ∧ IsL K ca2 mu2 H accV acc ∧ evLc (lcTurn G ow tg c e ρ) (xs.drop i) acc S2 = r0 := ⟨_, fun _ _ => Iff.rfl⟩
    refine ⟨fun i m H => m = xs.length - i ∧ i ≤ xs.length ∧ Wt i H, ⟨xs.length, by simp, Nat.zero_le _, (hWt _ _).mpr ⟨ca1, D :: mu1, S1, [], [], ?_, List.mem_cons_self, f1.2, ?_, upd_same, .nil, by rw [List.drop_zero]; exact hr0.symm⟩⟩, ?_⟩
    · exact ⟨⟨[], by simp, fun _ z => nomatch z⟩, fun a ha => (List.mem_cons.mp ha).elim (fun e => .inr (by rw [e]; exact hD)) .inl, (Ext.new (ca := ca1) (mu := mu1) hD).kp, (Ext.new (ca := ca1) (mu := mu1) hD).tr, fun a h _ _ => List.mem_cons_of_mem _ h⟩
    · have xD : Ext ca1 mu1 H1 ca1 (D :: mu1) (upd H1 D (.lst [])) := ⟨⟨[], by simp, fun _ z => nomatch z⟩, fun a ha => (List.mem_cons.mp ha).elim (fun e => .inr (by rw [e]; exact hD)) .inl, (Ext.new (ca := ca1) (mu := mu1) hD).kp, (Ext.new (ca := ca1) (mu := mu1) hD).tr, fun a h _ _ => List.mem_cons_of_mem _ h⟩
      refine ⟨w1.len, w1.nd, fun n a o q1 q2 => (w1.ob n a o q1 q2).ext xD (fun z => List.mem_cons_of_mem _ z) fun z => upd_ne fun e => f1.1 (by subst e; exact z), fun a ha => ?_, fun a ha => xD.tr a (w1.tc a ha)⟩
      rcases List.mem_cons.mp ha with e | ha
      · rw [e, upd_same]; simp
      · exact xD.tr a (w1.tm a ha)
    rintro i m H2 ⟨rfl, hi2, hw2⟩
    obtain ⟨ca2, mu2, S2, acc, accV, x2, m2, n2, w2, d2, a2, q2⟩ := (hWt _ _).mp hw2
    by_cases hlt : i < xs.length
    · right
      refine ⟨wk.goes i ca2 mu2 H2 hlt x2, Wt (i + 1), fun H' p' => ⟨xs.length - (i + 1), by omega, rfl, hlt, p'⟩, fun v H3 y => ?_⟩
      obtain ⟨d, qd, x3, w3, i3⟩ := wk.yields i v ca2 mu2 H2 H3 S2 hlt x2 w2 y
      have hdrop : xs.drop i = d :: xs.drop (i + 1) := by
        rw [List.drop_eq_getElem_cons hlt]
        congr 1
        have := List.getElem?_eq_getElem hlt
        rw [this] at qd
        exact Option.some.inj qd
      rw [hdrop] at q2
      have q2 : (match lcTurn G ow tg c e ρ d S2 with
        | .ok (some d) S' => if acc.length < LN then evLc (lcTurn G ow tg c e ρ) (xs.drop (i + 1)) (acc ++ [d]) S' else .no
        | .ok none S' => evLc (lcTurn G ow tg c e ρ) (xs.drop (i + 1)) acc S'
        | _ => .no) = r0 := q2
      have re3 : RE K ca2 mu2 H3 (wipe σ ow) (wipeE ρ ow) := ((re1.ext x2).ext x3).wipe ow
      have D3 : H3 D = some (.lst accV) := x3.kp D _ d2 fun z => n2 z.1
      -- D behind a further piece
      have more : ∀ {ca4 mu4 H4}, Ext ca2 mu2 H3 ca4 mu4 H4 → H4 D = some (.lst accV) ∧ D ∈ mu4 ∧ D ∉ ca4 ∧ Ext ca1 mu1 H1 ca4 mu4 H4 ∧ IsL K ca4 mu4 H4 accV acc := fun {ca4 mu4 H4} x4 => by
        refine ⟨x4.kp D _ D3 fun z => n2 z.1, x4.fb D m2 n2 (by rw [D3]; simp), fun z => ?_, x2.trans (x3.trans x4), (a2.ex x3).ex x4⟩
        obtain ⟨nw, e5, f5⟩ := x4.pre
        rw [e5] at z
        rcases List.mem_append.mp z with z | z
        · exact n2 z
        · rw [f5 D z] at D3; cases D3
      cases qb : bindT tg d (wipeE ρ ow) with
      | none =>
        exfalso
        have : lcTurn G ow tg c e ρ d S2 = .no := by unfold lcTurn; rw [qb]
        rw [this] at q2
        exact nono q2.symm
      | some ρ3 =>
        have qt : lcTurn G ow tg c e ρ d S2 = lcBody G c e ρ3 S2 := by unfold lcTurn; rw [qb]
        refine ⟨ca2, mu2, d, wipeE ρ ow, ρ3, i3, re3, qb, fun σ4 re4 hw4 => ⟨?_, ?_⟩⟩
        · rw [hw4 ow hsl]
          have ww : ∀ us : List Nat, (∀ u ∈ us, u ∈ ow) → wipe (wipe σ ow) us = wipe σ ow := by
            intro us
            induction us with
            | nil => intro _; rfl
            | cons u us ih =>
              intro hu
              show (wipe (wipe σ ow) us).set u none = _
              rw [ih fun z hz => hu z (List.mem_cons_of_mem _ hz)]
              refine List.ext_getElem? fun j => ?_
              by_cases hj : u = j
              · subst hj
                by_cases hlen : u < (wipe σ ow).length
                · rw [List.getElem?_set_self hlen]
                  cases qq : (wipe σ ow)[u]? with
                  | none => rw [List.getElem?_eq_none_iff] at qq; omega
                  | some o =>
                    cases o with
                    | none => rfl
                    | some z => exact absurd (hu u List.mem_cons_self) (wipe_some qq).2
                · rw [List.getElem?_eq_none (by simpa using hlen), List.getElem?_eq_none (by omega)]
              · rw [List.getElem?_set_ne hj]
          exact ww ow fun _ h => h
        · cases qr : lcTurn G ow tg c e ρ d S2 with
          | no => rw [qr] at q2; exact absurd q2.symm nono
          | exc _ _ => rw [qr] at q2; exact absurd q2.symm nono
          | ok r S4 =>
            rw [qr] at q2
            have T := turn_ok (G := G) (c := c) (e := e) (yes := fun y H4 => ∃ acc, H4 D = some (.lst acc) ∧ acc.length < sizeLine ∧ Wt (i + 1) (upd H4 D (.lst (acc ++ [y])))) (no := Wt (i + 1)) w3 re4 (qt.symm.trans qr) (fun d4 e4 v4 ca4 mu4 H4 x4 w4 i4 => ?_) (fun e4 ca4 mu4 H4 x4 w4 => ?_)
            · cases c with
              | none => exact T
              | some c => exact T
            · -- one item more
              subst e4
              have q2 : (if acc.length < LN then evLc (lcTurn G ow tg c e ρ) (xs.drop (i + 1)) (acc ++ [d4]) S4 else .no) = r0 := q2
              by_cases hz : acc.length < LN
              · rw [if_pos hz] at q2
                obtain ⟨z1, z2, z3, z4, z5⟩ := more x4
                exact ⟨accV, z1, by rw [LN_eq, z5.length]; exact hz, (hWt _ _).mpr ⟨ca4, mu4, S4, acc ++ [d4], accV ++ [v4], z4.updOut hD, z2, z3, w4.updOut z2 z3, upd_same, IsL.updOut z2 _ (z5.append (.cons i4 .nil)), q2⟩⟩
              · rw [if_neg hz] at q2
                exact absurd q2.symm nono
            · subst e4
              obtain ⟨z1, z2, z3, z4, z5⟩ := more x4
              exact (hWt _ _).mpr ⟨ca4, mu4, S4, acc, accV, z4, z2, z3, w4, z1, z5, q2⟩
    · left
      have e : i = xs.length := by omega
      subst e
      refine ⟨wk.stops ca2 mu2 H2 x2, ?_⟩
      rw [List.drop_length] at q2
      have q2 : Res.ok acc S2 = r0 := q2
      rw [← q2] at h1
      exact h1 _ ca2 _ H2 (x2.drop hD) (w2.drop n2) (.lst d2 (by simp) (IsL.mono (fun a h => (List.mem_filter.mp h).1) _ a2))
theorem snd_lc {elt tgx iter : Expr} {ifs : List Expr} {scope : Scope} {own : List (Str × Nat)} {ow : List Nat} {pos : Pos} {it : It} {tg : Tg} {c : Oe} {e : Ex} (hc : X.calm = true) (hN : X.N.Nodup) (hi : PI X tgx iter (RdI X.K G W it)) (ok : BlkOk X.N X.env.scope scope own) (ho : own.map (·.2) = ow) (hsl : ∀ i ∈ slotsT tg, i ∈ ow)
    (hg : ∀ (s : Shared) (H : Hp) (C : Addr) (cl : List (Str × Addr)) (fp : List Addr), PG (X.blk s H scope (compEnvC scope cl C X.env) fp) tgx (RdG X.K tg))
    (ht : ∀ (s : Shared) (H : Hp) (C : Addr) (cl : List (Str × Addr)) (fp : List Addr), PTs (X.blk s H scope (compEnvC scope cl C X.env) fp) ifs (ttOf X.K G c))
    (he : ∀ (s : Shared) (H : Hp) (C : Addr) (cl : List (Str × Addr)) (fp : List Addr), PE (X.blk s H scope (compEnvC scope cl C X.env) fp) elt (RdE X.K G W0 e)) (hs : ∀ x, foldedSetIterable iter X.env x = pure x) :
    PE X (.ListComp elt [⟨tgx, iter, ifs, 0⟩] scope pos) (RdE X.K G W (.lc ow tg it c e)) :=
  PEimp (pe_lc hc hN hi ok hg ht he hs) fun σ H Q h => by rw [ho]; exact lc_read hsl h
end
end KI


set_option Elab.async false
set_option linter.all false
set_option maxRecDepth 100000
set_option autoImplicit false
set_option maxHeartbeats 2000000
/-! The checker: the code is the text's; then the text's expression has the code's reading. -/
namespace KI
open PySem PySem.Spec PyProof.Rows L2

/-- where an expression stands: the def's names by slot, the scope, the scope whose cells are its own -/
structure Cc where
  N : List Str
  sc : Scope
  ss : Scope
/-- the names of defs (with how many parameters) and constants -/
structure Tb where
  fn : Nat → Option (Str × Nat)
  cn : Nat → Option Str
  bl : Str → Bool
def visB (sc : Scope) (x : Str) : Bool := match sc.names.lookup x with
  | some .local | some .cell | some .free => true
  | _ => false
def glB (sc : Scope) (x : Str) : Bool := match sc.names.lookup x with
  | some .globalImplicit => true
  | _ => false
def locB (sc ss : Scope) (x : Str) : Bool := match sc.names.lookup x with
  | some .local => true
  | some .cell => (match ss.names.lookup x with
    | some .cell => true
    | _ => false)
  | _ => false
def nmOk (x : Str) : Bool := !(x == ("__debug__" : Str)) && !(x == ("__classdict__" : Str))
def ixB : Expr → Bool
  | .Slice _ _ _ _ => false
  | _ => true
def markB : Expr → Bool
  | .Set _ _ _ => false
  | _ => true
def opB : Operator → Operator → Bool
  | .Add, .Add | .Sub, .Sub | .Mult, .Mult | .FloorDiv, .FloorDiv | .Mod, .Mod | .Pow, .Pow => true
  | _, _ => false
theorem opB_ok {a b : Operator} (h : opB a b = true) : a = b := by
  cases a <;> cases b <;> first | rfl | cases h
def cpB (a b : CmpOp) : Bool := decide (a = b)
def lenEs : Exs → Nat
  | .nil => 0
  | .cons _ es => lenEs es + 1
mutual
def chkG (C : Cc) : Tg → Expr → Bool
  | .nm i, x => (match x with
    | .Name y _ => decide (C.N[i]? = some y) && locB C.sc C.ss y
    | _ => false)
  | .tp ts, x => (match x with
    | .Tuple ys _ _ => chkGs C ts ys
    | _ => false)
def chkGs (C : Cc) : Tgs → List Expr → Bool
  | .nil, xs => (match xs with
    | [] => true
    | _ => false)
  | .cons t ts, xs => (match xs with
    | x :: xs => chkG C t x && notStar x && chkGs C ts xs
    | _ => false)
end
mutual
def chkE (T : Tb) (C : Cc) : Ex → Expr → Bool
  | .var i, x => (match x with
    | .Name y _ => decide (C.N[i]? = some y) && visB C.sc y && nmOk y
    | _ => false)
  | .con c, x => (match x with
    | .Name y _ => decide (T.cn c = some y) && glB C.sc y && nmOk y
    | _ => false)
  | .int i, x => (match x with
    | .Constant (.int j) _ _ => decide (j = i)
    | _ => false)
  | .bl i, x => (match x with
    | .Constant (.bool j) _ _ => decide (j = i)
    | _ => false)
  | .non, x => (match x with
    | .Constant .none _ _ => true
    | _ => false)
  | .str i, x => (match x with
    | .Constant (.str j) _ _ => decide (j = i)
    | _ => false)
  | .tup es, x => (match x with
    | .Tuple ys _ _ => chkEs T C es ys
    | _ => false)
  | .lst es, x => (match x with
    | .List ys _ => chkEs T C es ys
    | _ => false)
  | .dct _ _, _ => false
  | .newc e, x => (match e with
    | .lst es => (match x with
      | .List ys _ => chkEs T C es ys
      | _ => false)
    | _ => false)
  | .bin o a b, x => (match x with
    | .BinOp y p z _ => opB p (opOf o) && chkE T C a y && chkE T C b z
    | _ => false)
  | .neg a, x => (match x with
    | .UnaryOp .USub y _ => chkE T C a y
    | _ => false)
  | .cmp o a b, x => (match x with
    | .Compare y [p] [z] _ => cpB p (copOf o) && chkE T C a y && chkE T C b z && markB z
    | _ => false)
  | .chn o p a b c, x => (match x with
    | .Compare y [o', p'] [z, u] _ => cpB o' (copOf o) && cpB p' (copOf p) && chkE T C a y && chkE T C b z && chkE T C c u && markB u
    | _ => false)
  | .and a b, x => (match x with
    | .BoolOp .And (y :: z :: r) pos => chkE T C a y && (match r with
      | [] => chkE T C b z
      | _ :: _ => chkE T C b (.BoolOp .And (z :: r) pos))
    | _ => false)
  | .or a b, x => (match x with
    | .BoolOp .Or (y :: z :: r) pos => chkE T C a y && (match r with
      | [] => chkE T C b z
      | _ :: _ => chkE T C b (.BoolOp .Or (z :: r) pos))
    | _ => false)
  | .not a, x => (match x with
    | .UnaryOp .Not y _ => chkE T C a y
    | _ => false)
  | .ite c a b, x => (match x with
    | .IfExp u y z _ => chkE T C c u && chkE T C a y && chkE T C b z
    | _ => false)
  | .idx a i, x => (match x with
    | .Subscript y z _ => chkE T C a y && chkE T C i z && ixB z
    | _ => false)
  | .sli a lo hi, x => (match x with
    | .Subscript y (.Slice l u .none _) _ => chkE T C a y && chkO T C lo l && chkO T C hi u
    | _ => false)
  | .call f es, x => (match x with
    | .Call (.Name y _) (z :: zs) [] _ => decide (T.fn f = some (y, lenEs es)) && glB C.sc y && nmOk y && chkEs T C es (z :: zs)
    | _ => false)
  | .call0 f, x => (match x with
    | .Call (.Name y _) [] [] _ => decide (T.fn f = some (y, 0)) && glB C.sc y && nmOk y
    | _ => false)
  | .bi b es, x => (match x with
    | .Call (.Name y _) (z :: zs) [] _ => decide (y = Str.ofString (biId b)) && T.bl y && glB C.sc y && chkEs T C es (z :: zs)
    | _ => false)
  | .isi a t, x => (match x with
    | .Call (.Name y _) [z, .Name u _] [] _ => decide (y = Str.ofString "isinstance") && T.bl y && glB C.sc y && decide (u = Str.ofString (tyName t)) && T.bl u && glB C.sc u && chkE T C a z && notStar z
    | _ => false)
  | .mth _ _ _, _ => false
  | .lc own tg it c e, x => (match x with
    | .ListComp elt [⟨tgx, iter, ifs, k⟩] scope _ => decide (k = 0) && blkC C.N C.sc scope (own.filterMap fun i => (C.N[i]?).map fun y => (y, i)) && decide ((own.filterMap fun i => (C.N[i]?).map fun y => (y, i)).map (·.2) = own) && (slotsT tg).all (fun i => own.contains i)
        && chkI T C it iter && chkG ⟨C.N, relS scope C.sc, scope⟩ tg tgx && chkC T ⟨C.N, relS scope C.sc, scope⟩ c ifs && chkE T ⟨C.N, relS scope C.sc, scope⟩ e elt
    | _ => false)
def chkEs (T : Tb) (C : Cc) : Exs → List Expr → Bool
  | .nil, xs => (match xs with
    | [] => true
    | _ => false)
  | .cons e es, xs => (match xs with
    | x :: xs => chkE T C e x && notStar x && chkEs T C es xs
    | _ => false)
def chkO (T : Tb) (C : Cc) : Oe → Option Expr → Bool
  | .none, x => (match x with
    | .none => true
    | _ => false)
  | .some e, x => (match x with
    | .some x => chkE T C e x
    | _ => false)
def chkC (T : Tb) (C : Cc) : Oe → List Expr → Bool
  | .none, x => (match x with
    | [] => true
    | _ => false)
  | .some e, x => (match x with
    | [x] => chkE T C e x
    | _ => false)
def chkI (T : Tb) (C : Cc) : It → Expr → Bool
  | .val e, x => chkE T C e x && markB x
  | .rng1 e, x => (match x with
    | .Call (.Name y _) [z] [] _ => decide (y = Str.ofString "range") && T.bl y && glB C.sc y && chkE T C e z && notStar z
    | _ => false)
  | .rng2 a b, x => (match x with
    | .Call (.Name y _) [z, u] [] _ => decide (y = Str.ofString "range") && T.bl y && glB C.sc y && chkE T C a z && notStar z && chkE T C b u && notStar u
    | _ => false)
  | .enum _, _ => false
  | .zip _ _, _ => false
end

/-- what the place of an expression gives -/
structure CxOk (T : Tb) (G : En) (C : Cc) (W : WX) (X : Cx) : Prop where
  N : X.N = C.N
  nd : X.N.Nodup
  sc : X.env.scope = C.sc
  st : ∀ x, C.ss.names.lookup x = some .cell → X.fn x = true
  calm : X.calm = true
  un : X.A.units + 65 < cLine
  tk : Takes X W
  fn : ∀ f y n, T.fn f = some (y, n) → ∃ k ad fd ps, FnOk X.prog X.w X.K X.mg X.base (L2.CX X.prog X.w) k ad fd ps (SpF X.K G f n) ∧ Room k X.A ∧ X.mg y = some (.ref ad) ∧ PySem.W.keepIn X.K (.ref ad) = true ∧ Binds X.K fd ps []
  cn : ∀ c y, T.cn c = some y → ∃ v u, X.mg y = some u ∧ RelV v u ∧ ∀ ca mu H, Is X.K ca mu H v (G.cons c)
  bl : ∀ y, T.bl y = true → X.mg y = none
section
variable {T : Tb} {G : En} {C : Cc} {W : WX} {X : Cx} {x y : Str}
theorem glB_ok (ok : CxOk T G C W X) (h : glB C.sc y = true) : Gl X y := by
  show X.env.scope.names.lookup y = some .globalImplicit
  rw [ok.sc]
  unfold glB at h
  split at h
  · assumption
  · cases h
theorem visB_ok (ok : CxOk T G C W X) (h : visB C.sc y = true) : Vis X.env.scope y := by
  rw [ok.sc]
  unfold visB at h
  split at h
  · exact .inl (by assumption)
  · exact .inr (.inl (by assumption))
  · exact .inr (.inr (by assumption))
  · cases h
theorem locB_ok (ok : CxOk T G C W X) (h : locB C.sc C.ss y = true) : Loc X.env.scope y ∧ (X.fn y = true ∨ X.env.scope.names.lookup y = some .local) := by
  rw [ok.sc]
  unfold locB at h
  split at h
  · exact ⟨.inl (by assumption), .inr (by assumption)⟩
  · split at h
    · exact ⟨.inr (by assumption), .inl (ok.st _ (by assumption))⟩
    · cases h
  · cases h
theorem nmOk_ok (h : nmOk y = true) : (y == ("__debug__" : Str)) = false ∧ (y == ("__classdict__" : Str)) = false := by
  unfold nmOk at h
  obtain ⟨h1, h2⟩ := Bool.and_eq_true_iff.mp h
  exact ⟨by simpa using h1, by simpa using h2⟩
theorem blk_ok (ok : CxOk T G C W X) (s : Shared) (H : Hp) (scope : Scope) (cl : List (Str × Addr)) (A : Addr) (fp : List Addr) : CxOk T G ⟨C.N, relS scope C.sc, scope⟩ W0 (X.blk s H scope (compEnvC scope cl A X.env) fp) := by
  refine ⟨ok.N, ok.nd, ?_, fun x h => ?_, ok.calm, ok.un, takes0, ok.fn, ok.cn, ok.bl⟩
  · rw [← ok.sc]; rfl
  · show (scope.names.lookup x == some .cell) = true
    have h : scope.names.lookup x = some .cell := h
    rw [h]
    rfl
end
theorem evs_len {cons : Nat → D} {call : Call} : ∀ {es : Exs} {ρ : Env} {S S' : Sto} {ds : List D}, evs cons call es ρ S = .ok ds S' → ds.length = lenEs es
  | .nil, _, _, _, _, h => by cases h; rfl
  | .cons e es, ρ, S, S', ds, h => by
    have h : ((ev cons call e ρ S).bind fun d S => (evs cons call es ρ S).bind fun ds S => Res.ok (d :: ds) S) = .ok ds S' := h
    cases q : ev cons call e ρ S with
    | ok d S1 =>
      rw [q] at h
      have h : ((evs cons call es ρ S1).bind fun ds S => Res.ok (d :: ds) S) = .ok ds S' := h
      cases q2 : evs cons call es ρ S1 with
      | ok ds2 S2 => rw [q2] at h; cases h; rw [List.length_cons, evs_len q2]; rfl
      | exc _ _ => rw [q2] at h; cases h
      | no => rw [q2] at h; cases h
    | exc _ _ => rw [q] at h; cases h
    | no => rw [q] at h; cases h
section
variable {T : Tb} {G : En}
mutual
theorem sndG : ∀ (t : Tg) {x : Expr} {C : Cc} {W : WX} {X : Cx}, CxOk T G C W X → chkG C t x = true → PG X x (RdG X.K t)
  | .nm i, x, C, W, X, ok, h => by
    cases x with
    | Name y p =>
      obtain ⟨h1, h2⟩ := Bool.and_eq_true_iff.mp (show (decide (C.N[i]? = some y) && locB C.sc C.ss y) = true from h)
      obtain ⟨h3, h4⟩ := locB_ok ok h2
      exact sndG_nm ok.nd (by rw [ok.N]; exact of_decide_eq_true h1) h3 h4
    | _ => cases h
  | .tp ts, x, C, W, X, ok, h => by
    cases x with
    | Tuple ys k p =>
      obtain ⟨h1, h2, h3⟩ := sndGs ts ok (show chkGs C ts ys = true from h)
      exact sndG_tp ok.calm h1 h2 h3
    | _ => cases h
theorem sndGs : ∀ (ts : Tgs) {xs : List Expr} {C : Cc} {W : WX} {X : Cx}, CxOk T G C W X → chkGs C ts xs = true → PGs X xs (RdGs X.K ts) ∧ (∀ e ∈ xs, notStar e = true) ∧ xs.length = lenTs ts
  | .nil, xs, C, W, X, ok, h => by
    cases xs with
    | nil => exact ⟨sndG_nil, fun e h => absurd h (by simp), rfl⟩
    | cons _ _ => cases h
  | .cons t ts, xs, C, W, X, ok, h => by
    cases xs with
    | nil => cases h
    | cons x xs =>
      obtain ⟨h1, h2⟩ := Bool.and_eq_true_iff.mp (show (chkG C t x && notStar x && chkGs C ts xs) = true from h)
      obtain ⟨h1, h3⟩ := Bool.and_eq_true_iff.mp h1
      obtain ⟨g1, g2, g3⟩ := sndGs ts ok h2
      exact ⟨sndG_cons (sndG t ok h1) g1 h3, fun e he => (List.mem_cons.mp he).elim (fun q => by rw [q]; exact h3) (g2 e), by rw [List.length_cons, g3]; rfl⟩
end
theorem ptD {X : Cx} {W : WX} {e : Ex} {x : Expr} (h : PE X x (RdE X.K G W e)) (he : ∀ whole, isTrue x X.env whole = (do let v ← whole; standAt x.pos; holding [v] (truthy v))) : PE X x (RdE X.K G W e) ∧ PT X x (RdT X.K G W e) := ⟨h, pt_val h he⟩
theorem pt_ifExp {X : Cx} {c a b : Expr} {pos : Pos} {tc ta tb : TT} (hc : PT X c tc) (ha : PT X a ta) (hb : PT X b tb) : PT X (.IfExp c a b pos) (fun σ H Q => tc σ H fun k H1 => if k = true then ta σ H1 Q else tb σ H1 Q) := by
  refine ⟨fun pins s σ H Q I h => ?_⟩
  show wpAny _ _ (do if ← isTrue c X.env (eval c X.env) then isTrue a X.env (eval a X.env) else isTrue b X.env (eval b X.env)) _ _ _
  refine wpAny_bind (thn (hc.run pins s σ H _ I h) fun d s1 ⟨H1, I1, q1⟩ => ?_)
  cases d with
  | true => exact ha.run pins s1 σ H1 Q I1 q1
  | false => exact hb.run pins s1 σ H1 Q I1 q1
theorem mark_ok {op : CmpOp} {x : Expr} (h : markB x = true) : behindInMarks op x = false := by
  cases x <;> first | rfl | cases h
theorem fold_ok {x : Expr} {env : PySem.Env} (h : markB x = true) (v : Value) : foldedSetIterable x env v = pure v := by
  cases x <;> first | rfl | cases h
theorem ix_ok {x : Expr} (h : ixB x = true) : PlainIx x := by
  intro o i
  cases x <;> first | rfl | cases h
theorem ba {a b : Bool} (h : (a && b) = true) : a = true ∧ b = true := Bool.and_eq_true_iff.mp h
mutual
theorem sndE : ∀ (e : Ex) {x : Expr} {C : Cc} {W : WX} {X : Cx}, CxOk T G C W X → chkE T C e x = true → PE X x (RdE X.K G W e) ∧ PT X x (RdT X.K G W e)
  | .var i, x, C, W, X, ok, h => by
    cases x with
    | Name y p =>
      obtain ⟨h1, h3⟩ := ba (show (decide (C.N[i]? = some y) && visB C.sc y && nmOk y) = true from h)
      obtain ⟨h1, h2⟩ := ba h1
      obtain ⟨n1, n2⟩ := nmOk_ok h3
      exact ptD (snd_var (by rw [ok.N]; exact of_decide_eq_true h1) (visB_ok ok h2) n1 n2) fun _ => rfl
    | _ => cases h
  | .con c, x, C, W, X, ok, h => by
    cases x with
    | Name y p =>
      obtain ⟨h1, h3⟩ := ba (show (decide (T.cn c = some y) && glB C.sc y && nmOk y) = true from h)
      obtain ⟨h1, h2⟩ := ba h1
      obtain ⟨v, u, g1, g2, g3⟩ := ok.cn c y (of_decide_eq_true h1)
      exact ptD (snd_con (glB_ok ok h2) g1 g2 (nmOk_ok h3).1 g3) fun _ => rfl
    | _ => cases h
  | .int i, x, C, W, X, ok, h => by
    cases x with
    | Constant c k p =>
      cases c with
      | int j =>
        have e : j = i := of_decide_eq_true h
        subst e
        exact ptD snd_int fun _ => rfl
      | _ => cases h
    | _ => cases h
  | .bl i, x, C, W, X, ok, h => by
    cases x with
    | Constant c k p =>
      cases c with
      | bool j =>
        have e : j = i := of_decide_eq_true h
        subst e
        exact ptD snd_bl fun _ => rfl
      | _ => cases h
    | _ => cases h
  | .non, x, C, W, X, ok, h => by
    cases x with
    | Constant c k p =>
      cases c with
      | none => exact ptD snd_non fun _ => rfl
      | _ => cases h
    | _ => cases h
  | .str i, x, C, W, X, ok, h => by
    cases x with
    | Constant c k p =>
      cases c with
      | str j =>
        have e : j = i := of_decide_eq_true h
        subst e
        exact ptD snd_str fun _ => rfl
      | _ => cases h
    | _ => cases h
  | .tup es, x, C, W, X, ok, h => by
    cases x with
    | Tuple ys k p => exact ptD (snd_tup (sndEs es ok (show chkEs T C es ys = true from h)).1) fun _ => rfl
    | _ => cases h
  | .lst es, x, C, W, X, ok, h => by
    cases x with
    | List ys p => exact ptD (snd_lst (sndEs es ok (show chkEs T C es ys = true from h)).1) fun _ => rfl
    | _ => cases h
  | .dct _ _, x, C, W, X, ok, h => by cases h
  | .newc e, x, C, W, X, ok, h => by
    cases e with
    | lst es =>
      cases x with
      | List ys p => exact ptD (snd_newl (sndEs es ok (show chkEs T C es ys = true from h)).1) fun _ => rfl
      | _ => cases h
    | _ => cases h
  | .bin o a b, x, C, W, X, ok, h => by
    cases x with
    | BinOp y p z q =>
      obtain ⟨h1, h3⟩ := ba (show (opB p (opOf o) && chkE T C a y && chkE T C b z) = true from h)
      obtain ⟨h1, h2⟩ := ba h1
      have e := opB_ok h1
      subst e
      exact ptD (snd_bin (sndE a ok h2).1 (sndE b ok h3).1) fun _ => rfl
    | _ => cases h
  | .neg a, x, C, W, X, ok, h => by
    cases x with
    | UnaryOp o y q =>
      cases o with
      | USub => exact ptD (snd_neg (sndE a ok (show chkE T C a y = true from h)).1) fun _ => rfl
      | _ => cases h
    | _ => cases h
  | .cmp o a b, x, C, W, X, ok, h => by
    cases x with
    | Compare y ps zs q =>
      cases ps with
      | nil => cases h
      | cons p ps =>
        cases ps with
        | cons _ _ => cases zs <;> (try cases h) <;> (rename_i zs; cases zs <;> cases h)
        | nil =>
          cases zs with
          | nil => cases h
          | cons z zs =>
            cases zs with
            | cons _ _ => cases h
            | nil =>
              obtain ⟨h1, h4⟩ := ba (show (cpB p (copOf o) && chkE T C a y && chkE T C b z && markB z) = true from h)
              obtain ⟨h1, h3⟩ := ba h1
              obtain ⟨h1, h2⟩ := ba h1
              have e : p = copOf o := of_decide_eq_true h1
              subst e
              exact ⟨snd_cmp ok.un (sndE a ok h2).1 (sndE b ok h3).1 (mark_ok h4), snd_cmpT ok.un (sndE a ok h2).1 (sndE b ok h3).1 (mark_ok h4)⟩
    | _ => cases h
  | .chn o p a b c, x, C, W, X, ok, h => by
    cases x with
    | Compare y ps zs q =>
      match ps, zs, h with
      | [o', p'], [z, u], h =>
        obtain ⟨h1, h6⟩ := ba (show (cpB o' (copOf o) && cpB p' (copOf p) && chkE T C a y && chkE T C b z && chkE T C c u && markB u) = true from h)
        obtain ⟨h1, h5⟩ := ba h1
        obtain ⟨h1, h4⟩ := ba h1
        obtain ⟨h1, h3⟩ := ba h1
        obtain ⟨h1, h2⟩ := ba h1
        have e1 : o' = copOf o := of_decide_eq_true h1
        have e2 : p' = copOf p := of_decide_eq_true h2
        subst e1 e2
        have hm : lastMarks [copOf o, copOf p] [z, u] = false := mark_ok (op := copOf p) h6
        exact ⟨snd_chn ok.un (sndE a ok h3).1 (sndE b ok h4).1 (sndE c ok h5).1 hm, snd_chnT ok.un (sndE a ok h3).1 (sndE b ok h4).1 (sndE c ok h5).1 hm⟩
    | _ => cases h
  | .and a b, x, C, W, X, ok, h => by
    cases x with
    | BoolOp o ys pos =>
      match o, ys, h with
      | .And, [y, z], h =>
        obtain ⟨h1, h2⟩ := ba (show (chkE T C a y && chkE T C b z) = true from h)
        exact ⟨snd_and (sndE a ok h1).1 (pe_one (sndE b ok h2).1), PW.pt (snd_andT (sndE a ok h1).2 (pw_and1 (sndE b ok h2).2))⟩
      | .And, y :: z :: u :: r, h =>
        obtain ⟨h1, h2⟩ := ba (show (chkE T C a y && chkE T C b (.BoolOp .And (z :: u :: r) pos)) = true from h)
        obtain ⟨g1, g2⟩ := sndE b ok h2
        exact ⟨snd_and (sndE a ok h1).1 g1, PW.pt (snd_andT (sndE a ok h1).2 ⟨fun wh pins s σ H Q I q => g2.run pins s σ H Q I q⟩)⟩
    | _ => cases h
  | .or a b, x, C, W, X, ok, h => by
    cases x with
    | BoolOp o ys pos =>
      match o, ys, h with
      | .Or, [y, z], h =>
        obtain ⟨h1, h2⟩ := ba (show (chkE T C a y && chkE T C b z) = true from h)
        exact ⟨snd_or (sndE a ok h1).1 (pe_one (sndE b ok h2).1), PW.pt (snd_orT (sndE a ok h1).2 (pw_or1 (sndE b ok h2).2))⟩
      | .Or, y :: z :: u :: r, h =>
        obtain ⟨h1, h2⟩ := ba (show (chkE T C a y && chkE T C b (.BoolOp .Or (z :: u :: r) pos)) = true from h)
        obtain ⟨g1, g2⟩ := sndE b ok h2
        exact ⟨snd_or (sndE a ok h1).1 g1, PW.pt (snd_orT (sndE a ok h1).2 ⟨fun wh pins s σ H Q I q => g2.run pins s σ H Q I q⟩)⟩
    | _ => cases h
  | .not a, x, C, W, X, ok, h => by
    cases x with
    | UnaryOp o y q =>
      cases o with
      | Not => exact ⟨snd_not (sndE a ok (show chkE T C a y = true from h)).1, snd_notT (sndE a ok (show chkE T C a y = true from h)).2⟩
      | _ => cases h
    | _ => cases h
  | .ite c a b, x, C, W, X, ok, h => by
    cases x with
    | IfExp u y z q =>
      obtain ⟨h1, h3⟩ := ba (show (chkE T C c u && chkE T C a y && chkE T C b z) = true from h)
      obtain ⟨h1, h2⟩ := ba h1
      refine ⟨snd_ite (sndE c ok h1).2 (sndE a ok h2).1 (sndE b ok h3).1, PTimp (pt_ifExp (sndE c ok h1).2 (sndE a ok h2).2 (sndE b ok h3).2) fun σ H Q ⟨ca, mu, ρ, S, w, re, h⟩ => step w re h fun d S1 v ca1 mu1 H1 e1 w1 re1 i1 h1 => ?_⟩
      obtain ⟨k, rfl, h2⟩ := bool_of (S := S1) (f := fun k S => bif k then ev G.cons G.call a ρ S else ev G.cons G.call b ρ S) i1 (by cases d <;> first | rfl | (rename_i z; cases z <;> rfl)) h1
      refine ⟨k, rfl, ?_⟩
      cases k with
      | true => exact iteT (last w1 re1 h2)
      | false => exact iteF (last w1 re1 h2)
    | _ => cases h
  | .idx a i, x, C, W, X, ok, h => by
    cases x with
    | Subscript y z q =>
      obtain ⟨h1, h3⟩ := ba (show (chkE T C a y && chkE T C i z && ixB z) = true from h)
      obtain ⟨h1, h2⟩ := ba h1
      exact ptD (snd_idx ok.un (sndE a ok h1).1 (sndE i ok h2).1 (ix_ok h3)) fun _ => rfl
    | _ => cases h
  | .sli a lo hi, x, C, W, X, ok, h => by
    cases x with
    | Subscript y z q =>
      match z, h with
      | .Slice l u .none p2, h =>
        obtain ⟨h1, h3⟩ := ba (show (chkE T C a y && chkO T C lo l && chkO T C hi u) = true from h)
        obtain ⟨h1, h2⟩ := ba h1
        exact ptD (snd_sli (sndE a ok h1).1 (sndO lo ok h2) (sndO hi ok h3)) fun _ => rfl
    | _ => cases h
  | .call f es, x, C, W, X, ok, h => by
    match x, h with
    | .Call (.Name y p) (z :: zs) [] q, h =>
      obtain ⟨h1, h4⟩ := ba (show (decide (T.fn f = some (y, lenEs es)) && glB C.sc y && nmOk y && chkEs T C es (z :: zs)) = true from h)
      obtain ⟨h1, h3⟩ := ba h1
      obtain ⟨h1, h2⟩ := ba h1
      obtain ⟨k, ad, fd, ps, g1, g2, g3, g4, g5⟩ := ok.fn f y _ (of_decide_eq_true h1)
      obtain ⟨a1, a2⟩ := sndEs es ok h4
      exact ptD (snd_call ok.tk g1 g2 (glB_ok ok h2) g3 g4 g5 (nmOk_ok h3).1 (fun ρ S ds S' e => evs_len e) a1 (a2 z List.mem_cons_self) fun e he => a2 e (List.mem_cons_of_mem _ he)) fun _ => rfl
  | .call0 f, x, C, W, X, ok, h => by
    match x, h with
    | .Call (.Name y p) [] [] q, h =>
      obtain ⟨h1, h3⟩ := ba (show (decide (T.fn f = some (y, 0)) && glB C.sc y && nmOk y) = true from h)
      obtain ⟨h1, h2⟩ := ba h1
      obtain ⟨k, ad, fd, ps, g1, g2, g3, g4, g5⟩ := ok.fn f y _ (of_decide_eq_true h1)
      exact ptD (snd_call0 g1 g2 (glB_ok ok h2) g3 g4 g5 (nmOk_ok h3).1) fun _ => rfl
  | .bi b es, x, C, W, X, ok, h => by
    match x, h with
    | .Call (.Name y p) (z :: zs) [] q, h =>
      obtain ⟨h1, h4⟩ := ba (show (decide (y = Str.ofString (biId b)) && T.bl y && glB C.sc y && chkEs T C es (z :: zs)) = true from h)
      obtain ⟨h1, h3⟩ := ba h1
      obtain ⟨h1, h2⟩ := ba h1
      have e : y = Str.ofString (biId b) := of_decide_eq_true h1
      subst e
      obtain ⟨a1, a2⟩ := sndEs es ok h4
      exact ptD (snd_bi ok.calm (glB_ok ok h3) (ok.bl _ h2) a1 (a2 z List.mem_cons_self) fun e he => a2 e (List.mem_cons_of_mem _ he)) fun _ => rfl
  | .isi a t, x, C, W, X, ok, h => by
    match x, h with
    | .Call (.Name y p) [z, .Name u p2] [] q, h =>
      obtain ⟨h1, h8⟩ := ba (show (decide (y = Str.ofString "isinstance") && T.bl y && glB C.sc y && decide (u = Str.ofString (tyName t)) && T.bl u && glB C.sc u && chkE T C a z && notStar z) = true from h)
      obtain ⟨h1, h7⟩ := ba h1
      obtain ⟨h1, h6⟩ := ba h1
      obtain ⟨h1, h5⟩ := ba h1
      obtain ⟨h1, h4⟩ := ba h1
      obtain ⟨h1, h3⟩ := ba h1
      obtain ⟨h1, h2⟩ := ba h1
      have e1 : y = Str.ofString "isinstance" := of_decide_eq_true h1
      have e2 : u = Str.ofString (tyName t) := of_decide_eq_true h4
      subst e1 e2
      exact ptD (snd_isi (glB_ok ok h3) (ok.bl _ h2) (glB_ok ok h6) (ok.bl _ h5) (sndE a ok h7).1 h8) fun _ => rfl
  | .mth _ _ _, x, C, W, X, ok, h => by cases h
  | .lc own tg it c e, x, C, W, X, ok, h => by
    match x, h with
    | .ListComp elt [⟨tgx, iter, ifs, k⟩] scope pos, h =>
      obtain ⟨h1, h8⟩ := ba (show (decide (k = 0) && blkC C.N C.sc scope (own.filterMap fun i => (C.N[i]?).map fun y => (y, i)) && decide ((own.filterMap fun i => (C.N[i]?).map fun y => (y, i)).map (·.2) = own) && (slotsT tg).all (fun i => own.contains i)
        && chkI T C it iter && chkG ⟨C.N, relS scope C.sc, scope⟩ tg tgx && chkC T ⟨C.N, relS scope C.sc, scope⟩ c ifs && chkE T ⟨C.N, relS scope C.sc, scope⟩ e elt) = true from h)
      obtain ⟨h1, h7⟩ := ba h1
      obtain ⟨h1, h6⟩ := ba h1
      obtain ⟨h1, h5⟩ := ba h1
      obtain ⟨h1, h4⟩ := ba h1
      obtain ⟨h1, h3⟩ := ba h1
      obtain ⟨h1, h2⟩ := ba h1
      have e0 : k = 0 := of_decide_eq_true h1
      subst e0
      obtain ⟨i1, i2⟩ := sndI it (tg := tgx) ok h5
      refine ptD (snd_lc (own := own.filterMap fun i => (C.N[i]?).map fun y => (y, i)) ok.calm ok.nd i1 (by rw [ok.N, ok.sc]; exact blkOk_by h2) (of_decide_eq_true h3) (fun i hi => by simpa using List.all_eq_true.mp h4 i hi)
        (fun s H A cl fp => sndG tg (blk_ok ok s H scope cl A fp) h6) (fun s H A cl fp => sndC c (blk_ok ok s H scope cl A fp) h7) (fun s H A cl fp => (sndE e (blk_ok ok s H scope cl A fp) h8).1) i2) fun _ => rfl
theorem sndEs : ∀ (es : Exs) {xs : List Expr} {C : Cc} {W : WX} {X : Cx}, CxOk T G C W X → chkEs T C es xs = true → PA X xs (RdA X.K G W es) ∧ ∀ x ∈ xs, notStar x = true
  | .nil, xs, C, W, X, ok, h => by
    cases xs with
    | nil => exact ⟨snd_anil, fun _ h => nomatch h⟩
    | cons _ _ => cases h
  | .cons e es, xs, C, W, X, ok, h => by
    cases xs with
    | nil => cases h
    | cons x xs =>
      obtain ⟨h1, h3⟩ := ba (show (chkE T C e x && notStar x && chkEs T C es xs) = true from h)
      obtain ⟨h1, h2⟩ := ba h1
      obtain ⟨g1, g2⟩ := sndEs es ok h3
      exact ⟨snd_acons (sndE e ok h1).1 g1 h2, fun y hy => (List.mem_cons.mp hy).elim (fun q => by rw [q]; exact h2) (g2 y)⟩
theorem sndO : ∀ (o : Oe) {x : Option Expr} {C : Cc} {W : WX} {X : Cx}, CxOk T G C W X → chkO T C o x = true → PO X x (RdO X.K G W o)
  | .none, x, C, W, X, ok, h => by
    cases x with
    | none => exact snd_onone
    | some _ => cases h
  | .some e, x, C, W, X, ok, h => by
    cases x with
    | none => cases h
    | some x => exact snd_osome (sndE e ok h).1
theorem sndC : ∀ (o : Oe) {x : List Expr} {C : Cc} {X : Cx}, CxOk T G C W0 X → chkC T C o x = true → PTs X x (ttOf X.K G o)
  | .none, x, C, X, ok, h => by
    cases x with
    | nil => exact pts_nil
    | cons _ _ => cases h
  | .some e, x, C, X, ok, h => by
    match x, h with
    | [x], h => exact pts_one (sndE e ok h).2
theorem sndI : ∀ (it : It) {x tg : Expr} {C : Cc} {W : WX} {X : Cx}, CxOk T G C W X → chkI T C it x = true → PI X tg x (RdI X.K G W it) ∧ ∀ v, foldedSetIterable x X.env v = pure v
  | .val e, x, tg, C, W, X, ok, h => by
    obtain ⟨h1, h2⟩ := ba (show (chkE T C e x && markB x) = true from h)
    exact ⟨sndI_val (sndE e ok h1).1, fold_ok h2⟩
  | .rng1 e, x, tg, C, W, X, ok, h => by
    match x, h with
    | .Call (.Name y p) [z] [] q, h =>
      obtain ⟨h1, h5⟩ := ba (show (decide (y = Str.ofString "range") && T.bl y && glB C.sc y && chkE T C e z && notStar z) = true from h)
      obtain ⟨h1, h4⟩ := ba h1
      obtain ⟨h1, h3⟩ := ba h1
      obtain ⟨h1, h2⟩ := ba h1
      have e1 : y = Str.ofString "range" := of_decide_eq_true h1
      subst e1
      exact ⟨sndI_rng1 (glB_ok ok h3) (ok.bl _ h2) (sndE e ok h4).1 h5, fun _ => rfl⟩
  | .rng2 a b, x, tg, C, W, X, ok, h => by
    match x, h with
    | .Call (.Name y p) [z, u] [] q, h =>
      obtain ⟨h1, h7⟩ := ba (show (decide (y = Str.ofString "range") && T.bl y && glB C.sc y && chkE T C a z && notStar z && chkE T C b u && notStar u) = true from h)
      obtain ⟨h1, h6⟩ := ba h1
      obtain ⟨h1, h5⟩ := ba h1
      obtain ⟨h1, h4⟩ := ba h1
      obtain ⟨h1, h3⟩ := ba h1
      obtain ⟨h1, h2⟩ := ba h1
      have e1 : y = Str.ofString "range" := of_decide_eq_true h1
      subst e1
      exact ⟨sndI_rng2 (glB_ok ok h3) (ok.bl _ h2) (sndE a ok h4).1 (sndE b ok h6).1 h5 h7, fun _ => rfl⟩
  | .enum _, x, tg, C, W, X, ok, h => by cases h
  | .zip _ _, x, tg, C, W, X, ok, h => by cases h
end
end
end KI


set_option Elab.async false
set_option linter.all false
set_option maxRecDepth 100000
set_option autoImplicit false
set_option maxHeartbeats 2000000
/-! Statements. -/
namespace KI
open PySem PySem.Spec PyProof.Rows L2

/-- what is wanted behind a statement's end -/
def flP (K : PySem.W.Frag) (XA : Nat → Addr) (ca mu : List Addr) (H : Hp) (r : Fl) (D : Ends) (W : WX) : Prop := match r with
  | .nx ρ S => ∀ σ' ca' mu' H', Ext ca mu H ca' mu' H' → Wd K ca' mu' H' S → RE K ca' mu' H' σ' ρ → D.nx σ' H'
  | .rt d S => ∀ v ca' mu' H', Ext ca mu H ca' mu' H' → Wd K ca' mu' H' S → Is K ca' mu' H' v d → D.rt v H'
  | .exc x ρ S => ∀ cls dd σ' ca' mu' H', Ext ca mu H ca' mu' H' → Wd K ca' mu' H' S → RE K ca' mu' H' σ' ρ → XnR K XA ca' mu' H' cls dd x → W cls dd σ' H'
  | .no => False
section
variable {K : PySem.W.Frag} {G : En} {ca mu ca' mu' : List Addr} {H H' : Hp} {D : Ends} {W : WX} {σ : L2.St} {ρ : Env} {S : Sto}
theorem flP.rebase {XA : Nat → Addr} {r : Fl} (h : flP K XA ca mu H r D W) (x : Ext ca mu H ca' mu' H') : flP K XA ca' mu' H' r D W := by
  cases r with
  | nx ρ S => exact fun a _ _ _ e w i => h a _ _ _ (x.trans e) w i
  | rt d S => exact fun a _ _ _ e w i => h a _ _ _ (x.trans e) w i
  | exc y ρ S => exact fun a b c _ _ _ e w r i => h a b c _ _ _ (x.trans e) w r i
  | no => exact h
/-- an expression first -/
theorem stepS {α β : Type} {rel : List Addr → List Addr → Hp → β → α → Prop} {f : Env → Sto → Res α} {g : α → Sto → Fl} {R : β → Hp → Prop} (w : Wd K ca mu H S) (re : RE K ca mu H σ ρ) (h : flP K G.XA ca mu H (onD (f ρ S) ρ g) D W)
    (k : ∀ a S' b ca' mu' H', Ext ca mu H ca' mu' H' → Wd K ca' mu' H' S' → RE K ca' mu' H' σ ρ → rel ca' mu' H' b a → flP K G.XA ca' mu' H' (g a S') D W → R b H') : Rd0 K G rel f W σ H R := by
  refine ⟨ca, mu, ρ, S, w, re, ?_⟩
  cases q : f ρ S with
  | ok a S' => rw [q] at h; exact fun b ca' mu' H' e w' i => k a S' b ca' mu' H' e w' (re.ext e) i (flP.rebase h e)
  | exc x S' => rw [q] at h; exact fun cls dd ca' mu' H' e w' i => h cls dd σ ca' mu' H' e w' (re.ext e) i
  | no => rw [q] at h; exact h
end
/-- a reading of a statement, a block -/
def RdF (K : PySem.W.Frag) (G : En) (f : Env → Sto → Fl) (W : WX) : TS := fun D σ H => ∃ ca mu ρ S, Wd K ca mu H S ∧ RE K ca mu H σ ρ ∧ flP K G.XA ca mu H (f ρ S) D W
abbrev RdS (K : PySem.W.Frag) (G : En) (n : Nat) (W : WX) (s : Sx) : TS := RdF K G (exs G.cons G.call n s) W
abbrev RdSs (K : PySem.W.Frag) (G : En) (n : Nat) (W : WX) (ss : Sxs) : TS := RdF K G (exss G.cons G.call n ss) W
section
variable {X : Cx} {st : Stmt} {sts : List Stmt} {t u : TS}
theorem PSimp (h : PS X st t) (w : ∀ D σ H, u D σ H → t D σ H) : PS X st u := ⟨fun pins s σ H D I hu => h.run pins s σ H D I (w _ _ _ hu)⟩
theorem PSsimp (h : PSs X sts t) (w : ∀ D σ H, u D σ H → t D σ H) : PSs X sts u := ⟨fun pins s σ H D I hu => h.run pins s σ H D I (w _ _ _ hu)⟩
theorem PSor (h : PS X st t) (g : PS X st u) : PS X st (fun D σ H => t D σ H ∨ u D σ H) := ⟨fun pins s σ H D I hu => hu.elim (h.run pins s σ H D I) (g.run pins s σ H D I)⟩
end
/-! ### stores that change places -/
def swNames (sc : Scope) (ts : List Expr) : List Str := ts.filterMap fun
    | .Name id pos => if sc.names.lookup id == some .local && pos.line == (ts.head?.map (·.pos.line)).getD 0 then some id else none
    | _ => none
def swK (sc : Scope) (ts vs : List Expr) : Option (Option (List Str)) :=
  if !(ts.length == 2 || ts.length == 3) || vs.length != ts.length then some none
  else if vs.any (fun v => !notStar v) then some none
  else if (swNames sc ts).length != ts.length || (swNames sc ts).eraseDups.length != (swNames sc ts).length then some none
  else if vs.all (foldedForSure 8) then some none
  else if vs.all (constantsAlone 8) then none
  else some (some (swNames sc ts))
theorem swK_ok {sc : Scope} {env : PySem.Env} {ts vs : List Expr} {k k2 : Nat} {p p2 : Pos} {r : Option (List Str)} (he : env.scope = sc) (hk : sc.kind = .function) (h : swK sc ts vs = some r) : swappedStores [.Tuple ts k p] (.Tuple vs k2 p2) env = pure r := by
  have hb : env.blockKind = .function := by unfold Env.blockKind; rw [he, hk]; rfl
  have hkn : ∀ x, env.kindOf x = sc.names.lookup x := fun x => by unfold Env.kindOf; rw [he]
  have hst : (vs.any fun | .Starred .. => true | _ => false) = vs.any (fun v => !notStar v) := by
    congr 1
    funext v
    cases v <;> rfl
  unfold swappedStores
  simp only [hb, hkn, hst]
  unfold swK at h
  change (if (!(ts.length == 2 || ts.length == 3) || vs.length != ts.length || ScopeKind.function != ScopeKind.function) = true then pure none else if (vs.any fun | .Starred .. => true | _ => false) = true then pure none
    else if ((swNames sc ts).length != ts.length || (swNames sc ts).eraseDups.length != (swNames sc ts).length) = true then pure none
    else if (vs.all (foldedForSure 8)) = true then pure none else _) = _
  rw [hst, show (ScopeKind.function != ScopeKind.function) = false from rfl, Bool.or_false]
  by_cases c1 : (!(ts.length == 2 || ts.length == 3) || vs.length != ts.length) = true
  · rw [if_pos c1] at h ⊢
    cases h
    rfl
  rw [if_neg c1] at h ⊢
  by_cases c2 : (vs.any fun v => !notStar v) = true
  · rw [if_pos c2] at h ⊢
    cases h
    rfl
  rw [if_neg c2] at h ⊢
  by_cases c3 : ((swNames sc ts).length != ts.length || (swNames sc ts).eraseDups.length != (swNames sc ts).length) = true
  · rw [if_pos c3] at h ⊢
    cases h
    rfl
  rw [if_neg c3] at h ⊢
  by_cases c4 : (vs.all (foldedForSure 8)) = true
  · rw [if_pos c4] at h ⊢
    cases h
    rfl
  rw [if_neg c4] at h ⊢
  by_cases c5 : (vs.all (constantsAlone 8)) = true
  · rw [if_pos c5] at h
    cases h
  rw [if_neg c5] at h
  rw [if_neg c5]
  cases h
  rfl
/-! ### a cell that changes -/
theorem set_get {α : Type} {xs : List α} {n m : Nat} {x y : α} (h : (xs.set n x)[m]? = some y) : (m = n ∧ y = x ∧ n < xs.length) ∨ (m ≠ n ∧ xs[m]? = some y) := by
  by_cases e : n = m
  · subst e
    by_cases hl : n < xs.length
    · rw [List.getElem?_set_self hl] at h
      exact .inl ⟨rfl, (Option.some.inj h).symm, hl⟩
    · rw [List.getElem?_eq_none (by simpa using hl)] at h; cases h
  · rw [List.getElem?_set_ne e] at h
    exact .inr ⟨fun z => e z.symm, h⟩
section
variable {K : PySem.W.Frag} {ca mu : List Addr} {H : Hp} {S : Sto} {n : Nat} {a : Addr}
theorem nd_ne {ca : List Addr} (h : ca.Nodup) {n m : Nat} {a b : Addr} (hn : ca[n]? = some a) (hm : ca[m]? = some b) (ne : m ≠ n) : b ≠ a := fun e => by
  subst e
  obtain ⟨h1, e1⟩ := List.getElem?_eq_some_iff.mp hn
  obtain ⟨h2, e2⟩ := List.getElem?_eq_some_iff.mp hm
  exact ne ((List.getElem_inj h).mp (e2.trans e1.symm))
theorem cell_upd {ob : Ob} {o : HO} (w : Wd K ca mu H S) (hn : ca[n]? = some a) (hm : a ∈ mu) (hH : H a ≠ none) (h : ∀ ca' mu' H', Ext ca mu H ca' mu' H' → mu' = mu → H' a = some o → ObR K ca' mu' H' a ob) :
    Ext ca mu H ca mu (upd H a o) ∧ Wd K ca mu (upd H a o) (S.set n ob) := by
  have hc : a ∈ ca := List.mem_of_getElem? hn
  have x : Ext ca mu H ca mu (upd H a o) := ⟨⟨[], by simp, fun _ z => nomatch z⟩, fun _ z => .inl z, fun b u q z => by
      rw [upd_ne fun e => z (by subst e; exact ⟨hc, hm⟩)]
      exact q, fun b z => by
      by_cases e : b = a
      · subst e; rw [upd_same]; simp
      · rw [upd_ne e]; exact z, fun _ z _ _ => z⟩
  refine ⟨x, by rw [w.len, List.length_set], w.nd, fun m b u h1 h2 => ?_, fun b z => x.tr b (w.tm b z), fun b z => x.tr b (w.tc b z)⟩
  rcases set_get h2 with ⟨rfl, rfl, _⟩ | ⟨ne, h2⟩
  · rw [hn] at h1
    cases h1
    exact h _ _ _ x rfl upd_same
  · exact (w.ob m b u h1 h2).ext x id fun _ => upd_ne (nd_ne w.nd hn h1 ne)
theorem cell_frz {xs : List D} (w : Wd K ca mu H S) (hn : ca[n]? = some a) (hs : S[n]? = some (.lst xs)) :
    Ext ca mu H ca (mu.filter (· ≠ a)) H ∧ Wd K ca (mu.filter (· ≠ a)) H (S.set n .dead) ∧ Is K ca (mu.filter (· ≠ a)) H (.ref a) (.lst xs) := by
  have hc : a ∈ ca := List.mem_of_getElem? hn
  have sub : ∀ b, b ∈ mu.filter (· ≠ a) → b ∈ mu := fun b h => (List.mem_filter.mp h).1
  have x : Ext ca mu H ca (mu.filter (· ≠ a)) H := ⟨⟨[], by simp, fun _ z => nomatch z⟩, fun b z => .inl (sub b z), fun _ _ q _ => q, fun _ z => z, fun b z z2 _ => List.mem_filter.mpr ⟨z, by simpa using fun e => z2 (by subst e; exact hc)⟩⟩
  refine ⟨x, ⟨by rw [w.len, List.length_set], w.nd, fun m b u h1 h2 => ?_, fun b z => w.tm b (sub b z), w.tc⟩, ?_⟩
  · rcases set_get h2 with ⟨rfl, rfl, _⟩ | ⟨ne, h2⟩
    · trivial
    · have hb := w.ob m b u h1 h2
      have na := nd_ne w.nd hn h1 ne
      cases u with
      | lst ys => obtain ⟨q1, vs, q2, q3⟩ := hb; exact ⟨List.mem_filter.mpr ⟨q1, by simpa using na⟩, vs, q2, IsL.mono sub _ q3⟩
      | dct ys => obtain ⟨q1, vs, q2, q3⟩ := hb; exact ⟨List.mem_filter.mpr ⟨q1, by simpa using na⟩, vs, q2, IsK.mono sub _ q3⟩
      | dead => trivial
  · obtain ⟨q1, vs, q2, q3⟩ := w.ob n a _ hn hs
    exact .lst q2 (by simp) (IsL.mono sub _ q3)
theorem RE.upd {σ : L2.St} {ρ : Env} {v : V} {d : D} {i : Nat} (h : RE K ca mu H σ ρ) (hi : σ[i]? = some (some v)) (g : Is K ca mu H v d) : RE K ca mu H σ (ρ.set i (some d)) := by
  refine ⟨by simp [h.len], fun j e q => ?_⟩
  rcases set_get q with ⟨rfl, e2, _⟩ | ⟨ne, q⟩
  · cases e2
    exact ⟨v, hi, g⟩
  · exact h.at_ j e q
end
/-! ### rows of statements -/
theorem flP.seq {K : PySem.W.Frag} {XA : Nat → Addr} {ca mu : List Addr} {H : Hp} {r : Fl} {f : Env → Sto → Fl} {D D' : Ends} {W : WX} (h : flP K XA ca mu H (r.then f) D W) (hr : D'.rt = D.rt)
    (k : ∀ ρ S σ' ca' mu' H', Ext ca mu H ca' mu' H' → Wd K ca' mu' H' S → RE K ca' mu' H' σ' ρ → flP K XA ca' mu' H' (f ρ S) D W → D'.nx σ' H') : flP K XA ca mu H r D' W := by
  cases r with
  | nx ρ S => exact fun σ' ca' mu' H' x w re => k ρ S σ' ca' mu' H' x w re (flP.rebase h x)
  | rt d S => exact fun v ca' mu' H' x w i => by rw [hr]; exact h v ca' mu' H' x w i
  | exc x ρ S => exact h
  | no => exact h
section
variable {X : Cx} {G : En} {W : WX} {fuel : Nat}
theorem sndS_nil : PSs X [] (RdSs X.K G fuel W .nil) := PSsimp pss_nil fun D σ H ⟨ca, mu, ρ, S, w, re, h⟩ => h σ ca mu H Ext.refl w re
theorem sndS_cons {st : Stmt} {rest : List Stmt} {s : Sx} {ss : Sxs} (h1 : PS X st (RdS X.K G fuel W s)) (h2 : PSs X rest (RdSs X.K G fuel W ss)) : PSs X (st :: rest) (RdSs X.K G fuel W (.cons s ss)) :=
  PSsimp (pss_cons h1 h2) fun D σ H ⟨ca, mu, ρ, S, w, re, h⟩ =>
    ⟨ca, mu, ρ, S, w, re, flP.seq (f := fun ρ S => exss G.cons G.call fuel ss ρ S) h rfl fun ρ' S' σ' ca' mu' H' x w' re' h' => ⟨ca', mu', ρ', S', w', re', h'⟩⟩
theorem sndS_nev {st : Stmt} : PS X st (RdS X.K G fuel W .nev) := PSimp ps_never fun D σ H ⟨ca, mu, ρ, S, w, re, h⟩ => h
theorem sndS_nevs {sts : List Stmt} {ss : Sxs} : PSs X sts (RdSs X.K G fuel W (.cons .nev ss)) := PSsimp pss_never fun D σ H ⟨ca, mu, ρ, S, w, re, h⟩ => h
/-- a list is no longer changed: nothing in the text -/
theorem sndS_frz {sts : List Stmt} {i : Nat} {ss : Sxs} (h2 : PSs X sts (RdSs X.K G fuel W ss)) : PSs X sts (RdSs X.K G fuel W (.cons (.frz i) ss)) :=
  PSsimp h2 fun D σ H ⟨ca, mu, ρ, S, w, re, h⟩ => by
    have h : flP X.K G.XA ca mu H ((match ρ[i]? with
      | some (some (.cell n)) => (match S[n]? with
        | some (.lst xs) => Fl.nx (ρ.set i (some (.lst xs))) (S.set n .dead)
        | _ => .no)
      | _ => .no).then fun ρ S => exss G.cons G.call fuel ss ρ S) D W := h
    split at h
    · rename_i n q
      split at h
      · rename_i xs q2
        obtain ⟨v, q3, q4⟩ := re.at_ i _ q
        cases q4 with
        | cell q5 =>
          obtain ⟨x, w', i'⟩ := cell_frz w q5 q2
          exact ⟨ca, _, _, _, w', (re.ext x).upd q3 i', flP.rebase h x⟩
      · exact h.elim
    · exact h.elim
variable {e a b : Ex} {ea eb ec : Expr} {pos : Pos}
theorem sndS_set {i : Nat} {x : Str} {p : Pos} (hN : X.N.Nodup) (hi : X.N[i]? = some x) (hx : Loc X.env.scope x) (he : PE X ea (RdE X.K G W e)) (hs : swapsWith ea (some (.Name x p)) pos.line X.env = pure false) (hf : X.fn x = true ∨ X.env.scope.names.lookup x = some .local) :
    PS X (.Assign [.Name x p] ea pos) (RdS X.K G fuel W (.set i e)) :=
  PSimp (ps_set hN hi hx he hs hf) fun D σ H ⟨ca, mu, ρ, S, w, re, h⟩ => stepS w re h fun d S1 v ca1 mu1 H1 e1 w1 re1 i1 h1 => h1 _ ca1 mu1 H1 Ext.refl w1 (re1.set i i1)
theorem sndS_unp {tg : Expr} {t : Tg} (he : PE X ea (RdE X.K G W e)) (hg : PG X tg (RdG X.K t)) (hs : swapsWithSole [tg] ea pos.line X.env = pure false) (hw : swappedStores [tg] ea X.env = pure none) (h1 : (assignEach [tg] X.env).map (·.2) = [assign tg X.env]) :
    PS X (.Assign [tg] ea pos) (RdS X.K G fuel W (.unp t e)) :=
  PSimp (ps_asg he hg hs hw h1) fun D σ H ⟨ca, mu, ρ, S, w, re, h⟩ => stepS w re h fun d S1 v ca1 mu1 H1 e1 w1 re1 i1 h1 => by
    cases q : bindT t d ρ with
    | none => rw [q] at h1; exact h1.elim
    | some ρ' => rw [q] at h1; exact ⟨ca1, mu1, d, ρ, ρ', i1, re1, q, fun σ' re' _ => h1 σ' ca1 mu1 H1 Ext.refl w1 re'⟩
theorem sndS_par {i j : Nat} {x y : Str} {es : Exs} {px py pt : Pos} {kt k2 pt2} (hc : X.calm = true) (hN : X.N.Nodup) (hi : X.N[i]? = some x) (hj : X.N[j]? = some y) (hij : i ≠ j)
    (hx : X.env.scope.names.lookup x = some .local) (hy : X.env.scope.names.lookup y = some .local) (ha : PA X [ea, eb] (RdA X.K G W es))
    (hw : swappedStores [.Tuple [.Name x px, .Name y py] kt pt] (.Tuple [ea, eb] k2 pt2) X.env = pure (some [x, y])) :
    PS X (.Assign [.Tuple [.Name x px, .Name y py] kt pt] (.Tuple [ea, eb] k2 pt2) pos) (RdS X.K G fuel W (.par i j es)) :=
  PSimp (ps_par hc hN hi hj hij hx hy ha hw) fun D σ H ⟨ca, mu, ρ, S, w, re, h⟩ => stepS w re h fun ds S1 vs ca1 mu1 H1 e1 w1 re1 i1 h1 => by
    split at h1
    · cases i1 with
      | cons j1 i1 => cases i1 with
        | cons j2 i1 =>
          cases i1
          exact ⟨_, _, rfl, h1 _ ca1 mu1 H1 Ext.refl w1 ((re1.set _ j1).set _ j2)⟩
    · exact h1.elim
theorem sndS_par3 {i j l : Nat} {x y z : Str} {es : Exs} {px py pz pt : Pos} {kt k2 pt2} (hc : X.calm = true) (hN : X.N.Nodup) (hi : X.N[i]? = some x) (hj : X.N[j]? = some y) (hl : X.N[l]? = some z) (hij : i ≠ j) (hil : i ≠ l) (hjl : j ≠ l)
    (hx : X.env.scope.names.lookup x = some .local) (hy : X.env.scope.names.lookup y = some .local) (hz : X.env.scope.names.lookup z = some .local) (ha : PA X [ea, eb, ec] (RdA X.K G W es))
    (hw : swappedStores [.Tuple [.Name x px, .Name y py, .Name z pz] kt pt] (.Tuple [ea, eb, ec] k2 pt2) X.env = pure (some [x, y, z])) :
    PS X (.Assign [.Tuple [.Name x px, .Name y py, .Name z pz] kt pt] (.Tuple [ea, eb, ec] k2 pt2) pos) (RdS X.K G fuel W (.par3 i j l es)) :=
  PSimp (ps_par3 hc hN hi hj hl hij hil hjl hx hy hz ha hw) fun D σ H ⟨ca, mu, ρ, S, w, re, h⟩ => stepS w re h fun ds S1 vs ca1 mu1 H1 e1 w1 re1 i1 h1 => by
    split at h1
    · cases i1 with
      | cons j1 i1 => cases i1 with
        | cons j2 i1 => cases i1 with
          | cons j3 i1 =>
            cases i1
            exact ⟨_, _, _, rfl, h1 _ ca1 mu1 H1 Ext.refl w1 (((re1.set _ j1).set _ j2).set _ j3)⟩
    · exact h1.elim
theorem sndS_put {o i : Ex} {eo ei : Expr} {p : Pos} (he : PE X ea (RdE X.K G W e)) (ho : PE X eo (RdE X.K G W o)) (hi : PE X ei (RdE X.K G W i)) (hs : swapsWithSole [.Subscript eo ei p] ea pos.line X.env = pure false)
    (ha : ∀ v, assign (.Subscript eo ei p) X.env v = (do
      let ov ← holding [v] (eval eo X.env)
      let iv ← holding [v, ov] (eval ei X.env)
      standAt p
      holding [v, ov, iv] (setItem ov iv v)
      release [v, ov, iv] [])) : PS X (.Assign [.Subscript eo ei p] ea pos) (RdS X.K G fuel W (.put o i e)) :=
  PSimp (ps_asg he (pg_sub ho hi set_list ha) hs rfl rfl) fun D σ H ⟨ca, mu, ρ, S, w, re, h⟩ => stepS w re h fun d S1 v ca1 mu1 H1 e1 w1 re1 i1 h1 =>
    stepS w1 re1 h1 fun d2 S2 v2 ca2 mu2 H2 e2 w2 re2 i2 h2 => stepS w2 re2 h2 fun d3 S3 v3 ca3 mu3 H3 e3 w3 re3 i3 h3 => by
      split at h3
      · rename_i n k
        cases i3 with
        | int k =>
        have i2' := i2.ex e3
        cases i2' with
        | @cell a _ q1 =>
          split at h3
          · rename_i xs q2
            split at h3
            · rename_i j q3
              obtain ⟨g1, vs, g2, g3⟩ := w3.ob n a _ q1 q2
              obtain ⟨x, w4⟩ := cell_upd (ob := .lst (xs.set j d)) (o := .lst (vs.set j v)) w3 q1 g1 (by rw [g2]; simp) fun ca' mu' H' x em eh => ⟨by rw [em]; exact g1, _, eh, (g3.ex x).set j (((i1.ex e2).ex e3).ex x)⟩
              exact ⟨a, vs, k, j, rfl, rfl, g2, by rw [g3.length]; exact q3, h3 σ ca3 mu3 _ x w4 (re3.ext x)⟩
            · exact h3.elim
          · exact h3.elim
      · exact h3.elim
theorem sndS_app {i : Nat} {x : Str} {p apos cpos : Pos} (hu : X.calm = true) (ho : PE X (.Name x p) (RdE X.K G W (.var i))) (he : PE X ea (RdE X.K G W e)) (hn : notStar ea = true) (hl : (apos.endLine == cpos.line) = true) :
    PS X (.Expr (.Call (.Attribute (.Name x p) "append" apos) [ea] [] cpos) pos) (RdS X.K G fuel W (.app i e)) :=
  PSimp (ps_expr (pe_bm PySem.F.plainAttrs_list PySem.F.slot_list_append PySem.F.type_list_append mt_append ho (pa_cons he pa_nil (star_ne hn _ _)) rfl (by rw [star_ne hn]; rfl) hl (star_ne hn _ _) rfl) rfl) fun D σ H ⟨ca, mu, ρ, S, w, re, h⟩ => by
    have h : flP X.K G.XA ca mu H (match ρ[i]? with
      | some (some (.cell n)) => match S[n]? with
        | some (.lst _) => onD (ev G.cons G.call e ρ S) ρ fun d S => match S[n]? with
          | some (.lst xs) => if xs.length < LN then Fl.nx ρ (S.set n (.lst (xs ++ [d]))) else .no
          | _ => .no
        | _ => .no
      | _ => .no) D W := h
    split at h
    · rename_i n q
      split at h
      · rename_i xs0 qx
        refine ⟨ca, mu, ρ, S, w, re, ?_⟩
        have e0 : ev G.cons G.call (.var i) ρ S = .ok (.cell n) S := by unfold ev; rw [q]
        rw [e0]
        intro v ca0 mu0 H0 x0 w0 i0
        cases i0 with
        | @cell a _ q0 =>
        have h0 := flP.rebase h x0
        obtain ⟨_, vs0, gg, _⟩ := w0.ob n a _ q0 qx
        refine ⟨.inl ⟨rfl, vs0, SqL.of gg⟩, stepS w0 (re.ext x0) h0 fun d S1 v ca1 mu1 H1 e1 w1 re1 i1 h1 => ?_⟩
        split at h1
        · rename_i xs q2
          split at h1
          · rename_i hl
            have q1 := e1.cell q0
            obtain ⟨g1, vs, g2, g3⟩ := w1.ob n a _ q1 q2
            obtain ⟨x, w4⟩ := cell_upd (ob := .lst (xs ++ [d])) (o := .lst (vs ++ [v])) w1 q1 g1 (by rw [g2]; simp) fun ca' mu' H' x em eh => ⟨by rw [em]; exact g1, _, eh, (g3.ex x).append (.cons (i1.ex x) .nil)⟩
            exact ⟨a, vs, v, rfl, rfl, g2, by rw [LN_eq, g3.length]; exact hl, h1 σ ca1 mu1 _ x w4 (re1.ext x)⟩
          · exact h1.elim
        · exact h1.elim
      · exact h.elim
    · exact h.elim
theorem sndS_ret (he : PE X ea (RdE X.K G W e)) : PS X (.Return (some ea) pos) (RdS X.K G fuel W (.ret e)) :=
  PSimp (ps_ret he) fun D σ H ⟨ca, mu, ρ, S, w, re, h⟩ => stepS w re h fun d S1 v ca1 mu1 H1 e1 w1 re1 i1 h1 => h1 v ca1 mu1 H1 Ext.refl w1 i1
theorem sndS_retN : PS X (.Return none pos) (RdS X.K G fuel W (.ret .non)) :=
  PSimp ps_retN fun D σ H ⟨ca, mu, ρ, S, w, re, h⟩ => h .non ca mu H Ext.refl w .non
theorem sndS_ifs {sa sb : Sxs} {la lb : List Stmt} (hc : PT X ec (RdT X.K G W e)) (ha : PSs X la (RdSs X.K G fuel W sa)) (hb : PSs X lb (RdSs X.K G fuel W sb)) : PS X (.If ec la lb pos) (RdS X.K G fuel W (.ifs e sa sb)) :=
  PSimp (ps_if hc ha hb) fun D σ H ⟨ca, mu, ρ, S, w, re, h⟩ => stepS w re h fun d S1 v ca1 mu1 H1 e1 w1 re1 i1 h1 => by
    cases i1 with
    | bl k =>
      cases k with
      | true => exact ⟨true, rfl, iteT ⟨ca1, mu1, ρ, S1, w1, re1, h1⟩⟩
      | false => exact ⟨false, rfl, iteF ⟨ca1, mu1, ρ, S1, w1, re1, h1⟩⟩
    | _ => exact h1.elim
theorem sndS_exp (he : PE X ea (RdE X.K G W e)) (hs : swapsWith ea none pos.line X.env = pure false) : PS X (.Expr ea pos) (RdS X.K G fuel W (.exp e)) :=
  PSimp (ps_expr he hs) fun D σ H ⟨ca, mu, ρ, S, w, re, h⟩ => stepS w re h fun d S1 v ca1 mu1 H1 e1 w1 re1 i1 h1 => h1 σ ca1 mu1 H1 Ext.refl w1 re1
theorem sndS_for {tg iter : Expr} {t : Tg} {it : It} {lb : List Stmt} {sb : Sxs} (hp : PassesOwn (model X.prog X.w) X.A X.env X.xe) (hc : X.calm = true) (hi : PI X tg iter (RdI X.K G W it)) (hg : PG X tg (RdG X.K t)) (hb : PSs X lb (RdSs X.K G fuel W sb)) (hs : ∀ x, foldedSetIterable iter X.env x = pure x) :
    PS X (.For tg iter lb [] pos) (RdS X.K G fuel W (.for_ t it sb)) :=
  PSimp (ps_for hp hc hi hg hb hs) fun D σ H ⟨ca, mu, ρ, S, w, re, h⟩ => stepS w re h fun xs S1 J ca1 mu1 H1 e1 w1 re1 wk h1 => by
    refine ⟨fun i m σ H => m = xs.length - i ∧ i ≤ xs.length ∧ ∃ ca2 mu2 ρ2 S2, Ext ca1 mu1 H1 ca2 mu2 H ∧ Wd X.K ca2 mu2 H S2 ∧ RE X.K ca2 mu2 H σ ρ2 ∧ flP X.K G.XA ca2 mu2 H (evFor t (exss G.cons G.call fuel sb) (xs.drop i) ρ2 S2) D W,
      ⟨xs.length, by simp, Nat.zero_le _, ca1, mu1, ρ, S1, Ext.refl, w1, re1, by rw [List.drop_zero]; exact h1⟩, ?_⟩
    rintro i m σ2 H2 ⟨rfl, hi2, ca2, mu2, ρ2, S2, x2, w2, re2, h2⟩
    by_cases hlt : i < xs.length
    · right
      refine ⟨wk.goes i ca2 mu2 H2 hlt x2, fun σ' H' => i + 1 ≤ xs.length ∧ ∃ ca2 mu2 ρ2 S2, Ext ca1 mu1 H1 ca2 mu2 H' ∧ Wd X.K ca2 mu2 H' S2 ∧ RE X.K ca2 mu2 H' σ' ρ2 ∧ flP X.K G.XA ca2 mu2 H' (evFor t (exss G.cons G.call fuel sb) (xs.drop (i + 1)) ρ2 S2) D W,
        fun σ' H' ⟨p1, p2⟩ => ⟨xs.length - (i + 1), by omega, rfl, p1, p2⟩, fun v H3 y => ?_⟩
      obtain ⟨d, qd, x3, w3, i3⟩ := wk.yields i v ca2 mu2 H2 H3 S2 hlt x2 w2 y
      have hdrop : xs.drop i = d :: xs.drop (i + 1) := by
        rw [List.drop_eq_getElem_cons hlt]
        congr 1
        have := List.getElem?_eq_getElem hlt
        rw [this] at qd
        exact Option.some.inj qd
      rw [hdrop] at h2
      have h2 : flP X.K G.XA ca2 mu2 H2 (match bindT t d ρ2 with
        | some ρ' => (exss G.cons G.call fuel sb ρ' S2).then fun ρ S => evFor t (exss G.cons G.call fuel sb) (xs.drop (i + 1)) ρ S
        | none => .no) D W := h2
      cases qb : bindT t d ρ2 with
      | none => rw [qb] at h2; exact h2.elim
      | some ρ3 =>
        rw [qb] at h2
        refine ⟨ca2, mu2, d, ρ2, ρ3, i3, re2.ext x3, qb, fun σ4 re4 _ => ⟨ca2, mu2, ρ3, S2, w3, re4, flP.seq (flP.rebase h2 x3) rfl fun ρ' S' σ' ca' mu' H' x' w' re' h' => ⟨hlt, ca', mu', ρ', S', x2.trans (x3.trans x'), w', re', h'⟩⟩⟩
    · left
      have e : i = xs.length := by omega
      subst e
      rw [List.drop_length] at h2
      exact ⟨wk.stops ca2 mu2 H2 x2, h2 σ2 ca2 mu2 H2 Ext.refl w2 re2⟩
theorem sndS_whl {lb : List Stmt} {sb : Sxs} (hp : PassesOwn (model X.prog X.w) X.A X.env X.xe) (hc : PT X ec (RdT X.K G W e)) (hb : PSs X lb (RdSs X.K G fuel W sb)) : PS X (.While ec lb [] pos) (RdS X.K G fuel W (.whl e sb)) :=
  PSimp (ps_while hp hc hb) fun D σ H ⟨ca, mu, ρ, S, w, re, h⟩ => by
    refine ⟨fun m σ H => ∃ ca mu ρ S, Wd X.K ca mu H S ∧ RE X.K ca mu H σ ρ ∧ flP X.K G.XA ca mu H (evWhl (ev G.cons G.call e) (exss G.cons G.call fuel sb) m ρ S) D W, ⟨fuel, ca, mu, ρ, S, w, re, h⟩, ?_⟩
    rintro m σ2 H2 ⟨ca2, mu2, ρ2, S2, w2, re2, h2⟩
    cases m with
    | zero => exact h2.elim
    | succ m =>
      refine stepS w2 re2 h2 fun d S3 v ca3 mu3 H3 e3 w3 re3 i3 h3 => ?_
      cases i3 with
      | bl k =>
        cases k with
        | true => exact ⟨true, rfl, iteT ⟨fun σ' H' => ∃ ca mu ρ S, Wd X.K ca mu H' S ∧ RE X.K ca mu H' σ' ρ ∧ flP X.K G.XA ca mu H' (evWhl (ev G.cons G.call e) (exss G.cons G.call fuel sb) m ρ S) D W, fun σ' H' p => ⟨m, Nat.lt_succ_self m, p⟩,
            ca3, mu3, ρ2, S3, w3, re3, flP.seq h3 rfl fun ρ' S' σ' ca' mu' H' x' w' re' h' => ⟨ca', mu', ρ', S', w', re', h'⟩⟩⟩
        | false => exact ⟨false, rfl, iteF (h3 σ2 ca3 mu3 H3 Ext.refl w3 re3)⟩
      | _ => exact h3.elim
end
end KI


set_option Elab.async false
set_option linter.all false
set_option maxRecDepth 100000
set_option autoImplicit false
set_option maxHeartbeats 2000000
/-! The checker of statements. -/
namespace KI
open PySem PySem.Spec PyProof.Rows L2

def swB : Expr → Bool
  | .ListComp _ _ _ _ | .SetComp _ _ _ _ | .DictComp _ _ _ _ _ => false
  | _ => true
theorem swB_ok {v : Expr} (h : swB v = true) (t : Option Expr) (l : Nat) (env : PySem.Env) : swapsWith v t l env = pure false := by
  cases v <;> first | rfl | cases h
/-- a list built and stored at once -/
def swL (sc : Scope) (y : Str) (p : Pos) : Expr → Bool
  | .ListComp _ _ scope pos => decide (sc.kind = .function) && decide (sc.names.lookup y = some .local) && (p.line == pos.line) && !(scope.names.any fun (n, k) => n == y && (k == .local || k == .cell))
  | _ => false
def swN (sc : Scope) : Expr → Expr → Bool
  | .Tuple ts _ _, .Tuple vs _ _ => decide (sc.kind = .function) && (match swK sc ts vs with
    | some none => true
    | _ => false)
  | .Tuple _ _ _, _ => true
  | _, _ => false
theorem swN_ok {sc : Scope} {env : PySem.Env} {tg v : Expr} (he : env.scope = sc) (h : swN sc tg v = true) : swappedStores [tg] v env = pure none ∧ (assignEach [tg] env).map (·.2) = [assign tg env] := by
  cases tg with
  | Tuple ts k p =>
    refine ⟨?_, rfl⟩
    cases v with
    | Tuple vs k2 p2 =>
      obtain ⟨h1, h2⟩ := ba (show (decide (sc.kind = .function) && (match swK sc ts vs with
        | some none => true
        | _ => false)) = true from h)
      refine swK_ok he (of_decide_eq_true h1) ?_
      split at h2
      · assumption
      · cases h2
    | _ => rfl
  | _ => cases h
def locN (C : Cc) (i : Nat) (y : Str) : Bool := decide (C.N[i]? = some y) && decide (C.sc.names.lookup y = some .local)
def isNev : Sx → Bool
  | .nev => true
  | _ => false
def isFrz : Sx → Bool
  | .frz _ => true
  | _ => false
def setB (T : Tb) (C : Cc) (i : Nat) (e : Ex) : Stmt → Bool
  | .Assign [.Name y p] v _ => decide (C.N[i]? = some y) && locB C.sc C.ss y && chkE T C e v && (swB v || swL C.sc y p v)
  | _ => false
def unpB (T : Tb) (C : Cc) (t : Tg) (e : Ex) : Stmt → Bool
  | .Assign [tg] v _ => chkG C t tg && chkE T C e v && swB v && swN C.sc tg v
  | _ => false
def retB (T : Tb) (C : Cc) (e : Ex) : Stmt → Bool
  | .Return (some v) _ => chkE T C e v
  | .Return none _ => (match e with
    | .non => true
    | _ => false)
  | _ => false
def expB (T : Tb) (C : Cc) (e : Ex) : Stmt → Bool
  | .Expr y _ => chkE T C e y && swB y
  | _ => false
def ifB : Stmt → Option (Expr × List Stmt × List Stmt)
  | .If y la lb _ => some (y, la, lb)
  | _ => none
def forB : Stmt → Option (Expr × Expr × List Stmt)
  | .For tg iter lb [] _ => some (tg, iter, lb)
  | _ => none
def whlB : Stmt → Option (Expr × List Stmt)
  | .While y lb [] _ => some (y, lb)
  | _ => none
def parB (T : Tb) (C : Cc) (i j : Nat) (es : Exs) : Stmt → Bool
  | .Assign [.Tuple [.Name y p, .Name z q] _ _] (.Tuple vs _ _) _ => locN C i y && locN C j z && decide (i ≠ j) && chkEs T C es vs && decide (vs.length = 2) && decide (C.sc.kind = .function) && decide (swK C.sc [.Name y p, .Name z q] vs = some (some [y, z]))
  | _ => false
def par3B (T : Tb) (C : Cc) (i j l : Nat) (es : Exs) : Stmt → Bool
  | .Assign [.Tuple [.Name y p, .Name z q, .Name u r] _ _] (.Tuple vs _ _) _ => locN C i y && locN C j z && locN C l u && decide (i ≠ j) && decide (i ≠ l) && decide (j ≠ l) && chkEs T C es vs && decide (vs.length = 3) && decide (C.sc.kind = .function) && decide (swK C.sc [.Name y p, .Name z q, .Name u r] vs = some (some [y, z, u]))
  | _ => false
def putB (T : Tb) (C : Cc) (o i e : Ex) : Stmt → Bool
  | .Assign [.Subscript eo ei _] v _ => chkE T C o eo && chkE T C i ei && chkE T C e v && swB v && ixB ei
  | _ => false
def appB (T : Tb) (C : Cc) (i : Nat) (e : Ex) : Stmt → Bool
  | .Expr (.Call (.Attribute (.Name y p) m apos) as [] cpos) _ => decide (C.N[i]? = some y) && visB C.sc y && nmOk y && decide (m = Str.ofString "append") && (apos.endLine == cpos.line) && (match as with
    | [a] => chkE T C e a && notStar a
    | _ => false)
  | _ => false
mutual
def chkS (T : Tb) (C : Cc) : Sx → Stmt → Bool
  | .set i e, x => setB T C i e x
  | .unp t e, x => unpB T C t e x
  | .par i j es, x => parB T C i j es x
  | .par3 i j l es, x => par3B T C i j l es x
  | .put o i e, x => putB T C o i e x
  | .dput _ _ _, _ => false
  | .app i e, x => appB T C i e x
  | .frz _, _ => false
  | .ret e, x => retB T C e x
  | .ifs c a b, x => (match ifB x with
    | some (y, la, lb) => chkE T C c y && chkSs T C a la && chkSs T C b lb
    | none => false)
  | .for_ t it b, x => (match forB x with
    | some (tg, iter, lb) => chkG C t tg && chkI T C it iter && chkSs T C b lb
    | none => false)
  | .whl c b, x => (match whlB x with
    | some (y, lb) => chkE T C c y && chkSs T C b lb
    | none => false)
  | .exp e, x => expB T C e x
  | .rai _, _ => false
  | .nev, _ => true
def chkSs (T : Tb) (C : Cc) : Sxs → List Stmt → Bool
  | .nil, xs => (match xs with
    | [] => true
    | _ => false)
  | .cons s ss, xs => bif isNev s then true else bif isFrz s then chkSs T C ss xs else (match xs with
    | x :: xs => chkS T C s x && chkSs T C ss xs
    | [] => false)
end
section
variable {T : Tb} {G : En} {fuel : Nat}
theorem locN_ok {C : Cc} {W : WX} {X : Cx} {i : Nat} {y : Str} (ok : CxOk T G C W X) (h : locN C i y = true) : X.N[i]? = some y ∧ X.env.scope.names.lookup y = some .local := by
  obtain ⟨h1, h2⟩ := ba h
  exact ⟨by rw [ok.N]; exact of_decide_eq_true h1, by rw [ok.sc]; exact of_decide_eq_true h2⟩
theorem sndS_setLc {i : Nat} {y : Str} {p pos : Pos} {C : Cc} {W : WX} {X : Cx} {e : Ex} {v : Expr} (ok : CxOk T G C W X) (hi : X.N[i]? = some y) (h : chkE T C e v = true) (hl : swL C.sc y p v = true) : PS X (.Assign [.Name y p] v pos) (RdS X.K G fuel W (.set i e)) := by
  cases v with
  | ListComp elt gs scope lpos =>
    obtain ⟨h1, h4⟩ := ba (show (decide (C.sc.kind = .function) && decide (C.sc.names.lookup y = some .local) && (p.line == lpos.line) && !(scope.names.any fun (n, k) => n == y && (k == .local || k == .cell))) = true from hl)
    obtain ⟨h1, h3⟩ := ba h1
    obtain ⟨h1, h2⟩ := ba h1
    cases e with
    | lc own tg it c e =>
      match gs, h with
      | [⟨tgx, iter, ifs, k⟩], h =>
      obtain ⟨h1', h8⟩ := ba (show (decide (k = 0) && blkC C.N C.sc scope (own.filterMap fun i => (C.N[i]?).map fun y => (y, i)) && decide ((own.filterMap fun i => (C.N[i]?).map fun y => (y, i)).map (·.2) = own) && (slotsT tg).all (fun i => own.contains i)
        && chkI T C it iter && chkG ⟨C.N, relS scope C.sc, scope⟩ tg tgx && chkC T ⟨C.N, relS scope C.sc, scope⟩ c ifs && chkE T ⟨C.N, relS scope C.sc, scope⟩ e elt) = true from h)
      obtain ⟨h1', h7⟩ := ba h1'
      obtain ⟨h1', h6⟩ := ba h1'
      obtain ⟨h1', h5⟩ := ba h1'
      obtain ⟨h1', h4'⟩ := ba h1'
      obtain ⟨h1', h3'⟩ := ba h1'
      obtain ⟨h1', h2'⟩ := ba h1'
      have e0 : k = 0 := of_decide_eq_true h1'
      subst e0
      obtain ⟨i1, i2⟩ := sndI it (tg := tgx) ok h5
      have hyl : X.env.scope.names.lookup y = some .local := by rw [ok.sc]; exact of_decide_eq_true h2
      refine PSimp (ps_setLc (own := own.filterMap fun i => (C.N[i]?).map fun y => (y, i)) ok.calm ok.nd hi hyl (sw_true (by rw [ok.sc]; exact of_decide_eq_true h1) hyl h3 (by simpa using h4)) i1 (by rw [ok.N, ok.sc]; exact blkOk_by h2')
        (g := RdG X.K tg) (fun s H A cl fp => sndG tg (blk_ok ok s H scope cl A fp) h6) (tt := ttOf X.K G c) (fun s H A cl fp => sndC c (blk_ok ok s H scope cl A fp) h7) (te := RdE X.K G W0 e) (fun s H A cl fp => (sndE e (blk_ok ok s H scope cl A fp) h8).1) i2) fun D σ H ⟨ca, mu, ρ, S, w, re, h⟩ => ?_
      rw [of_decide_eq_true h3']
      exact lc_read (fun i hi => by simpa using List.all_eq_true.mp h4' i hi) (stepS w re h fun d S1 v ca1 mu1 H1 e1 w1 re1 i1 h1 => h1 _ ca1 mu1 H1 Ext.refl w1 (re1.set i i1))
    | newc e => cases e <;> cases h
    | _ => cases h
  | _ => cases hl
theorem sndS_setB {i : Nat} {e : Ex} {x : Stmt} {C : Cc} {W : WX} {X : Cx} (ok : CxOk T G C W X) (h : setB T C i e x = true) : PS X x (RdS X.K G fuel W (.set i e)) := by
  unfold setB at h
  split at h
  · rename_i y p v pos
    obtain ⟨h1, h4⟩ := ba h
    obtain ⟨h1, h3⟩ := ba h1
    obtain ⟨h1, h2⟩ := ba h1
    obtain ⟨l1, l2⟩ := locB_ok ok h2
    have hi : X.N[i]? = some y := by rw [ok.N]; exact of_decide_eq_true h1
    rcases Bool.or_eq_true_iff.mp h4 with h4 | h4
    · exact sndS_set ok.nd hi l1 (sndE e ok h3).1 (swB_ok h4 _ _ _) l2
    · exact sndS_setLc ok hi h3 h4
  · cases h
theorem sndS_unpB {t : Tg} {e : Ex} {x : Stmt} {C : Cc} {W : WX} {X : Cx} (ok : CxOk T G C W X) (h : unpB T C t e x = true) : PS X x (RdS X.K G fuel W (.unp t e)) := by
  unfold unpB at h
  split at h
  · rename_i tg v pos
    obtain ⟨h1, h4⟩ := ba h
    obtain ⟨h1, h3⟩ := ba h1
    obtain ⟨h1, h2⟩ := ba h1
    obtain ⟨g1, g2⟩ := swN_ok ok.sc h4
    exact sndS_unp (sndE e ok h2).1 (sndG t ok h1) (swB_ok h3 (some tg) pos.line X.env) g1 g2
  · cases h
theorem sndS_retB {e : Ex} {x : Stmt} {C : Cc} {W : WX} {X : Cx} (ok : CxOk T G C W X) (h : retB T C e x = true) : PS X x (RdS X.K G fuel W (.ret e)) := by
  unfold retB at h
  split at h
  · exact sndS_ret (sndE e ok h).1
  · split at h
    · exact sndS_retN
    · cases h
  · cases h
theorem sndS_expB {e : Ex} {x : Stmt} {C : Cc} {W : WX} {X : Cx} (ok : CxOk T G C W X) (h : expB T C e x = true) : PS X x (RdS X.K G fuel W (.exp e)) := by
  unfold expB at h
  split at h
  · obtain ⟨h1, h3⟩ := ba h
    exact sndS_exp (sndE e ok h1).1 (swB_ok h3 _ _ _)
  · cases h
theorem ifB_ok {x : Stmt} {y la lb} (h : ifB x = some (y, la, lb)) : ∃ pos, x = .If y la lb pos := by
  unfold ifB at h
  split at h
  · cases h; exact ⟨_, rfl⟩
  · cases h
theorem forB_ok {x : Stmt} {y la lb} (h : forB x = some (y, la, lb)) : ∃ pos, x = .For y la lb [] pos := by
  unfold forB at h
  split at h
  · cases h; exact ⟨_, rfl⟩
  · cases h
theorem whlB_ok {x : Stmt} {y lb} (h : whlB x = some (y, lb)) : ∃ pos, x = .While y lb [] pos := by
  unfold whlB at h
  split at h
  · cases h; exact ⟨_, rfl⟩
  · cases h
theorem sndS_parB {i j : Nat} {es : Exs} {x : Stmt} {C : Cc} {W : WX} {X : Cx} (ok : CxOk T G C W X) (h : parB T C i j es x = true) : PS X x (RdS X.K G fuel W (.par i j es)) := by
  unfold parB at h
  split at h
  · rename_i y p z q k pt vs k2 pt2 pos
    obtain ⟨h1, h6⟩ := ba h
    obtain ⟨h1, h5⟩ := ba h1
    obtain ⟨h1, hl⟩ := ba h1
    obtain ⟨h1, h4⟩ := ba h1
    obtain ⟨h1, h3⟩ := ba h1
    obtain ⟨h1, h2⟩ := ba h1
    obtain ⟨a1, a2⟩ := locN_ok ok h1
    obtain ⟨b1, b2⟩ := locN_ok ok h2
    obtain ⟨a, b, rfl⟩ : ∃ a b, vs = [a, b] := by
      match vs, of_decide_eq_true hl with
      | [a, b], _ => exact ⟨a, b, rfl⟩
    exact sndS_par ok.calm ok.nd a1 b1 (of_decide_eq_true h3) a2 b2 (sndEs es ok h4).1 (swK_ok ok.sc (of_decide_eq_true h5) (of_decide_eq_true h6))
  · cases h
theorem sndS_par3B {i j l : Nat} {es : Exs} {x : Stmt} {C : Cc} {W : WX} {X : Cx} (ok : CxOk T G C W X) (h : par3B T C i j l es x = true) : PS X x (RdS X.K G fuel W (.par3 i j l es)) := by
  unfold par3B at h
  split at h
  · rename_i y p z q u r k pt vs k2 pt2 pos
    obtain ⟨h1, h9⟩ := ba h
    obtain ⟨h1, h8⟩ := ba h1
    obtain ⟨h1, hl⟩ := ba h1
    obtain ⟨h1, h7⟩ := ba h1
    obtain ⟨h1, h6⟩ := ba h1
    obtain ⟨h1, h5⟩ := ba h1
    obtain ⟨h1, h4⟩ := ba h1
    obtain ⟨h1, h3⟩ := ba h1
    obtain ⟨h1, h2⟩ := ba h1
    obtain ⟨a1, a2⟩ := locN_ok ok h1
    obtain ⟨b1, b2⟩ := locN_ok ok h2
    obtain ⟨c1, c2⟩ := locN_ok ok h3
    obtain ⟨a, b, c, rfl⟩ : ∃ a b c, vs = [a, b, c] := by
      match vs, of_decide_eq_true hl with
      | [a, b, c], _ => exact ⟨a, b, c, rfl⟩
    exact sndS_par3 ok.calm ok.nd a1 b1 c1 (of_decide_eq_true h4) (of_decide_eq_true h5) (of_decide_eq_true h6) a2 b2 c2 (sndEs es ok h7).1 (swK_ok ok.sc (of_decide_eq_true h8) (of_decide_eq_true h9))
  · cases h
theorem sndS_putB {o i e : Ex} {x : Stmt} {C : Cc} {W : WX} {X : Cx} (ok : CxOk T G C W X) (h : putB T C o i e x = true) : PS X x (RdS X.K G fuel W (.put o i e)) := by
  unfold putB at h
  split at h
  · rename_i eo ei p v pos
    obtain ⟨h1, h5⟩ := ba h
    obtain ⟨h1, h4⟩ := ba h1
    obtain ⟨h1, h3⟩ := ba h1
    obtain ⟨h1, h2⟩ := ba h1
    exact sndS_put (sndE e ok h3).1 (sndE o ok h1).1 (sndE i ok h2).1 (swB_ok h4 (some (.Subscript eo ei p)) pos.line X.env) (fun v => by cases ei <;> first | rfl | cases h5)
  · cases h
theorem sndS_appB {i : Nat} {e : Ex} {x : Stmt} {C : Cc} {W : WX} {X : Cx} (ok : CxOk T G C W X) (h : appB T C i e x = true) : PS X x (RdS X.K G fuel W (.app i e)) := by
  unfold appB at h
  split at h
  · rename_i y p m apos as cpos pos
    obtain ⟨h1, h5⟩ := ba h
    obtain ⟨h1, h7⟩ := ba h1
    obtain ⟨g1, h4⟩ := ba h1
    have em : m = Str.ofString "append" := of_decide_eq_true h4
    subst em
    split at h5
    · rename_i a
      obtain ⟨h5, h6⟩ := ba h5
      exact sndS_app ok.calm (sndE (.var i) ok (show chkE T C (.var i) (.Name y p) = true from g1)).1 (sndE e ok h5).1 h6 h7
    · cases h5
  · cases h
mutual
theorem sndS : ∀ (s : Sx) {x : Stmt} {C : Cc} {W : WX} {X : Cx}, CxOk T G C W X → PassesOwn (model X.prog X.w) X.A X.env X.xe → chkS T C s x = true → PS X x (RdS X.K G fuel W s)
  | .set i e, x, C, W, X, ok, hp, h => sndS_setB ok h
  | .unp t e, x, C, W, X, ok, hp, h => sndS_unpB ok h
  | .par i j es, x, C, W, X, ok, hp, h => sndS_parB ok h
  | .par3 i j l es, x, C, W, X, ok, hp, h => sndS_par3B ok h
  | .put o i e, x, C, W, X, ok, hp, h => sndS_putB ok h
  | .dput _ _ _, x, C, W, X, ok, hp, h => by cases h
  | .app i e, x, C, W, X, ok, hp, h => sndS_appB ok h
  | .frz _, x, C, W, X, ok, hp, h => by cases h
  | .ret e, x, C, W, X, ok, hp, h => sndS_retB ok h
  | .ifs c a b, x, C, W, X, ok, hp, h => by
    have h : (match ifB x with
      | some (y, la, lb) => chkE T C c y && chkSs T C a la && chkSs T C b lb
      | none => false) = true := h
    split at h
    · rename_i y la lb q
      obtain ⟨pos, rfl⟩ := ifB_ok q
      obtain ⟨h1, h3⟩ := ba h
      obtain ⟨h1, h2⟩ := ba h1
      exact sndS_ifs (sndE c ok h1).2 (sndSs a ok hp h2) (sndSs b ok hp h3)
    · cases h
  | .for_ t it b, x, C, W, X, ok, hp, h => by
    have h : (match forB x with
      | some (tg, iter, lb) => chkG C t tg && chkI T C it iter && chkSs T C b lb
      | none => false) = true := h
    split at h
    · rename_i tg iter lb q
      obtain ⟨pos, rfl⟩ := forB_ok q
      obtain ⟨h1, h3⟩ := ba h
      obtain ⟨h1, h2⟩ := ba h1
      obtain ⟨i1, i2⟩ := sndI it (tg := tg) ok h2
      exact sndS_for hp ok.calm i1 (sndG t ok h1) (sndSs b ok hp h3) i2
    · cases h
  | .whl c b, x, C, W, X, ok, hp, h => by
    have h : (match whlB x with
      | some (y, lb) => chkE T C c y && chkSs T C b lb
      | none => false) = true := h
    split at h
    · rename_i y lb q
      obtain ⟨pos, rfl⟩ := whlB_ok q
      obtain ⟨h1, h3⟩ := ba h
      exact sndS_whl hp (sndE c ok h1).2 (sndSs b ok hp h3)
    · cases h
  | .exp e, x, C, W, X, ok, hp, h => sndS_expB ok h
  | .rai _, x, C, W, X, ok, hp, h => by cases h
  | .nev, x, C, W, X, ok, hp, h => sndS_nev
theorem sndSs : ∀ (ss : Sxs) {xs : List Stmt} {C : Cc} {W : WX} {X : Cx}, CxOk T G C W X → PassesOwn (model X.prog X.w) X.A X.env X.xe → chkSs T C ss xs = true → PSs X xs (RdSs X.K G fuel W ss)
  | .nil, xs, C, W, X, ok, hp, h => by
    cases xs with
    | nil => exact sndS_nil
    | cons _ _ => cases h
  | .cons s ss, xs, C, W, X, ok, hp, h => by
    cases q : isNev s with
    | true =>
      cases s with
      | nev => exact sndS_nevs
      | _ => cases q
    | false =>
      cases q2 : isFrz s with
      | true =>
        cases s with
        | frz i => exact sndS_frz (sndSs ss ok hp h)
        | _ => cases q2
      | false =>
        unfold chkSs at h
        rw [q, q2] at h
        cases xs with
        | nil => cases h
        | cons x xs =>
          obtain ⟨h1, h2⟩ := ba (show (chkS T C s x && chkSs T C ss xs) = true from h)
          exact sndS_cons (sndS s ok hp h1) (sndSs ss ok hp h2)
end
end
end KI


set_option Elab.async false
set_option linter.all false
set_option maxRecDepth 100000
set_option autoImplicit false
set_option maxHeartbeats 2000000
namespace KI
open PySem PySem.Spec PyProof.Rows L2
theorem lookup_zip {ns : List Str} {us : List Value} (nd : ns.Nodup) (hl : us.length = ns.length) : ∀ (i : Nat) (n : Str) (u : Value), ns[i]? = some n → us[i]? = some u → (ns.zip us).lookup n = some u := by
  induction ns generalizing us with
  | nil => intro i n u h; simp at h
  | cons m ns ih =>
    cases us with
    | nil => simp at hl
    | cons w us =>
      intro i n u h1 h2
      cases i with
      | zero => simp at h1 h2; subst h1 h2; simp [List.lookup]
      | succ i =>
        have nd' := List.nodup_cons.mp nd
        have hn : n ≠ m := fun e => nd'.1 (by subst e; exact List.mem_of_getElem? (by simpa using h1))
        simp only [List.zip_cons_cons, List.lookup]
        have : (n == m) = false := by simpa using hn
        rw [this]
        exact ih nd'.2 (by simpa using hl) i n u (by simpa using h1) (by simpa using h2)
theorem lookup_zip_some {ns : List Str} {us : List Value} (hl : us.length = ns.length) {n : Str} (h : n ∈ ns) (nd : ns.Nodup) : ((ns.zip us).lookup n).isNone = false := by
  obtain ⟨i, h1, e⟩ := List.getElem_of_mem h
  have h2 : i < us.length := by omega
  rw [lookup_zip nd hl i n us[i] (by rw [List.getElem?_eq_getElem h1, e]) (List.getElem?_eq_getElem h2)]
  rfl
theorem binds_zip : ∀ {ns : List Str} {us : List Value} (f : Str → Option Value), us.length = ns.length → (∀ (i : Nat) (n : Str) (u : Value), ns[i]? = some n → us[i]? = some u → f n = some u) → ns.filterMap (fun n => (f n).map (n, ·)) = ns.zip us
  | [], [], _, _, _ => rfl
  | [], _ :: _, _, h, _ => by cases h
  | _ :: _, [], _, h, _ => by cases h
  | n :: ns, u :: us, f, h, k => by
    rw [List.filterMap_cons, k 0 n u rfl rfl]
    show (n, u) :: _ = (n, u) :: _
    rw [binds_zip f (by simpa using h) fun i n u h1 h2 => k (i + 1) n u (by simpa using h1) (by simpa using h2)]
    rfl
theorem bind_plain {x qual : Str} {as : List Arg} {kd : List (Option Expr)} {body : List Stmt} {scope : Scope} (nd : (as.map (·.arg)).Nodup) (kV doc pm : Value) (an : Option Addr) (cdv ct : Value) (us : List Value) (hl : us.length = (as.map (·.arg)).length) :
    bindArgs (PySem.W.fnOf x qual ⟨[], as, none, [], kd, none, []⟩ body scope .none kV doc pm an cdv ct) ⟨us, []⟩ = pure ((as.map (·.arg)).zip us) := by
  generalize hns : as.map (·.arg) = ns at *
  have h1 : (ns.filter fun n => ((ns.zip us).lookup n).isNone) = [] := by
    rw [List.filter_eq_nil_iff]
    intro n hn
    rw [lookup_zip_some hl hn nd]
    simp
  have h2 := binds_zip (fun n => (ns.zip us).lookup n) hl fun i n u => lookup_zip nd hl i n u
  have h3 : ¬ us.length > ns.length := by omega
  have e : seqItems? (Value.none) = (pure none : Sem (Option (Array Value))) := rfl
  unfold bindArgs
  simp only [PySem.W.fnOf, List.map_nil, List.nil_append, List.append_nil, hns, List.forIn_nil, pure_bind, e, Option.getD_none, Array.toList_empty, List.length_nil, Nat.sub_zero, Nat.zero_sub, List.drop_nil, List.take_length, List.zip_nil_right, h1, h3, decide_false, Bool.false_and, Bool.false_eq_true, if_false, List.isEmpty_nil, Bool.not_true, List.drop_length]
  rw [h2]
end KI


set_option Elab.async false
set_option linter.all false
set_option maxRecDepth 100000
set_option autoImplicit false
set_option maxHeartbeats 2000000
/-! Defs, the whole table of them, the law. -/
namespace KI
open PySem PySem.Spec PyProof.Rows L2

/-! ### data without cells is the same for every row of cells -/
section
variable {K : PySem.W.Frag} {ca mu ca' mu' : List Addr} {H H' : Hp} {S : Sto}
mutual
theorem Is.pur (hp : ∀ a, a ∈ mu' → a ∈ mu) : ∀ (d : D) {v : V}, d.pure = true → Is K ca mu H v d → Is K ca' mu' H v d
  | .non, _, _, h => by cases h; exact .non
  | .bl b, _, _, h => by cases h; exact .bl b
  | .int i, _, _, h => by cases h; exact .int i
  | .str s, _, _, h => by cases h; exact .str s
  | .tup ds, _, p, h => by cases h with | tup h1 h2 => exact .tup (h1.imp (fun z => ⟨z.1, fun q => z.2 (hp _ q)⟩) id) (IsL.pur hp ds p h2)
  | .lst ds, _, p, h => by cases h with | lst h1 h2 h3 => exact .lst h1 (fun q => h2 (hp _ q)) (IsL.pur hp ds p h3)
  | .dic ds, _, p, h => by cases h with | dic h1 h2 h3 => exact .dic h1 (fun q => h2 (hp _ q)) (IsK.pur hp ds p h3)
  | .ro ds, _, p, h => by cases h with | ro h1 h2 => exact .ro (h1.imp (fun z => ⟨z.1, fun q => z.2 (hp _ q)⟩) id) (IsL.pur hp ds p h2)
  | .cell n, _, p, h => by cases p
theorem IsL.pur (hp : ∀ a, a ∈ mu' → a ∈ mu) : ∀ (ds : List D) {vs : List V}, pureL ds = true → IsL K ca mu H vs ds → IsL K ca' mu' H vs ds
  | [], _, _, h => by cases h; exact .nil
  | d :: ds, _, p, h => by
    obtain ⟨p1, p2⟩ := ba (show (d.pure && pureL ds) = true from p)
    cases h with | cons h1 h2 => exact .cons (Is.pur hp d p1 h1) (IsL.pur hp ds p2 h2)
theorem IsK.pur (hp : ∀ a, a ∈ mu' → a ∈ mu) : ∀ (ds : List (Key × D)) {vs : List (Key × V)}, pureK ds = true → IsK K ca mu H vs ds → IsK K ca' mu' H vs ds
  | [], _, _, h => by cases h; exact .nil
  | (_, d) :: ds, _, p, h => by
    obtain ⟨p1, p2⟩ := ba (show (d.pure && pureK ds) = true from p)
    cases h with | cons h1 h2 => exact .cons (Is.pur hp d p1 h1) (IsK.pur hp ds p2 h2)
end
/-- a store of its own is left -/
theorem own_back (w : Wd K ca mu H S) (x : Ext [] mu H ca' mu' H') : Ext ca mu H ca mu H' ∧ Wd K ca mu H' S ∧ ∀ a, a ∈ mu → a ∈ mu' := by
  have kp : ∀ a o, H a = some o → H' a = some o := fun a o h => x.kp a o h fun z => nomatch z.1
  have e : Ext ca mu H ca mu H' := ⟨⟨[], by simp, fun _ z => nomatch z⟩, fun _ z => .inl z, fun a o h _ => kp a o h, x.tr, fun _ z _ _ => z⟩
  refine ⟨e, ⟨w.len, w.nd, fun n a o h1 h2 => (w.ob n a o h1 h2).ext e id fun ha => ?_, fun a z => x.tr a (w.tm a z), fun a z => x.tr a (w.tc a z)⟩, fun a z => x.fb a z (fun q => nomatch q) (w.tm a z)⟩
  cases q : H a with
  | none => exact absurd q (w.tm a ha)
  | some o => exact kp a o q
theorem own_in (w : Wd K ca mu H S) : Wd K [] mu H [] := ⟨rfl, .nil, fun _ _ _ h => by simp at h, w.tm, fun _ z => nomatch z⟩
end
theorem RE_start {K : PySem.W.Frag} {ca mu : List Addr} {H : Hp} {N : List Str} {vs : List V} {ds : List D} (h : IsL K ca mu H vs ds) {n : Nat} (hn : ds.length = n) (hN : n ≤ N.length) : RE K ca mu H (L2.start N vs) (ds.map some ++ List.replicate (N.length - n) none) := by
  subst hn
  refine ⟨?_, fun i d q => ?_⟩
  · unfold L2.start
    rw [List.length_append, List.length_append, List.length_map, List.length_map, List.length_replicate, List.length_replicate, h.length]
  · unfold L2.start
    by_cases hi : i < ds.length
    · rw [List.getElem?_append_left (by simpa using hi), List.getElem?_map] at q
      cases e : ds[i]? with
      | none => rw [e] at q; cases q
      | some d' =>
        rw [e] at q
        cases q
        obtain ⟨v, e1, e2⟩ := h.get e
        refine ⟨v, ?_, e2⟩
        rw [List.getElem?_append_left (by simpa [h.length] using hi), List.getElem?_map, e1]
        rfl
    · rw [List.getElem?_append_right (by simpa using hi), List.getElem?_replicate] at q
      split at q <;> cases q
/-! ### the table -/
/-- a def: the code, the text -/
structure Fe where
  d : Def
  st : Stmt
def Fe.D (e : Fe) : He.DefD := ⟨(e.d.name, none), e.d.name, e.d.name, defArgs e.st, defBody e.st, defScope e.st, [], []⟩
def argOk (p : Arguments) (ps : List Str) : Bool := p.posonlyargs.isEmpty && p.vararg.isNone && p.kwonlyargs.isEmpty && p.kwarg.isNone && p.defaults.isEmpty && decide (p.args.map (·.arg) = ps) && decide ps.Nodup
def scOk (N ps : List Str) (sc : Scope) : Bool := decide (sc.kind = .function) && !sc.isCoroutine && !sc.isGenerator && decide N.Nodup && decide (N.take ps.length = ps)
  && ps.all (fun x => decide (sc.names.lookup x = some .local) || decide (sc.names.lookup x = some .cell)) && sc.names.all (fun y => decide (y.2 ≠ .free))
def chkF (T : Tb) (e : Fe) : Bool := decide (e.d.nps ≤ e.d.N.length) && argOk (defArgs e.st) (e.d.N.take e.d.nps) && scOk e.d.N (e.d.N.take e.d.nps) (defScope e.st) && chkSs T ⟨e.d.N, defScope e.st, defScope e.st⟩ e.d.body (defBody e.st)
theorem argOk_ok {p : Arguments} {ps : List Str} (h : argOk p ps = true) {x qual : Str} {body : List Stmt} {scope : Scope} (kV doc pm : Value) (an : Option Addr) (cdv ct : Value) (us : List Value) (hl : us.length = ps.length) :
    bindArgs (PySem.W.fnOf x qual p body scope .none kV doc pm an cdv ct) ⟨us, []⟩ = pure (ps.zip us) := by
  obtain ⟨h1, h7⟩ := ba h
  obtain ⟨h1, h6⟩ := ba h1
  obtain ⟨h1, h5⟩ := ba h1
  obtain ⟨h1, h4⟩ := ba h1
  obtain ⟨h1, h3⟩ := ba h1
  obtain ⟨h1, h2⟩ := ba h1
  obtain ⟨a, b, c, d, e, f, g⟩ := p
  cases a with
  | cons _ _ => cases h1
  | nil =>
  cases c with
  | some _ => cases h2
  | none =>
  cases d with
  | cons _ _ => cases h3
  | nil =>
  cases f with
  | some _ => cases h4
  | none =>
  cases g with
  | cons _ _ => cases h5
  | nil =>
  have e6 : b.map (·.arg) = ps := of_decide_eq_true h6
  subst e6
  exact bind_plain (of_decide_eq_true h7) kV doc pm an cdv ct us hl
theorem scOk_ok {N ps : List Str} {sc : Scope} (h : scOk N ps sc = true) : FnScope N ps sc := by
  obtain ⟨h1, h7⟩ := ba h
  obtain ⟨h1, h6⟩ := ba h1
  obtain ⟨h1, h5⟩ := ba h1
  obtain ⟨h1, h4⟩ := ba h1
  obtain ⟨h1, h3⟩ := ba h1
  obtain ⟨h1, h2⟩ := ba h1
  refine ⟨of_decide_eq_true h1, by simpa using h2, by simpa using h3, of_decide_eq_true h4, of_decide_eq_true h5, fun x hx => ?_, fun y hy => of_decide_eq_true (List.all_eq_true.mp h7 y hy)⟩
  rcases Bool.or_eq_true_iff.mp (List.all_eq_true.mp h6 x hx) with q | q
  · exact .inl (of_decide_eq_true q)
  · exact .inr (of_decide_eq_true q)
/-! ### constants of the top -/
mutual
def cstB (K : PySem.W.Frag) : Value → D → Bool
  | u, .non => (match u with
    | .none => true
    | _ => false)
  | u, .bl b => (match u with
    | .bool c => decide (c = b)
    | _ => false)
  | u, .int i => (match u with
    | .int j _ => decide (j = i)
    | _ => false)
  | u, .str s => (match u with
    | .str t _ => decide (t = s)
    | _ => false)
  | u, .tup ds => (match u with
    | .ref a => (match K.lookup a with
      | some ⟨.type c, _, .seq its _, _⟩ => decide (c = "tuple") && decide (its.size ≤ sizeLine) && cstL K its.toList ds
      | _ => false)
    | _ => false)
  | _, _ => false
def cstL (K : PySem.W.Frag) : List Value → List D → Bool
  | us, [] => us.isEmpty
  | us, d :: ds => (match us with
    | u :: us => cstB K u d && cstL K us ds
    | [] => false)
end
mutual
theorem cstB_ok {K : PySem.W.Frag} : ∀ (d : D) {u : Value}, cstB K u d = true → ∃ v, RelV v u ∧ ∀ ca mu H, Is K ca mu H v d
  | .non, u, h => by
    cases u with
    | none => exact ⟨.non, rfl, fun _ _ _ => .non⟩
    | _ => cases h
  | .bl b, u, h => by
    cases u with
    | bool c =>
      have e : c = b := of_decide_eq_true h
      subst e
      exact ⟨.bl c, rfl, fun _ _ _ => .bl c⟩
    | _ => cases h
  | .int i, u, h => by
    cases u with
    | int j t =>
      have e : j = i := of_decide_eq_true h
      subst e
      exact ⟨.int j, ⟨t, rfl⟩, fun _ _ _ => .int j⟩
    | _ => cases h
  | .str s, u, h => by
    cases u with
    | str j t =>
      have e : j = s := of_decide_eq_true h
      subst e
      exact ⟨.str j, ⟨t, rfl⟩, fun _ _ _ => .str j⟩
    | _ => cases h
  | .tup ds, u, h => by
    cases u with
    | ref a =>
      have h : (match K.lookup a with
        | some ⟨.type c, _, .seq its _, _⟩ => decide (c = "tuple") && decide (its.size ≤ sizeLine) && cstL K its.toList ds
        | _ => false) = true := h
      split at h
      · rename_i c od its n osl q
        obtain ⟨h1, h3⟩ := ba h
        obtain ⟨h1, h2⟩ := ba h1
        obtain ⟨vs, h4, h5⟩ := cstL_ok ds h3
        exact ⟨.ref a, rfl, fun ca mu H => .tup (.inr ⟨_, its, n, q, congrArg Value.type (of_decide_eq_true h1), rfl, of_decide_eq_true h2, h4⟩) (h5 ca mu H)⟩
      · cases h
    | _ => cases h
  | .lst _, u, h => by cases h
  | .dic _, u, h => by cases h
  | .ro _, u, h => by cases h
  | .cell _, u, h => by cases h
theorem cstL_ok {K : PySem.W.Frag} : ∀ (ds : List D) {us : List Value}, cstL K us ds = true → ∃ vs, Vals vs us ∧ ∀ ca mu H, IsL K ca mu H vs ds
  | [], us, h => by
    cases us with
    | nil => exact ⟨[], .nil, fun _ _ _ => .nil⟩
    | cons _ _ => cases h
  | d :: ds, us, h => by
    cases us with
    | nil => cases h
    | cons u us =>
      obtain ⟨h1, h2⟩ := ba (show (cstB K u d && cstL K us ds) = true from h)
      obtain ⟨v, a1, a2⟩ := cstB_ok d h1
      obtain ⟨vs, b1, b2⟩ := cstL_ok ds h2
      exact ⟨v :: vs, .cons a1 b1, fun ca mu H => .cons (a2 ca mu H) (b2 ca mu H)⟩
end
/-- the name x of the top is d -/
def conB (K : PySem.W.Frag) (c : Str × D) : Bool := match PySem.W.nsIn K mainGlobals c.1 with
  | some (some u) => cstB K u c.2
  | _ => false
theorem conB_ok {K : PySem.W.Frag} {h : Heap} {mg : Str → Option Value} (X : K.In h) (G : h.Ns mainGlobals mg) {c : Str × D} (q : conB K c = true) : ∃ v u, mg c.1 = some u ∧ RelV v u ∧ ∀ ca mu H, Is K ca mu H v c.2 := by
  unfold conB at q
  split at q
  · rename_i u e
    obtain ⟨v, a, b⟩ := cstB_ok c.2 q
    exact ⟨v, u, PySem.W.mg_of X G e, a, b⟩
  · cases q
/-! ### all of it -/
/-- a law's code -/
structure Lw where
  fns : List Fe
  cs : List (Str × D)
  bls : List Str
  fuel : Nat
  XA : Nat → Addr
variable (L : Lw)
def Lw.tf (L : Lw) : Nat → Option Def := fun f => (L.fns[f]?).map (·.d)
def Lw.cons (L : Lw) : Nat → D := fun c => ((L.cs[c]?).map (·.2)).getD .non
def Lw.T (L : Lw) : Tb := ⟨fun f => (L.fns[f]?).map fun e => (e.d.name, e.d.nps), fun c => (L.cs[c]?).map (·.1), fun y => L.bls.contains y⟩
def Lw.run (L : Lw) (k : Nat) : Call := callN L.cons L.tf L.fuel k
def Lw.G (L : Lw) (k : Nat) : En := ⟨L.XA, L.cons, L.run k⟩
def Lw.fa (L : Lw) : List He.Fa := (L.fns.map fun e => .glo e.d.name) ++ L.bls.map .free
def Lw.fn (L : Lw) : List He.DefD := L.fns.map Fe.D
def Lw.chk (L : Lw) : Bool := L.fns.all (chkF L.T)
structure Lw.Says (L : Lw) (K : PySem.W.Frag) : Prop where
  d : He.SaysD L.fa L.fn K
  c : (L.cs.all (conB K)) = true
section
variable {L : Lw} {P : Program} {w : World} {K : PySem.W.Frag} {mg : Str → Option Value} {base h : Heap}
theorem Lw.Says.def_ (c : L.Says K) {f : Nat} {e : Fe} (hf : L.fns[f]? = some e) : ∃ fd, FunD K e.d.name e.d.name (defArgs e.st) (defBody e.st) (defScope e.st) [] [] (He.ga K e.d.name) fd :=
  He.SaysD.defs (d := e.D) c.d (List.mem_map_of_mem (List.mem_of_getElem? hf))
theorem Lw.Says.glo (c : L.Says K) (X : K.In h) (G : h.Ns mainGlobals mg) {f : Nat} {e : Fe} (hf : L.fns[f]? = some e) : mg e.d.name = some (.ref (He.ga K e.d.name)) :=
  He.glo_ok X G (He.SaysD.facts c.d (List.mem_append_left _ (List.mem_map_of_mem (List.mem_of_getElem? hf))))
theorem Lw.binds (hc : L.chk = true) {f : Nat} {e : Fe} (hf : L.fns[f]? = some e) {a : Addr} {fd : FuncData} (F : FunD K e.d.name e.d.name (defArgs e.st) (defBody e.st) (defScope e.st) [] [] a fd) : Binds K fd (e.d.N.take e.d.nps) [] := by
  obtain ⟨h1, _⟩ := ba (List.all_eq_true.mp hc e (List.mem_of_getElem? hf))
  obtain ⟨h1, _⟩ := ba h1
  obtain ⟨_, h2⟩ := ba h1
  exact F.bindsN fun kV doc pm an cdv ct us hl => argOk_ok h2 kV doc pm an cdv ct us hl
/-- every def keeps its promise -/
theorem Lw.ok (hc : L.chk = true) (c : L.Says K) (X : K.In h) (G : h.Ns mainGlobals mg) : ∀ (k f : Nat) (e : Fe) (fd : FuncData), L.fns[f]? = some e → FunD K e.d.name e.d.name (defArgs e.st) (defBody e.st) (defScope e.st) [] [] (He.ga K e.d.name) fd →
    FnOk P w K mg base (L2.CX P w) k (He.ga K e.d.name) fd (e.d.N.take e.d.nps) (SpF K (L.G k) f e.d.nps) := by
  intro k
  induction k with
  | zero =>
    intro f e fd hf F
    refine ⟨fun vs H Q E q => ?_, fun A outer s H args us vs Q E _ _ _ _ q => ?_⟩
    all_goals
      obtain ⟨_, _, _, _, _, _, _, z⟩ := q
      exact z.elim
  | succ k ih =>
    intro f e fd hf F
    obtain ⟨h1, h4⟩ := ba (List.all_eq_true.mp hc e (List.mem_of_getElem? hf))
    obtain ⟨h1, h3⟩ := ba h1
    obtain ⟨h1, h2⟩ := ba h1
    have hN : e.d.nps ≤ e.d.N.length := of_decide_eq_true h1
    have hpl : (e.d.N.take e.d.nps).length = e.d.nps := by rw [List.length_take]; omega
    refine F.ok (scOk_ok h3) (fun vs H Q E q => by rw [hpl]; exact q.1) fun cdv A outer s H vs Q E hr q => ?_
    obtain ⟨hlen, ca, mu, ds, S, wd, iL, h0⟩ := q
    have ok : CxOk L.T (L.G k) ⟨e.d.N, defScope e.st, defScope e.st⟩ (fun cls d _ H => E cls d H) (cxOf (L2.CX P w) P w K mg base e.d.N e.d.name (defScope e.st) (He.ga K e.d.name) cdv A outer s H E) := by
      refine ⟨rfl, (scOk_ok h3).nd, rfl, fun _ _ => rfl, rfl, ?_, takes_of rfl rfl rfl rfl, fun f' y n hy => ?_, fun i y hy => ?_, fun y hy => ?_⟩
      · have := hr.un
        show (A.deeper _).units + 65 < cLine
        omega
      · have hy : (L.fns[f']?).map (fun e => (e.d.name, e.d.nps)) = some (y, n) := hy
        cases q2 : L.fns[f']? with
        | none => rw [q2] at hy; cases hy
        | some e2 =>
          rw [q2] at hy
          cases hy
          obtain ⟨fd2, F2⟩ := c.def_ q2
          exact ⟨k, _, fd2, _, ih f' e2 fd2 q2 F2, hr, c.glo X G q2, F2.kp, Lw.binds hc q2 F2⟩
      · have hy : (L.cs[i]?).map (·.1) = some y := hy
        cases q2 : L.cs[i]? with
        | none => rw [q2] at hy; cases hy
        | some e2 =>
          rw [q2] at hy
          cases hy
          obtain ⟨v, u, a1, a2, a3⟩ := conB_ok X G (List.all_eq_true.mp c.c e2 (List.mem_of_getElem? q2))
          refine ⟨v, u, a1, a2, fun ca mu H => ?_⟩
          show Is K ca mu H v (((L.cs[i]?).map (·.2)).getD .non)
          rw [q2]
          exact a3 ca mu H
      · exact He.free_ok X G (He.SaysD.facts c.d (List.mem_append_right _ (List.mem_map_of_mem (by simpa using (show L.bls.contains y = true from hy)))))
    refine ⟨RdSs K (L.G k) L.fuel (fun cls d _ H => E cls d H) e.d.body, sndSs e.d.body ok (passes_of rfl) h4, ?_⟩
    have hcall : (L.G (k + 1)).call f ds S = callN L.cons L.tf L.fuel (k + 1) f ds S := rfl
    rw [hcall] at h0
    unfold callN at h0
    have htf : L.tf f = some e.d := by unfold Lw.tf; rw [hf]; rfl
    rw [htf] at h0
    have hlen2 : ds.length = e.d.nps := by rw [← iL.length]; exact hlen
    simp only at h0
    rw [if_pos ⟨hlen2, hN⟩] at h0
    cases hreg : e.d.reg with
    | false =>
      rw [hreg] at h0
      refine ⟨ca, mu, _, S, wd, RE_start iL hlen2 hN, ?_⟩
      have h0 : okR K L.XA (IsR K) ca mu H (match exss L.cons (callN L.cons L.tf L.fuel k) L.fuel e.d.body (ds.map some ++ List.replicate (e.d.N.length - e.d.nps) none) S with
          | .nx _ S' => .ok .non S'
          | .rt v S' => .ok v S'
          | .exc x _ S' => .exc x S'
          | .no => .no) Q E := h0
      show flP K L.XA ca mu H (exss L.cons (callN L.cons L.tf L.fuel k) L.fuel e.d.body _ S) _ _
      cases hx : exss L.cons (callN L.cons L.tf L.fuel k) L.fuel e.d.body (ds.map some ++ List.replicate (e.d.N.length - e.d.nps) none) S with
      | nx ρ S' => rw [hx] at h0; exact fun σ' ca' mu' H' x w re => h0 .non ca' mu' H' x w .non
      | rt d S' => rw [hx] at h0; exact h0
      | exc x ρ S' => rw [hx] at h0; exact fun cls dd σ' ca' mu' H' x w re i => h0 cls dd ca' mu' H' x w i
      | no => rw [hx] at h0; exact h0.elim
    | true =>
      rw [hreg] at h0
      simp only at h0
      split at h0
      · rename_i hp
        refine ⟨[], mu, _, [], own_in wd, RE_start (IsL.pur (fun _ z => z) ds hp iL) hlen2 hN, ?_⟩
        show flP K L.XA [] mu H (exss L.cons (callN L.cons L.tf L.fuel k) L.fuel e.d.body _ []) _ _
        cases hx : exss L.cons (callN L.cons L.tf L.fuel k) L.fuel e.d.body (ds.map some ++ List.replicate (e.d.N.length - e.d.nps) none) [] with
        | nx ρ S' =>
          rw [hx] at h0
          exact fun σ' ca' mu' H' x w' re => h0 .non ca mu H' (own_back wd x).1 (own_back wd x).2.1 .non
        | rt d S' =>
          rw [hx] at h0
          simp only at h0
          split at h0
          · rename_i hd
            exact fun v ca' mu' H' x w' i => h0 v ca mu H' (own_back wd x).1 (own_back wd x).2.1 (Is.pur (own_back wd x).2.2 d hd i)
          · exact h0.elim
        | exc x ρ S' =>
          rw [hx] at h0
          simp only at h0
          split at h0
          · rename_i hd
            intro cls dd σ' ca' mu' H' x' w' re i
            refine h0 cls dd ca mu H' (own_back wd x').1 (own_back wd x').2.1 ⟨i.1, ?_⟩
            have i2 := i.2
            cases hfs : x.fs with
            | nil => rw [hfs] at i2; exact i2
            | cons a as =>
              rw [hfs] at i2 hd
              obtain ⟨d, vs, g1, g2, g3, g4, g5⟩ := i2
              exact ⟨d, vs, g1, fun z => g2 ((own_back wd x').2.2 _ z), g3, g4, IsL.pur (own_back wd x').2.2 _ hd g5⟩
          · exact h0.elim
        | no => rw [hx] at h0; exact h0.elim
      · exact h0.elim
end
/-! ### the end -/
/-- an exception of whichever world -/
def CXe (P : Program) : CXT := fun outer H s E u s' => ∃ w, L2.CX P w outer H s E u s'
theorem FnOk.cxe {P : Program} {w : World} {K : PySem.W.Frag} {mg : Str → Option Value} {base : Heap} {k : Nat} {f : Addr} {fd : FuncData} {ps : List Str} {sp : Sp} (F : FnOk P w K mg base (L2.CX P w) k f fd ps sp) : FnOk P w K mg base (CXe P) k f fd ps sp :=
  ⟨F.len, fun A outer s H args us vs Q E hr he hb hv hs => codeAny_mono (F.run A outer s H args us vs Q E hr he hb hv hs) fun r s' hq => by
    cases r with
    | error e => exact ⟨w, hq⟩
    | ok fl => cases fl <;> exact hq⟩
/-- the law answers true for every script -/
def Lw.Good (L : Lw) (k li n : Nat) : Prop := ∀ ns : List Int, ns.length ≤ n → ∃ S, L.run k li [.ro (ns.map .int)] [] = .ok (.bl true) S
theorem isL_ints {K : PySem.W.Frag} {ca mu : List Addr} {H : Hp} : ∀ ns : List Int, IsL K ca mu H (ns.map V.int) (ns.map D.int)
  | [] => .nil
  | n :: ns => .cons (.int n) (isL_ints ns)
theorem Lw.law {L : Lw} {P : Program} {w : World} {K : PySem.W.Frag} {h : Heap} {mg : Str → Option Value} {fa : Addr} {k li n : Nat} {e : Fe} {x : Str} (hc : L.chk = true) (X : K.In h) (G : h.Ns mainGlobals mg) (c : L.Says K) (hl : L.fns[li]? = some e) (hp : e.d.N.take e.d.nps = [x]) (hfa : mg e.d.name = some (.ref fa)) (good : L.Good k li n) :
    ∃ (fd : FuncData) (sp : Sp), (∀ (s : Shared) (u : Value), BindsTo s fd ⟨[u], []⟩ [(x, u)]) ∧ (∀ (H : Hp) (a : Addr) (ns : List Int), ns.length ≤ n → Only H → SqL K H a (ns.map V.int) → sp [.ref a] H (fun v _ => v = .bl true) fun _ _ _ => False) ∧
      ∀ base : Heap, K.In base → base.Ns mainGlobals mg → FnOk P w K mg base (CXe P) k fa fd [x] sp := by
  obtain ⟨fd, F⟩ := c.def_ hl
  have e1 : fa = He.ga K e.d.name := by
    have := hfa.symm.trans (c.glo X G hl)
    cases this
    rfl
  subst e1
  obtain ⟨h1, _⟩ := ba (List.all_eq_true.mp hc e (List.mem_of_getElem? hl))
  obtain ⟨h1, _⟩ := ba h1
  obtain ⟨h0, h2⟩ := ba h1
  have hN : e.d.nps ≤ e.d.N.length := of_decide_eq_true h0
  have hpl : e.d.nps = 1 := by
    have := congrArg List.length hp
    rw [List.length_take] at this
    simp at this
    omega
  refine ⟨fd, SpF K (L.G k) li e.d.nps, fun s u => ?_, fun H a ns hn _ hS => ⟨by rw [hpl]; rfl, [], [], [.ro (ns.map .int)], [], ⟨rfl, .nil, fun _ _ _ h => by simp at h, fun _ z => (nomatch z), fun _ z => (nomatch z)⟩, .cons (.ro (hS.imp (fun z => ⟨z, fun q => nomatch q⟩) id) (isL_ints ns)) .nil, ?_⟩, fun base _ _ => ?_⟩
  · exact FunD.bindsA (ps := [x]) F (fun kV doc pm an cdv ct us hl => by rw [hp] at h2; exact argOk_ok h2 kV doc pm an cdv ct us hl) s [u] rfl
  · obtain ⟨S, q⟩ := good ns hn
    show okR K L.XA (IsR K) [] [] H (L.run k li [.ro (ns.map .int)] []) _ _
    rw [q]
    intro v ca mu H' x w' i
    cases i
    rfl
  · have := FnOk.cxe (Lw.ok (P := P) (w := w) (base := base) hc c X G k li e fd hl F)
    rw [hp] at this
    exact this
end KI


set_option Elab.async false
set_option linter.all false
set_option maxRecDepth 100000
set_option maxHeartbeats 2000000
/-! The head's Hook for a law's code. -/
namespace KI
open PySem PySem.Spec PyProof.Rows L2
def Lw.obsK (L : Lw) (K : PySem.W.Frag) : He.AlD × Bool := (He.obsD L.fa L.fn K, L.cs.all (conB K))
def Lw.obsG (L : Lw) (n : Nat) (g : Addr → Option Obj) : He.AlD × Bool := L.obsK (He.frG g (He.asD g n))
def Lw.hook (L : Lw) (n : Nat) : PySem.W.Hook where
  α := He.AlD × Bool
  obs := fun s => L.obsG n s.heap.get?
  val := fun _ => (He.valD L.fn, true)
  says := fun _ h => ∃ K : PySem.W.Frag, K.In h ∧ L.Says K
  of := fun _ _ e => ⟨_, He.frG_in, ⟨congrArg (fun z : He.AlD × Bool => z.1) e, congrArg (fun z : He.AlD × Bool => z.2) e⟩⟩
  keeps := fun _ _ _ ⟨K, hK, c⟩ k => ⟨K, PySem.W.Frag.In.keeps hK k, c⟩
def Lw.ob (L : Lw) (n : Nat) (s : PySem.W.SharedT) : He.AlD × Bool := L.obsG n (HandSHeadRun.getT s)
theorem Lw.ob_eq (L : Lw) (n : Nat) (s : PySem.W.SharedT) : L.ob n s = (L.hook n).obs s.abs := by
  have e : HandSHeadRun.getT s = s.abs.heap.get? := funext (HandSHeadRun.getT_eq s)
  show L.obsG n (HandSHeadRun.getT s) = L.obsG n s.abs.heap.get?
  rw [e]
end KI


set_option Elab.async false
set_option linter.all false
set_option maxRecDepth 100000
set_option autoImplicit false
set_option maxHeartbeats 1000000
/-! Running the code by hand. -/
namespace KI
open PySem

section
variable {α β : Type}
@[simp] theorem bind_ok (a : α) (S : Sto) (f : α → Sto → Res β) : (Res.ok a S).bind f = f a S := rfl
@[simp] theorem bind_no (f : α → Sto → Res β) : (Res.no : Res α).bind f = .no := rfl
@[simp] theorem bind_exc (x : Xn) (S : Sto) (f : α → Sto → Res β) : (Res.exc x S : Res α).bind f = .exc x S := rfl
@[simp] theorem onD_ok (a : α) (S : Sto) (ρ : Env) (f : α → Sto → Fl) : onD (.ok a S) ρ f = f a S := rfl
@[simp] theorem then_nx (ρ : Env) (S : Sto) (f : Env → Sto → Fl) : (Fl.nx ρ S).then f = f ρ S := rfl
@[simp] theorem then_rt (d : D) (S : Sto) (f : Env → Sto → Fl) : (Fl.rt d S).then f = .rt d S := rfl
@[simp] theorem lift_some (a : α) (S : Sto) : lift (some a) S = .ok a S := rfl
@[simp] theorem shut_ok (a : α) (S : Sto) : shut (Res.ok a S) = .ok a S := rfl
end
section
variable {L : Lw} {k f : Nat} {d : Def} {ds : List D} {S S' : Sto} {v : D}
theorem run_reg (hf : L.tf f = some d) (hr : d.reg = true) (hn : ds.length = d.nps ∧ d.nps ≤ d.N.length) (hp : pureL ds = true) (hx : exss L.cons (L.run k) L.fuel d.body (ds.map some ++ List.replicate (d.N.length - d.nps) none) [] = .rt v S') (hv : v.pure = true) :
    L.run (k + 1) f ds S = .ok v S := by
  show callN L.cons L.tf L.fuel (k + 1) f ds S = _
  unfold callN
  rw [hf]
  simp only
  rw [if_pos hn, hr]
  simp only
  rw [if_pos hp]
  have hx : exss L.cons (callN L.cons L.tf L.fuel k) L.fuel d.body (ds.map some ++ List.replicate (d.N.length - d.nps) none) [] = .rt v S' := hx
  rw [hx]
  simp only
  rw [if_pos hv]
theorem run_regN (hf : L.tf f = some d) (hr : d.reg = true) (hn : ds.length = d.nps ∧ d.nps ≤ d.N.length) (hp : pureL ds = true) {ρ : Env} (hx : exss L.cons (L.run k) L.fuel d.body (ds.map some ++ List.replicate (d.N.length - d.nps) none) [] = .nx ρ S') :
    L.run (k + 1) f ds S = .ok .non S := by
  show callN L.cons L.tf L.fuel (k + 1) f ds S = _
  unfold callN
  rw [hf]
  simp only
  rw [if_pos hn, hr]
  simp only
  rw [if_pos hp]
  have hx : exss L.cons (callN L.cons L.tf L.fuel k) L.fuel d.body (ds.map some ++ List.replicate (d.N.length - d.nps) none) [] = .nx ρ S' := hx
  rw [hx]
theorem run_non (hf : L.tf f = some d) (hr : d.reg = false) (hn : ds.length = d.nps ∧ d.nps ≤ d.N.length) (hx : exss L.cons (L.run k) L.fuel d.body (ds.map some ++ List.replicate (d.N.length - d.nps) none) S = .rt v S') :
    L.run (k + 1) f ds S = .ok v S' := by
  show callN L.cons L.tf L.fuel (k + 1) f ds S = _
  unfold callN
  rw [hf]
  simp only
  rw [if_pos hn, hr]
  simp only
  have hx : exss L.cons (callN L.cons L.tf L.fuel k) L.fuel d.body (ds.map some ++ List.replicate (d.N.length - d.nps) none) S = .rt v S' := hx
  rw [hx]
end
/-- a comprehension whose turns keep the store -/
theorem evLc_map {turn : D → Sto → Res (Option D)} {S : Sto} {f : D → Option D} : ∀ {xs acc : List D}, (∀ x ∈ xs, turn x S = .ok (f x) S) → acc.length + xs.length < LN → evLc turn xs acc S = .ok (acc ++ xs.filterMap f) S
  | [], acc, _, _ => by simp [evLc]
  | x :: xs, acc, h, hl => by
    unfold evLc
    rw [h x List.mem_cons_self]
    rw [List.length_cons] at hl
    cases q : f x with
    | none =>
      show evLc turn xs acc S = _
      rw [evLc_map (fun y hy => h y (List.mem_cons_of_mem _ hy)) (by omega)]
      simp [List.filterMap_cons, q]
    | some d =>
      show (if acc.length < LN then evLc turn xs (acc ++ [d]) S else .no) = _
      rw [if_pos (by omega), evLc_map (fun y hy => h y (List.mem_cons_of_mem _ hy)) (by rw [List.length_append]; show acc.length + 1 + xs.length < LN; omega)]
      simp [List.filterMap_cons, q]
/-- a for, by what stays true -/
theorem evFor_inv {tg : Tg} {body : Env → Sto → Fl} (P : Env → Sto → Prop) : ∀ {xs : List D} {ρ : Env} {S : Sto}, (∀ x ∈ xs, ∀ ρ S, P ρ S → ∃ ρ', bindT tg x ρ = some ρ' ∧ ∃ ρ2 S2, body ρ' S = .nx ρ2 S2 ∧ P ρ2 S2) → P ρ S → ∃ ρ2 S2, evFor tg body xs ρ S = .nx ρ2 S2 ∧ P ρ2 S2
  | [], ρ, S, _, h => ⟨ρ, S, rfl, h⟩
  | x :: xs, ρ, S, hs, h => by
    obtain ⟨ρ', e1, ρ2, S2, e2, h2⟩ := hs x List.mem_cons_self ρ S h
    obtain ⟨ρ3, S3, e3, h3⟩ := evFor_inv P (xs := xs) (fun y hy => hs y (List.mem_cons_of_mem _ hy)) h2
    refine ⟨ρ3, S3, ?_, h3⟩
    unfold evFor
    rw [e1]
    show (body ρ' S).then _ = _
    rw [e2]
    exact e3
/-- the same with the number of the turn -/
theorem evFor_ix {tg : Tg} {body : Env → Sto → Fl} {xs : List D} (P : Nat → Env → Sto → Prop) (hs : ∀ i x, xs[i]? = some x → ∀ ρ S, P i ρ S → ∃ ρ', bindT tg x ρ = some ρ' ∧ ∃ ρ2 S2, body ρ' S = .nx ρ2 S2 ∧ P (i + 1) ρ2 S2) {ρ : Env} {S : Sto} (h : P 0 ρ S) :
    ∃ ρ2 S2, evFor tg body xs ρ S = .nx ρ2 S2 ∧ P xs.length ρ2 S2 := by
  induction xs generalizing P ρ S with
  | nil => exact ⟨ρ, S, rfl, h⟩
  | cons x xs ih =>
    obtain ⟨ρ', e1, ρ2, S2, e2, h2⟩ := hs 0 x rfl ρ S h
    obtain ⟨ρ3, S3, e3, h3⟩ := ih (fun i => P (i + 1)) (fun i y hy => hs (i + 1) y (by simpa using hy)) h2
    refine ⟨ρ3, S3, ?_, h3⟩
    unfold evFor
    rw [e1]
    show (body ρ' S).then _ = _
    rw [e2]
    exact e3

/-! ### operators on given forms -/
section
variable (i j : Int) (b c : Bool) (s t : Str) (x y : D) (xs ys : List D) (S : Sto)
@[simp] theorem b_add : binD .add (.int i) (.int j) = some (.int (i + j)) := rfl
@[simp] theorem b_addb : binD .add (.bl b) (.int j) = some (.int ((if b = true then (1 : Int) else 0) + j)) := rfl
@[simp] theorem b_sub : binD .sub (.int i) (.int j) = some (.int (i - j)) := rfl
@[simp] theorem b_mul : binD .mul (.int i) (.int j) = if mulOk i j then some (.int (i * j)) else none := rfl
@[simp] theorem b_fdiv : binD .fdiv (.int i) (.int j) = if j ≠ 0 ∧ j.natAbs < 1073741824 then some (.int (i.fdiv j)) else none := rfl
@[simp] theorem b_mod : binD .mod (.int i) (.int j) = if j ≠ 0 then some (.int (i.fmod j)) else none := rfl
@[simp] theorem b_pow : binD .pow (.int i) (.int j) = if 0 ≤ j ∧ j ≤ 1000000 ∧ i.natAbs < 2 ^ 64 then some (.int (i ^ j.toNat)) else none := rfl
@[simp] theorem b_adds : binD .add (.str s) (.str t) = if s.length + t.length ≤ LN then some (.str (s ++ t)) else none := rfl
@[simp] theorem b_addt : binD .add (.tup xs) (.tup ys) = if xs.length + ys.length ≤ LN then some (.tup (xs ++ ys)) else none := rfl
@[simp] theorem b_addl : binD .add (.lst xs) (.lst ys) = if xs.length + ys.length ≤ LN then some (.lst (xs ++ ys)) else none := rfl
@[simp] theorem b_mult : binD .mul (.tup xs) (.int j) = if xs.length ≠ 0 ∧ 2 ≤ j ∧ j ≤ 1000 ∧ xs.length ≤ 1000 then some (.tup (rep j xs)) else none := rfl
@[simp] theorem b_mull : binD .mul (.lst xs) (.int j) = if -(2 ^ 63) ≤ j ∧ j < 2 ^ 63 ∧ xs.length * j.toNat ≤ LN then some (.lst (rep j xs)) else none := rfl
@[simp] theorem c_eq : cmpD .eq x y = if shp 64 x && shp 64 y then some (eqD x y) else none := rfl
@[simp] theorem c_ne : cmpD .ne x y = if shp 64 x && shp 64 y then some (!eqD x y) else none := rfl
@[simp] theorem c_lt : cmpD .lt (.int i) (.int j) = some (decide (i < j)) := rfl
@[simp] theorem c_le : cmpD .le (.int i) (.int j) = some (decide (i ≤ j)) := rfl
@[simp] theorem c_gt : cmpD .gt (.int i) (.int j) = some (decide (j < i)) := rfl
@[simp] theorem c_ge : cmpD .ge (.int i) (.int j) = some (decide (j ≤ i)) := rfl
@[simp] theorem c_isN : cmpD .isN x .non = some (isNon x) := rfl
@[simp] theorem c_notN : cmpD .notN x .non = some (!isNon x) := rfl
@[simp] theorem c_int : cmpD .in_ x (.tup xs) = if shp 64 x && shpL 63 xs then some (xs.any fun y => eqD y x) else none := rfl
@[simp] theorem c_inl : cmpD .in_ x (.lst xs) = if shp 64 x && shpL 63 xs then some (xs.any fun y => eqD y x) else none := rfl
@[simp] theorem c_nint : cmpD .nin x (.tup xs) = if shp 64 x && shpL 63 xs then some (!xs.any fun y => eqD y x) else none := rfl
@[simp] theorem c_ninl : cmpD .nin x (.lst xs) = if shp 64 x && shpL 63 xs then some (!xs.any fun y => eqD y x) else none := rfl
@[simp] theorem n_non : isNon .non = true := rfl
@[simp] theorem n_int : isNon (.int i) = false := rfl
@[simp] theorem n_tup : isNon (.tup xs) = false := rfl
@[simp] theorem n_str : isNon (.str s) = false := rfl
@[simp] theorem n_lst : isNon (.lst xs) = false := rfl
@[simp] theorem n_bl : isNon (.bl b) = false := rfl
@[simp] theorem t_ii : isTy .int (.int i) = some true := rfl
@[simp] theorem t_ib : isTy .int (.bl b) = some true := rfl
@[simp] theorem t_in : isTy .int .non = some false := rfl
@[simp] theorem t_is : isTy .int (.str s) = some false := rfl
@[simp] theorem t_it : isTy .int (.tup xs) = some false := rfl
@[simp] theorem t_il : isTy .int (.lst xs) = some false := rfl
@[simp] theorem t_bi : isTy .bool (.int i) = some false := rfl
@[simp] theorem t_bb : isTy .bool (.bl b) = some true := rfl
@[simp] theorem t_bn : isTy .bool .non = some false := rfl
@[simp] theorem t_bs : isTy .bool (.str s) = some false := rfl
@[simp] theorem t_bt : isTy .bool (.tup xs) = some false := rfl
@[simp] theorem t_bls : isTy .bool (.lst xs) = some false := rfl
@[simp] theorem t_si : isTy .str (.int i) = some false := rfl
@[simp] theorem t_sb : isTy .str (.bl b) = some false := rfl
@[simp] theorem t_sn : isTy .str .non = some false := rfl
@[simp] theorem t_ss : isTy .str (.str s) = some true := rfl
@[simp] theorem t_st : isTy .str (.tup xs) = some false := rfl
@[simp] theorem t_sl : isTy .str (.lst xs) = some false := rfl
@[simp] theorem t_ti : isTy .tuple (.int i) = some false := rfl
@[simp] theorem t_tb : isTy .tuple (.bl b) = some false := rfl
@[simp] theorem t_tn : isTy .tuple .non = some false := rfl
@[simp] theorem t_ts : isTy .tuple (.str s) = some false := rfl
@[simp] theorem t_tt : isTy .tuple (.tup xs) = some true := rfl
@[simp] theorem t_tl : isTy .tuple (.lst xs) = some false := rfl
@[simp] theorem t_li : isTy .list (.int i) = some false := rfl
@[simp] theorem t_lb : isTy .list (.bl b) = some false := rfl
@[simp] theorem t_ln : isTy .list .non = some false := rfl
@[simp] theorem t_ls : isTy .list (.str s) = some false := rfl
@[simp] theorem t_lt : isTy .list (.tup xs) = some false := rfl
@[simp] theorem t_ll : isTy .list (.lst xs) = some true := rfl
@[simp] theorem i_tup : idxD S (.tup xs) (.int i) = L2.atI xs i := rfl
@[simp] theorem i_lst : idxD S (.lst xs) (.int i) = L2.atI xs i := rfl
@[simp] theorem i_ro : idxD S (.ro xs) (.int i) = L2.atI xs i := rfl
@[simp] theorem i_cell (n : Nat) : idxD S (.cell n) (.int i) = match S[n]? with
    | some (.lst xs) => L2.atI xs i
    | some (.dct kvs) => dicGet kvs (.inl i)
    | _ => none := by
  show (match S[n]? with
    | some (.lst xs) => L2.atI xs i
    | some (.dct kvs) => (keyOf (.int i)).bind fun k => dicGet kvs k
    | _ => none) = _
  split <;> first | rfl | (rename_i q; rw [q])
@[simp] theorem ix20 : L2.ixN 2 0 = some 0 := rfl
@[simp] theorem ix21 : L2.ixN 2 1 = some 1 := rfl
@[simp] theorem bi_lent : biD S .len [.tup xs] = some (.int xs.length) := rfl
@[simp] theorem bi_lenl : biD S .len [.lst xs] = some (.int xs.length) := rfl
@[simp] theorem bi_lenr : biD S .len [.ro xs] = some (.int xs.length) := rfl
@[simp] theorem bi_abs : biD S .abs [.int i] = some (.int (if i < 0 then -i else i)) := rfl
@[simp] theorem bi_int : biD S .int [.int i] = some (.int i) := rfl
@[simp] theorem bi_min2 : biD S .min2 [.int i, .int j] = some (.int (if j < i then j else i)) := rfl
@[simp] theorem bi_max2 : biD S .max2 [.int i, .int j] = some (.int (if j > i then j else i)) := rfl
@[simp] theorem bi_all : biD S .all [.lst xs] = (boolsD xs).map fun bs => .bl (bs.all id) := rfl
@[simp] theorem bi_any : biD S .any [.lst xs] = (boolsD xs).map fun bs => .bl (bs.any id) := rfl
@[simp] theorem bi_sum : biD S .sum [.lst xs] = (intsD xs).map fun ns => .int ns.sum := rfl
@[simp] theorem bi_listl : biD S .list [.lst xs] = some (.lst xs) := rfl
@[simp] theorem bi_listt : biD S .list [.tup xs] = some (.lst xs) := rfl
@[simp] theorem bi_tupl : biD S .tuple [.lst xs] = some (.tup xs) := rfl
@[simp] theorem bi_tupt : biD S .tuple [.tup xs] = some (.tup xs) := rfl
@[simp] theorem cut_t (lo hi : Option Int) : cutD (.tup xs) lo hi = some (.tup (cut xs lo hi)) := rfl
@[simp] theorem cut_l (lo hi : Option Int) : cutD (.lst xs) lo hi = some (.lst (cut xs lo hi)) := rfl
end
theorem atI_nat (xs : List D) (n : Nat) : L2.atI xs (n : Int) = xs[n]? := by
  unfold L2.atI L2.ixN
  by_cases h : n < xs.length
  · simp [h]
  · have h2 : ¬ ((n : Int) < (xs.length : Int)) := by omega
    rw [List.getElem?_eq_none (by omega), if_pos (by omega), if_neg h2]
    rfl
@[simp] theorem atI_0 (xs : List D) : L2.atI xs 0 = xs[0]? := atI_nat xs 0
@[simp] theorem atI_1 (xs : List D) : L2.atI xs 1 = xs[1]? := atI_nat xs 1
@[simp] theorem atI_2 (xs : List D) : L2.atI xs 2 = xs[2]? := atI_nat xs 2
@[simp] theorem atI_3 (xs : List D) : L2.atI xs 3 = xs[3]? := atI_nat xs 3
@[simp] theorem atI_4 (xs : List D) : L2.atI xs 4 = xs[4]? := atI_nat xs 4
section
variable (cons : Nat → D) (call : Call) (ρ : Env) (S : Sto)
@[simp] theorem ev_var (i : Nat) : ev cons call (.var i) ρ S = match ρ[i]? with
      | some (some d) => .ok d S
      | _ => .no := rfl
@[simp] theorem ev_con (c : Nat) : ev cons call (.con c) ρ S = .ok (cons c) S := rfl
@[simp] theorem ev_int (i : Int) : ev cons call (.int i) ρ S = .ok (.int i) S := rfl
@[simp] theorem ev_bl (b : Bool) : ev cons call (.bl b) ρ S = .ok (.bl b) S := rfl
@[simp] theorem ev_non  : ev cons call (.non) ρ S = .ok .non S := rfl
@[simp] theorem ev_str (s : Str) : ev cons call (.str s) ρ S = .ok (.str s) S := rfl
@[simp] theorem ev_tup (es : Exs) : ev cons call (.tup es) ρ S = (evs cons call es ρ S).bind fun ds S => if ds.length ≤ LN then .ok (.tup ds) S else .no := rfl
@[simp] theorem ev_lst (es : Exs) : ev cons call (.lst es) ρ S = (evs cons call es ρ S).bind fun ds S => if ds.length ≤ LN then .ok (.lst ds) S else .no := rfl
@[simp] theorem ev_dct (ks : List Str) (es : Exs) : ev cons call (.dct ks es) ρ S = (evs cons call es ρ S).bind fun ds S => if ds.length = ks.length ∧ ks.length ≤ 15 ∧ ks.length ≠ 0 then .ok (.dic (mergeD [] ((ks.map Sum.inr).zip ds))) S else .no := rfl
@[simp] theorem ev_newc (e : Ex) : ev cons call (.newc e) ρ S = (ev cons call e ρ S).bind fun d S => match d with
      | .lst xs => .ok (.cell S.length) (S ++ [.lst xs])
      | .dic kvs => .ok (.cell S.length) (S ++ [.dct kvs])
      | _ => .no := rfl
@[simp] theorem ev_bin (o : Bop) (a : Ex) (b : Ex) : ev cons call (.bin o a b) ρ S = (ev cons call a ρ S).bind fun x S => (ev cons call b ρ S).bind fun y S => lift (binD o x y) S := rfl
@[simp] theorem ev_neg (a : Ex) : ev cons call (.neg a) ρ S = (ev cons call a ρ S).bind fun x S => match x with
      | .int i => .ok (.int (-i)) S
      | _ => .no := rfl
@[simp] theorem ev_cmp (o : Cop) (a : Ex) (b : Ex) : ev cons call (.cmp o a b) ρ S = (ev cons call a ρ S).bind fun x S => (ev cons call b ρ S).bind fun y S => lift ((cmpD o x y).map .bl) S := rfl
@[simp] theorem ev_chn (o : Cop) (p : Cop) (a : Ex) (b : Ex) (c : Ex) : ev cons call (.chn o p a b c) ρ S = (ev cons call a ρ S).bind fun x S => (ev cons call b ρ S).bind fun y S => match cmpD o x y with
      | some true => (ev cons call c ρ S).bind fun z S => lift ((cmpD p y z).map .bl) S
      | some false => .ok (.bl false) S
      | none => .no := rfl
@[simp] theorem ev_and (a : Ex) (b : Ex) : ev cons call (.and a b) ρ S = (ev cons call a ρ S).bind fun x S => match x with
      | .bl true => ev cons call b ρ S
      | .bl false => .ok (.bl false) S
      | _ => .no := rfl
@[simp] theorem ev_or (a : Ex) (b : Ex) : ev cons call (.or a b) ρ S = (ev cons call a ρ S).bind fun x S => match x with
      | .bl false => ev cons call b ρ S
      | .bl true => .ok (.bl true) S
      | _ => .no := rfl
@[simp] theorem ev_not (a : Ex) : ev cons call (.not a) ρ S = (ev cons call a ρ S).bind fun x S => match x with
      | .bl b => .ok (.bl (!b)) S
      | _ => .no := rfl
@[simp] theorem ev_ite (c : Ex) (a : Ex) (b : Ex) : ev cons call (.ite c a b) ρ S = (ev cons call c ρ S).bind fun x S => match x with
      | .bl true => ev cons call a ρ S
      | .bl false => ev cons call b ρ S
      | _ => .no := rfl
@[simp] theorem ev_idx (a : Ex) (i : Ex) : ev cons call (.idx a i) ρ S = (ev cons call a ρ S).bind fun x S => (ev cons call i ρ S).bind fun y S => lift (idxD S x y) S := rfl
@[simp] theorem ev_sli (a : Ex) (lo : Oe) (hi : Oe) : ev cons call (.sli a lo hi) ρ S = (ev cons call a ρ S).bind fun x S => (evo cons call lo ρ S).bind fun l S => (evo cons call hi ρ S).bind fun u S => lift (cutD x l u) S := rfl
@[simp] theorem ev_call (f : Nat) (es : Exs) : ev cons call (.call f es) ρ S = (evs cons call es ρ S).bind fun ds S => call f ds S := rfl
@[simp] theorem ev_call0 (f : Nat) : ev cons call (.call0 f) ρ S = shut (call f [] S) := rfl
@[simp] theorem ev_bi (b : Bi) (es : Exs) : ev cons call (.bi b es) ρ S = (evs cons call es ρ S).bind fun ds S => lift (biD S b ds) S := rfl
@[simp] theorem ev_isi (a : Ex) (t : Ty) : ev cons call (.isi a t) ρ S = (ev cons call a ρ S).bind fun x S => lift ((isTy t x).map .bl) S := rfl
@[simp] theorem ev_mth (m : Mt) (o : Ex) (es : Exs) : ev cons call (.mth m o es) ρ S = (ev cons call o ρ S).bind fun x S => (evs cons call es ρ S).bind fun ds S => lift (mtD S m x ds) S := rfl
end

theorem shp_lit (k : Nat) (s : Str) (h : s.cps.all (· < 0x110000) = true) : shp k (.str s) = true := by cases k <;> exact h
section
variable (k : Nat) (i j : Int) (b c : Bool) (x y : D) (xs ys : List D) (s : Str)
@[simp] theorem shp_int : shp k (.int i) = true := by cases k <;> rfl
@[simp] theorem shp_bl : shp k (.bl b) = true := by cases k <;> rfl
@[simp] theorem shp_non : shp k .non = true := by cases k <;> rfl
@[simp] theorem shpL_nil : shpL k [] = true := by cases k <;> rfl
@[simp] theorem shpL_cons : shpL k (x :: xs) = (shp k x && shpL k xs) := by cases k <;> rfl
@[simp] theorem shp64_tup : shp 64 (.tup xs) = shpL 63 xs := rfl
@[simp] theorem shp64_lst : shp 64 (.lst xs) = shpL 63 xs := rfl
@[simp] theorem shp63_tup : shp 63 (.tup xs) = shpL 62 xs := rfl
@[simp] theorem shp63_lst : shp 63 (.lst xs) = shpL 62 xs := rfl
@[simp] theorem shp62_tup : shp 62 (.tup xs) = shpL 61 xs := rfl
@[simp] theorem eqD_ii : eqD (.int i) (.int j) = (i == j) := rfl
@[simp] theorem eqD_bb : eqD (.bl b) (.bl c) = (b == c) := rfl
@[simp] theorem eqD_nn : eqD .non .non = true := rfl
@[simp] theorem eqD_tt : eqD (.tup xs) (.tup ys) = eqL xs ys := rfl
@[simp] theorem eqD_ll : eqD (.lst xs) (.lst ys) = eqL xs ys := rfl
@[simp] theorem eqD_is : eqD (.int i) (.str s) = false := rfl
@[simp] theorem eqD_si : eqD (.str s) (.int i) = false := rfl
@[simp] theorem eqD_ni : eqD .non (.int i) = false := rfl
@[simp] theorem eqD_in : eqD (.int i) .non = false := rfl
@[simp] theorem eqD_ns : eqD .non (.str s) = false := rfl
@[simp] theorem eqD_sn : eqD (.str s) .non = false := rfl
@[simp] theorem eqD_nt : eqD .non (.tup xs) = false := rfl
@[simp] theorem eqD_tn : eqD (.tup xs) .non = false := rfl
@[simp] theorem eqD_ti : eqD (.tup xs) (.int i) = false := rfl
@[simp] theorem eqD_it : eqD (.int i) (.tup xs) = false := rfl
@[simp] theorem eqL_nn : eqL [] [] = true := rfl
@[simp] theorem eqL_nc : eqL [] (x :: xs) = false := rfl
@[simp] theorem eqL_cn : eqL (x :: xs) [] = false := rfl
@[simp] theorem eqL_cc : eqL (x :: xs) (y :: ys) = (eqD x y && eqL xs ys) := rfl
@[simp] theorem shp_park : shp k (.str "park") = true := shp_lit k _ (by decide +kernel)
@[simp] theorem shp_leave : shp k (.str "leave") = true := shp_lit k _ (by decide +kernel)
@[simp] theorem shp_pull : shp k (.str "pull") = true := shp_lit k _ (by decide +kernel)
@[simp] theorem shp_drop : shp k (.str "drop") = true := shp_lit k _ (by decide +kernel)
@[simp] theorem shp_front : shp k (.str "front") = true := shp_lit k _ (by decide +kernel)
@[simp] theorem shp_back : shp k (.str "back") = true := shp_lit k _ (by decide +kernel)
@[simp] theorem shp_tight : shp k (.str "tight") = true := shp_lit k _ (by decide +kernel)
@[simp] theorem shp_wide : shp k (.str "wide") = true := shp_lit k _ (by decide +kernel)
@[simp] theorem shp_near : shp k (.str "near") = true := shp_lit k _ (by decide +kernel)
@[simp] theorem shp_empty : shp k (.str "") = true := shp_lit k _ (by decide +kernel)
end
theorem lc_map {cons : Nat → D} {call : Call} {own : List Nat} {tg : Tg} {it : It} {c : Oe} {e : Ex} {ρ : Env} {S : Sto} {xs : List D} (f : D → Option D) (hi : evi cons call it ρ S = .ok xs S)
    (ht : ∀ x ∈ xs, (match bindT tg x (wipeE ρ own) with
      | some ρ' => (evc cons call c ρ' S).bind fun b S => bif b then (ev cons call e ρ' S).bind fun d S => .ok (some d) S else .ok none S
      | none => .no) = .ok (f x) S) (hl : xs.length < LN) : ev cons call (.lc own tg it c e) ρ S = .ok (.lst (xs.filterMap f)) S := by
  show (evi cons call it ρ S).bind _ = _
  rw [hi]
  show (evLc _ xs [] S).bind _ = _
  rw [evLc_map (f := f) ht (by simpa using hl)]
  rfl
theorem boolsD_map {α : Type} (f : α → Bool) : ∀ xs : List α, boolsD (xs.map fun x => .bl (f x)) = some (xs.map f)
  | [] => rfl
  | x :: xs => by simp [boolsD, boolsD_map f xs]
theorem intsD_map : ∀ xs : List Int, intsD (xs.map D.int) = some xs
  | [] => rfl
  | x :: xs => by simp [intsD, intsD_map xs]
section
variable (cons : Nat → D) (call : Call) (fuel : Nat) (ρ : Env) (S : Sto)
@[simp] theorem exs_set (i : Nat) (e : Ex) : exs cons call fuel (.set i e) ρ S = onD (ev cons call e ρ S) ρ fun d S => .nx (ρ.set i (some d)) S := rfl
@[simp] theorem exs_unp (tg : Tg) (e : Ex) : exs cons call fuel (.unp tg e) ρ S = onD (ev cons call e ρ S) ρ fun d S => match bindT tg d ρ with
      | some ρ' => .nx ρ' S
      | none => .no := rfl
@[simp] theorem exs_par (i : Nat) (j : Nat) (es : Exs) : exs cons call fuel (.par i j es) ρ S = onD (evs cons call es ρ S) ρ fun ds S => match ds with
      | [x, y] => .nx ((ρ.set i (some x)).set j (some y)) S
      | _ => .no := rfl
@[simp] theorem exs_par3 (i : Nat) (j : Nat) (l : Nat) (es : Exs) : exs cons call fuel (.par3 i j l es) ρ S = onD (evs cons call es ρ S) ρ fun ds S => match ds with
      | [x, y, z] => .nx (((ρ.set i (some x)).set j (some y)).set l (some z)) S
      | _ => .no := rfl
@[simp] theorem exs_put (o : Ex) (i : Ex) (e : Ex) : exs cons call fuel (.put o i e) ρ S = onD (ev cons call e ρ S) ρ fun v S => onD (ev cons call o ρ S) ρ fun o S => onD (ev cons call i ρ S) ρ fun i S => match o, i with
      | .cell n, .int k => match S[n]? with
        | some (.lst xs) => match L2.ixN xs.length k with
          | some j => .nx ρ (S.set n (.lst (xs.set j v)))
          | none => .no
        | _ => .no
      | _, _ => .no := rfl
@[simp] theorem exs_dput (o : Ex) (i : Ex) (e : Ex) : exs cons call fuel (.dput o i e) ρ S = onD (ev cons call e ρ S) ρ fun v S => onD (ev cons call o ρ S) ρ fun o S => onD (ev cons call i ρ S) ρ fun i S => match o, keyOf i with
      | .cell n, some k => match S[n]? with
        | some (.dct kvs) => if kvs.length < 1000 then .nx ρ (S.set n (.dct (dicPut kvs k v))) else .no
        | _ => .no
      | _, _ => .no := rfl
@[simp] theorem exs_app (i : Nat) (e : Ex) : exs cons call fuel (.app i e) ρ S = match ρ[i]? with
      | some (some (.cell n)) => match S[n]? with
        | some (.lst _) => onD (ev cons call e ρ S) ρ fun d S => match S[n]? with
          | some (.lst xs) => if xs.length < LN then .nx ρ (S.set n (.lst (xs ++ [d]))) else .no
          | _ => .no
        | _ => .no
      | _ => .no := rfl
@[simp] theorem exs_frz (i : Nat) : exs cons call fuel (.frz i) ρ S = match ρ[i]? with
      | some (some (.cell n)) => match S[n]? with
        | some (.lst xs) => .nx (ρ.set i (some (.lst xs))) (S.set n .dead)
        | _ => .no
      | _ => .no := rfl
@[simp] theorem exs_ret (e : Ex) : exs cons call fuel (.ret e) ρ S = onD (ev cons call e ρ S) ρ fun d S => .rt d S := rfl
@[simp] theorem exs_ifs (c : Ex) (a : Sxs) (b : Sxs) : exs cons call fuel (.ifs c a b) ρ S = onD (ev cons call c ρ S) ρ fun d S => match d with
      | .bl true => exss cons call fuel a ρ S
      | .bl false => exss cons call fuel b ρ S
      | _ => .no := rfl
@[simp] theorem exs_for_ (tg : Tg) (it : It) (b : Sxs) : exs cons call fuel (.for_ tg it b) ρ S = onD (evi cons call it ρ S) ρ fun xs S => evFor tg (exss cons call fuel b) xs ρ S := rfl
@[simp] theorem exs_whl (c : Ex) (b : Sxs) : exs cons call fuel (.whl c b) ρ S = evWhl (ev cons call c) (exss cons call fuel b) fuel ρ S := rfl
@[simp] theorem exs_exp (e : Ex) : exs cons call fuel (.exp e) ρ S = onD (ev cons call e ρ S) ρ fun _ S => .nx ρ S := rfl
@[simp] theorem exs_rai (c : Nat) : exs cons call fuel (.rai c) ρ S = .exc ⟨c, []⟩ ρ S := rfl
@[simp] theorem exs_nev  : exs cons call fuel (.nev) ρ S = .no := rfl
@[simp] theorem exss_nil : exss cons call fuel .nil ρ S = .nx ρ S := rfl
@[simp] theorem exss_cons (s : Sx) (ss : Sxs) : exss cons call fuel (.cons s ss) ρ S = (exs cons call fuel s ρ S).then fun ρ S => exss cons call fuel ss ρ S := rfl
end
end KI


set_option Elab.async false
set_option linter.all false
set_option maxRecDepth 100000
set_option autoImplicit false
set_option maxHeartbeats 1000000
/-! The defs that many laws share: what they compute. -/
namespace KI
open PySem

def dc_is_number : Def := { name := "is_number", N := ["value", "least", "most"], nps := 3, reg := true, body := (.cons (.ret (.and (.isi (.var 0) .int) (.and (.not (.isi (.var 0) .bool)) (.chn .le .le (.var 1) (.var 0) (.var 2))))) .nil) }
def dc_is_tuple : Def := { name := "is_tuple", N := ["value", "least", "most"], nps := 3, reg := true, body := (.cons (.ret (.and (.isi (.var 0) .tuple) (.chn .le .le (.var 1) (.bi .len (.cons (.var 0) .nil)) (.var 2)))) .nil) }
def dc_is_word : Def := { name := "is_word", N := ["value", "words"], nps := 2, reg := true, body := (.cons (.ret (.and (.isi (.var 0) .str) (.cmp .in_ (.var 0) (.var 1)))) .nil) }
def dc_is_deed_of (f_is_tuple f_is_number f_is_word c_RULES : Nat) : Def := { name := "is_deed_of", N := ["cars", "value"], nps := 2, reg := true, body := (.cons (.ifs (.or (.not (.call f_is_tuple (.cons (.var 1) (.cons (.int 2) (.cons (.int 3) .nil))))) (.not (.call f_is_number (.cons (.idx (.var 1) (.int 1)) (.cons (.int 0) (.cons (.bin .sub (.var 0) (.int 1)) .nil)))))) (.cons (.ret (.bl false)) .nil) .nil) (.cons (.ifs (.cmp .eq (.bi .len (.cons (.var 1) .nil)) (.int 3)) (.cons (.ret (.and (.call f_is_word (.cons (.idx (.var 1) (.int 0)) (.cons (.tup (.cons (.str "park") .nil)) .nil))) (.call f_is_word (.cons (.idx (.var 1) (.int 2)) (.cons (.con c_RULES) .nil))))) .nil) .nil) (.cons (.ret (.call f_is_word (.cons (.idx (.var 1) (.int 0)) (.cons (.tup (.cons (.str "leave") (.cons (.str "pull") (.cons (.str "drop") .nil)))) .nil)))) .nil))) }
def dc_are_lengths (f_is_tuple f_is_number : Nat) : Def := { name := "are_lengths", N := ["value", "length"], nps := 1, reg := true, body := (.cons (.ret (.and (.call f_is_tuple (.cons (.var 0) (.cons (.int 1) (.cons (.int 5) .nil)))) (.bi .all (.cons (.lc [1] (.nm 1) (.val (.var 0)) .none (.call f_is_number (.cons (.var 1) (.cons (.int 2) (.cons (.int 9) .nil))))) .nil)))) .nil) }
def dc_is_good_plan (f_is_tuple f_are_lengths f_is_deed_of : Nat) : Def := { name := "is_good_plan", N := ["value", "deed"], nps := 1, reg := true, body := (.cons (.ifs (.or (.not (.call f_is_tuple (.cons (.var 0) (.cons (.int 2) (.cons (.int 2) .nil))))) (.or (.not (.call f_are_lengths (.cons (.idx (.var 0) (.int 0)) .nil))) (.not (.call f_is_tuple (.cons (.idx (.var 0) (.int 1)) (.cons (.int 0) (.cons (.int 8) .nil))))))) (.cons (.ret (.bl false)) .nil) .nil) (.cons (.ret (.bi .all (.cons (.lc [1] (.nm 1) (.val (.idx (.var 0) (.int 1))) .none (.call f_is_deed_of (.cons (.bi .len (.cons (.idx (.var 0) (.int 0)) .nil)) (.cons (.var 1) .nil)))) .nil))) .nil)) }
def dc_need_plan (f_is_good_plan : Nat) : Def := { name := "need_plan", N := ["value"], nps := 1, reg := true, body := (.cons (.ifs (.not (.call f_is_good_plan (.cons (.var 0) .nil))) (.cons .nev .nil) .nil) .nil) }
def dc_is_plan (f_is_good_plan : Nat) : Def := { name := "is_plan", N := ["value"], nps := 1, reg := true, body := (.cons (.ret (.call f_is_good_plan (.cons (.var 0) .nil))) .nil) }
def dc_is_deed (f_need_plan f_is_deed_of : Nat) : Def := { name := "is_deed", N := ["plan", "value"], nps := 2, reg := true, body := (.cons (.exp (.call f_need_plan (.cons (.var 0) .nil))) (.cons (.ret (.call f_is_deed_of (.cons (.bi .len (.cons (.idx (.var 0) (.int 0)) .nil)) (.cons (.var 1) .nil)))) .nil)) }
def dc__law_source : Def := { name := "_law_source", N := ["script", "k", "cell"], nps := 2, reg := false, body := (.cons (.set 2 (.int 0)) (.cons (.ifs (.cmp .lt (.var 1) (.bi .len (.cons (.var 0) .nil))) (.cons (.set 2 (.bi .abs (.cons (.bi .int (.cons (.idx (.var 0) (.var 1)) .nil)) .nil))) .nil) .nil) (.cons (.ifs (.cmp .lt (.var 2) (.bin .pow (.int 10) (.int 18))) (.cons (.ret (.newc (.lst (.cons (.int 0) (.cons (.bin .add (.int 1) (.bin .mod (.bi .int (.cons (.bin .add (.bin .mul (.var 2) (.int 7919)) (.bin .mul (.int 104729) (.var 1))) .nil)) (.int 2147483646))) .nil))))) .nil) .nil) (.cons (.ret (.newc (.lst (.cons (.var 2) (.cons (.bin .add (.int 1) (.bin .mod (.bi .int (.cons (.bin .add (.var 2) (.var 1)) .nil)) (.int 2147483646))) .nil))))) .nil)))) }
def dc__law_draw : Def := { name := "_law_draw", N := ["source", "many", "found"], nps := 2, reg := false, body := (.cons (.ifs (.cmp .gt (.idx (.var 0) (.int 0)) (.int 0)) (.cons (.set 2 (.bin .mod (.bi .int (.cons (.idx (.var 0) (.int 0)) .nil)) (.var 1))) (.cons (.put (.var 0) (.int 0) (.bin .fdiv (.idx (.var 0) (.int 0)) (.var 1))) (.cons (.ret (.var 2)) .nil))) .nil) (.cons (.put (.var 0) (.int 1) (.bin .mod (.bi .int (.cons (.bin .mul (.idx (.var 0) (.int 1)) (.int 48271)) .nil)) (.int 2147483647))) (.cons (.ret (.bin .mod (.bi .int (.cons (.bin .fdiv (.bin .mod (.bi .int (.cons (.bin .mul (.idx (.var 0) (.int 1)) (.idx (.var 0) (.int 1))) .nil)) (.int 2147483629)) (.int 64)) .nil)) (.var 1))) .nil))) }
def dc__law_of (f__law_draw : Nat) : Def := { name := "_law_of", N := ["source", "items"], nps := 2, reg := false, body := (.cons (.ret (.idx (.var 1) (.call f__law_draw (.cons (.var 0) (.cons (.bi .len (.cons (.var 1) .nil)) .nil))))) .nil) }
def dc__law_rule (f__law_of : Nat) : Def := { name := "_law_rule", N := ["source"], nps := 1, reg := false, body := (.cons (.ret (.call f__law_of (.cons (.var 0) (.cons (.lst (.cons (.str "front") (.cons (.str "back") (.cons (.str "tight") (.cons (.str "wide") .nil))))) .nil)))) .nil) }
def dc__law_deed (f__law_of f__law_draw f__law_rule : Nat) : Def := { name := "_law_deed", N := ["source", "cars", "word"], nps := 2, reg := false, body := (.cons (.set 2 (.call f__law_of (.cons (.var 0) (.cons (.lst (.cons (.str "park") (.cons (.str "park") (.cons (.str "park") (.cons (.str "leave") (.cons (.str "leave") (.cons (.str "pull") (.cons (.str "drop") .nil)))))))) .nil)))) (.cons (.ifs (.cmp .eq (.var 2) (.str "park")) (.cons (.ret (.tup (.cons (.var 2) (.cons (.call f__law_draw (.cons (.var 0) (.cons (.var 1) .nil))) (.cons (.call f__law_rule (.cons (.var 0) .nil)) .nil))))) .nil) .nil) (.cons (.ret (.tup (.cons (.var 2) (.cons (.call f__law_draw (.cons (.var 0) (.cons (.var 1) .nil))) .nil)))) .nil))) }
def dc__law_plan (f__law_draw f__law_deed f__law_rule : Nat) : Def := { name := "_law_plan", N := ["source", "most", "turn", "lengths", "deeds", "deed"], nps := 2, reg := false, body := (.cons (.unp (.tp (.cons (.nm 3) (.cons (.nm 4) .nil))) (.tup (.cons (.tup .nil) (.cons (.tup .nil) .nil)))) (.cons (.for_ (.nm 2) (.rng1 (.bin .add (.int 1) (.call f__law_draw (.cons (.var 0) (.cons (.int 5) .nil))))) (.cons (.set 3 (.bin .add (.var 3) (.tup (.cons (.bin .add (.int 2) (.call f__law_draw (.cons (.var 0) (.cons (.int 8) .nil)))) .nil)))) .nil)) (.cons (.for_ (.nm 2) (.rng1 (.call f__law_draw (.cons (.var 0) (.cons (.bin .add (.var 1) (.int 1)) .nil)))) (.cons (.set 5 (.call f__law_deed (.cons (.var 0) (.cons (.bi .len (.cons (.var 3) .nil)) .nil)))) (.cons (.ifs (.and (.cmp .lt (.var 2) (.bi .len (.cons (.var 3) .nil))) (.cmp .gt (.call f__law_draw (.cons (.var 0) (.cons (.int 4) .nil))) (.int 0))) (.cons (.set 5 (.tup (.cons (.str "park") (.cons (.var 2) (.cons (.call f__law_rule (.cons (.var 0) .nil)) .nil))))) .nil) .nil) (.cons (.set 4 (.bin .add (.var 4) (.tup (.cons (.var 5) .nil)))) .nil)))) (.cons (.ret (.tup (.cons (.var 3) (.cons (.var 4) .nil)))) .nil)))) }

/-! ### good values: none, bools, ints, texts, tuples and lists of such -/
mutual
def gd : Nat → Nat → D → Bool
  | _, _, .non | _, _, .bl _ | _, _, .int _ => true
  | _, _, .str x => x.cps.all (· < 0x110000)
  | h + 1, w, .tup xs => decide (xs.length ≤ w) && gdL h w xs
  | h + 1, w, .lst xs => decide (xs.length ≤ w) && gdL h w xs
  | _, _, _ => false
def gdL : Nat → Nat → List D → Bool
  | _, _, [] => true
  | h, w, x :: xs => gd h w x && gdL h w xs
end
theorem gdL_mem {h w : Nat} : ∀ {xs : List D}, gdL h w xs = true → ∀ x ∈ xs, gd h w x = true
  | [], _, x, hx => nomatch hx
  | y :: ys, g, x, hx => by
    obtain ⟨g1, g2⟩ := ba (show (gd h w y && gdL h w ys) = true from g)
    rcases List.mem_cons.mp hx with e | hx
    · rw [e]; exact g1
    · exact gdL_mem g2 x hx
theorem gdL_of {h w : Nat} : ∀ {xs : List D}, (∀ x ∈ xs, gd h w x = true) → gdL h w xs = true
  | [], _ => rfl
  | y :: ys, g => by
    show (gd h w y && gdL h w ys) = true
    rw [g y List.mem_cons_self, gdL_of fun x hx => g x (List.mem_cons_of_mem _ hx)]
    rfl
mutual
theorem gd_shp : ∀ (h w : Nat) (d : D), gd h w d = true → shp h d = true
  | 0, _, .non, _ | 0, _, .bl _, _ | 0, _, .int _, _ | _ + 1, _, .non, _ | _ + 1, _, .bl _, _ | _ + 1, _, .int _, _ => rfl
  | 0, _, .str x, g | _ + 1, _, .str x, g => g
  | h + 1, w, .tup xs, g => gdL_shp h w xs (ba g).2
  | h + 1, w, .lst xs, g => gdL_shp h w xs (ba g).2
  | 0, _, .tup _, g | 0, _, .lst _, g => by cases g
  | 0, _, .dic _, g | _ + 1, _, .dic _, g | 0, _, .ro _, g | _ + 1, _, .ro _, g | 0, _, .cell _, g | _ + 1, _, .cell _, g => by cases g
theorem gdL_shp : ∀ (h w : Nat) (ds : List D), gdL h w ds = true → shpL h ds = true
  | _, _, [], _ => rfl
  | h, w, d :: ds, g => by
    obtain ⟨g1, g2⟩ := ba (show (gd h w d && gdL h w ds) = true from g)
    show (shp h d && shpL h ds) = true
    rw [gd_shp h w d g1, gdL_shp h w ds g2]
    rfl
end
mutual
theorem gd_pure : ∀ (h w : Nat) (d : D), gd h w d = true → d.pure = true
  | 0, _, .non, _ | 0, _, .bl _, _ | 0, _, .int _, _ | _ + 1, _, .non, _ | _ + 1, _, .bl _, _ | _ + 1, _, .int _, _ => rfl
  | 0, _, .str x, g | _ + 1, _, .str x, g => rfl
  | h + 1, w, .tup xs, g => gdL_pure h w xs (ba g).2
  | h + 1, w, .lst xs, g => gdL_pure h w xs (ba g).2
  | 0, _, .tup _, g | 0, _, .lst _, g => by cases g
  | 0, _, .dic _, g | _ + 1, _, .dic _, g | 0, _, .ro _, g | _ + 1, _, .ro _, g | 0, _, .cell _, g | _ + 1, _, .cell _, g => by cases g
theorem gdL_pure : ∀ (h w : Nat) (ds : List D), gdL h w ds = true → pureL ds = true
  | _, _, [], _ => rfl
  | h, w, d :: ds, g => by
    obtain ⟨g1, g2⟩ := ba (show (gd h w d && gdL h w ds) = true from g)
    show (d.pure && pureL ds) = true
    rw [gd_pure h w d g1, gdL_pure h w ds g2]
    rfl
end
theorem shp_le {d : D} : ∀ {h k : Nat}, h ≤ k → shp h d = true → shp k d = true
  | h, 0, le, g => by
    have : h = 0 := by omega
    subst this
    exact g
  | h, k + 1, le, g => by
    by_cases e : h = k + 1
    · subst e; exact g
    · exact shp_succ k d (shp_le (by omega) g)
theorem shpL_le {ds : List D} : ∀ {h k : Nat}, h ≤ k → shpL h ds = true → shpL k ds = true
  | h, 0, le, g => by
    have : h = 0 := by omega
    subst this
    exact g
  | h, k + 1, le, g => by
    by_cases e : h = k + 1
    · subst e; exact g
    · exact shpL_succ k ds (shpL_le (by omega) g)
mutual
theorem gd_le : ∀ {h k w v : Nat} (d : D), h ≤ k → w ≤ v → gd h w d = true → gd k v d = true
  | 0, 0, _, _, .non, _, _, _ | 0, _ + 1, _, _, .non, _, _, _ | _ + 1, 0, _, _, .non, _, _, _ | _ + 1, _ + 1, _, _, .non, _, _, _ => rfl
  | 0, 0, _, _, .bl _, _, _, _ | 0, _ + 1, _, _, .bl _, _, _, _ | _ + 1, 0, _, _, .bl _, _, _, _ | _ + 1, _ + 1, _, _, .bl _, _, _, _ => rfl
  | 0, 0, _, _, .int _, _, _, _ | 0, _ + 1, _, _, .int _, _, _, _ | _ + 1, 0, _, _, .int _, _, _, _ | _ + 1, _ + 1, _, _, .int _, _, _, _ => rfl
  | 0, 0, _, _, .str _, _, _, g | 0, _ + 1, _, _, .str _, _, _, g | _ + 1, 0, _, _, .str _, _, _, g | _ + 1, _ + 1, _, _, .str _, _, _, g => g
  | h + 1, k + 1, w, v, .tup xs, a, b, g => by
    obtain ⟨g1, g2⟩ := ba (show (decide (xs.length ≤ w) && gdL h w xs) = true from g)
    show (decide (xs.length ≤ v) && gdL k v xs) = true
    rw [gdL_le xs (by omega) b g2, decide_eq_true (Nat.le_trans (of_decide_eq_true g1) b)]
    rfl
  | h + 1, k + 1, w, v, .lst xs, a, b, g => by
    obtain ⟨g1, g2⟩ := ba (show (decide (xs.length ≤ w) && gdL h w xs) = true from g)
    show (decide (xs.length ≤ v) && gdL k v xs) = true
    rw [gdL_le xs (by omega) b g2, decide_eq_true (Nat.le_trans (of_decide_eq_true g1) b)]
    rfl
  | 0, _, _, _, .tup _, _, _, g | 0, _, _, _, .lst _, _, _, g => by cases g
  | _ + 1, 0, _, _, .tup _, a, _, _ | _ + 1, 0, _, _, .lst _, a, _, _ => by omega
  | 0, _, _, _, .dic _, _, _, g | _ + 1, _, _, _, .dic _, _, _, g | 0, _, _, _, .ro _, _, _, g | _ + 1, _, _, _, .ro _, _, _, g | 0, _, _, _, .cell _, _, _, g | _ + 1, _, _, _, .cell _, _, _, g => by cases g
theorem gdL_le : ∀ {h k w v : Nat} (ds : List D), h ≤ k → w ≤ v → gdL h w ds = true → gdL k v ds = true
  | _, _, _, _, [], _, _, _ => rfl
  | h, k, w, v, d :: ds, a, b, g => by
    obtain ⟨g1, g2⟩ := ba (show (gd h w d && gdL h w ds) = true from g)
    show (gd k v d && gdL k v ds) = true
    rw [gd_le d a b g1, gdL_le ds a b g2]
    rfl
end
/-! ### the program's readings -/
def isNum (v : D) (l m : Int) : Bool := match v with
  | .int i => decide (l ≤ i) && decide (i ≤ m)
  | _ => false
def isTup (v : D) (l m : Int) : Bool := match v with
  | .tup xs => decide (l ≤ xs.length) && decide ((xs.length : Int) ≤ m)
  | _ => false
def isWd (v : D) (ws : List D) : Bool := match v with
  | .str _ => ws.any fun y => eqD y v
  | _ => false
section
variable {L : Lw} {k f h w : Nat} {S : Sto}
theorem num_ok (hf : L.tf f = some dc_is_number) {v : D} {l m : Int} (g : gd h w v = true) : L.run (k + 1) f [v, .int l, .int m] S = .ok (.bl (isNum v l m)) S := by
  have hv := gd_pure h w v g
  refine run_reg (S' := []) hf rfl ⟨rfl, by decide⟩ (by simp [pureL, hv, D.pure]) ?_ rfl
  cases v with
  | int i => by_cases c : l ≤ i <;> simp [dc_is_number, isNum, c]
  | dic _ => cases h <;> cases g
  | ro _ => cases h <;> cases g
  | cell _ => cases h <;> cases g
  | _ => simp [dc_is_number, isNum]
theorem tup_ok (hf : L.tf f = some dc_is_tuple) {v : D} {l m : Int} (g : gd h w v = true) : L.run (k + 1) f [v, .int l, .int m] S = .ok (.bl (isTup v l m)) S := by
  have hv := gd_pure h w v g
  refine run_reg (S' := []) hf rfl ⟨rfl, by decide⟩ (by simp [pureL, hv, D.pure]) ?_ rfl
  cases v with
  | tup xs => by_cases c : l ≤ (xs.length : Int) <;> simp [dc_is_tuple, isTup, c]
  | dic _ => cases h <;> cases g
  | ro _ => cases h <;> cases g
  | cell _ => cases h <;> cases g
  | _ => simp [dc_is_tuple, isTup]
theorem word_ok (hf : L.tf f = some dc_is_word) {v : D} {ws : List D} (g : gd h w v = true) (hp : pureL ws = true) (hs : shpL 63 ws = true) : L.run (k + 1) f [v, .tup ws] S = .ok (.bl (isWd v ws)) S := by
  have hv := gd_pure h w v g
  refine run_reg (S' := []) hf rfl ⟨rfl, by decide⟩ (by simp [pureL, hv, D.pure, hp]) ?_ rfl
  cases v with
  | str x =>
    have : shp 64 (.str x) = true := by cases h <;> exact g
    simp [dc_is_word, isWd, this, hs]
  | dic _ => cases h <;> cases g
  | ro _ => cases h <;> cases g
  | cell _ => cases h <;> cases g
  | _ => simp [dc_is_word, isWd]
end
def wdPark : List D := [.str "park"]
def wdMove : List D := [.str "leave", .str "pull", .str "drop"]
def wdRule : List D := [.str "back", .str "front", .str "tight", .str "wide"]
def isDeed (cars : Int) (v : D) : Bool := match v with
  | .tup [a, b] => isNum b 0 (cars - 1) && isWd a wdMove
  | .tup [a, b, c] => isNum b 0 (cars - 1) && (isWd a wdPark && isWd c wdRule)
  | _ => false
def isLens (v : D) : Bool := match v with
  | .tup ls => isTup v 1 5 && ls.all fun x => isNum x 2 9
  | _ => false
def isPlan (v : D) : Bool := match v with
  | .tup [.tup ls, .tup ds] => isLens (.tup ls) && (isTup (.tup ds) 0 8 && ds.all fun d => isDeed ls.length d)
  | _ => false
section
variable {L : Lw} {k f h w : Nat} {S : Sto} {fn ft fw fd fl fg fp c : Nat}
theorem deed_ok (hn : L.tf fn = some dc_is_number) (ht : L.tf ft = some dc_is_tuple) (hw : L.tf fw = some dc_is_word) (hc : L.cons c = .tup wdRule) (hf : L.tf f = some (dc_is_deed_of ft fn fw c)) {v : D} {cars : Int} (g : gd h w v = true) :
    L.run (k + 2) f [.int cars, v] S = .ok (.bl (isDeed cars v)) S := by
  have hv := gd_pure h w v g
  refine run_reg (S' := []) hf rfl ⟨rfl, by simp [dc_is_deed_of]⟩ (by simp [pureL, hv, D.pure]) ?_ rfl
  have e1 : L.run (k + 1) ft [v, .int 2, .int 3] [] = .ok (.bl (isTup v 2 3)) [] := tup_ok ht g
  cases v with
  | tup xs =>
    cases h with
    | zero => cases g
    | succ h =>
    obtain ⟨g1, g2⟩ := ba (show (decide (xs.length ≤ w) && gdL h w xs) = true from g)
    match xs, g2, e1 with
    | [], g2, e1 => simp [dc_is_deed_of, e1, isTup, isDeed]
    | [a], g2, e1 => simp [dc_is_deed_of, e1, isTup, isDeed]
    | [a, b], g2, e1 =>
      have ga := gdL_mem g2 a (by simp)
      have gb := gdL_mem g2 b (by simp)
      have e2 : L.run (k + 1) fn [b, .int 0, .int (cars - 1)] [] = .ok (.bl (isNum b 0 (cars - 1))) [] := num_ok hn gb
      have e3 : L.run (k + 1) fw [a, .tup [.str "leave", .str "pull", .str "drop"]] [] = .ok (.bl (isWd a wdMove)) [] := word_ok hw ga rfl (by decide +kernel)
      cases q : isNum b 0 (cars - 1) <;> simp [dc_is_deed_of, e1, isTup, isDeed, e2, q, e3]
    | [a, b, d], g2, e1 =>
      have ga := gdL_mem g2 a (by simp)
      have gb := gdL_mem g2 b (by simp)
      have gc := gdL_mem g2 d (by simp)
      have e2 : L.run (k + 1) fn [b, .int 0, .int (cars - 1)] [] = .ok (.bl (isNum b 0 (cars - 1))) [] := num_ok hn gb
      have e3 : L.run (k + 1) fw [a, .tup [.str "park"]] [] = .ok (.bl (isWd a wdPark)) [] := word_ok hw ga rfl (by decide +kernel)
      have e4 : L.run (k + 1) fw [d, .tup wdRule] [] = .ok (.bl (isWd d wdRule)) [] := word_ok hw gc rfl (by decide +kernel)
      cases q : isNum b 0 (cars - 1)
      · simp [dc_is_deed_of, e1, isTup, isDeed, e2, q]
      · cases q2 : isWd a wdPark <;> simp [dc_is_deed_of, e1, isTup, isDeed, e2, q, e3, q2, e4, hc]
    | a :: b :: d :: e :: r, g2, e1 =>
      have : isTup (.tup (a :: b :: d :: e :: r)) 2 3 = false := by simp [isTup]; omega
      rw [this] at e1
      simp [dc_is_deed_of, e1, isDeed]
  | dic _ => cases h <;> cases g
  | ro _ => cases h <;> cases g
  | cell _ => cases h <;> cases g
  | _ => simp [dc_is_deed_of, e1, isTup, isDeed]
theorem lens_ok (hn : L.tf fn = some dc_is_number) (ht : L.tf ft = some dc_is_tuple) (hf : L.tf f = some (dc_are_lengths ft fn)) {v : D} (g : gd h w v = true) (hw : w < LN) :
    L.run (k + 2) f [v] S = .ok (.bl (isLens v)) S := by
  have hv := gd_pure h w v g
  refine run_reg (S' := []) hf rfl ⟨rfl, by simp [dc_are_lengths]⟩ (by simp [pureL, hv]) ?_ rfl
  have e1 : L.run (k + 1) ft [v, .int 1, .int 5] [] = .ok (.bl (isTup v 1 5)) [] := tup_ok ht g
  cases v with
  | tup xs =>
    cases h with
    | zero => cases g
    | succ h =>
    obtain ⟨g1, g2⟩ := ba (show (decide (xs.length ≤ w) && gdL h w xs) = true from g)
    cases q : isTup (.tup xs) 1 5 with
    | false => rw [q] at e1; simp [dc_are_lengths, e1, isLens, q]
    | true =>
      rw [q] at e1
      have e2 : ev L.cons (L.run (k + 1)) (.lc [1] (.nm 1) (.val (.var 0)) .none (.call fn (.cons (.var 1) (.cons (.int 2) (.cons (.int 9) .nil))))) [some (.tup xs), none] [] = .ok (.lst (xs.filterMap fun x => some (.bl (isNum x 2 9)))) [] := by
        refine lc_map (fun x => some (.bl (isNum x 2 9))) (xs := xs) (by simp) (fun x hx => ?_) (Nat.lt_of_le_of_lt (of_decide_eq_true g1) hw)
        have e3 : L.run (k + 1) fn [x, .int 2, .int 9] [] = .ok (.bl (isNum x 2 9)) [] := num_ok hn (gdL_mem g2 x hx)
        simp [e3]
      have e4 : xs.filterMap (fun x => some (D.bl (isNum x 2 9))) = xs.map fun x => D.bl (isNum x 2 9) := by rw [← List.filterMap_eq_map]; rfl
      rw [e4] at e2
      simp [dc_are_lengths, e1, isLens, q, e2, boolsD_map, List.all_map, Function.comp_def]
  | dic _ => cases h <;> cases g
  | ro _ => cases h <;> cases g
  | cell _ => cases h <;> cases g
  | _ => simp [dc_are_lengths, e1, isTup, isLens]
theorem isTup2 {v : D} (h : isTup v 2 2 = true) : ∃ a b, v = .tup [a, b] := by
  cases v with
  | tup xs =>
    match xs, h with
    | [a, b], _ => exact ⟨a, b, rfl⟩
    | [], h => simp [isTup] at h
    | [a], h => simp [isTup] at h
    | a :: b :: c :: r, h => simp [isTup] at h; omega
  | _ => cases h
theorem good_ok (hn : L.tf fn = some dc_is_number) (ht : L.tf ft = some dc_is_tuple) (hw : L.tf fw = some dc_is_word) (hc : L.cons c = .tup wdRule) (hd : L.tf fd = some (dc_is_deed_of ft fn fw c)) (hl : L.tf fl = some (dc_are_lengths ft fn))
    (hf : L.tf f = some (dc_is_good_plan ft fl fd)) {v : D} (g : gd h w v = true) (hw2 : w < LN) : L.run (k + 3) f [v] S = .ok (.bl (isPlan v)) S := by
  have hv := gd_pure h w v g
  refine run_reg (S' := []) hf rfl ⟨rfl, by simp [dc_is_good_plan]⟩ (by simp [pureL, hv]) ?_ rfl
  have e1 : L.run (k + 2) ft [v, .int 2, .int 2] [] = .ok (.bl (isTup v 2 2)) [] := tup_ok ht g
  cases q : isTup v 2 2 with
  | false =>
    rw [q] at e1
    have : isPlan v = false := by
      unfold isPlan
      split
      · simp [isTup] at q
      · rfl
    simp [dc_is_good_plan, e1, this]
  | true =>
    rw [q] at e1
    obtain ⟨a, b, rfl⟩ := isTup2 q
    cases h with
    | zero => cases g
    | succ h =>
    obtain ⟨g1, g2⟩ := ba (show (decide (2 ≤ w) && gdL h w [a, b]) = true from g)
    have ga := gdL_mem g2 a (by simp)
    have gb := gdL_mem g2 b (by simp)
    have e2 : L.run (k + 2) fl [a] [] = .ok (.bl (isLens a)) [] := lens_ok hn ht hl ga hw2
    have e3 : L.run (k + 2) ft [b, .int 0, .int 8] [] = .ok (.bl (isTup b 0 8)) [] := tup_ok ht gb
    cases q2 : isLens a with
    | false =>
      have : isPlan (.tup [a, b]) = false := by
        unfold isPlan
        split
        · rename_i heq
          cases heq
          rw [q2]; rfl
        · rfl
      simp [dc_is_good_plan, e1, e2, q2, this]
    | true =>
      obtain ⟨ls, rfl⟩ : ∃ ls, a = .tup ls := by cases a <;> first | exact ⟨_, rfl⟩ | cases q2
      cases q3 : isTup b 0 8 with
      | false =>
        have : isPlan (.tup [.tup ls, b]) = false := by
          unfold isPlan
          split
          · rename_i heq
            cases heq
            rw [q3]; simp
          · rfl
        simp [dc_is_good_plan, e1, e2, q2, e3, q3, this]
      | true =>
        obtain ⟨ds, rfl⟩ : ∃ ds, b = .tup ds := by cases b <;> first | exact ⟨_, rfl⟩ | cases q3
        cases h with
        | zero => cases ga
        | succ h =>
        obtain ⟨g3, g4⟩ := ba (show (decide (ds.length ≤ w) && gdL h w ds) = true from gb)
        have e5 : ev L.cons (L.run (k + 2)) (.lc [1] (.nm 1) (.val (.idx (.var 0) (.int 1))) .none (.call fd (.cons (.bi .len (.cons (.idx (.var 0) (.int 0)) .nil)) (.cons (.var 1) .nil)))) [some (.tup [.tup ls, .tup ds]), none] [] = .ok (.lst (ds.filterMap fun x => some (.bl (isDeed ls.length x)))) [] := by
          refine lc_map (fun x => some (.bl (isDeed ls.length x))) (xs := ds) (by simp) (fun x hx => ?_) (Nat.lt_of_le_of_lt (of_decide_eq_true g3) hw2)
          have e6 : L.run (k + 2) fd [.int ls.length, x] [] = .ok (.bl (isDeed ls.length x)) [] := deed_ok hn ht hw hc hd (gdL_mem g4 x hx)
          simp [e6]
        have e4 : ds.filterMap (fun x => some (D.bl (isDeed ls.length x))) = ds.map fun x => D.bl (isDeed ls.length x) := by rw [← List.filterMap_eq_map]; rfl
        rw [e4] at e5
        simp [dc_is_good_plan, e1, e2, q2, e3, q3, e5, boolsD_map, List.all_map, Function.comp_def, isPlan]
theorem need_ok (hn : L.tf fn = some dc_is_number) (ht : L.tf ft = some dc_is_tuple) (hw : L.tf fw = some dc_is_word) (hc : L.cons c = .tup wdRule) (hd : L.tf fd = some (dc_is_deed_of ft fn fw c)) (hl : L.tf fl = some (dc_are_lengths ft fn))
    (hg : L.tf fg = some (dc_is_good_plan ft fl fd)) (hf : L.tf f = some (dc_need_plan fg)) {v : D} (g : gd h w v = true) (hw2 : w < LN) (hp : isPlan v = true) : L.run (k + 4) f [v] S = .ok .non S := by
  have hv := gd_pure h w v g
  have e1 : L.run (k + 3) fg [v] [] = .ok (.bl (isPlan v)) [] := good_ok hn ht hw hc hd hl hg g hw2
  refine run_regN (ρ := [some v]) (S' := []) hf rfl ⟨rfl, by simp [dc_need_plan]⟩ (by simp [pureL, hv]) ?_
  simp [dc_need_plan, e1, hp]
theorem plan_ok (hn : L.tf fn = some dc_is_number) (ht : L.tf ft = some dc_is_tuple) (hw : L.tf fw = some dc_is_word) (hc : L.cons c = .tup wdRule) (hd : L.tf fd = some (dc_is_deed_of ft fn fw c)) (hl : L.tf fl = some (dc_are_lengths ft fn))
    (hg : L.tf fg = some (dc_is_good_plan ft fl fd)) (hf : L.tf f = some (dc_is_plan fg)) {v : D} (g : gd h w v = true) (hw2 : w < LN) : L.run (k + 4) f [v] S = .ok (.bl (isPlan v)) S := by
  have hv := gd_pure h w v g
  have e1 : L.run (k + 3) fg [v] [] = .ok (.bl (isPlan v)) [] := good_ok hn ht hw hc hd hl hg g hw2
  refine run_reg (S' := []) hf rfl ⟨rfl, by simp [dc_is_plan]⟩ (by simp [pureL, hv]) ?_ rfl
  simp [dc_is_plan, e1]
/-- the cars of a plan -/
def carsOf (v : D) : Int := match v with
  | .tup (.tup ls :: _) => ls.length
  | _ => 0
theorem isDeed_ok (hn : L.tf fn = some dc_is_number) (ht : L.tf ft = some dc_is_tuple) (hw : L.tf fw = some dc_is_word) (hc : L.cons c = .tup wdRule) (hd : L.tf fd = some (dc_is_deed_of ft fn fw c)) (hl : L.tf fl = some (dc_are_lengths ft fn))
    (hg : L.tf fg = some (dc_is_good_plan ft fl fd)) (hp : L.tf fp = some (dc_need_plan fg)) (hf : L.tf f = some (dc_is_deed fp fd)) {p v : D} (gp : gd h w p = true) (g : gd h w v = true) (hw2 : w < LN) (hpl : isPlan p = true) :
    L.run (k + 5) f [p, v] S = .ok (.bl (isDeed (carsOf p) v)) S := by
  have hv := gd_pure h w v g
  have hv2 := gd_pure h w p gp
  have e1 : L.run (k + 4) fp [p] [] = .ok .non [] := need_ok hn ht hw hc hd hl hg hp gp hw2 hpl
  obtain ⟨ls, ds, rfl⟩ : ∃ ls ds, p = .tup [.tup ls, .tup ds] := by
    unfold isPlan at hpl
    split at hpl
    · exact ⟨_, _, rfl⟩
    · cases hpl
  have e2 : L.run (k + 4) fd [.int ls.length, v] [] = .ok (.bl (isDeed ls.length v)) [] := deed_ok hn ht hw hc hd g
  refine run_reg (S' := []) hf rfl ⟨rfl, by simp [dc_is_deed]⟩ (by simp [pureL, hv, hv2]) ?_ rfl
  simp [dc_is_deed, e1, e2, carsOf]
end
end KI


set_option Elab.async false
set_option linter.all false
set_option maxRecDepth 100000
set_option autoImplicit false
set_option maxHeartbeats 1000000
/-! What a law draws. -/
namespace KI
open PySem


/-! ### what is drawn -/
def Src (S : Sto) (n : Nat) : Prop := ∃ a b : Int, S[n]? = some (.lst [.int a, .int b]) ∧ 0 ≤ a ∧ 0 ≤ b ∧ b < 2147483648
theorem Src.lt {S : Sto} {n : Nat} (h : Src S n) : n < S.length := by
  obtain ⟨a, b, h, _⟩ := h
  exact (List.getElem?_eq_some_iff.mp h).1
section
variable {L : Lw} {k f fd fo fr : Nat} {S : Sto} {n : Nat}
theorem mulOk_r {i j : Int} (h1 : -(2 ^ 64) < j) (h2 : j < 2 ^ 64) : mulOk i j = true := by
  unfold mulOk
  rw [Bool.or_eq_true]
  exact .inr (decide_eq_true ⟨h1, h2⟩)
theorem mulOk_l {i j : Int} (h1 : -(2 ^ 64) < i) (h2 : i < 2 ^ 64) : mulOk i j = true := by
  unfold mulOk
  rw [Bool.or_eq_true]
  exact .inl (decide_eq_true ⟨h1, h2⟩)
theorem draw_ok (hf : L.tf f = some dc__law_draw) (h : Src S n) {m : Int} (m0 : 0 < m) (m1 : m < 1073741824) :
    ∃ r S', L.run (k + 1) f [.cell n, .int m] S = .ok (.int r) S' ∧ 0 ≤ r ∧ r < m ∧ Src S' n ∧ S'.length = S.length := by
  have hn := h.lt
  obtain ⟨a, b, hS, a0, b0, b1⟩ := h
  have mne : m ≠ 0 := by omega
  have mna : m.natAbs < 1073741824 := by omega
  by_cases ha : 0 < a
  · refine ⟨a.fmod m, S.set n (.lst [.int (a.fdiv m), .int b]), ?_, Int.fmod_nonneg a0 (by omega), Int.fmod_lt_of_pos _ m0, ⟨a.fdiv m, b, by simp [hn], Int.fdiv_nonneg a0 (by omega), b0, b1⟩, by simp⟩
    refine run_non hf rfl ⟨rfl, by simp [dc__law_draw]⟩ ?_
    simp [dc__law_draw, hS, ha, mne, mna]
  · have b2 : 0 ≤ (b * 48271).fmod 2147483647 := Int.fmod_nonneg (by omega) (by omega)
    have b3 : (b * 48271).fmod 2147483647 < 2147483647 := Int.fmod_lt_of_pos _ (by omega)
    obtain ⟨c, hc⟩ : ∃ c, c = (b * 48271).fmod 2147483647 := ⟨_, rfl⟩
    rw [← hc] at b2 b3
    have e1 : mulOk b 48271 = true := mulOk_r (by omega) (by omega)
    have e2 : mulOk c c = true := mulOk_r (by omega) (by omega)
    have e3 : 0 ≤ (c * c).fmod 2147483629 := Int.fmod_nonneg (Int.mul_nonneg b2 b2) (by omega)
    refine ⟨(((c * c).fmod 2147483629).fdiv 64).fmod m, S.set n (.lst [.int a, .int c]), ?_, Int.fmod_nonneg (Int.fdiv_nonneg e3 (by omega)) (by omega), Int.fmod_lt_of_pos _ m0, ⟨a, c, by simp [hn], a0, b2, by omega⟩, by simp⟩
    refine run_non hf rfl ⟨rfl, by simp [dc__law_draw]⟩ ?_
    have hset : ∀ x : Ob, (S.set n x)[n]? = some x := fun x => List.getElem?_set_self hn
    simp [dc__law_draw, hS, ha, e1, ← hc, hset, e2, mne]
theorem of_ok (hd : L.tf fd = some dc__law_draw) (hf : L.tf f = some (dc__law_of fd)) (h : Src S n) {xs : List D} (x0 : xs ≠ []) (x1 : xs.length < 1073741824) :
    ∃ x S', L.run (k + 2) f [.cell n, .lst xs] S = .ok x S' ∧ x ∈ xs ∧ Src S' n ∧ S'.length = S.length := by
  have l0 : 0 < xs.length := List.length_pos_iff.mpr x0
  obtain ⟨r, S', e, r0, r1, s', ln⟩ := draw_ok (k := k) hd h (m := xs.length) (by omega) (by omega)
  obtain ⟨j, rfl⟩ := Int.eq_ofNat_of_zero_le r0
  have hj : j < xs.length := by omega
  refine ⟨(xs[j]'hj), S', ?_, List.getElem_mem hj, s', ln⟩
  refine run_non hf rfl ⟨rfl, by simp [dc__law_of]⟩ ?_
  simp [dc__law_of, e, atI_nat, hj]
theorem source_ok (hf : L.tf f = some dc__law_source) {ns : List Int} {j : Nat} : ∃ S', L.run (k + 1) f [.ro (ns.map .int), .int j] S = .ok (.cell S.length) S' ∧ Src S' S.length ∧ ∃ o, S' = S ++ [o] := by
  obtain ⟨c, hc⟩ : ∃ c : Int, c = if (j : Int) < ns.length then (if (ns[j]?.getD 0) < 0 then -(ns[j]?.getD 0) else ns[j]?.getD 0) else 0 := ⟨_, rfl⟩
  have c0 : 0 ≤ c := by
    rw [hc]
    split
    · split <;> omega
    · omega
  have e1 : mulOk c 7919 = true := mulOk_r (by omega) (by omega)
  have e2 : mulOk 104729 j = true := mulOk_l (by omega) (by omega)
  have body : ∀ S : Sto, ∃ S', exss L.cons (L.run k) L.fuel dc__law_source.body [some (.ro (ns.map .int)), some (.int j), none] S = .rt (.cell S.length) S' ∧ Src S' S.length ∧ ∃ o, S' = S ++ [o] := by
    intro S
    by_cases q : c < 1000000000000000000
    · refine ⟨S ++ [.lst [.int 0, .int (1 + (c * 7919 + 104729 * j).fmod 2147483646)]], ?_, ⟨0, 1 + (c * 7919 + 104729 * j).fmod 2147483646, by simp, by omega, ?_, ?_⟩, _, rfl⟩
      · by_cases hj : j < ns.length
        · have hc' : c = if ns[j] < 0 then -ns[j] else ns[j] := by rw [hc, if_pos (by omega), List.getElem?_eq_getElem hj]; rfl
          simp [dc__law_source, atI_nat, hj, ← hc', q, e1, e2]
        · have hc' : c = 0 := by rw [hc, if_neg (by omega)]
          subst hc'
          simp [dc__law_source, hj, e1, e2]
      · have := Int.fmod_nonneg (a := c * 7919 + 104729 * j) (b := 2147483646) (by omega) (by omega)
        omega
      · have := Int.fmod_lt_of_pos (c * 7919 + 104729 * j) (b := 2147483646) (by omega)
        omega
    · refine ⟨S ++ [.lst [.int c, .int (1 + (c + j).fmod 2147483646)]], ?_, ⟨c, 1 + (c + j).fmod 2147483646, by simp, c0, ?_, ?_⟩, _, rfl⟩
      · by_cases hj : j < ns.length
        · have hc' : c = if ns[j] < 0 then -ns[j] else ns[j] := by rw [hc, if_pos (by omega), List.getElem?_eq_getElem hj]; rfl
          simp [dc__law_source, atI_nat, hj, ← hc', q]
        · have hc' : c = 0 := by rw [hc, if_neg (by omega)]
          omega
      · have := Int.fmod_nonneg (a := c + j) (b := 2147483646) (by omega) (by omega)
        omega
      · have := Int.fmod_lt_of_pos (c + j) (b := 2147483646) (by omega)
        omega
  obtain ⟨S', e, h1, h2⟩ := body S
  exact ⟨S', run_non hf rfl ⟨rfl, by simp [dc__law_source]⟩ e, h1, h2⟩
end
end KI


set_option Elab.async false
set_option linter.all false
set_option maxRecDepth 100000
set_option autoImplicit false
set_option maxHeartbeats 1000000
/-! A drawn deed, a drawn plan. -/
namespace KI
open PySem


/-! ### a drawn deed, a drawn plan -/
theorem sh_park : shp 64 (.str "park") = true := by decide +kernel
theorem sh_leave : shp 64 (.str "leave") = true := by decide +kernel
theorem sh_pull : shp 64 (.str "pull") = true := by decide +kernel
theorem sh_drop : shp 64 (.str "drop") = true := by decide +kernel
theorem eq_pp : eqD (.str "park") (.str "park") = true := by decide +kernel
theorem eq_lp : eqD (.str "leave") (.str "park") = false := by decide +kernel
theorem eq_up : eqD (.str "pull") (.str "park") = false := by decide +kernel
theorem eq_dp : eqD (.str "drop") (.str "park") = false := by decide +kernel
def Rule (x : D) : Prop := x = .str "front" ∨ x = .str "back" ∨ x = .str "tight" ∨ x = .str "wide"
theorem Rule.wd {x : D} (h : Rule x) : isWd x wdRule = true := by
  rcases h with h | h | h | h <;> subst h <;> decide +kernel
theorem Rule.gd {x : D} (h : Rule x) (k w : Nat) : gd k w x = true := by
  have : ∀ s : Str, s.cps.all (· < 0x110000) = true → KI.gd k w (.str s) = true := fun s q => by cases k <;> exact q
  rcases h with h | h | h | h <;> subst h <;> exact this _ (by decide +kernel)
theorem gd_str0 {x : Str} (h : x.cps.all (· < 0x110000) = true) (k w : Nat) : gd k w (.str x) = true := by cases k <;> exact h
theorem gd_int (i : Int) (k w : Nat) : gd k w (.int i) = true := by cases k <;> rfl
section
variable {L : Lw} {k f fd fo fr fe : Nat} {S : Sto} {n : Nat}
theorem rule_ok (hd : L.tf fd = some dc__law_draw) (ho : L.tf fo = some (dc__law_of fd)) (hf : L.tf f = some (dc__law_rule fo)) (h : Src S n) :
    ∃ x S', L.run (k + 3) f [.cell n] S = .ok x S' ∧ Rule x ∧ Src S' n ∧ S'.length = S.length := by
  obtain ⟨x, S', e, hx, s', ln⟩ := of_ok (k := k) hd ho h (xs := [.str "front", .str "back", .str "tight", .str "wide"]) (by simp) (by simp)
  refine ⟨x, S', ?_, by simpa [Rule] using hx, s', ln⟩
  refine run_non hf rfl ⟨rfl, by simp [dc__law_rule]⟩ ?_
  simp [dc__law_rule, e]
/-- a drawn deed -/
structure DrawnDeed (cars : Int) (d : D) : Prop where
  ok : isDeed cars d = true
  form : (∃ x r, d = .tup [.str "park", .int r, x] ∧ Rule x ∧ 0 ≤ r ∧ r < cars) ∨ ∃ w r, d = .tup [.str w, .int r] ∧ (w = "leave" ∨ w = "pull" ∨ w = "drop") ∧ 0 ≤ r ∧ r < cars
theorem drawnPark {cars r : Int} {x : D} (hx : Rule x) (r0 : 0 ≤ r) (r1 : r < cars) : DrawnDeed cars (.tup [.str "park", .int r, x]) := by
  refine ⟨?_, .inl ⟨x, r, rfl, hx, r0, r1⟩⟩
  have e : isWd (.str "park") wdPark = true := by decide +kernel
  simp [isDeed, isNum, r0, e, hx.wd]
  omega
theorem drawnMove {cars r : Int} {w : Str} (hw : w = "leave" ∨ w = "pull" ∨ w = "drop") (r0 : 0 ≤ r) (r1 : r < cars) : DrawnDeed cars (.tup [.str w, .int r]) := by
  refine ⟨?_, .inr ⟨w, r, rfl, hw, r0, r1⟩⟩
  have e : isWd (.str w) wdMove = true := by rcases hw with h | h | h <;> subst h <;> decide +kernel
  simp [isDeed, isNum, r0, e]
  omega
theorem DrawnDeed.gd {cars : Int} {d : D} (h : DrawnDeed cars d) : gd 1 3 d = true := by
  rcases h.form with ⟨x, r, rfl, hx, _⟩ | ⟨w, r, rfl, hw, _⟩
  · show (decide (3 ≤ 3) && (_ && (_ && (_ && true)))) = true
    rw [gd_str0 (by decide +kernel) 0 3, hx.gd]
    rfl
  · show (decide (2 ≤ 3) && (_ && (_ && true))) = true
    have : KI.gd 0 3 (.str w) = true := by rcases hw with h | h | h <;> subst h <;> decide +kernel
    rw [this]
    rfl
theorem deedg_ok (hd : L.tf fd = some dc__law_draw) (ho : L.tf fo = some (dc__law_of fd)) (hr : L.tf fr = some (dc__law_rule fo)) (hf : L.tf f = some (dc__law_deed fo fd fr)) (h : Src S n) {cars : Int} (c0 : 0 < cars) (c1 : cars < 1073741824) :
    ∃ d S', L.run (k + 4) f [.cell n, .int cars] S = .ok d S' ∧ DrawnDeed cars d ∧ Src S' n ∧ S'.length = S.length := by
  obtain ⟨x, S1, e1, hx, s1, l1⟩ := of_ok (k := k + 1) hd ho h (xs := [.str "park", .str "park", .str "park", .str "leave", .str "leave", .str "pull", .str "drop"]) (by simp) (by simp)
  obtain ⟨r, S2, e2, r0, r1, s2, l2⟩ := draw_ok (k := k + 2) hd s1 c0 c1
  obtain ⟨y, S3, e3, hy, s3, l3⟩ := rule_ok (k := k) hd ho hr s2
  have hx : x = .str "park" ∨ x = .str "leave" ∨ x = .str "pull" ∨ x = .str "drop" := by
    simp only [List.mem_cons, List.not_mem_nil, or_false] at hx
    rcases hx with h | h | h | h | h | h | h <;> simp [h]
  rcases hx with h | h | h | h <;> subst h
  · refine ⟨.tup [.str "park", .int r, y], S3, ?_, drawnPark hy r0 r1, s3, by omega⟩
    refine run_non hf rfl ⟨rfl, by simp [dc__law_deed]⟩ ?_
    simp [dc__law_deed, e1, sh_park, eq_pp, e2, e3]
  · refine ⟨.tup [.str "leave", .int r], S2, ?_, drawnMove (.inl rfl) r0 r1, s2, by omega⟩
    refine run_non hf rfl ⟨rfl, by simp [dc__law_deed]⟩ ?_
    simp [dc__law_deed, e1, sh_park, sh_leave, eq_lp, e2]
  · refine ⟨.tup [.str "pull", .int r], S2, ?_, drawnMove (.inr (.inl rfl)) r0 r1, s2, by omega⟩
    refine run_non hf rfl ⟨rfl, by simp [dc__law_deed]⟩ ?_
    simp [dc__law_deed, e1, sh_park, sh_pull, eq_up, e2]
  · refine ⟨.tup [.str "drop", .int r], S2, ?_, drawnMove (.inr (.inr rfl)) r0 r1, s2, by omega⟩
    refine run_non hf rfl ⟨rfl, by simp [dc__law_deed]⟩ ?_
    simp [dc__law_deed, e1, sh_park, sh_drop, eq_dp, e2]
/-- a drawn plan -/
structure DrawnPlan (most : Int) (p : D) : Prop where
  form : ∃ (ls : List Int) (ds : List D), p = .tup [.tup (ls.map .int), .tup ds] ∧ 1 ≤ ls.length ∧ ls.length ≤ 5 ∧ (∀ x ∈ ls, 2 ≤ x ∧ x ≤ 9) ∧ (ds.length : Int) ≤ most ∧ ∀ d ∈ ds, DrawnDeed ls.length d
theorem rngL_int {n : Nat} : ∀ {lo : Int} {i : Nat} {x : D}, (rngL lo n)[i]? = some x → x = .int (lo + i) ∧ i < n := by
  intro lo i x h
  have hl : i < n := by
    have := (List.getElem?_eq_some_iff.mp h).1
    rwa [rngL_length] at this
  rw [rngL_get n lo i hl] at h
  exact ⟨(Option.some.inj h).symm, hl⟩
theorem plang_ok (hd : L.tf fd = some dc__law_draw) (ho : L.tf fo = some (dc__law_of fd)) (hr : L.tf fr = some (dc__law_rule fo)) (he : L.tf fe = some (dc__law_deed fo fd fr)) (hf : L.tf f = some (dc__law_plan fd fe fr)) (h : Src S n) {most : Int} (m0 : 0 ≤ most) (m1 : most < 1000000) :
    ∃ p S', L.run (k + 5) f [.cell n, .int most] S = .ok p S' ∧ DrawnPlan most p ∧ Src S' n ∧ S'.length = S.length := by
  obtain ⟨r, S1, e1, r0, r1, s1, l1⟩ := draw_ok (k := k + 3) hd h (m := 5) (by omega) (by omega)
  -- the lengths
  obtain ⟨ρ2, S2, e2, t2, ls, rfl, p2, p3, p4, p5⟩ := evFor_ix (tg := .nm 2) (body := exss L.cons (L.run (k + 4)) L.fuel (.cons (.set 3 (.bin .add (.var 3) (.tup (.cons (.bin .add (.int 2) (.call fd (.cons (.var 0) (.cons (.int 8) .nil)))) .nil)))) .nil)) (xs := rngL 0 (1 + r).toNat)
    (fun i ρ S' => ∃ (t : Option D) (ls : List Int), ρ = [some (.cell n), some (.int most), t, some (.tup (ls.map D.int)), some (.tup []), none] ∧ ls.length = i ∧ (∀ x ∈ ls, (2 : Int) ≤ x ∧ x ≤ 9) ∧ Src S' n ∧ S'.length = S.length)
    (fun i x hx ρ S' ⟨t, ls, q1, q2, q3, q4, q5⟩ => by
      obtain ⟨rfl, hi⟩ := rngL_int hx
      subst q1
      obtain ⟨y, S2, e, y0, y1, s2, l2⟩ := draw_ok (k := k + 3) hd q4 (m := 8) (by omega) (by omega)
      refine ⟨_, rfl, [some (.cell n), some (.int most), some (.int (0 + i)), some (.tup ((ls ++ [2 + y]).map D.int)), some (.tup []), none], S2, ?_, _, ls ++ [2 + y], rfl, by simp [q2], fun x hx => ?_, s2, by omega⟩
      · have : ls.length + 1 ≤ 16777216 := by omega
        simp [e, this]
      · rcases List.mem_append.mp hx with hx | hx
        · exact q3 x hx
        · simp only [List.mem_singleton] at hx
          omega) (ρ := [some (.cell n), some (.int most), none, some (.tup []), some (.tup []), none]) (S := S1) ⟨none, [], rfl, rfl, (fun _ h => nomatch h), s1, l1⟩
  rw [rngL_length] at p2
  obtain ⟨m, S3, e3, m2, m3, s3, l3⟩ := draw_ok (k := k + 3) hd p4 (m := most + 1) (by omega) (by omega)
  -- the deeds
  obtain ⟨ρ4, S4, e4, t4, d4, ds, rfl, p6, p7, p8, p9⟩ := evFor_ix (tg := .nm 2) (body := exss L.cons (L.run (k + 4)) L.fuel (.cons (.set 5 (.call fe (.cons (.var 0) (.cons (.bi .len (.cons (.var 3) .nil)) .nil)))) (.cons (.ifs (.and (.cmp .lt (.var 2) (.bi .len (.cons (.var 3) .nil))) (.cmp .gt (.call fd (.cons (.var 0) (.cons (.int 4) .nil))) (.int 0))) (.cons (.set 5 (.tup (.cons (.str "park") (.cons (.var 2) (.cons (.call fr (.cons (.var 0) .nil)) .nil))))) .nil) .nil) (.cons (.set 4 (.bin .add (.var 4) (.tup (.cons (.var 5) .nil)))) .nil)))) (xs := rngL 0 m.toNat)
    (fun i ρ S' => ∃ (t d : Option D) (ds : List D), ρ = [some (.cell n), some (.int most), t, some (.tup (ls.map D.int)), some (.tup ds), d] ∧ ds.length = i ∧ (∀ x ∈ ds, DrawnDeed ls.length x) ∧ Src S' n ∧ S'.length = S.length)
    (fun i x hx ρ S' ⟨t, d, ds, q1, q2, q3, q4, q5⟩ => by
      obtain ⟨rfl, hi⟩ := rngL_int hx
      subst q1
      obtain ⟨y, S2, e, y1, s2, l2⟩ := deedg_ok (k := k) hd ho hr he q4 (cars := ls.length) (by omega) (by omega)
      have hds : ds.length + 1 ≤ 16777216 := by omega
      have fin : ∀ {z : D} {S5 : Sto}, DrawnDeed ls.length z → ∀ x ∈ ds ++ [z], DrawnDeed ls.length x := fun hz x hx => by
        rcases List.mem_append.mp hx with hx | hx
        · exact q3 x hx
        · simp only [List.mem_singleton] at hx
          rw [hx]; exact hz
      by_cases hl : (i : Int) < ls.length
      · obtain ⟨z, S5, e5, z0, z1, s5, l5⟩ := draw_ok (k := k + 3) hd s2 (m := 4) (by omega) (by omega)
        by_cases hz : 0 < z
        · obtain ⟨u, S6, e6, hu, s6, l6⟩ := rule_ok (k := k + 1) hd ho hr s5
          refine ⟨_, rfl, [some (.cell n), some (.int most), some (.int (0 + i)), some (.tup (ls.map D.int)), some (.tup (ds ++ [.tup [.str "park", .int i, u]])), some (.tup [.str "park", .int i, u])], S6, ?_, _, _, ds ++ [.tup [.str "park", .int i, u]], rfl, by simp [q2], fin (S5 := S6) (drawnPark hu (by omega) hl), s6, by omega⟩
          have hl2 : i < ls.length := by omega
          simp [e, hl2, e5, hz, e6, hds]
        · refine ⟨_, rfl, [some (.cell n), some (.int most), some (.int (0 + i)), some (.tup (ls.map D.int)), some (.tup (ds ++ [y])), some y], S5, ?_, _, _, ds ++ [y], rfl, by simp [q2], fin (S5 := S5) y1, s5, by omega⟩
          have hl2 : i < ls.length := by omega
          simp [e, hl2, e5, hz, hds]
      · refine ⟨_, rfl, [some (.cell n), some (.int most), some (.int (0 + i)), some (.tup (ls.map D.int)), some (.tup (ds ++ [y])), some y], S2, ?_, _, _, ds ++ [y], rfl, by simp [q2], fin (S5 := S2) y1, s2, by omega⟩
        have hl2 : ¬ i < ls.length := by omega
        simp [e, hl2, hds]) (ρ := [some (.cell n), some (.int most), t2, some (.tup (ls.map D.int)), some (.tup []), none]) (S := S3) ⟨t2, none, [], rfl, rfl, (fun _ h => nomatch h), s3, by omega⟩
  rw [rngL_length] at p6
  refine ⟨.tup [.tup (ls.map .int), .tup ds], S4, ?_, ⟨ls, ds, rfl, by omega, by omega, p3, by omega, p7⟩, p8, p9⟩
  have g1 : rngOk (1 + r) = true := decide_eq_true ⟨by omega, by omega⟩
  have g2 : rngOk m = true := decide_eq_true ⟨by omega, by omega⟩
  refine run_non hf rfl ⟨rfl, by simp [dc__law_plan]⟩ ?_
  simp [dc__law_plan, e1, g1, e2, e3, g2, e4]
theorem DrawnPlan.plan {most : Int} {p : D} (h : DrawnPlan most p) (hm : most ≤ 8) : isPlan p = true := by
  obtain ⟨ls, ds, rfl, l0, l1, hl, hd, hds⟩ := h.form
  have h1 : ∀ x ∈ ls, isNum (.int x) 2 9 = true := fun x hx => by
    obtain ⟨a, b⟩ := hl x hx
    simp [isNum, a, b]
  simp only [isPlan, isLens, isTup, List.length_map, Bool.and_eq_true, decide_eq_true_eq, List.all_eq_true, List.mem_map]
  refine ⟨⟨⟨Int.ofNat_le.mpr l0, Int.ofNat_le.mpr l1⟩, ?_⟩, ⟨Int.natCast_nonneg _, Int.le_trans hd hm⟩, fun d hd => (hds d hd).ok⟩
  rintro _ ⟨x, hx, rfl⟩
  exact h1 x hx
theorem DrawnPlan.gd {most : Int} {p : D} (h : DrawnPlan most p) (hm : most ≤ 8) : gd 3 8 p = true := by
  obtain ⟨ls, ds, rfl, l0, l1, hl, hd, hds⟩ := h.form
  have h1 : KI.gd 2 8 (.tup (ls.map .int)) = true := by
    have q : (ls.map D.int).length ≤ 8 := by rw [List.length_map]; omega
    show (decide ((ls.map D.int).length ≤ 8) && _) = true
    rw [decide_eq_true q, gdL_of]
    · rfl
    · intro x hx
      obtain ⟨y, _, rfl⟩ := List.mem_map.mp hx
      rfl
  have h2 : KI.gd 2 8 (.tup ds) = true := by
    have q : ds.length ≤ 8 := by omega
    show (decide (ds.length ≤ 8) && _) = true
    rw [decide_eq_true q, gdL_of]
    · rfl
    · intro x hx
      exact gd_le (h := 1) (k := 1) (w := 3) (v := 8) x (by omega) (by omega) (hds x hx).gd
  show (decide (2 ≤ 8) && (_ && (_ && true))) = true
  rw [h1, h2]
  rfl
end
end KI


set_option Elab.async false
set_option linter.all false
set_option maxRecDepth 100000
set_option maxHeartbeats 0
namespace K01
open PySem PySem.Spec PyProof.Rows L2 KI
abbrev prog : Program := PySem.Challenge.pw_anykerb_k01_values_recognized
def top (i : Nat) : Stmt := prog.main.body.getD i (.Pass ⟨0, 0, 0, 0⟩)
abbrev d_is_number : Def := dc_is_number 
abbrev d_is_tuple : Def := dc_is_tuple 
abbrev d_is_word : Def := dc_is_word 
abbrev d_is_deed_of : Def := dc_is_deed_of 1 0 2 0
abbrev d_are_lengths : Def := dc_are_lengths 1 0
abbrev d_is_good_plan : Def := dc_is_good_plan 1 4 3
abbrev d_need_plan : Def := dc_need_plan 5
abbrev d_is_plan : Def := dc_is_plan 5
abbrev d_is_deed : Def := dc_is_deed 6 3
abbrev d__law_source : Def := dc__law_source 
abbrev d__law_draw : Def := dc__law_draw 
abbrev d__law_of : Def := dc__law_of 10
abbrev d__law_rule : Def := dc__law_rule 11
abbrev d__law_deed : Def := dc__law_deed 11 10 12
abbrev d__law_plan : Def := dc__law_plan 10 13 12
def d__law_is_int : Def := { name := "_law_is_int", N := ["value", "least", "top"], nps := 3, reg := true, body := (.cons (.ret (.and (.isi (.var 0) .int) (.and (.not (.isi (.var 0) .bool)) (.chn .le .le (.var 1) (.var 0) (.var 2))))) .nil) }
def d__law_is_deed : Def := { name := "_law_is_deed", N := ["cars", "value", "good"], nps := 2, reg := true, body := (.cons (.ifs (.or (.not (.isi (.var 1) .tuple)) (.or (.cmp .nin (.bi .len (.cons (.var 1) .nil)) (.tup (.cons (.int 2) (.cons (.int 3) .nil)))) (.not (.isi (.idx (.var 1) (.int 0)) .str)))) (.cons (.ret (.bl false)) .nil) .nil) (.cons (.ifs (.not (.call 15 (.cons (.idx (.var 1) (.int 1)) (.cons (.int 0) (.cons (.bin .sub (.var 0) (.int 1)) .nil))))) (.cons (.ret (.bl false)) .nil) .nil) (.cons (.ifs (.cmp .eq (.bi .len (.cons (.var 1) .nil)) (.int 2)) (.cons (.ret (.cmp .in_ (.idx (.var 1) (.int 0)) (.tup (.cons (.str "leave") (.cons (.str "pull") (.cons (.str "drop") .nil)))))) .nil) .nil) (.cons (.set 2 (.and (.isi (.idx (.var 1) (.int 2)) .str) (.cmp .in_ (.idx (.var 1) (.int 2)) (.tup (.cons (.str "front") (.cons (.str "back") (.cons (.str "tight") (.cons (.str "wide") .nil)))))))) (.cons (.ret (.and (.cmp .eq (.idx (.var 1) (.int 0)) (.str "park")) (.var 2))) .nil))))) }
def d__law_is_plan : Def := { name := "_law_is_plan", N := ["value", "length", "deed"], nps := 1, reg := true, body := (.cons (.ifs (.or (.not (.isi (.var 0) .tuple)) (.or (.cmp .ne (.bi .len (.cons (.var 0) .nil)) (.int 2)) (.not (.isi (.idx (.var 0) (.int 0)) .tuple)))) (.cons (.ret (.bl false)) .nil) .nil) (.cons (.ifs (.or (.not (.chn .le .le (.int 1) (.bi .len (.cons (.idx (.var 0) (.int 0)) .nil)) (.int 5))) (.or (.not (.isi (.idx (.var 0) (.int 1)) .tuple)) (.cmp .gt (.bi .len (.cons (.idx (.var 0) (.int 1)) .nil)) (.int 8)))) (.cons (.ret (.bl false)) .nil) .nil) (.cons (.ifs (.cmp .ne (.lc [1] (.nm 1) (.val (.idx (.var 0) (.int 0))) (.some (.not (.call 15 (.cons (.var 1) (.cons (.int 2) (.cons (.int 9) .nil)))))) (.var 1)) (.lst .nil)) (.cons (.ret (.bl false)) .nil) .nil) (.cons (.ret (.cmp .eq (.lc [2] (.nm 2) (.val (.idx (.var 0) (.int 1))) (.some (.not (.call 16 (.cons (.bi .len (.cons (.idx (.var 0) (.int 0)) .nil)) (.cons (.var 2) .nil))))) (.var 2)) (.lst .nil))) .nil)))) }
def d__law_odd : Def := { name := "_law_odd", N := ["source", "items"], nps := 1, reg := false, body := (.cons (.set 1 (.lst (.cons .non (.cons (.bl true) (.cons (.bl false) (.cons (.int 0) (.cons (.int 1) (.cons (.int 2) (.cons (.int 4) (.cons (.int 5) (.cons (.int 9) (.cons (.int 10) (.cons (.neg (.int 1)) (.cons (.str "") (.cons (.str "park") (.cons (.str "pull") (.cons (.str "front") (.cons (.str "near") (.cons (.tup .nil) .nil))))))))))))))))))) (.cons (.ret (.call 11 (.cons (.var 0) (.cons (.bin .add (.var 1) (.lst (.cons (.lst .nil) (.cons (.tup (.cons (.str "leave") (.cons (.int 0) .nil))) (.cons (.tup (.cons (.str "park") (.cons (.int 0) (.cons (.str "wide") .nil)))) (.cons (.lst (.cons (.str "pull") (.cons (.int 0) .nil))) (.cons (.tup (.cons (.str "drop") (.cons (.int 1) (.cons (.str "back") .nil)))) .nil))))))) .nil)))) .nil)) }
def d__law_spoilt : Def := { name := "_law_spoilt", N := ["source", "value", "at", "mode"], nps := 2, reg := false, body := (.cons (.ifs (.or (.not (.isi (.var 1) .tuple)) (.or (.cmp .eq (.var 1) (.tup .nil)) (.cmp .eq (.call 10 (.cons (.var 0) (.cons (.int 6) .nil))) (.int 0)))) (.cons (.ret (.call 18 (.cons (.var 0) .nil))) .nil) .nil) (.cons (.par 2 3 (.cons (.call 10 (.cons (.var 0) (.cons (.bi .len (.cons (.var 1) .nil)) .nil))) (.cons (.call 10 (.cons (.var 0) (.cons (.int 9) .nil))) .nil))) (.cons (.ifs (.cmp .eq (.var 3) (.int 0)) (.cons (.ret (.bin .add (.sli (.var 1) .none (.some (.var 2))) (.sli (.var 1) (.some (.bin .add (.var 2) (.int 1))) .none))) .nil) .nil) (.cons (.ifs (.cmp .eq (.var 3) (.int 1)) (.cons (.ret (.bin .add (.sli (.var 1) .none (.some (.bin .add (.var 2) (.int 1)))) (.sli (.var 1) (.some (.var 2)) .none))) .nil) .nil) (.cons (.ifs (.cmp .eq (.var 3) (.int 2)) (.cons (.ret (.bin .add (.bin .add (.sli (.var 1) .none (.some (.var 2))) (.tup (.cons (.call 18 (.cons (.var 0) .nil)) .nil))) (.sli (.var 1) (.some (.var 2)) .none))) .nil) .nil) (.cons (.ifs (.cmp .eq (.var 3) (.int 3)) (.cons (.ret (.bi .list (.cons (.var 1) .nil))) .nil) .nil) (.cons (.ifs (.and (.isi (.idx (.var 1) (.var 2)) .int) (.cmp .lt (.var 3) (.int 6))) (.cons (.ret (.bin .add (.bin .add (.sli (.var 1) .none (.some (.var 2))) (.tup (.cons (.bin .sub (.bin .add (.idx (.var 1) (.var 2)) (.call 10 (.cons (.var 0) (.cons (.int 3) .nil)))) (.int 1)) .nil))) (.sli (.var 1) (.some (.bin .add (.var 2) (.int 1))) .none))) .nil) .nil) (.cons (.ret (.bin .add (.bin .add (.sli (.var 1) .none (.some (.var 2))) (.tup (.cons (.call 19 (.cons (.var 0) (.cons (.idx (.var 1) (.var 2)) .nil))) .nil))) (.sli (.var 1) (.some (.bin .add (.var 2) (.int 1))) .none))) .nil)))))))) }
def d_law : Def := { name := "law", N := ["script", "most", "k", "one", "source", "plan", "value", "turn"], nps := 1, reg := false, body := (.cons (.set 1 (.tup (.cons (.bin .mul (.tup (.cons (.int 9) .nil)) (.int 5)) (.cons (.bin .mul (.tup (.cons (.tup (.cons (.str "park") (.cons (.int 4) (.cons (.str "back") .nil)))) .nil)) (.int 8)) .nil)))) (.cons (.for_ (.nm 2) (.rng1 (.bin .add (.int 1) (.bi .min2 (.cons (.bi .len (.cons (.var 0) .nil)) (.cons (.int 10) .nil))))) (.cons (.set 4 (.call 9 (.cons (.var 0) (.cons (.var 2) .nil)))) (.cons (.set 5 (.call 14 (.cons (.var 4) (.cons (.int 8) .nil)))) (.cons (.for_ (.nm 6) (.val (.lst (.cons (.var 5) (.cons (.var 5) (.cons (.call 13 (.cons (.var 4) (.cons (.bi .len (.cons (.idx (.var 5) (.int 0)) .nil)) .nil))) (.cons (.var 1) .nil)))))) (.cons (.for_ (.nm 7) (.rng1 (.int 5)) (.cons (.ifs (.cmp .ne (.call 7 (.cons (.var 6) .nil)) (.call 17 (.cons (.var 6) .nil))) (.cons (.ret (.bl false)) .nil) .nil) (.cons (.ifs (.cmp .ne (.call 8 (.cons (.var 5) (.cons (.var 6) .nil))) (.call 16 (.cons (.bi .len (.cons (.idx (.var 5) (.int 0)) .nil)) (.cons (.var 6) .nil)))) (.cons (.ret (.bl false)) .nil) .nil) (.cons (.set 6 (.call 19 (.cons (.var 4) (.cons (.var 6) .nil)))) .nil)))) .nil)) .nil)))) (.cons (.set 3 (.tup (.cons (.tup (.cons (.int 2) (.cons (.int 9) .nil))) (.cons (.tup .nil) .nil)))) (.cons (.ifs (.or (.call 7 (.cons (.tup (.cons (.tup (.cons (.int 10) .nil)) (.cons (.tup .nil) .nil))) .nil)) (.or (.call 7 (.cons (.tup (.cons (.tup (.cons (.int 1) .nil)) (.cons (.tup .nil) .nil))) .nil)) (.or (.call 7 (.cons (.tup (.cons (.bin .mul (.tup (.cons (.int 2) .nil)) (.int 6)) (.cons (.tup .nil) .nil))) .nil)) (.call 7 (.cons (.tup (.cons (.tup .nil) (.cons (.tup .nil) .nil))) .nil))))) (.cons (.ret (.bl false)) .nil) .nil) (.cons (.ifs (.or (.call 7 (.cons (.tup (.cons (.tup (.cons (.int 2) .nil)) (.cons (.bin .mul (.tup (.cons (.tup (.cons (.str "pull") (.cons (.int 0) .nil))) .nil)) (.int 9)) .nil))) .nil)) (.or (.call 8 (.cons (.var 3) (.cons (.tup (.cons (.str "pull") (.cons (.int 2) .nil))) .nil))) (.call 8 (.cons (.var 3) (.cons (.tup (.cons (.str "park") (.cons (.int 0) (.cons (.str "near") .nil)))) .nil))))) (.cons (.ret (.bl false)) .nil) .nil) (.cons (.ifs (.or (.call 8 (.cons (.var 3) (.cons (.tup (.cons (.str "leave") (.cons (.int 0) (.cons (.str "front") .nil)))) .nil))) (.or (.call 8 (.cons (.var 3) (.cons (.tup (.cons (.str "park") (.cons (.int 0) .nil))) .nil))) (.not (.call 8 (.cons (.var 3) (.cons (.tup (.cons (.str "drop") (.cons (.int 1) .nil))) .nil)))))) (.cons (.ret (.bl false)) .nil) .nil) (.cons (.ret (.and (.call 7 (.cons (.var 1) .nil)) (.call 8 (.cons (.var 3) (.cons (.tup (.cons (.str "park") (.cons (.int 1) (.cons (.str "tight") .nil)))) .nil))))) .nil))))))) }
def cs : List (Str × D) := [("RULES", (.tup [(.str "back"), (.str "front"), (.str "tight"), (.str "wide")]))]
def L : Lw := { fns := [⟨d_is_number, top 5⟩, ⟨d_is_tuple, top 6⟩, ⟨d_is_word, top 7⟩, ⟨d_is_deed_of, top 8⟩, ⟨d_are_lengths, top 9⟩, ⟨d_is_good_plan, top 10⟩, ⟨d_need_plan, top 11⟩, ⟨d_is_plan, top 12⟩, ⟨d_is_deed, top 13⟩, ⟨d__law_source, top 15⟩, ⟨d__law_draw, top 16⟩, ⟨d__law_of, top 17⟩, ⟨d__law_rule, top 18⟩, ⟨d__law_deed, top 19⟩, ⟨d__law_plan, top 20⟩, ⟨d__law_is_int, top 21⟩, ⟨d__law_is_deed, top 22⟩, ⟨d__law_is_plan, top 23⟩, ⟨d__law_odd, top 24⟩, ⟨d__law_spoilt, top 25⟩, ⟨d_law, top 26⟩], cs := cs, bls := ["abs", "all", "bool", "int", "isinstance", "len", "list", "min", "range", "str", "tuple"], fuel := 1000, XA := fun _ => 0 }
def lawI : Nat := 26
def lawF : Nat := 20
def names : List Str := ["KerbError", "InvalidPlan", "RULES", "is_number", "is_tuple", "is_word", "is_deed_of", "are_lengths", "is_good_plan", "need_plan", "is_plan", "is_deed", "_law_source", "_law_draw", "_law_of", "_law_rule", "_law_deed", "_law_plan", "_law_is_int", "_law_is_deed", "_law_is_plan", "_law_odd", "_law_spoilt"]
-- 0 is_number
-- 1 is_tuple
-- 2 is_word
-- 3 is_deed_of
-- 4 are_lengths
-- 5 is_good_plan
-- 6 need_plan
-- 7 is_plan
-- 8 is_deed
-- 9 _law_source
-- 10 _law_draw
-- 11 _law_of
-- 12 _law_rule
-- 13 _law_deed
-- 14 _law_plan
-- 15 _law_is_int
-- 16 _law_is_deed
-- 17 _law_is_plan
-- 18 _law_odd
-- 19 _law_spoilt
-- 20 law

theorem chk : L.chk = true := by decide +kernel
abbrev R : PySem.W.OpenRow := PySem.W.OpenLaw.row PySem.Challenge.rw_anykerb_k01_values_recognized
theorem run (w : World) : HandSHeadRun.RunEq R (PySem.W.view R.prog [lawI]) (L.hook 4) (L.ob 4) 40000 names w := by
  intro os
  kernel_rfl
end K01


set_option Elab.async false
set_option linter.all false
set_option maxRecDepth 100000
set_option maxHeartbeats 4000000
namespace K01
open PySem KI
theorem hn : L.tf 0 = some dc_is_number := rfl
theorem ht : L.tf 1 = some dc_is_tuple := rfl
theorem hw : L.tf 2 = some dc_is_word := rfl
theorem hd : L.tf 3 = some (dc_is_deed_of 1 0 2 0) := rfl
theorem hl : L.tf 4 = some (dc_are_lengths 1 0) := rfl
theorem hg : L.tf 5 = some (dc_is_good_plan 1 4 3) := rfl
theorem hp' : L.tf 6 = some (dc_need_plan 5) := rfl
theorem hip : L.tf 7 = some (dc_is_plan 5) := rfl
theorem hid : L.tf 8 = some (dc_is_deed 6 3) := rfl
theorem hsrc : L.tf 9 = some dc__law_source := rfl
theorem hdr : L.tf 10 = some dc__law_draw := rfl
theorem hof : L.tf 11 = some (dc__law_of 10) := rfl
theorem hru : L.tf 12 = some (dc__law_rule 11) := rfl
theorem hde : L.tf 13 = some (dc__law_deed 11 10 12) := rfl
theorem hpl : L.tf 14 = some (dc__law_plan 10 13 12) := rfl
theorem hc : L.cons 0 = .tup wdRule := rfl
section
variable {k h w n : Nat} {S : Sto}
theorem int_ok {v : D} {l m : Int} (g : gd h w v = true) : L.run (k + 1) 15 [v, .int l, .int m] S = .ok (.bl (isNum v l m)) S := by
  have hv := gd_pure h w v g
  refine run_reg (d := d__law_is_int) (S' := []) rfl rfl ⟨rfl, by decide⟩ (by simp [pureL, hv, D.pure]) ?_ rfl
  cases v with
  | int i => by_cases c : l ≤ i <;> simp [d__law_is_int, isNum, c]
  | dic _ => cases h <;> cases g
  | ro _ => cases h <;> cases g
  | cell _ => cases h <;> cases g
  | _ => simp [d__law_is_int, isNum]
theorem isWd_no {v : D} {ws : List D} (h : isTy .str v ≠ some true) : isWd v ws = false := by
  cases v with
  | str s => exact absurd rfl h
  | _ => rfl
theorem gd_ty {v : D} (g : gd h w v = true) (t : Ty) : ∃ b, isTy t v = some b := by
  cases v with
  | dic _ => cases h <;> cases g
  | ro _ => cases h <;> cases g
  | cell _ => cases h <;> cases g
  | _ => cases t <;> exact ⟨_, rfl⟩
theorem sh_moves : shpL 63 [D.str "leave", D.str "pull", D.str "drop"] = true := by decide +kernel
theorem sh_rules : shpL 63 [D.str "front", D.str "back", D.str "tight", D.str "wide"] = true := by decide +kernel
theorem ldeed_ok {v : D} {cars : Int} (g : gd h w v = true) (hh : h ≤ 62) : L.run (k + 2) 16 [.int cars, v] S = .ok (.bl (isDeed cars v)) S := by
  have hv := gd_pure h w v g
  refine run_reg (d := d__law_is_deed) (S' := []) rfl rfl ⟨rfl, by decide⟩ (by simp [pureL, hv, D.pure]) ?_ rfl
  cases v with
  | tup xs =>
    cases h with
    | zero => cases g
    | succ h =>
    obtain ⟨g1, g2⟩ := ba (show (decide (xs.length ≤ w) && gdL h w xs) = true from g)
    match xs, g2 with
    | [], g2 => simp [d__law_is_deed, isDeed]
    | [a], g2 => simp [d__law_is_deed, isDeed]
    | [a, b], g2 =>
      have ga := gdL_mem g2 a (by simp)
      have gb := gdL_mem g2 b (by simp)
      have e2 : L.run (k + 1) 15 [b, .int 0, .int (cars - 1)] [] = .ok (.bl (isNum b 0 (cars - 1))) [] := int_ok gb
      obtain ⟨t, hty⟩ := gd_ty ga .str
      cases t with
      | false => simp [d__law_is_deed, isDeed, hty, isWd_no (v := a) (by rw [hty]; simp)]
      | true =>
        cases a with
        | str s =>
          have hs : shp 64 (.str s) = true := by cases h <;> exact ga
          cases q : isNum b 0 (cars - 1) <;> simp [d__law_is_deed, isDeed, hty, e2, q, hs, sh_moves, isWd, wdMove]
        | _ => cases hty
    | [a, b, c], g2 =>
      have ga := gdL_mem g2 a (by simp)
      have gb := gdL_mem g2 b (by simp)
      have gc := gdL_mem g2 c (by simp)
      have e2 : L.run (k + 1) 15 [b, .int 0, .int (cars - 1)] [] = .ok (.bl (isNum b 0 (cars - 1))) [] := int_ok gb
      obtain ⟨t, hty⟩ := gd_ty ga .str
      cases t with
      | false => simp [d__law_is_deed, isDeed, hty, isWd_no (v := a) (by rw [hty]; simp)]
      | true =>
        cases a with
        | str s =>
          have hs : shp 64 (.str s) = true := by cases h <;> exact ga
          cases q : isNum b 0 (cars - 1) with
          | false => simp [d__law_is_deed, isDeed, hty, e2, q]
          | true =>
            obtain ⟨u, htc⟩ := gd_ty gc .str
            have ep : eqD (.str s) (.str "park") = isWd (.str s) wdPark := by
              show (s == _) = (List.any [_] _)
              simp [List.any, eqD, Bool.beq_comm, eq_comm]
            cases u with
            | false =>
              have := isWd_no (v := c) (ws := wdRule) (by rw [htc]; simp)
              cases q3 : isWd (.str s) wdPark <;> (rw [q3] at ep; simp [d__law_is_deed, isDeed, hty, e2, q, hs, htc, sh_park, ep, q3, this])
            | true =>
              cases c with
              | str t =>
                have ht : shp 64 (.str t) = true := by cases h <;> exact gc
                have er : ([D.str "front", D.str "back", D.str "tight", D.str "wide"].any fun y => eqD y (.str t)) = isWd (.str t) wdRule := by
                  simp only [isWd, wdRule, List.any_cons, List.any_nil, Bool.or_false]
                  cases eqD (.str "front") (.str t) <;> cases eqD (.str "back") (.str t) <;> cases eqD (.str "tight") (.str t) <;> cases eqD (.str "wide") (.str t) <;> rfl
                cases q3 : isWd (.str s) wdPark <;> (rw [q3] at ep; simp [d__law_is_deed, isDeed, hty, e2, q, hs, ht, sh_rules, er, sh_park, ep, q3])
              | _ => cases htc
        | _ => cases hty
    | a :: b :: c :: d :: r, g2 =>
      have e : (2 == (r.length : Int) + 1 + 1 + 1 + 1) = false := by simp; omega
      have e' : (3 == (r.length : Int) + 1 + 1 + 1 + 1) = false := by simp; omega
      simp [d__law_is_deed, isDeed, e, e']
  | dic _ => cases h <;> cases g
  | ro _ => cases h <;> cases g
  | cell _ => cases h <;> cases g
  | _ => simp [d__law_is_deed, isDeed]

/-- a list of those that are not f is empty if all are -/
theorem filt {f : D → Bool} : ∀ {xs : List D}, eqD (.lst (xs.filterMap fun x => if f x = true then none else some x)) (.lst []) = xs.all f
  | [] => rfl
  | x :: xs => by
    cases q : f x with
    | true => rw [List.filterMap_cons]; simp only [q, if_true, List.all_cons, Bool.true_and]; exact filt
    | false => rw [List.filterMap_cons]; simp [q]
theorem filt_shp {f : D → Bool} {xs : List D} {k : Nat} (h : ∀ x ∈ xs, shp k x = true) : shpL k (xs.filterMap fun x => if f x = true then none else some x) = true := by
  have : ∀ ys : List D, (∀ y ∈ ys, shp k y = true) → shpL k ys = true := by
    intro ys
    induction ys with
    | nil => intro _; simp
    | cons y ys ih => intro q; simp [q y List.mem_cons_self, ih fun z hz => q z (List.mem_cons_of_mem _ hz)]
  refine this _ fun y hy => ?_
  obtain ⟨x, hx, e⟩ := List.mem_filterMap.mp hy
  split at e
  · cases e
  · cases e; exact h _ hx
theorem lplan_ok {v : D} (g : gd h w v = true) (hh : h ≤ 62) (hw2 : w < LN) : L.run (k + 3) 17 [v] S = .ok (.bl (isPlan v)) S := by
  have hv := gd_pure h w v g
  refine run_reg (d := d__law_is_plan) (S' := []) rfl rfl ⟨rfl, by decide⟩ (by simp [pureL, hv]) ?_ rfl
  cases v with
  | tup xs =>
    cases h with
    | zero => cases g
    | succ h =>
    obtain ⟨g1, g2⟩ := ba (show (decide (xs.length ≤ w) && gdL h w xs) = true from g)
    match xs, g2 with
    | [], g2 => simp [d__law_is_plan, isPlan]
    | [a], g2 => simp [d__law_is_plan, isPlan]
    | a :: b :: c :: r, g2 =>
      have e : ((r.length : Int) + 1 + 1 + 1 == 2) = false := by simp; omega
      simp [d__law_is_plan, isPlan, e]
    | [a, b], g2 =>
      have ga := gdL_mem g2 a (by simp)
      have gb := gdL_mem g2 b (by simp)
      obtain ⟨t, hta⟩ := gd_ty ga .tuple
      cases t with
      | false =>
        have : isPlan (.tup [a, b]) = false := by
          unfold isPlan
          split
          · rename_i heq
            cases heq
            cases hta
          · rfl
        simp [d__law_is_plan, hta, this]
      | true =>
        obtain ⟨ls, rfl⟩ : ∃ ls, a = .tup ls := by cases a <;> first | exact ⟨_, rfl⟩ | cases hta
        obtain ⟨t, htb⟩ := gd_ty gb .tuple
        cases h with
        | zero => cases ga
        | succ h =>
        obtain ⟨g3, g4⟩ := ba (show (decide (ls.length ≤ w) && gdL h w ls) = true from ga)
        cases q : isTup (.tup ls) 1 5 with
        | false =>
          have : isPlan (.tup [.tup ls, b]) = false := by
            unfold isPlan
            split
            · rename_i heq
              cases heq
              simp [isLens, q]
            · rfl
          simp only [isTup] at q
          by_cases c1 : (1 : Int) ≤ ls.length
          · have c2 : ¬ (ls.length : Int) ≤ 5 := by simpa [c1] using q
            have c1' : ls.length ≠ 0 := by omega
            simp [d__law_is_plan, c1, c2, this]
          · simp [d__law_is_plan, c1, this]
        | true =>
          have c12 : (1 : Int) ≤ ls.length ∧ (ls.length : Int) ≤ 5 := by simpa [isTup] using q
          cases t with
          | false =>
            have : isPlan (.tup [.tup ls, b]) = false := by
              unfold isPlan
              split
              · rename_i heq
                cases heq
                cases htb
              · rfl
            simp [d__law_is_plan, c12.1, c12.2, htb, this]
          | true =>
            obtain ⟨ds, rfl⟩ : ∃ ds, b = .tup ds := by cases b <;> first | exact ⟨_, rfl⟩ | cases htb
            obtain ⟨g5, g6⟩ := ba (show (decide (ds.length ≤ w) && gdL h w ds) = true from gb)
            by_cases c8 : 8 < (ds.length : Int)
            · have : isPlan (.tup [.tup ls, .tup ds]) = false := by
                have : ¬ (ds.length : Int) ≤ 8 := by omega
                simp [isPlan, isTup, this]
              simp [d__law_is_plan, c12.1, c12.2, c8, this]
            · have e1 : ev L.cons (L.run (k + 2)) (.lc [1] (.nm 1) (.val (.idx (.var 0) (.int 0))) (.some (.not (.call 15 (.cons (.var 1) (.cons (.int 2) (.cons (.int 9) .nil)))))) (.var 1)) [some (.tup [.tup ls, .tup ds]), none, none] []
                  = .ok (.lst (ls.filterMap fun x => if isNum x 2 9 = true then none else some x)) [] := by
                refine lc_map (fun x => if isNum x 2 9 = true then none else some x) (xs := ls) (by simp) (fun x hx => ?_) (Nat.lt_of_le_of_lt (of_decide_eq_true g3) hw2)
                have e3 : L.run (k + 2) 15 [x, .int 2, .int 9] [] = .ok (.bl (isNum x 2 9)) [] := int_ok (gdL_mem g4 x hx)
                cases q : isNum x 2 9 <;> simp [e3, q]
              have s1 := filt_shp (f := fun x => isNum x 2 9) (k := 63) fun x hx => shp_le (by omega) (gd_shp h w x (gdL_mem g4 x hx))
              have f1 := filt (f := fun x => isNum x 2 9) (xs := ls)
              have e2 : ev L.cons (L.run (k + 2)) (.lc [2] (.nm 2) (.val (.idx (.var 0) (.int 1))) (.some (.not (.call 16 (.cons (.bi .len (.cons (.idx (.var 0) (.int 0)) .nil)) (.cons (.var 2) .nil))))) (.var 2)) [some (.tup [.tup ls, .tup ds]), none, none] []
                  = .ok (.lst (ds.filterMap fun x => if isDeed ls.length x = true then none else some x)) [] := by
                refine lc_map (fun x => if isDeed ls.length x = true then none else some x) (xs := ds) (by simp) (fun x hx => ?_) (Nat.lt_of_le_of_lt (of_decide_eq_true g5) hw2)
                have e3 : L.run (k + 2) 16 [.int ls.length, x] [] = .ok (.bl (isDeed ls.length x)) [] := ldeed_ok (gdL_mem g6 x hx) (by omega)
                cases q : isDeed ls.length x <;> simp [e3, q]
              have s2 := filt_shp (f := fun x => isDeed ls.length x) (k := 63) fun x hx => shp_le (by omega) (gd_shp h w x (gdL_mem g6 x hx))
              have f2 := filt (f := fun x => isDeed ls.length x) (xs := ds)
              rw [eqD_ll] at f1 f2
              have c9 : (ds.length : Int) ≤ 8 := by omega
              cases q3 : ls.all fun x => isNum x 2 9 <;>
                (rw [q3] at f1; simp [d__law_is_plan, c12.1, c12.2, c8, e1, s1, f1, e2, s2, f2, isPlan, isLens, isTup, q3, c9])
  | dic _ => cases h <;> cases g
  | ro _ => cases h <;> cases g
  | cell _ => cases h <;> cases g
  | _ => simp [d__law_is_plan, isPlan]
theorem odd_ok (h : Src S n) : ∃ x S', L.run (k + 3) 18 [.cell n] S = .ok x S' ∧ gd 2 5 x = true ∧ Src S' n := by
  obtain ⟨x, S', e, hx, s', ln⟩ := of_ok (k := k) hdr hof h (xs := [.non, .bl true, .bl false, .int 0, .int 1, .int 2, .int 4, .int 5, .int 9, .int 10, .int (-1), .str "", .str "park", .str "pull", .str "front", .str "near", .tup [],
    .lst [], .tup [.str "leave", .int 0], .tup [.str "park", .int 0, .str "wide"], .lst [.str "pull", .int 0], .tup [.str "drop", .int 1, .str "back"]]) (by simp) (by simp)
  refine ⟨x, S', ?_, ?_, s'⟩
  · refine run_non (d := d__law_odd) rfl rfl ⟨rfl, by decide⟩ ?_
    simp [d__law_odd, e]
  · have : gdL 2 5 [.non, .bl true, .bl false, .int 0, .int 1, .int 2, .int 4, .int 5, .int 9, .int 10, .int (-1), .str "", .str "park", .str "pull", .str "front", .str "near", .tup [],
      .lst [], .tup [.str "leave", .int 0], .tup [.str "park", .int 0, .str "wide"], .lst [.str "pull", .int 0], .tup [.str "drop", .int 1, .str "back"]] = true := by decide +kernel
    exact gdL_mem this x hx
end

theorem cut_mem {xs : List D} {lo hi : Option Int} {x : D} (h : x ∈ cut xs lo hi) : x ∈ xs := List.mem_of_mem_drop (List.mem_of_mem_take h)
theorem cut_len (xs : List D) (lo hi : Option Int) : (cut xs lo hi).length ≤ xs.length := by
  unfold cut
  rw [List.length_take, List.length_drop]
  omega
theorem gd_tup {h w : Nat} {xs : List D} (h1 : xs.length ≤ w) (h2 : ∀ x ∈ xs, gd h w x = true) : gd (h + 1) w (.tup xs) = true := by
  show (decide (xs.length ≤ w) && gdL h w xs) = true
  rw [decide_eq_true h1, gdL_of h2]
  rfl
section
variable {n : Nat}
theorem spoilt_ok : ∀ (h k : Nat) {w : Nat} {v : D} {S : Sto}, gd h w v = true → h ≤ 60 → 5 ≤ w → w ≤ 1000 → Src S n → ∃ x S', L.run (k + h + 4) 19 [.cell n, v] S = .ok x S' ∧ gd (h + 2) (2 * w + 1) x = true ∧ Src S' n
  | h, k, w, v, S, g, hh, w5, w1, src => by
    -- an odd value
    have odd : ∀ S : Sto, Src S n → ∃ x S', L.run (k + h + 3) 18 [.cell n] S = .ok x S' ∧ gd (h + 1) (2 * w + 1) x = true ∧ gd (h + 2) (2 * w + 1) x = true ∧ Src S' n ∨ (L.run (k + h + 3) 18 [.cell n] S = .ok x S' ∧ h = 0 ∧ gd (h + 2) (2 * w + 1) x = true ∧ Src S' n) := fun S s => by
      obtain ⟨x, S', e, gx, s'⟩ := odd_ok (k := k + h) s
      by_cases h0 : h = 0
      · exact ⟨x, S', .inr ⟨e, h0, gd_le x (by omega) (by omega) gx, s'⟩⟩
      · exact ⟨x, S', .inl ⟨e, gd_le x (by omega) (by omega) gx, gd_le x (by omega) (by omega) gx, s'⟩⟩
    have odd2 : ∀ S : Sto, Src S n → ∃ x S', L.run (k + h + 3) 18 [.cell n] S = .ok x S' ∧ gd (h + 2) (2 * w + 1) x = true ∧ Src S' n := fun S s => by
      obtain ⟨x, S', h1 | h1⟩ := odd S s
      · exact ⟨x, S', h1.1, h1.2.2.1, h1.2.2.2⟩
      · exact ⟨x, S', h1.1, h1.2.2.1, h1.2.2.2⟩
    cases v with
    | tup xs =>
      cases h with
      | zero => cases g
      | succ h =>
      obtain ⟨g1, g2⟩ := ba (show (decide (xs.length ≤ w) && gdL h w xs) = true from g)
      have gl : xs.length ≤ w := of_decide_eq_true g1
      have gs : shpL 63 xs = true := shpL_le (by omega) (gdL_shp h w xs g2)
      cases hx0 : xs with
      | nil =>
        obtain ⟨x, S', e, gx, s'⟩ := odd2 S src
        refine ⟨x, S', ?_, gx, s'⟩
        refine run_non (d := d__law_spoilt) rfl rfl ⟨rfl, by decide⟩ ?_
        simp [d__law_spoilt, e]
      | cons x0 xr =>
      rw [← hx0]
      have xne : eqD (.tup xs) (.tup []) = false := by rw [hx0]; rfl
      rw [eqD_tt] at xne
      have xl : 0 < xs.length := by rw [hx0]; simp
      obtain ⟨d, S1, e1, d0, d1, s1, _⟩ := draw_ok (k := k + (h + 1) + 2) hdr src (m := 6) (by omega) (by omega)
      by_cases hd0 : d = 0
      · obtain ⟨x, S', e, gx, s'⟩ := odd2 S1 s1
        refine ⟨x, S', ?_, gx, s'⟩
        refine run_non (d := d__law_spoilt) rfl rfl ⟨rfl, by decide⟩ ?_
        simp [d__law_spoilt, gs, xne, e1, hd0, e]
      · have hd0' : (d == 0) = false := by simpa using hd0
        obtain ⟨r, S2, e2, r0, r1, s2, _⟩ := draw_ok (k := k + (h + 1) + 2) hdr s1 (m := xs.length) (by omega) (by omega)
        obtain ⟨m, S3, e3, m0, m1, s3, _⟩ := draw_ok (k := k + (h + 1) + 2) hdr s2 (m := 9) (by omega) (by omega)
        obtain ⟨j, rfl⟩ := Int.eq_ofNat_of_zero_le r0
        have hj : j < xs.length := by omega
        have gy := gdL_mem g2 _ (List.getElem_mem hj)
        have c0 := fun lo hi => cut_len xs lo hi
        have cg : ∀ lo hi, ∀ x ∈ cut xs lo hi, gd (h + 2) (2 * w + 1) x = true := fun lo hi x hx => gd_le x (by omega) (by omega) (gdL_mem g2 x (cut_mem hx))
        -- two pieces, something between
        have two : ∀ a b c e : Option Int, (cut xs a b).length + (cut xs c e).length ≤ 16777216 := fun a b c e => by have := c0 a b; have := c0 c e; omega
        have one : ∀ a b : Option Int, (cut xs a b).length + 1 ≤ 16777216 := fun a b => by have := c0 a b; omega
        have three : ∀ a b c e : Option Int, (cut xs a b).length + 1 + (cut xs c e).length ≤ 16777216 := fun a b c e => by have := c0 a b; have := c0 c e; omega
        have three' : ∀ a b c e : Option Int, (cut xs a b).length + ((cut xs c e).length + 1) ≤ 16777216 := fun a b c e => by have := c0 a b; have := c0 c e; omega
        have gtwo : ∀ a b c e : Option Int, gd (h + 1 + 2) (2 * w + 1) (.tup (cut xs a b ++ cut xs c e)) = true := fun a b c e => gd_tup (by rw [List.length_append]; have := c0 a b; have := c0 c e; omega) fun x hx => by
          rcases List.mem_append.mp hx with hx | hx
          · exact cg _ _ x hx
          · exact cg _ _ x hx
        have gthree : ∀ (a b c e : Option Int) (z : D), gd (h + 2) (2 * w + 1) z = true → gd (h + 1 + 2) (2 * w + 1) (.tup (cut xs a b ++ z :: cut xs c e)) = true := fun a b c e z hz => gd_tup (by rw [List.length_append, List.length_cons]; have := c0 a b; have := c0 c e; omega) fun x hx => by
          rcases List.mem_append.mp hx with hx | hx
          · exact cg _ _ x hx
          · rcases List.mem_cons.mp hx with e | hx
            · rw [e]; exact hz
            · exact cg _ _ x hx
        by_cases q0 : m = 0
        · subst q0
          refine ⟨_, S3, ?_, gtwo none (some j) (some (j + 1)) none, s3⟩
          refine run_non (d := d__law_spoilt) rfl rfl ⟨rfl, by decide⟩ ?_
          simp [d__law_spoilt, gs, xne, e1, hd0', e2, e3, two]
        by_cases q1 : m = 1
        · subst q1
          refine ⟨_, S3, ?_, gtwo none (some (j + 1)) (some j) none, s3⟩
          refine run_non (d := d__law_spoilt) rfl rfl ⟨rfl, by decide⟩ ?_
          simp [d__law_spoilt, gs, xne, e1, hd0', e2, e3, two]
        have q0' : (m == 0) = false := by simpa using q0
        have q1' : (m == 1) = false := by simpa using q1
        by_cases q2 : m = 2
        · subst q2
          obtain ⟨z, S4, hz⟩ := odd S3 s3
          have hz : L.run (k + (h + 1) + 3) 18 [.cell n] S3 = .ok z S4 ∧ gd (h + 2) (2 * w + 1) z = true ∧ Src S4 n := by
            rcases hz with hz | hz
            · exact ⟨hz.1, hz.2.1, hz.2.2.2⟩
            · exact absurd hz.2.1 (by omega)
          refine ⟨_, S4, ?_, gthree none (some j) (some j) none z hz.2.1, hz.2.2⟩
          refine run_non (d := d__law_spoilt) rfl rfl ⟨rfl, by decide⟩ ?_
          simp [d__law_spoilt, gs, xne, e1, hd0', e2, e3, hz.1, one, three, three']
        have q2' : (m == 2) = false := by simpa using q2
        by_cases q3 : m = 3
        · subst q3
          refine ⟨.lst xs, S3, ?_, ?_, s3⟩
          · refine run_non (d := d__law_spoilt) rfl rfl ⟨rfl, by decide⟩ ?_
            simp [d__law_spoilt, gs, xne, e1, hd0', e2, e3]
          · show (decide (xs.length ≤ 2 * w + 1) && gdL (h + 2) (2 * w + 1) xs) = true
            rw [decide_eq_true (show xs.length ≤ 2 * w + 1 by omega), gdL_le xs (by omega) (by omega) g2]
            rfl
        have q3' : (m == 3) = false := by simpa using q3
        -- the item at j
        have deep : (isTy .int xs[j] = some true → ¬ m < 6) → ∃ x S', L.run (k + (h + 1) + 4) 19 [.cell n, .tup xs] S = .ok x S' ∧ gd (h + 1 + 2) (2 * w + 1) x = true ∧ Src S' n := fun hq => by
          obtain ⟨z, S4, e4, gz, s4⟩ := spoilt_ok h k gy (by omega) w5 w1 s3
          have e4 : L.run (k + (h + 1) + 3) 19 [.cell n, xs[j]] S3 = .ok z S4 := by rw [show k + (h + 1) + 3 = k + h + 4 by omega]; exact e4
          refine ⟨_, S4, ?_, gthree none (some j) (some (j + 1)) none z gz, s4⟩
          refine run_non (d := d__law_spoilt) rfl rfl ⟨rfl, by decide⟩ ?_
          obtain ⟨b, hb⟩ := gd_ty gy .int
          cases b with
          | false => simp [d__law_spoilt, gs, xne, e1, hd0', e2, e3, q0', q1', q2', q3', atI_nat, hj, hb, e4, one, three, three']
          | true =>
            have q6 : ¬ m < 6 := hq hb
            simp [d__law_spoilt, gs, xne, e1, hd0', e2, e3, q0', q1', q2', q3', atI_nat, hj, hb, q6, e4, one, three, three']
        by_cases q6 : m < 6
        · obtain ⟨u, S4, e4, u0, u1, s4, _⟩ := draw_ok (k := k + (h + 1) + 2) hdr s3 (m := 3) (by omega) (by omega)
          cases hy : xs[j] with
          | int i =>
            refine ⟨_, S4, ?_, gthree none (some j) (some (j + 1)) none (.int (i + u - 1)) rfl, s4⟩
            refine run_non (d := d__law_spoilt) rfl rfl ⟨rfl, by decide⟩ ?_
            simp [d__law_spoilt, gs, xne, e1, hd0', e2, e3, q0', q1', q2', q3', atI_nat, hj, hy, q6, e4, one, three, three']
          | bl i =>
            refine ⟨_, S4, ?_, gthree none (some j) (some (j + 1)) none (.int ((if i = true then (1 : Int) else 0) + u - 1)) rfl, s4⟩
            refine run_non (d := d__law_spoilt) rfl rfl ⟨rfl, by decide⟩ ?_
            simp [d__law_spoilt, gs, xne, e1, hd0', e2, e3, q0', q1', q2', q3', atI_nat, hj, hy, q6, e4, one, three, three']
          | non => exact deep fun h => by rw [hy] at h; cases h
          | str _ => exact deep fun h => by rw [hy] at h; cases h
          | tup _ => exact deep fun h => by rw [hy] at h; cases h
          | lst _ => exact deep fun h => by rw [hy] at h; cases h
          | dic _ => exact deep fun h => by rw [hy] at h; cases h
          | ro _ => exact deep fun h => by rw [hy] at h; cases h
          | cell _ => exact deep fun h => by rw [hy] at h; cases h
        · exact deep fun _ => q6
    | dic _ => cases h <;> cases g
    | ro _ => cases h <;> cases g
    | cell _ => cases h <;> cases g
    | non | bl _ | int _ | str _ | lst _ =>
      obtain ⟨x, S', e, gx, s'⟩ := odd2 S src
      refine ⟨x, S', ?_, gx, s'⟩
      refine run_non (d := d__law_spoilt) rfl rfl ⟨rfl, by decide⟩ ?_
      simp [d__law_spoilt, e]
termination_by h => h
end

abbrev bK : Sxs := (.cons (.set 4 (.call 9 (.cons (.var 0) (.cons (.var 2) .nil)))) (.cons (.set 5 (.call 14 (.cons (.var 4) (.cons (.int 8) .nil)))) (.cons (.for_ (.nm 6) (.val (.lst (.cons (.var 5) (.cons (.var 5) (.cons (.call 13 (.cons (.var 4) (.cons (.bi .len (.cons (.idx (.var 5) (.int 0)) .nil)) .nil))) (.cons (.var 1) .nil)))))) (.cons (.for_ (.nm 7) (.rng1 (.int 5)) (.cons (.ifs (.cmp .ne (.call 7 (.cons (.var 6) .nil)) (.call 17 (.cons (.var 6) .nil))) (.cons (.ret (.bl false)) .nil) .nil) (.cons (.ifs (.cmp .ne (.call 8 (.cons (.var 5) (.cons (.var 6) .nil))) (.call 16 (.cons (.bi .len (.cons (.idx (.var 5) (.int 0)) .nil)) (.cons (.var 6) .nil)))) (.cons (.ret (.bl false)) .nil) .nil) (.cons (.set 6 (.call 19 (.cons (.var 4) (.cons (.var 6) .nil)))) .nil)))) .nil)) .nil)))
abbrev bV : Sxs := (.cons (.for_ (.nm 7) (.rng1 (.int 5)) (.cons (.ifs (.cmp .ne (.call 7 (.cons (.var 6) .nil)) (.call 17 (.cons (.var 6) .nil))) (.cons (.ret (.bl false)) .nil) .nil) (.cons (.ifs (.cmp .ne (.call 8 (.cons (.var 5) (.cons (.var 6) .nil))) (.call 16 (.cons (.bi .len (.cons (.idx (.var 5) (.int 0)) .nil)) (.cons (.var 6) .nil)))) (.cons (.ret (.bl false)) .nil) .nil) (.cons (.set 6 (.call 19 (.cons (.var 4) (.cons (.var 6) .nil)))) .nil)))) .nil)
abbrev bT : Sxs := (.cons (.ifs (.cmp .ne (.call 7 (.cons (.var 6) .nil)) (.call 17 (.cons (.var 6) .nil))) (.cons (.ret (.bl false)) .nil) .nil) (.cons (.ifs (.cmp .ne (.call 8 (.cons (.var 5) (.cons (.var 6) .nil))) (.call 16 (.cons (.bi .len (.cons (.idx (.var 5) (.int 0)) .nil)) (.cons (.var 6) .nil)))) (.cons (.ret (.bl false)) .nil) .nil) (.cons (.set 6 (.call 19 (.cons (.var 4) (.cons (.var 6) .nil)))) .nil)))
def W : Nat → Nat
  | 0 => 8
  | n + 1 => 2 * W n + 1
abbrev most0 : D := .tup [.tup (List.replicate 5 (.int 9)), .tup (List.replicate 8 (.tup [.str "park", .int 4, .str "back"]))]
theorem most_gd : gd 3 8 most0 = true := by decide +kernel
section
variable {n : Nat}
theorem turn_ok {ns : D} {k : Option D} {p : D} (hp : DrawnPlan 8 p) {v : D} {t : Option D} {S : Sto} (g : gd 3 8 v = true) (src : Src S n) :
    ∃ v' t' S', evFor (.nm 7) (exss L.cons (L.run 59) L.fuel bT) (rngL 0 5) [some ns, some most0, k, none, some (.cell n), some p, some v, t] S = .nx [some ns, some most0, k, none, some (.cell n), some p, v', t'] S' ∧ Src S' n := by
  obtain ⟨ρ, S', e, v', t', rfl, _, s'⟩ := evFor_ix (tg := .nm 7) (body := exss L.cons (L.run 59) L.fuel bT) (xs := rngL 0 5)
    (fun i ρ S => ∃ (v : D) (t : Option D), ρ = [some ns, some most0, k, none, some (.cell n), some p, some v, t] ∧ gd (3 + 2 * i) (W i) v = true ∧ Src S n)
    (fun i x hx ρ S ⟨v, t, q1, q2, q3⟩ => by
      obtain ⟨rfl, hi⟩ := rngL_int hx
      subst q1
      have wi : 5 ≤ W i ∧ W i ≤ 1000 := by
        have : i = 0 ∨ i = 1 ∨ i = 2 ∨ i = 3 ∨ i = 4 := by omega
        rcases this with h | h | h | h | h <;> subst h <;> decide
      have wl : W i < LN := by simp only [LN]; omega
      have gp := hp.gd (by decide)
      have hpl := hp.plan (by decide)
      obtain ⟨ls, ds, ep, _⟩ := hp.form
      have e1 : L.run 59 7 [v] S = .ok (.bl (isPlan v)) S := plan_ok (k := 55) hn ht hw hc hd hl hg hip q2 wl
      have e2 : L.run 59 17 [v] S = .ok (.bl (isPlan v)) S := lplan_ok (k := 56) q2 (by omega) wl
      have e3 : L.run 59 8 [p, v] S = .ok (.bl (isDeed (carsOf p) v)) S := isDeed_ok (k := 54) hn ht hw hc hd hl hg hp' hid (gd_le (h := 3) (k := 3 + 2 * i) (w := 8) (v := W i) p (by omega) (by
        have : i = 0 ∨ i = 1 ∨ i = 2 ∨ i = 3 ∨ i = 4 := by omega
        rcases this with h | h | h | h | h <;> subst h <;> decide) gp) q2 wl hpl
      have ec : carsOf p = ls.length := by rw [ep]; simp [carsOf]
      have e4 : L.run 59 16 [.int ls.length, v] S = .ok (.bl (isDeed (carsOf p) v)) S := by rw [ec]; exact ldeed_ok (k := 57) q2 (by omega)
      obtain ⟨z, S2, e5, gz, s2⟩ := spoilt_ok (n := n) (3 + 2 * i) (59 - 4 - (3 + 2 * i)) q2 (by omega) wi.1 wi.2 q3
      have e5 : L.run 59 19 [.cell n, v] S = .ok z S2 := by rw [show (59 : Nat) = 59 - 4 - (3 + 2 * i) + (3 + 2 * i) + 4 by omega]; exact e5
      refine ⟨_, rfl, [some ns, some most0, k, none, some (.cell n), some p, some z, some (.int (0 + i))], S2, ?_, z, _, rfl, ?_, s2⟩
      · rw [ep] at e3 ⊢
        simp [e1, e2, e3, e4, e5]
        simp [← ep, e4, e5]
      · rw [show 3 + 2 * (i + 1) = 3 + 2 * i + 2 by omega]
        exact gz) (ρ := [some ns, some most0, k, none, some (.cell n), some p, some v, t]) (S := S) ⟨v, t, rfl, g, src⟩
  exact ⟨some v', t', S', e, s'⟩
theorem vals_ok {ns : D} {k : Option D} {p : D} (hp : DrawnPlan 8 p) {xs : List D} (hx : ∀ x ∈ xs, gd 3 8 x = true) {v t : Option D} {S : Sto} (src : Src S n) :
    ∃ v' t' S', evFor (.nm 6) (exss L.cons (L.run 59) L.fuel bV) xs [some ns, some most0, k, none, some (.cell n), some p, v, t] S = .nx [some ns, some most0, k, none, some (.cell n), some p, v', t'] S' ∧ Src S' n := by
  obtain ⟨ρ, S', e, v', t', rfl, s'⟩ := evFor_inv (tg := .nm 6) (body := exss L.cons (L.run 59) L.fuel bV) (xs := xs)
    (fun ρ S => ∃ (v t : Option D), ρ = [some ns, some most0, k, none, some (.cell n), some p, v, t] ∧ Src S n)
    (fun x hx' ρ S ⟨v, t, q1, q3⟩ => by
      subst q1
      obtain ⟨v', t', S', e, s'⟩ := turn_ok (ns := ns) (k := k) hp (v := x) (t := t) (hx x hx') q3
      refine ⟨_, rfl, _, S', ?_, v', t', rfl, s'⟩
      have g5 : rngOk 5 = true := by decide
      simp only [bT] at e
      simp [g5, e]) (ρ := [some ns, some most0, k, none, some (.cell n), some p, v, t]) (S := S) ⟨v, t, rfl, src⟩
  exact ⟨v', t', S', e, s'⟩
end
theorem outer_ok {ns : List Int} {m : Nat} :
    ∃ k a b c d S', evFor (.nm 2) (exss L.cons (L.run 59) L.fuel bK) (rngL 0 m) [some (.ro (ns.map .int)), some most0, none, none, none, none, none, none] [] = .nx [some (.ro (ns.map .int)), some most0, k, none, a, b, c, d] S' := by
  obtain ⟨ρ, S', e, k, a, b, c, d, rfl⟩ := evFor_ix (tg := .nm 2) (body := exss L.cons (L.run 59) L.fuel bK) (xs := rngL 0 m)
    (fun i ρ S => ∃ (k a b c d : Option D), ρ = [some (.ro (ns.map .int)), some most0, k, none, a, b, c, d])
    (fun i x hx ρ S ⟨k, a, b, c, d, q1⟩ => by
      obtain ⟨rfl, hi⟩ := rngL_int hx
      subst q1
      obtain ⟨S1, e1, s1, _⟩ := source_ok (k := 58) (S := S) hsrc (ns := ns) (j := i)
      obtain ⟨p, S2, e2, hp, s2, _⟩ := plang_ok (k := 54) hdr hof hru hde hpl s1 (most := 8) (by omega) (by omega)
      obtain ⟨ls, ds, ep, l0, l1, _⟩ := hp.form
      obtain ⟨dd, S3, e3, hdd, s3, _⟩ := deedg_ok (k := 55) hdr hof hru hde s2 (cars := ls.length) (by omega) (by omega)
      obtain ⟨v', t', S4, e4, s4⟩ := vals_ok (ns := .ro (ns.map .int)) (k := some (.int (0 + i))) hp (xs := [p, p, dd, most0]) (by
        have gp := hp.gd (by decide)
        have gdd := gd_le (h := 1) (k := 3) (w := 3) (v := 8) dd (by omega) (by omega) hdd.gd
        intro x hx
        simp only [List.mem_cons, List.not_mem_nil, or_false] at hx
        rcases hx with h | h | h | h <;> rw [h]
        · exact gp
        · exact gp
        · exact gdd
        · exact most_gd) (v := c) (t := d) s3
      refine ⟨_, rfl, [some (.ro (ns.map .int)), some most0, some (.int i), none, some (.cell S.length), some p, v', t'], S4, ?_, _, _, _, _, _, rfl⟩
      rw [Int.zero_add] at e4
      simp only [bV] at e4
      rw [ep] at e2 e4 ⊢
      simp [e1, e2, e3, e4]) (ρ := [some (.ro (ns.map .int)), some most0, none, none, none, none, none, none]) (S := []) ⟨none, none, none, none, none, rfl⟩
  exact ⟨k, a, b, c, d, S', e⟩

abbrev bE : Sxs := (.cons (.set 3 (.tup (.cons (.tup (.cons (.int 2) (.cons (.int 9) .nil))) (.cons (.tup .nil) .nil)))) (.cons (.ifs (.or (.call 7 (.cons (.tup (.cons (.tup (.cons (.int 10) .nil)) (.cons (.tup .nil) .nil))) .nil)) (.or (.call 7 (.cons (.tup (.cons (.tup (.cons (.int 1) .nil)) (.cons (.tup .nil) .nil))) .nil)) (.or (.call 7 (.cons (.tup (.cons (.bin .mul (.tup (.cons (.int 2) .nil)) (.int 6)) (.cons (.tup .nil) .nil))) .nil)) (.call 7 (.cons (.tup (.cons (.tup .nil) (.cons (.tup .nil) .nil))) .nil))))) (.cons (.ret (.bl false)) .nil) .nil) (.cons (.ifs (.or (.call 7 (.cons (.tup (.cons (.tup (.cons (.int 2) .nil)) (.cons (.bin .mul (.tup (.cons (.tup (.cons (.str "pull") (.cons (.int 0) .nil))) .nil)) (.int 9)) .nil))) .nil)) (.or (.call 8 (.cons (.var 3) (.cons (.tup (.cons (.str "pull") (.cons (.int 2) .nil))) .nil))) (.call 8 (.cons (.var 3) (.cons (.tup (.cons (.str "park") (.cons (.int 0) (.cons (.str "near") .nil)))) .nil))))) (.cons (.ret (.bl false)) .nil) .nil) (.cons (.ifs (.or (.call 8 (.cons (.var 3) (.cons (.tup (.cons (.str "leave") (.cons (.int 0) (.cons (.str "front") .nil)))) .nil))) (.or (.call 8 (.cons (.var 3) (.cons (.tup (.cons (.str "park") (.cons (.int 0) .nil))) .nil))) (.not (.call 8 (.cons (.var 3) (.cons (.tup (.cons (.str "drop") (.cons (.int 1) .nil))) .nil)))))) (.cons (.ret (.bl false)) .nil) .nil) (.cons (.ret (.and (.call 7 (.cons (.var 1) .nil)) (.call 8 (.cons (.var 3) (.cons (.tup (.cons (.str "park") (.cons (.int 1) (.cons (.str "tight") .nil)))) .nil))))) .nil)))))
theorem tail_ok (ns k a b c d : Option D) (S : Sto) : exss L.cons (L.run 59) L.fuel bE [ns, some most0, k, none, a, b, c, d] S = .rt (.bl true) S := by
  kernel_rfl
theorem good : L.Good 60 lawF 63 := by
  intro ns hns
  obtain ⟨k, a, b, c, d, S', e⟩ := outer_ok (ns := ns) (m := ((1 : Int) + (if (10 : Int) < ns.length then (10 : Int) else (ns.length : Int))).toNat)
  have e2 := tail_ok (some (.ro (ns.map .int))) k a b c d S'
  refine ⟨S', run_non (d := d_law) rfl rfl ⟨rfl, by decide⟩ ?_⟩
  have g1 : rngOk ((1 : Int) + (if (10 : Int) < ns.length then (10 : Int) else (ns.length : Int))) = true := by
    split
    · decide
    · exact decide_eq_true ⟨by omega, by omega⟩
  have m1 : exs L.cons (L.run 59) L.fuel (.set 1 (.tup (.cons (.bin .mul (.tup (.cons (.int 9) .nil)) (.int 5)) (.cons (.bin .mul (.tup (.cons (.tup (.cons (.str "park") (.cons (.int 4) (.cons (.str "back") .nil)))) .nil)) (.int 8)) .nil)))) [some (.ro (ns.map .int)), none, none, none, none, none, none, none] [] = .nx [some (.ro (ns.map .int)), some most0, none, none, none, none, none, none] [] := by
    kernel_rfl
  show exss L.cons (L.run 59) L.fuel (.cons _ (.cons (.for_ _ _ bK) bE)) [some (.ro (ns.map .int)), none, none, none, none, none, none, none] [] = _
  rw [exss_cons]
  rw [m1]
  show (exs L.cons (L.run 59) L.fuel (.for_ (.nm 2) (.rng1 (.bin .add (.int 1) (.bi .min2 (.cons (.bi .len (.cons (.var 0) .nil)) (.cons (.int 10) .nil))))) bK) [some (.ro (ns.map .int)), some most0, none, none, none, none, none, none] []).then (fun ρ S => exss L.cons (L.run 59) L.fuel bE ρ S) = _
  have m2 : exs L.cons (L.run 59) L.fuel (.for_ (.nm 2) (.rng1 (.bin .add (.int 1) (.bi .min2 (.cons (.bi .len (.cons (.var 0) .nil)) (.cons (.int 10) .nil))))) bK) [some (.ro (ns.map .int)), some most0, none, none, none, none, none, none] [] = .nx [some (.ro (ns.map .int)), some most0, k, none, a, b, c, d] S' := by
    rw [← e]
    simp only [bK]
    simp [g1]
  rw [m2]
  exact e2
end K01


set_option Elab.async false
set_option linter.all false
set_option maxRecDepth 100000
set_option maxHeartbeats 0
namespace K01
open PySem PySem.Spec PyProof.Rows L2 KI
end K01
open PySem PySem.W PySem.Calls PyProof.Rows
theorem PySem.Challenge.cw_anykerb_k01_values_recognized_holds : PySem.Challenge.rw_anykerb_k01_values_recognized.Holds := by
  w_on; o_law
  refine HandSHeadRun.head_any (r := OpenLaw.row PySem.Challenge.rw_anykerb_k01_values_recognized) (q := view (OpenLaw.row PySem.Challenge.rw_anykerb_k01_values_recognized).prog [K01.lawI]) (H := K01.L.hook 4) (ob := K01.L.ob 4) (M := 40000) (loose := K01.names) (d := HandSHeadRun.topDef (OpenLaw.row PySem.Challenge.rw_anykerb_k01_values_recognized).prog K01.lawI) (kwd := []) (K01.L.ob_eq 4)
    (by kernel_rfl) (fun s => by kernel_rfl) K01.run (by kernel_rfl) (by kernel_rfl) (by kernel_rfl) (by rfl) (by first | assumption | decide +kernel) (by decide +kernel) ⟨rfl, rfl, rfl, rfl, rfl, by decide +kernel⟩ ?hw ?hc
  case hw => w_witness2
  case hc =>
    refine L2.walk_ofE (l := PySem.Challenge.rw_anykerb_k01_values_recognized) (n := 63) (k := 60) (x := "script") (CX := KI.CXe (PySem.Challenge.rw_anykerb_k01_values_recognized).prog) rfl (by decide) (by kernel_rfl) ⟨rfl, by decide, by decide⟩ ?F (fun _ _ _ _ z => by
      obtain ⟨_, _, _, _, _, _, _, _, _, _, _, _, _, z⟩ := z
      exact z)
    intro w mg fa h Y G hmg0
    obtain ⟨K, KX, c⟩ := Y
    have hmg : mg (K01.d_law.name) = some (.ref fa) := by
      have e : (HandSHeadRun.topDef (OpenLaw.row PySem.Challenge.rw_anykerb_k01_values_recognized).prog K01.lawI).name = K01.d_law.name := by kernel_rfl
      rw [← e]
      exact hmg0
    obtain ⟨fd, sp, hb, hsp, hF⟩ := KI.Lw.law (P := (PySem.Challenge.rw_anykerb_k01_values_recognized).prog) (w := w) (li := K01.lawF) (x := "script") (e := ⟨K01.d_law, K01.top K01.lawI⟩) K01.chk KX G c rfl rfl hmg K01.good
    exact ⟨K, fd, sp, KX, hb, hsp, hF⟩

